import PyProof.Rows.All
import Wide.All
import OpenK.AllK
import Wide.FinOn
import PySem.Challenge.RW_np0052_01
open PySem PySem.W PyProof.Rows
open PySem.Str (ofString)
set_option Elab.async false
set_option compiler.extract_closed false
set_option linter.unusedVariables false
set_option linter.unusedSimpArgs false
set_option maxRecDepth 100000
set_option maxHeartbeats 8000000
namespace Mine
section
local macro_rules | `(tactic| o_head $_) => `(tactic| contradiction)
theorem hd (f : False) : PySem.Challenge.rw_np0052_01.Holds := by
  refine holds_law f.elim fun _ => ?_
  k_head
end
theorem with_row {P : Prop} (h : PySem.Challenge.rw_np0052_01.row.prog = PySem.Challenge.rw_np0052_01.row.prog → P) : P := h rfl
theorem kq.tw357486453476387696 : True := trivial
theorem kq.tw3064161073002809673 : True := trivial
theorem kq.tw11640684591233886235 : True := trivial
set_option Elab.async true in
theorem kq (w : World) : ∃ o, (hd.heap_1 w.params).lookup 448 = some o := by
  refine with_row ?_
  k_fill
  intro _
  exact ⟨_, by k_is⟩
end Mine
open PySem.Calls
namespace Mine
section
theorem dp0 {d k l : Nat} (h : d + k < l) : d < l := Nat.lt_of_le_of_lt (Nat.le_add_right _ _) h
theorem dpS {d k l : Nat} (h : d + (k + 1) < l) : d + 1 + k < l := by rw [Nat.add_right_comm]; exact h
theorem unS {u k l : Nat} (h : u + 8 * (k + 1) < l) : u + 3 + 8 * k + 4 < l := by omega
theorem u64 {u l : Nat} (h : u + 300 < l) : u + 64 < l := Nat.lt_of_le_of_lt (Nat.add_le_add_left (by decide) u) h
theorem sz_fit {n k : Nat} (h : n ≤ k) (hk : k ≤ sizeLine) : n ≤ sizeLine := Nat.le_trans h hk
theorem sz_nil {α : Type} : ([] : List α).length ≤ 0 := Nat.le_refl 0
theorem sz_cons {α : Type} {x : α} {l : List α} {n : Nat} (h : l.length ≤ n) : (x :: l).length ≤ n + 1 := Nat.succ_le_succ h
theorem sz_cut {x : Str} {a b : Option Int} {n : Nat} (h : x.length ≤ n) : (Txt.slice x a b).length ≤ n := Nat.le_trans (Txt.slice_le x a b) h
theorem sz_app {x y : Str} {a b : Nat} (h : x.length ≤ a) (h' : y.length ≤ b) : (x ++ y).length ≤ a + b := Str.length_append x y ▸ Nat.add_le_add h h'
theorem i1 (j : Nat) : ((j + 1 : Nat) : Int) - 1 = (j : Int) := Int.add_sub_cancel (j : Int) 1
theorem nneg (n : Nat) : ¬ (n : Int) < 0 := Int.not_lt.mpr (Int.natCast_nonneg n)
theorem i3 (a b : Int) : a + b - a = b := by rw [Int.add_comm, Int.add_sub_cancel]
theorem nsub {n i d : Nat} (h : n - i = d + 1) : n - (i + 1) = d := congrArg Nat.pred h
theorem pos_succ {m : Int} (h : 0 < m) : ∃ k : Nat, m = ((k + 1 : Nat) : Int) := Int.eq_succ_of_zero_lt h
theorem neg_succ {m : Int} (h : ¬ 0 < m) (h0 : m ≠ 0) : ∃ k : Nat, m = -((k + 1 : Nat) : Int) := match m, h, h0 with
  | .ofNat 0, _, h0 => absurd rfl h0
  | .ofNat (n + 1), h, _ => absurd (Int.ofNat_lt.mpr (Nat.succ_pos n)) h
  | .negSucc n, _, _ => ⟨n, rfl⟩
theorem tn (f : Int) (i : Nat) : (f + (i : Int) - f).toNat = i := by rw [i3]; rfl
theorem lt_off {f : Int} {a n : Nat} : f + (a : Int) < f + (n : Int) ↔ a < n := ⟨fun h => Int.ofNat_lt.mp (Int.lt_of_add_lt_add_left h), fun h => Int.add_lt_add_left (Int.ofNat_lt.mpr h) f⟩
theorem ps {f : Int} {n : Nat} (h : f < f + (n : Int)) : ∃ m, n = m + 1 := match n, h with
  | 0, h => absurd (show f < f from Eq.mp (congrArg (f < ·) (Int.add_zero f)) h) (Int.lt_irrefl f)
  | m + 1, _ => ⟨m, rfl⟩
theorem ps0 {f : Int} {n : Nat} (h : ¬ f < f + (n : Int)) : n = 0 := Nat.eq_zero_of_not_pos fun q => h (Int.lt_add_of_pos_right f (Int.ofNat_lt.mpr q))
theorem fp (f : Int) (k : Nat) : f + ((k + 1 : Nat) : Int) - 1 = f + (k : Int) := by
  show f + ((k : Int) + 1) - 1 = _
  rw [← Int.add_assoc, Int.add_sub_cancel]
theorem fs (f : Int) (k : Nat) : f + (k : Int) + 1 = f + ((k + 1 : Nat) : Int) := Int.add_assoc f k 1
theorem from_nat {f p : Int} (h : f ≤ p) : p = f + ((p - f).toNat : Int) := by rw [Int.toNat_of_nonneg (Int.sub_nonneg.mpr h), Int.add_comm, Int.sub_add_cancel]
theorem to_le {f p : Int} {n : Nat} (h : p ≤ f + (n : Int)) : (p - f).toNat ≤ n := Int.toNat_le.mpr (Int.sub_left_le_of_le_add h)
theorem ng (n : Nat) : -((n + 1 : Nat) : Int) + 1 = -(n : Int) := by
  show -((n : Int) + 1) + 1 = _
  rw [Int.neg_add, Int.neg_add_cancel_right]
theorem np {n : Nat} (h : -(n : Int) < 0) : ∃ m, n = m + 1 := match n, h with
  | 0, h => absurd h (by decide)
  | n + 1, _ => ⟨n, rfl⟩
theorem nz {n : Nat} (h : ¬ -(n : Int) < 0) : n = 0 := match n, h with
  | 0, _ => rfl
  | n + 1, h => absurd (Int.negSucc_lt_zero n) h
theorem pn {n : Nat} (h : 0 < (n : Int)) : ∃ m, n = m + 1 := Nat.exists_eq_add_one.mpr (Int.ofNat_lt.mp h)
theorem pz {n : Nat} (h : ¬ 0 < (n : Int)) : n = 0 := Nat.eq_zero_of_not_pos fun q => h (Int.ofNat_lt.mpr q)
theorem mm {a b n : Nat} (ha : a ≤ n) (hb : b ≤ n) (h : b ≠ a) : (0 : Int) ≤ ((min a b : Nat) : Int) ∧ ((min a b : Nat) : Int) < ((max a b : Nat) : Int) ∧ ((max a b : Nat) : Int) ≤ (n : Int) := by
  rcases Nat.lt_or_ge a b with q | q
  · rw [Nat.min_eq_left (Nat.le_of_lt q), Nat.max_eq_right (Nat.le_of_lt q)]
    exact ⟨Int.natCast_nonneg _, Int.ofNat_lt.mpr q, Int.ofNat_le.mpr hb⟩
  · rw [Nat.min_eq_right q, Nat.max_eq_left q]
    exact ⟨Int.natCast_nonneg _, Int.ofNat_lt.mpr (Nat.lt_of_le_of_ne q h), Int.ofNat_le.mpr ha⟩
theorem genP {P : Prop} (h : ∀ C : Prop, (P → C) → C) : P := h P id
theorem ex_0_3 {P1 P2 P3 : Prop} {C : Prop} (h : P1 ∧ P2 ∧ P3) (k : P1 → P2 → P3 → C) : C := k h.1 h.2.1 h.2.2
theorem ex_0_4 {P1 P2 P3 P4 : Prop} {C : Prop} (h : P1 ∧ P2 ∧ P3 ∧ P4) (k : P1 → P2 → P3 → P4 → C) : C := k h.1 h.2.1 h.2.2.1 h.2.2.2
theorem ex_0_5 {P1 P2 P3 P4 P5 : Prop} {C : Prop} (h : P1 ∧ P2 ∧ P3 ∧ P4 ∧ P5) (k : P1 → P2 → P3 → P4 → P5 → C) : C := k h.1 h.2.1 h.2.2.1 h.2.2.2.1 h.2.2.2.2
theorem ex_0_6 {P1 P2 P3 P4 P5 P6 : Prop} {C : Prop} (h : P1 ∧ P2 ∧ P3 ∧ P4 ∧ P5 ∧ P6) (k : P1 → P2 → P3 → P4 → P5 → P6 → C) : C := k h.1 h.2.1 h.2.2.1 h.2.2.2.1 h.2.2.2.2.1 h.2.2.2.2.2
theorem ex_1_2 {A1 : Type} {P1 P2 : A1 → Prop} {C : Prop} (h : ∃ a1, P1 a1 ∧ P2 a1) (k : ∀ (a1 : A1), P1 a1 → P2 a1 → C) : C := h.elim fun a1 h => k a1 h.1 h.2
theorem ex_1_3 {A1 : Type} {P1 P2 P3 : A1 → Prop} {C : Prop} (h : ∃ a1, P1 a1 ∧ P2 a1 ∧ P3 a1) (k : ∀ (a1 : A1), P1 a1 → P2 a1 → P3 a1 → C) : C := h.elim fun a1 h => k a1 h.1 h.2.1 h.2.2
theorem ex_1_4 {A1 : Type} {P1 P2 P3 P4 : A1 → Prop} {C : Prop} (h : ∃ a1, P1 a1 ∧ P2 a1 ∧ P3 a1 ∧ P4 a1) (k : ∀ (a1 : A1), P1 a1 → P2 a1 → P3 a1 → P4 a1 → C) : C := h.elim fun a1 h => k a1 h.1 h.2.1 h.2.2.1 h.2.2.2
theorem ex_1_5 {A1 : Type} {P1 P2 P3 P4 P5 : A1 → Prop} {C : Prop} (h : ∃ a1, P1 a1 ∧ P2 a1 ∧ P3 a1 ∧ P4 a1 ∧ P5 a1) (k : ∀ (a1 : A1), P1 a1 → P2 a1 → P3 a1 → P4 a1 → P5 a1 → C) : C := h.elim fun a1 h => k a1 h.1 h.2.1 h.2.2.1 h.2.2.2.1 h.2.2.2.2
theorem ex_1_6 {A1 : Type} {P1 P2 P3 P4 P5 P6 : A1 → Prop} {C : Prop} (h : ∃ a1, P1 a1 ∧ P2 a1 ∧ P3 a1 ∧ P4 a1 ∧ P5 a1 ∧ P6 a1) (k : ∀ (a1 : A1), P1 a1 → P2 a1 → P3 a1 → P4 a1 → P5 a1 → P6 a1 → C) : C := h.elim fun a1 h => k a1 h.1 h.2.1 h.2.2.1 h.2.2.2.1 h.2.2.2.2.1 h.2.2.2.2.2
theorem ex_1_8 {A1 : Type} {P1 P2 P3 P4 P5 P6 P7 P8 : A1 → Prop} {C : Prop} (h : ∃ a1, P1 a1 ∧ P2 a1 ∧ P3 a1 ∧ P4 a1 ∧ P5 a1 ∧ P6 a1 ∧ P7 a1 ∧ P8 a1) (k : ∀ (a1 : A1), P1 a1 → P2 a1 → P3 a1 → P4 a1 → P5 a1 → P6 a1 → P7 a1 → P8 a1 → C) : C := h.elim fun a1 h => k a1 h.1 h.2.1 h.2.2.1 h.2.2.2.1 h.2.2.2.2.1 h.2.2.2.2.2.1 h.2.2.2.2.2.2.1 h.2.2.2.2.2.2.2
theorem ex_1_9 {A1 : Type} {P1 P2 P3 P4 P5 P6 P7 P8 P9 : A1 → Prop} {C : Prop} (h : ∃ a1, P1 a1 ∧ P2 a1 ∧ P3 a1 ∧ P4 a1 ∧ P5 a1 ∧ P6 a1 ∧ P7 a1 ∧ P8 a1 ∧ P9 a1) (k : ∀ (a1 : A1), P1 a1 → P2 a1 → P3 a1 → P4 a1 → P5 a1 → P6 a1 → P7 a1 → P8 a1 → P9 a1 → C) : C := h.elim fun a1 h => k a1 h.1 h.2.1 h.2.2.1 h.2.2.2.1 h.2.2.2.2.1 h.2.2.2.2.2.1 h.2.2.2.2.2.2.1 h.2.2.2.2.2.2.2.1 h.2.2.2.2.2.2.2.2
theorem ex_1_10 {A1 : Type} {P1 P2 P3 P4 P5 P6 P7 P8 P9 P10 : A1 → Prop} {C : Prop} (h : ∃ a1, P1 a1 ∧ P2 a1 ∧ P3 a1 ∧ P4 a1 ∧ P5 a1 ∧ P6 a1 ∧ P7 a1 ∧ P8 a1 ∧ P9 a1 ∧ P10 a1) (k : ∀ (a1 : A1), P1 a1 → P2 a1 → P3 a1 → P4 a1 → P5 a1 → P6 a1 → P7 a1 → P8 a1 → P9 a1 → P10 a1 → C) : C := h.elim fun a1 h => k a1 h.1 h.2.1 h.2.2.1 h.2.2.2.1 h.2.2.2.2.1 h.2.2.2.2.2.1 h.2.2.2.2.2.2.1 h.2.2.2.2.2.2.2.1 h.2.2.2.2.2.2.2.2.1 h.2.2.2.2.2.2.2.2.2
theorem ex_2_1 {A1 A2 : Type} {P1 : A1 → A2 → Prop} {C : Prop} (h : ∃ a1 a2, P1 a1 a2) (k : ∀ (a1 : A1) (a2 : A2), P1 a1 a2 → C) : C := h.elim fun a1 h => h.elim fun a2 h => k a1 a2 h
theorem ex_2_2 {A1 A2 : Type} {P1 P2 : A1 → A2 → Prop} {C : Prop} (h : ∃ a1 a2, P1 a1 a2 ∧ P2 a1 a2) (k : ∀ (a1 : A1) (a2 : A2), P1 a1 a2 → P2 a1 a2 → C) : C := h.elim fun a1 h => h.elim fun a2 h => k a1 a2 h.1 h.2
theorem ex_2_3 {A1 A2 : Type} {P1 P2 P3 : A1 → A2 → Prop} {C : Prop} (h : ∃ a1 a2, P1 a1 a2 ∧ P2 a1 a2 ∧ P3 a1 a2) (k : ∀ (a1 : A1) (a2 : A2), P1 a1 a2 → P2 a1 a2 → P3 a1 a2 → C) : C := h.elim fun a1 h => h.elim fun a2 h => k a1 a2 h.1 h.2.1 h.2.2
theorem ex_2_4 {A1 A2 : Type} {P1 P2 P3 P4 : A1 → A2 → Prop} {C : Prop} (h : ∃ a1 a2, P1 a1 a2 ∧ P2 a1 a2 ∧ P3 a1 a2 ∧ P4 a1 a2) (k : ∀ (a1 : A1) (a2 : A2), P1 a1 a2 → P2 a1 a2 → P3 a1 a2 → P4 a1 a2 → C) : C := h.elim fun a1 h => h.elim fun a2 h => k a1 a2 h.1 h.2.1 h.2.2.1 h.2.2.2
theorem ex_2_5 {A1 A2 : Type} {P1 P2 P3 P4 P5 : A1 → A2 → Prop} {C : Prop} (h : ∃ a1 a2, P1 a1 a2 ∧ P2 a1 a2 ∧ P3 a1 a2 ∧ P4 a1 a2 ∧ P5 a1 a2) (k : ∀ (a1 : A1) (a2 : A2), P1 a1 a2 → P2 a1 a2 → P3 a1 a2 → P4 a1 a2 → P5 a1 a2 → C) : C := h.elim fun a1 h => h.elim fun a2 h => k a1 a2 h.1 h.2.1 h.2.2.1 h.2.2.2.1 h.2.2.2.2
theorem ex_2_12 {A1 A2 : Type} {P1 P2 P3 P4 P5 P6 P7 P8 P9 P10 P11 P12 : A1 → A2 → Prop} {C : Prop} (h : ∃ a1 a2, P1 a1 a2 ∧ P2 a1 a2 ∧ P3 a1 a2 ∧ P4 a1 a2 ∧ P5 a1 a2 ∧ P6 a1 a2 ∧ P7 a1 a2 ∧ P8 a1 a2 ∧ P9 a1 a2 ∧ P10 a1 a2 ∧ P11 a1 a2 ∧ P12 a1 a2) (k : ∀ (a1 : A1) (a2 : A2), P1 a1 a2 → P2 a1 a2 → P3 a1 a2 → P4 a1 a2 → P5 a1 a2 → P6 a1 a2 → P7 a1 a2 → P8 a1 a2 → P9 a1 a2 → P10 a1 a2 → P11 a1 a2 → P12 a1 a2 → C) : C := h.elim fun a1 h => h.elim fun a2 h => k a1 a2 h.1 h.2.1 h.2.2.1 h.2.2.2.1 h.2.2.2.2.1 h.2.2.2.2.2.1 h.2.2.2.2.2.2.1 h.2.2.2.2.2.2.2.1 h.2.2.2.2.2.2.2.2.1 h.2.2.2.2.2.2.2.2.2.1 h.2.2.2.2.2.2.2.2.2.2.1 h.2.2.2.2.2.2.2.2.2.2.2
theorem ex_3_2 {A1 A2 A3 : Type} {P1 P2 : A1 → A2 → A3 → Prop} {C : Prop} (h : ∃ a1 a2 a3, P1 a1 a2 a3 ∧ P2 a1 a2 a3) (k : ∀ (a1 : A1) (a2 : A2) (a3 : A3), P1 a1 a2 a3 → P2 a1 a2 a3 → C) : C := h.elim fun a1 h => h.elim fun a2 h => h.elim fun a3 h => k a1 a2 a3 h.1 h.2
theorem ex_3_3 {A1 A2 A3 : Type} {P1 P2 P3 : A1 → A2 → A3 → Prop} {C : Prop} (h : ∃ a1 a2 a3, P1 a1 a2 a3 ∧ P2 a1 a2 a3 ∧ P3 a1 a2 a3) (k : ∀ (a1 : A1) (a2 : A2) (a3 : A3), P1 a1 a2 a3 → P2 a1 a2 a3 → P3 a1 a2 a3 → C) : C := h.elim fun a1 h => h.elim fun a2 h => h.elim fun a3 h => k a1 a2 a3 h.1 h.2.1 h.2.2
theorem ex_3_4 {A1 A2 A3 : Type} {P1 P2 P3 P4 : A1 → A2 → A3 → Prop} {C : Prop} (h : ∃ a1 a2 a3, P1 a1 a2 a3 ∧ P2 a1 a2 a3 ∧ P3 a1 a2 a3 ∧ P4 a1 a2 a3) (k : ∀ (a1 : A1) (a2 : A2) (a3 : A3), P1 a1 a2 a3 → P2 a1 a2 a3 → P3 a1 a2 a3 → P4 a1 a2 a3 → C) : C := h.elim fun a1 h => h.elim fun a2 h => h.elim fun a3 h => k a1 a2 a3 h.1 h.2.1 h.2.2.1 h.2.2.2
theorem ex_3_6 {A1 A2 A3 : Type} {P1 P2 P3 P4 P5 P6 : A1 → A2 → A3 → Prop} {C : Prop} (h : ∃ a1 a2 a3, P1 a1 a2 a3 ∧ P2 a1 a2 a3 ∧ P3 a1 a2 a3 ∧ P4 a1 a2 a3 ∧ P5 a1 a2 a3 ∧ P6 a1 a2 a3) (k : ∀ (a1 : A1) (a2 : A2) (a3 : A3), P1 a1 a2 a3 → P2 a1 a2 a3 → P3 a1 a2 a3 → P4 a1 a2 a3 → P5 a1 a2 a3 → P6 a1 a2 a3 → C) : C := h.elim fun a1 h => h.elim fun a2 h => h.elim fun a3 h => k a1 a2 a3 h.1 h.2.1 h.2.2.1 h.2.2.2.1 h.2.2.2.2.1 h.2.2.2.2.2
theorem ex_3_7 {A1 A2 A3 : Type} {P1 P2 P3 P4 P5 P6 P7 : A1 → A2 → A3 → Prop} {C : Prop} (h : ∃ a1 a2 a3, P1 a1 a2 a3 ∧ P2 a1 a2 a3 ∧ P3 a1 a2 a3 ∧ P4 a1 a2 a3 ∧ P5 a1 a2 a3 ∧ P6 a1 a2 a3 ∧ P7 a1 a2 a3) (k : ∀ (a1 : A1) (a2 : A2) (a3 : A3), P1 a1 a2 a3 → P2 a1 a2 a3 → P3 a1 a2 a3 → P4 a1 a2 a3 → P5 a1 a2 a3 → P6 a1 a2 a3 → P7 a1 a2 a3 → C) : C := h.elim fun a1 h => h.elim fun a2 h => h.elim fun a3 h => k a1 a2 a3 h.1 h.2.1 h.2.2.1 h.2.2.2.1 h.2.2.2.2.1 h.2.2.2.2.2.1 h.2.2.2.2.2.2
theorem ex_4_2 {A1 A2 A3 A4 : Type} {P1 P2 : A1 → A2 → A3 → A4 → Prop} {C : Prop} (h : ∃ a1 a2 a3 a4, P1 a1 a2 a3 a4 ∧ P2 a1 a2 a3 a4) (k : ∀ (a1 : A1) (a2 : A2) (a3 : A3) (a4 : A4), P1 a1 a2 a3 a4 → P2 a1 a2 a3 a4 → C) : C := h.elim fun a1 h => h.elim fun a2 h => h.elim fun a3 h => h.elim fun a4 h => k a1 a2 a3 a4 h.1 h.2
theorem ex_4_3 {A1 A2 A3 A4 : Type} {P1 P2 P3 : A1 → A2 → A3 → A4 → Prop} {C : Prop} (h : ∃ a1 a2 a3 a4, P1 a1 a2 a3 a4 ∧ P2 a1 a2 a3 a4 ∧ P3 a1 a2 a3 a4) (k : ∀ (a1 : A1) (a2 : A2) (a3 : A3) (a4 : A4), P1 a1 a2 a3 a4 → P2 a1 a2 a3 a4 → P3 a1 a2 a3 a4 → C) : C := h.elim fun a1 h => h.elim fun a2 h => h.elim fun a3 h => h.elim fun a4 h => k a1 a2 a3 a4 h.1 h.2.1 h.2.2
theorem ex_4_4 {A1 A2 A3 A4 : Type} {P1 P2 P3 P4 : A1 → A2 → A3 → A4 → Prop} {C : Prop} (h : ∃ a1 a2 a3 a4, P1 a1 a2 a3 a4 ∧ P2 a1 a2 a3 a4 ∧ P3 a1 a2 a3 a4 ∧ P4 a1 a2 a3 a4) (k : ∀ (a1 : A1) (a2 : A2) (a3 : A3) (a4 : A4), P1 a1 a2 a3 a4 → P2 a1 a2 a3 a4 → P3 a1 a2 a3 a4 → P4 a1 a2 a3 a4 → C) : C := h.elim fun a1 h => h.elim fun a2 h => h.elim fun a3 h => h.elim fun a4 h => k a1 a2 a3 a4 h.1 h.2.1 h.2.2.1 h.2.2.2
theorem ex_4_5 {A1 A2 A3 A4 : Type} {P1 P2 P3 P4 P5 : A1 → A2 → A3 → A4 → Prop} {C : Prop} (h : ∃ a1 a2 a3 a4, P1 a1 a2 a3 a4 ∧ P2 a1 a2 a3 a4 ∧ P3 a1 a2 a3 a4 ∧ P4 a1 a2 a3 a4 ∧ P5 a1 a2 a3 a4) (k : ∀ (a1 : A1) (a2 : A2) (a3 : A3) (a4 : A4), P1 a1 a2 a3 a4 → P2 a1 a2 a3 a4 → P3 a1 a2 a3 a4 → P4 a1 a2 a3 a4 → P5 a1 a2 a3 a4 → C) : C := h.elim fun a1 h => h.elim fun a2 h => h.elim fun a3 h => h.elim fun a4 h => k a1 a2 a3 a4 h.1 h.2.1 h.2.2.1 h.2.2.2.1 h.2.2.2.2
theorem ex_4_6 {A1 A2 A3 A4 : Type} {P1 P2 P3 P4 P5 P6 : A1 → A2 → A3 → A4 → Prop} {C : Prop} (h : ∃ a1 a2 a3 a4, P1 a1 a2 a3 a4 ∧ P2 a1 a2 a3 a4 ∧ P3 a1 a2 a3 a4 ∧ P4 a1 a2 a3 a4 ∧ P5 a1 a2 a3 a4 ∧ P6 a1 a2 a3 a4) (k : ∀ (a1 : A1) (a2 : A2) (a3 : A3) (a4 : A4), P1 a1 a2 a3 a4 → P2 a1 a2 a3 a4 → P3 a1 a2 a3 a4 → P4 a1 a2 a3 a4 → P5 a1 a2 a3 a4 → P6 a1 a2 a3 a4 → C) : C := h.elim fun a1 h => h.elim fun a2 h => h.elim fun a3 h => h.elim fun a4 h => k a1 a2 a3 a4 h.1 h.2.1 h.2.2.1 h.2.2.2.1 h.2.2.2.2.1 h.2.2.2.2.2
theorem ex_4_7 {A1 A2 A3 A4 : Type} {P1 P2 P3 P4 P5 P6 P7 : A1 → A2 → A3 → A4 → Prop} {C : Prop} (h : ∃ a1 a2 a3 a4, P1 a1 a2 a3 a4 ∧ P2 a1 a2 a3 a4 ∧ P3 a1 a2 a3 a4 ∧ P4 a1 a2 a3 a4 ∧ P5 a1 a2 a3 a4 ∧ P6 a1 a2 a3 a4 ∧ P7 a1 a2 a3 a4) (k : ∀ (a1 : A1) (a2 : A2) (a3 : A3) (a4 : A4), P1 a1 a2 a3 a4 → P2 a1 a2 a3 a4 → P3 a1 a2 a3 a4 → P4 a1 a2 a3 a4 → P5 a1 a2 a3 a4 → P6 a1 a2 a3 a4 → P7 a1 a2 a3 a4 → C) : C := h.elim fun a1 h => h.elim fun a2 h => h.elim fun a3 h => h.elim fun a4 h => k a1 a2 a3 a4 h.1 h.2.1 h.2.2.1 h.2.2.2.1 h.2.2.2.2.1 h.2.2.2.2.2.1 h.2.2.2.2.2.2
theorem ex_5_3 {A1 A2 A3 A4 A5 : Type} {P1 P2 P3 : A1 → A2 → A3 → A4 → A5 → Prop} {C : Prop} (h : ∃ a1 a2 a3 a4 a5, P1 a1 a2 a3 a4 a5 ∧ P2 a1 a2 a3 a4 a5 ∧ P3 a1 a2 a3 a4 a5) (k : ∀ (a1 : A1) (a2 : A2) (a3 : A3) (a4 : A4) (a5 : A5), P1 a1 a2 a3 a4 a5 → P2 a1 a2 a3 a4 a5 → P3 a1 a2 a3 a4 a5 → C) : C := h.elim fun a1 h => h.elim fun a2 h => h.elim fun a3 h => h.elim fun a4 h => h.elim fun a5 h => k a1 a2 a3 a4 a5 h.1 h.2.1 h.2.2
theorem ex_5_5 {A1 A2 A3 A4 A5 : Type} {P1 P2 P3 P4 P5 : A1 → A2 → A3 → A4 → A5 → Prop} {C : Prop} (h : ∃ a1 a2 a3 a4 a5, P1 a1 a2 a3 a4 a5 ∧ P2 a1 a2 a3 a4 a5 ∧ P3 a1 a2 a3 a4 a5 ∧ P4 a1 a2 a3 a4 a5 ∧ P5 a1 a2 a3 a4 a5) (k : ∀ (a1 : A1) (a2 : A2) (a3 : A3) (a4 : A4) (a5 : A5), P1 a1 a2 a3 a4 a5 → P2 a1 a2 a3 a4 a5 → P3 a1 a2 a3 a4 a5 → P4 a1 a2 a3 a4 a5 → P5 a1 a2 a3 a4 a5 → C) : C := h.elim fun a1 h => h.elim fun a2 h => h.elim fun a3 h => h.elim fun a4 h => h.elim fun a5 h => k a1 a2 a3 a4 a5 h.1 h.2.1 h.2.2.1 h.2.2.2.1 h.2.2.2.2
theorem ex_5_7 {A1 A2 A3 A4 A5 : Type} {P1 P2 P3 P4 P5 P6 P7 : A1 → A2 → A3 → A4 → A5 → Prop} {C : Prop} (h : ∃ a1 a2 a3 a4 a5, P1 a1 a2 a3 a4 a5 ∧ P2 a1 a2 a3 a4 a5 ∧ P3 a1 a2 a3 a4 a5 ∧ P4 a1 a2 a3 a4 a5 ∧ P5 a1 a2 a3 a4 a5 ∧ P6 a1 a2 a3 a4 a5 ∧ P7 a1 a2 a3 a4 a5) (k : ∀ (a1 : A1) (a2 : A2) (a3 : A3) (a4 : A4) (a5 : A5), P1 a1 a2 a3 a4 a5 → P2 a1 a2 a3 a4 a5 → P3 a1 a2 a3 a4 a5 → P4 a1 a2 a3 a4 a5 → P5 a1 a2 a3 a4 a5 → P6 a1 a2 a3 a4 a5 → P7 a1 a2 a3 a4 a5 → C) : C := h.elim fun a1 h => h.elim fun a2 h => h.elim fun a3 h => h.elim fun a4 h => h.elim fun a5 h => k a1 a2 a3 a4 a5 h.1 h.2.1 h.2.2.1 h.2.2.2.1 h.2.2.2.2.1 h.2.2.2.2.2.1 h.2.2.2.2.2.2
theorem ex_7_3 {A1 A2 A3 A4 A5 A6 A7 : Type} {P1 P2 P3 : A1 → A2 → A3 → A4 → A5 → A6 → A7 → Prop} {C : Prop} (h : ∃ a1 a2 a3 a4 a5 a6 a7, P1 a1 a2 a3 a4 a5 a6 a7 ∧ P2 a1 a2 a3 a4 a5 a6 a7 ∧ P3 a1 a2 a3 a4 a5 a6 a7) (k : ∀ (a1 : A1) (a2 : A2) (a3 : A3) (a4 : A4) (a5 : A5) (a6 : A6) (a7 : A7), P1 a1 a2 a3 a4 a5 a6 a7 → P2 a1 a2 a3 a4 a5 a6 a7 → P3 a1 a2 a3 a4 a5 a6 a7 → C) : C := h.elim fun a1 h => h.elim fun a2 h => h.elim fun a3 h => h.elim fun a4 h => h.elim fun a5 h => h.elim fun a6 h => h.elim fun a7 h => k a1 a2 a3 a4 a5 a6 a7 h.1 h.2.1 h.2.2
theorem ex_7_7 {A1 A2 A3 A4 A5 A6 A7 : Type} {P1 P2 P3 P4 P5 P6 P7 : A1 → A2 → A3 → A4 → A5 → A6 → A7 → Prop} {C : Prop} (h : ∃ a1 a2 a3 a4 a5 a6 a7, P1 a1 a2 a3 a4 a5 a6 a7 ∧ P2 a1 a2 a3 a4 a5 a6 a7 ∧ P3 a1 a2 a3 a4 a5 a6 a7 ∧ P4 a1 a2 a3 a4 a5 a6 a7 ∧ P5 a1 a2 a3 a4 a5 a6 a7 ∧ P6 a1 a2 a3 a4 a5 a6 a7 ∧ P7 a1 a2 a3 a4 a5 a6 a7) (k : ∀ (a1 : A1) (a2 : A2) (a3 : A3) (a4 : A4) (a5 : A5) (a6 : A6) (a7 : A7), P1 a1 a2 a3 a4 a5 a6 a7 → P2 a1 a2 a3 a4 a5 a6 a7 → P3 a1 a2 a3 a4 a5 a6 a7 → P4 a1 a2 a3 a4 a5 a6 a7 → P5 a1 a2 a3 a4 a5 a6 a7 → P6 a1 a2 a3 a4 a5 a6 a7 → P7 a1 a2 a3 a4 a5 a6 a7 → C) : C := h.elim fun a1 h => h.elim fun a2 h => h.elim fun a3 h => h.elim fun a4 h => h.elim fun a5 h => h.elim fun a6 h => h.elim fun a7 h => k a1 a2 a3 a4 a5 a6 a7 h.1 h.2.1 h.2.2.1 h.2.2.2.1 h.2.2.2.2.1 h.2.2.2.2.2.1 h.2.2.2.2.2.2
theorem ex_8_2 {A1 A2 A3 A4 A5 A6 A7 A8 : Type} {P1 P2 : A1 → A2 → A3 → A4 → A5 → A6 → A7 → A8 → Prop} {C : Prop} (h : ∃ a1 a2 a3 a4 a5 a6 a7 a8, P1 a1 a2 a3 a4 a5 a6 a7 a8 ∧ P2 a1 a2 a3 a4 a5 a6 a7 a8) (k : ∀ (a1 : A1) (a2 : A2) (a3 : A3) (a4 : A4) (a5 : A5) (a6 : A6) (a7 : A7) (a8 : A8), P1 a1 a2 a3 a4 a5 a6 a7 a8 → P2 a1 a2 a3 a4 a5 a6 a7 a8 → C) : C := h.elim fun a1 h => h.elim fun a2 h => h.elim fun a3 h => h.elim fun a4 h => h.elim fun a5 h => h.elim fun a6 h => h.elim fun a7 h => h.elim fun a8 h => k a1 a2 a3 a4 a5 a6 a7 a8 h.1 h.2
theorem ex_8_6 {A1 A2 A3 A4 A5 A6 A7 A8 : Type} {P1 P2 P3 P4 P5 P6 : A1 → A2 → A3 → A4 → A5 → A6 → A7 → A8 → Prop} {C : Prop} (h : ∃ a1 a2 a3 a4 a5 a6 a7 a8, P1 a1 a2 a3 a4 a5 a6 a7 a8 ∧ P2 a1 a2 a3 a4 a5 a6 a7 a8 ∧ P3 a1 a2 a3 a4 a5 a6 a7 a8 ∧ P4 a1 a2 a3 a4 a5 a6 a7 a8 ∧ P5 a1 a2 a3 a4 a5 a6 a7 a8 ∧ P6 a1 a2 a3 a4 a5 a6 a7 a8) (k : ∀ (a1 : A1) (a2 : A2) (a3 : A3) (a4 : A4) (a5 : A5) (a6 : A6) (a7 : A7) (a8 : A8), P1 a1 a2 a3 a4 a5 a6 a7 a8 → P2 a1 a2 a3 a4 a5 a6 a7 a8 → P3 a1 a2 a3 a4 a5 a6 a7 a8 → P4 a1 a2 a3 a4 a5 a6 a7 a8 → P5 a1 a2 a3 a4 a5 a6 a7 a8 → P6 a1 a2 a3 a4 a5 a6 a7 a8 → C) : C := h.elim fun a1 h => h.elim fun a2 h => h.elim fun a3 h => h.elim fun a4 h => h.elim fun a5 h => h.elim fun a6 h => h.elim fun a7 h => h.elim fun a8 h => k a1 a2 a3 a4 a5 a6 a7 a8 h.1 h.2.1 h.2.2.1 h.2.2.2.1 h.2.2.2.2.1 h.2.2.2.2.2
theorem ex_8_9 {A1 A2 A3 A4 A5 A6 A7 A8 : Type} {P1 P2 P3 P4 P5 P6 P7 P8 P9 : A1 → A2 → A3 → A4 → A5 → A6 → A7 → A8 → Prop} {C : Prop} (h : ∃ a1 a2 a3 a4 a5 a6 a7 a8, P1 a1 a2 a3 a4 a5 a6 a7 a8 ∧ P2 a1 a2 a3 a4 a5 a6 a7 a8 ∧ P3 a1 a2 a3 a4 a5 a6 a7 a8 ∧ P4 a1 a2 a3 a4 a5 a6 a7 a8 ∧ P5 a1 a2 a3 a4 a5 a6 a7 a8 ∧ P6 a1 a2 a3 a4 a5 a6 a7 a8 ∧ P7 a1 a2 a3 a4 a5 a6 a7 a8 ∧ P8 a1 a2 a3 a4 a5 a6 a7 a8 ∧ P9 a1 a2 a3 a4 a5 a6 a7 a8) (k : ∀ (a1 : A1) (a2 : A2) (a3 : A3) (a4 : A4) (a5 : A5) (a6 : A6) (a7 : A7) (a8 : A8), P1 a1 a2 a3 a4 a5 a6 a7 a8 → P2 a1 a2 a3 a4 a5 a6 a7 a8 → P3 a1 a2 a3 a4 a5 a6 a7 a8 → P4 a1 a2 a3 a4 a5 a6 a7 a8 → P5 a1 a2 a3 a4 a5 a6 a7 a8 → P6 a1 a2 a3 a4 a5 a6 a7 a8 → P7 a1 a2 a3 a4 a5 a6 a7 a8 → P8 a1 a2 a3 a4 a5 a6 a7 a8 → P9 a1 a2 a3 a4 a5 a6 a7 a8 → C) : C := h.elim fun a1 h => h.elim fun a2 h => h.elim fun a3 h => h.elim fun a4 h => h.elim fun a5 h => h.elim fun a6 h => h.elim fun a7 h => h.elim fun a8 h => k a1 a2 a3 a4 a5 a6 a7 a8 h.1 h.2.1 h.2.2.1 h.2.2.2.1 h.2.2.2.2.1 h.2.2.2.2.2.1 h.2.2.2.2.2.2.1 h.2.2.2.2.2.2.2.1 h.2.2.2.2.2.2.2.2
theorem ex_10_11 {A1 A2 A3 A4 A5 A6 A7 A8 A9 A10 : Type} {P1 P2 P3 P4 P5 P6 P7 P8 P9 P10 P11 : A1 → A2 → A3 → A4 → A5 → A6 → A7 → A8 → A9 → A10 → Prop} {C : Prop} (h : ∃ a1 a2 a3 a4 a5 a6 a7 a8 a9 a10, P1 a1 a2 a3 a4 a5 a6 a7 a8 a9 a10 ∧ P2 a1 a2 a3 a4 a5 a6 a7 a8 a9 a10 ∧ P3 a1 a2 a3 a4 a5 a6 a7 a8 a9 a10 ∧ P4 a1 a2 a3 a4 a5 a6 a7 a8 a9 a10 ∧ P5 a1 a2 a3 a4 a5 a6 a7 a8 a9 a10 ∧ P6 a1 a2 a3 a4 a5 a6 a7 a8 a9 a10 ∧ P7 a1 a2 a3 a4 a5 a6 a7 a8 a9 a10 ∧ P8 a1 a2 a3 a4 a5 a6 a7 a8 a9 a10 ∧ P9 a1 a2 a3 a4 a5 a6 a7 a8 a9 a10 ∧ P10 a1 a2 a3 a4 a5 a6 a7 a8 a9 a10 ∧ P11 a1 a2 a3 a4 a5 a6 a7 a8 a9 a10) (k : ∀ (a1 : A1) (a2 : A2) (a3 : A3) (a4 : A4) (a5 : A5) (a6 : A6) (a7 : A7) (a8 : A8) (a9 : A9) (a10 : A10), P1 a1 a2 a3 a4 a5 a6 a7 a8 a9 a10 → P2 a1 a2 a3 a4 a5 a6 a7 a8 a9 a10 → P3 a1 a2 a3 a4 a5 a6 a7 a8 a9 a10 → P4 a1 a2 a3 a4 a5 a6 a7 a8 a9 a10 → P5 a1 a2 a3 a4 a5 a6 a7 a8 a9 a10 → P6 a1 a2 a3 a4 a5 a6 a7 a8 a9 a10 → P7 a1 a2 a3 a4 a5 a6 a7 a8 a9 a10 → P8 a1 a2 a3 a4 a5 a6 a7 a8 a9 a10 → P9 a1 a2 a3 a4 a5 a6 a7 a8 a9 a10 → P10 a1 a2 a3 a4 a5 a6 a7 a8 a9 a10 → P11 a1 a2 a3 a4 a5 a6 a7 a8 a9 a10 → C) : C := h.elim fun a1 h => h.elim fun a2 h => h.elim fun a3 h => h.elim fun a4 h => h.elim fun a5 h => h.elim fun a6 h => h.elim fun a7 h => h.elim fun a8 h => h.elim fun a9 h => h.elim fun a10 h => k a1 a2 a3 a4 a5 a6 a7 a8 a9 a10 h.1 h.2.1 h.2.2.1 h.2.2.2.1 h.2.2.2.2.1 h.2.2.2.2.2.1 h.2.2.2.2.2.2.1 h.2.2.2.2.2.2.2.1 h.2.2.2.2.2.2.2.2.1 h.2.2.2.2.2.2.2.2.2.1 h.2.2.2.2.2.2.2.2.2.2
theorem ex_14_2 {A1 A2 A3 A4 A5 A6 A7 A8 A9 A10 A11 A12 A13 A14 : Type} {P1 P2 : A1 → A2 → A3 → A4 → A5 → A6 → A7 → A8 → A9 → A10 → A11 → A12 → A13 → A14 → Prop} {C : Prop} (h : ∃ a1 a2 a3 a4 a5 a6 a7 a8 a9 a10 a11 a12 a13 a14, P1 a1 a2 a3 a4 a5 a6 a7 a8 a9 a10 a11 a12 a13 a14 ∧ P2 a1 a2 a3 a4 a5 a6 a7 a8 a9 a10 a11 a12 a13 a14) (k : ∀ (a1 : A1) (a2 : A2) (a3 : A3) (a4 : A4) (a5 : A5) (a6 : A6) (a7 : A7) (a8 : A8) (a9 : A9) (a10 : A10) (a11 : A11) (a12 : A12) (a13 : A13) (a14 : A14), P1 a1 a2 a3 a4 a5 a6 a7 a8 a9 a10 a11 a12 a13 a14 → P2 a1 a2 a3 a4 a5 a6 a7 a8 a9 a10 a11 a12 a13 a14 → C) : C := h.elim fun a1 h => h.elim fun a2 h => h.elim fun a3 h => h.elim fun a4 h => h.elim fun a5 h => h.elim fun a6 h => h.elim fun a7 h => h.elim fun a8 h => h.elim fun a9 h => h.elim fun a10 h => h.elim fun a11 h => h.elim fun a12 h => h.elim fun a13 h => h.elim fun a14 h => k a1 a2 a3 a4 a5 a6 a7 a8 a9 a10 a11 a12 a13 a14 h.1 h.2
noncomputable abbrev Led := List (Addr × Obj)
noncomputable abbrev Ctr (w : World) (f : Addr) (k : Nat) (vs : List Value) (news : Led) (R : Value → Led → Prop) : Prop :=
  ∀ (p : Program) (loose : List Str) (mean : ExcName → Option Value) (mg mb : Str → Option Value)
    (dp un : Nat) (gd : Option (List Code)) (cn : Str) (cs : Scope) (a : Addr) (ccd : Value) (cl : List (Str × Addr)) (outer : List Env) (A₀ : Around) (base h₀ : Heap) (L : Addr) (m : Str → Option Value) (s : Shared) (Q E : Value → Shared → Prop),
    Below A₀ base outer h₀ → Fr h₀ L s.heap m → (hd.heap_1 w.params).In h₀ → News h₀ L s.heap news → Top p loose mean mg mb h₀ → cs.kind = .function →
    dp + k < recursionLimit → un + 8 * k < cLine →
    (∀ r news' h' tk', Fr h₀ L h' m → News h₀ L h' news' → R r news' → Q r { s with heap := h', toks := tk' }) →
    wpAny (model PySem.Challenge.rw_np0052_01.row.prog w) (ktrTop dp un gd cn cs L a ccd cl outer) (call (.ref f) vs) Q E s
theorem use {w : World} {f : Addr} {k : Nat} {vs : List Value} {news : Led} {R : Value → Led → Prop} {p : Program} {loose : List Str} {mean : ExcName → Option Value} {mg mb : Str → Option Value}
    {dp un : Nat} {gd : Option (List Code)} {cn : Str} {cs : Scope} {a : Addr} {ccd : Value} {cl : List (Str × Addr)} {outer : List Env} {A₀ : Around} {base h₀ : Heap} {L : Addr} {m : Str → Option Value} {s : Shared} {Q E : Value → Shared → Prop}
    (N : News h₀ L s.heap news) (C : Ctr w f k vs news R) (B : Below A₀ base outer h₀) (F : Fr h₀ L s.heap m) (X : (hd.heap_1 w.params).In h₀) (T : Top p loose mean mg mb h₀) (hk : cs.kind = .function)
    (hd : dp + k < recursionLimit) (hu : un + 8 * k < cLine)
    (h : ∀ r news' h' tk', Fr h₀ L h' m → News h₀ L h' news' → R r news' → Q r { s with heap := h', toks := tk' }) :
    wpAny (model PySem.Challenge.rw_np0052_01.row.prog w) (ktrTop dp un gd cn cs L a ccd cl outer) (call (.ref f) vs) Q E s :=
  C p loose mean mg mb dp un gd cn cs a ccd cl outer A₀ base h₀ L m s Q E B F X N T hk hd hu h
noncomputable def Ends (g : Heap) (L : Addr) (s : Shared) (R : Value → Led → Prop) (v : Value) (s' : Shared) : Prop :=
  ∃ m' nw h' tk', s' = { s with heap := h', toks := tk' } ∧ Fr g L h' m' ∧ News g L h' nw ∧ R v nw
theorem ends {g : Heap} {L : Addr} {s : Shared} {R : Value → Led → Prop} {v : Value} {m' : Str → Option Value} {nw : Led} {h' : Heap} {tk' : Nat}
    (F : Fr g L h' m') (N : News g L h' nw) (r : R v nw) : Ends g L s R v { s with heap := h', toks := tk' } := ⟨m', nw, h', tk', rfl, F, N, r⟩
theorem ctr_of {w : World} {f : Addr} {k : Nat} {vs : List Value} {news : Led} {R : Value → Led → Prop} (names : List Str)
    {name qual : Str} {params : Arguments} {body : List Stmt} {scope : Scope} {dV kV doc pm cdv ct oc : Value} {an od : Option Addr} {osl : Array (Option Value)}
    (ho : (hd.heap_1 w.params).lookup f = some ⟨oc, od, .func (fnOf name qual params body scope dV kV doc pm an cdv ct), osl⟩) (hcd : codeIn (hd.heap_1 w.params) cdv qual = true)
    (hb : bindArgs (fnOf name qual params body scope dV kV doc pm an cdv ct) ⟨vs, []⟩ = pure (names.zip vs)) (hloc : ∀ y ∈ names.zip vs, scope.names.lookup y.1 = some .local)
    (hco : scope.isCoroutine = false) (hgen : scope.isGenerator = false) (hkd : scope.kind = .function) (hcell : ∀ x ∈ scope.names, x.2 ≠ .cell)
    (h : ∀ (p : Program) (loose : List Str) (mean : ExcName → Option Value) (mg mb : Str → Option Value) (dp un : Nat) (gd : Option (List Code)) (outer : List Env) (A₀ : Around) (base g : Heap) (L : Addr) (s : Shared),
      Below A₀ base outer g → Fr g L s.heap (fun y => (names.zip vs).reverse.lookup y) → (hd.heap_1 w.params).In g → News g L s.heap news → Top p loose mean mg mb g → dp + k < recursionLimit → un + 8 * k + 4 < cLine →
      wpAny (model PySem.Challenge.rw_np0052_01.row.prog w) (ktrTop dp un gd qual scope L f cdv [] outer) (execs body (envX qual scope L f cdv []))
        (fun fl s' => Ends g L s R (match fl with | .ret v => v | _ => .none) s') (fun _ _ => False) s) : Ctr w f (k + 1) vs news R := by
  intro p loose mean mg mb dp un gd cn cs a ccd cl outer A₀ base h₀ L m s Q E B F X N T hk hd hu hret
  refine wpAny_call ?_
  refine code_def (binds := names.zip vs) B F X N T rfl rfl hk ho hcd (dp0 hd) (BindsTo.of_eq hb) hloc (fun g L' h₁ FG F' N' B' X' T' => ?_) hco hgen hkd hcell
  have h1 := h p loose mean mg mb (dp + 1) (un + 3) gd (envX cn cs L a ccd cl :: outer) _ base g L' { s with heap := h₁, toks := s.toks + (names.zip vs).length } B' F' X' N' T' (dpS hd) (unS hu)
  refine wpAny_mono h1 (fun fl s' hl => ?_) fun _ _ x => x.elim
  refine genP fun C9 k9 => ?_
  refine ex_4_4 (hl) ?_
  try clear hl
  intro m' nw h' tk' e9_4 Fe Ne r
  subst e9_4
  refine k9 ?_
  clear k9 C9
  exact leaveK_ Fe Ne fun F2 N2 => hret _ _ _ _ F2 N2 r
theorem obj_elim {oc oc' : Value} {od od' : Option Addr} {name name' qual qual' : Str} {params params' : Arguments} {body body' : List Stmt} {scope scope' : Scope} {dV dV' kV kV' doc doc' pm pm' cdv cdv' ct ct' : Value} {an an' : Option Addr} {osl osl' : Array (Option Value)}
    (e : (some ⟨oc, od, .func (fnOf name qual params body scope dV kV doc pm an cdv ct), osl⟩ : Option Obj) = some ⟨oc', od', .func (fnOf name' qual' params' body' scope' dV' kV' doc' pm' an' cdv' ct'), osl'⟩) {P : Str → List Stmt → Scope → Prop} (h : P qual' body' scope') : P qual body scope := by
  unfold fnOf at e; cases e; exact h
theorem fn_elim {oc oc' : Value} {od od' : Option Addr} {fd fd' : FuncData} {osl osl' : Array (Option Value)} (e : (some ⟨oc, od, .func fd, osl⟩ : Option Obj) = some ⟨oc', od', .func fd', osl'⟩) {P : FuncData → Prop} (h : P fd') : P fd := by cases e; exact h
theorem for_elim {tgt tgt' it it' : Expr} {turn turn' els els' : List Stmt} {pos pos' : Pos} (hb : some (Stmt.For tgt' it' turn' els' pos') = some (Stmt.For tgt it turn els pos)) {P : List Stmt → Prop} (h : P turn') : P turn := by cases hb; exact h
theorem st_elim {a st : Stmt} (e : some a = some st) {P : Stmt → Prop} (h : P a) : P st := Option.some.inj e ▸ h
noncomputable abbrev set1 (m : Str → Option Value) (x : Str) (v : Value) : Str → Option Value := fun y => if y = x then some v else m y
noncomputable abbrev lk (l : List (Str × Value)) : Str → Option Value := fun y => List.lookup y l
structure Stop (P : Prop) : Prop where
  go ::
  out : P
theorem stop_of {P : Prop} (h : Stop P) : P := h.out
inductive ViewAt (news : Led) (v : Addr) (cs : List Int) (first : Int) : Prop
  | mk : ∀ dv lc vs t h1 t1 h2 t2 n1 n2, (v, instObj 334 dv) ∈ news → (dv, dictOf [⟨h1, .str "codes" t1, .ref lc⟩, ⟨h2, .str "place" t2, .int first t⟩] n1) ∈ news → (lc, listOf (List.toArray vs) n2) ∈ news → IntsAre vs cs → cs.length < 2 ^ 20 → 0 ≤ first → first < 2 ^ 20 → ViewAt news v cs first
theorem ViewAt.len {news : Led} {v : Addr} {cs : List Int} {first : Int} (V : ViewAt news v cs first) : cs.length < 2 ^ 20 := by cases V; assumption
theorem ViewAt.pos {news : Led} {v : Addr} {cs : List Int} {first : Int} (V : ViewAt news v cs first) : 0 ≤ first := by cases V; assumption
theorem ViewAt.top {news : Led} {v : Addr} {cs : List Int} {first : Int} (V : ViewAt news v cs first) : first < 2 ^ 20 := by cases V; assumption
theorem ViewAt.mono {news news' : Led} {v : Addr} {cs : List Int} {first : Int} (V : ViewAt news v cs first) (h : ∀ p ∈ news, p ∈ news') : ViewAt news' v cs first := by
  refine genP fun C9 k9 => ?_
  obtain ⟨dv, lc, vs, t, h1, t1, h2, t2, n1, n2, a, b, c, d, e, f, f'⟩ := V
  refine k9 ?_
  clear k9 C9
  exact ⟨dv, lc, vs, t, h1, t1, h2, t2, n1, n2, h _ a, h _ b, h _ c, d, e, f, f'⟩
theorem view_meth {w : World} {A : Around} {E : Value → Shared → Prop} {s : Shared} {news : Led} {v L f : Addr} {cs : List Int} {first : Int} {h₀ : Heap} {m : Str → Option Value} {name : Str} {pl : Sem Bool} {Q : Value × List Value → Shared → Prop}
    (N : News h₀ L s.heap news) (V : ViewAt news v cs first) (F : Fr h₀ L s.heap m) (X : (hd.heap_1 w.params).In h₀) (hg : plainGet (hd.heap_1 w.params) 334 name = true)
    (hf : findIn (hd.heap_1 w.params) (.ref 334) name = some (some (.ref f))) (ht : isFn (hd.heap_1 w.params) (.ref f) = true)
    (hl : ∀ h1 t1 h2 t2 x y, getL name [⟨h1, .str "codes" t1, x⟩, ⟨h2, .str "place" t2, y⟩] = some none) (h : Q (.ref f, [.ref v]) s) :
    wpAny (model PySem.Challenge.rw_np0052_01.row.prog w) A (getMethod (.ref v) name pl) Q E s := by
  refine genP fun C9 k9 => ?_
  obtain ⟨dv, lc, vs, t, h1, t1, h2, t2, n1, n2, hv, hd, _, _, _, _, _⟩ := V
  refine k9 ?_
  clear k9 C9
  exact method_inst F X (InstAt.of_news N hv hd) hg hf ht (hl _ _ _ _ _ _) h
theorem wnext {h₀ h' : Heap} {L : Addr} {s : Shared} {J : Nat → (Str → Option Value) → Led → Prop} {Q : Flow → Shared → Prop} {n n' tk : Nat} {m₂ : Str → Option Value} {news₂ : Led}
    (F : Fr h₀ L h' m₂) (N : News h₀ L h' news₂) (hn : n' < n) (hJ : J n' m₂ news₂) : WhileStep2 h₀ L s J Q n .next { s with heap := h', toks := tk } := ⟨h', tk, m₂, news₂, n', rfl, F, N, hn, hJ⟩
theorem set1_twice {m : Str → Option Value} {x : Str} {a b : Value} : set1 (set1 m x a) x b = set1 m x b := by
  funext y
  show (if y = x then _ else if y = x then _ else _) = _
  split <;> rfl
theorem int_eq {a b : Int} {t : Tok} (h : a = b) : Value.int a t = Value.int b t := by rw [h]
noncomputable def IsI (o : Option Value) (x : Int) : Prop := ∃ t, o = some (.int x t)
theorem IsI.of {o : Option Value} {x y : Int} {t : Tok} (h : o = some (.int y t)) (e : y = x) : IsI o x := ⟨t, e ▸ h⟩
theorem ctr_ofC {w : World} {f : Addr} {k : Nat} {vs : List Value} {news : Led} {R : Value → Led → Prop} (names : List Str)
    {name qual : Str} {params : Arguments} {body : List Stmt} {scope : Scope} {dV kV doc pm cdv ct oc : Value} {an od : Option Addr} {osl : Array (Option Value)}
    (ho : (hd.heap_1 w.params).lookup f = some ⟨oc, od, .func (fnOf name qual params body scope dV kV doc pm an cdv ct), osl⟩) (hcd : codeIn (hd.heap_1 w.params) cdv qual = true)
    (hb : bindArgs (fnOf name qual params body scope dV kV doc pm an cdv ct) ⟨vs, []⟩ = pure (names.zip vs)) (hkind : ((names.zip vs).all fun y => scope.names.lookup y.1 == some .local || scope.names.lookup y.1 == some .cell) = true)
    (hco : scope.isCoroutine = false) (hgen : scope.isGenerator = false) (hkd : scope.kind = .function) (hnd : ((cellsFrom 0 scope.names []).map (·.1)).Nodup)
    (h : ∀ (p : Program) (loose : List Str) (mean : ExcName → Option Value) (mg mb : Str → Option Value) (dp un : Nat) (gd : Option (List Code)) (outer : List Env) (A₀ : Around) (base g : Heap) (L : Addr) (s : Shared) (cells : Led),
      Below A₀ base outer g → Fr g L s.heap (bindL (envOfC qual scope L f cdv).kindOf (names.zip vs) fun _ => none) → (hd.heap_1 w.params).In g → News g L s.heap (cells ++ news) →
      CellsAre (bindC (envOfC qual scope L f cdv).kindOf (names.zip vs) fun _ => none) (cellsFrom (L + 1) scope.names []) cells → (∀ p ∈ news, p.1 < L) → Top p loose mean mg mb g → dp + k < recursionLimit → un + 8 * k + 4 < cLine →
      wpAny (model PySem.Challenge.rw_np0052_01.row.prog w) (ktrTop dp un gd qual scope L f cdv (cellsFrom (L + 1) scope.names []) outer) (execs body (envX qual scope L f cdv (cellsFrom (L + 1) scope.names [])))
        (fun fl s' => Ends g L s R (match fl with | .ret v => v | _ => .none) s') (fun _ _ => False) s) : Ctr w f (k + 1) vs news R := by
  intro p loose mean mg mb dp un gd cn cs a ccd cl outer A₀ base h₀ L m s Q E B F X N T hk hd hu hret
  refine wpAny_call ?_
  refine code_defC (binds := names.zip vs) B F X N T rfl rfl hk ho hcd (dp0 hd) (BindsTo.of_eq hb) hkind hnd (fun g L' h₁ tk cells FG F' N' Y B' X' T' hl => ?_) hco hgen hkd
  have h1 := h p loose mean mg mb (dp + 1) (un + 3) gd (envX cn cs L a ccd cl :: outer) _ base g L' { s with heap := h₁, toks := tk } cells B' F' X' N' Y hl T' (dpS hd) (unS hu)
  refine wpAny_mono h1 (fun fl s' hl => ?_) fun _ _ x => x.elim
  refine genP fun C9 k9 => ?_
  refine ex_4_4 (hl) ?_
  try clear hl
  intro m' nw h' tk' e9_4 Fe Ne r
  subst e9_4
  refine k9 ?_
  clear k9 C9
  exact leaveK_ Fe Ne fun F2 N2 => hret _ _ _ _ F2 N2 r
theorem sub_tail {a b : Led} {x : Addr × Obj} (h : ∀ p ∈ a, p ∈ b) : ∀ p ∈ a, p ∈ x :: b := fun p hp => .tail _ (h p hp)
theorem newsub {g h : Heap} {L : Addr} {nw nw' : Led} (N : News g L h nw) (hs : ∀ p ∈ nw', p ∈ nw) : News g L h nw' := fun p hp => N p (hs p hp)
theorem sub_cons {a b : Led} {x : Addr × Obj} (hx : x ∈ b) (h : ∀ p ∈ a, p ∈ b) : ∀ p ∈ x :: a, p ∈ b := fun p hp => by
  rcases List.mem_cons.mp hp with rfl | hp
  · exact hx
  · exact h p hp
theorem room_le {d k K l : Nat} (h : d + K < l) (hk : k ≤ K) : d + k < l := Nat.lt_of_le_of_lt (Nat.add_le_add_left hk d) h
theorem unit_le {u k K l : Nat} (h : u + 8 * K + 4 < l) (hk : 8 * k ≤ 8 * K + 4) : u + 8 * k < l := Nat.lt_of_le_of_lt (Nat.add_le_add_left hk u) h
theorem unit_leK {u k K l : Nat} (h : u + 8 * K + 4 < l) (hk : k ≤ K) : u + 8 * k < l := unit_le h (Nat.le_trans (Nat.mul_le_mul_left 8 hk) (Nat.le_add_right _ _))
theorem unit_le2 {u k K l : Nat} (h : u + K < l) (hk : 8 * k ≤ K) : u + 8 * k < l := Nat.lt_of_le_of_lt (Nat.add_le_add_left hk u) h
theorem genQ {α : Type} {M : Model} {A : Around} {t : Sem α} {Q : α → Shared → Prop} {E : Value → Shared → Prop} {s : Shared} (h : ∀ Q', Q = Q' → wpAny M A t Q' E s) : wpAny M A t Q E s := h Q rfl
noncomputable def pick {T : Type} (ne : Nonempty T) (p : T → Prop) : T := @Classical.epsilon T ne fun x => ¬ p x
theorem pick_all {T : Type} {ne : Nonempty T} {p : T → Prop} (h : p (pick ne p)) : ∀ x, p x := fun x => Classical.byContradiction fun hx => (@Classical.epsilon_spec T (fun x => ¬ p x) ⟨x, hx⟩) h
theorem neW : Nonempty World := ⟨⟨fun _ _ => 0, { strHash := fun _ => 0, shareClass := fun _ => 0, mergeTok := fun t => t, idOf := fun _ => 0, idOfShared := fun _ _ => 0, followText := fun _ => false, idOfImm := fun _ => 0 }⟩⟩
theorem neA : Nonempty Around := ⟨{}⟩
theorem neS : Nonempty Shared := ⟨{}⟩
theorem nei {T : Type} [Nonempty T] : Nonempty T := inferInstance
theorem ne2 {A B : Type} (a : Nonempty A) (b : Nonempty B) : Nonempty (A × B) := a.elim fun x => b.elim fun y => ⟨(x, y)⟩
set_option genSizeOf false in
set_option genInjectivity false in
structure L14 where
  mk ::
  (p : Program)
  (loose : List Str)
  (mean : ExcName → Option Value)
  (mg mb : Str → Option Value)
  (dp un : Nat)
  (gd : Option (List Code))
  (outer : List Env)
  (A₀ : Around)
  (base g : Heap)
  (L : Addr)
  (s : Shared)
  cells : Led
theorem ne14 : Nonempty L14 := (nei : Nonempty Program).elim fun p => neA.elim fun a => neS.elim fun s => ⟨⟨p, [], fun _ => none, fun _ => none, fun _ => none, 0, 0, none, [], a, s.heap, s.heap, 0, s, []⟩⟩
noncomputable def wp14 (P : Program → List Str → (ExcName → Option Value) → (Str → Option Value) → (Str → Option Value) → Nat → Nat → Option (List Code) → List Env → Around → Heap → Heap → Addr → Shared → Prop) : L14 := pick ne14 fun c => P c.p c.loose c.mean c.mg c.mb c.dp c.un c.gd c.outer c.A₀ c.base c.g c.L c.s
theorem all14 {P : Program → List Str → (ExcName → Option Value) → (Str → Option Value) → (Str → Option Value) → Nat → Nat → Option (List Code) → List Env → Around → Heap → Heap → Addr → Shared → Prop} (h : P (wp14 P).p (wp14 P).loose (wp14 P).mean (wp14 P).mg (wp14 P).mb (wp14 P).dp (wp14 P).un (wp14 P).gd (wp14 P).outer (wp14 P).A₀ (wp14 P).base (wp14 P).g (wp14 P).L (wp14 P).s) : ∀ (p : Program) (loose : List Str) (mean : ExcName → Option Value) (mg mb : Str → Option Value) (dp un : Nat) (gd : Option (List Code)) (outer : List Env) (A₀ : Around) (base g : Heap) (L : Addr) (s : Shared), P p loose mean mg mb dp un gd outer A₀ base g L s := fun p loose mean mg mb dp un gd outer A₀ base g L s => pick_all (p := fun c : L14 => P c.p c.loose c.mean c.mg c.mb c.dp c.un c.gd c.outer c.A₀ c.base c.g c.L c.s) h ⟨p, loose, mean, mg, mb, dp, un, gd, outer, A₀, base, g, L, s, []⟩
noncomputable def wp15 (P : Program → List Str → (ExcName → Option Value) → (Str → Option Value) → (Str → Option Value) → Nat → Nat → Option (List Code) → List Env → Around → Heap → Heap → Addr → Shared → Led → Prop) : L14 := pick ne14 fun c => P c.p c.loose c.mean c.mg c.mb c.dp c.un c.gd c.outer c.A₀ c.base c.g c.L c.s c.cells
theorem all15 {P : Program → List Str → (ExcName → Option Value) → (Str → Option Value) → (Str → Option Value) → Nat → Nat → Option (List Code) → List Env → Around → Heap → Heap → Addr → Shared → Led → Prop} (h : P (wp15 P).p (wp15 P).loose (wp15 P).mean (wp15 P).mg (wp15 P).mb (wp15 P).dp (wp15 P).un (wp15 P).gd (wp15 P).outer (wp15 P).A₀ (wp15 P).base (wp15 P).g (wp15 P).L (wp15 P).s (wp15 P).cells) : ∀ (p : Program) (loose : List Str) (mean : ExcName → Option Value) (mg mb : Str → Option Value) (dp un : Nat) (gd : Option (List Code)) (outer : List Env) (A₀ : Around) (base g : Heap) (L : Addr) (s : Shared) (cells : Led), P p loose mean mg mb dp un gd outer A₀ base g L s cells := fun p loose mean mg mb dp un gd outer A₀ base g L s cells => pick_all (p := fun c : L14 => P c.p c.loose c.mean c.mg c.mb c.dp c.un c.gd c.outer c.A₀ c.base c.g c.L c.s c.cells) h ⟨p, loose, mean, mg, mb, dp, un, gd, outer, A₀, base, g, L, s, cells⟩
noncomputable def Bd (w : World) (f : Addr) (k : Nat) (vs : List Value) (news : Led) (R : Value → Led → Prop) (names : List Str) (qual : Str) (body : List Stmt) (scope : Scope) (cdv : Value) (p : Program) (loose : List Str) (mean : ExcName → Option Value) (mg mb : Str → Option Value) (dp un : Nat) (gd : Option (List Code)) (outer : List Env) (A₀ : Around) (base g : Heap) (L : Addr) (s : Shared) : Prop :=
      Below A₀ base outer g → Fr g L s.heap (fun y => (names.zip vs).reverse.lookup y) → (hd.heap_1 w.params).In g → News g L s.heap news → Top p loose mean mg mb g → dp + k < recursionLimit → un + 8 * k + 4 < cLine →
      wpAny (model PySem.Challenge.rw_np0052_01.row.prog w) (ktrTop dp un gd qual scope L f cdv [] outer) (execs body (envX qual scope L f cdv []))
        (fun fl s' => Ends g L s R (match fl with | .ret v => v | _ => .none) s') (fun _ _ => False) s
theorem ctr_ofW {w : World} {f : Addr} {k : Nat} {vs : List Value} {news : Led} {R : Value → Led → Prop} (names : List Str)
    {name qual : Str} {params : Arguments} {body : List Stmt} {scope : Scope} {dV kV doc pm cdv ct oc : Value} {an od : Option Addr} {osl : Array (Option Value)}
    (ho : (hd.heap_1 w.params).lookup f = some ⟨oc, od, .func (fnOf name qual params body scope dV kV doc pm an cdv ct), osl⟩) (hcd : codeIn (hd.heap_1 w.params) cdv qual = true)
    (hb : bindArgs (fnOf name qual params body scope dV kV doc pm an cdv ct) ⟨vs, []⟩ = pure (names.zip vs)) (hloc : ∀ y ∈ names.zip vs, scope.names.lookup y.1 = some .local)
    (hco : scope.isCoroutine = false) (hgen : scope.isGenerator = false) (hkd : scope.kind = .function) (hcell : ∀ x ∈ scope.names, x.2 ≠ .cell)
    (h : Bd w f k vs news R names qual body scope cdv (wp14 (Bd w f k vs news R names qual body scope cdv)).p (wp14 (Bd w f k vs news R names qual body scope cdv)).loose (wp14 (Bd w f k vs news R names qual body scope cdv)).mean (wp14 (Bd w f k vs news R names qual body scope cdv)).mg (wp14 (Bd w f k vs news R names qual body scope cdv)).mb (wp14 (Bd w f k vs news R names qual body scope cdv)).dp (wp14 (Bd w f k vs news R names qual body scope cdv)).un (wp14 (Bd w f k vs news R names qual body scope cdv)).gd (wp14 (Bd w f k vs news R names qual body scope cdv)).outer (wp14 (Bd w f k vs news R names qual body scope cdv)).A₀ (wp14 (Bd w f k vs news R names qual body scope cdv)).base (wp14 (Bd w f k vs news R names qual body scope cdv)).g (wp14 (Bd w f k vs news R names qual body scope cdv)).L (wp14 (Bd w f k vs news R names qual body scope cdv)).s) : Ctr w f (k + 1) vs news R :=
  ctr_of names ho hcd hb hloc hco hgen hkd hcell (all14 (P := Bd w f k vs news R names qual body scope cdv) h)
noncomputable def BdC (w : World) (f : Addr) (k : Nat) (vs : List Value) (news : Led) (R : Value → Led → Prop) (names : List Str) (qual : Str) (body : List Stmt) (scope : Scope) (cdv : Value) (p : Program) (loose : List Str) (mean : ExcName → Option Value) (mg mb : Str → Option Value) (dp un : Nat) (gd : Option (List Code)) (outer : List Env) (A₀ : Around) (base g : Heap) (L : Addr) (s : Shared) (cells : Led) : Prop :=
      Below A₀ base outer g → Fr g L s.heap (bindL (envOfC qual scope L f cdv).kindOf (names.zip vs) fun _ => none) → (hd.heap_1 w.params).In g → News g L s.heap (cells ++ news) →
      CellsAre (bindC (envOfC qual scope L f cdv).kindOf (names.zip vs) fun _ => none) (cellsFrom (L + 1) scope.names []) cells → (∀ p ∈ news, p.1 < L) → Top p loose mean mg mb g → dp + k < recursionLimit → un + 8 * k + 4 < cLine →
      wpAny (model PySem.Challenge.rw_np0052_01.row.prog w) (ktrTop dp un gd qual scope L f cdv (cellsFrom (L + 1) scope.names []) outer) (execs body (envX qual scope L f cdv (cellsFrom (L + 1) scope.names [])))
        (fun fl s' => Ends g L s R (match fl with | .ret v => v | _ => .none) s') (fun _ _ => False) s
theorem ctr_ofCW {w : World} {f : Addr} {k : Nat} {vs : List Value} {news : Led} {R : Value → Led → Prop} (names : List Str)
    {name qual : Str} {params : Arguments} {body : List Stmt} {scope : Scope} {dV kV doc pm cdv ct oc : Value} {an od : Option Addr} {osl : Array (Option Value)}
    (ho : (hd.heap_1 w.params).lookup f = some ⟨oc, od, .func (fnOf name qual params body scope dV kV doc pm an cdv ct), osl⟩) (hcd : codeIn (hd.heap_1 w.params) cdv qual = true)
    (hb : bindArgs (fnOf name qual params body scope dV kV doc pm an cdv ct) ⟨vs, []⟩ = pure (names.zip vs)) (hkind : ((names.zip vs).all fun y => scope.names.lookup y.1 == some .local || scope.names.lookup y.1 == some .cell) = true)
    (hco : scope.isCoroutine = false) (hgen : scope.isGenerator = false) (hkd : scope.kind = .function) (hnd : ((cellsFrom 0 scope.names []).map (·.1)).Nodup)
    (h : BdC w f k vs news R names qual body scope cdv (wp15 (BdC w f k vs news R names qual body scope cdv)).p (wp15 (BdC w f k vs news R names qual body scope cdv)).loose (wp15 (BdC w f k vs news R names qual body scope cdv)).mean (wp15 (BdC w f k vs news R names qual body scope cdv)).mg (wp15 (BdC w f k vs news R names qual body scope cdv)).mb (wp15 (BdC w f k vs news R names qual body scope cdv)).dp (wp15 (BdC w f k vs news R names qual body scope cdv)).un (wp15 (BdC w f k vs news R names qual body scope cdv)).gd (wp15 (BdC w f k vs news R names qual body scope cdv)).outer (wp15 (BdC w f k vs news R names qual body scope cdv)).A₀ (wp15 (BdC w f k vs news R names qual body scope cdv)).base (wp15 (BdC w f k vs news R names qual body scope cdv)).g (wp15 (BdC w f k vs news R names qual body scope cdv)).L (wp15 (BdC w f k vs news R names qual body scope cdv)).s (wp15 (BdC w f k vs news R names qual body scope cdv)).cells) : Ctr w f (k + 1) vs news R :=
  ctr_ofC names ho hcd hb hkind hco hgen hkd hnd (all15 (P := BdC w f k vs news R names qual body scope cdv) h)
noncomputable def wk2 {A1 A2 : Type} (ne : Nonempty ((A1 × A2))) (P : A1 → A2 → Prop) : (A1 × A2) := pick ne (fun c => P c.1 c.2)
theorem pk2 {A1 A2 : Type} {P : A1 → A2 → Prop} (ne : Nonempty ((A1 × A2))) (h : P (wk2 ne P).1 (wk2 ne P).2) : ∀ (a1 : A1) (a2 : A2), P a1 a2 := fun a1 a2 => pick_all (p := fun c : (A1 × A2) => P c.1 c.2) h (a1, a2)
noncomputable def wk4 {A1 A2 A3 A4 : Type} (ne : Nonempty ((A1 × A2 × A3 × A4))) (P : A1 → A2 → A3 → A4 → Prop) : (A1 × A2 × A3 × A4) := pick ne (fun c => P c.1 c.2.1 c.2.2.1 c.2.2.2)
theorem pk4 {A1 A2 A3 A4 : Type} {P : A1 → A2 → A3 → A4 → Prop} (ne : Nonempty ((A1 × A2 × A3 × A4))) (h : P (wk4 ne P).1 (wk4 ne P).2.1 (wk4 ne P).2.2.1 (wk4 ne P).2.2.2) : ∀ (a1 : A1) (a2 : A2) (a3 : A3) (a4 : A4), P a1 a2 a3 a4 := fun a1 a2 a3 a4 => pick_all (p := fun c : (A1 × A2 × A3 × A4) => P c.1 c.2.1 c.2.2.1 c.2.2.2) h (a1, a2, a3, a4)
noncomputable def wk5 {A1 A2 A3 A4 A5 : Type} (ne : Nonempty ((A1 × A2 × A3 × A4 × A5))) (P : A1 → A2 → A3 → A4 → A5 → Prop) : (A1 × A2 × A3 × A4 × A5) := pick ne (fun c => P c.1 c.2.1 c.2.2.1 c.2.2.2.1 c.2.2.2.2)
theorem pk5 {A1 A2 A3 A4 A5 : Type} {P : A1 → A2 → A3 → A4 → A5 → Prop} (ne : Nonempty ((A1 × A2 × A3 × A4 × A5))) (h : P (wk5 ne P).1 (wk5 ne P).2.1 (wk5 ne P).2.2.1 (wk5 ne P).2.2.2.1 (wk5 ne P).2.2.2.2) : ∀ (a1 : A1) (a2 : A2) (a3 : A3) (a4 : A4) (a5 : A5), P a1 a2 a3 a4 a5 := fun a1 a2 a3 a4 a5 => pick_all (p := fun c : (A1 × A2 × A3 × A4 × A5) => P c.1 c.2.1 c.2.2.1 c.2.2.2.1 c.2.2.2.2) h (a1, a2, a3, a4, a5)
noncomputable def wk6 {A1 A2 A3 A4 A5 A6 : Type} (ne : Nonempty ((A1 × A2 × A3 × A4 × A5 × A6))) (P : A1 → A2 → A3 → A4 → A5 → A6 → Prop) : (A1 × A2 × A3 × A4 × A5 × A6) := pick ne (fun c => P c.1 c.2.1 c.2.2.1 c.2.2.2.1 c.2.2.2.2.1 c.2.2.2.2.2)
theorem pk6 {A1 A2 A3 A4 A5 A6 : Type} {P : A1 → A2 → A3 → A4 → A5 → A6 → Prop} (ne : Nonempty ((A1 × A2 × A3 × A4 × A5 × A6))) (h : P (wk6 ne P).1 (wk6 ne P).2.1 (wk6 ne P).2.2.1 (wk6 ne P).2.2.2.1 (wk6 ne P).2.2.2.2.1 (wk6 ne P).2.2.2.2.2) : ∀ (a1 : A1) (a2 : A2) (a3 : A3) (a4 : A4) (a5 : A5) (a6 : A6), P a1 a2 a3 a4 a5 a6 := fun a1 a2 a3 a4 a5 a6 => pick_all (p := fun c : (A1 × A2 × A3 × A4 × A5 × A6) => P c.1 c.2.1 c.2.2.1 c.2.2.2.1 c.2.2.2.2.1 c.2.2.2.2.2) h (a1, a2, a3, a4, a5, a6)
noncomputable def wk7 {A1 A2 A3 A4 A5 A6 A7 : Type} (ne : Nonempty ((A1 × A2 × A3 × A4 × A5 × A6 × A7))) (P : A1 → A2 → A3 → A4 → A5 → A6 → A7 → Prop) : (A1 × A2 × A3 × A4 × A5 × A6 × A7) := pick ne (fun c => P c.1 c.2.1 c.2.2.1 c.2.2.2.1 c.2.2.2.2.1 c.2.2.2.2.2.1 c.2.2.2.2.2.2)
theorem pk7 {A1 A2 A3 A4 A5 A6 A7 : Type} {P : A1 → A2 → A3 → A4 → A5 → A6 → A7 → Prop} (ne : Nonempty ((A1 × A2 × A3 × A4 × A5 × A6 × A7))) (h : P (wk7 ne P).1 (wk7 ne P).2.1 (wk7 ne P).2.2.1 (wk7 ne P).2.2.2.1 (wk7 ne P).2.2.2.2.1 (wk7 ne P).2.2.2.2.2.1 (wk7 ne P).2.2.2.2.2.2) : ∀ (a1 : A1) (a2 : A2) (a3 : A3) (a4 : A4) (a5 : A5) (a6 : A6) (a7 : A7), P a1 a2 a3 a4 a5 a6 a7 := fun a1 a2 a3 a4 a5 a6 a7 => pick_all (p := fun c : (A1 × A2 × A3 × A4 × A5 × A6 × A7) => P c.1 c.2.1 c.2.2.1 c.2.2.2.1 c.2.2.2.2.1 c.2.2.2.2.2.1 c.2.2.2.2.2.2) h (a1, a2, a3, a4, a5, a6, a7)
noncomputable def wk8 {A1 A2 A3 A4 A5 A6 A7 A8 : Type} (ne : Nonempty ((A1 × A2 × A3 × A4 × A5 × A6 × A7 × A8))) (P : A1 → A2 → A3 → A4 → A5 → A6 → A7 → A8 → Prop) : (A1 × A2 × A3 × A4 × A5 × A6 × A7 × A8) := pick ne (fun c => P c.1 c.2.1 c.2.2.1 c.2.2.2.1 c.2.2.2.2.1 c.2.2.2.2.2.1 c.2.2.2.2.2.2.1 c.2.2.2.2.2.2.2)
theorem pk8 {A1 A2 A3 A4 A5 A6 A7 A8 : Type} {P : A1 → A2 → A3 → A4 → A5 → A6 → A7 → A8 → Prop} (ne : Nonempty ((A1 × A2 × A3 × A4 × A5 × A6 × A7 × A8))) (h : P (wk8 ne P).1 (wk8 ne P).2.1 (wk8 ne P).2.2.1 (wk8 ne P).2.2.2.1 (wk8 ne P).2.2.2.2.1 (wk8 ne P).2.2.2.2.2.1 (wk8 ne P).2.2.2.2.2.2.1 (wk8 ne P).2.2.2.2.2.2.2) : ∀ (a1 : A1) (a2 : A2) (a3 : A3) (a4 : A4) (a5 : A5) (a6 : A6) (a7 : A7) (a8 : A8), P a1 a2 a3 a4 a5 a6 a7 a8 := fun a1 a2 a3 a4 a5 a6 a7 a8 => pick_all (p := fun c : (A1 × A2 × A3 × A4 × A5 × A6 × A7 × A8) => P c.1 c.2.1 c.2.2.1 c.2.2.2.1 c.2.2.2.2.1 c.2.2.2.2.2.1 c.2.2.2.2.2.2.1 c.2.2.2.2.2.2.2) h (a1, a2, a3, a4, a5, a6, a7, a8)
noncomputable def wk9 {A1 A2 A3 A4 A5 A6 A7 A8 A9 : Type} (ne : Nonempty (((A1 × A2 × A3 × A4 × A5 × A6 × A7 × A8) × A9))) (P : A1 → A2 → A3 → A4 → A5 → A6 → A7 → A8 → A9 → Prop) : ((A1 × A2 × A3 × A4 × A5 × A6 × A7 × A8) × A9) := pick ne (fun c => P c.1.1 c.1.2.1 c.1.2.2.1 c.1.2.2.2.1 c.1.2.2.2.2.1 c.1.2.2.2.2.2.1 c.1.2.2.2.2.2.2.1 c.1.2.2.2.2.2.2.2 c.2)
theorem pk9 {A1 A2 A3 A4 A5 A6 A7 A8 A9 : Type} {P : A1 → A2 → A3 → A4 → A5 → A6 → A7 → A8 → A9 → Prop} (ne : Nonempty (((A1 × A2 × A3 × A4 × A5 × A6 × A7 × A8) × A9))) (h : P (wk9 ne P).1.1 (wk9 ne P).1.2.1 (wk9 ne P).1.2.2.1 (wk9 ne P).1.2.2.2.1 (wk9 ne P).1.2.2.2.2.1 (wk9 ne P).1.2.2.2.2.2.1 (wk9 ne P).1.2.2.2.2.2.2.1 (wk9 ne P).1.2.2.2.2.2.2.2 (wk9 ne P).2) : ∀ (a1 : A1) (a2 : A2) (a3 : A3) (a4 : A4) (a5 : A5) (a6 : A6) (a7 : A7) (a8 : A8) (a9 : A9), P a1 a2 a3 a4 a5 a6 a7 a8 a9 := fun a1 a2 a3 a4 a5 a6 a7 a8 a9 => pick_all (p := fun c : ((A1 × A2 × A3 × A4 × A5 × A6 × A7 × A8) × A9) => P c.1.1 c.1.2.1 c.1.2.2.1 c.1.2.2.2.1 c.1.2.2.2.2.1 c.1.2.2.2.2.2.1 c.1.2.2.2.2.2.2.1 c.1.2.2.2.2.2.2.2 c.2) h ((a1, a2, a3, a4, a5, a6, a7, a8), a9)
noncomputable def wk10 {A1 A2 A3 A4 A5 A6 A7 A8 A9 A10 : Type} (ne : Nonempty (((A1 × A2 × A3 × A4 × A5 × A6 × A7 × A8) × (A9 × A10)))) (P : A1 → A2 → A3 → A4 → A5 → A6 → A7 → A8 → A9 → A10 → Prop) : ((A1 × A2 × A3 × A4 × A5 × A6 × A7 × A8) × (A9 × A10)) := pick ne (fun c => P c.1.1 c.1.2.1 c.1.2.2.1 c.1.2.2.2.1 c.1.2.2.2.2.1 c.1.2.2.2.2.2.1 c.1.2.2.2.2.2.2.1 c.1.2.2.2.2.2.2.2 c.2.1 c.2.2)
theorem pk10 {A1 A2 A3 A4 A5 A6 A7 A8 A9 A10 : Type} {P : A1 → A2 → A3 → A4 → A5 → A6 → A7 → A8 → A9 → A10 → Prop} (ne : Nonempty (((A1 × A2 × A3 × A4 × A5 × A6 × A7 × A8) × (A9 × A10)))) (h : P (wk10 ne P).1.1 (wk10 ne P).1.2.1 (wk10 ne P).1.2.2.1 (wk10 ne P).1.2.2.2.1 (wk10 ne P).1.2.2.2.2.1 (wk10 ne P).1.2.2.2.2.2.1 (wk10 ne P).1.2.2.2.2.2.2.1 (wk10 ne P).1.2.2.2.2.2.2.2 (wk10 ne P).2.1 (wk10 ne P).2.2) : ∀ (a1 : A1) (a2 : A2) (a3 : A3) (a4 : A4) (a5 : A5) (a6 : A6) (a7 : A7) (a8 : A8) (a9 : A9) (a10 : A10), P a1 a2 a3 a4 a5 a6 a7 a8 a9 a10 := fun a1 a2 a3 a4 a5 a6 a7 a8 a9 a10 => pick_all (p := fun c : ((A1 × A2 × A3 × A4 × A5 × A6 × A7 × A8) × (A9 × A10)) => P c.1.1 c.1.2.1 c.1.2.2.1 c.1.2.2.2.1 c.1.2.2.2.2.1 c.1.2.2.2.2.2.1 c.1.2.2.2.2.2.2.1 c.1.2.2.2.2.2.2.2 c.2.1 c.2.2) h ((a1, a2, a3, a4, a5, a6, a7, a8), (a9, a10))
noncomputable def wk11 {A1 A2 A3 A4 A5 A6 A7 A8 A9 A10 A11 : Type} (ne : Nonempty (((A1 × A2 × A3 × A4 × A5 × A6 × A7 × A8) × (A9 × A10 × A11)))) (P : A1 → A2 → A3 → A4 → A5 → A6 → A7 → A8 → A9 → A10 → A11 → Prop) : ((A1 × A2 × A3 × A4 × A5 × A6 × A7 × A8) × (A9 × A10 × A11)) := pick ne (fun c => P c.1.1 c.1.2.1 c.1.2.2.1 c.1.2.2.2.1 c.1.2.2.2.2.1 c.1.2.2.2.2.2.1 c.1.2.2.2.2.2.2.1 c.1.2.2.2.2.2.2.2 c.2.1 c.2.2.1 c.2.2.2)
theorem pk11 {A1 A2 A3 A4 A5 A6 A7 A8 A9 A10 A11 : Type} {P : A1 → A2 → A3 → A4 → A5 → A6 → A7 → A8 → A9 → A10 → A11 → Prop} (ne : Nonempty (((A1 × A2 × A3 × A4 × A5 × A6 × A7 × A8) × (A9 × A10 × A11)))) (h : P (wk11 ne P).1.1 (wk11 ne P).1.2.1 (wk11 ne P).1.2.2.1 (wk11 ne P).1.2.2.2.1 (wk11 ne P).1.2.2.2.2.1 (wk11 ne P).1.2.2.2.2.2.1 (wk11 ne P).1.2.2.2.2.2.2.1 (wk11 ne P).1.2.2.2.2.2.2.2 (wk11 ne P).2.1 (wk11 ne P).2.2.1 (wk11 ne P).2.2.2) : ∀ (a1 : A1) (a2 : A2) (a3 : A3) (a4 : A4) (a5 : A5) (a6 : A6) (a7 : A7) (a8 : A8) (a9 : A9) (a10 : A10) (a11 : A11), P a1 a2 a3 a4 a5 a6 a7 a8 a9 a10 a11 := fun a1 a2 a3 a4 a5 a6 a7 a8 a9 a10 a11 => pick_all (p := fun c : ((A1 × A2 × A3 × A4 × A5 × A6 × A7 × A8) × (A9 × A10 × A11)) => P c.1.1 c.1.2.1 c.1.2.2.1 c.1.2.2.2.1 c.1.2.2.2.2.1 c.1.2.2.2.2.2.1 c.1.2.2.2.2.2.2.1 c.1.2.2.2.2.2.2.2 c.2.1 c.2.2.1 c.2.2.2) h ((a1, a2, a3, a4, a5, a6, a7, a8), (a9, a10, a11))
noncomputable def wk13 {A1 A2 A3 A4 A5 A6 A7 A8 A9 A10 A11 A12 A13 : Type} (ne : Nonempty (((A1 × A2 × A3 × A4 × A5 × A6 × A7 × A8) × (A9 × A10 × A11 × A12 × A13)))) (P : A1 → A2 → A3 → A4 → A5 → A6 → A7 → A8 → A9 → A10 → A11 → A12 → A13 → Prop) : ((A1 × A2 × A3 × A4 × A5 × A6 × A7 × A8) × (A9 × A10 × A11 × A12 × A13)) := pick ne (fun c => P c.1.1 c.1.2.1 c.1.2.2.1 c.1.2.2.2.1 c.1.2.2.2.2.1 c.1.2.2.2.2.2.1 c.1.2.2.2.2.2.2.1 c.1.2.2.2.2.2.2.2 c.2.1 c.2.2.1 c.2.2.2.1 c.2.2.2.2.1 c.2.2.2.2.2)
theorem pk13 {A1 A2 A3 A4 A5 A6 A7 A8 A9 A10 A11 A12 A13 : Type} {P : A1 → A2 → A3 → A4 → A5 → A6 → A7 → A8 → A9 → A10 → A11 → A12 → A13 → Prop} (ne : Nonempty (((A1 × A2 × A3 × A4 × A5 × A6 × A7 × A8) × (A9 × A10 × A11 × A12 × A13)))) (h : P (wk13 ne P).1.1 (wk13 ne P).1.2.1 (wk13 ne P).1.2.2.1 (wk13 ne P).1.2.2.2.1 (wk13 ne P).1.2.2.2.2.1 (wk13 ne P).1.2.2.2.2.2.1 (wk13 ne P).1.2.2.2.2.2.2.1 (wk13 ne P).1.2.2.2.2.2.2.2 (wk13 ne P).2.1 (wk13 ne P).2.2.1 (wk13 ne P).2.2.2.1 (wk13 ne P).2.2.2.2.1 (wk13 ne P).2.2.2.2.2) : ∀ (a1 : A1) (a2 : A2) (a3 : A3) (a4 : A4) (a5 : A5) (a6 : A6) (a7 : A7) (a8 : A8) (a9 : A9) (a10 : A10) (a11 : A11) (a12 : A12) (a13 : A13), P a1 a2 a3 a4 a5 a6 a7 a8 a9 a10 a11 a12 a13 := fun a1 a2 a3 a4 a5 a6 a7 a8 a9 a10 a11 a12 a13 => pick_all (p := fun c : ((A1 × A2 × A3 × A4 × A5 × A6 × A7 × A8) × (A9 × A10 × A11 × A12 × A13)) => P c.1.1 c.1.2.1 c.1.2.2.1 c.1.2.2.2.1 c.1.2.2.2.2.1 c.1.2.2.2.2.2.1 c.1.2.2.2.2.2.2.1 c.1.2.2.2.2.2.2.2 c.2.1 c.2.2.1 c.2.2.2.1 c.2.2.2.2.1 c.2.2.2.2.2) h ((a1, a2, a3, a4, a5, a6, a7, a8), (a9, a10, a11, a12, a13))
noncomputable def wk14 {A1 A2 A3 A4 A5 A6 A7 A8 A9 A10 A11 A12 A13 A14 : Type} (ne : Nonempty (((A1 × A2 × A3 × A4 × A5 × A6 × A7 × A8) × (A9 × A10 × A11 × A12 × A13 × A14)))) (P : A1 → A2 → A3 → A4 → A5 → A6 → A7 → A8 → A9 → A10 → A11 → A12 → A13 → A14 → Prop) : ((A1 × A2 × A3 × A4 × A5 × A6 × A7 × A8) × (A9 × A10 × A11 × A12 × A13 × A14)) := pick ne (fun c => P c.1.1 c.1.2.1 c.1.2.2.1 c.1.2.2.2.1 c.1.2.2.2.2.1 c.1.2.2.2.2.2.1 c.1.2.2.2.2.2.2.1 c.1.2.2.2.2.2.2.2 c.2.1 c.2.2.1 c.2.2.2.1 c.2.2.2.2.1 c.2.2.2.2.2.1 c.2.2.2.2.2.2)
theorem pk14 {A1 A2 A3 A4 A5 A6 A7 A8 A9 A10 A11 A12 A13 A14 : Type} {P : A1 → A2 → A3 → A4 → A5 → A6 → A7 → A8 → A9 → A10 → A11 → A12 → A13 → A14 → Prop} (ne : Nonempty (((A1 × A2 × A3 × A4 × A5 × A6 × A7 × A8) × (A9 × A10 × A11 × A12 × A13 × A14)))) (h : P (wk14 ne P).1.1 (wk14 ne P).1.2.1 (wk14 ne P).1.2.2.1 (wk14 ne P).1.2.2.2.1 (wk14 ne P).1.2.2.2.2.1 (wk14 ne P).1.2.2.2.2.2.1 (wk14 ne P).1.2.2.2.2.2.2.1 (wk14 ne P).1.2.2.2.2.2.2.2 (wk14 ne P).2.1 (wk14 ne P).2.2.1 (wk14 ne P).2.2.2.1 (wk14 ne P).2.2.2.2.1 (wk14 ne P).2.2.2.2.2.1 (wk14 ne P).2.2.2.2.2.2) : ∀ (a1 : A1) (a2 : A2) (a3 : A3) (a4 : A4) (a5 : A5) (a6 : A6) (a7 : A7) (a8 : A8) (a9 : A9) (a10 : A10) (a11 : A11) (a12 : A12) (a13 : A13) (a14 : A14), P a1 a2 a3 a4 a5 a6 a7 a8 a9 a10 a11 a12 a13 a14 := fun a1 a2 a3 a4 a5 a6 a7 a8 a9 a10 a11 a12 a13 a14 => pick_all (p := fun c : ((A1 × A2 × A3 × A4 × A5 × A6 × A7 × A8) × (A9 × A10 × A11 × A12 × A13 × A14)) => P c.1.1 c.1.2.1 c.1.2.2.1 c.1.2.2.2.1 c.1.2.2.2.2.1 c.1.2.2.2.2.2.1 c.1.2.2.2.2.2.2.1 c.1.2.2.2.2.2.2.2 c.2.1 c.2.2.1 c.2.2.2.1 c.2.2.2.2.1 c.2.2.2.2.2.1 c.2.2.2.2.2.2) h ((a1, a2, a3, a4, a5, a6, a7, a8), (a9, a10, a11, a12, a13, a14))
noncomputable def wk15 {A1 A2 A3 A4 A5 A6 A7 A8 A9 A10 A11 A12 A13 A14 A15 : Type} (ne : Nonempty (((A1 × A2 × A3 × A4 × A5 × A6 × A7 × A8) × (A9 × A10 × A11 × A12 × A13 × A14 × A15)))) (P : A1 → A2 → A3 → A4 → A5 → A6 → A7 → A8 → A9 → A10 → A11 → A12 → A13 → A14 → A15 → Prop) : ((A1 × A2 × A3 × A4 × A5 × A6 × A7 × A8) × (A9 × A10 × A11 × A12 × A13 × A14 × A15)) := pick ne (fun c => P c.1.1 c.1.2.1 c.1.2.2.1 c.1.2.2.2.1 c.1.2.2.2.2.1 c.1.2.2.2.2.2.1 c.1.2.2.2.2.2.2.1 c.1.2.2.2.2.2.2.2 c.2.1 c.2.2.1 c.2.2.2.1 c.2.2.2.2.1 c.2.2.2.2.2.1 c.2.2.2.2.2.2.1 c.2.2.2.2.2.2.2)
theorem pk15 {A1 A2 A3 A4 A5 A6 A7 A8 A9 A10 A11 A12 A13 A14 A15 : Type} {P : A1 → A2 → A3 → A4 → A5 → A6 → A7 → A8 → A9 → A10 → A11 → A12 → A13 → A14 → A15 → Prop} (ne : Nonempty (((A1 × A2 × A3 × A4 × A5 × A6 × A7 × A8) × (A9 × A10 × A11 × A12 × A13 × A14 × A15)))) (h : P (wk15 ne P).1.1 (wk15 ne P).1.2.1 (wk15 ne P).1.2.2.1 (wk15 ne P).1.2.2.2.1 (wk15 ne P).1.2.2.2.2.1 (wk15 ne P).1.2.2.2.2.2.1 (wk15 ne P).1.2.2.2.2.2.2.1 (wk15 ne P).1.2.2.2.2.2.2.2 (wk15 ne P).2.1 (wk15 ne P).2.2.1 (wk15 ne P).2.2.2.1 (wk15 ne P).2.2.2.2.1 (wk15 ne P).2.2.2.2.2.1 (wk15 ne P).2.2.2.2.2.2.1 (wk15 ne P).2.2.2.2.2.2.2) : ∀ (a1 : A1) (a2 : A2) (a3 : A3) (a4 : A4) (a5 : A5) (a6 : A6) (a7 : A7) (a8 : A8) (a9 : A9) (a10 : A10) (a11 : A11) (a12 : A12) (a13 : A13) (a14 : A14) (a15 : A15), P a1 a2 a3 a4 a5 a6 a7 a8 a9 a10 a11 a12 a13 a14 a15 := fun a1 a2 a3 a4 a5 a6 a7 a8 a9 a10 a11 a12 a13 a14 a15 => pick_all (p := fun c : ((A1 × A2 × A3 × A4 × A5 × A6 × A7 × A8) × (A9 × A10 × A11 × A12 × A13 × A14 × A15)) => P c.1.1 c.1.2.1 c.1.2.2.1 c.1.2.2.2.1 c.1.2.2.2.2.1 c.1.2.2.2.2.2.1 c.1.2.2.2.2.2.2.1 c.1.2.2.2.2.2.2.2 c.2.1 c.2.2.1 c.2.2.2.1 c.2.2.2.2.1 c.2.2.2.2.2.1 c.2.2.2.2.2.2.1 c.2.2.2.2.2.2.2) h ((a1, a2, a3, a4, a5, a6, a7, a8), (a9, a10, a11, a12, a13, a14, a15))
noncomputable def wk16 {A1 A2 A3 A4 A5 A6 A7 A8 A9 A10 A11 A12 A13 A14 A15 A16 : Type} (ne : Nonempty (((A1 × A2 × A3 × A4 × A5 × A6 × A7 × A8) × (A9 × A10 × A11 × A12 × A13 × A14 × A15 × A16)))) (P : A1 → A2 → A3 → A4 → A5 → A6 → A7 → A8 → A9 → A10 → A11 → A12 → A13 → A14 → A15 → A16 → Prop) : ((A1 × A2 × A3 × A4 × A5 × A6 × A7 × A8) × (A9 × A10 × A11 × A12 × A13 × A14 × A15 × A16)) := pick ne (fun c => P c.1.1 c.1.2.1 c.1.2.2.1 c.1.2.2.2.1 c.1.2.2.2.2.1 c.1.2.2.2.2.2.1 c.1.2.2.2.2.2.2.1 c.1.2.2.2.2.2.2.2 c.2.1 c.2.2.1 c.2.2.2.1 c.2.2.2.2.1 c.2.2.2.2.2.1 c.2.2.2.2.2.2.1 c.2.2.2.2.2.2.2.1 c.2.2.2.2.2.2.2.2)
theorem pk16 {A1 A2 A3 A4 A5 A6 A7 A8 A9 A10 A11 A12 A13 A14 A15 A16 : Type} {P : A1 → A2 → A3 → A4 → A5 → A6 → A7 → A8 → A9 → A10 → A11 → A12 → A13 → A14 → A15 → A16 → Prop} (ne : Nonempty (((A1 × A2 × A3 × A4 × A5 × A6 × A7 × A8) × (A9 × A10 × A11 × A12 × A13 × A14 × A15 × A16)))) (h : P (wk16 ne P).1.1 (wk16 ne P).1.2.1 (wk16 ne P).1.2.2.1 (wk16 ne P).1.2.2.2.1 (wk16 ne P).1.2.2.2.2.1 (wk16 ne P).1.2.2.2.2.2.1 (wk16 ne P).1.2.2.2.2.2.2.1 (wk16 ne P).1.2.2.2.2.2.2.2 (wk16 ne P).2.1 (wk16 ne P).2.2.1 (wk16 ne P).2.2.2.1 (wk16 ne P).2.2.2.2.1 (wk16 ne P).2.2.2.2.2.1 (wk16 ne P).2.2.2.2.2.2.1 (wk16 ne P).2.2.2.2.2.2.2.1 (wk16 ne P).2.2.2.2.2.2.2.2) : ∀ (a1 : A1) (a2 : A2) (a3 : A3) (a4 : A4) (a5 : A5) (a6 : A6) (a7 : A7) (a8 : A8) (a9 : A9) (a10 : A10) (a11 : A11) (a12 : A12) (a13 : A13) (a14 : A14) (a15 : A15) (a16 : A16), P a1 a2 a3 a4 a5 a6 a7 a8 a9 a10 a11 a12 a13 a14 a15 a16 := fun a1 a2 a3 a4 a5 a6 a7 a8 a9 a10 a11 a12 a13 a14 a15 a16 => pick_all (p := fun c : ((A1 × A2 × A3 × A4 × A5 × A6 × A7 × A8) × (A9 × A10 × A11 × A12 × A13 × A14 × A15 × A16)) => P c.1.1 c.1.2.1 c.1.2.2.1 c.1.2.2.2.1 c.1.2.2.2.2.1 c.1.2.2.2.2.2.1 c.1.2.2.2.2.2.2.1 c.1.2.2.2.2.2.2.2 c.2.1 c.2.2.1 c.2.2.2.1 c.2.2.2.2.1 c.2.2.2.2.2.1 c.2.2.2.2.2.2.1 c.2.2.2.2.2.2.2.1 c.2.2.2.2.2.2.2.2) h ((a1, a2, a3, a4, a5, a6, a7, a8), (a9, a10, a11, a12, a13, a14, a15, a16))
noncomputable def wk17 {A1 A2 A3 A4 A5 A6 A7 A8 A9 A10 A11 A12 A13 A14 A15 A16 A17 : Type} (ne : Nonempty (((A1 × A2 × A3 × A4 × A5 × A6 × A7 × A8) × (A9 × A10 × A11 × A12 × A13 × A14 × A15 × A16) × A17))) (P : A1 → A2 → A3 → A4 → A5 → A6 → A7 → A8 → A9 → A10 → A11 → A12 → A13 → A14 → A15 → A16 → A17 → Prop) : ((A1 × A2 × A3 × A4 × A5 × A6 × A7 × A8) × (A9 × A10 × A11 × A12 × A13 × A14 × A15 × A16) × A17) := pick ne (fun c => P c.1.1 c.1.2.1 c.1.2.2.1 c.1.2.2.2.1 c.1.2.2.2.2.1 c.1.2.2.2.2.2.1 c.1.2.2.2.2.2.2.1 c.1.2.2.2.2.2.2.2 c.2.1.1 c.2.1.2.1 c.2.1.2.2.1 c.2.1.2.2.2.1 c.2.1.2.2.2.2.1 c.2.1.2.2.2.2.2.1 c.2.1.2.2.2.2.2.2.1 c.2.1.2.2.2.2.2.2.2 c.2.2)
theorem pk17 {A1 A2 A3 A4 A5 A6 A7 A8 A9 A10 A11 A12 A13 A14 A15 A16 A17 : Type} {P : A1 → A2 → A3 → A4 → A5 → A6 → A7 → A8 → A9 → A10 → A11 → A12 → A13 → A14 → A15 → A16 → A17 → Prop} (ne : Nonempty (((A1 × A2 × A3 × A4 × A5 × A6 × A7 × A8) × (A9 × A10 × A11 × A12 × A13 × A14 × A15 × A16) × A17))) (h : P (wk17 ne P).1.1 (wk17 ne P).1.2.1 (wk17 ne P).1.2.2.1 (wk17 ne P).1.2.2.2.1 (wk17 ne P).1.2.2.2.2.1 (wk17 ne P).1.2.2.2.2.2.1 (wk17 ne P).1.2.2.2.2.2.2.1 (wk17 ne P).1.2.2.2.2.2.2.2 (wk17 ne P).2.1.1 (wk17 ne P).2.1.2.1 (wk17 ne P).2.1.2.2.1 (wk17 ne P).2.1.2.2.2.1 (wk17 ne P).2.1.2.2.2.2.1 (wk17 ne P).2.1.2.2.2.2.2.1 (wk17 ne P).2.1.2.2.2.2.2.2.1 (wk17 ne P).2.1.2.2.2.2.2.2.2 (wk17 ne P).2.2) : ∀ (a1 : A1) (a2 : A2) (a3 : A3) (a4 : A4) (a5 : A5) (a6 : A6) (a7 : A7) (a8 : A8) (a9 : A9) (a10 : A10) (a11 : A11) (a12 : A12) (a13 : A13) (a14 : A14) (a15 : A15) (a16 : A16) (a17 : A17), P a1 a2 a3 a4 a5 a6 a7 a8 a9 a10 a11 a12 a13 a14 a15 a16 a17 := fun a1 a2 a3 a4 a5 a6 a7 a8 a9 a10 a11 a12 a13 a14 a15 a16 a17 => pick_all (p := fun c : ((A1 × A2 × A3 × A4 × A5 × A6 × A7 × A8) × (A9 × A10 × A11 × A12 × A13 × A14 × A15 × A16) × A17) => P c.1.1 c.1.2.1 c.1.2.2.1 c.1.2.2.2.1 c.1.2.2.2.2.1 c.1.2.2.2.2.2.1 c.1.2.2.2.2.2.2.1 c.1.2.2.2.2.2.2.2 c.2.1.1 c.2.1.2.1 c.2.1.2.2.1 c.2.1.2.2.2.1 c.2.1.2.2.2.2.1 c.2.1.2.2.2.2.2.1 c.2.1.2.2.2.2.2.2.1 c.2.1.2.2.2.2.2.2.2 c.2.2) h ((a1, a2, a3, a4, a5, a6, a7, a8), (a9, a10, a11, a12, a13, a14, a15, a16), a17)
noncomputable def wk27 {A1 A2 A3 A4 A5 A6 A7 A8 A9 A10 A11 A12 A13 A14 A15 A16 A17 A18 A19 A20 A21 A22 A23 A24 A25 A26 A27 : Type} (ne : Nonempty (((A1 × A2 × A3 × A4 × A5 × A6 × A7 × A8) × (A9 × A10 × A11 × A12 × A13 × A14 × A15 × A16) × (A17 × A18 × A19 × A20 × A21 × A22 × A23 × A24) × (A25 × A26 × A27)))) (P : A1 → A2 → A3 → A4 → A5 → A6 → A7 → A8 → A9 → A10 → A11 → A12 → A13 → A14 → A15 → A16 → A17 → A18 → A19 → A20 → A21 → A22 → A23 → A24 → A25 → A26 → A27 → Prop) : ((A1 × A2 × A3 × A4 × A5 × A6 × A7 × A8) × (A9 × A10 × A11 × A12 × A13 × A14 × A15 × A16) × (A17 × A18 × A19 × A20 × A21 × A22 × A23 × A24) × (A25 × A26 × A27)) := pick ne (fun c => P c.1.1 c.1.2.1 c.1.2.2.1 c.1.2.2.2.1 c.1.2.2.2.2.1 c.1.2.2.2.2.2.1 c.1.2.2.2.2.2.2.1 c.1.2.2.2.2.2.2.2 c.2.1.1 c.2.1.2.1 c.2.1.2.2.1 c.2.1.2.2.2.1 c.2.1.2.2.2.2.1 c.2.1.2.2.2.2.2.1 c.2.1.2.2.2.2.2.2.1 c.2.1.2.2.2.2.2.2.2 c.2.2.1.1 c.2.2.1.2.1 c.2.2.1.2.2.1 c.2.2.1.2.2.2.1 c.2.2.1.2.2.2.2.1 c.2.2.1.2.2.2.2.2.1 c.2.2.1.2.2.2.2.2.2.1 c.2.2.1.2.2.2.2.2.2.2 c.2.2.2.1 c.2.2.2.2.1 c.2.2.2.2.2)
theorem pk27 {A1 A2 A3 A4 A5 A6 A7 A8 A9 A10 A11 A12 A13 A14 A15 A16 A17 A18 A19 A20 A21 A22 A23 A24 A25 A26 A27 : Type} {P : A1 → A2 → A3 → A4 → A5 → A6 → A7 → A8 → A9 → A10 → A11 → A12 → A13 → A14 → A15 → A16 → A17 → A18 → A19 → A20 → A21 → A22 → A23 → A24 → A25 → A26 → A27 → Prop} (ne : Nonempty (((A1 × A2 × A3 × A4 × A5 × A6 × A7 × A8) × (A9 × A10 × A11 × A12 × A13 × A14 × A15 × A16) × (A17 × A18 × A19 × A20 × A21 × A22 × A23 × A24) × (A25 × A26 × A27)))) (h : P (wk27 ne P).1.1 (wk27 ne P).1.2.1 (wk27 ne P).1.2.2.1 (wk27 ne P).1.2.2.2.1 (wk27 ne P).1.2.2.2.2.1 (wk27 ne P).1.2.2.2.2.2.1 (wk27 ne P).1.2.2.2.2.2.2.1 (wk27 ne P).1.2.2.2.2.2.2.2 (wk27 ne P).2.1.1 (wk27 ne P).2.1.2.1 (wk27 ne P).2.1.2.2.1 (wk27 ne P).2.1.2.2.2.1 (wk27 ne P).2.1.2.2.2.2.1 (wk27 ne P).2.1.2.2.2.2.2.1 (wk27 ne P).2.1.2.2.2.2.2.2.1 (wk27 ne P).2.1.2.2.2.2.2.2.2 (wk27 ne P).2.2.1.1 (wk27 ne P).2.2.1.2.1 (wk27 ne P).2.2.1.2.2.1 (wk27 ne P).2.2.1.2.2.2.1 (wk27 ne P).2.2.1.2.2.2.2.1 (wk27 ne P).2.2.1.2.2.2.2.2.1 (wk27 ne P).2.2.1.2.2.2.2.2.2.1 (wk27 ne P).2.2.1.2.2.2.2.2.2.2 (wk27 ne P).2.2.2.1 (wk27 ne P).2.2.2.2.1 (wk27 ne P).2.2.2.2.2) : ∀ (a1 : A1) (a2 : A2) (a3 : A3) (a4 : A4) (a5 : A5) (a6 : A6) (a7 : A7) (a8 : A8) (a9 : A9) (a10 : A10) (a11 : A11) (a12 : A12) (a13 : A13) (a14 : A14) (a15 : A15) (a16 : A16) (a17 : A17) (a18 : A18) (a19 : A19) (a20 : A20) (a21 : A21) (a22 : A22) (a23 : A23) (a24 : A24) (a25 : A25) (a26 : A26) (a27 : A27), P a1 a2 a3 a4 a5 a6 a7 a8 a9 a10 a11 a12 a13 a14 a15 a16 a17 a18 a19 a20 a21 a22 a23 a24 a25 a26 a27 := fun a1 a2 a3 a4 a5 a6 a7 a8 a9 a10 a11 a12 a13 a14 a15 a16 a17 a18 a19 a20 a21 a22 a23 a24 a25 a26 a27 => pick_all (p := fun c : ((A1 × A2 × A3 × A4 × A5 × A6 × A7 × A8) × (A9 × A10 × A11 × A12 × A13 × A14 × A15 × A16) × (A17 × A18 × A19 × A20 × A21 × A22 × A23 × A24) × (A25 × A26 × A27)) => P c.1.1 c.1.2.1 c.1.2.2.1 c.1.2.2.2.1 c.1.2.2.2.2.1 c.1.2.2.2.2.2.1 c.1.2.2.2.2.2.2.1 c.1.2.2.2.2.2.2.2 c.2.1.1 c.2.1.2.1 c.2.1.2.2.1 c.2.1.2.2.2.1 c.2.1.2.2.2.2.1 c.2.1.2.2.2.2.2.1 c.2.1.2.2.2.2.2.2.1 c.2.1.2.2.2.2.2.2.2 c.2.2.1.1 c.2.2.1.2.1 c.2.2.1.2.2.1 c.2.2.1.2.2.2.1 c.2.2.1.2.2.2.2.1 c.2.2.1.2.2.2.2.2.1 c.2.2.1.2.2.2.2.2.2.1 c.2.2.1.2.2.2.2.2.2.2 c.2.2.2.1 c.2.2.2.2.1 c.2.2.2.2.2) h ((a1, a2, a3, a4, a5, a6, a7, a8), (a9, a10, a11, a12, a13, a14, a15, a16), (a17, a18, a19, a20, a21, a22, a23, a24), (a25, a26, a27))
noncomputable def wk58 {A1 A2 A3 A4 A5 A6 A7 A8 A9 A10 A11 A12 A13 A14 A15 A16 A17 A18 A19 A20 A21 A22 A23 A24 A25 A26 A27 A28 A29 A30 A31 A32 A33 A34 A35 A36 A37 A38 A39 A40 A41 A42 A43 A44 A45 A46 A47 A48 A49 A50 A51 A52 A53 A54 A55 A56 A57 A58 : Type} (ne : Nonempty (((A1 × A2 × A3 × A4 × A5 × A6 × A7 × A8) × (A9 × A10 × A11 × A12 × A13 × A14 × A15 × A16) × (A17 × A18 × A19 × A20 × A21 × A22 × A23 × A24) × (A25 × A26 × A27 × A28 × A29 × A30 × A31 × A32) × (A33 × A34 × A35 × A36 × A37 × A38 × A39 × A40) × (A41 × A42 × A43 × A44 × A45 × A46 × A47 × A48) × (A49 × A50 × A51 × A52 × A53 × A54 × A55 × A56) × (A57 × A58)))) (P : A1 → A2 → A3 → A4 → A5 → A6 → A7 → A8 → A9 → A10 → A11 → A12 → A13 → A14 → A15 → A16 → A17 → A18 → A19 → A20 → A21 → A22 → A23 → A24 → A25 → A26 → A27 → A28 → A29 → A30 → A31 → A32 → A33 → A34 → A35 → A36 → A37 → A38 → A39 → A40 → A41 → A42 → A43 → A44 → A45 → A46 → A47 → A48 → A49 → A50 → A51 → A52 → A53 → A54 → A55 → A56 → A57 → A58 → Prop) : ((A1 × A2 × A3 × A4 × A5 × A6 × A7 × A8) × (A9 × A10 × A11 × A12 × A13 × A14 × A15 × A16) × (A17 × A18 × A19 × A20 × A21 × A22 × A23 × A24) × (A25 × A26 × A27 × A28 × A29 × A30 × A31 × A32) × (A33 × A34 × A35 × A36 × A37 × A38 × A39 × A40) × (A41 × A42 × A43 × A44 × A45 × A46 × A47 × A48) × (A49 × A50 × A51 × A52 × A53 × A54 × A55 × A56) × (A57 × A58)) := pick ne (fun c => P c.1.1 c.1.2.1 c.1.2.2.1 c.1.2.2.2.1 c.1.2.2.2.2.1 c.1.2.2.2.2.2.1 c.1.2.2.2.2.2.2.1 c.1.2.2.2.2.2.2.2 c.2.1.1 c.2.1.2.1 c.2.1.2.2.1 c.2.1.2.2.2.1 c.2.1.2.2.2.2.1 c.2.1.2.2.2.2.2.1 c.2.1.2.2.2.2.2.2.1 c.2.1.2.2.2.2.2.2.2 c.2.2.1.1 c.2.2.1.2.1 c.2.2.1.2.2.1 c.2.2.1.2.2.2.1 c.2.2.1.2.2.2.2.1 c.2.2.1.2.2.2.2.2.1 c.2.2.1.2.2.2.2.2.2.1 c.2.2.1.2.2.2.2.2.2.2 c.2.2.2.1.1 c.2.2.2.1.2.1 c.2.2.2.1.2.2.1 c.2.2.2.1.2.2.2.1 c.2.2.2.1.2.2.2.2.1 c.2.2.2.1.2.2.2.2.2.1 c.2.2.2.1.2.2.2.2.2.2.1 c.2.2.2.1.2.2.2.2.2.2.2 c.2.2.2.2.1.1 c.2.2.2.2.1.2.1 c.2.2.2.2.1.2.2.1 c.2.2.2.2.1.2.2.2.1 c.2.2.2.2.1.2.2.2.2.1 c.2.2.2.2.1.2.2.2.2.2.1 c.2.2.2.2.1.2.2.2.2.2.2.1 c.2.2.2.2.1.2.2.2.2.2.2.2 c.2.2.2.2.2.1.1 c.2.2.2.2.2.1.2.1 c.2.2.2.2.2.1.2.2.1 c.2.2.2.2.2.1.2.2.2.1 c.2.2.2.2.2.1.2.2.2.2.1 c.2.2.2.2.2.1.2.2.2.2.2.1 c.2.2.2.2.2.1.2.2.2.2.2.2.1 c.2.2.2.2.2.1.2.2.2.2.2.2.2 c.2.2.2.2.2.2.1.1 c.2.2.2.2.2.2.1.2.1 c.2.2.2.2.2.2.1.2.2.1 c.2.2.2.2.2.2.1.2.2.2.1 c.2.2.2.2.2.2.1.2.2.2.2.1 c.2.2.2.2.2.2.1.2.2.2.2.2.1 c.2.2.2.2.2.2.1.2.2.2.2.2.2.1 c.2.2.2.2.2.2.1.2.2.2.2.2.2.2 c.2.2.2.2.2.2.2.1 c.2.2.2.2.2.2.2.2)
theorem pk58 {A1 A2 A3 A4 A5 A6 A7 A8 A9 A10 A11 A12 A13 A14 A15 A16 A17 A18 A19 A20 A21 A22 A23 A24 A25 A26 A27 A28 A29 A30 A31 A32 A33 A34 A35 A36 A37 A38 A39 A40 A41 A42 A43 A44 A45 A46 A47 A48 A49 A50 A51 A52 A53 A54 A55 A56 A57 A58 : Type} {P : A1 → A2 → A3 → A4 → A5 → A6 → A7 → A8 → A9 → A10 → A11 → A12 → A13 → A14 → A15 → A16 → A17 → A18 → A19 → A20 → A21 → A22 → A23 → A24 → A25 → A26 → A27 → A28 → A29 → A30 → A31 → A32 → A33 → A34 → A35 → A36 → A37 → A38 → A39 → A40 → A41 → A42 → A43 → A44 → A45 → A46 → A47 → A48 → A49 → A50 → A51 → A52 → A53 → A54 → A55 → A56 → A57 → A58 → Prop} (ne : Nonempty (((A1 × A2 × A3 × A4 × A5 × A6 × A7 × A8) × (A9 × A10 × A11 × A12 × A13 × A14 × A15 × A16) × (A17 × A18 × A19 × A20 × A21 × A22 × A23 × A24) × (A25 × A26 × A27 × A28 × A29 × A30 × A31 × A32) × (A33 × A34 × A35 × A36 × A37 × A38 × A39 × A40) × (A41 × A42 × A43 × A44 × A45 × A46 × A47 × A48) × (A49 × A50 × A51 × A52 × A53 × A54 × A55 × A56) × (A57 × A58)))) (h : ∀ P' : A1 → A2 → A3 → A4 → A5 → A6 → A7 → A8 → A9 → A10 → A11 → A12 → A13 → A14 → A15 → A16 → A17 → A18 → A19 → A20 → A21 → A22 → A23 → A24 → A25 → A26 → A27 → A28 → A29 → A30 → A31 → A32 → A33 → A34 → A35 → A36 → A37 → A38 → A39 → A40 → A41 → A42 → A43 → A44 → A45 → A46 → A47 → A48 → A49 → A50 → A51 → A52 → A53 → A54 → A55 → A56 → A57 → A58 → Prop, P = P' → (fun c : ((A1 × A2 × A3 × A4 × A5 × A6 × A7 × A8) × (A9 × A10 × A11 × A12 × A13 × A14 × A15 × A16) × (A17 × A18 × A19 × A20 × A21 × A22 × A23 × A24) × (A25 × A26 × A27 × A28 × A29 × A30 × A31 × A32) × (A33 × A34 × A35 × A36 × A37 × A38 × A39 × A40) × (A41 × A42 × A43 × A44 × A45 × A46 × A47 × A48) × (A49 × A50 × A51 × A52 × A53 × A54 × A55 × A56) × (A57 × A58)) => P' c.1.1 c.1.2.1 c.1.2.2.1 c.1.2.2.2.1 c.1.2.2.2.2.1 c.1.2.2.2.2.2.1 c.1.2.2.2.2.2.2.1 c.1.2.2.2.2.2.2.2 c.2.1.1 c.2.1.2.1 c.2.1.2.2.1 c.2.1.2.2.2.1 c.2.1.2.2.2.2.1 c.2.1.2.2.2.2.2.1 c.2.1.2.2.2.2.2.2.1 c.2.1.2.2.2.2.2.2.2 c.2.2.1.1 c.2.2.1.2.1 c.2.2.1.2.2.1 c.2.2.1.2.2.2.1 c.2.2.1.2.2.2.2.1 c.2.2.1.2.2.2.2.2.1 c.2.2.1.2.2.2.2.2.2.1 c.2.2.1.2.2.2.2.2.2.2 c.2.2.2.1.1 c.2.2.2.1.2.1 c.2.2.2.1.2.2.1 c.2.2.2.1.2.2.2.1 c.2.2.2.1.2.2.2.2.1 c.2.2.2.1.2.2.2.2.2.1 c.2.2.2.1.2.2.2.2.2.2.1 c.2.2.2.1.2.2.2.2.2.2.2 c.2.2.2.2.1.1 c.2.2.2.2.1.2.1 c.2.2.2.2.1.2.2.1 c.2.2.2.2.1.2.2.2.1 c.2.2.2.2.1.2.2.2.2.1 c.2.2.2.2.1.2.2.2.2.2.1 c.2.2.2.2.1.2.2.2.2.2.2.1 c.2.2.2.2.1.2.2.2.2.2.2.2 c.2.2.2.2.2.1.1 c.2.2.2.2.2.1.2.1 c.2.2.2.2.2.1.2.2.1 c.2.2.2.2.2.1.2.2.2.1 c.2.2.2.2.2.1.2.2.2.2.1 c.2.2.2.2.2.1.2.2.2.2.2.1 c.2.2.2.2.2.1.2.2.2.2.2.2.1 c.2.2.2.2.2.1.2.2.2.2.2.2.2 c.2.2.2.2.2.2.1.1 c.2.2.2.2.2.2.1.2.1 c.2.2.2.2.2.2.1.2.2.1 c.2.2.2.2.2.2.1.2.2.2.1 c.2.2.2.2.2.2.1.2.2.2.2.1 c.2.2.2.2.2.2.1.2.2.2.2.2.1 c.2.2.2.2.2.2.1.2.2.2.2.2.2.1 c.2.2.2.2.2.2.1.2.2.2.2.2.2.2 c.2.2.2.2.2.2.2.1 c.2.2.2.2.2.2.2.2) (wk58 ne P)) : ∀ (a1 : A1) (a2 : A2) (a3 : A3) (a4 : A4) (a5 : A5) (a6 : A6) (a7 : A7) (a8 : A8) (a9 : A9) (a10 : A10) (a11 : A11) (a12 : A12) (a13 : A13) (a14 : A14) (a15 : A15) (a16 : A16) (a17 : A17) (a18 : A18) (a19 : A19) (a20 : A20) (a21 : A21) (a22 : A22) (a23 : A23) (a24 : A24) (a25 : A25) (a26 : A26) (a27 : A27) (a28 : A28) (a29 : A29) (a30 : A30) (a31 : A31) (a32 : A32) (a33 : A33) (a34 : A34) (a35 : A35) (a36 : A36) (a37 : A37) (a38 : A38) (a39 : A39) (a40 : A40) (a41 : A41) (a42 : A42) (a43 : A43) (a44 : A44) (a45 : A45) (a46 : A46) (a47 : A47) (a48 : A48) (a49 : A49) (a50 : A50) (a51 : A51) (a52 : A52) (a53 : A53) (a54 : A54) (a55 : A55) (a56 : A56) (a57 : A57) (a58 : A58), P a1 a2 a3 a4 a5 a6 a7 a8 a9 a10 a11 a12 a13 a14 a15 a16 a17 a18 a19 a20 a21 a22 a23 a24 a25 a26 a27 a28 a29 a30 a31 a32 a33 a34 a35 a36 a37 a38 a39 a40 a41 a42 a43 a44 a45 a46 a47 a48 a49 a50 a51 a52 a53 a54 a55 a56 a57 a58 := fun a1 a2 a3 a4 a5 a6 a7 a8 a9 a10 a11 a12 a13 a14 a15 a16 a17 a18 a19 a20 a21 a22 a23 a24 a25 a26 a27 a28 a29 a30 a31 a32 a33 a34 a35 a36 a37 a38 a39 a40 a41 a42 a43 a44 a45 a46 a47 a48 a49 a50 a51 a52 a53 a54 a55 a56 a57 a58 => pick_all (p := fun c : ((A1 × A2 × A3 × A4 × A5 × A6 × A7 × A8) × (A9 × A10 × A11 × A12 × A13 × A14 × A15 × A16) × (A17 × A18 × A19 × A20 × A21 × A22 × A23 × A24) × (A25 × A26 × A27 × A28 × A29 × A30 × A31 × A32) × (A33 × A34 × A35 × A36 × A37 × A38 × A39 × A40) × (A41 × A42 × A43 × A44 × A45 × A46 × A47 × A48) × (A49 × A50 × A51 × A52 × A53 × A54 × A55 × A56) × (A57 × A58)) => P c.1.1 c.1.2.1 c.1.2.2.1 c.1.2.2.2.1 c.1.2.2.2.2.1 c.1.2.2.2.2.2.1 c.1.2.2.2.2.2.2.1 c.1.2.2.2.2.2.2.2 c.2.1.1 c.2.1.2.1 c.2.1.2.2.1 c.2.1.2.2.2.1 c.2.1.2.2.2.2.1 c.2.1.2.2.2.2.2.1 c.2.1.2.2.2.2.2.2.1 c.2.1.2.2.2.2.2.2.2 c.2.2.1.1 c.2.2.1.2.1 c.2.2.1.2.2.1 c.2.2.1.2.2.2.1 c.2.2.1.2.2.2.2.1 c.2.2.1.2.2.2.2.2.1 c.2.2.1.2.2.2.2.2.2.1 c.2.2.1.2.2.2.2.2.2.2 c.2.2.2.1.1 c.2.2.2.1.2.1 c.2.2.2.1.2.2.1 c.2.2.2.1.2.2.2.1 c.2.2.2.1.2.2.2.2.1 c.2.2.2.1.2.2.2.2.2.1 c.2.2.2.1.2.2.2.2.2.2.1 c.2.2.2.1.2.2.2.2.2.2.2 c.2.2.2.2.1.1 c.2.2.2.2.1.2.1 c.2.2.2.2.1.2.2.1 c.2.2.2.2.1.2.2.2.1 c.2.2.2.2.1.2.2.2.2.1 c.2.2.2.2.1.2.2.2.2.2.1 c.2.2.2.2.1.2.2.2.2.2.2.1 c.2.2.2.2.1.2.2.2.2.2.2.2 c.2.2.2.2.2.1.1 c.2.2.2.2.2.1.2.1 c.2.2.2.2.2.1.2.2.1 c.2.2.2.2.2.1.2.2.2.1 c.2.2.2.2.2.1.2.2.2.2.1 c.2.2.2.2.2.1.2.2.2.2.2.1 c.2.2.2.2.2.1.2.2.2.2.2.2.1 c.2.2.2.2.2.1.2.2.2.2.2.2.2 c.2.2.2.2.2.2.1.1 c.2.2.2.2.2.2.1.2.1 c.2.2.2.2.2.2.1.2.2.1 c.2.2.2.2.2.2.1.2.2.2.1 c.2.2.2.2.2.2.1.2.2.2.2.1 c.2.2.2.2.2.2.1.2.2.2.2.2.1 c.2.2.2.2.2.2.1.2.2.2.2.2.2.1 c.2.2.2.2.2.2.1.2.2.2.2.2.2.2 c.2.2.2.2.2.2.2.1 c.2.2.2.2.2.2.2.2) (h P rfl) ((a1, a2, a3, a4, a5, a6, a7, a8), (a9, a10, a11, a12, a13, a14, a15, a16), (a17, a18, a19, a20, a21, a22, a23, a24), (a25, a26, a27, a28, a29, a30, a31, a32), (a33, a34, a35, a36, a37, a38, a39, a40), (a41, a42, a43, a44, a45, a46, a47, a48), (a49, a50, a51, a52, a53, a54, a55, a56), (a57, a58))
noncomputable def Aft (h₀ : Heap) (L : Addr) (m : Str → Option Value) (s : Shared) (Q : Value → Shared → Prop) (R : Value → Led → Prop) : Prop :=
  ∀ r news' h' tk', Fr h₀ L h' m → News h₀ L h' news' → R r news' → Q r { s with heap := h', toks := tk' }
theorem useA {w : World} {f : Addr} {k : Nat} {vs : List Value} {news : Led} {R : Value → Led → Prop} {p : Program} {loose : List Str} {mean : ExcName → Option Value} {mg mb : Str → Option Value}
    {dp un : Nat} {gd : Option (List Code)} {cn : Str} {cs : Scope} {a : Addr} {ccd : Value} {cl : List (Str × Addr)} {outer : List Env} {A₀ : Around} {base h₀ : Heap} {L : Addr} {m : Str → Option Value} {s : Shared} {Q E : Value → Shared → Prop}
    (N : News h₀ L s.heap news) (C : Ctr w f k vs news R) (B : Below A₀ base outer h₀) (F : Fr h₀ L s.heap m) (X : (hd.heap_1 w.params).In h₀) (T : Top p loose mean mg mb h₀) (hk : cs.kind = .function)
    (hd : dp + k < recursionLimit) (hu : un + 8 * k < cLine) (h : Aft h₀ L m s Q R) :
    wpAny (model PySem.Challenge.rw_np0052_01.row.prog w) (ktrTop dp un gd cn cs L a ccd cl outer) (call (.ref f) vs) Q E s := use N C B F X T hk hd hu h
theorem aft2g1 {A1 A2 : Type} {h₀ : Heap} {L : Addr} {m : Str → Option Value} {s : Shared} {Q : Value → Shared → Prop} {rf : A1 → A2 → Value} {nf : A1 → A2 → Led} {φ1 : A1 → A2 → Prop}
    (h : ∀ (a1 : A1) (a2 : A2) h' tk', Fr h₀ L h' m → News h₀ L h' (nf a1 a2) → φ1 a1 a2 → Q (rf a1 a2) { s with heap := h', toks := tk' }) : Aft h₀ L m s Q (fun r nw => ∃ a1 a2, φ1 a1 a2 ∧ r = rf a1 a2 ∧ nw = nf a1 a2) := fun r nw h' tk F N w => by
  refine ex_2_3 (w) ?_
  try clear w
  intro a1 a2 i1 e1 e2
  rw [e2] at N; rw [e1]
  exact h a1 a2 h' tk F N i1
theorem aft8g4 {A1 A2 A3 A4 A5 A6 A7 A8 : Type} {h₀ : Heap} {L : Addr} {m : Str → Option Value} {s : Shared} {Q : Value → Shared → Prop} {rf : A1 → A2 → A3 → A4 → A5 → A6 → A7 → A8 → Value} {nf : A1 → A2 → A3 → A4 → A5 → A6 → A7 → A8 → Led} {φ1 φ2 φ3 φ4 : A1 → A2 → A3 → A4 → A5 → A6 → A7 → A8 → Prop}
    (h : ∀ (a1 : A1) (a2 : A2) (a3 : A3) (a4 : A4) (a5 : A5) (a6 : A6) (a7 : A7) (a8 : A8) h' tk', Fr h₀ L h' m → News h₀ L h' (nf a1 a2 a3 a4 a5 a6 a7 a8) → φ1 a1 a2 a3 a4 a5 a6 a7 a8 → φ2 a1 a2 a3 a4 a5 a6 a7 a8 → φ3 a1 a2 a3 a4 a5 a6 a7 a8 → φ4 a1 a2 a3 a4 a5 a6 a7 a8 → Q (rf a1 a2 a3 a4 a5 a6 a7 a8) { s with heap := h', toks := tk' }) : Aft h₀ L m s Q (fun r nw => ∃ a1 a2 a3 a4 a5 a6 a7 a8, φ1 a1 a2 a3 a4 a5 a6 a7 a8 ∧ φ2 a1 a2 a3 a4 a5 a6 a7 a8 ∧ φ3 a1 a2 a3 a4 a5 a6 a7 a8 ∧ φ4 a1 a2 a3 a4 a5 a6 a7 a8 ∧ r = rf a1 a2 a3 a4 a5 a6 a7 a8 ∧ nw = nf a1 a2 a3 a4 a5 a6 a7 a8) := fun r nw h' tk F N w => by
  refine ex_8_6 (w) ?_
  try clear w
  intro a1 a2 a3 a4 a5 a6 a7 a8 i1 i2 i3 i4 e1 e2
  rw [e2] at N; rw [e1]
  exact h a1 a2 a3 a4 a5 a6 a7 a8 h' tk F N i1 i2 i3 i4
theorem aft1 {A1 : Type} {h₀ : Heap} {L : Addr} {m : Str → Option Value} {s : Shared} {Q : Value → Shared → Prop} {rf : A1 → Value} {nf : A1 → Led}
    (h : ∀ (a1 : A1) h' tk', Fr h₀ L h' m → News h₀ L h' (nf a1) → Q (rf a1) { s with heap := h', toks := tk' }) : Aft h₀ L m s Q (fun r nw => ∃ a1, r = rf a1 ∧ nw = nf a1) := fun r nw h' tk F N w => by
  refine ex_1_2 (w) ?_
  try clear w
  intro a1 e1 e2
  rw [e2] at N; rw [e1]
  exact h a1 h' tk F N
theorem aft0 {h₀ : Heap} {L : Addr} {m : Str → Option Value} {s : Shared} {Q : Value → Shared → Prop} {rf : Value} {nf : Led}
    (h : ∀ h' tk', Fr h₀ L h' m → News h₀ L h' (nf) → Q (rf) { s with heap := h', toks := tk' }) : Aft h₀ L m s Q (fun r nw => r = rf ∧ nw = nf) := fun r nw h' tk F N w => by
  obtain ⟨e1, e2⟩ := w
  rw [e2] at N; rw [e1]
  exact h h' tk F N
theorem aft3 {A1 A2 A3 : Type} {h₀ : Heap} {L : Addr} {m : Str → Option Value} {s : Shared} {Q : Value → Shared → Prop} {rf : A1 → A2 → A3 → Value} {nf : A1 → A2 → A3 → Led}
    (h : ∀ (a1 : A1) (a2 : A2) (a3 : A3) h' tk', Fr h₀ L h' m → News h₀ L h' (nf a1 a2 a3) → Q (rf a1 a2 a3) { s with heap := h', toks := tk' }) : Aft h₀ L m s Q (fun r nw => ∃ a1 a2 a3, r = rf a1 a2 a3 ∧ nw = nf a1 a2 a3) := fun r nw h' tk F N w => by
  refine ex_3_2 (w) ?_
  try clear w
  intro a1 a2 a3 e1 e2
  rw [e2] at N; rw [e1]
  exact h a1 a2 a3 h' tk F N
theorem aft4 {A1 A2 A3 A4 : Type} {h₀ : Heap} {L : Addr} {m : Str → Option Value} {s : Shared} {Q : Value → Shared → Prop} {rf : A1 → A2 → A3 → A4 → Value} {nf : A1 → A2 → A3 → A4 → Led}
    (h : ∀ (a1 : A1) (a2 : A2) (a3 : A3) (a4 : A4) h' tk', Fr h₀ L h' m → News h₀ L h' (nf a1 a2 a3 a4) → Q (rf a1 a2 a3 a4) { s with heap := h', toks := tk' }) : Aft h₀ L m s Q (fun r nw => ∃ a1 a2 a3 a4, r = rf a1 a2 a3 a4 ∧ nw = nf a1 a2 a3 a4) := fun r nw h' tk F N w => by
  refine ex_4_2 (w) ?_
  try clear w
  intro a1 a2 a3 a4 e1 e2
  rw [e2] at N; rw [e1]
  exact h a1 a2 a3 a4 h' tk F N
theorem aft5f5 {A1 A2 A3 A4 A5 : Type} {h₀ : Heap} {L : Addr} {m : Str → Option Value} {s : Shared} {Q : Value → Shared → Prop} {rf : A1 → A2 → A3 → A4 → A5 → Value} {nf : A1 → A2 → A3 → A4 → A5 → Led} {φ1 φ2 φ3 φ4 φ5 : A1 → A2 → A3 → A4 → A5 → Prop}
    (h : ∀ (a1 : A1) (a2 : A2) (a3 : A3) (a4 : A4) (a5 : A5) h' tk', Fr h₀ L h' m → News h₀ L h' (nf a1 a2 a3 a4 a5) → φ1 a1 a2 a3 a4 a5 → φ2 a1 a2 a3 a4 a5 → φ3 a1 a2 a3 a4 a5 → φ4 a1 a2 a3 a4 a5 → φ5 a1 a2 a3 a4 a5 → Q (rf a1 a2 a3 a4 a5) { s with heap := h', toks := tk' }) : Aft h₀ L m s Q (fun r nw => ∃ a1 a2 a3 a4 a5, r = rf a1 a2 a3 a4 a5 ∧ nw = nf a1 a2 a3 a4 a5 ∧ φ1 a1 a2 a3 a4 a5 ∧ φ2 a1 a2 a3 a4 a5 ∧ φ3 a1 a2 a3 a4 a5 ∧ φ4 a1 a2 a3 a4 a5 ∧ φ5 a1 a2 a3 a4 a5) := fun r nw h' tk F N w => by
  refine ex_5_7 (w) ?_
  try clear w
  intro a1 a2 a3 a4 a5 e1 e2 i1 i2 i3 i4 i5
  rw [e2] at N; rw [e1]
  exact h a1 a2 a3 a4 a5 h' tk F N i1 i2 i3 i4 i5
theorem aft3f2 {A1 A2 A3 : Type} {h₀ : Heap} {L : Addr} {m : Str → Option Value} {s : Shared} {Q : Value → Shared → Prop} {rf : A1 → A2 → A3 → Value} {nf : A1 → A2 → A3 → Led} {φ1 φ2 : A1 → A2 → A3 → Prop}
    (h : ∀ (a1 : A1) (a2 : A2) (a3 : A3) h' tk', Fr h₀ L h' m → News h₀ L h' (nf a1 a2 a3) → φ1 a1 a2 a3 → φ2 a1 a2 a3 → Q (rf a1 a2 a3) { s with heap := h', toks := tk' }) : Aft h₀ L m s Q (fun r nw => ∃ a1 a2 a3, r = rf a1 a2 a3 ∧ nw = nf a1 a2 a3 ∧ φ1 a1 a2 a3 ∧ φ2 a1 a2 a3) := fun r nw h' tk F N w => by
  refine ex_3_4 (w) ?_
  try clear w
  intro a1 a2 a3 e1 e2 i1 i2
  rw [e2] at N; rw [e1]
  exact h a1 a2 a3 h' tk F N i1 i2
theorem aft3f1 {A1 A2 A3 : Type} {h₀ : Heap} {L : Addr} {m : Str → Option Value} {s : Shared} {Q : Value → Shared → Prop} {rf : A1 → A2 → A3 → Value} {nf : A1 → A2 → A3 → Led} {φ1 : A1 → A2 → A3 → Prop}
    (h : ∀ (a1 : A1) (a2 : A2) (a3 : A3) h' tk', Fr h₀ L h' m → News h₀ L h' (nf a1 a2 a3) → φ1 a1 a2 a3 → Q (rf a1 a2 a3) { s with heap := h', toks := tk' }) : Aft h₀ L m s Q (fun r nw => ∃ a1 a2 a3, r = rf a1 a2 a3 ∧ nw = nf a1 a2 a3 ∧ φ1 a1 a2 a3) := fun r nw h' tk F N w => by
  refine ex_3_3 (w) ?_
  try clear w
  intro a1 a2 a3 e1 e2 i1
  rw [e2] at N; rw [e1]
  exact h a1 a2 a3 h' tk F N i1
theorem aft1f1 {A1 : Type} {h₀ : Heap} {L : Addr} {m : Str → Option Value} {s : Shared} {Q : Value → Shared → Prop} {rf : A1 → Value} {nf : A1 → Led} {φ1 : A1 → Prop}
    (h : ∀ (a1 : A1) h' tk', Fr h₀ L h' m → News h₀ L h' (nf a1) → φ1 a1 → Q (rf a1) { s with heap := h', toks := tk' }) : Aft h₀ L m s Q (fun r nw => ∃ a1, r = rf a1 ∧ nw = nf a1 ∧ φ1 a1) := fun r nw h' tk F N w => by
  refine ex_1_3 (w) ?_
  try clear w
  intro a1 e1 e2 i1
  rw [e2] at N; rw [e1]
  exact h a1 h' tk F N i1
theorem aft2f2 {A1 A2 : Type} {h₀ : Heap} {L : Addr} {m : Str → Option Value} {s : Shared} {Q : Value → Shared → Prop} {rf : A1 → A2 → Value} {nf : A1 → A2 → Led} {φ1 φ2 : A1 → A2 → Prop}
    (h : ∀ (a1 : A1) (a2 : A2) h' tk', Fr h₀ L h' m → News h₀ L h' (nf a1 a2) → φ1 a1 a2 → φ2 a1 a2 → Q (rf a1 a2) { s with heap := h', toks := tk' }) : Aft h₀ L m s Q (fun r nw => ∃ a1 a2, r = rf a1 a2 ∧ nw = nf a1 a2 ∧ φ1 a1 a2 ∧ φ2 a1 a2) := fun r nw h' tk F N w => by
  refine genP fun C9 k9 => ?_
  obtain ⟨a1, a2, e1, e2, i1, i2⟩ := w
  refine k9 ?_
  clear k9 C9
  rw [e2] at N; rw [e1]
  exact h a1 a2 h' tk F N i1 i2
theorem aft5f4 {A1 A2 A3 A4 A5 : Type} {h₀ : Heap} {L : Addr} {m : Str → Option Value} {s : Shared} {Q : Value → Shared → Prop} {rf : A1 → A2 → A3 → A4 → A5 → Value} {nf : A1 → A2 → A3 → A4 → A5 → Led} {φ1 φ2 φ3 φ4 : A1 → A2 → A3 → A4 → A5 → Prop}
    (h : ∀ (a1 : A1) (a2 : A2) (a3 : A3) (a4 : A4) (a5 : A5) h' tk', Fr h₀ L h' m → News h₀ L h' (nf a1 a2 a3 a4 a5) → φ1 a1 a2 a3 a4 a5 → φ2 a1 a2 a3 a4 a5 → φ3 a1 a2 a3 a4 a5 → φ4 a1 a2 a3 a4 a5 → Q (rf a1 a2 a3 a4 a5) { s with heap := h', toks := tk' }) : Aft h₀ L m s Q (fun r nw => ∃ a1 a2 a3 a4 a5, r = rf a1 a2 a3 a4 a5 ∧ nw = nf a1 a2 a3 a4 a5 ∧ φ1 a1 a2 a3 a4 a5 ∧ φ2 a1 a2 a3 a4 a5 ∧ φ3 a1 a2 a3 a4 a5 ∧ φ4 a1 a2 a3 a4 a5) := fun r nw h' tk F N w => by
  refine genP fun C9 k9 => ?_
  obtain ⟨a1, a2, a3, a4, a5, e1, e2, i1, i2, i3, i4⟩ := w
  refine k9 ?_
  clear k9 C9
  rw [e2] at N; rw [e1]
  exact h a1 a2 a3 a4 a5 h' tk F N i1 i2 i3 i4
theorem aft7f8 {A1 A2 A3 A4 A5 A6 A7 : Type} {h₀ : Heap} {L : Addr} {m : Str → Option Value} {s : Shared} {Q : Value → Shared → Prop} {rf : A1 → A2 → A3 → A4 → A5 → A6 → A7 → Value} {nf : A1 → A2 → A3 → A4 → A5 → A6 → A7 → Led} {φ1 φ2 φ3 φ4 φ5 φ6 φ7 φ8 : A1 → A2 → A3 → A4 → A5 → A6 → A7 → Prop}
    (h : ∀ (a1 : A1) (a2 : A2) (a3 : A3) (a4 : A4) (a5 : A5) (a6 : A6) (a7 : A7) h' tk', Fr h₀ L h' m → News h₀ L h' (nf a1 a2 a3 a4 a5 a6 a7) → φ1 a1 a2 a3 a4 a5 a6 a7 → φ2 a1 a2 a3 a4 a5 a6 a7 → φ3 a1 a2 a3 a4 a5 a6 a7 → φ4 a1 a2 a3 a4 a5 a6 a7 → φ5 a1 a2 a3 a4 a5 a6 a7 → φ6 a1 a2 a3 a4 a5 a6 a7 → φ7 a1 a2 a3 a4 a5 a6 a7 → φ8 a1 a2 a3 a4 a5 a6 a7 → Q (rf a1 a2 a3 a4 a5 a6 a7) { s with heap := h', toks := tk' }) : Aft h₀ L m s Q (fun r nw => ∃ a1 a2 a3 a4 a5 a6 a7, r = rf a1 a2 a3 a4 a5 a6 a7 ∧ nw = nf a1 a2 a3 a4 a5 a6 a7 ∧ φ1 a1 a2 a3 a4 a5 a6 a7 ∧ φ2 a1 a2 a3 a4 a5 a6 a7 ∧ φ3 a1 a2 a3 a4 a5 a6 a7 ∧ φ4 a1 a2 a3 a4 a5 a6 a7 ∧ φ5 a1 a2 a3 a4 a5 a6 a7 ∧ φ6 a1 a2 a3 a4 a5 a6 a7 ∧ φ7 a1 a2 a3 a4 a5 a6 a7 ∧ φ8 a1 a2 a3 a4 a5 a6 a7) := fun r nw h' tk F N w => by
  refine genP fun C9 k9 => ?_
  obtain ⟨a1, a2, a3, a4, a5, a6, a7, e1, e2, i1, i2, i3, i4, i5, i6, i7, i8⟩ := w
  refine k9 ?_
  clear k9 C9
  rw [e2] at N; rw [e1]
  exact h a1 a2 a3 a4 a5 a6 a7 h' tk F N i1 i2 i3 i4 i5 i6 i7 i8
section
variable {M : Model} {A : Around} {E : Value → Shared → Prop} {s : Shared} {K : Frag} {h₀ : Heap} {L a : Addr} {m mg mb : Str → Option Value} {cn : Str} {cs : Scope} {ccd : Value} {cl : List (Str × Addr)} {p : Program} {loose : List Str}
  {x y : Str} {pos p1 p2 : Pos} {v v' : Value} {Q : Value → Shared → Prop} {rest : List Expr} {e r : Expr} {Ql : List Value → Shared → Prop} {i : Int} {k : Option Str}
theorem args_nL (F : Fr h₀ L s.heap m) (hv : m x = some v) (h : wpAny M A (spliced (backTo pos (starEach rest (envX cn cs L a ccd cl)))) (fun vs s₂ => Ql (v :: vs) s₂) E s) (hk : cs.kind = .function) (hx : (envX cn cs L a ccd cl).kindOf x = some .local) (hd : (x == ("__debug__" : Str)) = false) :
    wpAny M A (spliced (backTo pos (starEach (Expr.Name x p1 :: rest) (envX cn cs L a ccd cl)))) Ql E s := args_cons (nameX_L F hv h hk hx hd)
theorem bin_nL (F : Fr h₀ L s.heap m) (hv : m x = some v) {op} (h : wpAny M A (eval r (envX cn cs L a ccd cl)) (fun b s₂ => wpAny M A (binaryOp op v b) Q E s₂) E s) (hk : cs.kind = .function) (hx : (envX cn cs L a ccd cl).kindOf x = some .local) (hd : (x == ("__debug__" : Str)) = false) :
    wpAny M A (eval (.BinOp (.Name x p1) op r pos) (envX cn cs L a ccd cl)) Q E s := wpAny_BinOp (nameX_L F hv h hk hx hd)
theorem bin_nC (F : Fr h₀ L s.heap m) (hv : m x = some v) {op k} (h : wpAny M A (binaryOp op v (.int i s.toks)) Q E { s with toks := s.toks + 1 }) (hk : cs.kind = .function) (hx : (envX cn cs L a ccd cl).kindOf x = some .local) (hd : (x == ("__debug__" : Str)) = false) :
    wpAny M A (eval (.BinOp (.Name x p1) op (.Constant (.int i) k p2) pos) (envX cn cs L a ccd cl)) Q E s := wpAny_BinOp (nameX_L F hv (wpAny_Constant_int h) hk hx hd)
theorem cmp_nC (F : Fr h₀ L s.heap m) (hv : m x = some v) {op k whole} {Qb : Bool → Shared → Prop} (h : wpAny M A (compareOp op v (.int i s.toks)) (fun c s₃ => wpAny M A (truthy c) Qb E s₃) E { s with toks := s.toks + 1 }) (hk : cs.kind = .function) (hx : (envX cn cs L a ccd cl).kindOf x = some .local) (hd : (x == ("__debug__" : Str)) = false)
    (hm : behindInMarks op (.Constant (.int i) k p2) = false) : wpAny M A (isTrue (.Compare (.Name x p1) [op] [.Constant (.int i) k p2] pos) (envX cn cs L a ccd cl) whole) Qb E s := wpAny_isTrue_Compare1 (nameX_L F hv (wpAny_Constant_int h) hk hx hd) hm
theorem cmp_nL (F : Fr h₀ L s.heap m) (hv : m x = some v) {op whole} {Qb : Bool → Shared → Prop} (h : wpAny M A (eval r (envX cn cs L a ccd cl)) (fun b s₂ => wpAny M A (compareOp op v b) (fun c s₃ => wpAny M A (truthy c) Qb E s₃) E s₂) E s) (hk : cs.kind = .function) (hx : (envX cn cs L a ccd cl).kindOf x = some .local) (hd : (x == ("__debug__" : Str)) = false)
    (hm : behindInMarks op r = false) : wpAny M A (isTrue (.Compare (.Name x p1) [op] [r] pos) (envX cn cs L a ccd cl) whole) Qb E s := wpAny_isTrue_Compare1 (nameX_L F hv h hk hx hd) hm
theorem call_gK (F : Fr h₀ L s.heap m) (X : K.In h₀) (T : TopRead p loose mg mb h₀) (en : nsIn K mainGlobals x = some (some v)) (hf : keepIn K v = true)
    (h : wpAny M A (spliced (backTo pos (starEach (e :: rest) (envX cn cs L a ccd cl)))) (fun vs s₁ => K.In s₁.heap ∧ wpAny M A (call v vs) Q E s₁) E s)
    (hk : cs.kind = .function) (hx : (envX cn cs L a ccd cl).kindOf x = some .globalImplicit) (hd : (x == ("__debug__" : Str)) = false)
    (hplain : (backTo pos (starEach rest (envX cn cs L a ccd cl))).any (·.1) = false) (he : starEach (e :: rest) (envX cn cs L a ccd cl) = (false, eval e (envX cn cs L a ccd cl)) :: starEach rest (envX cn cs L a ccd cl)) (hc : eval (.Call (.Name x p1) (e :: rest) [] pos) (envX cn cs L a ccd cl) = (do callWith pos (← eval (.Name x p1) (envX cn cs L a ccd cl)) [] (backTo pos (starEach (e :: rest) (envX cn cs L a ccd cl))) (backToKw pos (keywordEach [] (envX cn cs L a ccd cl))))) :
    wpAny M A (eval (.Call (.Name x p1) (e :: rest) [] pos) (envX cn cs L a ccd cl)) Q E s :=
  Call_ (nameX_K F X T en (callWith_K X hf h he hplain) hk hx hd) hc
theorem meth_nL (F : Fr h₀ L s.heap m) (hv : m x = some v) {name : Str} {apos : Pos} {args : List Expr} {pl : Sem Bool}
    (h : wpAny M A (getMethod v name pl) (fun fx s₂ => wpAny M A (callWith pos fx.1 fx.2 (backTo pos (starEach args (envX cn cs L a ccd cl))) []) Q E s₂) E s) (hk : cs.kind = .function) (hx : (envX cn cs L a ccd cl).kindOf x = some .local) (hd : (x == ("__debug__" : Str)) = false)
    (he : eval (.Call (.Attribute (.Name x p1) name apos) args [] pos) (envX cn cs L a ccd cl) = (do
      let ov ← eval (.Name x p1) (envX cn cs L a ccd cl)
      standAt apos.atName
      let (f, first) ← holding [ov] (getMethod ov name pl)
      callWith pos f first (backTo pos (starEach args (envX cn cs L a ccd cl))) [])) : wpAny M A (eval (.Call (.Attribute (.Name x p1) name apos) args [] pos) (envX cn cs L a ccd cl)) Q E s := MethodCall_ (nameX_L F hv h hk hx hd) he
end
section
variable {M : Model} {A : Around} {E : Value → Shared → Prop} {s : Shared} {K : Frag} {h₀ : Heap} {L a : Addr} {m mg mb : Str → Option Value} {cn : Str} {cs : Scope} {ccd : Value} {cl : List (Str × Addr)} {p : Program} {loose : List Str}
  {x y : Str} {pos p1 p2 : Pos} {v v' : Value} {Q : Value → Shared → Prop} {rest : List Expr} {e r : Expr} {Ql : List Value → Shared → Prop} {i : Int} {k : Option Str}
theorem sub_nC (F : Fr h₀ L s.heap m) (hv : m x = some v) {k} (h : wpAny M A (subscriptTail (.Name x p1) (.Constant (.int i) k p2) v (.int i s.toks)) Q E { s with toks := s.toks + 1 }) (hk : cs.kind = .function) (hx : (envX cn cs L a ccd cl).kindOf x = some .local) (hd : (x == ("__debug__" : Str)) = false) :
    wpAny M A (eval (.Subscript (.Name x p1) (.Constant (.int i) k p2) pos) (envX cn cs L a ccd cl)) Q E s := Subscript_ (nameX_L F hv (wpAny_Constant_int h) hk hx hd)
theorem sub_nL (F : Fr h₀ L s.heap m) (hv : m x = some v) (h : wpAny M A (eval r (envX cn cs L a ccd cl)) (fun i s₂ => wpAny M A (subscriptTail (.Name x p1) r v i) Q E s₂) E s) (hk : cs.kind = .function) (hx : (envX cn cs L a ccd cl).kindOf x = some .local) (hd : (x == ("__debug__" : Str)) = false) :
    wpAny M A (eval (.Subscript (.Name x p1) r pos) (envX cn cs L a ccd cl)) Q E s := Subscript_ (nameX_L F hv h hk hx hd)
theorem attr_nL (F : Fr h₀ L s.heap m) (hv : m x = some v) {attr : Str} (h : wpAny M A (getAttr v attr true) Q E s) (hk : cs.kind = .function) (hx : (envX cn cs L a ccd cl).kindOf x = some .local) (hd : (x == ("__debug__" : Str)) = false)
    (he : eval (.Attribute (.Name x p1) attr pos) (envX cn cs L a ccd cl) = (do
      let o ← eval (.Name x p1) (envX cn cs L a ccd cl)
      standAt pos.atName
      let r ← holding [o] (getAttr o attr true)
      letTemporaryGo (.Name x p1) o r
      pure r)) : wpAny M A (eval (.Attribute (.Name x p1) attr pos) (envX cn cs L a ccd cl)) Q E s := Attribute_Name_ (nameX_L F hv h hk hx hd) he
theorem ret_nL (F : Fr h₀ L s.heap m) (hv : m x = some v) {Qf : Flow → Shared → Prop} (h : Qf (.ret v) s) (hk : cs.kind = .function) (hx : (envX cn cs L a ccd cl).kindOf x = some .local) (hd : (x == ("__debug__" : Str)) = false) :
    wpAny M A (exec (.Return (some (.Name x p1)) pos) (envX cn cs L a ccd cl)) Qf E s := wpAny_Return_some (nameX_L F hv h hk hx hd)
theorem cme_nL (F : Fr h₀ L s.heap m) (hv : m x = some v) {op} (h : wpAny M A (eval r (envX cn cs L a ccd cl)) (fun b s₂ => wpAny M A (compareOp op v b) Q E s₂) E s) (hk : cs.kind = .function) (hx : (envX cn cs L a ccd cl).kindOf x = some .local) (hd : (x == ("__debug__" : Str)) = false)
    (hm : behindInMarks op r = false) : wpAny M A (eval (.Compare (.Name x p1) [op] [r] pos) (envX cn cs L a ccd cl)) Q E s := wpAny_Compare1 (nameX_L F hv h hk hx hd) hm
theorem bin_lC {l : Expr} {op k} (h : wpAny M A (eval l (envX cn cs L a ccd cl)) (fun z s₁ => wpAny M A (binaryOp op z (.int i s₁.toks)) Q E { s₁ with toks := s₁.toks + 1 }) E s) :
    wpAny M A (eval (.BinOp l op (.Constant (.int i) k p2) pos) (envX cn cs L a ccd cl)) Q E s := wpAny_BinOp (wpAny_mono h (fun _ _ h => wpAny_Constant_int h) fun _ _ h => h)
theorem args_i {k} (h : wpAny M A (spliced (backTo pos (starEach rest (envX cn cs L a ccd cl)))) (fun vs s₂ => Ql (.int i s.toks :: vs) s₂) E { s with toks := s.toks + 1 }) :
    wpAny M A (spliced (backTo pos (starEach (.Constant (.int i) k p1 :: rest) (envX cn cs L a ccd cl)))) Ql E s := args_cons (wpAny_Constant_int h)
end
theorem execs_asg {M : Model} {A : Around} {E : Value → Shared → Prop} {s : Shared} {env : Env} {x : Str} {p1 pos : Pos} {e : Expr} {rest : List Stmt} {Q : Flow → Shared → Prop} (h : wpAny M A (eval e env) (fun v s₁ => wpAny M A (storeName env x v) (fun _ s₂ => wpAny M A (execs rest env) Q E s₂) E s₁) E s)
    (hs : swapsWith e (some (.Name x p1)) pos.line env = pure false) : wpAny M A (execs (.Assign [.Name x p1] e pos :: rest) env) Q E s := wpAny_execs_cons (wpAny_Assign_Name h hs)
theorem execs_ret {M : Model} {A : Around} {E : Value → Shared → Prop} {s : Shared} {env : Env} {pos : Pos} {e : Expr} {rest : List Stmt} {Q : Flow → Shared → Prop} (h : wpAny M A (eval e env) (fun v s' => Q (.ret v) s') E s) : wpAny M A (execs (.Return (some e) pos :: rest) env) Q E s := wpAny_execs_cons (wpAny_Return_some h)
end
section
noncomputable abbrev fsOf (l : List Env) : List Addr := l.filterMap (·.frame)
inductive ExcIt (G : Heap) (sym : Str) (e : Addr) (fl : Value) (h : Heap) : Prop
  | mk : ∀ oe vs dx mA t, h.get? e = some oe → oe.cls = .ref 38 → oe.dict = some dx → oe.data = .fields vs → 1 < vs.size → G.get? dx = none → h.Ns1 dx mA → mA "symbol" = some (.str sym t) →
    (vs[1]? = some .none ∨ ∃ T oT ts, vs[1]? = some (.ref T) ∧ G.get? T = none ∧ T ≠ e ∧ h.get? T = some oT ∧ oT.data = .fields ts ∧ ts[3]? = some fl) → ExcIt G sym e fl h
structure Exc (G : Heap) (fs : List Addr) (sym : Str) (e : Addr) (fl : Value) (h : Heap) : Prop where
  keep : ∀ b o, G.get? b = some o → b ∉ fs → h.get? b = some o
  slots : ∀ b o, G.get? b = some o → b ∈ fs → ∃ sl, h.get? b = some { o with slots := sl }
  new : G.get? e = none
  it : ExcIt G sym e fl h
theorem Exc.mono {G H : Heap} {fs fs' : List Addr} {sym : Str} {e : Addr} {fl : Value} {h : Heap} (X : Exc H fs' sym e fl h) (k : ∀ b o, G.get? b = some o → H.get? b = some o) (hs : ∀ b o, G.get? b = some o → (b ∈ fs' ↔ b ∈ fs)) : Exc G fs sym e fl h := by
  have nn : ∀ b, H.get? b = none → G.get? b = none := fun b hb => by
    cases q : G.get? b with
    | none => rfl
    | some o => have := k b o q; rw [hb] at this; cases this
  refine genP fun C9 k9 => ?_
  obtain ⟨k1, k2, k3, oe, vs, dx, mA, t, e1, e2, e3, e4, e5, e6, e7, e8, e9⟩ := X
  refine k9 ?_
  clear k9 C9
  refine ⟨fun b o q m => k1 b o (k b o q) fun m' => m ((hs b o q).mp m'), fun b o q m => k2 b o (k b o q) ((hs b o q).mpr m), nn e k3, oe, vs, dx, mA, t, e1, e2, e3, e4, e5, nn dx e6, e7, e8, ?_⟩
  rcases e9 with e9 | ⟨T, oT, ts, a, b, c⟩
  · exact .inl e9
  · exact .inr ⟨T, oT, ts, a, nn T b, c⟩
theorem dict_mapFields (o : Obj) (f) : (o.mapFields f).dict = o.dict := by
  unfold Obj.mapFields
  split <;> rfl
theorem funFrames_re {H base base' h : Heap} : ∀ {l : List Env}, H.FunFrames base l → (∀ b ∈ fsOf l, ∀ o, H.get? b = some o → ∃ sl, h.get? b = some { o with slots := sl }) → (∀ b ∈ fsOf l, base'.get? b = none) → h.FunFrames base' l
  | [], _, _, _ => trivial
  | env :: r, ⟨hk, ⟨L, o, hf, hn, ho, hd⟩, hr⟩, k, n => by
    have hL : L ∈ fsOf (env :: r) := List.mem_filterMap.mpr ⟨env, .head _, hf⟩
    have hsub : ∀ b ∈ fsOf r, b ∈ fsOf (env :: r) := fun b hb => by
      refine ex_1_2 (List.mem_filterMap.mp hb) ?_
      intro x hx q
      exact List.mem_filterMap.mpr ⟨x, .tail _ hx, q⟩
    obtain ⟨sl, hs⟩ := k L hL o ho
    exact ⟨hk, ⟨L, _, hf, n L hL, hs, hd⟩, funFrames_re hr (fun b hb => k b (hsub b hb)) fun b hb => n b (hsub b hb)⟩
section
variable {M : Model} {A : Around} {E : Value → Shared → Prop} {s : Shared}
theorem entryD {fs : List Addr} {env : Env} {outer : List Env} {L e dx : Addr} {oe : Obj} {vs : Array Value} {head : Value} {hadNext : Bool} {Q : Unit → Shared → Prop}
    (hfs : fs = fsOf (env :: outer)) (hfr : A.frames = some (env :: outer)) (hl : s.heap.FunFrames (hideAll s.heap fs) (env :: outer)) (hf : env.frame = some L)
    (he : s.heap.get? e = some oe) (hd : oe.data = .fields vs) (hsz : 1 < vs.size)
    (h : ∀ h' oe' vs' T oT ts, (∀ b o, s.heap.get? b = some o → b ∉ fs → b ≠ e → h'.get? b = some o) → (∀ b o, s.heap.get? b = some o → b ∈ fs → ∃ sl, h'.get? b = some { o with slots := sl }) → s.heap.objs.size ≤ h'.objs.size →
      h'.get? e = some oe' → oe'.cls = oe.cls → oe'.dict = oe.dict → oe'.data = .fields vs' → 1 < vs'.size → vs'[1]? = some (.ref T) → s.heap.get? T = none → T ≠ e → h'.get? T = some oT → oT.data = .fields ts → ts[3]? = some (rawInt L) → Q () { s with heap := h' }) :
    wpAny M A (do let a ← frameOf env; let pl ← entryPlaceOf L hadNext; let b ← EntryCells.newEntry head a .none (rawInt L) .none pl; setField (.ref e) 1 b) Q E s := by
  subst hfs
  have hene : e ∉ fsOf (env :: outer) := fun hm => by
    refine genP fun C9 k9 => ?_
    obtain ⟨_, o, ho, hnf⟩ := hl.mem hm
    refine k9 ?_
    clear k9 C9
    rw [he] at ho; injection ho with ho; subst ho; exact hnf vs hd
  refine wpAny_bind (wpAny_frameOf_fun hfr hl hf fun h₁ hs₁ => ?_)
  refine wpAny_bind (wpAny_entryPlaceOf fun pl hpl => ?_)
  unfold EntryCells.newEntry newFields
  refine wpAny_bind (wpAny_newObj_type ?_ (hpl.sizeOk5 _ _ _ _ _))
  have he₁ : h₁.get? e = some oe := (hs₁.2.1 e hene).trans he
  have he₂ := Heap.get?_push_of_some (h := h₁) { cls := .type "traceback", dict := none, data := .fields ([head, .ref L, .none, rawInt L, .none] ++ (if pl.isEmpty then List.replicate 6 Value.none else pl)).toArray } he₁
  have hsz₁ : s.heap.objs.size = h₁.objs.size := hs₁.1.symm
  have hT₃ := (Heap.get?_update_other _ (Obj.mapFields (·.setIfInBounds 1 (Value.ref h₁.objs.size))) (Ne.symm (Nat.ne_of_gt (Heap.lt_size he₁)))).trans (Heap.get?_push_size h₁ (o := { cls := .type "traceback", dict := none, data := .fields ([head, .ref L, .none, rawInt L, .none] ++ (if pl.isEmpty then List.replicate 6 Value.none else pl)).toArray }) rfl)
  refine wpAny_setField he₂ hd hsz (h _ _ _ h₁.objs.size _ _ ?_ ?_ ?_ (Heap.get?_update_self (Obj.mapFields (·.setIfInBounds 1 (Value.ref h₁.objs.size))) he₂ (Obj.isFreed_of_fields (Obj.data_mapFields hd (·.setIfInBounds 1 (Value.ref h₁.objs.size)))))
    (Obj.cls_mapFields _ _) (dict_mapFields _ _) (Obj.data_mapFields hd _) (by simpa using hsz) (by simp [hsz]) ?_ (Nat.ne_of_gt (Heap.lt_size he₁)) hT₃ rfl ?_)
  · intro b o hb hn hbe
    rw [Heap.get?_update_other _ _ (Ne.symm hbe)]
    exact Heap.get?_push_of_some _ ((hs₁.2.1 b hn).trans hb)
  · intro b o hb hm
    obtain ⟨sl, hsl⟩ := hs₁.2.2 b o hb
    refine ⟨sl, ?_⟩
    rw [Heap.get?_update_other _ _ (fun q : e = b => hene (q ▸ hm))]
    exact Heap.get?_push_of_some _ hsl
  · rw [Heap.size_after_update, Heap.size_push]
    show s.heap.objs.size ≤ h₁.objs.size + 1
    (clear hsz h hene; lia)
  · exact Heap.get?_none_of_le (by rw [hsz₁]; exact Nat.le_refl _)
  · first | (simp; done) | (rcases hpl with rfl | ⟨_, _, _, _, _, _, _, rfl⟩ <;> simp)
theorem Exc.note {G : Heap} {sym : Str} {e L : Addr} {env : Env} {outer : List Env} {base : Heap} {Q : Unit → Shared → Prop} (X : Exc G (fsOf (env :: outer)) sym e .none s.heap)
    (hfr : A.frames = some (env :: outer)) (hl : G.FunFrames base (env :: outer)) (hf : env.frame = some L)
    (h : ∀ h', Exc G (fsOf (env :: outer)) sym e (rawInt L) h' → Q () { s with heap := h' }) : wpAny M A (noteFrame (.ref e) env) Q E s := by
  refine genP fun C9 k9 => ?_
  obtain ⟨k1, k2, k3, oe, vs, dx, mA, t, e1, e2, e3, e4, e5, e6, e7, e8, e9⟩ := X
  refine k9 ?_
  clear k9 C9
  have hl' : s.heap.FunFrames (hideAll s.heap (fsOf (env :: outer))) (env :: outer) := funFrames_re hl (fun b hb o ho => k2 b o ho hb) fun b hb => hideAll_none _ hb
  have fd : ∀ b ∈ fsOf (env :: outer), ∃ o, s.heap.get? b = some o ∧ ∀ vs, o.data ≠ .fields vs := fun b hb => (hl'.mem hb).2
  have dxe : dx ≠ e := fun q => by
    refine ex_3_3 (e7) ?_
    try clear e7
    intro o es ep a b _
    rw [q, e1] at a; cases a; rw [e4] at b; cases b
  have fr : ∀ b ∈ fsOf (env :: outer), ∃ o, G.get? b = some o := fun b hb => by
    refine genP fun C9 k9 => ?_
    obtain ⟨_, o, ho, _⟩ := hl.mem hb
    refine k9 ?_
    clear k9 C9
    exact ⟨o, ho⟩
  have dxf : dx ∉ fsOf (env :: outer) := fun hm => by obtain ⟨o, ho⟩ := fr dx hm; rw [ho] at e6; cases e6
  have nG : ∀ b, s.heap.get? b = none → G.get? b = none := fun b hb => by
    cases q : G.get? b with
    | none => rfl
    | some o =>
      by_cases m : b ∈ fsOf (env :: outer)
      · obtain ⟨_, hh⟩ := k2 b o q m; rw [hb] at hh; cases hh
      · have := k1 b o q m; rw [hb] at this; cases this
  unfold noteFrame
  simp only [hf]
  rcases e9 with e9 | ⟨T, oT, ts, a1, a2, a3, a4, a5, a6⟩
  · refine wpAny_bind (wpAny_field e1 e4 e9 ?_)
    rw [if_neg (by decide)]
    refine entryD (dx := dx) rfl hfr hl' hf e1 e4 e5 fun h' oe' vs' T oT ts x1 x2 x0 x3 x4 x5 x6 x7 x8 x9 y1 y2 y3 y4 => h h' ?_
    refine ⟨fun b o q m => x1 b o (k1 b o q m) m fun z => (by rw [z, k3] at q; cases q), fun b o q m => ?_, k3, oe', vs', dx, mA, t, x3, x4.trans e2, x5.trans e3, x6, x7, e6, ?_, e8, .inr ⟨T, oT, ts, x8, nG T x9, y1, y2, y3, y4⟩⟩
    · obtain ⟨sl, hs⟩ := k2 b o q m
      obtain ⟨sl', hs'⟩ := x2 b _ hs m
      exact ⟨sl', hs'⟩
    · exact e7.at fun o ho => x1 dx o ho dxf dxe
  · refine wpAny_bind (wpAny_field e1 e4 a1 ?_)
    rw [if_pos (show (Value.ref T != Value.none) = true from by simp)]
    refine wpAny_bind (wpAny_field a4 a5 a6 ?_)
    rw [if_neg (show ¬ ((Value.none == rawInt L) = true) from by simp [rawInt])]
    have dxT : dx ≠ T := fun q => by
      refine ex_3_3 (e7) ?_
      try clear e7
      intro o es ep a b _
      rw [q, a4] at a; cases a; rw [a5] at b; cases b
    refine wpAny_bind (wpAny_setField a4 a5 (Array.getElem?_eq_some_iff.mp a6).1 ?_)
    have other : ∀ b, b ≠ T → (s.heap.update T (Obj.mapFields (·.setIfInBounds 3 Value.none))).get? b = s.heap.get? b := fun b hb => Heap.get?_update_other _ _ (Ne.symm hb)
    have fT : ∀ b ∈ fsOf (env :: outer), b ≠ T := fun b hb q => by
      refine ex_1_2 (fd b hb) ?_
      intro o ho hn
      rw [q, a4] at ho; cases ho; exact hn ts a5
    have hl'' : (s.heap.update T (Obj.mapFields (·.setIfInBounds 3 Value.none))).FunFrames (hideAll (s.heap.update T (Obj.mapFields (·.setIfInBounds 3 Value.none))) (fsOf (env :: outer))) (env :: outer) :=
      funFrames_re hl (fun b hb o ho => by
        obtain ⟨sl, hs⟩ := k2 b o ho hb
        exact ⟨sl, (other b (fT b hb)).trans hs⟩) fun b hb => hideAll_none _ hb
    refine entryD (s := { s with heap := s.heap.update T (Obj.mapFields (·.setIfInBounds 3 Value.none)) }) (dx := dx) rfl hfr hl'' hf ((other e (Ne.symm a3)).trans e1) e4 e5 fun h' oe' vs' T' oT' ts' x1 x2 x0 x3 x4 x5 x6 x7 x8 x9 y1 y2 y3 y4 => h h' ?_
    refine ⟨fun b o q m => ?_, fun b o q m => ?_, k3, oe', vs', dx, mA, t, x3, x4.trans e2, x5.trans e3, x6, x7, e6, ?_, e8, .inr ⟨T', oT', ts', x8, ?_, y1, y2, y3, y4⟩⟩
    · have bT : b ≠ T := fun z => by rw [z, a2] at q; cases q
      exact x1 b o ((other b bT).trans (k1 b o q m)) m fun z => by rw [z, k3] at q; cases q
    · obtain ⟨sl, hs⟩ := k2 b o q m
      obtain ⟨sl', hs'⟩ := x2 b _ ((other b (fT b m)).trans hs) m
      exact ⟨sl', hs'⟩
    · exact e7.at fun o ho => x1 dx o ((other dx dxT).trans ho) dxf dxe
    · refine nG T' ?_
      by_cases z : T' = T
      · rw [z] at x9
        have := Heap.get?_update_self (Obj.mapFields (·.setIfInBounds 3 Value.none)) a4 (Obj.isFreed_of_fields (Obj.data_mapFields a5 _))
        rw [x9] at this; cases this
      · exact (other T' z).symm.trans x9
theorem Exc.flight {G : Heap} {sym : Str} {e : Addr} {fs : List Addr} {fl : Value} {Q : Unit → Shared → Prop} (X : Exc G fs sym e fl s.heap) (hfs : ∀ b ∈ fs, ∃ o, G.get? b = some o ∧ ∀ vs, o.data ≠ .fields vs)
    (h : ∀ h', Exc G fs sym e .none h' → Q () { s with heap := h' }) : wpAny M A (setFlight (.ref e) none) Q E s := by
  refine genP fun C9 k9 => ?_
  obtain ⟨k1, k2, k3, oe, vs, dx, mA, t, e1, e2, e3, e4, e5, e6, e7, e8, e9⟩ := X
  refine k9 ?_
  clear k9 C9
  unfold setFlight
  rcases e9 with e9 | ⟨T, oT, ts, a1, a2, a3, a4, a5, a6⟩
  · refine wpAny_bind (wpAny_field e1 e4 e9 ?_)
    rw [if_neg (by decide)]
    exact wpAny_pure (h s.heap ⟨k1, k2, k3, oe, vs, dx, mA, t, e1, e2, e3, e4, e5, e6, e7, e8, .inl e9⟩)
  · refine wpAny_bind (wpAny_field e1 e4 a1 ?_)
    rw [if_pos (show (Value.ref T != Value.none) = true from by simp)]
    have hsz3 : 3 < ts.size := (Array.getElem?_eq_some_iff.mp a6).1
    have other : ∀ b, b ≠ T → (s.heap.update T (Obj.mapFields (·.setIfInBounds 3 ((none : Option Addr).elim Value.none fun f => rawInt f)))).get? b = s.heap.get? b := fun b hb => Heap.get?_update_other _ _ (Ne.symm hb)
    have dxT : dx ≠ T := fun q => by
      refine ex_3_3 (e7) ?_
      try clear e7
      intro o es ep a b _
      rw [q, a4] at a; cases a; rw [a5] at b; cases b
    refine wpAny_setField a4 a5 hsz3 (h _ ⟨fun b o q m => (other b fun z => by rw [z, a2] at q; cases q).trans (k1 b o q m), fun b o q m => ?_, k3, oe, vs, dx, mA, t, (other e (Ne.symm a3)).trans e1, e2, e3, e4, e5, e6, e7.at fun o ho => (other dx dxT).trans ho, e8,
      .inr ⟨T, _, _, a1, a2, a3, Heap.get?_update_self _ a4 (Obj.isFreed_of_fields (Obj.data_mapFields a5 _)), Obj.data_mapFields a5 _, by simp [hsz3]⟩⟩)
    obtain ⟨sl, hs⟩ := k2 b o q m
    refine ⟨sl, (other b fun z => ?_).trans hs⟩
    rw [z] at hs
    rw [a4] at hs
    cases hs
    refine ex_1_2 (hfs b m) ?_
    intro o' ho' hn
    rw [q] at ho'; cases ho'
    exact hn ts a5
theorem Exc.leave {G : Heap} {sym : Str} {e L : Addr} {env : Env} {outer : List Env} {base : Heap} {Q : Unit → Shared → Prop} (X : Exc G (fsOf (env :: outer)) sym e .none s.heap)
    (hfr : A.frames = some (env :: outer)) (hl : G.FunFrames base (env :: outer)) (hf : env.frame = some L)
    (h : ∀ h', Exc G (fsOf (env :: outer)) sym e .none h' → Q () { s with heap := h' }) : wpAny M A (leaving env (.ref e)) Q E s := by
  unfold leaving
  refine wpAny_bind (X.note hfr hl hf fun h₁ X₁ => ?_)
  exact X₁.flight (s := { s with heap := h₁ }) (fun b hb => (hl.mem hb).2) fun h₂ X₂ => h h₂ X₂
end
end
section
noncomputable abbrev CtrX (w : World) (f : Addr) (k : Nat) (vs : List Value) (news : Led) (R : Value → Led → Prop) (Y : Str → Prop) : Prop :=
  ∀ (p : Program) (loose : List Str) (mean : ExcName → Option Value) (mg mb : Str → Option Value)
    (dp un : Nat) (gd : Option (List Code)) (cn : Str) (cs : Scope) (a : Addr) (ccd : Value) (cl : List (Str × Addr)) (outer : List Env) (A₀ : Around) (base h₀ : Heap) (L : Addr) (m : Str → Option Value) (s : Shared) (Q E : Value → Shared → Prop),
    Below A₀ base outer h₀ → Fr h₀ L s.heap m → (hd.heap_1 w.params).In h₀ → News h₀ L s.heap news → Top p loose mean mg mb h₀ → cs.kind = .function →
    dp + k < recursionLimit → un + 8 * k < cLine →
    (∀ r news' h' tk', Fr h₀ L h' m → News h₀ L h' news' → R r news' → Q r { s with heap := h', toks := tk' }) →
    (∀ e sym h' tk', Y sym → Exc s.heap (L :: fsOf outer) sym e .none h' → E (.ref e) { s with heap := h', toks := tk' }) →
    wpAny (model PySem.Challenge.rw_np0052_01.row.prog w) (ktrTop dp un gd cn cs L a ccd cl outer) (call (.ref f) vs) Q E s
theorem Ctr.toX {w : World} {f : Addr} {k : Nat} {vs : List Value} {news : Led} {R : Value → Led → Prop} {Y : Str → Prop} (C : Ctr w f k vs news R) : CtrX w f k vs news R Y :=
  fun p loose mean mg mb dp un gd cn cs a ccd cl outer A₀ base h₀ L m s Q E B F X N T hk hd hu hret _ => C p loose mean mg mb dp un gd cn cs a ccd cl outer A₀ base h₀ L m s Q E B F X N T hk hd hu hret
noncomputable def EndsX (g : Heap) (L : Addr) (outer : List Env) (news : Led) (s : Shared) (Y : Str → Prop) (e : Value) (s' : Shared) : Prop :=
  ∃ e0 sym H m' nw h' tk', e = .ref e0 ∧ s' = { s with heap := h', toks := tk' } ∧ Fr g L H m' ∧ News g L H nw ∧ (∀ p ∈ news, p ∈ nw) ∧ Y sym ∧ Exc H (L :: fsOf outer) sym e0 .none h'
theorem useX {w : World} {f : Addr} {k : Nat} {vs : List Value} {news news0 : Led} {R : Value → Led → Prop} {Y Y' : Str → Prop} {p : Program} {loose : List Str} {mean : ExcName → Option Value} {mg mb : Str → Option Value}
    {dp un : Nat} {gd : Option (List Code)} {cn : Str} {cs : Scope} {a : Addr} {ccd : Value} {cl : List (Str × Addr)} {outer : List Env} {A₀ : Around} {base h₀ : Heap} {L : Addr} {m : Str → Option Value} {s s₀ : Shared} {Q : Value → Shared → Prop}
    (N : News h₀ L s.heap news) (C : CtrX w f k vs news R Y) (B : Below A₀ base outer h₀) (F : Fr h₀ L s.heap m) (X : (hd.heap_1 w.params).In h₀) (T : Top p loose mean mg mb h₀) (hk : cs.kind = .function)
    (hd : dp + k < recursionLimit) (hu : un + 8 * k < cLine) (hY : ∀ y, Y y → Y' y) (hs : ∀ p ∈ news0, p ∈ news) (hst : ∀ h' tk', ({ s with heap := h', toks := tk' } : Shared) = { s₀ with heap := h', toks := tk' })
    (h : ∀ r news' h' tk', Fr h₀ L h' m → News h₀ L h' news' → R r news' → Q r { s with heap := h', toks := tk' }) :
    wpAny (model PySem.Challenge.rw_np0052_01.row.prog w) (ktrTop dp un gd cn cs L a ccd cl outer) (call (.ref f) vs) Q (fun e s' => EndsX h₀ L outer news0 s₀ Y' e s') s :=
  C p loose mean mg mb dp un gd cn cs a ccd cl outer A₀ base h₀ L m s Q _ B F X N T hk hd hu h fun e sym h' tk' y x => ⟨e, sym, s.heap, m, news, h', tk', rfl, hst h' tk', F, N, hs, hY sym y, x⟩
theorem useXA {w : World} {f : Addr} {k : Nat} {vs : List Value} {news news0 : Led} {R : Value → Led → Prop} {Y Y' : Str → Prop} {p : Program} {loose : List Str} {mean : ExcName → Option Value} {mg mb : Str → Option Value}
    {dp un : Nat} {gd : Option (List Code)} {cn : Str} {cs : Scope} {a : Addr} {ccd : Value} {cl : List (Str × Addr)} {outer : List Env} {A₀ : Around} {base h₀ : Heap} {L : Addr} {m : Str → Option Value} {s s₀ : Shared} {Q : Value → Shared → Prop}
    (N : News h₀ L s.heap news) (C : CtrX w f k vs news R Y) (B : Below A₀ base outer h₀) (F : Fr h₀ L s.heap m) (X : (hd.heap_1 w.params).In h₀) (T : Top p loose mean mg mb h₀) (hk : cs.kind = .function)
    (hd : dp + k < recursionLimit) (hu : un + 8 * k < cLine) (hY : ∀ y, Y y → Y' y) (hs : ∀ p ∈ news0, p ∈ news) (hst : ∀ h' tk', ({ s with heap := h', toks := tk' } : Shared) = { s₀ with heap := h', toks := tk' })
    (h : Aft h₀ L m s Q R) :
    wpAny (model PySem.Challenge.rw_np0052_01.row.prog w) (ktrTop dp un gd cn cs L a ccd cl outer) (call (.ref f) vs) Q (fun e s' => EndsX h₀ L outer news0 s₀ Y' e s') s :=
  C p loose mean mg mb dp un gd cn cs a ccd cl outer A₀ base h₀ L m s Q _ B F X N T hk hd hu h fun e sym h' tk' y x => ⟨e, sym, s.heap, m, news, h', tk', rfl, hst h' tk', F, N, hs, hY sym y, x⟩
theorem funFrames_push {A₀ : Around} {base g H : Heap} {outer : List Env} {L a : Addr} {m : Str → Option Value} {cn : Str} {cs : Scope} {ccd : Value} {cl : List (Str × Addr)} (B : Below A₀ base outer g) (F : Fr g L H m) (hk : cs.kind = .function) :
    H.FunFrames base (envX cn cs L a ccd cl :: outer) := by
  have hnew : base.get? L = none := by
    cases hq : base.get? L with
    | none => rfl
    | some o => exact absurd (Nat.lt_of_lt_of_le (Heap.lt_size (B.stays L o hq)) F.above) (Nat.lt_irrefl _)
  refine ex_3_3 (F.ns) ?_
  intro o es ep ho hd _
  exact ⟨by show cs.kind ≠ .module; rw [hk]; decide, ⟨L, o, rfl, hnew, ho, fun vs q => by rw [hd] at q; cases q⟩, B.frames.of_keeps fun b o e _ => ⟨o, F.keep b o e, rfl⟩⟩
theorem ctrX_of {w : World} {f : Addr} {k : Nat} {vs : List Value} {news : Led} {R : Value → Led → Prop} {Y : Str → Prop} (names : List Str)
    {name qual : Str} {params : Arguments} {body : List Stmt} {scope : Scope} {dV kV doc pm cdv ct oc : Value} {an od : Option Addr} {osl : Array (Option Value)}
    (ho : (hd.heap_1 w.params).lookup f = some ⟨oc, od, .func (fnOf name qual params body scope dV kV doc pm an cdv ct), osl⟩) (hcd : codeIn (hd.heap_1 w.params) cdv qual = true)
    (hb : bindArgs (fnOf name qual params body scope dV kV doc pm an cdv ct) ⟨vs, []⟩ = pure (names.zip vs)) (hloc : ∀ y ∈ names.zip vs, scope.names.lookup y.1 = some .local)
    (hco : scope.isCoroutine = false) (hgen : scope.isGenerator = false) (hkd : scope.kind = .function) (hcell : ∀ x ∈ scope.names, x.2 ≠ .cell)
    (h : ∀ (p : Program) (loose : List Str) (mean : ExcName → Option Value) (mg mb : Str → Option Value) (dp un : Nat) (gd : Option (List Code)) (outer : List Env) (A₀ : Around) (base g : Heap) (L : Addr) (s : Shared),
      Below A₀ base outer g → Fr g L s.heap (fun y => (names.zip vs).reverse.lookup y) → (hd.heap_1 w.params).In g → News g L s.heap news → Top p loose mean mg mb g → dp + k < recursionLimit → un + 8 * k + 4 < cLine →
      wpAny (model PySem.Challenge.rw_np0052_01.row.prog w) (ktrTop dp un gd qual scope L f cdv [] outer) (execs body (envX qual scope L f cdv []))
        (fun fl s' => Ends g L s R (match fl with | .ret v => v | _ => .none) s') (fun e s' => EndsX g L outer news s Y e s') s) : CtrX w f (k + 1) vs news R Y := by
  intro p loose mean mg mb dp un gd cn cs a ccd cl outer A₀ base h₀ L m s Q E B F X N T hk hd hu hret herr
  refine wpAny_call ?_
  refine code_defG (binds := names.zip vs) B F X N T rfl rfl hk ho hcd (dp0 hd) (BindsTo.of_eq hb) hloc (fun g L' h₁ FG F' N' B' X' T' kG => ?_) hco hgen hkd hcell
  have h1 := h p loose mean mg mb (dp + 1) (un + 3) gd (envX cn cs L a ccd cl :: outer) _ base g L' { s with heap := h₁, toks := s.toks + (names.zip vs).length } B' F' X' N' T' (dpS hd) (unS hu)
  refine wpAny_mono h1 (fun fl s' hl => ?_) fun e' s' x => ?_
  · refine genP fun C9 k9 => ?_
    refine ex_4_4 (hl) ?_
    try clear hl
    intro m' nw h' tk' e9_4 Fe Ne r
    subst e9_4
    refine k9 ?_
    clear k9 C9
    exact leaveK_ Fe Ne fun F2 N2 => hret _ _ _ _ F2 N2 r
  · refine genP fun C9 k9 => ?_
    refine ex_7_7 (x) ?_
    try clear x
    intro e0 sym H m' nw h' tk' e9_7 e9_8 Fe Ne hsub hy x
    subst e9_7
    subst e9_8
    refine k9 ?_
    clear k9 C9
    have ff : H.FunFrames base (envX qual scope L' f cdv [] :: envX cn cs L a ccd cl :: outer) := funFrames_push B' Fe hkd
    refine Exc.leave (L := L') x rfl ff rfl fun h'' x' => ?_
    have up : ∀ b o, s.heap.get? b = some o → H.get? b = some o ∧ b ≠ L' := fun b o hb => by
      by_cases hm : b ∈ news.map (·.1)
      · refine genP fun C9 k9 => ?_
        refine ex_1_2 (List.mem_map.mp hm) ?_
        intro q hq e9_2
        subst e9_2
        refine k9 ?_
        clear k9 C9
        have e1 := (N q hq).1
        rw [hb] at e1
        cases e1
        exact ⟨(Ne _ (hsub q hq)).1, (N' q hq).2.1⟩
      · have hg := kG b o hb hm
        refine ⟨Fe.keep b o hg, fun q => ?_⟩
        subst q
        exact absurd (Nat.lt_of_lt_of_le (Heap.lt_size hg) Fe.above) (Nat.lt_irrefl _)
    exact herr e0 sym h'' tk' hy (x'.mono (fun b o hb => (up b o hb).1) fun b o hb => by
      show b ∈ L' :: (L :: fsOf outer) ↔ _
      rw [List.mem_cons]
      exact ⟨fun z => z.resolve_left (up b o hb).2, .inr⟩)
noncomputable def BdX (w : World) (f : Addr) (k : Nat) (vs : List Value) (news : Led) (R : Value → Led → Prop) (Y : Str → Prop) (names : List Str) (qual : Str) (body : List Stmt) (scope : Scope) (cdv : Value) (p : Program) (loose : List Str) (mean : ExcName → Option Value) (mg mb : Str → Option Value) (dp un : Nat) (gd : Option (List Code)) (outer : List Env) (A₀ : Around) (base g : Heap) (L : Addr) (s : Shared) : Prop :=
      Below A₀ base outer g → Fr g L s.heap (fun y => (names.zip vs).reverse.lookup y) → (hd.heap_1 w.params).In g → News g L s.heap news → Top p loose mean mg mb g → dp + k < recursionLimit → un + 8 * k + 4 < cLine →
      wpAny (model PySem.Challenge.rw_np0052_01.row.prog w) (ktrTop dp un gd qual scope L f cdv [] outer) (execs body (envX qual scope L f cdv []))
        (fun fl s' => Ends g L s R (match fl with | .ret v => v | _ => .none) s') (fun e s' => EndsX g L outer news s Y e s') s
theorem ctrX_ofW {w : World} {f : Addr} {k : Nat} {vs : List Value} {news : Led} {R : Value → Led → Prop} {Y : Str → Prop} (names : List Str)
    {name qual : Str} {params : Arguments} {body : List Stmt} {scope : Scope} {dV kV doc pm cdv ct oc : Value} {an od : Option Addr} {osl : Array (Option Value)}
    (ho : (hd.heap_1 w.params).lookup f = some ⟨oc, od, .func (fnOf name qual params body scope dV kV doc pm an cdv ct), osl⟩) (hcd : codeIn (hd.heap_1 w.params) cdv qual = true)
    (hb : bindArgs (fnOf name qual params body scope dV kV doc pm an cdv ct) ⟨vs, []⟩ = pure (names.zip vs)) (hloc : ∀ y ∈ names.zip vs, scope.names.lookup y.1 = some .local)
    (hco : scope.isCoroutine = false) (hgen : scope.isGenerator = false) (hkd : scope.kind = .function) (hcell : ∀ x ∈ scope.names, x.2 ≠ .cell)
    (h : BdX w f k vs news R Y names qual body scope cdv (wp14 (BdX w f k vs news R Y names qual body scope cdv)).p (wp14 (BdX w f k vs news R Y names qual body scope cdv)).loose (wp14 (BdX w f k vs news R Y names qual body scope cdv)).mean (wp14 (BdX w f k vs news R Y names qual body scope cdv)).mg (wp14 (BdX w f k vs news R Y names qual body scope cdv)).mb (wp14 (BdX w f k vs news R Y names qual body scope cdv)).dp (wp14 (BdX w f k vs news R Y names qual body scope cdv)).un (wp14 (BdX w f k vs news R Y names qual body scope cdv)).gd (wp14 (BdX w f k vs news R Y names qual body scope cdv)).outer (wp14 (BdX w f k vs news R Y names qual body scope cdv)).A₀ (wp14 (BdX w f k vs news R Y names qual body scope cdv)).base (wp14 (BdX w f k vs news R Y names qual body scope cdv)).g (wp14 (BdX w f k vs news R Y names qual body scope cdv)).L (wp14 (BdX w f k vs news R Y names qual body scope cdv)).s) : CtrX w f (k + 1) vs news R Y :=
  ctrX_of names ho hcd hb hloc hco hgen hkd hcell (all14 (P := BdX w f k vs news R Y names qual body scope cdv) h)
end
set_option pp.deepTerms false
set_option pp.maxSteps 400
local macro_rules | `(tactic| is_list) => `(tactic| exact News.isList (by k_asm) (by k_dflt k_mem))
local macro_rules | `(tactic| walk_at "c_sub") => `(tactic| first | with_reducible exact fun _ h => h | (refine sub_tail ?_; walk_at "c_sub") | exact fun _ h => h)
local macro_rules | `(tactic| walk_at "c_view") => `(tactic| first | assumption | (refine ViewAt.mono (by assumption) ?_; walk_at "c_sub"))
local macro_rules | `(tactic| walk_at "stp") => `(tactic| first | (k_unfold; (try dsimp only)) | (k_unmd; k_unfold; (try dsimp only)) | walk1 | (dsimp only; walk1) | ((fail_if_success (refine Stop.go ?_)); dsimp only))
local macro_rules | `(tactic| walk_at "steps") => `(tactic| repeat' (walk_at "stp"))
local macro_rules | `(tactic| walk_at "exec While BoolOp cons nil") => `(tactic| (k_here; refine stop_of ?_))
local macro_rules | `(tactic| walk_at "exec While Compare cons nil") => `(tactic| (k_here; refine stop_of ?_))
local macro_rules | `(tactic| walk_at "c_look") => `(tactic| first | exact rfl | assumption | (refine Eq.trans (if_neg (by decide)) ?_; walk_at "c_look"))
local macro_rules | `(tactic| walk_at "eval Name") => `(tactic| (k_here; (with_reducible show wpAny _ _ (eval _ (envX _ _ _ _ _ _)) _ _ _); k_dflt (first
  | refine' nameX_L (by k_asm) (by walk_at "c_look") ?_ (by rfl) (by rfl) (by decide)
  | refine' nameX_K (by k_asm) (by k_asm) (by k_asm) (by k_is) ?_ (by rfl) (by rfl) (by decide)
  | refine' nameX_B (by k_asm) (by k_asm) (by k_asm) (by k_is) (by boot_by_name) (by decide) ?_ (by rfl) (by rfl) (by decide))))
local macro_rules | `(tactic| walk_at "c_keep") => `(tactic| first | with_reducible exact fun _ h => h | (refine' sub_cons ?a ?b; (case a => k_dflt k_mem); (case b => walk_at "c_keep")) | walk_at "c_sub")
local macro_rules | `(tactic| walk_at "c_n") => `(tactic| k_dflt ((case a => rfl); (case b => rfl); (case c => decide); (case k1 => k_asm); (case k2 => walk_at "c_look")))
local macro_rules | `(tactic| walk_at "c_m") => `(tactic| (walk_at "c_n"; k_dflt (case d => with_unfolding_all rfl)))
local macro_rules | `(tactic| walk_at "spliced") => `(tactic| (k_here; first | ((with_reducible refine' args_nL ?k1 ?k2 ?_ ?a ?b ?c); walk_at "c_n") | with_reducible refine args_i ?_))
local macro_rules | `(tactic| walk_at "eval BinOp") => `(tactic| (k_here; first | ((with_reducible refine' bin_nC ?k1 ?k2 ?_ ?a ?b ?c); walk_at "c_n") | with_reducible refine bin_lC ?_ | ((with_reducible refine' bin_nL ?k1 ?k2 ?_ ?a ?b ?c); walk_at "c_n")))
local macro_rules | `(tactic| walk_at "isTrue Compare") => `(tactic| (k_here; first | ((with_reducible refine' cmp_nC ?k1 ?k2 ?_ ?a ?b ?c ?d); walk_at "c_m") | ((with_reducible refine' cmp_nL ?k1 ?k2 ?_ ?a ?b ?c ?d); walk_at "c_m")))
local macro_rules | `(tactic| walk_at "eval Call Attribute") => `(tactic| (k_here; (with_reducible refine' meth_nL ?k1 ?k2 ?_ ?a ?b ?c ?d); walk_at "c_m"))
local macro_rules | `(tactic| walk_at "eval Call") => `(tactic| (k_here; with_reducible refine' call_gK (by k_asm) (by k_asm) (by k_asm) (by k_dflt k_is) (by k_dflt k_is) ?_ (by k_dflt rfl) (by k_dflt rfl) (by k_dflt decide) (by k_dflt rfl) (by k_dflt rfl) (by k_dflt rfl)))
local macro_rules | `(tactic| walk_at "eval Subscript") => `(tactic| (k_here; first | ((with_reducible refine' sub_nC ?k1 ?k2 ?_ ?a ?b ?c); walk_at "c_n") | ((with_reducible refine' sub_nL ?k1 ?k2 ?_ ?a ?b ?c); walk_at "c_n")))
local macro_rules | `(tactic| walk_at "eval Attribute Name") => `(tactic| (k_here; (with_reducible refine' attr_nL ?k1 ?k2 ?_ ?a ?b ?c ?d); walk_at "c_m"))
local macro_rules | `(tactic| walk_at "eval Compare") => `(tactic| (k_here; (with_reducible refine' cme_nL ?k1 ?k2 ?_ ?a ?b ?c ?d); walk_at "c_m"))
local macro_rules | `(tactic| walk_at "execs cons") => `(tactic| (k_here; first | ((with_reducible refine' execs_asg ?_ ?d); k_dflt (case d => rfl)) | with_reducible refine execs_ret ?_))
section
variable {w : World} {news : Led} {v : Addr} {cs : List Int} {first : Int}
theorem c_begin (V : ViewAt news v cs first) : Ctr w 317 1 [.ref v] news (fun r nw => ∃ t, r = .int first t ∧ nw = news) := by
  refine genP fun C9 k9 => ?_
  obtain ⟨dv, lc, vs, t, h1, t1, h2, t2, n1, n2, hv, hd, hl, hi, hlen, hpos, htop⟩ := V
  refine k9 ?_
  clear k9 C9
  refine' ctr_of ["self"] ?ho ?hcd ?hb ?hl ?h1 ?h2 ?h3 ?h4 ?_
  (((case ho => k_is); (case hcd => k_is); (case hb => exact rfl); (case hl => exact locs rfl); (case h1 => exact rfl); (case h2 => exact rfl); (case h3 => exact rfl); (case h4 => decide)))
  intro p loose mean mg mb dp un gd outer A₀ base g L s B F X N T hd hu
  (((try dsimp only); (try k_fold)))
  walk_at "steps"
  exact ends F N ⟨_, rfl, rfl⟩
theorem c_end (V : ViewAt news v cs first) : Ctr w 324 1 [.ref v] news (fun r nw => ∃ t, r = .int (first + cs.length) t ∧ nw = news) := by
  refine genP fun C9 k9 => ?_
  obtain ⟨dv, lc, vs, t, h1, t1, h2, t2, n1, n2, hv, hd, hl, hi, hlen, hpos, htop⟩ := V
  refine k9 ?_
  clear k9 C9
  refine' ctr_of ["self"] ?ho ?hcd ?hb ?hl ?h1 ?h2 ?h3 ?h4 ?_
  (((case ho => k_is); (case hcd => k_is); (case hb => exact rfl); (case hl => exact locs rfl); (case h1 => exact rfl); (case h2 => exact rfl); (case h3 => exact rfl); (case h4 => decide)))
  intro p loose mean mg mb dp un gd outer A₀ base g L s B F X N T hd hu
  (((try dsimp only); (try k_fold)))
  walk_at "steps"
  exact ends F N ⟨_, rfl, rfl⟩
noncomputable def codeAt (cs : List Int) (first pl : Int) : Int := if first ≤ pl ∧ pl < first + cs.length then cs.getD (pl - first).toNat 0 else -1
theorem c_code_at (V : ViewAt news v cs first) (pl : Int) (tp : Tok) : Ctr w 331 1 [.ref v, .int pl tp] news (fun r nw => ∃ t, r = .int (codeAt cs first pl) t ∧ nw = news) := by
  revert V
  revert w news v cs first pl tp
  refine @pk7 _ _ _ _ _ _ _ _ (ne2 neW nei) ?_
  generalize wk7 _ _ = q
  generalize q.1 = w, q.2.1 = news, q.2.2.1 = v, q.2.2.2.1 = cs, q.2.2.2.2.1 = first, q.2.2.2.2.2.1 = pl, q.2.2.2.2.2.2 = tp
  clear q
  intro V
  refine genP fun C9 k9 => ?_
  obtain ⟨dv, lc, vs, t, h1, t1, h2, t2, n1, n2, hv, hd, hl, hi, hlen, hpos, htop⟩ := V
  refine k9 ?_
  clear k9 C9
  refine' ctr_ofW ["self", "place"] ?ho ?hcd ?hb ?hl ?h1 ?h2 ?h3 ?h4 ?_
  (((case ho => k_is); (case hcd => k_is); (case hb => exact rfl); (case hl => exact locs rfl); (case h1 => exact rfl); (case h2 => exact rfl); (case h3 => exact rfl); (case h4 => decide)))
  generalize wp14 _ = c9
  generalize c9.p = p, c9.loose = loose, c9.mean = mean, c9.mg = mg, c9.mb = mb, c9.dp = dp, c9.un = un, c9.gd = gd, c9.outer = outer, c9.A₀ = A₀, c9.base = base, c9.g = g, c9.L = L, c9.s = s
  clear c9
  intro B F X N T hd hu
  (((try dsimp only); (try k_fold)))
  walk_at "steps"
  · exact ends F N ⟨_, by unfold codeAt; rw [if_pos (by constructor <;> simp_all)], rfl⟩
  · exact ends F N ⟨_, by unfold codeAt; rw [if_neg (by intro h; simp_all <;> omega)], rfl⟩
  · exact ends F N ⟨_, by unfold codeAt; rw [if_neg (by intro h; simp_all <;> omega)], rfl⟩
theorem codeAt_in {cs : List Int} {first p : Int} {i : Nat} (h : p = first + i) (hi : i < cs.length) : codeAt cs first p = cs.getD i 0 := by
  subst h
  unfold codeAt
  rw [if_pos ⟨Int.le_add_of_nonneg_right (Int.natCast_nonneg i), Int.add_lt_add_left (Int.ofNat_lt.mpr hi) first⟩, Int.add_comm first, Int.add_sub_cancel]
  rfl
noncomputable def lsN (cs : List Int) : Nat → Nat
  | 0 => 0
  | i + 1 => if cs.getD i 0 = 10 then i + 1 else lsN cs i
theorem c_line_start (V : ViewAt news v cs first) (i : Nat) (hi : i ≤ cs.length) (pl : Int) (hp : pl = first + i) (tp : Tok) : Ctr w 48 2 [.ref v, .int pl tp] news (fun r nw => ∃ t, r = .int (first + lsN cs i) t ∧ nw = news) := by
  revert V hi hp
  revert w news v cs first i pl tp
  refine @pk8 _ _ _ _ _ _ _ _ _ (ne2 neW nei) ?_
  generalize wk8 _ _ = q
  generalize q.1 = w, q.2.1 = news, q.2.2.1 = v, q.2.2.2.1 = cs, q.2.2.2.2.1 = first, q.2.2.2.2.2.1 = i, q.2.2.2.2.2.2.1 = pl, q.2.2.2.2.2.2.2 = tp
  clear q
  intro V hi hp
  refine' ctr_ofW ["view", "place"] ?ho ?hcd ?hb ?hl ?h1 ?h2 ?h3 ?h4 ?_
  (((case ho => k_is); (case hcd => k_is); (case hb => exact rfl); (case hl => exact locs rfl); (case h1 => exact rfl); (case h2 => exact rfl); (case h3 => exact rfl); (case h4 => decide)))
  generalize wp14 _ = c9
  generalize c9.p = p, c9.loose = loose, c9.mean = mean, c9.mg = mg, c9.mb = mb, c9.dp = dp, c9.un = un, c9.gd = gd, c9.outer = outer, c9.A₀ = A₀, c9.base = base, c9.g = g, c9.L = L, c9.s = s
  clear c9
  intro B F X N T hd hu
  (((try dsimp only); (try k_fold)))
  walk_at "steps"
  rename Fr _ _ _ _ => F0
  rename News _ _ _ _ => N0
  refine Stop.go (While_inv2 (fun n m₁ nx => ∃ t, nx = news ∧ n ≤ i ∧ lsN cs n = lsN cs i ∧ m₁ = set1 (lk [("place", .int pl tp), ("view", .ref v)]) "at" (.int (first + n) t)) F0 N0 ⟨tp, rfl, Nat.le_refl _, rfl, by rw [hp]; rfl⟩ ?_)
  clear F0 N0
  intro n m₁ nx h₁ tk₁ F1 N1 p9_7
  refine genP fun C9 k9 => ?_
  refine ex_1_4 (p9_7) ?_
  try clear p9_7
  intro t e9_1 hn hls e9_4
  subst e9_1
  subst e9_4
  refine k9 ?_
  clear k9 C9
  repeat' (first | with_reducible ((show wpAny _ _ (call (Value.ref _) _ _) _ _ _); (k_here; (refine' useA ?N ?C ?B ?F ?X ?T ?K ?d ?u ?_; (case N => k_asm); (case C => k_dflt first | exact c_begin (by walk_at "c_view") | exact c_end (by walk_at "c_view") | exact c_code_at (by walk_at "c_view") _ _); (((case B => k_asm); (case F => k_asm); (case X => k_asm); (case T => k_asm); (case K => first | exact rfl | assumption); (case d => k_dflt (first | exact room_le (by assumption) (by first | decide | exact Nat.le_refl _ | exact Nat.le_succ_of_le (by assumption)) | ktr_room)); (case u => k_dflt (first | exact unit_le (by assumption) (by decide) | exact unit_le (k := 1) (by assumption) (by decide) | exact unit_le2 (by assumption) (by decide) | exact unit_leK (by assumption) (by first | exact Nat.le_refl _ | exact Nat.le_succ_of_le (by assumption)) | ktr_units))))); (((first | (with_reducible refine aft1 ?_; intro _ _ _ _ _) | (with_reducible refine aft0 ?_; intro _ _ _ _) | (with_reducible refine aft3 ?_; intro _ _ _ _ _ _ _) | (with_reducible refine aft4 ?_; intro _ _ _ _ _ _ _ _) | (with_reducible refine aft5f5 ?_; intro _ _ _ _ _ _ _ _ _ _ _ _ _ _) | (with_reducible refine aft3f2 ?_; intro _ _ _ _ _ _ _ _ _) | (with_reducible refine aft3f1 ?_; intro _ _ _ _ _ _ _ _) | (with_reducible refine aft1f1 ?_; intro _ _ _ _ _ _)))))) | with_reducible ((show wpAny _ _ (getMethod (Value.ref _) _ _) _ _ _); (k_here; k_dflt (refine' view_meth ?N ?V ?F ?X ?hg ?hf ?ht ?hl ?_; (case N => k_asm); (case V => walk_at "c_view"); (case F => k_asm); (case X => k_asm); (case hg => k_is); (case hf => k_is); (case ht => k_is); (case hl => exact fun _ _ _ _ _ _ => rfl)))) | walk_at "stp")
  · simp only [ne_eq] at *
    obtain ⟨k, rfl⟩ : ∃ k, n = k + 1 := ps (f := first) (by assumption)
    rename ¬ codeAt _ _ _ = 10 => hc
    rw [codeAt_in (i := k) (fp _ _) (Nat.lt_of_lt_of_le hn hi)] at hc
    exact wnext (n' := k) (by assumption) (by assumption) (Nat.lt_succ_self k) ⟨_, rfl, Nat.le_of_succ_le hn, by rw [← hls, lsN, if_neg hc], set1_twice.trans (congrArg _ (int_eq (fp _ _)))⟩
  · rename codeAt _ _ _ = 10 => hc
    obtain ⟨k, rfl⟩ : ∃ k, n = k + 1 := ps (f := first) (by assumption)
    rw [codeAt_in (i := k) (fp _ _) (Nat.lt_of_lt_of_le hn hi)] at hc
    exact ends (by assumption) (by assumption) ⟨_, by rw [← hls, lsN, if_pos hc], rfl⟩
  · obtain rfl : n = 0 := ps0 (f := first) (by assumption)
    exact ends (by assumption) (by assumption) ⟨_, by rw [← hls]; rfl, rfl⟩
end
section
variable {w : World} {news : Led} {v : Addr} {cs : List Int} {first : Int}
noncomputable def leN (cs : List Int) (i : Nat) : Nat := i + ((cs.drop i).takeWhile (fun c => c != 10)).length
theorem leN_stop {cs : List Int} {i : Nat} (h : cs.length ≤ i ∨ cs.getD i 0 = 10) : leN cs i = i := by
  unfold leN
  rcases h with h | h
  · rw [List.drop_eq_nil_of_le h]; rfl
  · by_cases hi : i < cs.length
    · rw [List.drop_eq_getElem_cons hi]
      have : cs[i] = 10 := by rw [List.getD_eq_getElem?_getD, List.getElem?_eq_getElem hi] at h; exact h
      simp [this]
    · rw [List.drop_eq_nil_of_le (Nat.le_of_not_lt hi)]; rfl
theorem leN_step {cs : List Int} {i : Nat} (hi : i < cs.length) (h : ¬ cs.getD i 0 = 10) : leN cs i = leN cs (i + 1) := by
  unfold leN
  rw [List.drop_eq_getElem_cons hi]
  have h1 : cs.getD i 0 = cs[i] := by rw [List.getD_eq_getElem?_getD, List.getElem?_eq_getElem hi]; rfl
  rw [h1] at h
  rw [List.takeWhile_cons_of_pos (by simpa using h)]
  rw [List.length_cons]
  exact (Nat.add_assoc i _ 1).symm.trans (Nat.add_right_comm i _ 1)
theorem leN_ge {cs : List Int} {i : Nat} : i ≤ leN cs i := by unfold leN; exact Nat.le_add_right _ _
theorem c_line_end (V : ViewAt news v cs first) (i : Nat) (hi : i ≤ cs.length) (pl : Int) (hp : pl = first + i) (tp : Tok) : Ctr w 55 2 [.ref v, .int pl tp] news (fun r nw => ∃ t, r = .int (first + leN cs i) t ∧ nw = news) := by
  revert V hi hp
  revert w news v cs first i pl tp
  refine @pk8 _ _ _ _ _ _ _ _ _ (ne2 neW nei) ?_
  generalize wk8 _ _ = q
  generalize q.1 = w, q.2.1 = news, q.2.2.1 = v, q.2.2.2.1 = cs, q.2.2.2.2.1 = first, q.2.2.2.2.2.1 = i, q.2.2.2.2.2.2.1 = pl, q.2.2.2.2.2.2.2 = tp
  clear q
  intro V hi hp
  refine' ctr_ofW ["view", "place"] ?ho ?hcd ?hb ?hl ?h1 ?h2 ?h3 ?h4 ?_
  (((case ho => k_is); (case hcd => k_is); (case hb => exact rfl); (case hl => exact locs rfl); (case h1 => exact rfl); (case h2 => exact rfl); (case h3 => exact rfl); (case h4 => decide)))
  generalize wp14 _ = c9
  generalize c9.p = p, c9.loose = loose, c9.mean = mean, c9.mg = mg, c9.mb = mb, c9.dp = dp, c9.un = un, c9.gd = gd, c9.outer = outer, c9.A₀ = A₀, c9.base = base, c9.g = g, c9.L = L, c9.s = s
  clear c9
  intro B F X N T hd hu
  (((try dsimp only); (try k_fold)))
  walk_at "steps"
  rename Fr _ _ _ _ => F0
  rename News _ _ _ _ => N0
  refine Stop.go (While_inv2 (fun n m₁ nx => ∃ t k, nx = news ∧ n = cs.length - k ∧ k ≤ cs.length ∧ leN cs k = leN cs i ∧ m₁ = set1 (lk [("place", .int pl tp), ("view", .ref v)]) "at" (.int (first + (k : Nat)) t)) F0 N0 ⟨tp, i, rfl, rfl, hi, rfl, by rw [hp]; rfl⟩ ?_)
  clear F0 N0
  intro n m₁ nx h₁ tk₁ F1 N1 p9_7
  refine genP fun C9 k9 => ?_
  refine ex_2_5 (p9_7) ?_
  try clear p9_7
  intro t k e9_2 hn hk hls e9_6
  subst e9_2
  subst e9_6
  refine k9 ?_
  clear k9 C9
  repeat' (first | with_reducible ((show wpAny _ _ (call (Value.ref _) _ _) _ _ _); (k_here; (refine' useA ?N ?C ?B ?F ?X ?T ?K ?d ?u ?_; (case N => k_asm); (case C => k_dflt first | exact c_begin (by walk_at "c_view") | exact c_end (by walk_at "c_view") | exact c_code_at (by walk_at "c_view") _ _); (((case B => k_asm); (case F => k_asm); (case X => k_asm); (case T => k_asm); (case K => first | exact rfl | assumption); (case d => k_dflt (first | exact room_le (by assumption) (by first | decide | exact Nat.le_refl _ | exact Nat.le_succ_of_le (by assumption)) | ktr_room)); (case u => k_dflt (first | exact unit_le (by assumption) (by decide) | exact unit_le (k := 1) (by assumption) (by decide) | exact unit_le2 (by assumption) (by decide) | exact unit_leK (by assumption) (by first | exact Nat.le_refl _ | exact Nat.le_succ_of_le (by assumption)) | ktr_units))))); (((first | (with_reducible refine aft1 ?_; intro _ _ _ _ _) | (with_reducible refine aft0 ?_; intro _ _ _ _) | (with_reducible refine aft3 ?_; intro _ _ _ _ _ _ _) | (with_reducible refine aft4 ?_; intro _ _ _ _ _ _ _ _) | (with_reducible refine aft5f5 ?_; intro _ _ _ _ _ _ _ _ _ _ _ _ _ _) | (with_reducible refine aft3f2 ?_; intro _ _ _ _ _ _ _ _ _) | (with_reducible refine aft3f1 ?_; intro _ _ _ _ _ _ _ _) | (with_reducible refine aft1f1 ?_; intro _ _ _ _ _ _)))))) | with_reducible ((show wpAny _ _ (getMethod (Value.ref _) _ _) _ _ _); (k_here; k_dflt (refine' view_meth ?N ?V ?F ?X ?hg ?hf ?ht ?hl ?_; (case N => k_asm); (case V => walk_at "c_view"); (case F => k_asm); (case X => k_asm); (case hg => k_is); (case hf => k_is); (case ht => k_is); (case hl => exact fun _ _ _ _ _ _ => rfl)))) | walk_at "stp")
  · rename ¬ codeAt _ _ _ = 10 => hc
    have hlt := lt_off.mp (by assumption : first + (k : Int) < first + (cs.length : Int))
    rw [codeAt_in rfl hlt] at hc
    exact wnext (n' := cs.length - (k + 1)) (by assumption) (by assumption) (hn ▸ Nat.sub_lt_sub_left hlt (Nat.lt_succ_self k)) ⟨_, k + 1, rfl, rfl, hlt, by rw [← hls, leN_step hlt hc], set1_twice.trans (congrArg _ (int_eq (fs _ _)))⟩
  · rename codeAt _ _ _ = 10 => hc
    rw [codeAt_in rfl (lt_off.mp (by assumption : first + (k : Int) < first + (cs.length : Int)))] at hc
    exact ends (by assumption) (by assumption) ⟨_, by rw [← hls, leN_stop (.inr hc)], rfl⟩
  · exact ends (by assumption) (by assumption) ⟨_, by rw [← hls, leN_stop (.inl (Nat.le_of_not_lt fun q => absurd (lt_off.mpr q) (by assumption)))], rfl⟩
noncomputable def nsZ (cs : List Int) (first : Int) (i : Nat) : Int := if leN cs i < cs.length then first + leN cs i + 1 else -1
theorem c_next_start (V : ViewAt news v cs first) (i : Nat) (hi : i ≤ cs.length) (pl : Int) (hp : pl = first + i) (tp : Tok) : Ctr w 62 3 [.ref v, .int pl tp] news (fun r nw => ∃ t, r = .int (nsZ cs first i) t ∧ nw = news) := by
  refine' ctr_of ["view", "place"] ?ho ?hcd ?hb ?hl ?h1 ?h2 ?h3 ?h4 ?_
  (((case ho => k_is); (case hcd => k_is); (case hb => exact rfl); (case hl => exact locs rfl); (case h1 => exact rfl); (case h2 => exact rfl); (case h3 => exact rfl); (case h4 => decide)))
  intro p loose mean mg mb dp un gd outer A₀ base g L s B F X N T hd hu
  (((try dsimp only); (try k_fold)))
  repeat' (first | with_reducible ((show wpAny _ _ (call (Value.ref _) _ _) _ _ _); (k_here; (refine' useA ?N ?C ?B ?F ?X ?T ?K ?d ?u ?_; (case N => k_asm); (case C => k_dflt first | exact c_begin (by walk_at "c_view") | exact c_end (by walk_at "c_view") | exact c_code_at (by walk_at "c_view") _ _ | exact c_line_end (by walk_at "c_view") _ (by assumption) _ (by assumption) _); (((case B => k_asm); (case F => k_asm); (case X => k_asm); (case T => k_asm); (case K => first | exact rfl | assumption); (case d => k_dflt (first | exact room_le (by assumption) (by first | decide | exact Nat.le_refl _ | exact Nat.le_succ_of_le (by assumption)) | ktr_room)); (case u => k_dflt (first | exact unit_le (by assumption) (by decide) | exact unit_le (k := 1) (by assumption) (by decide) | exact unit_le2 (by assumption) (by decide) | exact unit_leK (by assumption) (by first | exact Nat.le_refl _ | exact Nat.le_succ_of_le (by assumption)) | ktr_units))))); (((first | (with_reducible refine aft1 ?_; intro _ _ _ _ _) | (with_reducible refine aft0 ?_; intro _ _ _ _) | (with_reducible refine aft3 ?_; intro _ _ _ _ _ _ _) | (with_reducible refine aft4 ?_; intro _ _ _ _ _ _ _ _) | (with_reducible refine aft5f5 ?_; intro _ _ _ _ _ _ _ _ _ _ _ _ _ _) | (with_reducible refine aft3f2 ?_; intro _ _ _ _ _ _ _ _ _) | (with_reducible refine aft3f1 ?_; intro _ _ _ _ _ _ _ _) | (with_reducible refine aft1f1 ?_; intro _ _ _ _ _ _)))))) | with_reducible ((show wpAny _ _ (getMethod (Value.ref _) _ _) _ _ _); (k_here; k_dflt (refine' view_meth ?N ?V ?F ?X ?hg ?hf ?ht ?hl ?_; (case N => k_asm); (case V => walk_at "c_view"); (case F => k_asm); (case X => k_asm); (case hg => k_is); (case hf => k_is); (case ht => k_is); (case hl => exact fun _ _ _ _ _ _ => rfl)))) | walk_at "stp")
  · exact ends (by assumption) (by assumption) ⟨_, by unfold nsZ; rw [if_pos (lt_off.mp (by assumption : first + (leN cs i : Int) < first + (cs.length : Int)))], rfl⟩
  · exact ends (by assumption) (by assumption) ⟨_, by unfold nsZ; rw [if_neg fun q => absurd (lt_off.mpr q) (by assumption : ¬ first + (leN cs i : Int) < first + (cs.length : Int))], rfl⟩
theorem c_is_line_end (V : ViewAt news v cs first) (i : Nat) (hi : i ≤ cs.length) (pl : Int) (hp : pl = first + i) (tp : Tok) : Ctr w 76 2 [.ref v, .int pl tp] news (fun r nw => r = .bool (decide (i = cs.length ∨ cs.getD i 0 = 10)) ∧ nw = news) := by
  revert V hi hp
  revert w news v cs first i pl tp
  refine @pk8 _ _ _ _ _ _ _ _ _ (ne2 neW nei) ?_
  generalize wk8 _ _ = q
  generalize q.1 = w, q.2.1 = news, q.2.2.1 = v, q.2.2.2.1 = cs, q.2.2.2.2.1 = first, q.2.2.2.2.2.1 = i, q.2.2.2.2.2.2.1 = pl, q.2.2.2.2.2.2.2 = tp
  clear q
  intro V hi hp
  refine' ctr_ofW ["view", "place"] ?ho ?hcd ?hb ?hl ?h1 ?h2 ?h3 ?h4 ?_
  (((case ho => k_is); (case hcd => k_is); (case hb => exact rfl); (case hl => exact locs rfl); (case h1 => exact rfl); (case h2 => exact rfl); (case h3 => exact rfl); (case h4 => decide)))
  generalize wp14 _ = c9
  generalize c9.p = p, c9.loose = loose, c9.mean = mean, c9.mg = mg, c9.mb = mb, c9.dp = dp, c9.un = un, c9.gd = gd, c9.outer = outer, c9.A₀ = A₀, c9.base = base, c9.g = g, c9.L = L, c9.s = s
  clear c9
  intro B F X N T hd hu
  (((try dsimp only); (try k_fold)))
  repeat' (first | with_reducible ((show wpAny _ _ (call (Value.ref _) _ _) _ _ _); (k_here; (refine' useA ?N ?C ?B ?F ?X ?T ?K ?d ?u ?_; (case N => k_asm); (case C => k_dflt first | exact c_begin (by walk_at "c_view") | exact c_end (by walk_at "c_view") | exact c_code_at (by walk_at "c_view") _ _ | exact c_line_end (by walk_at "c_view") _ (by assumption) _ (by assumption) _); (((case B => k_asm); (case F => k_asm); (case X => k_asm); (case T => k_asm); (case K => first | exact rfl | assumption); (case d => k_dflt (first | exact room_le (by assumption) (by first | decide | exact Nat.le_refl _ | exact Nat.le_succ_of_le (by assumption)) | ktr_room)); (case u => k_dflt (first | exact unit_le (by assumption) (by decide) | exact unit_le (k := 1) (by assumption) (by decide) | exact unit_le2 (by assumption) (by decide) | exact unit_leK (by assumption) (by first | exact Nat.le_refl _ | exact Nat.le_succ_of_le (by assumption)) | ktr_units))))); (((first | (with_reducible refine aft1 ?_; intro _ _ _ _ _) | (with_reducible refine aft0 ?_; intro _ _ _ _) | (with_reducible refine aft3 ?_; intro _ _ _ _ _ _ _) | (with_reducible refine aft4 ?_; intro _ _ _ _ _ _ _ _) | (with_reducible refine aft5f5 ?_; intro _ _ _ _ _ _ _ _ _ _ _ _ _ _) | (with_reducible refine aft3f2 ?_; intro _ _ _ _ _ _ _ _ _) | (with_reducible refine aft3f1 ?_; intro _ _ _ _ _ _ _ _) | (with_reducible refine aft1f1 ?_; intro _ _ _ _ _ _)))))) | with_reducible ((show wpAny _ _ (getMethod (Value.ref _) _ _) _ _ _); (k_here; k_dflt (refine' view_meth ?N ?V ?F ?X ?hg ?hf ?ht ?hl ?_; (case N => k_asm); (case V => walk_at "c_view"); (case F => k_asm); (case X => k_asm); (case hg => k_is); (case hf => k_is); (case ht => k_is); (case hl => exact fun _ _ _ _ _ _ => rfl)))) | walk_at "stp")
  · rename pl = _ => hc
    exact ends (by assumption) (by assumption) ⟨congrArg _ (by rw [hc]; exact (decide_eq_true rfl).trans (decide_eq_true (.inl (Int.ofNat.inj (Int.add_left_cancel (hp.symm.trans hc))))).symm), rfl⟩
  · rename ¬ pl = _ => hc
    have hne : i ≠ cs.length := fun e => hc (by rw [hp, e])
    have hl : i < cs.length := Nat.lt_of_le_of_ne hi hne
    rw [codeAt_in hp hl]
    exact ends (by assumption) (by assumption) ⟨congrArg _ (by simp [hne]; rfl), rfl⟩
end
section
variable {w : World} {news : Led} {v : Addr} {cs : List Int} {first : Int}
theorem c_ls (V : ViewAt news v cs first) (pl : Int) (h0 : first ≤ pl) (h1 : pl ≤ first + cs.length) (tp : Tok) : Ctr w 48 2 [.ref v, .int pl tp] news (fun r nw => ∃ t, r = .int (first + lsN cs (pl - first).toNat) t ∧ nw = news) :=
  c_line_start V (pl - first).toNat (by (clear h0; lia)) pl (by (clear h1; lia)) tp
theorem c_ns (V : ViewAt news v cs first) (pl : Int) (h0 : first ≤ pl) (h1 : pl ≤ first + cs.length) (tp : Tok) : Ctr w 62 3 [.ref v, .int pl tp] news (fun r nw => ∃ t, r = .int (nsZ cs first (pl - first).toNat) t ∧ nw = news) :=
  c_next_start V (pl - first).toNat (by lia) pl (by lia) tp
noncomputable def backL (cs : List Int) : Nat → Nat → Nat
  | 0, a => a
  | k + 1, a => if a = 0 then 0 else backL cs k (lsN cs (a - 1))
theorem lsN_le {cs : List Int} : ∀ i, lsN cs i ≤ i
  | 0 => Nat.le_refl _
  | i + 1 => by
    unfold lsN
    have := lsN_le (cs := cs) i
    split <;> lia
noncomputable def fwdL (cs : List Int) : Nat → Nat → Nat × Nat
  | 0, a => (a, 0)
  | k + 1, a => if leN cs a < cs.length then fwdL cs k (leN cs a + 1) else (cs.length, (k + 1) - (if a < cs.length then 1 else 0))
noncomputable abbrev tupO (vs : List Value) : Obj := { cls := .type "tuple", data := .seq vs.toArray }
theorem led_tup2 {a : Addr} {x x' y y' : Int} {t1 t2 : Tok} {nx : Led} (h1 : x = x') (h2 : y = y') : (a, tupO [.int x t1, .int y t2]) :: nx = (a, tupO [.int x' t1, .int y' t2]) :: nx := by rw [h1, h2]
theorem c_lines_back (V : ViewAt news v cs first) (i : Nat) (hi : i ≤ cs.length) (pl : Int) (hp : pl = first + i) (tp : Tok) (k : Nat) (many : Int) (hm : many = - (k : Int)) (tm : Tok) :
    Ctr w 69 4 [.ref v, .int pl tp, .int many tm] news (fun r nw => ∃ a t1 x t2, r = .ref a ∧ nw = (a, tupO [.int (first + backL cs k (lsN cs i)) t1, .int x t2]) :: news) := by
  revert V hi hp hm
  revert w news v cs first i pl tp k many tm
  refine @pk11 _ _ _ _ _ _ _ _ _ _ _ _ (ne2 (ne2 neW nei) nei) ?_
  generalize wk11 _ _ = q
  generalize q.1 = q0, q.2 = q1
  generalize q0.1 = w, q0.2.1 = news, q0.2.2.1 = v, q0.2.2.2.1 = cs, q0.2.2.2.2.1 = first, q0.2.2.2.2.2.1 = i, q0.2.2.2.2.2.2.1 = pl, q0.2.2.2.2.2.2.2 = tp
  generalize q1.1 = k, q1.2.1 = many, q1.2.2 = tm
  clear q q0 q1
  intro V hi hp hm
  refine' ctr_ofW ["view", "place", "many"] ?ho ?hcd ?hb ?hl ?h1 ?h2 ?h3 ?h4 ?_
  (((case ho => k_is); (case hcd => k_is); (case hb => exact rfl); (case hl => exact locs rfl); (case h1 => exact rfl); (case h2 => exact rfl); (case h3 => exact rfl); (case h4 => decide)))
  generalize wp14 _ = c9
  generalize c9.p = p, c9.loose = loose, c9.mean = mean, c9.mg = mg, c9.mb = mb, c9.dp = dp, c9.un = un, c9.gd = gd, c9.outer = outer, c9.A₀ = A₀, c9.base = base, c9.g = g, c9.L = L, c9.s = s
  clear c9
  intro B F X N T hd hu
  (((try dsimp only); (try k_fold)))
  repeat' (first | with_reducible ((show wpAny _ _ (call (Value.ref _) _ _) _ _ _); (k_here; (refine' useA ?N ?C ?B ?F ?X ?T ?K ?d ?u ?_; (case N => k_asm); (case C => k_dflt first | exact c_begin (by walk_at "c_view") | exact c_end (by walk_at "c_view") | exact c_ls (by walk_at "c_view") _ (by (clear hi hm hd hu; lia)) (by (clear hm hd hu; lia)) _ | exact c_ns (by walk_at "c_view") _ (by omega) (by omega) _); (((case B => k_asm); (case F => k_asm); (case X => k_asm); (case T => k_asm); (case K => first | exact rfl | assumption); (case d => k_dflt (first | exact room_le (by assumption) (by first | decide | exact Nat.le_refl _ | exact Nat.le_succ_of_le (by assumption)) | ktr_room)); (case u => k_dflt (first | exact unit_le (by assumption) (by decide) | exact unit_le (k := 1) (by assumption) (by decide) | exact unit_le2 (by assumption) (by decide) | exact unit_leK (by assumption) (by first | exact Nat.le_refl _ | exact Nat.le_succ_of_le (by assumption)) | ktr_units))))); (((first | (with_reducible refine aft1 ?_; intro _ _ _ _ _) | (with_reducible refine aft0 ?_; intro _ _ _ _) | (with_reducible refine aft3 ?_; intro _ _ _ _ _ _ _) | (with_reducible refine aft4 ?_; intro _ _ _ _ _ _ _ _) | (with_reducible refine aft5f5 ?_; intro _ _ _ _ _ _ _ _ _ _ _ _ _ _) | (with_reducible refine aft3f2 ?_; intro _ _ _ _ _ _ _ _ _) | (with_reducible refine aft3f1 ?_; intro _ _ _ _ _ _ _ _) | (with_reducible refine aft1f1 ?_; intro _ _ _ _ _ _)))))) | walk_at "stp")
  rename Fr _ _ _ _ => F0
  rename News _ _ _ _ => N0
  have hls := lsN_le (cs := cs) i
  have ei : (pl - first).toNat = i := hp ▸ tn first i
  refine Stop.go (While_inv2 (fun n m₁ nx => ∃ a, nx = news ∧ a ≤ i ∧ backL cs n a = backL cs k (lsN cs i) ∧ IsI (m₁ "at") (first + (a : Nat)) ∧ IsI (m₁ "many") (-(n : Int)) ∧ m₁ "view" = some (.ref v)) F0 N0 ⟨lsN cs i, rfl, hls, rfl, .of rfl (by rw [ei]), .of rfl hm, rfl⟩ ?_)
  clear F0 N0
  intro n m₁ nx h₁ tk₁ F1 N1 p9_7
  refine genP fun C9 k9 => ?_
  refine ex_1_6 (p9_7) ?_
  try clear p9_7
  intro a e9_1 ha hb x9_0_0 x9_0_1 m3
  subst e9_1
  refine k9 ?_
  clear k9 C9
  obtain ⟨t1, m1⟩ := x9_0_0
  obtain ⟨t2, m2⟩ := x9_0_1
  repeat' (first | with_reducible ((show wpAny _ _ (call (Value.ref _) _ _) _ _ _); (k_here; (refine' useA ?N ?C ?B ?F ?X ?T ?K ?d ?u ?_; (case N => k_asm); (case C => k_dflt first | exact c_begin (by walk_at "c_view") | exact c_end (by walk_at "c_view") | exact c_ls (by walk_at "c_view") _ (by (clear hi hp hm hd hu hls ei ha hb; lia)) (by (clear hp hm hd hu hls ei hb; lia)) _ | exact c_ns (by walk_at "c_view") _ (by omega) (by omega) _); (((case B => k_asm); (case F => k_asm); (case X => k_asm); (case T => k_asm); (case K => first | exact rfl | assumption); (case d => k_dflt (first | exact room_le (by assumption) (by first | decide | exact Nat.le_refl _ | exact Nat.le_succ_of_le (by assumption)) | ktr_room)); (case u => k_dflt (first | exact unit_le (by assumption) (by decide) | exact unit_le (k := 1) (by assumption) (by decide) | exact unit_le2 (by assumption) (by decide) | exact unit_leK (by assumption) (by first | exact Nat.le_refl _ | exact Nat.le_succ_of_le (by assumption)) | ktr_units))))); (((first | (with_reducible refine aft1 ?_; intro _ _ _ _ _) | (with_reducible refine aft0 ?_; intro _ _ _ _) | (with_reducible refine aft3 ?_; intro _ _ _ _ _ _ _) | (with_reducible refine aft4 ?_; intro _ _ _ _ _ _ _ _) | (with_reducible refine aft5f5 ?_; intro _ _ _ _ _ _ _ _ _ _ _ _ _ _) | (with_reducible refine aft3f2 ?_; intro _ _ _ _ _ _ _ _ _) | (with_reducible refine aft3f1 ?_; intro _ _ _ _ _ _ _ _) | (with_reducible refine aft1f1 ?_; intro _ _ _ _ _ _)))))) | with_reducible ((show wpAny _ _ (getMethod (Value.ref _) _ _) _ _ _); (k_here; k_dflt (refine' view_meth ?N ?V ?F ?X ?hg ?hf ?ht ?hl ?_; (case N => k_asm); (case V => walk_at "c_view"); (case F => k_asm); (case X => k_asm); (case hg => k_is); (case hf => k_is); (case ht => k_is); (case hl => exact fun _ _ _ _ _ _ => rfl)))) | walk_at "stp")
  · obtain ⟨b, rfl⟩ : ∃ b, a = b + 1 := ps (f := first) (by assumption)
    have e2 : (first + ((b + 1 : Nat) : Int) - 1 - first).toNat = b := by rw [fp, tn]
    obtain ⟨n, rfl⟩ : ∃ n', n = n' + 1 := np (by assumption)
    exact wnext (n' := n) (by assumption) (by assumption) (Nat.lt_succ_self n) ⟨lsN cs b, rfl, Nat.le_trans (lsN_le b) (Nat.le_of_succ_le ha), by rw [← hb, backL, if_neg (Nat.succ_ne_zero b)]; rfl, .of (by walk_at "c_look") (by rw [e2]), .of (by walk_at "c_look") (ng n), by walk_at "c_look"⟩
  · obtain rfl : a = 0 := ps0 (f := first) (by assumption)
    have hz : backL cs n 0 = 0 := by cases n <;> simp [backL]
    exact ends (by assumption) (by assumption) ⟨_, _, _, _, rfl, by rw [← hb, hz]⟩
  · obtain rfl : n = 0 := nz (by assumption)
    exact ends (by assumption) (by assumption) ⟨_, _, _, _, rfl, by rw [← hb]; rfl⟩
theorem c_lines_fwd (V : ViewAt news v cs first) (i : Nat) (hi : i ≤ cs.length) (pl : Int) (hp : pl = first + i) (tp : Tok) (k : Nat) (hk : 0 < k) (many : Int) (hm : many = k) (tm : Tok) :
    Ctr w 69 4 [.ref v, .int pl tp, .int many tm] news (fun r nw => ∃ a t1 t2, r = .ref a ∧ nw = (a, tupO [.int (first + (fwdL cs k i).1) t1, .int (fwdL cs k i).2 t2]) :: news) := by
  revert V hi hp hk hm
  revert w news v cs first i pl tp k many tm
  refine @pk11 _ _ _ _ _ _ _ _ _ _ _ _ (ne2 (ne2 neW nei) nei) ?_
  generalize wk11 _ _ = q
  generalize q.1 = q0, q.2 = q1
  generalize q0.1 = w, q0.2.1 = news, q0.2.2.1 = v, q0.2.2.2.1 = cs, q0.2.2.2.2.1 = first, q0.2.2.2.2.2.1 = i, q0.2.2.2.2.2.2.1 = pl, q0.2.2.2.2.2.2.2 = tp
  generalize q1.1 = k, q1.2.1 = many, q1.2.2 = tm
  clear q q0 q1
  intro V hi hp hk hm
  refine' ctr_ofW ["view", "place", "many"] ?ho ?hcd ?hb ?hl ?h1 ?h2 ?h3 ?h4 ?_
  (((case ho => k_is); (case hcd => k_is); (case hb => exact rfl); (case hl => exact locs rfl); (case h1 => exact rfl); (case h2 => exact rfl); (case h3 => exact rfl); (case h4 => decide)))
  generalize wp14 _ = c9
  generalize c9.p = p, c9.loose = loose, c9.mean = mean, c9.mg = mg, c9.mb = mb, c9.dp = dp, c9.un = un, c9.gd = gd, c9.outer = outer, c9.A₀ = A₀, c9.base = base, c9.g = g, c9.L = L, c9.s = s
  clear c9
  intro B F X N T hd hu
  (((try dsimp only); (try k_fold)))
  walk_at "steps"
  rename Fr _ _ _ _ => F0
  rename News _ _ _ _ => N0
  refine Stop.go (While_inv2 (fun n m₁ nx => ∃ a, nx = news ∧ a ≤ cs.length ∧ fwdL cs n a = fwdL cs k i ∧ IsI (m₁ "at") (first + (a : Nat)) ∧ IsI (m₁ "many") (n : Int) ∧ m₁ "view" = some (.ref v)) F0 N0 ⟨i, rfl, hi, rfl, .of rfl hp, .of rfl hm, rfl⟩ ?_)
  clear F0 N0
  intro n m₁ nx h₁ tk₁ F1 N1 p9_7
  refine genP fun C9 k9 => ?_
  refine ex_1_6 (p9_7) ?_
  try clear p9_7
  intro a e9_1 ha hb x9_0_0 x9_0_1 m3
  subst e9_1
  refine k9 ?_
  clear k9 C9
  obtain ⟨t1, m1⟩ := x9_0_0
  obtain ⟨t2, m2⟩ := x9_0_1
  have e2 : (first + (a : Int) - first).toNat = a := tn first a
  repeat' (first | with_reducible ((show wpAny _ _ (call (Value.ref _) _ _) _ _ _); (k_here; (refine' useA ?N ?C ?B ?F ?X ?T ?K ?d ?u ?_; (case N => k_asm); (case C => k_dflt first | exact c_begin (by walk_at "c_view") | exact c_end (by walk_at "c_view") | exact c_ls (by walk_at "c_view") _ (by omega) (by omega) _ | exact c_ns (by walk_at "c_view") _ (by (clear hi hp hk hm hd hu ha e2; lia)) (by (clear hi hp hk hm hd hu e2; lia)) _); (((case B => k_asm); (case F => k_asm); (case X => k_asm); (case T => k_asm); (case K => first | exact rfl | assumption); (case d => k_dflt (first | exact room_le (by assumption) (by first | decide | exact Nat.le_refl _ | exact Nat.le_succ_of_le (by assumption)) | ktr_room)); (case u => k_dflt (first | exact unit_le (by assumption) (by decide) | exact unit_le (k := 1) (by assumption) (by decide) | exact unit_le2 (by assumption) (by decide) | exact unit_leK (by assumption) (by first | exact Nat.le_refl _ | exact Nat.le_succ_of_le (by assumption)) | ktr_units))))); (((first | (with_reducible refine aft1 ?_; intro _ _ _ _ _) | (with_reducible refine aft0 ?_; intro _ _ _ _) | (with_reducible refine aft3 ?_; intro _ _ _ _ _ _ _) | (with_reducible refine aft4 ?_; intro _ _ _ _ _ _ _ _) | (with_reducible refine aft5f5 ?_; intro _ _ _ _ _ _ _ _ _ _ _ _ _ _) | (with_reducible refine aft3f2 ?_; intro _ _ _ _ _ _ _ _ _) | (with_reducible refine aft3f1 ?_; intro _ _ _ _ _ _ _ _) | (with_reducible refine aft1f1 ?_; intro _ _ _ _ _ _)))))) | with_reducible ((show wpAny _ _ (getMethod (Value.ref _) _ _) _ _ _); (k_here; k_dflt (refine' view_meth ?N ?V ?F ?X ?hg ?hf ?ht ?hl ?_; (case N => k_asm); (case V => walk_at "c_view"); (case F => k_asm); (case X => k_asm); (case hg => k_is); (case hf => k_is); (case ht => k_is); (case hl => exact fun _ _ _ _ _ _ => rfl)))) | walk_at "stp")
  · rename nsZ _ _ _ < 0 => hz
    rw [e2] at hz
    obtain ⟨n, rfl⟩ : ∃ n', n = n' + 1 := pn (by assumption)
    have hps := V.pos
    have hlt : ¬ leN cs a < cs.length := fun h => by unfold nsZ at hz; rw [if_pos h] at hz; (clear hi hp hk hm hd hu ha e2 h; lia)
    have e : fwdL cs k i = (cs.length, (n + 1) - (if a < cs.length then 1 else 0)) := by rw [← hb, fwdL, if_neg hlt]
    have e3 : (decide (first + (a : Int) < first + cs.length) = true) = (a < cs.length) := by simp
    delta WhileStep2
    walk_at "steps"
    exact ends (by assumption) (by assumption) ⟨_, _, _, rfl, led_tup2 (by rw [e]) (by rw [e]; simp only [e3]; split <;> simp)⟩
  · rename ¬ nsZ _ _ _ < 0 => hz
    rw [e2] at hz
    obtain ⟨n, rfl⟩ : ∃ n', n = n' + 1 := pn (by assumption)
    have hlt : leN cs a < cs.length := by
      by_cases h : leN cs a < cs.length
      · exact h
      · unfold nsZ at hz; rw [if_neg h] at hz; (clear hi hp hk hm hd hu ha e2 h; omega)
    exact wnext (n' := n) (by assumption) (by assumption) (Nat.lt_succ_self n) ⟨leN cs a + 1, rfl, hlt, by rw [← hb, fwdL, if_pos hlt], .of (by walk_at "c_look") (by rw [e2]; unfold nsZ; rw [if_pos hlt]; exact fs _ _), .of (by walk_at "c_look") (i1 n), by walk_at "c_look"⟩
  · obtain rfl : n = 0 := pz (by assumption)
    have e : fwdL cs k i = (a, 0) := by rw [← hb]; rfl
    exact ends (by assumption) (by assumption) ⟨_, _, _, rfl, led_tup2 (by rw [e]) (by rw [e]; rfl)⟩
end
section
variable {w : World} {news : Led} {v : Addr} {cs : List Int} {first : Int}
noncomputable def slice (cs : List Int) (i j : Nat) : List Int := (cs.drop i).take (j - i)
theorem off1_mem {D : Addr} : ∀ {l : Led}, LCg.Off1 D l → ∀ p ∈ l, p.1 ≠ D
  | [], _, _, h => nomatch h
  | _ :: _, x, p, h => by
    rcases List.mem_cons.mp h with rfl | h
    · exact x.1
    · exact off1_mem x.2 p h
theorem slice_of {cs : List Int} {first pi pj : Int} {i j : Nat} (hj : j ≤ cs.length) (hi : pi = first + i) (hjj : pj = first + j) : (rangeKs pi (pj - pi).toNat).map (codeAt cs first) = slice cs i j := by
  subst hi hjj
  rw [← Int.sub_sub, Int.add_comm first j, Int.add_sub_cancel, Int.toNat_sub]
  unfold rangeKs slice
  apply List.ext_getElem
  · rw [List.length_map, List.length_map, List.length_range, List.length_take_of_le (List.length_drop ▸ Nat.sub_le_sub_right hj i)]
  · intro k h1 h2
    rw [List.length_map, List.length_map, List.length_range] at h1
    have hk := Nat.lt_of_lt_of_le (Nat.add_lt_of_lt_sub' h1) hj
    rw [List.getElem_map, List.getElem_map, List.getElem_range, List.getElem_take, List.getElem_drop, codeAt_in (i := i + k) (Int.add_assoc ..) hk, List.getD_eq_getElem?_getD, List.getElem?_eq_getElem hk]
    rfl
theorem c_codes (V : ViewAt news v cs first) (i j : Nat) (hil : i ≤ cs.length) (hj : j ≤ cs.length) (pi pj : Int) (hi : pi = first + i) (hjj : pj = first + j) (t1 t2 : Tok) :
    Ctr w 81 3 [.ref v, .int pi t1, .int pj t2] news (fun r nw => ∃ a n vs, r = .ref a ∧ nw = (a, listOf (List.toArray vs) n) :: news ∧ IntsAre vs (slice cs i j)) := by
  revert V hil hj hi hjj
  revert w news v cs first i j pi pj t1 t2
  refine @pk11 _ _ _ _ _ _ _ _ _ _ _ _ (ne2 (ne2 neW nei) nei) ?_
  generalize wk11 _ _ = q
  generalize q.1 = q0, q.2 = q1
  generalize q0.1 = w, q0.2.1 = news, q0.2.2.1 = v, q0.2.2.2.1 = cs, q0.2.2.2.2.1 = first, q0.2.2.2.2.2.1 = i, q0.2.2.2.2.2.2.1 = j, q0.2.2.2.2.2.2.2 = pi
  generalize q1.1 = pj, q1.2.1 = t1, q1.2.2 = t2
  clear q q0 q1
  intro V hil hj hi hjj
  refine' ctr_ofCW ["view", "start", "end"] ?ho ?hcd ?hb ?hl ?h1 ?h2 ?h3 ?h4 ?_
  (((case ho => k_is); (case hcd => k_is); (case hb => exact rfl); (case hl => exact rfl); (case h1 => exact rfl); (case h2 => exact rfl); (case h3 => exact rfl); (case h4 => decide)))
  generalize wp15 _ = c9
  generalize c9.p = p, c9.loose = loose, c9.mean = mean, c9.mg = mg, c9.mb = mb, c9.dp = dp, c9.un = un, c9.gd = gd, c9.outer = outer, c9.A₀ = A₀, c9.base = base, c9.g = g, c9.L = L, c9.s = s, c9.cells = cells
  clear c9
  intro B F X N Y hlt T hd hu
  refine genP fun C9 k9 => ?_
  refine ex_1_2 (CellsAre.one Y) ?_
  intro oc e9_1 hoc
  subst e9_1
  refine k9 ?_
  clear k9 C9
  (((try dsimp only); (try k_fold)))
  walk_at "steps"
  rename IsRange _ _ _ _ _ _ _ _ => hr
  have hlen := V.len
  have hps := V.pos
  have htp := V.top
  refine LCg.CompSrc.range (n := (pj - pi).toNat) rfl (by k_asm) (by k_asm) hr (small_one (by (clear hil hj hjj hlt hd hu hlen htp; lia)) (by (clear hj hjj hlt hd hu hps; lia)) (by (clear hil hj hi hlt hd hu hlen htp; lia)) (by (clear hil hi hlt hd hu hps; lia))) (rangeSize_nat _ _) (by rw [PySem.sizeLine_eq]; (clear hil hlt hd hu hps htp; lia)) fun g' => ?_
  refine kcf_range (codeAt cs first) (fun k t I oI C oC D m₂ ys h tk E' hlo hhi hC hx F N off ne _ => ?_) ?_
  · repeat' (first | with_reducible ((show wpAny _ _ (call (Value.ref _) _ _) _ _ _); (k_here; (refine' useA ?N ?C ?B ?F ?X ?T ?K ?d ?u ?_; (case N => k_asm); (case C => k_dflt first | exact c_begin (by walk_at "c_view") | exact c_end (by walk_at "c_view") | exact c_code_at (by walk_at "c_view") _ _); (((case B => k_asm); (case F => k_asm); (case X => k_asm); (case T => k_asm); (case K => first | exact rfl | assumption); (case d => k_dflt (first | exact room_le (by assumption) (by first | decide | exact Nat.le_refl _ | exact Nat.le_succ_of_le (by assumption)) | ktr_room)); (case u => k_dflt (first | exact unit_le (by assumption) (by decide) | exact unit_le (k := 1) (by assumption) (by decide) | exact unit_le2 (by assumption) (by decide) | exact unit_leK (by assumption) (by first | exact Nat.le_refl _ | exact Nat.le_succ_of_le (by assumption)) | ktr_units))))); (((first | (with_reducible refine aft1 ?_; intro _ _ _ _ _) | (with_reducible refine aft0 ?_; intro _ _ _ _) | (with_reducible refine aft3 ?_; intro _ _ _ _ _ _ _) | (with_reducible refine aft4 ?_; intro _ _ _ _ _ _ _ _) | (with_reducible refine aft5f5 ?_; intro _ _ _ _ _ _ _ _ _ _ _ _ _ _) | (with_reducible refine aft3f2 ?_; intro _ _ _ _ _ _ _ _ _) | (with_reducible refine aft3f1 ?_; intro _ _ _ _ _ _ _ _) | (with_reducible refine aft1f1 ?_; intro _ _ _ _ _ _)))))) | with_reducible ((show wpAny _ _ (getMethod (Value.ref _) _ _) _ _ _); (k_here; k_dflt (refine' view_meth ?N ?V ?F ?X ?hg ?hf ?ht ?hl ?_; (case N => k_asm); (case V => walk_at "c_view"); (case F => k_asm); (case X => k_asm); (case hg => k_is); (case hf => k_is); (case ht => k_is); (case hl => exact fun _ _ _ _ _ _ => rfl)))) | walk_at "stp")
  · intro ys hys D h tk F N o1
    rw [slice_of hj hi hjj] at hys
    walk_at "steps"
    exact ends F (fun p hp => N p (by rcases List.mem_cons.mp hp with rfl | hp <;> simp [*])) ⟨D, ys.length, ys, rfl, rfl, hys⟩
end
section
variable {w : World} {news : Led} {v : Addr} {cs : List Int} {first : Int}
theorem c_lf (V : ViewAt news v cs first) (pl : Int) (h0 : first ≤ pl) (h1 : pl ≤ first + cs.length) (tp : Tok) (many : Int) (hm : 0 < many) (tm : Tok) :
    Ctr w 69 4 [.ref v, .int pl tp, .int many tm] news (fun r nw => ∃ a t1 t2, r = .ref a ∧ nw = (a, tupO [.int (first + (fwdL cs many.toNat (pl - first).toNat).1) t1, .int (fwdL cs many.toNat (pl - first).toNat).2 t2]) :: news) :=
  c_lines_fwd V (pl - first).toNat (by (clear h0 hm; lia)) pl (by (clear h1 hm; lia)) tp many.toNat (by (clear h0 h1; lia)) many (by (clear h0 h1; lia)) tm
theorem fwdL_le {cs : List Int} : ∀ (k a : Nat), a ≤ cs.length → (fwdL cs k a).1 ≤ cs.length
  | 0, a, h => h
  | k + 1, a, h => by
    unfold fwdL
    split
    · exact fwdL_le k _ (by (clear h; lia))
    · exact Nat.le_refl _
noncomputable def ahL (cs : List Int) (k i : Nat) : Nat × Nat := ((fwdL cs k i).1, (fwdL cs k i).2 + (if i < (fwdL cs k i).1 ∧ ¬ cs.getD ((fwdL cs k i).1 - 1) 0 = 10 then 1 else 0))
theorem c_lines_ahead (V : ViewAt news v cs first) (i : Nat) (hi : i ≤ cs.length) (pl : Int) (hp : pl = first + i) (tp : Tok) (k : Nat) (hk : 0 < k) (many : Int) (hm : many = k) (tm : Tok) :
    Ctr w 137 5 [.ref v, .int pl tp, .int many tm] news (fun r nw => ∃ a t1 t2, r = .ref a ∧ nw = (a, tupO [.int (first + (ahL cs k i).1) t1, .int (ahL cs k i).2 t2]) :: news) := by
  revert V hi hp hk hm
  revert w news v cs first i pl tp k many tm
  refine @pk11 _ _ _ _ _ _ _ _ _ _ _ _ (ne2 (ne2 neW nei) nei) ?_
  generalize wk11 _ _ = q
  generalize q.1 = q0, q.2 = q1
  generalize q0.1 = w, q0.2.1 = news, q0.2.2.1 = v, q0.2.2.2.1 = cs, q0.2.2.2.2.1 = first, q0.2.2.2.2.2.1 = i, q0.2.2.2.2.2.2.1 = pl, q0.2.2.2.2.2.2.2 = tp
  generalize q1.1 = k, q1.2.1 = many, q1.2.2 = tm
  clear q q0 q1
  intro V hi hp hk hm
  have e1 : (pl - first).toNat = i := hp ▸ tn first i
  have e2 : many.toNat = k := hm ▸ rfl
  have hle := fwdL_le (cs := cs) k i hi
  refine' ctr_ofW ["view", "place", "many"] ?ho ?hcd ?hb ?hl ?h1 ?h2 ?h3 ?h4 ?_
  (((case ho => k_is); (case hcd => k_is); (case hb => exact rfl); (case hl => exact locs rfl); (case h1 => exact rfl); (case h2 => exact rfl); (case h3 => exact rfl); (case h4 => decide)))
  generalize wp14 _ = c9
  generalize c9.p = p, c9.loose = loose, c9.mean = mean, c9.mg = mg, c9.mb = mb, c9.dp = dp, c9.un = un, c9.gd = gd, c9.outer = outer, c9.A₀ = A₀, c9.base = base, c9.g = g, c9.L = L, c9.s = s
  clear c9
  intro B F X N T hd hu
  (((try dsimp only); (try k_fold)))
  repeat' (first | with_reducible ((show wpAny _ _ (call (Value.ref _) _ _) _ _ _); (k_here; (refine' useA ?N ?C ?B ?F ?X ?T ?K ?d ?u ?_; (case N => k_asm); (case C => k_dflt first | exact c_begin (by walk_at "c_view") | exact c_end (by walk_at "c_view") | exact c_code_at (by walk_at "c_view") _ _ | exact c_lf (by walk_at "c_view") _ (by (clear hi hk hm e1 e2 hle hd hu; lia)) (by (clear hk hm e1 e2 hle hd hu; lia)) _ _ (by (clear hi hp e1 e2 hle hd hu; lia)) _); (((case B => k_asm); (case F => k_asm); (case X => k_asm); (case T => k_asm); (case K => first | exact rfl | assumption); (case d => k_dflt (first | exact room_le (by assumption) (by first | decide | exact Nat.le_refl _ | exact Nat.le_succ_of_le (by assumption)) | ktr_room)); (case u => k_dflt (first | exact unit_le (by assumption) (by decide) | exact unit_le (k := 1) (by assumption) (by decide) | exact unit_le2 (by assumption) (by decide) | exact unit_leK (by assumption) (by first | exact Nat.le_refl _ | exact Nat.le_succ_of_le (by assumption)) | ktr_units))))); (((first | (with_reducible refine aft1 ?_; intro _ _ _ _ _) | (with_reducible refine aft0 ?_; intro _ _ _ _) | (with_reducible refine aft3 ?_; intro _ _ _ _ _ _ _) | (with_reducible refine aft4 ?_; intro _ _ _ _ _ _ _ _) | (with_reducible refine aft5f5 ?_; intro _ _ _ _ _ _ _ _ _ _ _ _ _ _) | (with_reducible refine aft3f2 ?_; intro _ _ _ _ _ _ _ _ _) | (with_reducible refine aft3f1 ?_; intro _ _ _ _ _ _ _ _) | (with_reducible refine aft1f1 ?_; intro _ _ _ _ _ _)))))) | with_reducible ((show wpAny _ _ (getMethod (Value.ref _) _ _) _ _ _); (k_here; k_dflt (refine' view_meth ?N ?V ?F ?X ?hg ?hf ?ht ?hl ?_; (case N => k_asm); (case V => walk_at "c_view"); (case F => k_asm); (case X => k_asm); (case hg => k_is); (case hf => k_is); (case ht => k_is); (case hl => exact fun _ _ _ _ _ _ => rfl)))) | walk_at "stp")
  · rename pl < _ => hlt
    rw [e1, e2] at hlt
    have hf : i < (fwdL cs k i).1 := lt_off.mp (hp ▸ hlt)
    have e3 : codeAt cs first (first + ↑(fwdL cs k i).1 - 1) = cs.getD ((fwdL cs k i).1 - 1) 0 := by
      obtain ⟨m, e⟩ := Nat.exists_eq_add_one.mpr (Nat.lt_of_le_of_lt (Nat.zero_le i) hf)
      rw [e] at hle ⊢
      exact codeAt_in (fp _ _) hle
    refine ends (nw := (_, tupO [.int _ _, .int _ _]) :: news) (by assumption) (newsub (by assumption) (by walk_at "c_keep")) ⟨_, _, _, rfl, led_tup2 (by rw [e1, e2]; rfl) ?_⟩
    · rw [e1, e2, e3]
      unfold ahL
      simp only [hf, true_and]
      by_cases h : cs.getD ((fwdL cs k i).1 - 1) 0 = 10
      · rw [if_neg (by rw [h]; decide), if_neg (fun hn => hn h)]; rfl
      · rw [if_pos (bne_iff_ne.mpr h), if_pos h]; rfl
  · rename ¬ pl < _ => hlt
    rw [e1, e2] at hlt
    refine ends (nw := (_, tupO [.int _ _, .int _ _]) :: news) (by assumption) (newsub (by assumption) (by walk_at "c_keep")) ⟨_, _, _, rfl, led_tup2 (by rw [e1, e2]; rfl) ?_⟩
    · rw [e1, e2]
      unfold ahL
      have h2 : ¬ pl < first + ((fwdL cs k i).1 : Int) := hlt
      have h1 : ¬ i < (fwdL cs k i).1 := fun q => h2 (hp ▸ lt_off.mpr q)
      simp [h1, h2]
theorem backL_le {cs : List Int} : ∀ (k a : Nat), a ≤ cs.length → backL cs k a ≤ cs.length
  | 0, a, h => h
  | k + 1, a, h => by
    unfold backL
    split
    · exact Nat.zero_le _
    · have := lsN_le (cs := cs) (a - 1)
      exact backL_le k _ (Nat.le_trans this (Nat.le_trans (Nat.sub_le a 1) h))
theorem lsN_len {cs : List Int} {i : Nat} (h : i ≤ cs.length) : lsN cs i ≤ cs.length := Nat.le_trans (lsN_le i) h
theorem ahL_le {cs : List Int} (k a : Nat) (h : a ≤ cs.length) : (ahL cs k a).1 ≤ cs.length := fwdL_le k a h
theorem fwdL_snd {cs : List Int} : ∀ (k a : Nat), (fwdL cs k a).2 ≤ k
  | 0, a => Nat.le_refl _
  | k + 1, a => by
    unfold fwdL
    split
    · exact Nat.le_succ_of_le (fwdL_snd k _)
    · exact Nat.sub_le _ _
theorem ahL_snd {cs : List Int} (k a : Nat) : (ahL cs k a).2 ≤ k + 1 := by
  have := fwdL_snd (cs := cs) k a
  unfold ahL
  dsimp only
  split <;> lia
theorem d_lb (V : ViewAt news v cs first) (pl : Int) (tp : Tok) (many : Int) (tm : Tok) (i k : Nat) (hp : pl = first + i) (hm : many = -(k : Int)) (hi : i ≤ cs.length) :
    Ctr w 69 4 [.ref v, .int pl tp, .int many tm] news (fun r nw => ∃ a t1 x t2, r = .ref a ∧ nw = (a, tupO [.int (first + backL cs k (lsN cs i)) t1, .int x t2]) :: news) := c_lines_back V i hi pl hp tp k many hm tm
theorem d_lf (V : ViewAt news v cs first) (pl : Int) (tp : Tok) (many : Int) (tm : Tok) (i k : Nat) (hp : pl = first + i) (hm : many = (k : Int)) (hi : i ≤ cs.length) (hk : 0 < k) :
    Ctr w 69 4 [.ref v, .int pl tp, .int many tm] news (fun r nw => ∃ a t1 t2, r = .ref a ∧ nw = (a, tupO [.int (first + (fwdL cs k i).1) t1, .int (fwdL cs k i).2 t2]) :: news) := c_lines_fwd V i hi pl hp tp k hk many hm tm
theorem d_la (V : ViewAt news v cs first) (pl : Int) (tp : Tok) (many : Int) (tm : Tok) (i k : Nat) (hp : pl = first + i) (hm : many = (k : Int)) (hi : i ≤ cs.length) (hk : 0 < k) :
    Ctr w 137 5 [.ref v, .int pl tp, .int many tm] news (fun r nw => ∃ a t1 t2, r = .ref a ∧ nw = (a, tupO [.int (first + (ahL cs k i).1) t1, .int (ahL cs k i).2 t2]) :: news) := c_lines_ahead V i hi pl hp tp k hk many hm tm
theorem d_cd (V : ViewAt news v cs first) (pi pj : Int) (t1 t2 : Tok) (i j : Nat) (hi : pi = first + i) (hj : pj = first + j) (hil : i ≤ cs.length) (hjl : j ≤ cs.length) :
    Ctr w 81 3 [.ref v, .int pi t1, .int pj t2] news (fun r nw => ∃ a n vs, r = .ref a ∧ nw = (a, listOf (List.toArray vs) n) :: news ∧ IntsAre vs (slice cs i j) ∧ (slice cs i j).length ≤ 1048576) := by
  intro p loose mean mg mb dp un gd cn cs' a ccd cl outer A₀ base h₀ L m s Q E B F X N T hk hd hu hret
  refine c_codes V i j hil hjl pi pj hi hj t1 t2 p loose mean mg mb dp un gd cn cs' a ccd cl outer A₀ base h₀ L m s Q E B F X N T hk hd hu fun r nw h' tk' F' N' R => ?_
  refine ex_3_3 (R) ?_
  try clear R
  intro a' n' vs' e1 e2 e3
  exact hret r nw h' tk' F' N' ⟨a', n', vs', e1, e2, e3, by unfold slice; rw [List.length_take, List.length_drop]; exact Nat.le_trans (Nat.le_trans (Nat.min_le_right _ _) (Nat.sub_le _ _)) (Nat.le_of_lt V.len)⟩
theorem mulrep {w : World} {A : Around} {E : Value → Shared → Prop} {s : Shared} {h₀ : Heap} {L : Addr} {m : Str → Option Value} {news : Led} {l : Addr} {z : Int} {t : Tok} {x : Int} {u : Tok} {n : Nat} {Q : Value → Shared → Prop}
    (F : Fr h₀ L s.heap m) (N : News h₀ L s.heap news) (hl : s.heap.IsList l [Value.int z t].toArray) (hx : x = (n : Int)) (hn : n ≤ 1000)
    (h : ∀ D us h', Fr h₀ L h' m → News h₀ L h' ((D, listOf (List.toArray us) 0) :: news) → (∀ p ∈ news, p.1 < D) → IntsAre us (List.replicate n z) → (List.replicate n z).length ≤ 1000 → Q (.ref D) { s with heap := h' }) :
    wpAny (model PySem.Challenge.rw_np0052_01.row.prog w) A (binaryOp .Mult (.ref l) (.int x u)) Q E s := by
  subst hx
  have hr : ∀ k : Nat, (List.replicate k [z]).flatten = List.replicate k z := fun k => by
    induction k with
    | zero => rfl
    | succ k ih => rw [List.replicate_succ, List.flatten_cons, ih]; rfl
  refine KM.mul F N hl (.cons z t .nil) (by (clear hn h hr; lia)) (by (clear h hr; lia)) (by simp; with_reducible_and_instances exact Nat.le_trans hn (by decide)) fun D h' F' N' hf hi _ _ _ _ _ => h D _ h' F' N' hf ?_ (by rw [List.length_replicate]; exact hn)
  have := hi
  rw [hr] at this
  exact this
theorem one_many : (1 : Int) = ((1 : Nat) : Int) := rfl
theorem neg_many : (-1 : Int) = -((1 : Nat) : Int) := rfl
local macro_rules | `(tactic| walk_at "c_bnd") => `(tactic| first | assumption | omega | (refine backL_le _ _ ?_; walk_at "c_bnd") | (refine lsN_len ?_; walk_at "c_bnd") | (refine ahL_le _ _ ?_; walk_at "c_bnd") | (refine fwdL_le _ _ ?_; walk_at "c_bnd"))
noncomputable def startL (cs : List Int) (i : Nat) : Nat := backL cs 1 (lsN cs i)
inductive EditAt (nw : Led) (r : Value) (e0 e1 : Int) (codes : List Int) (pl : Int) : Prop
  | mk : ∀ a b l t t0 t1 vs n, r = .ref a → (a, tupO [.ref b, .int pl t]) ∈ nw → (b, tupO [.int e0 t0, .int e1 t1, .ref l]) ∈ nw → (l, listOf (List.toArray vs) n) ∈ nw → IntsAre vs codes → EditAt nw r e0 e1 codes pl
theorem EditAt.of {nw : Led} {e0 e1 : Int} {codes : List Int} {pl : Int} {a b l : Addr} {t t0 t1 : Tok} {vs : List Value} {n : Nat} (h1 : (a, tupO [.ref b, .int pl t]) ∈ nw) (h2 : (b, tupO [.int e0 t0, .int e1 t1, .ref l]) ∈ nw) (h3 : (l, listOf (List.toArray vs) n) ∈ nw) (h4 : IntsAre vs codes) : EditAt nw (.ref a) e0 e1 codes pl := ⟨_, _, _, _, _, _, _, _, rfl, h1, h2, h3, h4⟩
theorem EditAt.eqs {nw : Led} {r : Value} {e0 e1 : Int} {codes : List Int} {pl pl' : Int} (E : EditAt nw r e0 e1 codes pl) (h : pl = pl') : EditAt nw r e0 e1 codes pl' := h ▸ E
theorem c_lines_edit (V : ViewAt news v cs first) (i : Nat) (hi : i ≤ cs.length) (pl : Int) (hp : pl = first + i) (tp : Tok) (k : Nat) (hk : 0 < k) (hk8 : k < 100) (many : Int) (hm : many = k) (tm : Tok) :
    Ctr w 144 6 [.ref v, .int pl tp, .int many tm] news (fun r nw => ∀ a b, a = ahL cs 1 (startL cs i) → b = ahL cs k a.1 →
      EditAt nw r (first + startL cs i) (first + b.1) ((slice cs a.1 b.1 ++ List.replicate b.2 10) ++ (slice cs (startL cs i) a.1 ++ List.replicate a.2 10)) (first + startL cs i + (slice cs a.1 b.1 ++ List.replicate b.2 10).length + (slice cs (startL cs i) a.1 ++ List.replicate a.2 10).length) ∧ ∀ p ∈ news, p ∈ nw) := by
  revert V hi hp hk hk8 hm
  revert w news v cs first i pl tp k many tm
  refine @pk11 _ _ _ _ _ _ _ _ _ _ _ _ (ne2 (ne2 neW nei) nei) ?_
  generalize wk11 _ _ = q
  generalize q.1 = q0, q.2 = q1
  generalize q0.1 = w, q0.2.1 = news, q0.2.2.1 = v, q0.2.2.2.1 = cs, q0.2.2.2.2.1 = first, q0.2.2.2.2.2.1 = i, q0.2.2.2.2.2.2.1 = pl, q0.2.2.2.2.2.2.2 = tp
  generalize q1.1 = k, q1.2.1 = many, q1.2.2 = tm
  clear q q0 q1
  intro V hi hp hk hk8 hm
  have b1 : (ahL cs 1 (backL cs 1 (lsN cs i))).2 ≤ 1000 := Nat.le_trans (ahL_snd _ _) (by decide)
  have b2 : (ahL cs k (ahL cs 1 (backL cs 1 (lsN cs i))).1).2 ≤ 1000 := Nat.le_trans (ahL_snd _ _) (Nat.le_trans hk8 (by decide))
  have hlen := V.len
  refine' ctr_ofW ["view", "place", "many"] ?ho ?hcd ?hb ?hl ?h1 ?h2 ?h3 ?h4 ?_
  (((case ho => k_is); (case hcd => k_is); (case hb => exact rfl); (case hl => exact locs rfl); (case h1 => exact rfl); (case h2 => exact rfl); (case h3 => exact rfl); (case h4 => decide)))
  generalize wp14 _ = c9
  generalize c9.p = p, c9.loose = loose, c9.mean = mean, c9.mg = mg, c9.mb = mb, c9.dp = dp, c9.un = un, c9.gd = gd, c9.outer = outer, c9.A₀ = A₀, c9.base = base, c9.g = g, c9.L = L, c9.s = s
  clear c9
  intro B F X N T hd hu
  (((try dsimp only); (try k_fold)))
  repeat' (first | with_reducible ((show wpAny _ _ (binaryOp _ _ _) _ _ _); (k_here; k_dflt (refine' mulrep ?F ?N ?l ?x ?n ?_; (case F => k_asm); (case N => k_asm); (case l => is_list); (case x => exact rfl); (case n => assumption)); (intro D' us' h' F' N' l1 i1 z1); (try k_lt l1))) | with_reducible ((show wpAny _ _ (call (Value.ref _) _ _) _ _ _); (k_here; (refine' useA ?N ?C ?B ?F ?X ?T ?K ?d ?u ?_; (case N => k_asm); (case C => k_dflt first | exact d_la (by walk_at "c_view") _ _ _ _ _ _ (by (first | assumption | exact rfl)) (by (first | with_reducible exact one_many | with_reducible exact neg_many | assumption)) (by walk_at "c_bnd") (by (first | assumption | exact Nat.one_pos)) | exact d_lf (by walk_at "c_view") _ _ _ _ _ _ (by (first | assumption | exact rfl)) (by (first | with_reducible exact one_many | with_reducible exact neg_many | assumption)) (by walk_at "c_bnd") (by (first | assumption | exact Nat.one_pos)) | exact d_lb (by walk_at "c_view") _ _ _ _ _ _ (by (first | assumption | exact rfl)) (by (first | with_reducible exact one_many | with_reducible exact neg_many | assumption)) (by walk_at "c_bnd") | exact d_cd (by walk_at "c_view") _ _ _ _ _ _ (by (first | assumption | exact rfl)) (by (first | assumption | exact rfl)) (by walk_at "c_bnd") (by walk_at "c_bnd")); (((case B => k_asm); (case F => k_asm); (case X => k_asm); (case T => k_asm); (case K => first | exact rfl | assumption); (case d => k_dflt (first | exact room_le (by assumption) (by first | decide | exact Nat.le_refl _ | exact Nat.le_succ_of_le (by assumption)) | ktr_room)); (case u => k_dflt (first | exact unit_le (by assumption) (by decide) | exact unit_le (k := 1) (by assumption) (by decide) | exact unit_le2 (by assumption) (by decide) | exact unit_leK (by assumption) (by first | exact Nat.le_refl _ | exact Nat.le_succ_of_le (by assumption)) | ktr_units))))); (((first | (with_reducible refine aft1 ?_; intro _ _ _ _ _) | (with_reducible refine aft0 ?_; intro _ _ _ _) | (with_reducible refine aft3 ?_; intro _ _ _ _ _ _ _) | (with_reducible refine aft4 ?_; intro _ _ _ _ _ _ _ _) | (with_reducible refine aft5f5 ?_; intro _ _ _ _ _ _ _ _ _ _ _ _ _ _) | (with_reducible refine aft3f2 ?_; intro _ _ _ _ _ _ _ _ _) | (with_reducible refine aft3f1 ?_; intro _ _ _ _ _ _ _ _) | (with_reducible refine aft1f1 ?_; intro _ _ _ _ _ _)))))) | walk_at "stp")
  refine ends (by assumption) (by assumption) fun a b ha hb => ?_
  subst ha
  subst hb
  refine ⟨?_, by walk_at "c_sub"⟩
  refine EditAt.eqs (nw := _) (EditAt.of (by k_dflt k_mem) (by k_dflt k_mem) (by k_dflt k_mem) (by assumption)) ?_
  simp only [List.length_append]
  rfl
theorem c_lines_back_edit (V : ViewAt news v cs first) (i : Nat) (hi : i ≤ cs.length) (pl : Int) (hp : pl = first + i) (tp : Tok) (k : Nat) (hk : 0 < k) (hk8 : k < 100) (many : Int) (hm : many = k) (tm : Tok) :
    Ctr w 151 6 [.ref v, .int pl tp, .int many tm] news (fun r nw => ∀ a b, a = (fwdL cs 1 (startL cs i)).1 → b = backL cs k (lsN cs (startL cs i)) →
      EditAt nw r (first + b) (first + a) (slice cs (startL cs i) a ++ slice cs b (startL cs i)) (first + b + (first + a) - (first + startL cs i)) ∧ ∀ p ∈ news, p ∈ nw) := by
  revert V hi hp hk hk8 hm
  revert w news v cs first i pl tp k many tm
  refine @pk11 _ _ _ _ _ _ _ _ _ _ _ _ (ne2 (ne2 neW nei) nei) ?_
  generalize wk11 _ _ = q
  generalize q.1 = q0, q.2 = q1
  generalize q0.1 = w, q0.2.1 = news, q0.2.2.1 = v, q0.2.2.2.1 = cs, q0.2.2.2.2.1 = first, q0.2.2.2.2.2.1 = i, q0.2.2.2.2.2.2.1 = pl, q0.2.2.2.2.2.2.2 = tp
  generalize q1.1 = k, q1.2.1 = many, q1.2.2 = tm
  clear q q0 q1
  intro V hi hp hk hk8 hm
  have hlen := V.len
  have hm0 : 0 - many = -(k : Int) := by lia
  refine' ctr_ofW ["view", "place", "many"] ?ho ?hcd ?hb ?hl ?h1 ?h2 ?h3 ?h4 ?_
  (((case ho => k_is); (case hcd => k_is); (case hb => exact rfl); (case hl => exact locs rfl); (case h1 => exact rfl); (case h2 => exact rfl); (case h3 => exact rfl); (case h4 => decide)))
  generalize wp14 _ = c9
  generalize c9.p = p, c9.loose = loose, c9.mean = mean, c9.mg = mg, c9.mb = mb, c9.dp = dp, c9.un = un, c9.gd = gd, c9.outer = outer, c9.A₀ = A₀, c9.base = base, c9.g = g, c9.L = L, c9.s = s
  clear c9
  intro B F X N T hd hu
  (((try dsimp only); (try k_fold)))
  repeat' (first | with_reducible ((show wpAny _ _ (call (Value.ref _) _ _) _ _ _); (k_here; (refine' useA ?N ?C ?B ?F ?X ?T ?K ?d ?u ?_; (case N => k_asm); (case C => k_dflt first | exact d_la (by walk_at "c_view") _ _ _ _ _ _ (by (first | assumption | exact rfl)) (by (first | with_reducible exact one_many | with_reducible exact neg_many | assumption)) (by walk_at "c_bnd") (by (first | assumption | exact Nat.one_pos)) | exact d_lf (by walk_at "c_view") _ _ _ _ _ _ (by (first | assumption | exact rfl)) (by (first | with_reducible exact one_many | with_reducible exact neg_many | assumption)) (by walk_at "c_bnd") (by (first | assumption | exact Nat.one_pos)) | exact d_lb (by walk_at "c_view") _ _ _ _ _ _ (by (first | assumption | exact rfl)) (by (first | with_reducible exact one_many | with_reducible exact neg_many | assumption)) (by walk_at "c_bnd") | exact d_cd (by walk_at "c_view") _ _ _ _ _ _ (by (first | assumption | exact rfl)) (by (first | assumption | exact rfl)) (by walk_at "c_bnd") (by walk_at "c_bnd")); (((case B => k_asm); (case F => k_asm); (case X => k_asm); (case T => k_asm); (case K => first | exact rfl | assumption); (case d => k_dflt (first | exact room_le (by assumption) (by first | decide | exact Nat.le_refl _ | exact Nat.le_succ_of_le (by assumption)) | ktr_room)); (case u => k_dflt (first | exact unit_le (by assumption) (by decide) | exact unit_le (k := 1) (by assumption) (by decide) | exact unit_le2 (by assumption) (by decide) | exact unit_leK (by assumption) (by first | exact Nat.le_refl _ | exact Nat.le_succ_of_le (by assumption)) | ktr_units))))); (((first | (with_reducible refine aft1 ?_; intro _ _ _ _ _) | (with_reducible refine aft0 ?_; intro _ _ _ _) | (with_reducible refine aft3 ?_; intro _ _ _ _ _ _ _) | (with_reducible refine aft4 ?_; intro _ _ _ _ _ _ _ _) | (with_reducible refine aft5f5 ?_; intro _ _ _ _ _ _ _ _ _ _ _ _ _ _) | (with_reducible refine aft3f2 ?_; intro _ _ _ _ _ _ _ _ _) | (with_reducible refine aft3f1 ?_; intro _ _ _ _ _ _ _ _) | (with_reducible refine aft1f1 ?_; intro _ _ _ _ _ _)))))) | walk_at "stp")
  refine ends (by assumption) (by assumption) fun a b ha hb => ?_
  subst ha
  subst hb
  refine ⟨?_, by walk_at "c_sub"⟩
  refine EditAt.eqs (nw := _) (EditAt.of (by k_dflt k_mem) (by k_dflt k_mem) (by k_dflt k_mem) (by assumption)) ?_
  rfl
end
section
variable {w : World} {news : Led}
theorem cls38 {h : Heap} (X : (hd.heap_1 w.params).In h) : ∃ nm q N bs sn sub ab col dd k0 k1 k2 k3 k5,
    h.get? 38 = some (excClassObj nm q 38 N bs [.type "Exception", .type "BaseException", .type "object"] true sn sub ab col dd k0 k1 k2 k3 k5 "Exception.__new__") ∧
    ∃ mN, h.Ns N mN ∧ mN "__init__" = some (.ref 35) ∧ mN "symbol" = none ∧ mN "data" = none ∧ mN "__setattr__" = none ∧ mN "__getattribute__" = none ∧ mN "__getattr__" = none := by
  have e1 := X 38 _ (by k_is)
  have e2 := X 37 _ (by k_is)
  refine ⟨_, _, _, _, _, _, _, _, _, _, _, _, _, _, e1, _, ⟨_, _, _, e2, rfl, ?_, fun _ => rfl⟩, ?_, ?_, ?_, ?_, ?_, ?_⟩
  all_goals first | rfl | decide +kernel | skip
  intro x hx
  simp at hx
  rcases hx with rfl | rfl | rfl | rfl | rfl | rfl <;> exact ⟨_, _, rfl⟩
theorem no_symbol : typeLookup (.type "Exception") "symbol" = pure none := by rw [typeLookup_type, builtinLookup_eq_fast]; kernel_rfl
theorem no_data : typeLookup (.type "Exception") "data" = pure none := by rw [typeLookup_type, builtinLookup_eq_fast]; kernel_rfl
theorem set_first0 {prog : Program} {A : Around} {E : Value → Shared → Prop} {s : Shared} {e : Addr} {o : Obj} {v : Value} {name : Str} {Q : Unit → Shared → Prop}
    {nm q : Str} {N C : Addr} {bs bm : List Value} {B newId sa owner : String} {sn : List Str} {sub : List Value} {ab : Bool} {col : Option Bool} {dd : Option Addr} {k0 k1 k2 k3 k5 : Option Value} {mN : Str → Option Value}
    (SF : StoreFacts B bm sa owner) (hC : s.heap.get? C = some (excClassObj nm q C N bs bm true sn sub ab col dd k0 k1 k2 k3 k5 newId)) (hn : s.heap.Ns N mN) (hna : mN name = none) (hns : mN "__setattr__" = none)
    (hB : typeLookup (.type B) name = pure none)
    (he : s.heap.get? e = some o) (hc : o.cls = .ref C) (hd : o.dict = none) (hnc : ∀ c, o.data ≠ .cls c) (hfr : o.isFreed = false)
    (h : ∀ h' dx tk', s.heap.get? dx = none → h'.get? e = some { o with dict := some dx } → h'.Ns1 dx (fun y => if y = name then some v else none) → (∀ b o, b ≠ e → s.heap.get? b = some o → h'.get? b = some o) → Q () { s with heap := h', toks := tk' }) :
    wpAny (model prog w) A (setAttr (.ref e) name v) Q E s := by
  refine genP fun C9 k9 => ?_
  obtain ⟨hp, g, d, t, os⟩ := s
  refine k9 ?_
  clear k9 C9
  have f3 := SF.slot.bind (.ref e)
  have hpass := SF.passes (.ref e)
  unfold setAttr callSpecial? specialOf
  repeat (any_goals (first | assumption | (with_reducible refine wpAny_loadPart_at he ?_; rw [hc]) | (with_reducible refine wpAny_typeLookup_exc hC hn SF.mro SF.slot.lookup ?_; rw [hns]) | wp_step))
  refine codeAny_call_builtin SF.slot.plain SF.entry (wpAny_check_sa SF hC he hc ?_)
  unfold Builtin.«object.__setattr__»
  repeat (first | rw [refuse_eq] | (rw [refuseLoop_ref, hpass]) | (with_reducible refine wpAny_loadPart_at he ?_; rw [hc]) | with_reducible refine wpAny_mroOf_exc hC ?_ | (with_reducible refine wpAny_typeLookup_exc hC hn SF.mro hB ?_; rw [hna]) | wp_step)
  rw [hd, if_neg (by simp [typeHasDict])]
  split
  · rename_i hcd
    cases hcd
  split
  · rename_i c hcd
    exact absurd hcd (hnc c)
  have hx₁ : (hp.push { cls := .type "dict", data := .dict #[] }).get? e = some o := Heap.get?_push_of_some _ he
  have hxs : e ≠ hp.objs.size := Nat.ne_of_lt (Heap.lt_size he)
  refine wpAny_bind (wpAny_alloc' ?_)
  refine wpAny_bind (wpAny_update' hx₁ ?_)
  refine wpAny_pure ?_
  have hgd : ((hp.push { cls := .type "dict", data := .dict #[] }).update e fun o => { cls := o.cls, dict := some hp.objs.size, data := o.data, slots := o.slots }).get? hp.objs.size
      = some { cls := .type "dict", data := .dict #[] } :=
    (Heap.get?_update_ne _ _ _ _ hxs.symm).trans (Heap.get?_push_at rfl rfl)
  have hnd : ((hp.push { cls := .type "dict", data := .dict #[] }).update e fun o => { cls := o.cls, dict := some hp.objs.size, data := o.data, slots := o.slots }).Ns hp.objs.size (fun _ => none) :=
    ⟨_, #[], _, hgd, rfl, fun e he => absurd he (by simp), fun _ => rfl⟩
  show wpAny _ _ (Builtin.ObjectAttr.storeInDict hp.objs.size (.str name t) name v) _ _ _
  unfold Builtin.ObjectAttr.storeInDict Builtin.ObjectAttr.newKeyGuard
  refine wpAny_bind (wpAny_pure (wpAny_bind (wpAny_nsSet1 (Heap.Ns1.of_empty hnd) fun h' hn' hs => ?_)))
  refine ex_3_3 (hn'.count (Within.cons name v Within.nil)) ?_
  intro oD esD epD hoD hdD hcD
  refine wpAny_bind (wpAny_lookBehind hoD (by rw [hdD]; exact pastItsLine_dict (Nat.le_trans hcD (by rw [List.length_cons, List.length_nil, sizeLine_eq]; with_reducible_and_instances exact Nat.le_add_left _ _))) ?_)
  repeat (any_goals (first | assumption | wp_step))
  refine h h' _ _ (Heap.get?_none_of_le (Nat.le_refl _)) ((hs.2 e hxs).trans (Heap.get?_update_self _ hx₁ ?_)) hn' fun b ob hbx hb => (hs.2 b (Nat.ne_of_lt (Heap.lt_size hb))).trans ((Heap.get?_update_ne _ _ _ _ hbx).trans (Heap.get?_push_of_some _ hb))
  refine genP fun C9 k9 => ?_
  obtain ⟨oc, od, odt, osl⟩ := o
  refine k9 ?_
  clear k9 C9
  cases odt <;> first | rfl | exact hfr
theorem set_first {prog : Program} {A : Around} {E : Value → Shared → Prop} {s : Shared} {e : Addr} {o : Obj} {v : Value} {Q : Unit → Shared → Prop} (X : (hd.heap_1 w.params).In s.heap)
    (he : s.heap.get? e = some o) (hc : o.cls = .ref 38) (hd : o.dict = none) (hnc : ∀ c, o.data ≠ .cls c) (hfr : o.isFreed = false)
    (h : ∀ h' dx tk', s.heap.get? dx = none → h'.get? e = some { o with dict := some dx } → h'.Ns1 dx (fun y => if y = "symbol" then some v else none) → (∀ b o, b ≠ e → s.heap.get? b = some o → h'.get? b = some o) → Q () { s with heap := h', toks := tk' }) :
    wpAny (model prog w) A (setAttr (.ref e) "symbol" v) Q E s := by
  refine genP fun C9 k9 => ?_
  obtain ⟨nm, q, N, bs, sn, sub, ab, col, dd, k0, k1, k2, k3, k5, hC, mN, hn, hni, hna, _, hns, _, _⟩ := cls38 X
  refine k9 ?_
  clear k9 C9
  exact set_first0 PySem.F.store_Exception hC hn hna hns no_symbol he hc hd hnc hfr h
theorem set_second {prog : Program} {A : Around} {E : Value → Shared → Prop} {s : Shared} {e dx : Addr} {o : Obj} {v u : Value} {Q : Unit → Shared → Prop} (X : (hd.heap_1 w.params).In s.heap)
    (he : s.heap.get? e = some o) (hc : o.cls = .ref 38) (hd : o.dict = some dx) (hne : dx ≠ e) (hnc : ∀ c, o.data ≠ .cls c) (hx : e ≠ 38) (hN : s.heap.Ns1 dx (fun y => if y = "symbol" then some u else none))
    (h : ∀ h' tk', h'.get? e = some o → (∃ mA, h'.Ns1 dx mA ∧ mA "symbol" = some u) → (∀ b o, b ≠ e → b ≠ dx → s.heap.get? b = some o → h'.get? b = some o) → Q () { s with heap := h', toks := tk' }) :
    wpAny (model prog w) A (setAttr (.ref e) "data" v) Q E s := by
  refine genP fun C9 k9 => ?_
  obtain ⟨hp, g, d, t, os⟩ := s
  refine k9 ?_
  clear k9 C9
  refine genP fun C9 k9 => ?_
  obtain ⟨nm, q, N, bs, sn, sub, ab, col, dd, k0, k1, k2, k3, k5, hC, mN, hn, hni, _, hna, hns, _, _⟩ := cls38 X
  refine k9 ?_
  clear k9 C9
  refine store_attr PySem.F.store_Exception hC hn hns hna no_data hx ⟨o, he, hc, hnc, .inr ⟨dx, hd, hne, hN⟩⟩ (fun h' tk' I' hk hs => ?_) (Within.cons "symbol" u Within.nil)
  refine ex_1_5 (hs o he) ?_
  intro o₁ ho₁ e1 e2 e3 e4
  have e5 := e4 dx hd
  have : o₁ = o := by
    refine genP fun C9 k9 => ?_
    obtain ⟨a1, a2, a3, a4⟩ := o
    refine k9 ?_
    clear k9 C9
    refine genP fun C9 k9 => ?_
    obtain ⟨b1, b2, b3, b4⟩ := o₁
    refine k9 ?_
    clear k9 C9
    dsimp only at e1 e2 e3 e5 hd
    subst e1 e2 e3
    rw [e5, hd]
  subst this
  refine h h' tk' ho₁ ?_ fun b ob hb hbd hg => hk b ob hb (fun o₀ dx' h₀ hd' => ?_) hg
  · refine ex_1_4 (I') ?_
    try clear I'
    intro o' ho' _ _ hd'
    rw [ho₁] at ho'
    cases ho'
    rcases hd' with ⟨z, _⟩ | ⟨dx', z, _, z3⟩
    · rw [hd] at z; cases z
    · rw [hd] at z; cases z
      exact ⟨_, z3, rfl⟩
  · rw [he] at h₀; cases h₀
    rw [hd] at hd'; cases hd'
    exact hbd
end
section
variable {w : World} {news : Led}
theorem mk_exc {p : Program} {loose : List Str} {mean : ExcName → Option Value} {mg mb : Str → Option Value} {dp un : Nat} {gd : Option (List Code)} {cn : Str} {cs : Scope} {a : Addr} {ccd : Value} {cl : List (Str × Addr)} {outer : List Env}
    {A₀ : Around} {base h₀ : Heap} {L : Addr} {m : Str → Option Value} {s : Shared} {Q E : Value → Shared → Prop} {sym : Str} {ts : Tok} {dv : Value}
    (B : Below A₀ base outer h₀) (F : Fr h₀ L s.heap m) (X : (hd.heap_1 w.params).In h₀) (N : News h₀ L s.heap news) (T : Top p loose mean mg mb h₀) (hk : cs.kind = .function) (hdp : dp + 1 < recursionLimit) (hu : un + 8 < cLine)
    (h : ∀ e dx t h' tk', h'.get? e = some ⟨.ref 38, some dx, .fields #[.ref t, .none, .none, .none, .bool false, .none], #[]⟩ → (hd.heap_1 w.params).In h' → Exc s.heap (L :: fsOf outer) sym e .none h' → Q (.ref e) { s with heap := h', toks := tk' }) :
    wpAny (model PySem.Challenge.rw_np0052_01.row.prog w) (ktrTop dp un gd cn cs L a ccd cl outer) (call (.ref 38) [.str sym ts, dv]) Q E s := by
  refine genP fun C9 k9 => ?_
  obtain ⟨hp, g, d, tk, os⟩ := s
  refine k9 ?_
  clear k9 C9
  refine genP fun C9 k9 => ?_
  obtain ⟨nm, q, NN, bs, sn, sub, ab, col, dd, k0, k1, k2, k3, k5, hC, mN, hn, hni, _⟩ := cls38 (X.keeps F.keep)
  refine k9 ?_
  clear k9 C9
  have h35 := X 35 _ (by k_is)
  refine wpAny_call_exc_init PySem.F.excBase_Exception hC hn hni (F.keep _ _ h35) rfl (fun h' e hm => ?_) (by rw [sizeLine_eq]; show 2 ≤ 16777216; decide)
  refine ex_1_3 (hm.there) ?_
  intro t hm1 hm2 hm3
  have F1 : Fr h₀ L h' m := ⟨F.ns.keeps hm.keeps, fun b o q => hm.keeps _ _ (F.keep b o q), F.above⟩
  have eL : e ≠ L := fun q => by obtain ⟨o, _, _, ho, _⟩ := F.ns; have := hm.new; rw [q] at this; rw [ho] at this; cases this
  have e0 : h₀.get? e = none := by
    cases q : h₀.get? e with
    | none => rfl
    | some o => have := F.keep _ _ q; rw [hm.new] at this; cases this
  have en : ∀ p ∈ news, p.1 ≠ e := fun p hp q => by have := (N p hp).1; rw [q, hm.new] at this; cases this
  have N1 : News h₀ L h' ((e, _) :: news) := fun p hp => by
    rcases List.mem_cons.mp hp with rfl | hp
    · exact ⟨hm1, eL, e0⟩
    · exact ⟨hm.keeps _ _ (N p hp).1, (N p hp).2⟩
  refine wpAny_call ?_
  refine code_defG (s := ⟨h', g, d, tk, os⟩) (binds := [("self", .ref e), ("symbol", .str sym ts), ("data", dv)]) B F1 X N1 T rfl rfl hk (by k_is) (by k_is) (by first | (show dp < recursionLimit; omega) | (show dp + 1 < recursionLimit; omega)) (BindsTo.of_eq rfl) (locs rfl) (fun g1 L' h₁ FG F' N' B' X' T' kG => ?_) rfl rfl rfl (by decide)
  dsimp only
  k_fold
  repeat' (first | with_reducible ((show wpAny _ _ (setAttr (Value.ref _) _ _) _ _ _); (k_here; refine stop_of ?_)) | walk_at "stp")
  refine Stop.go ?_
  refine set_first (X'.keeps F'.keep) (N' _ (.head _)).1 rfl rfl (by intro c q; cases q) rfl fun h2 dx tk2 n2 e2 ns2 k2 => ?_
  have N1e := (N' _ (.head _))
  have F2 : Fr g1 L' h2 _ := ⟨F'.ns.at fun o ho => k2 L' o (Ne.symm N1e.2.1) ho, fun b o q => k2 b o (fun z => by rw [z, N1e.2.2] at q; cases q) (F'.keep b o q), F'.above⟩
  have N2 : News g1 L' h2 ((e, _) :: news) := fun p hp => by
    rcases List.mem_cons.mp hp with rfl | hp
    · exact ⟨e2, N1e.2⟩
    · exact ⟨k2 _ _ (en p hp) (N' p (.tail _ hp)).1, (N' p (.tail _ hp)).2⟩
  have dxe : dx ≠ e := fun q => by rw [q, N1e.1] at n2; cases n2
  have dL : dx ≠ L' := fun q => by obtain ⟨o, _, _, ho, _⟩ := F'.ns; rw [q, ho] at n2; cases n2
  have dg : g1.get? dx = none := by
    cases q : g1.get? dx with
    | none => rfl
    | some o => have := F'.keep _ _ q; rw [n2] at this; cases this
  have dn : ∀ p ∈ news, p.1 ≠ dx := fun p hp q => by have := (N' p (.tail _ hp)).1; rw [q, n2] at this; cases this
  clear F' 
  have N'' := N'
  clear N'
  have e38 : e ≠ 38 := fun q => by have := hm.new; rw [q] at this; rw [show hp.get? 38 = _ from hC] at this; cases this
  repeat' (first | with_reducible ((show wpAny _ _ (setAttr (Value.ref _) _ _) _ _ _); (k_here; refine stop_of ?_)) | walk_at "stp")
  refine Stop.go ?_
  refine set_second (X'.keeps F2.keep) e2 rfl rfl dxe (by intro c q; cases q) e38 ns2 fun h3 tk3 e3 ⟨mA, nsA, hmA⟩ k3 => ?_
  have F3 : Fr g1 L' h3 _ := ⟨F2.ns.at fun o ho => k3 L' o (Ne.symm N1e.2.1) (Ne.symm dL) ho, fun b o q => k3 b o (fun z => by rw [z, N1e.2.2] at q; cases q) (fun z => by rw [z, dg] at q; cases q) (F2.keep b o q), F2.above⟩
  have N3 : News g1 L' h3 ((e, _) :: news) := fun p hp => by
    rcases List.mem_cons.mp hp with rfl | hp
    · exact ⟨e3, N1e.2⟩
    · exact ⟨k3 _ _ (en p hp) (dn p hp) (N2 p (.tail _ hp)).1, (N2 p (.tail _ hp)).2⟩
  have up : ∀ b o, hp.get? b = some o → h3.get? b = some o := fun b o hb => by
    have hb' := hm.keeps b o hb
    by_cases hx : b ∈ news.map (·.1)
    · refine genP fun C9 k9 => ?_
      refine ex_1_2 (List.mem_map.mp hx) ?_
      intro q hq e9_2
      subst e9_2
      refine k9 ?_
      clear k9 C9
      have z := (N q hq).1
      rw [show hp.get? q.1 = _ from hb] at z
      cases z
      exact (N3 q (.tail _ hq)).1
    · refine F3.keep b o (kG b o hb' fun z => ?_)
      rw [List.map_cons] at z
      rcases List.mem_cons.mp z with z | z
      · rw [z] at hb; rw [hm.new] at hb; cases hb
      · exact hx z
  have upn : hp.get? dx = none := by
    cases q : hp.get? dx with
    | none => rfl
    | some o =>
      have hb' := hm.keeps dx o q
      have hx : dx ∉ news.map (·.1) := fun hx => by obtain ⟨p, hp', z⟩ := List.mem_map.mp hx; exact dn p hp' z
      have := kG dx o hb' fun z => by
        rw [List.map_cons] at z
        rcases List.mem_cons.mp z with z | z
        · exact dxe z
        · exact hx z
      rw [dg] at this; cases this
  walk_at "steps"
  refine h e dx t h3 _ e3 (X'.keeps F3.keep) ⟨fun b o q _ => up b o q, fun b o q _ => ⟨o.slots, up b o q⟩, hm.new, _, _, dx, mA, ts, e3, rfl, rfl, rfl, by show 1 < 6; decide, upn, nsA, hmA, .inl rfl⟩
theorem raise_exc {M : Model} {A : Around} {E : Value → Shared → Prop} {env : Env} {s : Shared} {x : Sem Value} {Q : Flow → Shared → Prop} (hh : A.handled = none)
    (h : wpAny M A x (fun v s₁ => ∃ e dx t, v = .ref e ∧ s₁.heap.get? e = some ⟨.ref 38, some dx, .fields #[.ref t, .none, .none, .none, .bool false, .none], #[]⟩ ∧ (hd.heap_1 w.params).In s₁.heap ∧ E (.ref e) s₁) E s) :
    wpAny M A (raiseStmt env (some x) none) Q E s := by
  unfold raiseStmt
  refine wpAny_bind (wpAny_mono h (fun v s₁ h₁ => ?_) fun _ _ x => x)
  refine genP fun C9 k9 => ?_
  refine ex_3_4 (h₁) ?_
  try clear h₁
  intro e dx t e9_3 he X hE
  subst e9_3
  refine k9 ?_
  clear k9 C9
  refine ex_14_2 (cls38 X) ?_
  intro nm q N bs sn sub ab col dd k0 k1 k2 k3 k5 hC _
  have hcB : ([Value.ref 38, .type "Exception", .type "BaseException", .type "object"]).contains (.type "BaseException") = true := by decide
  refine genP fun C9 k9 => ?_
  obtain ⟨hp, g, d, tk, os⟩ := s₁
  refine k9 ?_
  clear k9 C9
  repeat (first | with_reducible refine wpAny_loadPart_at he ?_ | with_reducible refine wpAny_loadPart_at hC ?_ | (with_reducible refine wpAny_isSubtype_exc hC ?_; rw [hcB]) | wp_step)
  exact wpAny_raiseNew_none hh hE
theorem exec_raise {prog : Program} {A : Around} {E : Value → Shared → Prop} {env : Env} {s : Shared} {x : Str} {np cpos pos : Pos} {args : List Expr} {Q : Flow → Shared → Prop} (hh : A.handled = none)
    (h : wpAny (model prog w) A (eval (.Call (.Name x np) args [] cpos) env) (fun v s₁ => ∃ e dx t, v = .ref e ∧ s₁.heap.get? e = some ⟨.ref 38, some dx, .fields #[.ref t, .none, .none, .none, .bool false, .none], #[]⟩ ∧ (hd.heap_1 w.params).In s₁.heap ∧ E (.ref e) s₁) E s) :
    wpAny (model prog w) A (exec (.Raise (some (.Call (.Name x np) args [] cpos)) none pos) env) Q E s := by
  rw [arm_exec_Raise]
  first
    | refine wpAny_bind (wpAny_standAt (raise_exc (w := w) hh (wpAny_bind (wpAny_mono h (fun v s₃ h₃ => wpAny_bind (wpAny_standAt (wpAny_pure h₃))) fun _ _ x => x))))
    | (simp only [evalOpt, Option.map]; refine wpAny_bind (wpAny_standAt (raise_exc (w := w) hh (wpAny_bind (wpAny_mono h (fun v s₃ h₃ => wpAny_bind (wpAny_standAt (wpAny_pure h₃))) fun _ _ x => x)))))
end
local macro_rules | `(tactic| walk_at "c_mem") => `(tactic| first | exact List.Mem.head _ | ktr_member | (refine List.mem_cons_of_mem _ ?_; walk_at "c_mem"))
local macro_rules | `(tactic| k_mem) => `(tactic| walk_at "c_mem")
local macro_rules | `(tactic| walk_at "c_bnd") => `(tactic| first | assumption | omega | (refine backL_le _ _ ?_; walk_at "c_bnd") | (refine lsN_len ?_; walk_at "c_bnd") | (refine ahL_le _ _ ?_; walk_at "c_bnd") | (refine fwdL_le _ _ ?_; walk_at "c_bnd"))
local macro_rules | `(tactic| walk_at "st") => `(tactic| (k_here; k_dflt (refine stop_of ?_)))
local macro_rules | `(tactic| walk_at "CompSrc") => `(tactic| walk_at "st")
local macro_rules | `(tactic| walk_at "CompSrcT") => `(tactic| walk_at "st")
local macro_rules | `(tactic| walk_at "CompEnd") => `(tactic| walk_at "st")
local macro_rules | `(tactic| walk_at "LoopStepU") => `(tactic| walk_at "st")
local macro_rules | `(tactic| walk_at "SrcSU") => `(tactic| walk_at "st")
local macro_rules | `(tactic| walk_at "SrcST") => `(tactic| walk_at "st")
local macro_rules | `(tactic| walk_at "UnrEnd") => `(tactic| walk_at "st")
local macro_rules | `(tactic| walk_at "UnrEndW") => `(tactic| walk_at "st")
local macro_rules | `(tactic| walk_at "eval Lambda") => `(tactic| walk_at "st")
local macro_rules | `(tactic| walk_at "compareOp NotEq ref ref") => `(tactic| walk_at "st")
local macro_rules | `(tactic| walk_at "compareOp NotEq") => `(tactic| walk_at "st")
local macro_rules | `(tactic| walk_at "pyIter str") => `(tactic| walk_at "st")
local macro_rules | `(tactic| k_room) => `(tactic| first | (refine' Nat.lt_of_le_of_lt (Nat.le_add_right _ ?kk) ?hh; (case hh => assumption)) | (show _ + 1 < recursionLimit; first | exact room_le (by assumption) (by decide) | omega) | ((try simp only [depth_under_make, depth_under_kw, depth_in1, depth_deeper, depth_caller]); omega))
local macro_rules | `(tactic| size_fits) => `(tactic| with_reducible exact sz_fit (by repeat (first | exact Nat.le_of_lt (by assumption) | apply sz_cut | apply sz_app | apply Nat.add_le_add)) (by decide))
section
variable {w : World} {news : Led} {v : Addr} {cs : List Int} {first : Int}
theorem c_io_le {one other : Addr} {x0 x1 y0 y1 : Int} {t0 t1 u0 u1 : Tok} (h1 : (one, tupO [.int x0 t0, .int x1 t1]) ∈ news) (h2 : (other, tupO [.int y0 u0, .int y1 u1]) ∈ news) (hle : x0 ≤ y0) :
    CtrX w 88 2 [.ref one, .ref other] news (fun r nw => ∃ a, r = .ref a ∧ nw = (a, tupO [.ref one, .ref other]) :: news ∧ x1 ≤ y0) (fun sym => sym = "error" ∧ y0 < x1) := by
  refine' ctrX_of ["one", "other"] ?ho ?hcd ?hb ?hl ?h1 ?h2 ?h3 ?h4 ?_
  (((case ho => k_is); (case hcd => k_is); (case hb => exact rfl); (case hl => exact locs rfl); (case h1 => exact rfl); (case h2 => exact rfl); (case h3 => exact rfl); (case h4 => decide)))
  intro p loose mean mg mb dp un gd outer A₀ base g L s B F X N T hd hu
  (((try dsimp only); (try k_fold)))
  repeat' (first | with_reducible ((show wpAny _ _ (exec (Stmt.Raise _ _ _) _) _ _ _); (k_here; k_dflt (refine exec_raise rfl ?_))) | with_reducible ((show wpAny _ _ (call (Value.ref _) _ _) _ _ _); (k_here; k_dflt (refine' mk_exc ?B ?F ?X ?N ?T ?K ?d ?u ?_; (case N => k_asm); (((case B => k_asm); (case F => k_asm); (case X => k_asm); (case T => k_asm); (case K => first | exact rfl | assumption); (case d => k_dflt (first | exact room_le (by assumption) (by first | decide | exact Nat.le_refl _ | exact Nat.le_succ_of_le (by assumption)) | ktr_room)); (case u => k_dflt (first | exact unit_le (by assumption) (by decide) | exact unit_le (k := 1) (by assumption) (by decide) | exact unit_le2 (by assumption) (by decide) | exact unit_leK (by assumption) (by first | exact Nat.le_refl _ | exact Nat.le_succ_of_le (by assumption)) | ktr_units)))); (intro e9 dx9 t9 h9 tk9 o9 X9 x9; (try dsimp only))))) | with_reducible ((k_here; (with_reducible show wpAny _ _ (subscriptTail _ _ (Value.ref _) (Value.int _ _)) _ _ _); k_dflt (refine item_tupleT (News.isTup (by k_asm) (by k_dflt k_mem)) (by decide) (by decide) (by rfl) (by rfl) ?_))) | walk_at "stp")
  · exact ⟨_, _, _, _, _, _, _, rfl, rfl, by assumption, by assumption, by walk_at "c_sub", ⟨rfl, by assumption⟩, by assumption⟩
  · exact ends (nw := (_, tupO [.ref one, .ref other]) :: news) (by assumption) (newsub (by assumption) (by walk_at "c_keep")) ⟨_, rfl, rfl, by (clear hle hd hu; lia)⟩
theorem c_io_gt {one other : Addr} {x0 x1 y0 y1 : Int} {t0 t1 u0 u1 : Tok} (h1 : (one, tupO [.int x0 t0, .int x1 t1]) ∈ news) (h2 : (other, tupO [.int y0 u0, .int y1 u1]) ∈ news) (hle : ¬ x0 ≤ y0) :
    CtrX w 88 2 [.ref one, .ref other] news (fun r nw => ∃ a, r = .ref a ∧ nw = (a, tupO [.ref other, .ref one]) :: news ∧ y1 ≤ x0) (fun sym => sym = "error" ∧ x0 < y1) := by
  refine' ctrX_of ["one", "other"] ?ho ?hcd ?hb ?hl ?h1 ?h2 ?h3 ?h4 ?_
  (((case ho => k_is); (case hcd => k_is); (case hb => exact rfl); (case hl => exact locs rfl); (case h1 => exact rfl); (case h2 => exact rfl); (case h3 => exact rfl); (case h4 => decide)))
  intro p loose mean mg mb dp un gd outer A₀ base g L s B F X N T hd hu
  (((try dsimp only); (try k_fold)))
  repeat' (first | with_reducible ((show wpAny _ _ (exec (Stmt.Raise _ _ _) _) _ _ _); (k_here; k_dflt (refine exec_raise rfl ?_))) | with_reducible ((show wpAny _ _ (call (Value.ref _) _ _) _ _ _); (k_here; k_dflt (refine' mk_exc ?B ?F ?X ?N ?T ?K ?d ?u ?_; (case N => k_asm); (((case B => k_asm); (case F => k_asm); (case X => k_asm); (case T => k_asm); (case K => first | exact rfl | assumption); (case d => k_dflt (first | exact room_le (by assumption) (by first | decide | exact Nat.le_refl _ | exact Nat.le_succ_of_le (by assumption)) | ktr_room)); (case u => k_dflt (first | exact unit_le (by assumption) (by decide) | exact unit_le (k := 1) (by assumption) (by decide) | exact unit_le2 (by assumption) (by decide) | exact unit_leK (by assumption) (by first | exact Nat.le_refl _ | exact Nat.le_succ_of_le (by assumption)) | ktr_units)))); (intro e9 dx9 t9 h9 tk9 o9 X9 x9; (try dsimp only))))) | with_reducible ((k_here; (with_reducible show wpAny _ _ (subscriptTail _ _ (Value.ref _) (Value.int _ _)) _ _ _); k_dflt (refine item_tupleT (News.isTup (by k_asm) (by k_dflt k_mem)) (by decide) (by decide) (by rfl) (by rfl) ?_))) | walk_at "stp")
  · exact ⟨_, _, _, _, _, _, _, rfl, rfl, by assumption, by assumption, by walk_at "c_sub", ⟨rfl, by assumption⟩, by assumption⟩
  · exact ends (nw := (_, tupO [.ref other, .ref one]) :: news) (by assumption) (newsub (by assumption) (by walk_at "c_keep")) ⟨_, rfl, rfl, by (clear hle hd hu; lia)⟩
end
section
variable {w : World} {news : Led} {v : Addr} {cs : List Int} {first : Int}
inductive RegAt (news nw : Led) (r : Value) (e0 e1 : Int) (codes : List Int) : Prop
  | mk : ∀ b l t0 t1 vs n, r = .ref b → nw = (b, tupO [.int e0 t0, .int e1 t1, .ref l]) :: (l, listOf (List.toArray vs) n) :: news → IntsAre vs codes → RegAt news nw r e0 e1 codes
theorem c_re_core {one other f s : Addr} {f0 f1 s0 s1 : Nat} {t0 t1 u0 u1 : Tok} (V : ViewAt news v cs first) (h1 : (f, tupO [.int (first + f0) t0, .int (first + f1) t1]) ∈ news) (h2 : (s, tupO [.int (first + s0) u0, .int (first + s1) u1]) ∈ news)
    (b1 : f0 ≤ cs.length) (b2 : f1 ≤ cs.length) (b3 : s0 ≤ cs.length) (b4 : s1 ≤ cs.length)
    (IO : ∀ news', (∀ p ∈ news, p ∈ news') → CtrX w 88 2 [.ref one, .ref other] news' (fun r nw => ∃ a, r = .ref a ∧ nw = (a, tupO [.ref f, .ref s]) :: news' ∧ first + (f1 : Int) ≤ first + s0) (fun sym => sym = "error" ∧ first + (s0 : Int) < first + f1)) :
    CtrX w 95 5 [.ref v, .ref one, .ref other] news (fun r nw => RegAt news nw r (first + f0) (first + s1) ((slice cs s0 s1 ++ slice cs f1 s0) ++ slice cs f0 f1) ∧ f1 ≤ s0) (fun sym => sym = "error" ∧ first + (s0 : Int) < first + f1) := by
  revert V h1 h2 b1 b2 b3 b4 IO
  revert w news v cs first one other f s f0 f1 s0 s1 t0 t1 u0 u1
  refine @pk17 _ _ _ _ _ _ _ _ _ _ _ _ _ _ _ _ _ _ (ne2 (ne2 neW nei) nei) ?_
  generalize wk17 _ _ = q
  generalize q.1 = q0, q.2.1 = q1, q.2.2 = q2
  generalize q0.1 = w, q0.2.1 = news, q0.2.2.1 = v, q0.2.2.2.1 = cs, q0.2.2.2.2.1 = first, q0.2.2.2.2.2.1 = one, q0.2.2.2.2.2.2.1 = other, q0.2.2.2.2.2.2.2 = f
  generalize q1.1 = s, q1.2.1 = f0, q1.2.2.1 = f1, q1.2.2.2.1 = s0, q1.2.2.2.2.1 = s1, q1.2.2.2.2.2.1 = t0, q1.2.2.2.2.2.2.1 = t1, q1.2.2.2.2.2.2.2 = u0
  generalize q2 = u1
  clear q q0 q1
  intro V h1 h2 b1 b2 b3 b4 IO
  have hlen := V.len
  refine' ctrX_ofW ["view", "one", "other"] ?ho ?hcd ?hb ?hl ?h1 ?h2 ?h3 ?h4 ?_
  (((case ho => k_is); (case hcd => k_is); (case hb => exact rfl); (case hl => exact locs rfl); (case h1 => exact rfl); (case h2 => exact rfl); (case h3 => exact rfl); (case h4 => decide)))
  generalize wp14 _ = c9
  generalize c9.p = p, c9.loose = loose, c9.mean = mean, c9.mg = mg, c9.mb = mb, c9.dp = dp, c9.un = un, c9.gd = gd, c9.outer = outer, c9.A₀ = A₀, c9.base = base, c9.g = g, c9.L = L, c9.s = s
  clear c9
  intro B F X N T hd hu
  (((try dsimp only); (try k_fold)))
  repeat' (first | with_reducible ((show wpAny _ _ (call (Value.ref _) _ _) _ _ _); (k_here; k_dflt (refine' useXA ?N ?C ?B ?F ?X ?T ?K ?d ?u ?y ?s ?t ?_; (case N => k_asm); (case C => first | exact (by assumption : ∀ news', (∀ p ∈ _, p ∈ news') → CtrX _ 88 2 _ news' _ _) _ (by walk_at "c_keep")); (((((case B => k_asm); (case F => k_asm); (case X => k_asm); (case T => k_asm); (case K => first | exact rfl | assumption); (case d => k_dflt (first | exact room_le (by assumption) (by first | decide | exact Nat.le_refl _ | exact Nat.le_succ_of_le (by assumption)) | ktr_room)); (case u => k_dflt (first | exact unit_le (by assumption) (by decide) | exact unit_le (k := 1) (by assumption) (by decide) | exact unit_le2 (by assumption) (by decide) | exact unit_leK (by assumption) (by first | exact Nat.le_refl _ | exact Nat.le_succ_of_le (by assumption)) | ktr_units)))); (case y => (first | exact fun _ y => y)); (case s => walk_at "c_keep"); (case t => exact fun _ _ => rfl)))); (((first | (with_reducible refine aft1 ?_; intro _ _ _ _ _) | (with_reducible refine aft0 ?_; intro _ _ _ _) | (with_reducible refine aft3 ?_; intro _ _ _ _ _ _ _) | (with_reducible refine aft4 ?_; intro _ _ _ _ _ _ _ _) | (with_reducible refine aft5f5 ?_; intro _ _ _ _ _ _ _ _ _ _ _ _ _ _) | (with_reducible refine aft3f2 ?_; intro _ _ _ _ _ _ _ _ _) | (with_reducible refine aft3f1 ?_; intro _ _ _ _ _ _ _ _) | (with_reducible refine aft1f1 ?_; intro _ _ _ _ _ _)))))) | with_reducible ((show wpAny _ _ (call (Value.ref _) _ _) _ _ _); (k_here; (refine' useA ?N ?C ?B ?F ?X ?T ?K ?d ?u ?_; (case N => k_asm); (case C => k_dflt first | exact d_cd (by walk_at "c_view") _ _ _ _ _ _ (by (first | assumption | exact rfl)) (by (first | assumption | exact rfl)) (by walk_at "c_bnd") (by walk_at "c_bnd")); (((case B => k_asm); (case F => k_asm); (case X => k_asm); (case T => k_asm); (case K => first | exact rfl | assumption); (case d => k_dflt (first | exact room_le (by assumption) (by first | decide | exact Nat.le_refl _ | exact Nat.le_succ_of_le (by assumption)) | ktr_room)); (case u => k_dflt (first | exact unit_le (by assumption) (by decide) | exact unit_le (k := 1) (by assumption) (by decide) | exact unit_le2 (by assumption) (by decide) | exact unit_leK (by assumption) (by first | exact Nat.le_refl _ | exact Nat.le_succ_of_le (by assumption)) | ktr_units))))); (((first | (with_reducible refine aft1 ?_; intro _ _ _ _ _) | (with_reducible refine aft0 ?_; intro _ _ _ _) | (with_reducible refine aft3 ?_; intro _ _ _ _ _ _ _) | (with_reducible refine aft4 ?_; intro _ _ _ _ _ _ _ _) | (with_reducible refine aft5f5 ?_; intro _ _ _ _ _ _ _ _ _ _ _ _ _ _) | (with_reducible refine aft3f2 ?_; intro _ _ _ _ _ _ _ _ _) | (with_reducible refine aft3f1 ?_; intro _ _ _ _ _ _ _ _) | (with_reducible refine aft1f1 ?_; intro _ _ _ _ _ _)))))) | with_reducible ((k_here; (with_reducible show wpAny _ _ (subscriptTail _ _ (Value.ref _) (Value.int _ _)) _ _ _); k_dflt (refine item_tupleT (News.isTup (by k_asm) (by k_dflt k_mem)) (by decide) (by decide) (by rfl) (by rfl) ?_))) | walk_at "stp")
  exact ends (nw := (_, tupO [.int (first + f0) _, .int (first + s1) _, .ref _]) :: (_, listOf (List.toArray _) _) :: news) (by assumption) (newsub (by assumption) (by walk_at "c_keep")) ⟨⟨_, _, _, _, _, _, rfl, rfl, by assumption⟩, by (clear b1 b2 b3 b4 IO hlen hd hu; lia)⟩
end
section
theorem CtrX.imp {w : World} {f : Addr} {k : Nat} {vs : List Value} {news : Led} {R R' : Value → Led → Prop} {Y Y' : Str → Prop} (C : CtrX w f k vs news R Y) (h : ∀ r nw, R r nw → R' r nw) (h' : ∀ y, Y y → Y' y) : CtrX w f k vs news R' Y' :=
  fun p loose mean mg mb dp un gd cn cs a ccd cl outer A₀ base h₀ L m s Q E B F X N T hk hd hu hret herr => C p loose mean mg mb dp un gd cn cs a ccd cl outer A₀ base h₀ L m s Q E B F X N T hk hd hu (fun r nw h1 tk F1 N1 hr => hret r nw h1 tk F1 N1 (h r nw hr)) fun e sym h1 tk y x => herr e sym h1 tk (h' sym y) x
noncomputable def regE (cs : List Int) (a0 a1 b0 b1 : Nat) : Option (Nat × Nat × List Int) :=
  if a0 ≤ b0 then (if a1 ≤ b0 then some (a0, b1, slice cs b0 b1 ++ slice cs a1 b0 ++ slice cs a0 a1) else none)
  else (if b1 ≤ a0 then some (b0, a1, slice cs a0 a1 ++ slice cs b1 a0 ++ slice cs b0 b1) else none)
variable {w : World} {news : Led} {v : Addr} {cs : List Int} {first : Int}
theorem c_re {one other : Addr} {a0 a1 b0 b1 : Nat} {t0 t1 u0 u1 : Tok} (V : ViewAt news v cs first) (h1 : (one, tupO [.int (first + a0) t0, .int (first + a1) t1]) ∈ news) (h2 : (other, tupO [.int (first + b0) u0, .int (first + b1) u1]) ∈ news)
    (l1 : a0 ≤ cs.length) (l2 : a1 ≤ cs.length) (l3 : b0 ≤ cs.length) (l4 : b1 ≤ cs.length) :
    CtrX w 95 5 [.ref v, .ref one, .ref other] news (fun r nw => ∃ e0 e1 codes, regE cs a0 a1 b0 b1 = some (e0, e1, codes) ∧ RegAt news nw r (first + e0) (first + e1) codes) (fun sym => sym = "error" ∧ regE cs a0 a1 b0 b1 = none) := by
  unfold regE
  by_cases hle : a0 ≤ b0
  · rw [if_pos hle]
    refine (c_re_core V h1 h2 l1 l2 l3 l4 fun news' hs => c_io_le (hs _ h1) (hs _ h2) (by (clear l1 l2 l3 l4 hs; lia))).imp (fun r nw ⟨x, y⟩ => ?_) fun y ⟨a, b⟩ => ⟨a, if_neg (by (clear l1 l2 l3 l4 hle; lia))⟩
    rw [if_pos y]
    exact ⟨_, _, _, rfl, x⟩
  · rw [if_neg hle]
    refine (c_re_core V h2 h1 l3 l4 l1 l2 fun news' hs => c_io_gt (hs _ h1) (hs _ h2) (by (clear l1 l2 l3 l4 hs; lia))).imp (fun r nw ⟨x, y⟩ => ?_) fun y ⟨a, b⟩ => ⟨a, if_neg (by (clear l1 l2 l3 l4 hle; lia))⟩
    rw [if_pos y]
    exact ⟨_, _, _, rfl, x⟩
structure Mover (w : World) (mv : Addr) (k : Nat) (news : Led) (v : Addr) (first : Int) (cs : List Int) (F : Nat → Int → Except Str Nat) : Prop where
  ctr : ∀ news', (∀ p ∈ news, p ∈ news') → ∀ (i : Nat), i ≤ cs.length → ∀ (pl many : Int), pl = first + i → (-2 ≤ many ∧ many ≤ 2 ∧ many ≠ 0) → ∀ t t', CtrX w mv k [.ref v, .int pl t, .int many t'] news' (fun r nw => ∃ j t'', F i many = .ok j ∧ r = .int (first + (j : Nat)) t'' ∧ nw = news') (fun sym => F i many = .error sym)
  bnd : ∀ i many j, F i many = .ok j → i ≤ cs.length → j ≤ cs.length
  fn : ∀ (g h : Heap) (L : Addr) (m : Str → Option Value) (nw : Led), Fr g L h m → (hd.heap_1 w.params).In g → News g L h nw → (∀ p ∈ news, p ∈ nw) → FnAt mv h
theorem Mover.mono {w : World} {mv : Addr} {k : Nat} {news nw : Led} {v : Addr} {first : Int} {cs : List Int} {F : Nat → Int → Except Str Nat} (M : Mover w mv k news v first cs F) (h : ∀ p ∈ news, p ∈ nw) : Mover w mv k nw v first cs F :=
  ⟨fun news' hs => M.ctr news' fun p hp => hs p (h p hp), M.bnd, fun g h' L m nw' F X N hs => M.fn g h' L m nw' F X N fun p hp => hs p (h p hp)⟩
noncomputable def aroundE (F : Nat → Int → Except Str Nat) (i : Nat) (many : Int) : Except Str (Nat × Nat × Nat) :=
  match F i many with
  | .error e => .error e
  | .ok far => match F far (0 - many) with
    | .error e => .error e
    | .ok near => .ok (min far near, max far near, near)
theorem aroundE_ok {F : Nat → Int → Except Str Nat} {i : Nat} {many : Int} {far near : Nat} (h1 : F i many = .ok far) (h2 : F far (0 - many) = .ok near) : aroundE F i many = .ok (min far near, max far near, near) := by unfold aroundE; rw [h1]; dsimp only; rw [h2]
theorem aroundE_e1 {F : Nat → Int → Except Str Nat} {i : Nat} {many : Int} {e : Str} (h1 : F i many = .error e) : aroundE F i many = .error e := by unfold aroundE; rw [h1]
theorem aroundE_e2 {F : Nat → Int → Except Str Nat} {i : Nat} {many : Int} {far : Nat} {e : Str} (h1 : F i many = .ok far) (h2 : F far (0 - many) = .error e) : aroundE F i many = .error e := by unfold aroundE; rw [h1]; dsimp only; rw [h2]
theorem min_if {a b : Nat} : (if first + (b : Int) < first + (a : Int) then first + (b : Int) else first + (a : Int)) = first + ((min a b : Nat) : Int) := by
  rcases Nat.lt_or_ge b a with h | h
  · rw [if_pos (Int.add_lt_add_left (Int.ofNat_lt.mpr h) first), Nat.min_eq_right (Nat.le_of_lt h)]
  · rw [if_neg (fun q => Nat.not_lt.mpr h (Int.ofNat_lt.mp (Int.lt_of_add_lt_add_left q))), Nat.min_eq_left h]
theorem max_if {a b : Nat} : (if first + (b : Int) > first + (a : Int) then first + (b : Int) else first + (a : Int)) = first + ((max a b : Nat) : Int) := by
  rcases Nat.lt_or_ge a b with h | h
  · rw [if_pos (Int.add_lt_add_left (Int.ofNat_lt.mpr h) first), Nat.max_eq_right (Nat.le_of_lt h)]
  · rw [if_neg (fun q => Nat.not_lt.mpr h (Int.ofNat_lt.mp (Int.lt_of_add_lt_add_left q))), Nat.max_eq_left h]
theorem many_neg {m : Int} (h : -2 ≤ m ∧ m ≤ 2 ∧ m ≠ 0) : -2 ≤ 0 - m ∧ 0 - m ≤ 2 ∧ 0 - m ≠ 0 := by
  rw [Int.zero_sub]
  exact ⟨Int.neg_le_neg h.2.1, Int.neg_le_neg h.1, fun e => h.2.2 (Int.neg_eq_zero.mp e)⟩
theorem c_ua {mv : Addr} {k : Nat} {G : Nat → Int → Except Str Nat} (M : Mover w mv k news v first cs G) (V : ViewAt news v cs first) (i : Nat) (hi : i ≤ cs.length) (pl many : Int) (hp : pl = first + i) (hm : -2 ≤ many ∧ many ≤ 2 ∧ many ≠ 0) (t t' : Tok) :
    CtrX w 102 (k + 1) [.ref mv, .ref v, .int pl t, .int many t'] news (fun r nw => ∃ lo hi near a b t0 t1 t2, aroundE G i many = .ok (lo, hi, near) ∧ lo ≤ cs.length ∧ hi ≤ cs.length ∧ near ≤ cs.length ∧ r = .ref a ∧
      nw = (a, tupO [.ref b, .int (first + (near : Nat)) t2]) :: (b, tupO [.int (first + (lo : Nat)) t0, .int (first + (hi : Nat)) t1]) :: news) (fun sym => aroundE G i many = .error sym) := by
  revert M V hi hp hm
  revert w news v cs first mv k G i pl many t t'
  refine @pk13 _ _ _ _ _ _ _ _ _ _ _ _ _ _ (ne2 (ne2 neW nei) nei) ?_
  generalize wk13 _ _ = q
  generalize q.1 = q0, q.2 = q1
  generalize q0.1 = w, q0.2.1 = news, q0.2.2.1 = v, q0.2.2.2.1 = cs, q0.2.2.2.2.1 = first, q0.2.2.2.2.2.1 = mv, q0.2.2.2.2.2.2.1 = k, q0.2.2.2.2.2.2.2 = G
  generalize q1.1 = i, q1.2.1 = pl, q1.2.2.1 = many, q1.2.2.2.1 = t, q1.2.2.2.2 = t'
  clear q q0 q1
  intro M V hi hp hm
  have hlen := V.len
  refine' ctrX_ofW ["mover", "view", "place", "many"] ?ho ?hcd ?hb ?hl ?h1 ?h2 ?h3 ?h4 ?_
  (((case ho => k_is); (case hcd => k_is); (case hb => exact rfl); (case hl => exact locs rfl); (case h1 => exact rfl); (case h2 => exact rfl); (case h3 => exact rfl); (case h4 => decide)))
  generalize wp14 _ = c9
  generalize c9.p = p, c9.loose = loose, c9.mean = mean, c9.mg = mg, c9.mb = mb, c9.dp = dp, c9.un = un, c9.gd = gd, c9.outer = outer, c9.A₀ = A₀, c9.base = base, c9.g = g, c9.L = L, c9.s = s
  clear c9
  intro B F X N T hd hu
  (((try dsimp only); (try k_fold)))
  repeat' (first | with_reducible ((show wpAny _ _ (callWith _ (Value.ref _) _ _ _) _ _ _); (k_here; k_dflt (refine' callWith_F ?k1 ?_; (case k1 => (exact Mover.fn (by assumption) _ _ _ _ _ (by with_reducible assumption) (by with_reducible assumption) (by with_reducible assumption) (by walk_at "c_keep")))))) | with_reducible ((show wpAny _ _ (call (Value.ref _) _ _) _ _ _); (k_here; k_dflt (refine' useXA ?N ?C ?B ?F ?X ?T ?K ?d ?u ?y ?s ?t ?_; (case N => k_asm); (case C => exact Mover.ctr (by assumption) _ (by walk_at "c_keep") _ (by walk_at "c_bnd") _ _ (by (first | assumption | exact rfl)) (by first | assumption | exact many_neg (by assumption)) _ _); (((((case B => k_asm); (case F => k_asm); (case X => k_asm); (case T => k_asm); (case K => first | exact rfl | assumption); (case d => k_dflt (first | exact room_le (by assumption) (by first | decide | exact Nat.le_refl _ | exact Nat.le_succ_of_le (by assumption)) | ktr_room)); (case u => k_dflt (first | exact unit_le (by assumption) (by decide) | exact unit_le (k := 1) (by assumption) (by decide) | exact unit_le2 (by assumption) (by decide) | exact unit_leK (by assumption) (by first | exact Nat.le_refl _ | exact Nat.le_succ_of_le (by assumption)) | ktr_units)))); (case y => (first | (first | exact fun _ y => aroundE_e1 y | exact fun _ y => aroundE_e2 (by assumption) y) | (first | exact fun _ y => y))); (case s => walk_at "c_keep"); (case t => exact fun _ _ => rfl)))); ((with_reducible refine aft2g1 ?_); intro j9 t9 h9 tk9 F9 N9 f9; have b9 := Mover.bnd (by assumption) _ _ _ f9 (by walk_at "c_bnd"); (try dsimp only); (try k_fold)))) | with_reducible ((show FnAt _ _); (k_dflt (exact Mover.fn (by assumption) _ _ _ _ _ (by with_reducible assumption) (by with_reducible assumption) (by with_reducible assumption) (by walk_at "c_keep")))) | walk_at "stp")
  rename Fr _ _ _ _ => FF
  rename News _ _ _ _ => NN
  rename G i many = _ => f1
  rename G _ (0 - many) = _ => f2
  rw [min_if, max_if] at NN
  exact ends FF NN ⟨_, _, _, _, _, _, _, _, aroundE_ok f1 f2, Nat.le_trans (Nat.min_le_left _ _) (by assumption), Nat.max_le.mpr ⟨by assumption, by assumption⟩, by assumption, rfl, rfl⟩
theorem c_ua2 {mv : Addr} {k : Nat} {G : Nat → Int → Except Str Nat} (M : Mover w mv k news v first cs G) (V : ViewAt news v cs first) (i : Nat) (pl many : Int) (hp : pl = first + i) (hi : i ≤ cs.length) (hm : -2 ≤ many ∧ many ≤ 2 ∧ many ≠ 0) (t t' : Tok) :
    CtrX w 102 (k + 1) [.ref mv, .ref v, .int pl t, .int many t'] news (fun r nw => ∃ lo hi near a b t0 t1 t2, aroundE G i many = .ok (lo, hi, near) ∧ lo ≤ cs.length ∧ hi ≤ cs.length ∧ near ≤ cs.length ∧ r = .ref a ∧
      nw = (a, tupO [.ref b, .int (first + (near : Nat)) t2]) :: (b, tupO [.int (first + (lo : Nat)) t0, .int (first + (hi : Nat)) t1]) :: news) (fun sym => aroundE G i many = .error sym) := c_ua M V i hi pl many hp hm t t'
noncomputable def unitsE (F : Nat → Int → Except Str Nat) (cs : List Int) (i : Nat) (many : Int) : Except Str ((Nat × Nat × List Int) × Int) :=
  match aroundE F i (-1) with
  | .error e => .error e
  | .ok (lo, hi, behind) =>
    if many > 0 then match aroundE F behind many with
      | .error e => .error e
      | .ok (lo', hi', _) => match regE cs lo hi lo' hi' with
        | none => .error "error"
        | some e => .ok (e, hi')
    else match aroundE F lo many with
      | .error e => .error e
      | .ok (lo', hi', _) => match regE cs lo hi lo' hi' with
        | none => .error "error"
        | some e => .ok (e, (lo' : Int) + hi - lo)
end
section
theorem unitsE_1 {F : Nat → Int → Except Str Nat} {cs : List Int} {i : Nat} {many : Int} {e : Str} (h : aroundE F i (-1) = .error e) : unitsE F cs i many = .error e := by unfold unitsE; rw [h]
theorem unitsE_2 {F : Nat → Int → Except Str Nat} {cs : List Int} {i lo hi b : Nat} {many : Int} {e : Str} (h : aroundE F i (-1) = .ok (lo, hi, b)) (hp : many > 0) (h2 : aroundE F b many = .error e) : unitsE F cs i many = .error e := by
  unfold unitsE; rw [h]; dsimp only; rw [if_pos hp, h2]
theorem unitsE_3 {F : Nat → Int → Except Str Nat} {cs : List Int} {i lo hi b : Nat} {many : Int} {e : Str} (h : aroundE F i (-1) = .ok (lo, hi, b)) (hp : ¬ many > 0) (h2 : aroundE F lo many = .error e) : unitsE F cs i many = .error e := by
  unfold unitsE; rw [h]; dsimp only; rw [if_neg hp, h2]
theorem unitsE_4 {F : Nat → Int → Except Str Nat} {cs : List Int} {i lo hi b lo' hi' b' : Nat} {many : Int} (h : aroundE F i (-1) = .ok (lo, hi, b)) (hp : many > 0) (h2 : aroundE F b many = .ok (lo', hi', b')) (h3 : regE cs lo hi lo' hi' = none) : unitsE F cs i many = .error "error" := by
  unfold unitsE; rw [h]; dsimp only; rw [if_pos hp, h2]; dsimp only; rw [h3]
theorem unitsE_5 {F : Nat → Int → Except Str Nat} {cs : List Int} {i lo hi b lo' hi' b' : Nat} {many : Int} (h : aroundE F i (-1) = .ok (lo, hi, b)) (hp : ¬ many > 0) (h2 : aroundE F lo many = .ok (lo', hi', b')) (h3 : regE cs lo hi lo' hi' = none) : unitsE F cs i many = .error "error" := by
  unfold unitsE; rw [h]; dsimp only; rw [if_neg hp, h2]; dsimp only; rw [h3]
theorem unitsE_6 {F : Nat → Int → Except Str Nat} {cs : List Int} {i lo hi b lo' hi' b' : Nat} {many : Int} {e : Nat × Nat × List Int} (h : aroundE F i (-1) = .ok (lo, hi, b)) (hp : many > 0) (h2 : aroundE F b many = .ok (lo', hi', b')) (h3 : regE cs lo hi lo' hi' = some e) : unitsE F cs i many = .ok (e, hi') := by
  unfold unitsE; rw [h]; dsimp only; rw [if_pos hp, h2]; dsimp only; rw [h3]
theorem unitsE_7 {F : Nat → Int → Except Str Nat} {cs : List Int} {i lo hi b lo' hi' b' : Nat} {many : Int} {e : Nat × Nat × List Int} (h : aroundE F i (-1) = .ok (lo, hi, b)) (hp : ¬ many > 0) (h2 : aroundE F lo many = .ok (lo', hi', b')) (h3 : regE cs lo hi lo' hi' = some e) : unitsE F cs i many = .ok (e, (lo' : Int) + hi - lo) := by
  unfold unitsE; rw [h]; dsimp only; rw [if_neg hp, h2]; dsimp only; rw [h3]
variable {w : World} {news : Led} {v : Addr} {cs : List Int} {first : Int}
theorem c_ue_pos {mv : Addr} {k : Nat} {G : Nat → Int → Except Str Nat} (M : Mover w mv k news v first cs G) (V : ViewAt news v cs first) (i : Nat) (hi : i ≤ cs.length) (pl many : Int) (hp : pl = first + i) (hm : -2 ≤ many ∧ many ≤ 2 ∧ many ≠ 0) (t t' : Tok) (hk : 5 ≤ k) (hpos : many > 0) :
    CtrX w 109 (k + 2) [.ref mv, .ref v, .int pl t, .int many t'] news (fun r nw => ∃ e0 e1 codes pl', unitsE G cs i many = .ok ((e0, e1, codes), pl') ∧ EditAt nw r (first + e0) (first + e1) codes (first + pl') ∧ ∀ p ∈ news, p ∈ nw) (fun sym => unitsE G cs i many = .error sym) := by
  revert M V hi hp hm hk hpos
  revert w news v cs first mv k G i pl many t t'
  refine @pk13 _ _ _ _ _ _ _ _ _ _ _ _ _ _ (ne2 (ne2 neW nei) nei) ?_
  generalize wk13 _ _ = q
  generalize q.1 = q0, q.2 = q1
  generalize q0.1 = w, q0.2.1 = news, q0.2.2.1 = v, q0.2.2.2.1 = cs, q0.2.2.2.2.1 = first, q0.2.2.2.2.2.1 = mv, q0.2.2.2.2.2.2.1 = k, q0.2.2.2.2.2.2.2 = G
  generalize q1.1 = i, q1.2.1 = pl, q1.2.2.1 = many, q1.2.2.2.1 = t, q1.2.2.2.2 = t'
  clear q q0 q1
  intro M V hi hp hm hk hpos
  have hlen := V.len
  refine' ctrX_ofW ["mover", "view", "place", "many"] ?ho ?hcd ?hb ?hl ?h1 ?h2 ?h3 ?h4 ?_
  (((case ho => k_is); (case hcd => k_is); (case hb => exact rfl); (case hl => exact locs rfl); (case h1 => exact rfl); (case h2 => exact rfl); (case h3 => exact rfl); (case h4 => decide)))
  generalize wp14 _ = c9
  generalize c9.p = p, c9.loose = loose, c9.mean = mean, c9.mg = mg, c9.mb = mb, c9.dp = dp, c9.un = un, c9.gd = gd, c9.outer = outer, c9.A₀ = A₀, c9.base = base, c9.g = g, c9.L = L, c9.s = s
  clear c9
  intro B F X N T hd hu
  (((try dsimp only); (try k_fold)))
  repeat' (first | with_reducible ((show wpAny _ _ (call (Value.ref _) _ _) _ _ _); walk_at "st") | walk_at "stp")
  refine Stop.go ?_
  k_dflt (refine' useXA ?N ?C ?B ?F ?X ?T ?K ?d ?u ?y ?s ?t ?_; (case N => k_asm); (case C => exact c_ua2 (Mover.mono (by assumption) (by walk_at "c_keep")) (by walk_at "c_view") _ _ _ (by (first | assumption | exact rfl)) (by walk_at "c_bnd") (by first | assumption | with_reducible_and_instances decide | decide) _ _); (((((case B => k_asm); (case F => k_asm); (case X => k_asm); (case T => k_asm); (case K => first | exact rfl | assumption); (case d => k_dflt (first | exact room_le (by assumption) (by first | decide | exact Nat.le_refl _ | exact Nat.le_succ_of_le (by assumption)) | ktr_room)); (case u => k_dflt (first | exact unit_le (by assumption) (by decide) | exact unit_le (k := 1) (by assumption) (by decide) | exact unit_le2 (by assumption) (by decide) | exact unit_leK (by assumption) (by first | exact Nat.le_refl _ | exact Nat.le_succ_of_le (by assumption)) | ktr_units)))); (case y => (first | (first | exact fun _ y => unitsE_1 y | exact fun _ y => unitsE_2 (by assumption) (by assumption) y | exact fun _ y => unitsE_3 (by assumption) (by assumption) y | (rintro _ ⟨y1, y2⟩; subst y1; exact unitsE_4 (by assumption) (by assumption) (by assumption) y2) | (rintro _ ⟨y1, y2⟩; subst y1; exact unitsE_5 (by assumption) (by assumption) (by assumption) y2)) | (first | exact fun _ y => y))); (case s => walk_at "c_keep"); (case t => exact fun _ _ => rfl))))
  (with_reducible refine aft8g4 ?_)
  intro lo9 hi9 near9 a9 b9 t9 t8 t7 h9 tk9 F9 N9 f9 m1 m2 m3
  try dsimp only
  try k_fold
  repeat' (first | with_reducible ((show wpAny _ _ (call (Value.ref _) _ _) _ _ _); walk_at "st") | walk_at "stp")
  refine Stop.go ?_
  k_dflt (refine' useXA ?N ?C ?B ?F ?X ?T ?K ?d ?u ?y ?s ?t ?_; (case N => k_asm); (case C => exact c_ua2 (Mover.mono (by assumption) (by walk_at "c_keep")) (by walk_at "c_view") _ _ _ (by (first | assumption | exact rfl)) (by walk_at "c_bnd") (by first | assumption | omega | decide) _ _); (((((case B => k_asm); (case F => k_asm); (case X => k_asm); (case T => k_asm); (case K => first | exact rfl | assumption); (case d => k_dflt (first | exact room_le (by assumption) (by first | decide | exact Nat.le_refl _ | exact Nat.le_succ_of_le (by assumption)) | ktr_room)); (case u => k_dflt (first | exact unit_le (by assumption) (by decide) | exact unit_le (k := 1) (by assumption) (by decide) | exact unit_le2 (by assumption) (by decide) | exact unit_leK (by assumption) (by first | exact Nat.le_refl _ | exact Nat.le_succ_of_le (by assumption)) | ktr_units)))); (case y => (first | (first | exact fun _ y => unitsE_1 y | exact fun _ y => unitsE_2 (by assumption) (by assumption) y | exact fun _ y => unitsE_3 (by assumption) (by assumption) y | (rintro _ ⟨y1, y2⟩; subst y1; exact unitsE_4 (by assumption) (by assumption) (by assumption) y2) | (rintro _ ⟨y1, y2⟩; subst y1; exact unitsE_5 (by assumption) (by assumption) (by assumption) y2)) | (first | exact fun _ y => y))); (case s => walk_at "c_keep"); (case t => exact fun _ _ => rfl))))
  (with_reducible refine aft8g4 ?_)
  intro lo9 hi9 near9 a9 b9 t9 t8 t7 h9 tk9 F9 N9 f9 m1 m2 m3
  try dsimp only
  try k_fold
  repeat' (first | with_reducible ((show wpAny _ _ (call (Value.ref _) _ _) _ _ _); walk_at "st") | walk_at "stp")
  refine Stop.go ?_
  k_dflt (refine' useX ?N ?C ?B ?F ?X ?T ?K ?d ?u ?y ?s ?t ?_; (case N => k_asm); (case C => exact c_re (by walk_at "c_view") (by walk_at "c_mem") (by walk_at "c_mem") (by assumption) (by assumption) (by assumption) (by assumption)); (((((case B => k_asm); (case F => k_asm); (case X => k_asm); (case T => k_asm); (case K => first | exact rfl | assumption); (case d => k_dflt (first | exact room_le (by assumption) (by first | decide | exact Nat.le_refl _ | exact Nat.le_succ_of_le (by assumption)) | ktr_room)); (case u => k_dflt (first | exact unit_le (by assumption) (by decide) | exact unit_le (k := 1) (by assumption) (by decide) | exact unit_le2 (by assumption) (by decide) | exact unit_leK (by assumption) (by first | exact Nat.le_refl _ | exact Nat.le_succ_of_le (by assumption)) | ktr_units)))); (case y => (first | (first | exact fun _ y => unitsE_1 y | exact fun _ y => unitsE_2 (by assumption) (by assumption) y | exact fun _ y => unitsE_3 (by assumption) (by assumption) y | (rintro _ ⟨y1, y2⟩; subst y1; exact unitsE_4 (by assumption) (by assumption) (by assumption) y2) | (rintro _ ⟨y1, y2⟩; subst y1; exact unitsE_5 (by assumption) (by assumption) (by assumption) y2)) | (first | exact fun _ y => y))); (case s => walk_at "c_keep"); (case t => exact fun _ _ => rfl))))
  intro r9 n9 h9 tk9 F9 N9 R9
  refine genP fun C9 k9 => ?_
  refine genP fun C9 k9 => ?_
  obtain ⟨e0, e1, codes, f9, b9, l9, t9, t8, vs9, n8, e9, e8, i9⟩ := R9
  refine k9 ?_
  clear k9 C9
  refine k9 ?_
  clear k9 C9
  subst e9
  subst e8
  try dsimp only
  try k_fold
  repeat' (first | with_reducible ((k_here; (with_reducible show wpAny _ _ (subscriptTail _ _ (Value.ref _) (Value.int _ _)) _ _ _); k_dflt (refine item_tupleT (News.isTup (by k_asm) (by k_dflt k_mem)) (by decide) (by decide) (by rfl) (by rfl) ?_))) | walk_at "stp")
  rename Fr _ _ _ _ => FF
  rename News _ _ _ _ => NN
  exact ends FF NN ⟨_, _, _, _, unitsE_6 (by assumption) hpos (by assumption) (by assumption), (EditAt.of (by walk_at "c_mem") (by walk_at "c_mem") (by walk_at "c_mem") (by assumption)), by walk_at "c_keep"⟩
theorem c_ue_neg {mv : Addr} {k : Nat} {G : Nat → Int → Except Str Nat} (M : Mover w mv k news v first cs G) (V : ViewAt news v cs first) (i : Nat) (hi : i ≤ cs.length) (pl many : Int) (hp : pl = first + i) (hm : -2 ≤ many ∧ many ≤ 2 ∧ many ≠ 0) (t t' : Tok) (hk : 5 ≤ k) (hpos : ¬ many > 0) :
    CtrX w 109 (k + 2) [.ref mv, .ref v, .int pl t, .int many t'] news (fun r nw => ∃ e0 e1 codes pl', unitsE G cs i many = .ok ((e0, e1, codes), pl') ∧ EditAt nw r (first + e0) (first + e1) codes (first + pl') ∧ ∀ p ∈ news, p ∈ nw) (fun sym => unitsE G cs i many = .error sym) := by
  revert M V hi hp hm hk hpos
  revert w news v cs first mv k G i pl many t t'
  refine @pk13 _ _ _ _ _ _ _ _ _ _ _ _ _ _ (ne2 (ne2 neW nei) nei) ?_
  generalize wk13 _ _ = q
  generalize q.1 = q0, q.2 = q1
  generalize q0.1 = w, q0.2.1 = news, q0.2.2.1 = v, q0.2.2.2.1 = cs, q0.2.2.2.2.1 = first, q0.2.2.2.2.2.1 = mv, q0.2.2.2.2.2.2.1 = k, q0.2.2.2.2.2.2.2 = G
  generalize q1.1 = i, q1.2.1 = pl, q1.2.2.1 = many, q1.2.2.2.1 = t, q1.2.2.2.2 = t'
  clear q q0 q1
  intro M V hi hp hm hk hpos
  have hlen := V.len
  refine' ctrX_ofW ["mover", "view", "place", "many"] ?ho ?hcd ?hb ?hl ?h1 ?h2 ?h3 ?h4 ?_
  (((case ho => k_is); (case hcd => k_is); (case hb => exact rfl); (case hl => exact locs rfl); (case h1 => exact rfl); (case h2 => exact rfl); (case h3 => exact rfl); (case h4 => decide)))
  generalize wp14 _ = c9
  generalize c9.p = p, c9.loose = loose, c9.mean = mean, c9.mg = mg, c9.mb = mb, c9.dp = dp, c9.un = un, c9.gd = gd, c9.outer = outer, c9.A₀ = A₀, c9.base = base, c9.g = g, c9.L = L, c9.s = s
  clear c9
  intro B F X N T hd hu
  (((try dsimp only); (try k_fold)))
  repeat' (first | with_reducible ((show wpAny _ _ (call (Value.ref _) _ _) _ _ _); walk_at "st") | walk_at "stp")
  refine Stop.go ?_
  k_dflt (refine' useXA ?N ?C ?B ?F ?X ?T ?K ?d ?u ?y ?s ?t ?_; (case N => k_asm); (case C => exact c_ua2 (Mover.mono (by assumption) (by walk_at "c_keep")) (by walk_at "c_view") _ _ _ (by (first | assumption | exact rfl)) (by walk_at "c_bnd") (by first | assumption | with_reducible_and_instances decide | decide) _ _); (((((case B => k_asm); (case F => k_asm); (case X => k_asm); (case T => k_asm); (case K => first | exact rfl | assumption); (case d => k_dflt (first | exact room_le (by assumption) (by first | decide | exact Nat.le_refl _ | exact Nat.le_succ_of_le (by assumption)) | ktr_room)); (case u => k_dflt (first | exact unit_le (by assumption) (by decide) | exact unit_le (k := 1) (by assumption) (by decide) | exact unit_le2 (by assumption) (by decide) | exact unit_leK (by assumption) (by first | exact Nat.le_refl _ | exact Nat.le_succ_of_le (by assumption)) | ktr_units)))); (case y => (first | (first | exact fun _ y => unitsE_1 y | exact fun _ y => unitsE_2 (by assumption) (by assumption) y | exact fun _ y => unitsE_3 (by assumption) (by assumption) y | (rintro _ ⟨y1, y2⟩; subst y1; exact unitsE_4 (by assumption) (by assumption) (by assumption) y2) | (rintro _ ⟨y1, y2⟩; subst y1; exact unitsE_5 (by assumption) (by assumption) (by assumption) y2)) | (first | exact fun _ y => y))); (case s => walk_at "c_keep"); (case t => exact fun _ _ => rfl))))
  (with_reducible refine aft8g4 ?_)
  intro lo9 hi9 near9 a9 b9 t9 t8 t7 h9 tk9 F9 N9 f9 m1 m2 m3
  try dsimp only
  try k_fold
  repeat' (first | with_reducible ((show wpAny _ _ (call (Value.ref _) _ _) _ _ _); walk_at "st") | with_reducible ((k_here; (with_reducible show wpAny _ _ (subscriptTail _ _ (Value.ref _) (Value.int _ _)) _ _ _); k_dflt (refine item_tupleT (News.isTup (by k_asm) (by k_dflt k_mem)) (by decide) (by decide) (by rfl) (by rfl) ?_))) | walk_at "stp")
  refine Stop.go ?_
  k_dflt (refine' useXA ?N ?C ?B ?F ?X ?T ?K ?d ?u ?y ?s ?t ?_; (case N => k_asm); (case C => exact c_ua2 (Mover.mono (by assumption) (by walk_at "c_keep")) (by walk_at "c_view") _ _ _ (by (first | assumption | exact rfl)) (by walk_at "c_bnd") (by first | assumption | omega | decide) _ _); (((((case B => k_asm); (case F => k_asm); (case X => k_asm); (case T => k_asm); (case K => first | exact rfl | assumption); (case d => k_dflt (first | exact room_le (by assumption) (by first | decide | exact Nat.le_refl _ | exact Nat.le_succ_of_le (by assumption)) | ktr_room)); (case u => k_dflt (first | exact unit_le (by assumption) (by decide) | exact unit_le (k := 1) (by assumption) (by decide) | exact unit_le2 (by assumption) (by decide) | exact unit_leK (by assumption) (by first | exact Nat.le_refl _ | exact Nat.le_succ_of_le (by assumption)) | ktr_units)))); (case y => (first | (first | exact fun _ y => unitsE_1 y | exact fun _ y => unitsE_2 (by assumption) (by assumption) y | exact fun _ y => unitsE_3 (by assumption) (by assumption) y | (rintro _ ⟨y1, y2⟩; subst y1; exact unitsE_4 (by assumption) (by assumption) (by assumption) y2) | (rintro _ ⟨y1, y2⟩; subst y1; exact unitsE_5 (by assumption) (by assumption) (by assumption) y2)) | (first | exact fun _ y => y))); (case s => walk_at "c_keep"); (case t => exact fun _ _ => rfl))))
  (with_reducible refine aft8g4 ?_)
  intro lo9 hi9 near9 a9 b9 t9 t8 t7 h9 tk9 F9 N9 f9 m1 m2 m3
  try dsimp only
  try k_fold
  repeat' (first | with_reducible ((show wpAny _ _ (call (Value.ref _) _ _) _ _ _); walk_at "st") | walk_at "stp")
  refine Stop.go ?_
  k_dflt (refine' useX ?N ?C ?B ?F ?X ?T ?K ?d ?u ?y ?s ?t ?_; (case N => k_asm); (case C => exact c_re (by walk_at "c_view") (by walk_at "c_mem") (by walk_at "c_mem") (by assumption) (by assumption) (by assumption) (by assumption)); (((((case B => k_asm); (case F => k_asm); (case X => k_asm); (case T => k_asm); (case K => first | exact rfl | assumption); (case d => k_dflt (first | exact room_le (by assumption) (by first | decide | exact Nat.le_refl _ | exact Nat.le_succ_of_le (by assumption)) | ktr_room)); (case u => k_dflt (first | exact unit_le (by assumption) (by decide) | exact unit_le (k := 1) (by assumption) (by decide) | exact unit_le2 (by assumption) (by decide) | exact unit_leK (by assumption) (by first | exact Nat.le_refl _ | exact Nat.le_succ_of_le (by assumption)) | ktr_units)))); (case y => (first | (first | exact fun _ y => unitsE_1 y | exact fun _ y => unitsE_2 (by assumption) (by assumption) y | exact fun _ y => unitsE_3 (by assumption) (by assumption) y | (rintro _ ⟨y1, y2⟩; subst y1; exact unitsE_4 (by assumption) (by assumption) (by assumption) y2) | (rintro _ ⟨y1, y2⟩; subst y1; exact unitsE_5 (by assumption) (by assumption) (by assumption) y2)) | (first | exact fun _ y => y))); (case s => walk_at "c_keep"); (case t => exact fun _ _ => rfl))))
  intro r9 n9 h9 tk9 F9 N9 R9
  refine genP fun C9 k9 => ?_
  refine genP fun C9 k9 => ?_
  obtain ⟨e0, e1, codes, f9, b9, l9, t9, t8, vs9, n8, e9, e8, i9⟩ := R9
  refine k9 ?_
  clear k9 C9
  refine k9 ?_
  clear k9 C9
  subst e9
  subst e8
  try dsimp only
  try k_fold
  repeat' (first | with_reducible ((k_here; (with_reducible show wpAny _ _ (subscriptTail _ _ (Value.ref _) (Value.int _ _)) _ _ _); k_dflt (refine item_tupleT (News.isTup (by k_asm) (by k_dflt k_mem)) (by decide) (by decide) (by rfl) (by rfl) ?_))) | walk_at "stp")
  rename Fr _ _ _ _ => FF
  rename News _ _ _ _ => NN
  refine ends FF NN ⟨_, _, _, _, unitsE_7 (by assumption) hpos (by assumption) (by assumption), EditAt.eqs (nw := _) (EditAt.of (by walk_at "c_mem") (by walk_at "c_mem") (by walk_at "c_mem") (by assumption)) ?_, by walk_at "c_keep"⟩
  (clear hi hp hm hk hpos hlen hd hu m1 m2 m3; lia)
end
section
noncomputable def marksE (F : Nat → Int → Except Str Nat) (cs : List Int) (i j : Nat) : Except Str (Nat × Nat × List Int) :=
  match aroundE F i 1 with
  | .error e => .error e
  | .ok (lo, hi, _) => match aroundE F j 1 with
    | .error e => .error e
    | .ok (lo', hi', _) => match regE cs lo hi lo' hi' with
      | none => .error "error"
      | some e => .ok e
theorem marksE_1 {F : Nat → Int → Except Str Nat} {cs : List Int} {i j : Nat} {e : Str} (h : aroundE F i 1 = .error e) : marksE F cs i j = .error e := by unfold marksE; rw [h]
theorem marksE_2 {F : Nat → Int → Except Str Nat} {cs : List Int} {i j lo hi b : Nat} {e : Str} (h : aroundE F i 1 = .ok (lo, hi, b)) (h2 : aroundE F j 1 = .error e) : marksE F cs i j = .error e := by
  unfold marksE; rw [h]; dsimp only; rw [h2]
theorem marksE_3 {F : Nat → Int → Except Str Nat} {cs : List Int} {i j lo hi b lo' hi' b' : Nat} (h : aroundE F i 1 = .ok (lo, hi, b)) (h2 : aroundE F j 1 = .ok (lo', hi', b')) (h3 : regE cs lo hi lo' hi' = none) : marksE F cs i j = .error "error" := by
  unfold marksE; rw [h]; dsimp only; rw [h2]; dsimp only; rw [h3]
theorem marksE_4 {F : Nat → Int → Except Str Nat} {cs : List Int} {i j lo hi b lo' hi' b' : Nat} {e : Nat × Nat × List Int} (h : aroundE F i 1 = .ok (lo, hi, b)) (h2 : aroundE F j 1 = .ok (lo', hi', b')) (h3 : regE cs lo hi lo' hi' = some e) : marksE F cs i j = .ok e := by
  unfold marksE; rw [h]; dsimp only; rw [h2]; dsimp only; rw [h3]
variable {w : World} {news : Led} {v : Addr} {cs : List Int} {first : Int}
theorem c_um {mv : Addr} {k : Nat} {G : Nat → Int → Except Str Nat} (M : Mover w mv k news v first cs G) (V : ViewAt news v cs first) (i j : Nat) (hi : i ≤ cs.length) (hj : j ≤ cs.length) (pl mk : Int) (hp : pl = first + i) (hq : mk = first + j) (t t' : Tok) (hk : 5 ≤ k) :
    CtrX w 116 (k + 2) [.ref mv, .ref v, .int pl t, .int mk t'] news (fun r nw => ∃ e0 e1 codes, marksE G cs i j = .ok (e0, e1, codes) ∧ EditAt nw r (first + e0) (first + e1) codes (first + (j : Nat)) ∧ ∀ p ∈ news, p ∈ nw) (fun sym => marksE G cs i j = .error sym) := by
  revert M V hi hj hp hq hk
  revert w news v cs first mv k G i j pl mk t t'
  refine @pk14 _ _ _ _ _ _ _ _ _ _ _ _ _ _ _ (ne2 (ne2 neW nei) nei) ?_
  generalize wk14 _ _ = q
  generalize q.1 = q0, q.2 = q1
  generalize q0.1 = w, q0.2.1 = news, q0.2.2.1 = v, q0.2.2.2.1 = cs, q0.2.2.2.2.1 = first, q0.2.2.2.2.2.1 = mv, q0.2.2.2.2.2.2.1 = k, q0.2.2.2.2.2.2.2 = G
  generalize q1.1 = i, q1.2.1 = j, q1.2.2.1 = pl, q1.2.2.2.1 = mk, q1.2.2.2.2.1 = t, q1.2.2.2.2.2 = t'
  clear q q0 q1
  intro M V hi hj hp hq hk
  have hlen := V.len
  refine' ctrX_ofW ["mover", "view", "place", "mark"] ?ho ?hcd ?hb ?hl ?h1 ?h2 ?h3 ?h4 ?_
  (((case ho => k_is); (case hcd => k_is); (case hb => exact rfl); (case hl => exact locs rfl); (case h1 => exact rfl); (case h2 => exact rfl); (case h3 => exact rfl); (case h4 => decide)))
  generalize wp14 _ = c9
  generalize c9.p = p, c9.loose = loose, c9.mean = mean, c9.mg = mg, c9.mb = mb, c9.dp = dp, c9.un = un, c9.gd = gd, c9.outer = outer, c9.A₀ = A₀, c9.base = base, c9.g = g, c9.L = L, c9.s = s
  clear c9
  intro B F X N T hd hu
  (((try dsimp only); (try k_fold)))
  repeat' (first | with_reducible ((show wpAny _ _ (call (Value.ref _) _ _) _ _ _); walk_at "st") | walk_at "stp")
  refine Stop.go ?_
  k_dflt (refine' useXA ?N ?C ?B ?F ?X ?T ?K ?d ?u ?y ?s ?t ?_; (case N => k_asm); (case C => exact c_ua2 (Mover.mono (by assumption) (by walk_at "c_keep")) (by walk_at "c_view") _ _ _ (by (first | assumption | exact rfl)) (by walk_at "c_bnd") (by first | assumption | with_reducible_and_instances decide | decide) _ _); (((((case B => k_asm); (case F => k_asm); (case X => k_asm); (case T => k_asm); (case K => first | exact rfl | assumption); (case d => k_dflt (first | exact room_le (by assumption) (by first | decide | exact Nat.le_refl _ | exact Nat.le_succ_of_le (by assumption)) | ktr_room)); (case u => k_dflt (first | exact unit_le (by assumption) (by decide) | exact unit_le (k := 1) (by assumption) (by decide) | exact unit_le2 (by assumption) (by decide) | exact unit_leK (by assumption) (by first | exact Nat.le_refl _ | exact Nat.le_succ_of_le (by assumption)) | ktr_units)))); (case y => (first | (first | exact fun _ y => marksE_1 y | exact fun _ y => marksE_2 (by assumption) y | (rintro _ ⟨y1, y2⟩; subst y1; exact marksE_3 (by assumption) (by assumption) y2)) | (first | exact fun _ y => y))); (case s => walk_at "c_keep"); (case t => exact fun _ _ => rfl))))
  (with_reducible refine aft8g4 ?_)
  intro lo9 hi9 near9 a9 b9 t9 t8 t7 h9 tk9 F9 N9 f9 m1 m2 m3
  try dsimp only
  try k_fold
  repeat' (first | with_reducible ((show wpAny _ _ (call (Value.ref _) _ _) _ _ _); walk_at "st") | walk_at "stp")
  refine Stop.go ?_
  k_dflt (refine' useXA ?N ?C ?B ?F ?X ?T ?K ?d ?u ?y ?s ?t ?_; (case N => k_asm); (case C => exact c_ua2 (Mover.mono (by assumption) (by walk_at "c_keep")) (by walk_at "c_view") _ _ _ (by (first | assumption | exact rfl)) (by walk_at "c_bnd") (by first | assumption | with_reducible_and_instances decide | decide) _ _); (((((case B => k_asm); (case F => k_asm); (case X => k_asm); (case T => k_asm); (case K => first | exact rfl | assumption); (case d => k_dflt (first | exact room_le (by assumption) (by first | decide | exact Nat.le_refl _ | exact Nat.le_succ_of_le (by assumption)) | ktr_room)); (case u => k_dflt (first | exact unit_le (by assumption) (by decide) | exact unit_le (k := 1) (by assumption) (by decide) | exact unit_le2 (by assumption) (by decide) | exact unit_leK (by assumption) (by first | exact Nat.le_refl _ | exact Nat.le_succ_of_le (by assumption)) | ktr_units)))); (case y => (first | (first | exact fun _ y => marksE_1 y | exact fun _ y => marksE_2 (by assumption) y | (rintro _ ⟨y1, y2⟩; subst y1; exact marksE_3 (by assumption) (by assumption) y2)) | (first | exact fun _ y => y))); (case s => walk_at "c_keep"); (case t => exact fun _ _ => rfl))))
  (with_reducible refine aft8g4 ?_)
  intro lo9 hi9 near9 a9 b9 t9 t8 t7 h9 tk9 F9 N9 f9 m1 m2 m3
  try dsimp only
  try k_fold
  repeat' (first | with_reducible ((show wpAny _ _ (call (Value.ref _) _ _) _ _ _); walk_at "st") | walk_at "stp")
  refine Stop.go ?_
  k_dflt (refine' useX ?N ?C ?B ?F ?X ?T ?K ?d ?u ?y ?s ?t ?_; (case N => k_asm); (case C => exact c_re (by walk_at "c_view") (by walk_at "c_mem") (by walk_at "c_mem") (by assumption) (by assumption) (by assumption) (by assumption)); (((((case B => k_asm); (case F => k_asm); (case X => k_asm); (case T => k_asm); (case K => first | exact rfl | assumption); (case d => k_dflt (first | exact room_le (by assumption) (by first | decide | exact Nat.le_refl _ | exact Nat.le_succ_of_le (by assumption)) | ktr_room)); (case u => k_dflt (first | exact unit_le (by assumption) (by decide) | exact unit_le (k := 1) (by assumption) (by decide) | exact unit_le2 (by assumption) (by decide) | exact unit_leK (by assumption) (by first | exact Nat.le_refl _ | exact Nat.le_succ_of_le (by assumption)) | ktr_units)))); (case y => (first | (first | exact fun _ y => marksE_1 y | exact fun _ y => marksE_2 (by assumption) y | (rintro _ ⟨y1, y2⟩; subst y1; exact marksE_3 (by assumption) (by assumption) y2)) | (first | exact fun _ y => y))); (case s => walk_at "c_keep"); (case t => exact fun _ _ => rfl))))
  intro r9 n9 h9 tk9 F9 N9 R9
  refine genP fun C9 k9 => ?_
  refine genP fun C9 k9 => ?_
  obtain ⟨e0, e1, codes, f9, b9, l9, t9, t8, vs9, n8, e9, e8, i9⟩ := R9
  refine k9 ?_
  clear k9 C9
  refine k9 ?_
  clear k9 C9
  subst e9
  subst e8
  try dsimp only
  try k_fold
  walk_at "steps"
  rename Fr _ _ _ _ => FF
  rename News _ _ _ _ => NN
  exact ends FF NN ⟨_, _, _, marksE_4 (by assumption) (by assumption) (by assumption), EditAt.eqs (nw := _) (EditAt.of (by walk_at "c_mem") (by walk_at "c_mem") (by walk_at "c_mem") (by assumption)) hq, by walk_at "c_keep"⟩
end
section
noncomputable def charF (n : Nat) (i : Nat) (many : Int) : Except Str Nat :=
  if (n : Int) < i + many then .error "end-of-buffer" else if (i : Int) + many < 0 then .error "beginning-of-buffer" else .ok ((i : Int) + many).toNat
variable {w : World} {news : Led} {v : Addr} {cs : List Int} {first : Int}
theorem co {f p m : Int} {i : Nat} (hp : p = f + i) (z : Int) : f + z < p + m ↔ z < i + m := by
  rw [hp, Int.add_assoc]
  exact ⟨Int.lt_of_add_lt_add_left, fun h => Int.add_lt_add_left h f⟩
theorem co' {f p m : Int} {i : Nat} (hp : p = f + i) : p + m < f ↔ i + m < 0 := by
  rw [hp, Int.add_assoc]
  exact ⟨fun h => Int.lt_of_add_lt_add_left (a := f) (by rw [Int.add_zero]; exact h), fun h => by have := Int.add_lt_add_left h f; rwa [Int.add_zero] at this⟩
theorem c_by_chars (V : ViewAt news v cs first) (i : Nat) (hi : i ≤ cs.length) (pl many : Int) (hp : pl = first + i) (hm : -2 ≤ many ∧ many ≤ 2 ∧ many ≠ 0) (t t' : Tok) :
    CtrX w 123 5 [.ref v, .int pl t, .int many t'] news (fun r nw => ∃ j t'', charF cs.length i many = .ok j ∧ r = .int (first + (j : Nat)) t'' ∧ nw = news) (fun sym => charF cs.length i many = .error sym) := by
  revert V hi hp hm
  revert w news v cs first i pl many t t'
  refine @pk10 _ _ _ _ _ _ _ _ _ _ _ (ne2 (ne2 neW nei) nei) ?_
  generalize wk10 _ _ = q
  generalize q.1 = q0, q.2 = q1
  generalize q0.1 = w, q0.2.1 = news, q0.2.2.1 = v, q0.2.2.2.1 = cs, q0.2.2.2.2.1 = first, q0.2.2.2.2.2.1 = i, q0.2.2.2.2.2.2.1 = pl, q0.2.2.2.2.2.2.2 = many
  generalize q1.1 = t, q1.2 = t'
  clear q q0 q1
  intro V hi hp hm
  have hlen := V.len
  have h0 := V.pos
  have h1 := V.top
  unfold charF
  refine' ctrX_ofW ["view", "place", "many"] ?ho ?hcd ?hb ?hl ?h1 ?h2 ?h3 ?h4 ?_
  (((case ho => k_is); (case hcd => k_is); (case hb => exact rfl); (case hl => exact locs rfl); (case h1 => exact rfl); (case h2 => exact rfl); (case h3 => exact rfl); (case h4 => decide)))
  generalize wp14 _ = c9
  generalize c9.p = p, c9.loose = loose, c9.mean = mean, c9.mg = mg, c9.mb = mb, c9.dp = dp, c9.un = un, c9.gd = gd, c9.outer = outer, c9.A₀ = A₀, c9.base = base, c9.g = g, c9.L = L, c9.s = s
  clear c9
  intro B F X N T hd hu
  (((try dsimp only); (try k_fold)))
  repeat' (first | with_reducible ((show wpAny _ _ (exec (Stmt.Raise _ _ _) _) _ _ _); (k_here; k_dflt (refine exec_raise rfl ?_))) | with_reducible ((show wpAny _ _ (call (Value.ref _) _ _) _ _ _); (k_here; (refine' useA ?N ?C ?B ?F ?X ?T ?K ?d ?u ?_; (case N => k_asm); (case C => k_dflt first | exact c_begin (by walk_at "c_view") | exact c_end (by walk_at "c_view")); (((case B => k_asm); (case F => k_asm); (case X => k_asm); (case T => k_asm); (case K => first | exact rfl | assumption); (case d => k_dflt (first | exact room_le (by assumption) (by first | decide | exact Nat.le_refl _ | exact Nat.le_succ_of_le (by assumption)) | ktr_room)); (case u => k_dflt (first | exact unit_le (by assumption) (by decide) | exact unit_le (k := 1) (by assumption) (by decide) | exact unit_le2 (by assumption) (by decide) | exact unit_leK (by assumption) (by first | exact Nat.le_refl _ | exact Nat.le_succ_of_le (by assumption)) | ktr_units))))); (((first | (with_reducible refine aft1 ?_; intro _ _ _ _ _) | (with_reducible refine aft0 ?_; intro _ _ _ _) | (with_reducible refine aft3 ?_; intro _ _ _ _ _ _ _) | (with_reducible refine aft4 ?_; intro _ _ _ _ _ _ _ _) | (with_reducible refine aft5f5 ?_; intro _ _ _ _ _ _ _ _ _ _ _ _ _ _) | (with_reducible refine aft3f2 ?_; intro _ _ _ _ _ _ _ _ _) | (with_reducible refine aft3f1 ?_; intro _ _ _ _ _ _ _ _) | (with_reducible refine aft1f1 ?_; intro _ _ _ _ _ _)))))) | with_reducible ((show wpAny _ _ (getMethod (Value.ref _) _ _) _ _ _); (k_here; k_dflt (refine' view_meth ?N ?V ?F ?X ?hg ?hf ?ht ?hl ?_; (case N => k_asm); (case V => walk_at "c_view"); (case F => k_asm); (case X => k_asm); (case hg => k_is); (case hf => k_is); (case ht => k_is); (case hl => exact fun _ _ _ _ _ _ => rfl)))) | with_reducible ((show wpAny _ _ (call (Value.ref _) _ _) _ _ _); (k_here; k_dflt (refine' mk_exc ?B ?F ?X ?N ?T ?K ?d ?u ?_; (case N => k_asm); (((case B => k_asm); (case F => k_asm); (case X => k_asm); (case T => k_asm); (case K => first | exact rfl | assumption); (case d => k_dflt (first | exact room_le (by assumption) (by first | decide | exact Nat.le_refl _ | exact Nat.le_succ_of_le (by assumption)) | ktr_room)); (case u => k_dflt (first | exact unit_le (by assumption) (by decide) | exact unit_le (k := 1) (by assumption) (by decide) | exact unit_le2 (by assumption) (by decide) | exact unit_leK (by assumption) (by first | exact Nat.le_refl _ | exact Nat.le_succ_of_le (by assumption)) | ktr_units)))); (intro e9 dx9 t9 h9 tk9 o9 X9 x9; (try dsimp only))))) | walk_at "stp")
  · exact ⟨_, _, _, _, _, _, _, rfl, rfl, by assumption, by assumption, by walk_at "c_sub", if_pos ((co hp _).mp (by assumption)), by assumption⟩
  · exact ⟨_, _, _, _, _, _, _, rfl, rfl, by assumption, by assumption, by walk_at "c_sub", (if_neg fun q => absurd ((co hp _).mpr q) (by assumption)).trans (if_pos ((co' hp).mp (by assumption))), by assumption⟩
  · exact ends (by assumption) (by assumption) ⟨_, _, (if_neg fun q => absurd ((co hp _).mpr q) (by assumption)).trans (if_neg fun q => absurd ((co' hp).mpr q) (by assumption)), int_eq (by rw [hp, Int.add_assoc, Int.toNat_of_nonneg (Int.not_lt.mp fun q => absurd ((co' hp).mpr q) (by assumption))]), rfl⟩
theorem c_ile (V : ViewAt news v cs first) (i : Nat) (pl : Int) (hp : pl = first + i) (hi : i ≤ cs.length) (tp : Tok) : Ctr w 76 2 [.ref v, .int pl tp] news (fun r nw => r = .bool (decide (i = cs.length ∨ cs.getD i 0 = 10)) ∧ nw = news) := c_is_line_end V i hi pl hp tp
theorem charF_le {n i j : Nat} {many : Int} (h : charF n i many = .ok j) : j ≤ n := by
  unfold charF at h
  split at h
  · cases h
  · split at h
    · cases h
    · cases h; exact Int.toNat_le.mpr (Int.not_lt.mp (by assumption))
theorem fn123 {g h : Heap} {L : Addr} {m : Str → Option Value} (F : Fr g L h m) (X : (Mine.hd.heap_1 w.params).In g) : FnAt 123 h := by
  exact ⟨_, _, _, _, F.keep _ _ (X 123 _ (by k_is))⟩
theorem charMover (V : ViewAt news v cs first) : Mover w 123 5 news v first cs (charF cs.length) :=
  ⟨fun _ hs i hi pl many hp hm t t' => c_by_chars (V.mono hs) i hi pl many hp hm t t', fun _ _ _ h _ => charF_le h, fun _ _ _ _ _ F X _ _ => fn123 F X⟩
theorem c_ue2 {mv : Addr} {k : Nat} {G : Nat → Int → Except Str Nat} (M : Mover w mv k news v first cs G) (V : ViewAt news v cs first) (i : Nat) (pl many : Int) (hp : pl = first + i) (hi : i ≤ cs.length) (hm : -2 ≤ many ∧ many ≤ 2 ∧ many ≠ 0) (t t' : Tok) (hk : 5 ≤ k) :
    CtrX w 109 (k + 2) [.ref mv, .ref v, .int pl t, .int many t'] news (fun r nw => ∃ e0 e1 codes pl', unitsE G cs i many = .ok ((e0, e1, codes), pl') ∧ EditAt nw r (first + e0) (first + e1) codes (first + pl') ∧ ∀ p ∈ news, p ∈ nw) (fun sym => unitsE G cs i many = .error sym) := by
  by_cases h : many > 0
  · exact c_ue_pos M V i hi pl many hp hm t t' hk h
  · exact c_ue_neg M V i hi pl many hp hm t t' hk h
theorem c_ce_int (V : ViewAt news v cs first) (i : Nat) (hi : i ≤ cs.length) (pl many : Int) (hp : pl = first + i) (hm : -2 ≤ many ∧ many ≤ 2 ∧ many ≠ 0) (t t' : Tok) :
    CtrX w 130 8 [.ref v, .int pl t, .int many t'] news (fun r nw => ∃ e0 e1 codes pl', unitsE (charF cs.length) cs i many = .ok ((e0, e1, codes), pl') ∧ EditAt nw r (first + e0) (first + e1) codes (first + pl') ∧ ∀ p ∈ news, p ∈ nw) (fun sym => unitsE (charF cs.length) cs i many = .error sym) := by
  have hlen := V.len
  refine' ctrX_of ["view", "place", "many"] ?ho ?hcd ?hb ?hl ?h1 ?h2 ?h3 ?h4 ?_
  (((case ho => k_is); (case hcd => k_is); (case hb => exact rfl); (case hl => exact locs rfl); (case h1 => exact rfl); (case h2 => exact rfl); (case h3 => exact rfl); (case h4 => decide)))
  intro p loose mean mg mb dp un gd outer A₀ base g L s B F X N T hd hu
  (((try dsimp only); (try k_fold)))
  repeat' (first | with_reducible ((show wpAny _ _ (call (Value.ref _) _ _) _ _ _); (k_here; k_dflt (refine' useX ?N ?C ?B ?F ?X ?T ?K ?d ?u ?y ?s ?t ?_; (case N => k_asm); (case C => exact c_ue2 (charMover (by walk_at "c_view")) (by walk_at "c_view") _ _ _ (by assumption) (by assumption) (by first | assumption | decide) _ _ (Nat.le_refl _)); (((((case B => k_asm); (case F => k_asm); (case X => k_asm); (case T => k_asm); (case K => first | exact rfl | assumption); (case d => k_dflt (first | exact room_le (by assumption) (by first | decide | exact Nat.le_refl _ | exact Nat.le_succ_of_le (by assumption)) | ktr_room)); (case u => k_dflt (first | exact unit_le (by assumption) (by decide) | exact unit_le (k := 1) (by assumption) (by decide) | exact unit_le2 (by assumption) (by decide) | exact unit_leK (by assumption) (by first | exact Nat.le_refl _ | exact Nat.le_succ_of_le (by assumption)) | ktr_units)))); (case y => (first | (exact fun _ y => y) | (first | exact fun _ y => y))); (case s => walk_at "c_keep"); (case t => exact fun _ _ => rfl))); (rintro r9 n9 h9 tk9 F9 N9 R9; (try dsimp only); (try k_fold))))) | walk_at "stp")
  exact ends (by assumption) (by assumption) (by assumption)
theorem c_ce_none1 (V : ViewAt news v cs first) (i : Nat) (hi : i ≤ cs.length) (pl : Int) (hp : pl = first + i) (t : Tok) (hc : (i = cs.length ∨ cs.getD i 0 = 10)) (h0 : 0 < i) :
    CtrX w 130 8 [.ref v, .int pl t, .none] news (fun r nw => ∃ e0 e1 codes pl', unitsE (charF cs.length) cs (i - 1) 1 = .ok ((e0, e1, codes), pl') ∧ EditAt nw r (first + e0) (first + e1) codes (first + pl') ∧ ∀ p ∈ news, p ∈ nw) (fun sym => unitsE (charF cs.length) cs (i - 1) 1 = .error sym) := by
  have hlen := V.len
  obtain ⟨m, e⟩ := Nat.exists_eq_add_one.mpr (by assumption : 0 < i)
  have hp' : pl - 1 = first + ((i - 1 : Nat) : Int) := by rw [hp, e]; exact fp first m
  have hi' : i - 1 ≤ cs.length := Nat.le_trans (Nat.sub_le i 1) hi
  clear e
  have hd' : decide (i = cs.length ∨ cs.getD i 0 = 10) = true := decide_eq_true hc
  refine' ctrX_of ["view", "place", "many"] ?ho ?hcd ?hb ?hl ?h1 ?h2 ?h3 ?h4 ?_
  (((case ho => k_is); (case hcd => k_is); (case hb => exact rfl); (case hl => exact locs rfl); (case h1 => exact rfl); (case h2 => exact rfl); (case h3 => exact rfl); (case h4 => decide)))
  intro p loose mean mg mb dp un gd outer A₀ base g L s B F X N T hd hu
  (((try dsimp only); (try k_fold)))
  repeat' (first | with_reducible ((show wpAny _ _ (call (Value.ref _) _ _) _ _ _); (k_here; k_dflt (refine' useX ?N ?C ?B ?F ?X ?T ?K ?d ?u ?y ?s ?t ?_; (case N => k_asm); (case C => exact c_ue2 (charMover (by walk_at "c_view")) (by walk_at "c_view") _ _ _ (by assumption) (by assumption) (by first | assumption | decide) _ _ (Nat.le_refl _)); (((((case B => k_asm); (case F => k_asm); (case X => k_asm); (case T => k_asm); (case K => first | exact rfl | assumption); (case d => k_dflt (first | exact room_le (by assumption) (by first | decide | exact Nat.le_refl _ | exact Nat.le_succ_of_le (by assumption)) | ktr_room)); (case u => k_dflt (first | exact unit_le (by assumption) (by decide) | exact unit_le (k := 1) (by assumption) (by decide) | exact unit_le2 (by assumption) (by decide) | exact unit_leK (by assumption) (by first | exact Nat.le_refl _ | exact Nat.le_succ_of_le (by assumption)) | ktr_units)))); (case y => (first | (exact fun _ y => y) | (first | exact fun _ y => y))); (case s => walk_at "c_keep"); (case t => exact fun _ _ => rfl))); (rintro r9 n9 h9 tk9 F9 N9 R9; (try dsimp only); (try k_fold))))) | with_reducible ((show wpAny _ _ (call (Value.ref _) _ _) _ _ _); (k_here; (refine' useA ?N ?C ?B ?F ?X ?T ?K ?d ?u ?_; (case N => k_asm); (case C => k_dflt exact c_ile (by walk_at "c_view") _ _ (by assumption) (by assumption) _); (((case B => k_asm); (case F => k_asm); (case X => k_asm); (case T => k_asm); (case K => first | exact rfl | assumption); (case d => k_dflt (first | exact room_le (by assumption) (by first | decide | exact Nat.le_refl _ | exact Nat.le_succ_of_le (by assumption)) | ktr_room)); (case u => k_dflt (first | exact unit_le (by assumption) (by decide) | exact unit_le (k := 1) (by assumption) (by decide) | exact unit_le2 (by assumption) (by decide) | exact unit_leK (by assumption) (by first | exact Nat.le_refl _ | exact Nat.le_succ_of_le (by assumption)) | ktr_units))))); (((first | (with_reducible refine aft1 ?_; intro _ _ _ _ _) | (with_reducible refine aft0 ?_; intro _ _ _ _) | (with_reducible refine aft3 ?_; intro _ _ _ _ _ _ _) | (with_reducible refine aft4 ?_; intro _ _ _ _ _ _ _ _) | (with_reducible refine aft5f5 ?_; intro _ _ _ _ _ _ _ _ _ _ _ _ _ _) | (with_reducible refine aft3f2 ?_; intro _ _ _ _ _ _ _ _ _) | (with_reducible refine aft3f1 ?_; intro _ _ _ _ _ _ _ _) | (with_reducible refine aft1f1 ?_; intro _ _ _ _ _ _)))))) | with_reducible ((show wpAny _ _ (call (Value.ref _) _ _) _ _ _); (k_here; (refine' useA ?N ?C ?B ?F ?X ?T ?K ?d ?u ?_; (case N => k_asm); (case C => k_dflt first | exact c_begin (by walk_at "c_view") | exact c_end (by walk_at "c_view")); (((case B => k_asm); (case F => k_asm); (case X => k_asm); (case T => k_asm); (case K => first | exact rfl | assumption); (case d => k_dflt (first | exact room_le (by assumption) (by first | decide | exact Nat.le_refl _ | exact Nat.le_succ_of_le (by assumption)) | ktr_room)); (case u => k_dflt (first | exact unit_le (by assumption) (by decide) | exact unit_le (k := 1) (by assumption) (by decide) | exact unit_le2 (by assumption) (by decide) | exact unit_leK (by assumption) (by first | exact Nat.le_refl _ | exact Nat.le_succ_of_le (by assumption)) | ktr_units))))); (((first | (with_reducible refine aft1 ?_; intro _ _ _ _ _) | (with_reducible refine aft0 ?_; intro _ _ _ _) | (with_reducible refine aft3 ?_; intro _ _ _ _ _ _ _) | (with_reducible refine aft4 ?_; intro _ _ _ _ _ _ _ _) | (with_reducible refine aft5f5 ?_; intro _ _ _ _ _ _ _ _ _ _ _ _ _ _) | (with_reducible refine aft3f2 ?_; intro _ _ _ _ _ _ _ _ _) | (with_reducible refine aft3f1 ?_; intro _ _ _ _ _ _ _ _) | (with_reducible refine aft1f1 ?_; intro _ _ _ _ _ _)))))) | with_reducible ((show wpAny _ _ (getMethod (Value.ref _) _ _) _ _ _); (k_here; k_dflt (refine' view_meth ?N ?V ?F ?X ?hg ?hf ?ht ?hl ?_; (case N => k_asm); (case V => walk_at "c_view"); (case F => k_asm); (case X => k_asm); (case hg => k_is); (case hf => k_is); (case ht => k_is); (case hl => exact fun _ _ _ _ _ _ => rfl)))) | walk_at "stp")
  exact ends (by assumption) (by assumption) (by assumption)
theorem c_ce_none2 (V : ViewAt news v cs first) (i : Nat) (hi : i ≤ cs.length) (pl : Int) (hp : pl = first + i) (t : Tok) (hc : ¬ (i = cs.length ∨ cs.getD i 0 = 10)) :
    CtrX w 130 8 [.ref v, .int pl t, .none] news (fun r nw => ∃ e0 e1 codes pl', unitsE (charF cs.length) cs i 1 = .ok ((e0, e1, codes), pl') ∧ EditAt nw r (first + e0) (first + e1) codes (first + pl') ∧ ∀ p ∈ news, p ∈ nw) (fun sym => unitsE (charF cs.length) cs i 1 = .error sym) := by
  have hlen := V.len
  have hd' : decide (i = cs.length ∨ cs.getD i 0 = 10) = false := decide_eq_false hc
  refine' ctrX_of ["view", "place", "many"] ?ho ?hcd ?hb ?hl ?h1 ?h2 ?h3 ?h4 ?_
  (((case ho => k_is); (case hcd => k_is); (case hb => exact rfl); (case hl => exact locs rfl); (case h1 => exact rfl); (case h2 => exact rfl); (case h3 => exact rfl); (case h4 => decide)))
  intro p loose mean mg mb dp un gd outer A₀ base g L s B F X N T hd hu
  (((try dsimp only); (try k_fold)))
  repeat' (first | with_reducible ((show wpAny _ _ (call (Value.ref _) _ _) _ _ _); (k_here; k_dflt (refine' useX ?N ?C ?B ?F ?X ?T ?K ?d ?u ?y ?s ?t ?_; (case N => k_asm); (case C => exact c_ue2 (charMover (by walk_at "c_view")) (by walk_at "c_view") _ _ _ (by assumption) (by assumption) (by first | assumption | decide) _ _ (Nat.le_refl _)); (((((case B => k_asm); (case F => k_asm); (case X => k_asm); (case T => k_asm); (case K => first | exact rfl | assumption); (case d => k_dflt (first | exact room_le (by assumption) (by first | decide | exact Nat.le_refl _ | exact Nat.le_succ_of_le (by assumption)) | ktr_room)); (case u => k_dflt (first | exact unit_le (by assumption) (by decide) | exact unit_le (k := 1) (by assumption) (by decide) | exact unit_le2 (by assumption) (by decide) | exact unit_leK (by assumption) (by first | exact Nat.le_refl _ | exact Nat.le_succ_of_le (by assumption)) | ktr_units)))); (case y => (first | (exact fun _ y => y) | (first | exact fun _ y => y))); (case s => walk_at "c_keep"); (case t => exact fun _ _ => rfl))); (rintro r9 n9 h9 tk9 F9 N9 R9; (try dsimp only); (try k_fold))))) | with_reducible ((show wpAny _ _ (call (Value.ref _) _ _) _ _ _); (k_here; (refine' useA ?N ?C ?B ?F ?X ?T ?K ?d ?u ?_; (case N => k_asm); (case C => k_dflt exact c_ile (by walk_at "c_view") _ _ (by assumption) (by assumption) _); (((case B => k_asm); (case F => k_asm); (case X => k_asm); (case T => k_asm); (case K => first | exact rfl | assumption); (case d => k_dflt (first | exact room_le (by assumption) (by first | decide | exact Nat.le_refl _ | exact Nat.le_succ_of_le (by assumption)) | ktr_room)); (case u => k_dflt (first | exact unit_le (by assumption) (by decide) | exact unit_le (k := 1) (by assumption) (by decide) | exact unit_le2 (by assumption) (by decide) | exact unit_leK (by assumption) (by first | exact Nat.le_refl _ | exact Nat.le_succ_of_le (by assumption)) | ktr_units))))); (((first | (with_reducible refine aft1 ?_; intro _ _ _ _ _) | (with_reducible refine aft0 ?_; intro _ _ _ _) | (with_reducible refine aft3 ?_; intro _ _ _ _ _ _ _) | (with_reducible refine aft4 ?_; intro _ _ _ _ _ _ _ _) | (with_reducible refine aft5f5 ?_; intro _ _ _ _ _ _ _ _ _ _ _ _ _ _) | (with_reducible refine aft3f2 ?_; intro _ _ _ _ _ _ _ _ _) | (with_reducible refine aft3f1 ?_; intro _ _ _ _ _ _ _ _) | (with_reducible refine aft1f1 ?_; intro _ _ _ _ _ _)))))) | walk_at "stp")
  exact ends (by assumption) (by assumption) (by assumption)
theorem c_ce_none3 (V : ViewAt news v cs first) (i : Nat) (hi : i ≤ cs.length) (pl : Int) (hp : pl = first + i) (t : Tok) (hc : decide (i = cs.length ∨ cs.getD i 0 = 10) = true) (h0 : ¬ first < pl) :
    CtrX w 130 8 [.ref v, .int pl t, .none] news (fun r nw => ∃ e0 e1 codes pl', unitsE (charF cs.length) cs i 1 = .ok ((e0, e1, codes), pl') ∧ EditAt nw r (first + e0) (first + e1) codes (first + pl') ∧ ∀ p ∈ news, p ∈ nw) (fun sym => unitsE (charF cs.length) cs i 1 = .error sym) := by
  have hlen := V.len
  refine' ctrX_of ["view", "place", "many"] ?ho ?hcd ?hb ?hl ?h1 ?h2 ?h3 ?h4 ?_
  (((case ho => k_is); (case hcd => k_is); (case hb => exact rfl); (case hl => exact locs rfl); (case h1 => exact rfl); (case h2 => exact rfl); (case h3 => exact rfl); (case h4 => decide)))
  intro p loose mean mg mb dp un gd outer A₀ base g L s B F X N T hd hu
  (((try dsimp only); (try k_fold)))
  repeat' (first | with_reducible ((show wpAny _ _ (call (Value.ref _) _ _) _ _ _); (k_here; k_dflt (refine' useX ?N ?C ?B ?F ?X ?T ?K ?d ?u ?y ?s ?t ?_; (case N => k_asm); (case C => exact c_ue2 (charMover (by walk_at "c_view")) (by walk_at "c_view") _ _ _ (by assumption) (by assumption) (by first | assumption | decide) _ _ (Nat.le_refl _)); (((((case B => k_asm); (case F => k_asm); (case X => k_asm); (case T => k_asm); (case K => first | exact rfl | assumption); (case d => k_dflt (first | exact room_le (by assumption) (by first | decide | exact Nat.le_refl _ | exact Nat.le_succ_of_le (by assumption)) | ktr_room)); (case u => k_dflt (first | exact unit_le (by assumption) (by decide) | exact unit_le (k := 1) (by assumption) (by decide) | exact unit_le2 (by assumption) (by decide) | exact unit_leK (by assumption) (by first | exact Nat.le_refl _ | exact Nat.le_succ_of_le (by assumption)) | ktr_units)))); (case y => (first | (exact fun _ y => y) | (first | exact fun _ y => y))); (case s => walk_at "c_keep"); (case t => exact fun _ _ => rfl))); (rintro r9 n9 h9 tk9 F9 N9 R9; (try dsimp only); (try k_fold))))) | with_reducible ((show wpAny _ _ (call (Value.ref _) _ _) _ _ _); (k_here; (refine' useA ?N ?C ?B ?F ?X ?T ?K ?d ?u ?_; (case N => k_asm); (case C => k_dflt exact c_ile (by walk_at "c_view") _ _ (by assumption) (by assumption) _); (((case B => k_asm); (case F => k_asm); (case X => k_asm); (case T => k_asm); (case K => first | exact rfl | assumption); (case d => k_dflt (first | exact room_le (by assumption) (by first | decide | exact Nat.le_refl _ | exact Nat.le_succ_of_le (by assumption)) | ktr_room)); (case u => k_dflt (first | exact unit_le (by assumption) (by decide) | exact unit_le (k := 1) (by assumption) (by decide) | exact unit_le2 (by assumption) (by decide) | exact unit_leK (by assumption) (by first | exact Nat.le_refl _ | exact Nat.le_succ_of_le (by assumption)) | ktr_units))))); (((first | (with_reducible refine aft1 ?_; intro _ _ _ _ _) | (with_reducible refine aft0 ?_; intro _ _ _ _) | (with_reducible refine aft3 ?_; intro _ _ _ _ _ _ _) | (with_reducible refine aft4 ?_; intro _ _ _ _ _ _ _ _) | (with_reducible refine aft5f5 ?_; intro _ _ _ _ _ _ _ _ _ _ _ _ _ _) | (with_reducible refine aft3f2 ?_; intro _ _ _ _ _ _ _ _ _) | (with_reducible refine aft3f1 ?_; intro _ _ _ _ _ _ _ _) | (with_reducible refine aft1f1 ?_; intro _ _ _ _ _ _)))))) | with_reducible ((show wpAny _ _ (call (Value.ref _) _ _) _ _ _); (k_here; (refine' useA ?N ?C ?B ?F ?X ?T ?K ?d ?u ?_; (case N => k_asm); (case C => k_dflt first | exact c_begin (by walk_at "c_view") | exact c_end (by walk_at "c_view")); (((case B => k_asm); (case F => k_asm); (case X => k_asm); (case T => k_asm); (case K => first | exact rfl | assumption); (case d => k_dflt (first | exact room_le (by assumption) (by first | decide | exact Nat.le_refl _ | exact Nat.le_succ_of_le (by assumption)) | ktr_room)); (case u => k_dflt (first | exact unit_le (by assumption) (by decide) | exact unit_le (k := 1) (by assumption) (by decide) | exact unit_le2 (by assumption) (by decide) | exact unit_leK (by assumption) (by first | exact Nat.le_refl _ | exact Nat.le_succ_of_le (by assumption)) | ktr_units))))); (((first | (with_reducible refine aft1 ?_; intro _ _ _ _ _) | (with_reducible refine aft0 ?_; intro _ _ _ _) | (with_reducible refine aft3 ?_; intro _ _ _ _ _ _ _) | (with_reducible refine aft4 ?_; intro _ _ _ _ _ _ _ _) | (with_reducible refine aft5f5 ?_; intro _ _ _ _ _ _ _ _ _ _ _ _ _ _) | (with_reducible refine aft3f2 ?_; intro _ _ _ _ _ _ _ _ _) | (with_reducible refine aft3f1 ?_; intro _ _ _ _ _ _ _ _) | (with_reducible refine aft1f1 ?_; intro _ _ _ _ _ _)))))) | with_reducible ((show wpAny _ _ (getMethod (Value.ref _) _ _) _ _ _); (k_here; k_dflt (refine' view_meth ?N ?V ?F ?X ?hg ?hf ?ht ?hl ?_; (case N => k_asm); (case V => walk_at "c_view"); (case F => k_asm); (case X => k_asm); (case hg => k_is); (case hf => k_is); (case ht => k_is); (case hl => exact fun _ _ _ _ _ _ => rfl)))) | walk_at "stp")
  exact ends (by assumption) (by assumption) (by assumption)
noncomputable def nlBack (cs : List Int) (i : Nat) : Nat := if (i = cs.length ∨ cs.getD i 0 = 10) ∧ 0 < i then i - 1 else i
theorem c_ce_none (V : ViewAt news v cs first) (i : Nat) (hi : i ≤ cs.length) (pl : Int) (hp : pl = first + i) (t : Tok) :
    CtrX w 130 8 [.ref v, .int pl t, .none] news (fun r nw => ∃ e0 e1 codes pl', unitsE (charF cs.length) cs (nlBack cs i) 1 = .ok ((e0, e1, codes), pl') ∧ EditAt nw r (first + e0) (first + e1) codes (first + pl') ∧ ∀ p ∈ news, p ∈ nw) (fun sym => unitsE (charF cs.length) cs (nlBack cs i) 1 = .error sym) := by
  unfold nlBack
  by_cases hc : (i = cs.length ∨ cs.getD i 0 = 10)
  · by_cases h0 : 0 < i
    · rw [if_pos ⟨hc, h0⟩]; exact c_ce_none1 V i hi pl hp t hc h0
    · rw [if_neg (fun h => h0 h.2)]; exact c_ce_none3 V i hi pl hp t (decide_eq_true hc) (by (clear hi hc; lia))
  · rw [if_neg (fun h => hc h.1)]; exact c_ce_none2 V i hi pl hp t hc
end
section
noncomputable def kindW (c : Int) : Str := if 97 ≤ c ∧ c ≤ 100 then "w" else if c = 46 then "." else " "
noncomputable def isW (c : Int) : Bool := decide (97 ≤ c ∧ c ≤ 100)
noncomputable def Sign (c : Int) : Prop := c = 97 ∨ c = 98 ∨ c = 99 ∨ c = 100 ∨ c = 32 ∨ c = 46 ∨ c = 10
inductive SynAt (news : Led) (syn : Addr) (kd : Str) : Prop
  | mk : ∀ ds m f h1 t1 h2 t2 h3 t3 tk n, (syn, instObj 196 ds) ∈ news → (ds, dictOf [⟨h1, .str "kind" t1, .str kd tk⟩, ⟨h2, .str "match" t2, m⟩, ⟨h3, .str "flags" t3, f⟩] n) ∈ news → SynAt news syn kd
theorem SynAt.mono {news nw : Led} {syn : Addr} {kd : Str} (S : SynAt news syn kd) (h : ∀ p ∈ news, p ∈ nw) : SynAt nw syn kd := by
  refine genP fun C9 k9 => ?_
  obtain ⟨ds, m, f, h1, t1, h2, t2, h3, t3, tk, n, a, b⟩ := S
  refine k9 ?_
  clear k9 C9
  exact ⟨ds, m, f, h1, t1, h2, t2, h3, t3, tk, n, h _ a, h _ b⟩
inductive TabW (w : World) (news : Led) (table : Addr) : Prop
  | mk : ∀ dt rd o kvs h1 t1 h2 t2 n, (table, instObj 277 dt) ∈ news → (dt, dictOf [⟨h1, .str "parent" t1, .none⟩, ⟨h2, .str "rows" t2, .ref rd⟩] n) ∈ news → (rd, o) ∈ news →
    o.IsDictOf (PySem.intKind PySem.Challenge.rw_np0052_01.row.prog w) kvs → (rd == sysModules) = false → (∀ c, Sign c → ∃ syn, valueAt kvs c = some (.ref syn) ∧ SynAt news syn (kindW c)) → TabW w news table
theorem TabW.mono {w : World} {news nw : Led} {table : Addr} (T : TabW w news table) (h : ∀ p ∈ news, p ∈ nw) : TabW w nw table := by
  refine genP fun C9 k9 => ?_
  obtain ⟨dt, rd, o, kvs, h1, t1, h2, t2, n, a, b, c, d, e, f⟩ := T
  refine k9 ?_
  clear k9 C9
  refine ⟨dt, rd, o, kvs, h1, t1, h2, t2, n, h _ a, h _ b, h _ c, d, e, fun c hc => ?_⟩
  refine ex_1_2 (f c hc) ?_
  intro syn x y
  exact ⟨syn, x, y.mono h⟩
theorem kindW_at {c : Int} : kindW c = "w" ∨ kindW c = "." ∨ kindW c = " " := by
  unfold kindW; split
  · exact .inl rfl
  · split
    · exact .inr (.inl rfl)
    · exact .inr (.inr rfl)
variable {w : World} {news : Led} {v : Addr} {cs : List Int} {first : Int} {table : Addr}
theorem c_own0 (c : Int) (t : Tok) {dt rd syn ds : Addr} {o : Obj} {kvs : List (Int × Value)} {h1 t1 h2 t2 n} {m f h3 t3 h4 t4 h5 t5 tk n2} {kd : Str}
    (T1 : (table, instObj 277 dt) ∈ news) (T2 : (dt, dictOf [⟨h1, .str "parent" t1, .none⟩, ⟨h2, .str "rows" t2, .ref rd⟩] n) ∈ news) (T3 : (rd, o) ∈ news) (T4 : o.IsDictOf (PySem.intKind PySem.Challenge.rw_np0052_01.row.prog w) kvs)
    (T5 : (rd == sysModules) = false) (T6 : valueAt kvs c = some (.ref syn)) (S1 : (syn, instObj 196 ds) ∈ news) (S2 : (ds, dictOf [⟨h3, .str "kind" t3, .str kd tk⟩, ⟨h4, .str "match" t4, m⟩, ⟨h5, .str "flags" t5, f⟩] n2) ∈ news) (hkd : kd ≠ "@") :
    Ctr w 253 2 [.ref table, .int c t] news (fun r nw => r = .ref syn ∧ nw = news) := by
  revert T1 T2 T3 T4 T5 T6 S1 S2 hkd
  revert w news table c t dt rd syn ds o kvs h1 t1 h2 t2 n m f h3 t3 h4 t4 h5 t5 tk n2 kd
  refine @pk27 _ _ _ _ _ _ _ _ _ _ _ _ _ _ _ _ _ _ _ _ _ _ _ _ _ _ _ _ (ne2 (ne2 neW nei) nei) ?_
  generalize wk27 _ _ = q
  generalize q.1 = q0, q.2.1 = q1, q.2.2.1 = q2, q.2.2.2 = q3
  generalize q0.1 = w, q0.2.1 = news, q0.2.2.1 = table, q0.2.2.2.1 = c, q0.2.2.2.2.1 = t, q0.2.2.2.2.2.1 = dt, q0.2.2.2.2.2.2.1 = rd, q0.2.2.2.2.2.2.2 = syn
  generalize q1.1 = ds, q1.2.1 = o, q1.2.2.1 = kvs, q1.2.2.2.1 = h1, q1.2.2.2.2.1 = t1, q1.2.2.2.2.2.1 = h2, q1.2.2.2.2.2.2.1 = t2, q1.2.2.2.2.2.2.2 = n
  generalize q2.1 = m, q2.2.1 = f, q2.2.2.1 = h3, q2.2.2.2.1 = t3, q2.2.2.2.2.1 = h4, q2.2.2.2.2.2.1 = t4, q2.2.2.2.2.2.2.1 = h5, q2.2.2.2.2.2.2.2 = t5
  generalize q3.1 = tk, q3.2.1 = n2, q3.2.2 = kd
  clear q q0 q1 q2 q3
  intro T1 T2 T3 T4 T5 T6 S1 S2 hkd
  refine' ctr_ofW ["self", "code"] ?ho ?hcd ?hb ?hl ?h1 ?h2 ?h3 ?h4 ?_
  (((case ho => k_is); (case hcd => k_is); (case hb => exact rfl); (case hl => exact locs rfl); (case h1 => exact rfl); (case h2 => exact rfl); (case h3 => exact rfl); (case h4 => decide)))
  generalize wp14 _ = c9
  generalize c9.p = p, c9.loose = loose, c9.mean = mean, c9.mg = mg, c9.mb = mb, c9.dp = dp, c9.un = un, c9.gd = gd, c9.outer = outer, c9.A₀ = A₀, c9.base = base, c9.g = g, c9.L = L, c9.s = s
  clear c9
  intro B F X N T hd hu
  (((try dsimp only); (try k_fold)))
  repeat' (first | with_reducible ((k_here; (with_reducible show wpAny _ _ (getMethod (Value.ref _) (Str.ofString "get") _) _ _ _); k_dflt (refine kdg_method (knd := PySem.intKind _ _) (by k_asm) (by k_mem) (by k_asm) ?_))) | with_reducible ((show wpAny _ _ (call (Value.builtin "dict.get") _ _) _ _ _); (k_here; k_dflt (refine kdg_get2 (knd := PySem.intKind _ _) (by k_asm) (by k_mem) (by k_asm) (by assumption) (intKind_is _ _ _ _) _ (by assumption) ?_); (try dsimp only [Option.getD]))) | walk_at "stp")
  · simp_all
  · exact ends (by assumption) (by assumption) ⟨rfl, rfl⟩
theorem c_own (T : TabW w news table) (c : Int) (hc : Sign c) (t : Tok) : ∃ syn, SynAt news syn (kindW c) ∧ Ctr w 253 2 [.ref table, .int c t] news (fun r nw => r = .ref syn ∧ nw = news) := by
  refine genP fun C9 k9 => ?_
  obtain ⟨dt, rd, o, kvs, h1, t1, h2, t2, n, a, b, c1, d, e, f⟩ := T
  refine k9 ?_
  clear k9 C9
  refine ex_1_2 (f c hc) ?_
  intro syn x y
  refine genP fun C9 k9 => ?_
  obtain ⟨ds, m, f', h3, t3, h4, t4, h5, t5, tk, n2, a2, b2⟩ := id y
  refine k9 ?_
  clear k9 C9
  refine ⟨syn, y, c_own0 c t a b c1 d e x a2 b2 ?_⟩
  rcases kindW_at (c := c) with q | q | q <;> rw [q] <;> decide
theorem c_at (T : TabW w news table) (c : Int) (hc : Sign c) (t : Tok) : Ctr w 260 3 [.ref table, .int c t] news (fun r nw => ∃ syn, r = .ref syn ∧ nw = news ∧ SynAt news syn (kindW c)) := by
  revert T hc
  revert w news table c t
  refine @pk5 _ _ _ _ _ _ (ne2 neW nei) ?_
  generalize wk5 _ _ = q
  generalize q.1 = w, q.2.1 = news, q.2.2.1 = table, q.2.2.2.1 = c, q.2.2.2.2 = t
  clear q
  intro T hc
  refine ex_1_2 (c_own T c hc t) ?_
  intro syn hs C
  refine genP fun C9 k9 => ?_
  obtain ⟨dt, rd, o, kvs, h1, t1, h2, t2, n, a, b, c1, d, e, f⟩ := id T
  refine k9 ?_
  clear k9 C9
  refine' ctr_ofW ["self", "code"] ?ho ?hcd ?hb ?hl ?h1 ?h2 ?h3 ?h4 ?_
  (((case ho => k_is); (case hcd => k_is); (case hb => exact rfl); (case hl => exact locs rfl); (case h1 => exact rfl); (case h2 => exact rfl); (case h3 => exact rfl); (case h4 => decide)))
  generalize wp14 _ = c9
  generalize c9.p = p, c9.loose = loose, c9.mean = mean, c9.mg = mg, c9.mb = mb, c9.dp = dp, c9.un = un, c9.gd = gd, c9.outer = outer, c9.A₀ = A₀, c9.base = base, c9.g = g, c9.L = L, c9.s = s
  clear c9
  intro B F X N T hd hu
  (((try dsimp only); (try k_fold)))
  walk_at "steps"
  rename Fr _ _ _ _ => F0
  rename News _ _ _ _ => N0
  refine Stop.go (While_inv2 (n₀ := 0) (fun n m₁ nx => nx = news ∧ m₁ "table" = some (.ref table) ∧ m₁ "code" = some (.int c t)) F0 N0 ⟨rfl, rfl, rfl⟩ ?_)
  clear F0 N0
  intro n m₁ nx h₁ tk₁ F1 N1 p9_7
  refine genP fun C9 k9 => ?_
  refine ex_0_3 (p9_7) ?_
  try clear p9_7
  intro e9_0 m1 m2
  subst e9_0
  refine k9 ?_
  clear k9 C9
  repeat' (first | with_reducible ((show wpAny _ _ (getMethod (Value.ref _) _ _) _ _ _); (k_here; k_dflt (refine' method_inst ?F ?X ?I ?hg ?hf ?ht ?hl ?_; (case F => k_asm); (case X => k_asm); (case I => exact InstAt.of_news (by k_asm) (by k_mem) (by k_mem)); (case hg => k_is); (case hf => k_is); (case ht => k_is); (case hl => exact rfl)))) | with_reducible ((show wpAny _ _ (call (Value.ref _) _ _) _ _ _); (k_here; (refine' useA ?N ?C ?B ?F ?X ?T ?K ?d ?u ?_; (case N => k_asm); (case C => k_dflt assumption); (((case B => k_asm); (case F => k_asm); (case X => k_asm); (case T => k_asm); (case K => first | exact rfl | assumption); (case d => k_dflt (first | exact room_le (by assumption) (by first | decide | exact Nat.le_refl _ | exact Nat.le_succ_of_le (by assumption)) | ktr_room)); (case u => k_dflt (first | exact unit_le (by assumption) (by decide) | exact unit_le (k := 1) (by assumption) (by decide) | exact unit_le2 (by assumption) (by decide) | exact unit_leK (by assumption) (by first | exact Nat.le_refl _ | exact Nat.le_succ_of_le (by assumption)) | ktr_units))))); (((first | (with_reducible refine aft1 ?_; intro _ _ _ _ _) | (with_reducible refine aft0 ?_; intro _ _ _ _) | (with_reducible refine aft3 ?_; intro _ _ _ _ _ _ _) | (with_reducible refine aft4 ?_; intro _ _ _ _ _ _ _ _) | (with_reducible refine aft5f5 ?_; intro _ _ _ _ _ _ _ _ _ _ _ _ _ _) | (with_reducible refine aft3f2 ?_; intro _ _ _ _ _ _ _ _ _) | (with_reducible refine aft3f1 ?_; intro _ _ _ _ _ _ _ _) | (with_reducible refine aft1f1 ?_; intro _ _ _ _ _ _)))))) | walk_at "stp")
  delta WhileStep2
  walk_at "steps"
  exact ends (by assumption) (by assumption) ⟨_, rfl, rfl, hs⟩
end
section
variable {w : World} {news : Led} {v : Addr} {cs : List Int} {first : Int} {table : Addr}
theorem ctr_ofD {w : World} {f : Addr} {k : Nat} {vs : List Value} {news : Led} {R : Value → Led → Prop} (binds : List (Str × Value))
    {name qual : Str} {params : Arguments} {body : List Stmt} {scope : Scope} {dV kV doc pm cdv ct oc : Value} {an od : Option Addr} {osl : Array (Option Value)}
    (ho : (hd.heap_1 w.params).lookup f = some ⟨oc, od, .func (fnOf name qual params body scope dV kV doc pm an cdv ct), osl⟩) (hcd : codeIn (hd.heap_1 w.params) cdv qual = true)
    (hb : ∀ s : Shared, (hd.heap_1 w.params).In s.heap → BindsTo s (fnOf name qual params body scope dV kV doc pm an cdv ct) ⟨vs, []⟩ binds) (hloc : ∀ y ∈ binds, scope.names.lookup y.1 = some .local)
    (hco : scope.isCoroutine = false) (hgen : scope.isGenerator = false) (hkd : scope.kind = .function) (hcell : ∀ x ∈ scope.names, x.2 ≠ .cell)
    (h : ∀ (p : Program) (loose : List Str) (mean : ExcName → Option Value) (mg mb : Str → Option Value) (dp un : Nat) (gd : Option (List Code)) (outer : List Env) (A₀ : Around) (base g : Heap) (L : Addr) (s : Shared),
      Below A₀ base outer g → Fr g L s.heap (fun y => binds.reverse.lookup y) → (hd.heap_1 w.params).In g → News g L s.heap news → Top p loose mean mg mb g → dp + k < recursionLimit → un + 8 * k + 4 < cLine →
      wpAny (model PySem.Challenge.rw_np0052_01.row.prog w) (ktrTop dp un gd qual scope L f cdv [] outer) (execs body (envX qual scope L f cdv []))
        (fun fl s' => Ends g L s R (match fl with | .ret v => v | _ => .none) s') (fun _ _ => False) s) : Ctr w f (k + 1) vs news R := by
  intro p loose mean mg mb dp un gd cn cs a ccd cl outer A₀ base h₀ L m s Q E B F X N T hk hd hu hret
  refine wpAny_call ?_
  refine code_def (binds := binds) B F X N T rfl rfl hk ho hcd (dp0 hd) (hb s (X.keeps F.keep)) hloc (fun g L' h₁ FG F' N' B' X' T' => ?_) hco hgen hkd hcell
  have h1 := h p loose mean mg mb (dp + 1) (un + 3) gd (envX cn cs L a ccd cl :: outer) _ base g L' { s with heap := h₁, toks := s.toks + binds.length } B' F' X' N' T' (dpS hd) (unS hu)
  refine wpAny_mono h1 (fun fl s' hl => ?_) fun _ _ x => x.elim
  refine genP fun C9 k9 => ?_
  refine ex_4_4 (hl) ?_
  try clear hl
  intro m' nw h' tk' e9_4 Fe Ne r
  subst e9_4
  refine k9 ?_
  clear k9 C9
  exact leaveK_ Fe Ne fun F2 N2 => hret _ _ _ _ F2 N2 r
noncomputable def BdD (w : World) (f : Addr) (k : Nat) (news : Led) (R : Value → Led → Prop) (binds : List (Str × Value)) (qual : Str) (body : List Stmt) (scope : Scope) (cdv : Value) (p : Program) (loose : List Str) (mean : ExcName → Option Value) (mg mb : Str → Option Value) (dp un : Nat) (gd : Option (List Code)) (outer : List Env) (A₀ : Around) (base g : Heap) (L : Addr) (s : Shared) : Prop :=
      Below A₀ base outer g → Fr g L s.heap (fun y => binds.reverse.lookup y) → (hd.heap_1 w.params).In g → News g L s.heap news → Top p loose mean mg mb g → dp + k < recursionLimit → un + 8 * k + 4 < cLine →
      wpAny (model PySem.Challenge.rw_np0052_01.row.prog w) (ktrTop dp un gd qual scope L f cdv [] outer) (execs body (envX qual scope L f cdv []))
        (fun fl s' => Ends g L s R (match fl with | .ret v => v | _ => .none) s') (fun _ _ => False) s
theorem ctr_ofDW {w : World} {f : Addr} {k : Nat} {vs : List Value} {news : Led} {R : Value → Led → Prop} (binds : List (Str × Value))
    {name qual : Str} {params : Arguments} {body : List Stmt} {scope : Scope} {dV kV doc pm cdv ct oc : Value} {an od : Option Addr} {osl : Array (Option Value)}
    (ho : (hd.heap_1 w.params).lookup f = some ⟨oc, od, .func (fnOf name qual params body scope dV kV doc pm an cdv ct), osl⟩) (hcd : codeIn (hd.heap_1 w.params) cdv qual = true)
    (hb : ∀ s : Shared, (hd.heap_1 w.params).In s.heap → BindsTo s (fnOf name qual params body scope dV kV doc pm an cdv ct) ⟨vs, []⟩ binds) (hloc : ∀ y ∈ binds, scope.names.lookup y.1 = some .local)
    (hco : scope.isCoroutine = false) (hgen : scope.isGenerator = false) (hkd : scope.kind = .function) (hcell : ∀ x ∈ scope.names, x.2 ≠ .cell)
    (h : BdD w f k news R binds qual body scope cdv (wp14 (BdD w f k news R binds qual body scope cdv)).p (wp14 (BdD w f k news R binds qual body scope cdv)).loose (wp14 (BdD w f k news R binds qual body scope cdv)).mean (wp14 (BdD w f k news R binds qual body scope cdv)).mg (wp14 (BdD w f k news R binds qual body scope cdv)).mb (wp14 (BdD w f k news R binds qual body scope cdv)).dp (wp14 (BdD w f k news R binds qual body scope cdv)).un (wp14 (BdD w f k news R binds qual body scope cdv)).gd (wp14 (BdD w f k news R binds qual body scope cdv)).outer (wp14 (BdD w f k news R binds qual body scope cdv)).A₀ (wp14 (BdD w f k news R binds qual body scope cdv)).base (wp14 (BdD w f k news R binds qual body scope cdv)).g (wp14 (BdD w f k news R binds qual body scope cdv)).L (wp14 (BdD w f k news R binds qual body scope cdv)).s) : Ctr w f (k + 1) vs news R :=
  ctr_ofD binds ho hcd hb hloc hco hgen hkd hcell (all14 (P := BdD w f k news R binds qual body scope cdv) h)
noncomputable def TextOk (cs : List Int) : Prop := ∀ c ∈ cs, Sign c
theorem TextOk.at {cs : List Int} (h : TextOk cs) {i : Nat} (hi : i < cs.length) : Sign (cs.getD i 0) := by
  rw [List.getD_eq_getElem?_getD, List.getElem?_eq_getElem hi]
  exact h _ (List.getElem_mem hi)
theorem Sign.pos {c : Int} (h : Sign c) : 0 ≤ c := by unfold Sign at h; lia
theorem tab_meth {A : Around} {E : Value → Shared → Prop} {s : Shared} {L f : Addr} {h₀ : Heap} {m : Str → Option Value} {name : Str} {pl : Sem Bool} {Q : Value × List Value → Shared → Prop}
    (N : News h₀ L s.heap news) (V : TabW w news table) (F : Fr h₀ L s.heap m) (X : (hd.heap_1 w.params).In h₀) (hg : plainGet (hd.heap_1 w.params) 277 name = true)
    (hf : findIn (hd.heap_1 w.params) (.ref 277) name = some (some (.ref f))) (ht : isFn (hd.heap_1 w.params) (.ref f) = true)
    (hl : ∀ h1 t1 h2 t2 x y, getL name [⟨h1, .str "parent" t1, x⟩, ⟨h2, .str "rows" t2, y⟩] = some none) (h : Q (.ref f, [.ref table]) s) :
    wpAny (model PySem.Challenge.rw_np0052_01.row.prog w) A (getMethod (.ref table) name pl) Q E s := by
  refine genP fun C9 k9 => ?_
  obtain ⟨dt, rd, o, kvs, h1, t1, h2, t2, n, a, b, c1, d, e, f⟩ := V
  refine k9 ?_
  clear k9 C9
  exact method_inst F X (InstAt.of_news N a b) hg hf ht (hl _ _ _ _ _ _) h
theorem c_syn (V : ViewAt news v cs first) (T : TabW w news table) (i : Nat) (hi : i < cs.length) (ht : TextOk cs) (pl : Int) (hp : pl = first + i) (t : Tok) :
    Ctr w 345 4 [.ref v, .ref table, .int pl t] news (fun r nw => ∃ syn, r = .ref syn ∧ nw = news ∧ SynAt news syn (kindW (cs.getD i 0))) := by
  revert V T hi ht hp
  revert w news v cs first table i pl t
  refine @pk9 _ _ _ _ _ _ _ _ _ _ (ne2 (ne2 neW nei) nei) ?_
  generalize wk9 _ _ = q
  generalize q.1 = q0, q.2 = q1
  generalize q0.1 = w, q0.2.1 = news, q0.2.2.1 = v, q0.2.2.2.1 = cs, q0.2.2.2.2.1 = first, q0.2.2.2.2.2.1 = table, q0.2.2.2.2.2.2.1 = i, q0.2.2.2.2.2.2.2 = pl
  generalize q1 = t
  clear q q0
  intro V T hi ht hp
  have hs := ht.at hi
  have h0 := hs.pos
  have e : codeAt cs first pl = cs.getD i 0 := codeAt_in hp hi
  rw [← e] at hs h0 ⊢
  refine' ctr_ofW ["view", "table", "place"] ?ho ?hcd ?hb ?hl ?h1 ?h2 ?h3 ?h4 ?_
  (((case ho => k_is); (case hcd => k_is); (case hb => exact rfl); (case hl => exact locs rfl); (case h1 => exact rfl); (case h2 => exact rfl); (case h3 => exact rfl); (case h4 => decide)))
  generalize wp14 _ = c9
  generalize c9.p = p, c9.loose = loose, c9.mean = mean, c9.mg = mg, c9.mb = mb, c9.dp = dp, c9.un = un, c9.gd = gd, c9.outer = outer, c9.A₀ = A₀, c9.base = base, c9.g = g, c9.L = L, c9.s = s
  clear c9
  intro B F X N T hd hu
  (((try dsimp only); (try k_fold)))
  repeat' (first | with_reducible ((show wpAny _ _ (call (Value.ref _) _ _) _ _ _); (k_here; (refine' useA ?N ?C ?B ?F ?X ?T ?K ?d ?u ?_; (case N => k_asm); (case C => k_dflt first | exact c_code_at (by walk_at "c_view") _ _ | exact c_at (by assumption) _ (by assumption) _); (((case B => k_asm); (case F => k_asm); (case X => k_asm); (case T => k_asm); (case K => first | exact rfl | assumption); (case d => k_dflt (first | exact room_le (by assumption) (by first | decide | exact Nat.le_refl _ | exact Nat.le_succ_of_le (by assumption)) | ktr_room)); (case u => k_dflt (first | exact unit_le (by assumption) (by decide) | exact unit_le (k := 1) (by assumption) (by decide) | exact unit_le2 (by assumption) (by decide) | exact unit_leK (by assumption) (by first | exact Nat.le_refl _ | exact Nat.le_succ_of_le (by assumption)) | ktr_units))))); (((first | (with_reducible refine aft1 ?_; intro _ _ _ _ _) | (with_reducible refine aft0 ?_; intro _ _ _ _) | (with_reducible refine aft3 ?_; intro _ _ _ _ _ _ _) | (with_reducible refine aft4 ?_; intro _ _ _ _ _ _ _ _) | (with_reducible refine aft5f5 ?_; intro _ _ _ _ _ _ _ _ _ _ _ _ _ _) | (with_reducible refine aft3f2 ?_; intro _ _ _ _ _ _ _ _ _) | (with_reducible refine aft3f1 ?_; intro _ _ _ _ _ _ _ _) | (with_reducible refine aft1f1 ?_; intro _ _ _ _ _ _)))))) | with_reducible ((show wpAny _ _ (getMethod (Value.ref _) _ _) _ _ _); (k_here; k_dflt (refine' tab_meth ?N ?V ?F ?X ?hg ?hf ?ht ?hl ?_; (case N => k_asm); (case V => (first | assumption | (refine TabW.mono (by assumption) ?_; walk_at "c_sub"))); (case F => k_asm); (case X => k_asm); (case hg => k_is); (case hf => k_is); (case ht => k_is); (case hl => exact fun _ _ _ _ _ _ => rfl)))) | with_reducible ((show wpAny _ _ (getMethod (Value.ref _) _ _) _ _ _); (k_here; k_dflt (refine' view_meth ?N ?V ?F ?X ?hg ?hf ?ht ?hl ?_; (case N => k_asm); (case V => walk_at "c_view"); (case F => k_asm); (case X => k_asm); (case hg => k_is); (case hf => k_is); (case ht => k_is); (case hl => exact fun _ _ _ _ _ _ => rfl)))) | walk_at "stp")
  exact ends (by assumption) (by assumption) ⟨_, rfl, rfl, by assumption⟩
end
section
variable {w : World} {news : Led} {v : Addr} {cs : List Int} {first : Int} {table : Addr}
theorem occW (c : Int) : (!(Builtin.Str.occurrences "w" (kindW c) 0 (Str.length "w") 1).isEmpty) = isW c := by
  unfold kindW isW
  by_cases h : 97 ≤ c ∧ c ≤ 100
  · rw [if_pos h, decide_eq_true h]; decide +kernel
  · rw [if_neg h, decide_eq_false h]
    split <;> decide +kernel
theorem c_is_of0 (V : ViewAt news v cs first) (TT : TabW w news table) (i : Nat) (hi : i < cs.length) (ht : TextOk cs) (pl : Int) (hp : pl = first + i) (t t' : Tok) (neg : Bool) :
    Ctr w 353 5 [.ref v, .ref table, .int pl t, .str "w" t', .bool neg] news (fun r nw => r = .bool (isW (cs.getD i 0) != neg) ∧ nw = news) := by
  revert V TT hi ht hp
  revert w news v cs first table i pl t t' neg
  refine @pk11 _ _ _ _ _ _ _ _ _ _ _ _ (ne2 (ne2 neW nei) nei) ?_
  generalize wk11 _ _ = q
  generalize q.1 = q0, q.2 = q1
  generalize q0.1 = w, q0.2.1 = news, q0.2.2.1 = v, q0.2.2.2.1 = cs, q0.2.2.2.2.1 = first, q0.2.2.2.2.2.1 = table, q0.2.2.2.2.2.2.1 = i, q0.2.2.2.2.2.2.2 = pl
  generalize q1.1 = t, q1.2.1 = t', q1.2.2 = neg
  clear q q0 q1
  intro V TT hi ht hp
  refine' ctr_ofDW [("view", .ref v), ("table", .ref table), ("place", .int pl t), ("kinds", .str "w" t'), ("is_negated", .bool neg)] ?ho ?hcd ?hb ?hl ?h1 ?h2 ?h3 ?h4 ?_
  ((case ho => k_is); (case hcd => k_is); (case hb => exact fun s X => binds_K X rfl (by k_is) rfl rfl rfl); (case hl => exact locs rfl); (case h1 => exact rfl); (case h2 => exact rfl); (case h3 => exact rfl); (case h4 => decide))
  generalize wp14 _ = c9
  generalize c9.p = p, c9.loose = loose, c9.mean = mean, c9.mg = mg, c9.mb = mb, c9.dp = dp, c9.un = un, c9.gd = gd, c9.outer = outer, c9.A₀ = A₀, c9.base = base, c9.g = g, c9.L = L, c9.s = s
  clear c9
  intro B F X N T hd hu
  (((try dsimp only); (try k_fold)))
  repeat' (first | ((with_reducible show wpAny _ _ (call (Value.ref _) _ _) _ _ _); (k_here; (refine' useA ?N ?C ?B ?F ?X ?T ?K ?d ?u ?_; (case N => k_asm); (case C => k_dflt exact c_syn (by assumption) (by assumption) _ (by assumption) (by assumption) _ (by assumption) _); (((case B => k_asm); (case F => k_asm); (case X => k_asm); (case T => k_asm); (case K => first | exact rfl | assumption); (case d => k_dflt (first | exact room_le (by assumption) (by first | decide | exact Nat.le_refl _ | exact Nat.le_succ_of_le (by assumption)) | ktr_room)); (case u => k_dflt (first | exact unit_le (by assumption) (by decide) | exact unit_le (k := 1) (by assumption) (by decide) | exact unit_le2 (by assumption) (by decide) | exact unit_leK (by assumption) (by first | exact Nat.le_refl _ | exact Nat.le_succ_of_le (by assumption)) | ktr_units))))); ((with_reducible refine aft1f1 ?_); rintro a9 h9 tk9 F9 N9 ⟨ds, sm, sf, h1, t1, h2, t2, h3, t3, tk, n, i9, j9⟩; (try dsimp only); (try k_fold)))) | walk_at "stp")
  exact ends (by assumption) (by assumption) ⟨by rw [occW], rfl⟩
theorem c_is_of1 (V : ViewAt news v cs first) (TT : TabW w news table) (i : Nat) (pl : Int) (hp : pl = first + i) (hi : i < cs.length) (ht : TextOk cs) (t t' : Tok) (neg : Bool) :
    Ctr w 353 5 [.ref v, .ref table, .int pl t, .str "w" t', .bool neg] news (fun r nw => r = .bool (isW (cs.getD i 0) != neg) ∧ nw = news) := c_is_of0 V TT i hi ht pl hp t t' neg
noncomputable def skF (cs : List Int) (neg : Bool) (i : Nat) : Nat := i + ((cs.drop i).takeWhile (fun c => isW c != neg)).length
theorem skF_end {cs : List Int} {neg : Bool} {i : Nat} (h : cs.length ≤ i) : skF cs neg i = i := by unfold skF; rw [List.drop_eq_nil_of_le h]; rfl
theorem drop_cons {cs : List Int} {i : Nat} (h : i < cs.length) : cs.drop i = cs.getD i 0 :: cs.drop (i + 1) := by
  rw [List.drop_eq_getElem_cons h, List.getD_eq_getElem?_getD, List.getElem?_eq_getElem h]; rfl
theorem clip_eq {α : Type} (xs : List α) (a b : Nat) : (xs.drop (min a xs.length)).take (min b xs.length - min a xs.length) = (xs.drop a).take (b - a) := by
  rcases Nat.le_total a xs.length with hi | hi
  · rw [Nat.min_eq_left hi]
    rcases Nat.le_total b xs.length with hj | hj
    · rw [Nat.min_eq_left hj]
    · rw [Nat.min_eq_right hj, ← List.length_drop, List.take_length, List.take_of_length_le (List.length_drop ▸ Nat.sub_le_sub_right hj a)]
  · rw [Nat.min_eq_right hi, List.drop_length, List.drop_eq_nil_of_le hi, List.take_nil, List.take_nil]
theorem skF_go {cs : List Int} {neg : Bool} {i : Nat} (h : i < cs.length) (hw : (isW (cs.getD i 0) != neg) = true) : skF cs neg i = skF cs neg (i + 1) := by
  unfold skF; rw [drop_cons h, List.takeWhile_cons, if_pos hw, List.length_cons]; (clear h; lia)
theorem skF_stop {cs : List Int} {neg : Bool} {i : Nat} (h : i < cs.length) (hw : ¬ (isW (cs.getD i 0) != neg) = true) : skF cs neg i = i := by
  unfold skF; rw [drop_cons h, List.takeWhile_cons, if_neg hw]; rfl
theorem skF_le {cs : List Int} {neg : Bool} {i : Nat} (h : i ≤ cs.length) : skF cs neg i ≤ cs.length := by
  unfold skF
  have := (List.takeWhile_prefix (l := cs.drop i) (fun c => isW c != neg)).length_le
  rw [List.length_drop] at this
  exact Nat.add_comm _ i ▸ Nat.add_le_of_le_sub h this
noncomputable def skB (cs : List Int) (neg : Bool) : Nat → Nat
  | 0 => 0
  | i + 1 => if (isW (cs.getD i 0) != neg) = true then skB cs neg i else i + 1
theorem skB_le {cs : List Int} {neg : Bool} : ∀ i, skB cs neg i ≤ i
  | 0 => Nat.le_refl _
  | i + 1 => by
    unfold skB
    split
    · exact Nat.le_succ_of_le (skB_le i)
    · exact Nat.le_refl _
theorem c_skf0 (V : ViewAt news v cs first) (TT : TabW w news table) (i : Nat) (hi : i ≤ cs.length) (ht : TextOk cs) (pl : Int) (hp : pl = first + i) (t t' t2 : Tok) (neg : Bool) (lim : Int) (hlim : lim = first + cs.length) (vs : List Value)
    (hvs : ∀ s : Shared, (hd.heap_1 w.params).In s.heap → ∀ {name qual : Str} {params : Arguments} {body : List Stmt} {scope : Scope} {dV kV doc pm cdv ct oc : Value} {an od : Option Addr} {osl : Array (Option Value)}, (hd.heap_1 w.params).lookup 361 = some ⟨oc, od, .func (fnOf name qual params body scope dV kV doc pm an cdv ct), osl⟩ →
      BindsTo s (fnOf name qual params body scope dV kV doc pm an cdv ct) ⟨vs, []⟩ [("view", .ref v), ("table", .ref table), ("at", .int pl t), ("limit", .int lim t2), ("kinds", .str "w" t'), ("is_negated", .bool neg)]) :
    Ctr w 361 6 vs news (fun r nw => ∃ t, r = .int (first + (skF cs neg i : Nat)) t ∧ nw = news) := by
  revert V TT hi ht hp hlim hvs
  revert w news v cs first table i pl t t' t2 neg lim vs
  refine @pk14 _ _ _ _ _ _ _ _ _ _ _ _ _ _ _ (ne2 (ne2 neW nei) nei) ?_
  generalize wk14 _ _ = q
  generalize q.1 = q0, q.2 = q1
  generalize q0.1 = w, q0.2.1 = news, q0.2.2.1 = v, q0.2.2.2.1 = cs, q0.2.2.2.2.1 = first, q0.2.2.2.2.2.1 = table, q0.2.2.2.2.2.2.1 = i, q0.2.2.2.2.2.2.2 = pl
  generalize q1.1 = t, q1.2.1 = t', q1.2.2.1 = t2, q1.2.2.2.1 = neg, q1.2.2.2.2.1 = lim, q1.2.2.2.2.2 = vs
  clear q q0 q1
  intro V TT hi ht hp hlim hvs
  refine' ctr_ofDW [("view", .ref v), ("table", .ref table), ("at", .int pl t), ("limit", .int lim t2), ("kinds", .str "w" t'), ("is_negated", .bool neg)] ?ho ?hcd ?hb ?hl ?h1 ?h2 ?h3 ?h4 ?_
  ((case ho => k_is); (case hcd => k_is); (case hl => exact locs rfl); (case h1 => exact rfl); (case h2 => exact rfl); (case h3 => exact rfl); (case h4 => decide))
  (case hb => exact fun s X => hvs s X (by k_is))
  generalize wp14 _ = c9
  generalize c9.p = p, c9.loose = loose, c9.mean = mean, c9.mg = mg, c9.mb = mb, c9.dp = dp, c9.un = un, c9.gd = gd, c9.outer = outer, c9.A₀ = A₀, c9.base = base, c9.g = g, c9.L = L, c9.s = s
  clear c9
  intro B F X N T hd hu
  (((try dsimp only); (try k_fold)))
  walk_at "steps"
  rename Fr _ _ _ _ => F0
  rename News _ _ _ _ => N0
  refine Stop.go (While_inv2 (n₀ := cs.length - i) (fun n m₁ nx => ∃ a, nx = news ∧ a + n = cs.length ∧ skF cs neg a = skF cs neg i ∧ IsI (m₁ "at") (first + (a : Nat)) ∧ m₁ "view" = some (.ref v) ∧ m₁ "table" = some (.ref table) ∧ m₁ "kinds" = some (.str "w" t') ∧ m₁ "is_negated" = some (.bool neg) ∧ m₁ "limit" = some (.int lim t2)) F0 N0 ⟨i, rfl, by with_reducible_and_instances exact Nat.add_sub_cancel' hi, rfl, .of rfl hp, rfl, rfl, rfl, rfl, rfl⟩ ?_)
  clear F0 N0
  intro n m₁ nx h₁ tk₁ F1 N1 p9_7
  refine genP fun C9 k9 => ?_
  refine ex_1_9 (p9_7) ?_
  try clear p9_7
  intro a e9_1 ha hb x9_0_0 m2 m3 m4 m5 m6
  subst e9_1
  refine k9 ?_
  clear k9 C9
  obtain ⟨t1, m1⟩ := x9_0_0
  repeat' (first | with_reducible ((show wpAny _ _ (call (Value.ref _) _ _) _ _ _); (k_here; (refine' useA ?N ?C ?B ?F ?X ?T ?K ?d ?u ?_; (case N => k_asm); (case C => k_dflt exact c_is_of1 (by assumption) (by assumption) _ _ (by first | exact rfl | assumption) (by (clear hi hp hvs hd hu ha hb; lia)) (by assumption) _ _ _); (((case B => k_asm); (case F => k_asm); (case X => k_asm); (case T => k_asm); (case K => first | exact rfl | assumption); (case d => k_dflt (first | exact room_le (by assumption) (by first | decide | exact Nat.le_refl _ | exact Nat.le_succ_of_le (by assumption)) | ktr_room)); (case u => k_dflt (first | exact unit_le (by assumption) (by decide) | exact unit_le (k := 1) (by assumption) (by decide) | exact unit_le2 (by assumption) (by decide) | exact unit_leK (by assumption) (by first | exact Nat.le_refl _ | exact Nat.le_succ_of_le (by assumption)) | ktr_units))))); (((first | (with_reducible refine aft1 ?_; intro _ _ _ _ _) | (with_reducible refine aft0 ?_; intro _ _ _ _) | (with_reducible refine aft3 ?_; intro _ _ _ _ _ _ _) | (with_reducible refine aft4 ?_; intro _ _ _ _ _ _ _ _) | (with_reducible refine aft5f5 ?_; intro _ _ _ _ _ _ _ _ _ _ _ _ _ _) | (with_reducible refine aft3f2 ?_; intro _ _ _ _ _ _ _ _ _) | (with_reducible refine aft3f1 ?_; intro _ _ _ _ _ _ _ _) | (with_reducible refine aft1f1 ?_; intro _ _ _ _ _ _)))))) | walk_at "stp")
  · subst hlim
    have hlt := lt_off.mp (by assumption : first + (a : Int) < first + (cs.length : Int))
    obtain ⟨n, rfl⟩ : ∃ m, n = m + 1 := Nat.exists_eq_add_one.mpr (Nat.pos_of_lt_add_right (ha.symm ▸ hlt))
    exact wnext (n' := n) (by assumption) (by assumption) (Nat.lt_succ_self n) ⟨a + 1, rfl, (Nat.add_right_comm a 1 n).trans ha, (skF_go hlt (by assumption)).symm.trans hb, .of (by walk_at "c_look") (fs _ _), by walk_at "c_look", by walk_at "c_look", by walk_at "c_look", by walk_at "c_look", by walk_at "c_look"⟩
  · exact ends (by assumption) (by assumption) ⟨_, by rw [← hb, skF_stop (lt_off.mp (hlim ▸ (by assumption : first + (a : Int) < lim))) (by simp_all)], rfl⟩
  · exact ends (by assumption) (by assumption) ⟨_, by rw [← hb, skF_end (Nat.le_of_not_lt fun q => absurd (lt_off.mpr q) (hlim ▸ (by assumption : ¬ first + (a : Int) < lim)))], rfl⟩
theorem c_skf_neg (V : ViewAt news v cs first) (TT : TabW w news table) (i : Nat) (hi : i ≤ cs.length) (ht : TextOk cs) (pl : Int) (hp : pl = first + i) (t t' t2 : Tok) (lim : Int) (hlim : lim = first + cs.length) :
    Ctr w 361 6 [.ref v, .ref table, .int pl t, .int lim t2, .str "w" t', .bool true] news (fun r nw => ∃ t, r = .int (first + (skF cs true i : Nat)) t ∧ nw = news) := by
  refine c_skf0 V TT i hi ht pl hp t t' t2 true lim hlim _ ?_
  intro s X name qual params body scope dV kV doc pm cdv ct oc an od osl e
  have e := e.symm.trans (by k_is : _ = some _)
  refine fn_elim (P := fun fd => BindsTo s fd ⟨_, []⟩ _) e ?_
  exact binds_K X rfl (by k_is) rfl rfl rfl
theorem c_skf_pos (V : ViewAt news v cs first) (TT : TabW w news table) (i : Nat) (hi : i ≤ cs.length) (ht : TextOk cs) (pl : Int) (hp : pl = first + i) (t t' t2 : Tok) (lim : Int) (hlim : lim = first + cs.length) :
    Ctr w 361 6 [.ref v, .ref table, .int pl t, .int lim t2, .str "w" t'] news (fun r nw => ∃ t, r = .int (first + (skF cs false i : Nat)) t ∧ nw = news) := by
  refine c_skf0 V TT i hi ht pl hp t t' t2 false lim hlim _ ?_
  intro s X name qual params body scope dV kV doc pm cdv ct oc an od osl e
  have e := e.symm.trans (by k_is : _ = some _)
  refine fn_elim (P := fun fd => BindsTo s fd ⟨_, []⟩ _) e ?_
  exact binds_K X rfl (by k_is) rfl rfl rfl
end
section
variable {w : World} {news : Led} {v : Addr} {cs : List Int} {first : Int} {table : Addr}
theorem c_is_of2 (V : ViewAt news v cs first) (TT : TabW w news table) (i : Nat) (pl : Int) (hp : pl = first + i - 1) (hi : 0 < i ∧ i ≤ cs.length) (ht : TextOk cs) (t t' : Tok) (neg : Bool) :
    Ctr w 353 5 [.ref v, .ref table, .int pl t, .str "w" t', .bool neg] news (fun r nw => r = .bool (isW (cs.getD (i - 1) 0) != neg) ∧ nw = news) := c_is_of0 V TT (i - 1) (Nat.lt_of_lt_of_le (Nat.sub_lt hi.1 (by decide)) hi.2) ht pl (by obtain ⟨m, rfl⟩ := Nat.exists_eq_add_one.mpr hi.1; exact hp.trans (fp first m)) t t' neg
theorem c_skb0 (V : ViewAt news v cs first) (TT : TabW w news table) (i : Nat) (hi : i ≤ cs.length) (ht : TextOk cs) (pl : Int) (hp : pl = first + i) (t t' t2 : Tok) (neg : Bool) (lim : Int) (hlim : lim = first) (vs : List Value)
    (hvs : ∀ s : Shared, (hd.heap_1 w.params).In s.heap → ∀ {name qual : Str} {params : Arguments} {body : List Stmt} {scope : Scope} {dV kV doc pm cdv ct oc : Value} {an od : Option Addr} {osl : Array (Option Value)}, (hd.heap_1 w.params).lookup 369 = some ⟨oc, od, .func (fnOf name qual params body scope dV kV doc pm an cdv ct), osl⟩ →
      BindsTo s (fnOf name qual params body scope dV kV doc pm an cdv ct) ⟨vs, []⟩ [("view", .ref v), ("table", .ref table), ("at", .int pl t), ("limit", .int lim t2), ("kinds", .str "w" t'), ("is_negated", .bool neg)]) :
    Ctr w 369 6 vs news (fun r nw => ∃ t, r = .int (first + (skB cs neg i : Nat)) t ∧ nw = news) := by
  revert V TT hi ht hp hlim hvs
  revert w news v cs first table i pl t t' t2 neg lim vs
  refine @pk14 _ _ _ _ _ _ _ _ _ _ _ _ _ _ _ (ne2 (ne2 neW nei) nei) ?_
  generalize wk14 _ _ = q
  generalize q.1 = q0, q.2 = q1
  generalize q0.1 = w, q0.2.1 = news, q0.2.2.1 = v, q0.2.2.2.1 = cs, q0.2.2.2.2.1 = first, q0.2.2.2.2.2.1 = table, q0.2.2.2.2.2.2.1 = i, q0.2.2.2.2.2.2.2 = pl
  generalize q1.1 = t, q1.2.1 = t', q1.2.2.1 = t2, q1.2.2.2.1 = neg, q1.2.2.2.2.1 = lim, q1.2.2.2.2.2 = vs
  clear q q0 q1
  intro V TT hi ht hp hlim hvs
  refine' ctr_ofDW [("view", .ref v), ("table", .ref table), ("at", .int pl t), ("limit", .int lim t2), ("kinds", .str "w" t'), ("is_negated", .bool neg)] ?ho ?hcd ?hb ?hl ?h1 ?h2 ?h3 ?h4 ?_
  ((case ho => k_is); (case hcd => k_is); (case hl => exact locs rfl); (case h1 => exact rfl); (case h2 => exact rfl); (case h3 => exact rfl); (case h4 => decide))
  (case hb => exact fun s X => hvs s X (by k_is))
  generalize wp14 _ = c9
  generalize c9.p = p, c9.loose = loose, c9.mean = mean, c9.mg = mg, c9.mb = mb, c9.dp = dp, c9.un = un, c9.gd = gd, c9.outer = outer, c9.A₀ = A₀, c9.base = base, c9.g = g, c9.L = L, c9.s = s
  clear c9
  intro B F X N T hd hu
  (((try dsimp only); (try k_fold)))
  walk_at "steps"
  rename Fr _ _ _ _ => F0
  rename News _ _ _ _ => N0
  refine Stop.go (While_inv2 (n₀ := i) (fun n m₁ nx => ∃ a, nx = news ∧ a = n ∧ a ≤ i ∧ skB cs neg a = skB cs neg i ∧ IsI (m₁ "at") (first + (a : Nat)) ∧ m₁ "view" = some (.ref v) ∧ m₁ "table" = some (.ref table) ∧ m₁ "kinds" = some (.str "w" t') ∧ m₁ "is_negated" = some (.bool neg) ∧ m₁ "limit" = some (.int lim t2)) F0 N0 ⟨i, rfl, rfl, Nat.le_refl _, rfl, .of rfl hp, rfl, rfl, rfl, rfl, rfl⟩ ?_)
  clear F0 N0
  intro n m₁ nx h₁ tk₁ F1 N1 p9_7
  refine genP fun C9 k9 => ?_
  refine ex_1_10 (p9_7) ?_
  try clear p9_7
  intro a e9_1 ha hai hb x9_0_0 m2 m3 m4 m5 m6
  subst e9_1
  refine k9 ?_
  clear k9 C9
  obtain ⟨t1, m1⟩ := x9_0_0
  repeat' (first | with_reducible ((show wpAny _ _ (call (Value.ref _) _ _) _ _ _); (k_here; (refine' useA ?N ?C ?B ?F ?X ?T ?K ?d ?u ?_; (case N => k_asm); (case C => k_dflt exact c_is_of2 (by assumption) (by assumption) _ _ (by first | exact rfl | assumption) (by (clear hp hvs hd hu ha hb; lia)) (by assumption) _ _ _); (((case B => k_asm); (case F => k_asm); (case X => k_asm); (case T => k_asm); (case K => first | exact rfl | assumption); (case d => k_dflt (first | exact room_le (by assumption) (by first | decide | exact Nat.le_refl _ | exact Nat.le_succ_of_le (by assumption)) | ktr_room)); (case u => k_dflt (first | exact unit_le (by assumption) (by decide) | exact unit_le (k := 1) (by assumption) (by decide) | exact unit_le2 (by assumption) (by decide) | exact unit_leK (by assumption) (by first | exact Nat.le_refl _ | exact Nat.le_succ_of_le (by assumption)) | ktr_units))))); (((first | (with_reducible refine aft1 ?_; intro _ _ _ _ _) | (with_reducible refine aft0 ?_; intro _ _ _ _) | (with_reducible refine aft3 ?_; intro _ _ _ _ _ _ _) | (with_reducible refine aft4 ?_; intro _ _ _ _ _ _ _ _) | (with_reducible refine aft5f5 ?_; intro _ _ _ _ _ _ _ _ _ _ _ _ _ _) | (with_reducible refine aft3f2 ?_; intro _ _ _ _ _ _ _ _ _) | (with_reducible refine aft3f1 ?_; intro _ _ _ _ _ _ _ _) | (with_reducible refine aft1f1 ?_; intro _ _ _ _ _ _)))))) | walk_at "stp")
  · obtain ⟨n, rfl⟩ : ∃ n', a = n' + 1 := ps (f := first) (by rw [← hlim]; first | assumption | exact hlim ▸ (by assumption : lim < first + (a : Int)))
    exact wnext (n' := n) (by assumption) (by assumption) (ha ▸ Nat.lt_succ_self n) ⟨n, rfl, rfl, Nat.le_of_succ_le hai, by rw [← hb, skB, if_pos (by assumption)], .of (by walk_at "c_look") (fp _ _), by walk_at "c_look", by walk_at "c_look", by walk_at "c_look", by walk_at "c_look", by walk_at "c_look"⟩
  · obtain ⟨n, rfl⟩ : ∃ n', a = n' + 1 := ps (f := first) (by rw [← hlim]; first | assumption | exact hlim ▸ (by assumption : lim < first + (a : Int)))
    exact ends (by assumption) (by assumption) ⟨_, by rw [← hb, skB, if_neg (fun z => by have z' : ¬ (isW (cs.getD (n + 1 - 1) 0) != neg) = true := (by first | assumption | simp_all); exact z' z)], rfl⟩
  · obtain rfl : a = 0 := ps0 (f := first) (hlim ▸ (by assumption : ¬ lim < first + (a : Int)))
    exact ends (by assumption) (by assumption) ⟨_, by rw [← hb]; rfl, rfl⟩
theorem c_skb_neg (V : ViewAt news v cs first) (TT : TabW w news table) (i : Nat) (hi : i ≤ cs.length) (ht : TextOk cs) (pl : Int) (hp : pl = first + i) (t t' t2 : Tok) (lim : Int) (hlim : lim = first) :
    Ctr w 369 6 [.ref v, .ref table, .int pl t, .int lim t2, .str "w" t', .bool true] news (fun r nw => ∃ t, r = .int (first + (skB cs true i : Nat)) t ∧ nw = news) := by
  refine c_skb0 V TT i hi ht pl hp t t' t2 true lim hlim _ ?_
  intro s X name qual params body scope dV kV doc pm cdv ct oc an od osl e
  have e := e.symm.trans (by k_is : _ = some _)
  refine fn_elim (P := fun fd => BindsTo s fd ⟨_, []⟩ _) e ?_
  exact binds_K X rfl (by k_is) rfl rfl rfl
theorem c_skb_pos (V : ViewAt news v cs first) (TT : TabW w news table) (i : Nat) (hi : i ≤ cs.length) (ht : TextOk cs) (pl : Int) (hp : pl = first + i) (t t' t2 : Tok) (lim : Int) (hlim : lim = first) :
    Ctr w 369 6 [.ref v, .ref table, .int pl t, .int lim t2, .str "w" t'] news (fun r nw => ∃ t, r = .int (first + (skB cs false i : Nat)) t ∧ nw = news) := by
  refine c_skb0 V TT i hi ht pl hp t t' t2 false lim hlim _ ?_
  intro s X name qual params body scope dV kV doc pm cdv ct oc an od osl e
  have e := e.symm.trans (by k_is : _ = some _)
  refine fn_elim (P := fun fd => BindsTo s fd ⟨_, []⟩ _) e ?_
  exact binds_K X rfl (by k_is) rfl rfl rfl
end
section
variable {w : World} {news : Led} {v : Addr} {cs : List Int} {first : Int} {table : Addr}
theorem f_pos (V : ViewAt news v cs first) (TT : TabW w news table) (i : Nat) (pl lim : Int) (hp : pl = first + i) (hlim : lim = first + cs.length) (hi : i ≤ cs.length) (ht : TextOk cs) (t t' t2 : Tok) :
    Ctr w 361 6 [.ref v, .ref table, .int pl t, .int lim t2, .str "w" t'] news (fun r nw => ∃ t, r = .int (first + (skF cs false i : Nat)) t ∧ nw = news) := c_skf_pos V TT i hi ht pl hp t t' t2 lim hlim
theorem f_neg (V : ViewAt news v cs first) (TT : TabW w news table) (i : Nat) (pl lim : Int) (hp : pl = first + i) (hlim : lim = first + cs.length) (hi : i ≤ cs.length) (ht : TextOk cs) (t t' t2 : Tok) :
    Ctr w 361 6 [.ref v, .ref table, .int pl t, .int lim t2, .str "w" t', .bool true] news (fun r nw => ∃ t, r = .int (first + (skF cs true i : Nat)) t ∧ nw = news) := c_skf_neg V TT i hi ht pl hp t t' t2 lim hlim
theorem b_pos (V : ViewAt news v cs first) (TT : TabW w news table) (i : Nat) (pl lim : Int) (hp : pl = first + i) (hlim : lim = first) (hi : i ≤ cs.length) (ht : TextOk cs) (t t' t2 : Tok) :
    Ctr w 369 6 [.ref v, .ref table, .int pl t, .int lim t2, .str "w" t'] news (fun r nw => ∃ t, r = .int (first + (skB cs false i : Nat)) t ∧ nw = news) := c_skb_pos V TT i hi ht pl hp t t' t2 lim hlim
theorem b_neg (V : ViewAt news v cs first) (TT : TabW w news table) (i : Nat) (pl lim : Int) (hp : pl = first + i) (hlim : lim = first) (hi : i ≤ cs.length) (ht : TextOk cs) (t t' t2 : Tok) :
    Ctr w 369 6 [.ref v, .ref table, .int pl t, .int lim t2, .str "w" t', .bool true] news (fun r nw => ∃ t, r = .int (first + (skB cs true i : Nat)) t ∧ nw = news) := c_skb_neg V TT i hi ht pl hp t t' t2 lim hlim
noncomputable def fwdW (cs : List Int) : Nat → Nat → Nat
  | 0, i => i
  | k + 1, i => if skF cs true i < cs.length then fwdW cs k (skF cs false (skF cs true i)) else cs.length
noncomputable def bwdW (cs : List Int) : Nat → Nat → Nat
  | 0, i => i
  | k + 1, i => if 0 < skB cs true i then bwdW cs k (skB cs false (skB cs true i)) else 0
theorem fwdW_le {cs : List Int} : ∀ (k i : Nat), i ≤ cs.length → fwdW cs k i ≤ cs.length
  | 0, i, h => h
  | k + 1, i, h => by
    unfold fwdW
    split
    · exact fwdW_le k _ (skF_le (skF_le h))
    · exact Nat.le_refl _
theorem bwdW_le {cs : List Int} : ∀ (k i : Nat), i ≤ cs.length → bwdW cs k i ≤ cs.length
  | 0, i, h => h
  | k + 1, i, h => by
    unfold bwdW
    split
    · exact bwdW_le k _ (Nat.le_trans (skB_le _) (Nat.le_trans (skB_le _) h))
    · exact Nat.zero_le _
theorem skB_len {cs : List Int} {neg : Bool} {i : Nat} (h : i ≤ cs.length) : skB cs neg i ≤ cs.length := Nat.le_trans (skB_le i) h
local macro_rules | `(tactic| walk_at "c_bw") => `(tactic| first | assumption | (refine skF_le ?_; walk_at "c_bw") | (refine skB_len ?_; walk_at "c_bw"))
theorem c_fby_pos (V : ViewAt news v cs first) (TT : TabW w news table) (i : Nat) (hi : i ≤ cs.length) (ht : TextOk cs) (pl : Int) (hp : pl = first + i) (t t' t2 : Tok) (k : Nat) (hk : 0 < k) (many : Int) (hm : many = k) :
    Ctr w 376 8 [.ref v, .ref table, .int pl t, .int many t2, .str "w" t'] news (fun r nw => ∃ a t x, r = .ref a ∧ nw = (a, tupO [.int (first + (fwdW cs k i : Nat)) t, .bool x]) :: news) := by
  revert V TT hi ht hp hk hm
  revert w news v cs first table i pl t t' t2 k many
  refine @pk13 _ _ _ _ _ _ _ _ _ _ _ _ _ _ (ne2 (ne2 neW nei) nei) ?_
  generalize wk13 _ _ = q
  generalize q.1 = q0, q.2 = q1
  generalize q0.1 = w, q0.2.1 = news, q0.2.2.1 = v, q0.2.2.2.1 = cs, q0.2.2.2.2.1 = first, q0.2.2.2.2.2.1 = table, q0.2.2.2.2.2.2.1 = i, q0.2.2.2.2.2.2.2 = pl
  generalize q1.1 = t, q1.2.1 = t', q1.2.2.1 = t2, q1.2.2.2.1 = k, q1.2.2.2.2 = many
  clear q q0 q1
  intro V TT hi ht hp hk hm
  refine' ctr_ofW ["view", "table", "at", "count", "kinds"] ?ho ?hcd ?hb ?hl ?h1 ?h2 ?h3 ?h4 ?_
  (((case ho => k_is); (case hcd => k_is); (case hb => exact rfl); (case hl => exact locs rfl); (case h1 => exact rfl); (case h2 => exact rfl); (case h3 => exact rfl); (case h4 => decide)))
  generalize wp14 _ = c9
  generalize c9.p = p, c9.loose = loose, c9.mean = mean, c9.mg = mg, c9.mb = mb, c9.dp = dp, c9.un = un, c9.gd = gd, c9.outer = outer, c9.A₀ = A₀, c9.base = base, c9.g = g, c9.L = L, c9.s = s
  clear c9
  intro B F X N T hd hu
  (((try dsimp only); (try k_fold)))
  walk_at "steps"
  rename Fr _ _ _ _ => F0
  rename News _ _ _ _ => N0
  refine Stop.go (While_inv2 (n₀ := k) (fun n m₁ nx => ∃ a, nx = news ∧ a ≤ cs.length ∧ fwdW cs n a = fwdW cs k i ∧ IsI (m₁ "at") (first + (a : Nat)) ∧ IsI (m₁ "count") (n : Int) ∧ m₁ "view" = some (.ref v) ∧ m₁ "table" = some (.ref table) ∧ m₁ "kinds" = some (.str "w" t')) F0 N0 ⟨i, rfl, hi, rfl, .of rfl hp, .of rfl hm, rfl, rfl, rfl⟩ ?_)
  clear F0 N0
  intro n m₁ nx h₁ tk₁ F1 N1 p9_7
  refine genP fun C9 k9 => ?_
  refine ex_1_8 (p9_7) ?_
  try clear p9_7
  intro a e9_1 ha hb x9_0_0 x9_0_1 m3 m4 m5
  subst e9_1
  refine k9 ?_
  clear k9 C9
  obtain ⟨t1, m1⟩ := x9_0_0
  obtain ⟨t3, m2⟩ := x9_0_1
  repeat' (first | with_reducible ((show wpAny _ _ (call (Value.ref _) _ _) _ _ _); (k_here; (refine' useA ?N ?C ?B ?F ?X ?T ?K ?d ?u ?_; (case N => k_asm); (case C => k_dflt first | exact c_begin (by walk_at "c_view") | exact c_end (by walk_at "c_view") | exact f_pos (by walk_at "c_view") (by (first | assumption | (refine TabW.mono (by assumption) ?_; walk_at "c_sub"))) _ _ _ (by (first | assumption | exact rfl)) (by exact rfl) (by walk_at "c_bw") (by assumption) _ _ _ | exact f_neg (by walk_at "c_view") (by (first | assumption | (refine TabW.mono (by assumption) ?_; walk_at "c_sub"))) _ _ _ (by (first | assumption | exact rfl)) (by exact rfl) (by walk_at "c_bw") (by assumption) _ _ _ | exact b_pos (by walk_at "c_view") (by (first | assumption | (refine TabW.mono (by assumption) ?_; walk_at "c_sub"))) _ _ _ (by (first | assumption | exact rfl)) (by exact rfl) (by walk_at "c_bw") (by assumption) _ _ _ | exact b_neg (by walk_at "c_view") (by (first | assumption | (refine TabW.mono (by assumption) ?_; walk_at "c_sub"))) _ _ _ (by (first | assumption | exact rfl)) (by exact rfl) (by walk_at "c_bw") (by assumption) _ _ _); (((case B => k_asm); (case F => k_asm); (case X => k_asm); (case T => k_asm); (case K => first | exact rfl | assumption); (case d => k_dflt (first | exact room_le (by assumption) (by first | decide | exact Nat.le_refl _ | exact Nat.le_succ_of_le (by assumption)) | ktr_room)); (case u => k_dflt (first | exact unit_le (by assumption) (by decide) | exact unit_le (k := 1) (by assumption) (by decide) | exact unit_le2 (by assumption) (by decide) | exact unit_leK (by assumption) (by first | exact Nat.le_refl _ | exact Nat.le_succ_of_le (by assumption)) | ktr_units))))); (((first | (with_reducible refine aft1 ?_; intro _ _ _ _ _) | (with_reducible refine aft0 ?_; intro _ _ _ _) | (with_reducible refine aft3 ?_; intro _ _ _ _ _ _ _) | (with_reducible refine aft4 ?_; intro _ _ _ _ _ _ _ _) | (with_reducible refine aft5f5 ?_; intro _ _ _ _ _ _ _ _ _ _ _ _ _ _) | (with_reducible refine aft3f2 ?_; intro _ _ _ _ _ _ _ _ _) | (with_reducible refine aft3f1 ?_; intro _ _ _ _ _ _ _ _) | (with_reducible refine aft1f1 ?_; intro _ _ _ _ _ _)))))) | with_reducible ((show wpAny _ _ (getMethod (Value.ref _) _ _) _ _ _); (k_here; k_dflt (refine' view_meth ?N ?V ?F ?X ?hg ?hf ?ht ?hl ?_; (case N => k_asm); (case V => walk_at "c_view"); (case F => k_asm); (case X => k_asm); (case hg => k_is); (case hf => k_is); (case ht => k_is); (case hl => exact fun _ _ _ _ _ _ => rfl)))) | walk_at "stp")
  · obtain ⟨n, rfl⟩ : ∃ n', n = n' + 1 := ⟨n - 1, by (clear hi hp hk hm hd hu ha hb; lia)⟩
    have e : fwdW cs k i = cs.length := by rw [← hb, fwdW, if_neg (by (clear hi hp hk hm hd hu ha hb; lia))]
    delta WhileStep2
    walk_at "steps"
    exact ends (by assumption) (by assumption) ⟨_, _, _, rfl, by rw [e]⟩
  · obtain ⟨n, rfl⟩ : ∃ n', n = n' + 1 := ⟨n - 1, by omega⟩
    exact wnext (n' := n) (by assumption) (by assumption) (by with_reducible_and_instances exact Nat.lt_succ_self _) ⟨skF cs false (skF cs true a), rfl, skF_le (skF_le ha), by rw [← hb, fwdW, if_pos (by (clear hi hp hk hm hd hu ha hb; lia))], .of (by walk_at "c_look") rfl, .of (by walk_at "c_look") (by (clear hi hp hk hm hd hu ha hb; lia)), by walk_at "c_look", by walk_at "c_look", by walk_at "c_look"⟩
  · obtain rfl : n = 0 := by (clear hi hp hk hm hd hu ha hb; lia)
    have e : fwdW cs k i = a := by rw [← hb]; rfl
    rename Fr _ _ _ _ => F0
    rename News _ _ _ _ => N0
    refine Stop.go (While_inv2 (n₀ := 0) (fun n m₂ nx' => nx' = nx ∧ m₂ "count" = some (.int ((0 : Nat) : Int) t3) ∧ m₂ "at" = some (.int (first + (a : Nat)) t1)) F0 N0 ⟨rfl, by walk_at "c_look", by walk_at "c_look"⟩ ?_)
    clear F0 N0
    intro n m₂ nx' h₂ tk₂ F2 N2 p9_7
    refine genP fun C9 k9 => ?_
    refine ex_0_3 (p9_7) ?_
    try clear p9_7
    intro e9_0 m6 m7
    subst e9_0
    refine k9 ?_
    clear k9 C9
    walk_at "steps"
    exact ends (by assumption) (by assumption) ⟨_, _, _, rfl, by rw [e]⟩
theorem c_fby_neg (V : ViewAt news v cs first) (TT : TabW w news table) (i : Nat) (hi : i ≤ cs.length) (ht : TextOk cs) (pl : Int) (hp : pl = first + i) (t t' t2 : Tok) (k : Nat) (hk : 0 < k) (many : Int) (hm : many = -(k : Int)) :
    Ctr w 376 8 [.ref v, .ref table, .int pl t, .int many t2, .str "w" t'] news (fun r nw => ∃ a t x, r = .ref a ∧ nw = (a, tupO [.int (first + (bwdW cs k i : Nat)) t, .bool x]) :: news) := by
  revert V TT hi ht hp hk hm
  revert w news v cs first table i pl t t' t2 k many
  refine @pk13 _ _ _ _ _ _ _ _ _ _ _ _ _ _ (ne2 (ne2 neW nei) nei) ?_
  generalize wk13 _ _ = q
  generalize q.1 = q0, q.2 = q1
  generalize q0.1 = w, q0.2.1 = news, q0.2.2.1 = v, q0.2.2.2.1 = cs, q0.2.2.2.2.1 = first, q0.2.2.2.2.2.1 = table, q0.2.2.2.2.2.2.1 = i, q0.2.2.2.2.2.2.2 = pl
  generalize q1.1 = t, q1.2.1 = t', q1.2.2.1 = t2, q1.2.2.2.1 = k, q1.2.2.2.2 = many
  clear q q0 q1
  intro V TT hi ht hp hk hm
  refine' ctr_ofW ["view", "table", "at", "count", "kinds"] ?ho ?hcd ?hb ?hl ?h1 ?h2 ?h3 ?h4 ?_
  (((case ho => k_is); (case hcd => k_is); (case hb => exact rfl); (case hl => exact locs rfl); (case h1 => exact rfl); (case h2 => exact rfl); (case h3 => exact rfl); (case h4 => decide)))
  generalize wp14 _ = c9
  generalize c9.p = p, c9.loose = loose, c9.mean = mean, c9.mg = mg, c9.mb = mb, c9.dp = dp, c9.un = un, c9.gd = gd, c9.outer = outer, c9.A₀ = A₀, c9.base = base, c9.g = g, c9.L = L, c9.s = s
  clear c9
  intro B F X N T hd hu
  (((try dsimp only); (try k_fold)))
  walk_at "steps"
  rename Fr _ _ _ _ => F0
  rename News _ _ _ _ => N0
  refine Stop.go (While_inv2 (n₀ := 0) (fun n m₂ nx' => nx' = news ∧ m₂ "count" = some (.int many t2) ∧ m₂ "at" = some (.int pl t) ∧ m₂ "view" = some (.ref v) ∧ m₂ "table" = some (.ref table) ∧ m₂ "kinds" = some (.str "w" t')) F0 N0 ⟨rfl, rfl, rfl, rfl, rfl, rfl⟩ ?_)
  clear F0 N0
  intro n m₂ nx' h₂ tk₂ F2 N2 p9_7
  refine genP fun C9 k9 => ?_
  refine ex_0_6 (p9_7) ?_
  try clear p9_7
  intro e9_0 m6 m7 m8 m9 m10
  subst e9_0
  refine k9 ?_
  clear k9 C9
  walk_at "steps"
  rename Fr _ _ _ _ => F0
  rename News _ _ _ _ => N0
  refine Stop.go (While_inv2 (n₀ := k) (fun n m₁ nx => ∃ a, nx = nx' ∧ a ≤ cs.length ∧ bwdW cs n a = bwdW cs k i ∧ IsI (m₁ "at") (first + (a : Nat)) ∧ IsI (m₁ "count") (-(n : Int)) ∧ m₁ "view" = some (.ref v) ∧ m₁ "table" = some (.ref table) ∧ m₁ "kinds" = some (.str "w" t')) F0 N0 ⟨i, rfl, hi, rfl, .of m7 hp, .of m6 hm, m8, m9, m10⟩ ?_)
  clear F0 N0
  intro n m₁ nx h₁ tk₁ F1 N1 p9_7
  refine genP fun C9 k9 => ?_
  refine ex_1_8 (p9_7) ?_
  try clear p9_7
  intro a e9_1 ha hb x9_1_0 x9_1_1 m3 m4 m5
  subst e9_1
  refine k9 ?_
  clear k9 C9
  obtain ⟨t1, m1⟩ := x9_1_0
  obtain ⟨t3, m2⟩ := x9_1_1
  repeat' (first | with_reducible ((show wpAny _ _ (call (Value.ref _) _ _) _ _ _); (k_here; (refine' useA ?N ?C ?B ?F ?X ?T ?K ?d ?u ?_; (case N => k_asm); (case C => k_dflt first | exact c_begin (by walk_at "c_view") | exact c_end (by walk_at "c_view") | exact f_pos (by walk_at "c_view") (by (first | assumption | (refine TabW.mono (by assumption) ?_; walk_at "c_sub"))) _ _ _ (by (first | assumption | exact rfl)) (by exact rfl) (by walk_at "c_bw") (by assumption) _ _ _ | exact f_neg (by walk_at "c_view") (by (first | assumption | (refine TabW.mono (by assumption) ?_; walk_at "c_sub"))) _ _ _ (by (first | assumption | exact rfl)) (by exact rfl) (by walk_at "c_bw") (by assumption) _ _ _ | exact b_pos (by walk_at "c_view") (by (first | assumption | (refine TabW.mono (by assumption) ?_; walk_at "c_sub"))) _ _ _ (by (first | assumption | exact rfl)) (by exact rfl) (by walk_at "c_bw") (by assumption) _ _ _ | exact b_neg (by walk_at "c_view") (by (first | assumption | (refine TabW.mono (by assumption) ?_; walk_at "c_sub"))) _ _ _ (by (first | assumption | exact rfl)) (by exact rfl) (by walk_at "c_bw") (by assumption) _ _ _); (((case B => k_asm); (case F => k_asm); (case X => k_asm); (case T => k_asm); (case K => first | exact rfl | assumption); (case d => k_dflt (first | exact room_le (by assumption) (by first | decide | exact Nat.le_refl _ | exact Nat.le_succ_of_le (by assumption)) | ktr_room)); (case u => k_dflt (first | exact unit_le (by assumption) (by decide) | exact unit_le (k := 1) (by assumption) (by decide) | exact unit_le2 (by assumption) (by decide) | exact unit_leK (by assumption) (by first | exact Nat.le_refl _ | exact Nat.le_succ_of_le (by assumption)) | ktr_units))))); (((first | (with_reducible refine aft1 ?_; intro _ _ _ _ _) | (with_reducible refine aft0 ?_; intro _ _ _ _) | (with_reducible refine aft3 ?_; intro _ _ _ _ _ _ _) | (with_reducible refine aft4 ?_; intro _ _ _ _ _ _ _ _) | (with_reducible refine aft5f5 ?_; intro _ _ _ _ _ _ _ _ _ _ _ _ _ _) | (with_reducible refine aft3f2 ?_; intro _ _ _ _ _ _ _ _ _) | (with_reducible refine aft3f1 ?_; intro _ _ _ _ _ _ _ _) | (with_reducible refine aft1f1 ?_; intro _ _ _ _ _ _)))))) | with_reducible ((show wpAny _ _ (getMethod (Value.ref _) _ _) _ _ _); (k_here; k_dflt (refine' view_meth ?N ?V ?F ?X ?hg ?hf ?ht ?hl ?_; (case N => k_asm); (case V => walk_at "c_view"); (case F => k_asm); (case X => k_asm); (case hg => k_is); (case hf => k_is); (case ht => k_is); (case hl => exact fun _ _ _ _ _ _ => rfl)))) | walk_at "stp")
  · obtain ⟨n, rfl⟩ : ∃ n', n = n' + 1 := ⟨n - 1, by (clear hi hp hk hm hd hu ha hb; lia)⟩
    have e : bwdW cs k i = 0 := by rw [← hb, bwdW, if_neg (by (clear hi hp hk hm hd hu ha hb; lia))]
    delta WhileStep2
    walk_at "steps"
    exact ends (by assumption) (by assumption) ⟨_, _, _, rfl, by rw [e, Int.natCast_zero, Int.add_zero]⟩
  · obtain ⟨n, rfl⟩ : ∃ n', n = n' + 1 := ⟨n - 1, by omega⟩
    exact wnext (n' := n) (by assumption) (by assumption) (by with_reducible_and_instances exact Nat.lt_succ_self _) ⟨skB cs false (skB cs true a), rfl, skB_len (skB_len ha), by rw [← hb, bwdW, if_pos (by (clear hi hp hk hm hd hu ha hb; lia))], .of (by walk_at "c_look") rfl, .of (by walk_at "c_look") (by (clear hi hp hk hm hd hu ha hb; lia)), by walk_at "c_look", by walk_at "c_look", by walk_at "c_look"⟩
  · obtain rfl : n = 0 := by (clear hi hp hk hm hd hu ha hb; lia)
    have e : bwdW cs k i = a := by rw [← hb]; rfl
    exact ends (by assumption) (by assumption) ⟨_, _, _, rfl, by rw [e]⟩
noncomputable def wordF (cs : List Int) (i : Nat) (many : Int) : Nat := if many > 0 then fwdW cs many.toNat i else bwdW cs (-many).toNat i
theorem c_fw0 {k2 : Nat} (pl many : Int) (t t2 : Tok) {R : Value → Led → Prop} (C : ∀ t', Ctr w 376 k2 [.ref v, .ref table, .int pl t, .int many t2, .str "w" t'] news R) : Ctr w 383 (k2 + 1) [.ref v, .ref table, .int pl t, .int many t2] news R := by
  refine' ctr_of ["view", "table", "at", "count"] ?ho ?hcd ?hb ?hl ?h1 ?h2 ?h3 ?h4 ?_
  (((case ho => k_is); (case hcd => k_is); (case hb => exact rfl); (case hl => exact locs rfl); (case h1 => exact rfl); (case h2 => exact rfl); (case h3 => exact rfl); (case h4 => decide)))
  intro p loose mean mg mb dp un gd outer A₀ base g L s B F X N T hd hu
  (((try dsimp only); (try k_fold)))
  repeat' (first | with_reducible ((show wpAny _ _ (call (Value.ref _) _ _) _ _ _); (k_here; (refine' use ?N ?C ?B ?F ?X ?T ?K ?d ?u ?_; (case N => k_asm); (case C => k_dflt exact (by assumption : ∀ t', Ctr _ 376 _ [_, _, _, _, .str _ t'] _ _) _); (((case B => k_asm); (case F => k_asm); (case X => k_asm); (case T => k_asm); (case K => first | exact rfl | assumption); (case d => k_dflt (first | exact room_le (by assumption) (by first | decide | exact Nat.le_refl _ | exact Nat.le_succ_of_le (by assumption)) | ktr_room)); (case u => k_dflt (first | exact unit_le (by assumption) (by decide) | exact unit_le (k := 1) (by assumption) (by decide) | exact unit_le2 (by assumption) (by decide) | exact unit_leK (by assumption) (by first | exact Nat.le_refl _ | exact Nat.le_succ_of_le (by assumption)) | ktr_units))))); (rintro r9 n9 h9 tk9 F9 N9 R9; (try dsimp only); (try k_fold)))) | walk_at "stp")
  exact ends (by assumption) (by assumption) (by assumption)
theorem c_fw (V : ViewAt news v cs first) (TT : TabW w news table) (i : Nat) (hi : i ≤ cs.length) (ht : TextOk cs) (pl many : Int) (hp : pl = first + i) (hm : many ≠ 0) (t t2 : Tok) :
    Ctr w 383 9 [.ref v, .ref table, .int pl t, .int many t2] news (fun r nw => ∃ a t x, r = .ref a ∧ nw = (a, tupO [.int (first + (wordF cs i many : Nat)) t, .bool x]) :: news) := by
  unfold wordF
  by_cases h : many > 0
  · rw [if_pos h]
    exact c_fw0 pl many t t2 fun t' => c_fby_pos V TT i hi ht pl hp t t' t2 many.toNat (by lia) many (by lia)
  · rw [if_neg h]
    exact c_fw0 pl many t t2 fun t' => c_fby_neg V TT i hi ht pl hp t t' t2 (-many).toNat (by lia) many (by lia)
theorem wordF_le {cs : List Int} {i : Nat} {many : Int} (h : i ≤ cs.length) : wordF cs i many ≤ cs.length := by
  unfold wordF
  split
  · exact fwdW_le _ _ h
  · exact bwdW_le _ _ h
end
section
variable {w : World}
theorem code_defT {prog : Program} {A A₀ : Around} {s : Shared} {h₀ base : Heap} {L : Addr} {m mg mb : Str → Option Value} {news : Led} {K : Frag} {p : Program} {loose : List Str} {mean : ExcName → Option Value} {env : Env} {outer : List Env} {R : Result → Shared → Prop} {name qual : Str} {params : Arguments} {body : List Stmt} {scope : Scope} {dV kV doc pm cdv ct oc : Value} {an od : Option Addr} {osl : Array (Option Value)} {f : Addr} {args : Args} {binds : List (Str × Value)}
    (B : Below A₀ base outer h₀) (F : Fr h₀ L s.heap m) (X₀ : K.In h₀) (N : News h₀ L s.heap news) (T : Top p loose mean mg mb h₀) (hA : A.frames = some (env :: outer)) (hf : env.frame = some L) (hke : env.scope.kind = .function)
    (ho : K.lookup f = some ⟨oc, od, .func (fnOf name qual params body scope dV kV doc pm an cdv ct), osl⟩) (hcd : codeIn K cdv qual = true) (hroom : A.depth < recursionLimit)
    (hbind : BindsTo s (fnOf name qual params body scope dV kV doc pm an cdv ct) args binds) (hloc : ∀ y ∈ binds, scope.names.lookup y.1 = some .local)
    (h : ∀ g L' h₁, Fr h₀ L g m → Fr g L' h₁ (fun y => binds.reverse.lookup y) → News g L' h₁ news → Below A base (env :: outer) g → K.In g → Top p loose mean mg mb g →
      wpAny (model prog w) (A.deeper (envOf qual scope L' f cdv)) (execs body (envOf qual scope L' f cdv)) (fun fl s' => R (.ok (.ret (match fl with | .ret v => v | _ => .none))) s')
        (fun e s' => wpAny (model prog w) (A.deeper (envOf qual scope L' f cdv)) (leaving (envOf qual scope L' f cdv) e) (fun _ s'' => R (.error e) s'') (fun e' s'' => R (.error e') s'') s')
        { s with heap := h₁, toks := s.toks + binds.length })
    (hco : scope.isCoroutine = false) (hgen : scope.isGenerator = false) (hk : scope.kind = .function)
    (hcell : ∀ x ∈ scope.names, x.2 ≠ .cell) : codeAny (model prog w) A (.call (.ref f) args) R s := by
  refine ex_0_4 (groundX (R := R) B F N hA hf hke) ?_
  intro FG BG st lv
  refine codeAny_call_def (fd := fnX name qual params body scope [] dV kV doc pm an cdv ct) (body := body) (binds := binds) hroom ((X₀.keeps F.keep) _ _ ho) rfl (T.nolimit.keeps F.keep) (codeRec_of (X₀.keeps F.keep) hcd) rfl hbind hcell hloc (fun h₁ hns hk₁ => ?_) hco hgen hk
  exact h _ s.heap.objs.size h₁ FG ⟨hns, fun b o e => hk₁ b o (of_hideAll _ e), Nat.le_of_eq (hideAll_size _ _)⟩
    (fun p hp => ⟨hk₁ _ _ (N p hp).1, Nat.ne_of_lt (Heap.lt_size (N p hp).1), hideAll_none _ (List.mem_map_of_mem hp)⟩) BG (X₀.keeps st) (T.keeps st)
structure Turned (h₀ g g' : Heap) (L : Addr) : Prop where
  size : g'.objs.size = g.objs.size
  none_ : ∀ b, g.get? b = none → g'.get? b = none
  old : ∀ b o, h₀.get? b = some o → g'.get? b = some o
  frame : ∀ o, g.get? L = some o → ∃ sl, g'.get? L = some { o with slots := sl }
theorem Turned.back {h₀ g g' h : Heap} {L L' : Addr} {m m' : Str → Option Value} {nw : Led} (Z : Turned h₀ g g' L) (FG : Fr h₀ L g m) (F' : Fr g' L' h m') (N' : News g' L' h nw) : Fr h₀ L h m ∧ News h₀ L h nw := by
  refine ex_3_3 (FG.ns) ?_
  intro o es ep ho hd r
  obtain ⟨sl, hs⟩ := Z.frame o ho
  refine ⟨⟨⟨_, es, ep, F'.keep _ _ hs, hd, r⟩, fun b o q => F'.keep _ _ (Z.old b o q), FG.above⟩, fun p hp => ⟨(N' p hp).1, fun q => ?_, ?_⟩⟩
  · have := (N' p hp).2.2; rw [q, hs] at this; cases this
  · cases q : h₀.get? p.1 with
    | none => rfl
    | some o' => have := Z.old _ _ q; rw [(N' p hp).2.2] at this; cases this
theorem Turned.refl {h₀ g : Heap} {L : Addr} {m : Str → Option Value} (FG : Fr h₀ L g m) : Turned h₀ g g L := ⟨rfl, fun _ e => e, FG.keep, fun o e => ⟨o.slots, e⟩⟩
theorem Exc.reground {A₀ : Around} {base h₀ g H h : Heap} {Lc L e : Addr} {mc m : Str → Option Value} {nw : Led} {sym : Str} {fl : Value} {envc : Env} {p : Program} {loose : List Str} {mean : ExcName → Option Value} {mg mb : Str → Option Value}
    (x : Exc H (L :: [Lc]) sym e fl h) (FG : Fr h₀ Lc g mc) (F : Fr g L H m) (N : News g L H nw) (B : Below A₀ base [envc] g) (hfc : envc.frame = some Lc) (X₀ : (hd.heap_1 w.params).In h₀) (T₀ : Top p loose mean mg mb h₀) (hbase : base.StaysIn h₀) :
    ∃ g', Turned h₀ g g' Lc ∧ Fr g' L h m ∧ News g' L h nw ∧ Below A₀ base [envc] g' ∧ (hd.heap_1 w.params).In g' ∧ Top p loose mean mg mb g' ∧ g'.get? e = none ∧ e ≠ L := by
  have h0c : h₀.get? Lc = none := by
    cases q : h₀.get? Lc with
    | none => rfl
    | some o => exact absurd (Nat.lt_of_lt_of_le (Heap.lt_size q) FG.above) (Nat.lt_irrefl _)
  have gL : g.get? L = none := kts_self F
  refine ex_3_3 (FG.ns) ?_
  intro oc esc epc hoc hdc _
  have hLc : Lc ≠ L := fun q => by rw [q, gL] at hoc; cases hoc
  obtain ⟨T, S⟩ := kts_turn_at (h := h) (fs := [Lc]) (g := g) (fun b hb => by rw [List.mem_singleton.mp hb]; exact ⟨_, hoc⟩)
    (fun b o q nm => x.keep b o (F.keep b o q) fun hm => by
      rcases List.mem_cons.mp hm with z | z
      · rw [z, gL] at q; cases q
      · exact nm z)
    (fun b o q hm => x.slots b o (F.keep b o q) (.tail _ hm))
  have old : ∀ b o, h₀.get? b = some o → (ktsHeap h [Lc] g).get? b = some o := fun b o q => T.other b o (FG.keep b o q) fun hm => by
    rw [List.mem_singleton.mp hm, h0c] at q; cases q
  refine ex_3_3 (F.ns) ?_
  intro oL es ep ho hd' r
  obtain ⟨sl, hs⟩ := x.slots L oL ho (.head _)
  have ne : e ≠ L := fun q => by have := x.new; rw [q, ho] at this; cases this
  have ge : g.get? e = none := by
    cases q : g.get? e with
    | none => rfl
    | some o => have := F.keep _ _ q; rw [x.new] at this; cases this
  refine ⟨ktsHeap h [Lc] g, ⟨T.size, T.none_, old, fun o q => T.frame Lc o q (.head _)⟩, ⟨⟨_, es, ep, hs, hd', r⟩, S, by rw [T.size]; exact F.above⟩, fun p hp => ⟨x.keep _ _ (N p hp).1 fun hm => ?_, (N p hp).2.1, T.none_ _ (N p hp).2.2⟩, ⟨B.stack, fun b o q => old b o (hbase b o q), B.frames.of_keeps fun b o q _ => ?_⟩, X₀.keeps old, T₀.keeps old, T.none_ _ ge, ne⟩
  · rcases List.mem_cons.mp hm with z | z
    · exact (N p hp).2.1 z
    · have := (N p hp).2.2; rw [List.mem_singleton.mp z, hoc] at this; cases this
  · obtain ⟨sl', hs'⟩ := T.up q
    exact ⟨_, hs', rfl⟩
end
section
variable {w : World}
inductive ExcHas (h : Heap) (e : Addr) (sym : Str) : Prop
  | mk : ∀ oe dx mA t vs, h.get? e = some oe → oe.cls = .ref 38 → oe.dict = some dx → oe.data = .fields vs → h.Ns1 dx mA → mA "symbol" = some (.str sym t) → ExcHas h e sym
theorem Exc.has {G h : Heap} {fs : List Addr} {sym : Str} {e : Addr} {fl : Value} (x : Exc G fs sym e fl h) : ExcHas h e sym := by
  refine genP fun C9 k9 => ?_
  obtain ⟨_, _, _, oe, vs, dx, mA, t, e1, e2, e3, e4, e5, e6, e7, e8, _⟩ := x
  refine k9 ?_
  clear k9 C9
  exact ⟨oe, dx, mA, t, vs, e1, e2, e3, e4, e7, e8⟩
theorem symbol_by {prog : Program} {A : Around} {E : Value → Shared → Prop} {h : Heap} {g : Array GenState} {d : Drawn} {t : Nat} {os : OsState}
    {nm q : Str} {C N : Addr} {bs bm : List Value} {sn : List Str} {sub : List Value} {ab : Bool} {col : Option Bool} {dd : Option Addr} {k0 k1 k2 k3 k5 : Option Value} {B newId : String} {mN mA : Str → Option Value} {name : Str} {v : Value} {x dx : Addr} {o : Obj} {vs : Array Value} {tk : Tok} {fill expr : Bool} {Q : Value → Shared → Prop}
    (FB : ExcAttrBase B bm) (hC : h.get? C = some (excClassObj nm q C N bs bm true sn sub ab col dd k0 k1 k2 k3 k5 newId)) (hn : h.Ns N mN) (hna : mN name = none) (hng : mN "__getattribute__" = none) (hnh : mN "__getattr__" = none)
    (hB : typeLookup (.type B) name = pure none) (hx : h.get? x = some o) (hc : o.cls = .ref C) (hdx : o.dict = some dx) (hdt : o.data = .fields vs) (hns : h.Ns1 dx mA) (hv : mA name = some v) (hh : handedOut v = pure v) (hq : Q v ⟨h, g, d, t, os⟩) :
    wpAny (model prog w) A (getAttrBy (.ref x) (.str name tk) fill expr) Q E ⟨h, g, d, t, os⟩ := by
  have f3 := FB.ga.bind (.ref x)
  have hx0 : (expr && onTheHeap (Value.builtin "BaseException.__getattribute__")) = false := by cases expr <;> rfl
  have hx2 : (Value.builtin "BaseException.__getattribute__" == Value.builtin "object.__getattribute__") = false := by decide +kernel
  have hx1 : (onTheHeap (Value.ref C) && Value.builtin "BaseException.__getattribute__" == Value.builtin "object.__getattribute__") = false := by rw [hx2]; rfl
  have hcB : (Value.ref C :: bm).contains (.type "BaseException") = true := by rw [List.contains_cons, FB.hasBase, Bool.or_true]
  have hk : builtinKind "BaseException.__getattribute__" = some .slot := by decide +kernel
  have hsplit : splitId "BaseException.__getattribute__" = some ("BaseException", "__getattribute__") := by decide +kernel
  have ha := F.args_bexc_ga (.ref x) (.str name tk)
  repeat (any_goals (first | assumption | (with_reducible refine wpAny_loadPart_at hx ?_; rw [hc]) | (with_reducible refine wpAny_typeLookup_exc hC hn FB.mro FB.ga.lookup ?_; rw [hng]) | (with_reducible refine wpAny_typeLookup_exc hC hn FB.mro FB.noGetattr ?_; rw [hnh]) | wp_step))
  refine codeAny_call_builtin FB.ga.plain F.entry_bexc_ga ?_
  simp only [checkBuiltinCall, hk, hsplit]
  refine wpAny_bind ?_
  unfold isInstance
  repeat (first | (with_reducible refine wpAny_loadPart_at hx ?_; rw [hc]) | (with_reducible refine wpAny_isSubtype_exc hC ?_; rw [hcB]) | wp_step)
  repeat (first | (with_reducible refine wpAny_loadPart_at hx ?_; rw [hc]) | (with_reducible refine wpAny_typeLookup_exc hC hn FB.mro hB ?_; rw [hna]) | wp_step)
  split
  · rename_i c hcd
    rw [hdt] at hcd; cases hcd
  unfold instanceDict
  repeat (first | (with_reducible refine wpAny_loadPart_at hx ?_; rw [hc]) | with_reducible refine wpAny_loadPart_at hC ?_ | wp_step)
  rw [hdx]
  repeat (first | (with_reducible refine wpAny_nsGet hns.ns ?_; rw [hv]) | wp_step)
  exact hq
theorem get_symbol {prog : Program} {A : Around} {E : Value → Shared → Prop} {s : Shared} {e : Addr} {sym : Str} {expr : Bool} {Q : Value → Shared → Prop} (X : (hd.heap_1 w.params).In s.heap) (x : ExcHas s.heap e sym)
    (h : ∀ t, Q (.str sym t) { s with toks := s.toks + 1 }) : wpAny (model prog w) A (getAttr (.ref e) "symbol" expr) Q E s := by
  refine genP fun C9 k9 => ?_
  obtain ⟨hp, g, d, tk, os⟩ := s
  refine k9 ?_
  clear k9 C9
  refine genP fun C9 k9 => ?_
  obtain ⟨oe, dx, mA, t, vs, e1, e2, e3, e4, e5, e6⟩ := x
  refine k9 ?_
  clear k9 C9
  refine genP fun C9 k9 => ?_
  obtain ⟨nm, q, N, bs, sn, sub, ab, col, dd, k0, k1, k2, k3, k5, hC, mN, hn, _, hna, _, _, hng, hnh⟩ := cls38 X
  refine k9 ?_
  clear k9 C9
  unfold getAttr
  refine wpAny_bind (wpAny_mkText ?_)
  refine symbol_by PySem.F.attrBase_Exception hC hn hna hng hnh no_symbol e1 e2 e3 e4 e5 e6 rfl (h t)
end
section
variable {w : World}
inductive ExcObj (oe odx : Obj) (dx : Addr) (sym : Str) : Prop
  | mk : oe.cls = .ref 38 → oe.dict = some dx → (∃ vs, oe.data = .fields vs) → ∀ (mA : Str → Option Value) (t : Tok) (es : Array DictEntry) (ep : Nat), odx.data = .dict es ep → StrKeys es → UniqKeys es → (∀ name, nsFind es name = mA name) → mA "symbol" = some (.str sym t) → ExcObj oe odx dx sym
theorem ExcObj.has {g h : Heap} {L e dx : Addr} {oe odx : Obj} {nw : Led} {sym : Str} (x : ExcObj oe odx dx sym) (N : News g L h nw) (h1 : (e, oe) ∈ nw) (h2 : (dx, odx) ∈ nw) : ExcHas h e sym := by
  refine genP fun C9 k9 => ?_
  obtain ⟨a, b, ⟨vs, c⟩, mA, t, es, ep, d1, d2, d3, d4, d5⟩ := x
  refine k9 ?_
  clear k9 C9
  exact ⟨oe, dx, mA, t, vs, (N _ h1).1, a, b, c, ⟨odx, es, ep, (N _ h2).1, d1, d2, d3, d4⟩, d5⟩
theorem Exc.led {g' g H h : Heap} {L e : Addr} {m : Str → Option Value} {nw : Led} {sym : Str} {fl : Value} {fs : List Addr} (x : Exc H fs sym e fl h) (F : Fr g L H m) (Z : ∀ b, g.get? b = none → g'.get? b = none) (N' : News g' L h nw) :
    ∃ oe dx odx, ExcObj oe odx dx sym ∧ News g' L h ((e, oe) :: (dx, odx) :: nw) := by
  refine genP fun C9 k9 => ?_
  obtain ⟨_, _, k3, oe, vs, dx, mA, t, e1, e2, e3, e4, e5, e6, ⟨odx, es, ep, hdx, d1, d2, d3, d4⟩, e8, _⟩ := x
  refine k9 ?_
  clear k9 C9
  refine ex_3_2 (F.ns) ?_
  intro oL _ _ hL _
  have nL : ∀ b, H.get? b = none → b ≠ L := fun b hb q => by rw [q, hL] at hb; cases hb
  have ng : ∀ b, H.get? b = none → g'.get? b = none := fun b hb => Z b (by
    cases q : g.get? b with
    | none => rfl
    | some o => have := F.keep _ _ q; rw [hb] at this; cases this)
  refine ⟨oe, dx, odx, ⟨e2, e3, ⟨vs, e4⟩, mA, t, es, ep, d1, d2, d3, d4, e8⟩, fun p hp => ?_⟩
  rcases List.mem_cons.mp hp with rfl | hp
  · exact ⟨e1, nL _ k3, ng _ k3⟩
  · rcases List.mem_cons.mp hp with rfl | hp
    · exact ⟨hdx, nL _ e6, ng _ e6⟩
    · exact N' p hp
section
variable {prog : Program} {A A₀ : Around} {E : Value → Shared → Prop} {s' : Shared} {base h₀ g H : Heap} {Lc L a e : Addr} {mc m : Str → Option Value} {nw : Led} {sym : Str} {envc : Env} {cn : Str} {cs : Scope} {ccd : Value} {n x : Str} {b₀ : Stmt} {suite : List Stmt} {pos np : Pos} {rest : List ExceptHandler} {Q : Flow → Shared → Prop}
  {p : Program} {loose : List Str} {mean : ExcName → Option Value} {mg mb : Str → Option Value}
theorem caughtX (X : Exc H (fsOf (envX cn cs L a ccd [] :: [envc])) sym e .none s'.heap) (FG : Fr h₀ Lc g mc) (F : Fr g L H m) (N : News g L H nw) (B : Below A₀ base [envc] g) (hfc : envc.frame = some Lc) (X₀ : (hd.heap_1 w.params).In h₀) (T₀ : Top p loose mean mg mb h₀) (hbase : base.StaysIn h₀)
    (hfr : A.frames = some (envX cn cs L a ccd [] :: [envc])) (ex : nsIn (hd.heap_1 w.params) mainGlobals x = some (some (.ref 38)))
    (k : ∀ h' g' tk oe dx odx E', Turned h₀ g g' Lc → Fr g' L h' (fun y => if y = n then some (.ref e) else m y) → News g' L h' ((e, oe) :: (dx, odx) :: nw) → ExcObj oe odx dx sym → Below A₀ base [envc] g' → (hd.heap_1 w.params).In g' → Top p loose mean mg mb g' →
      wpAny (model prog w) (A.mark (some (.ref e))) (execs (b₀ :: suite) (envX cn cs L a ccd []))
        (fun f s₄ => wpAny (model prog w) A (do bindName (envX cn cs L a ccd []) n .none; unbindBehindTheSuite (envX cn cs L a ccd []) n pos) (fun _ s₅ => Q f s₅) E s₄) E' { s' with heap := h', toks := tk })
    (hk : cs.kind = .function) (hlo : (envX cn cs L a ccd []).kindOf n = some .local) (hx : (envX cn cs L a ccd []).kindOf x = some .globalImplicit) (hdb : (x == ("__debug__" : Str)) = false) :
    wpAny (model prog w) A (noteFrame (.ref e) (envX cn cs L a ccd []))
      (fun _ s₂ => wpAny (model prog w) A (setFlight (.ref e) none) (fun _ s₃ =>
        wpAny (model prog w) A (handleBy (.ref e) (envX cn cs L a ccd []) (.ExceptHandler (some (.Name x np)) (some n) (b₀ :: suite) pos :: rest)) Q E s₃) E s₂) E s' := by
  have ff : H.FunFrames base (envX cn cs L a ccd [] :: [envc]) := funFrames_push B F hk
  have efs : fsOf (envX cn cs L a ccd [] :: [envc]) = L :: [Lc] := by
    show L :: fsOf [envc] = _
    unfold fsOf
    rw [List.filterMap_cons, hfc]
    rfl
  refine X.note hfr ff rfl fun h₁ X₁ => ?_
  refine X₁.flight (s := { s' with heap := h₁ }) (fun b hb => (ff.mem hb).2) fun h₂ X₂ => ?_
  refine ex_1_8 ((efs ▸ X₂).reground FG F N B hfc X₀ T₀ hbase) ?_
  intro g₂ Z₂ F₂ N₂ B₂ K₂ T₂ _ _
  refine ex_14_2 (cls38 (K₂.keeps F₂.keep)) ?_
  intro nm q NN bs sn sub ab col dd k0 k1 k2 k3 k5 hC _
  refine genP fun C9 k9 => ?_
  obtain ⟨oe, dx, mA, t, vs, e1, e2, _⟩ := X₂.has
  refine k9 ?_
  clear k9 C9
  refine wpAny_handleBy_cons (codeAny_handlers_test (nameX_K F₂ K₂ (topRead_of T₂) ex ?_ hk hx hdb)) (by intro q; cases q)
  refine wpAny_excMatches_sub_self hC e1 e2 (by decide) (codeAny_handlers_suite_as ?_)
  refine X₂.flight (fun b hb => (ff.mem hb).2) fun h₃ X₃ => ?_
  obtain ⟨g₃, Z₃, F₃, N₃, B₃, K₃, T₃, _, _⟩ := (show Exc H (L :: [Lc]) sym e .none h₃ from by rw [← efs]; exact X₃).reground FG F N B hfc X₀ T₀ hbase
  refine ex_3_2 (X₃.led F Z₃.none_ N₃) ?_
  intro oe dx odx xo N₃'
  refine storeX_L F₃ N₃' (fun h₄ F₄ N₄ => ?_) hk hlo
  exact k h₄ g₃ _ oe dx odx _ Z₃ F₄ N₄ xo B₃ K₃ T₃
end
end
section
noncomputable abbrev CtrT (w : World) (f : Addr) (k : Nat) (vs : List Value) (news : Led) (R : Value → Led → Prop) : Prop :=
  ∀ (p : Program) (loose : List Str) (mean : ExcName → Option Value) (mg mb : Str → Option Value)
    (dp un : Nat) (gd : Option (List Code)) (cn : Str) (cs : Scope) (a : Addr) (ccd : Value) (cl : List (Str × Addr)) (A₀ : Around) (base h₀ : Heap) (L : Addr) (m : Str → Option Value) (s : Shared) (Q E : Value → Shared → Prop),
    Below A₀ base [] h₀ → Fr h₀ L s.heap m → (hd.heap_1 w.params).In h₀ → News h₀ L s.heap news → Top p loose mean mg mb h₀ → cs.kind = .function →
    dp + k < recursionLimit → un + 8 * k < cLine →
    (∀ r news' h' tk', Fr h₀ L h' m → News h₀ L h' news' → R r news' → Q r { s with heap := h', toks := tk' }) →
    wpAny (model PySem.Challenge.rw_np0052_01.row.prog w) (ktrTop dp un gd cn cs L a ccd cl []) (call (.ref f) vs) Q E s
noncomputable def EndsT (h₀ g : Heap) (Lc L : Addr) (s : Shared) (R : Value → Led → Prop) (v : Value) (s' : Shared) : Prop :=
  ∃ g' m' nw h' tk', s' = { s with heap := h', toks := tk' } ∧ Turned h₀ g g' Lc ∧ Fr g' L h' m' ∧ News g' L h' nw ∧ R v nw
theorem endsT {h₀ g g' : Heap} {Lc L : Addr} {s : Shared} {R : Value → Led → Prop} {v : Value} {m' : Str → Option Value} {nw : Led} {h' : Heap} {tk' : Nat}
    (Z : Turned h₀ g g' Lc) (F : Fr g' L h' m') (N : News g' L h' nw) (r : R v nw) : EndsT h₀ g Lc L s R v { s with heap := h', toks := tk' } := ⟨g', m', nw, h', tk', rfl, Z, F, N, r⟩
theorem ctrT_of {w : World} {f : Addr} {k : Nat} {vs : List Value} {news : Led} {R : Value → Led → Prop} (names : List Str)
    {name qual : Str} {params : Arguments} {body : List Stmt} {scope : Scope} {dV kV doc pm cdv ct oc : Value} {an od : Option Addr} {osl : Array (Option Value)}
    (ho : (hd.heap_1 w.params).lookup f = some ⟨oc, od, .func (fnOf name qual params body scope dV kV doc pm an cdv ct), osl⟩) (hcd : codeIn (hd.heap_1 w.params) cdv qual = true)
    (hb : bindArgs (fnOf name qual params body scope dV kV doc pm an cdv ct) ⟨vs, []⟩ = pure (names.zip vs)) (hloc : ∀ y ∈ names.zip vs, scope.names.lookup y.1 = some .local)
    (hco : scope.isCoroutine = false) (hgen : scope.isGenerator = false) (hkd : scope.kind = .function) (hcell : ∀ x ∈ scope.names, x.2 ≠ .cell)
    (h : ∀ (p : Program) (loose : List Str) (mean : ExcName → Option Value) (mg mb : Str → Option Value) (dp un : Nat) (gd : Option (List Code)) (envc : Env) (Lc : Addr) (mc : Str → Option Value) (A₀ : Around) (base h₀ g : Heap) (L : Addr) (s : Shared),
      Below A₀ base [envc] g → envc.frame = some Lc → Fr h₀ Lc g mc → base.StaysIn h₀ → (hd.heap_1 w.params).In h₀ → Top p loose mean mg mb h₀ →
      Fr g L s.heap (fun y => (names.zip vs).reverse.lookup y) → (hd.heap_1 w.params).In g → News g L s.heap news → Top p loose mean mg mb g → dp + k < recursionLimit → un + 8 * k + 4 < cLine →
      wpAny (model PySem.Challenge.rw_np0052_01.row.prog w) (ktrTop dp un gd qual scope L f cdv [] [envc]) (execs body (envX qual scope L f cdv []))
        (fun fl s' => EndsT h₀ g Lc L s R (match fl with | .ret v => v | _ => .none) s') (fun _ _ => False) s) : CtrT w f (k + 1) vs news R := by
  intro p loose mean mg mb dp un gd cn cs a ccd cl A₀ base h₀ L m s Q E B F X N T hk hd hu hret
  refine wpAny_call ?_
  refine code_defT (binds := names.zip vs) B F X N T rfl rfl hk ho hcd (dp0 hd) (BindsTo.of_eq hb) hloc (fun g L' h₁ FG F' N' B' X' T' => ?_) hco hgen hkd hcell
  have h1 := h p loose mean mg mb (dp + 1) (un + 3) gd (envX cn cs L a ccd cl) L m _ base h₀ g L' { s with heap := h₁, toks := s.toks + (names.zip vs).length } B' rfl FG B.stays X T F' X' N' T' (dpS hd) (unS hu)
  refine wpAny_mono h1 (fun fl s' hl => ?_) fun _ _ x => x.elim
  refine genP fun C9 k9 => ?_
  refine ex_5_5 (hl) ?_
  try clear hl
  intro g' m' nw h' tk' e9_5 Z Fe Ne r
  subst e9_5
  refine k9 ?_
  clear k9 C9
  obtain ⟨F2, N2⟩ := Z.back FG Fe Ne
  exact hret _ _ _ _ F2 N2 r
theorem useR {w : World} {f : Addr} {k : Nat} {vs : List Value} {news : Led} {R : Value → Led → Prop} {Y : Str → Prop} {p : Program} {loose : List Str} {mean : ExcName → Option Value} {mg mb : Str → Option Value}
    {dp un : Nat} {gd : Option (List Code)} {cn : Str} {cs : Scope} {a : Addr} {ccd : Value} {cl : List (Str × Addr)} {outer : List Env} {A₀ : Around} {base h₀ : Heap} {L : Addr} {m : Str → Option Value} {s : Shared} {Q E : Value → Shared → Prop}
    (N : News h₀ L s.heap news) (C : CtrX w f k vs news R Y) (B : Below A₀ base outer h₀) (F : Fr h₀ L s.heap m) (X : (hd.heap_1 w.params).In h₀) (T : Top p loose mean mg mb h₀) (hk : cs.kind = .function)
    (hd : dp + k < recursionLimit) (hu : un + 8 * k < cLine)
    (h : ∀ r news' h' tk', Fr h₀ L h' m → News h₀ L h' news' → R r news' → Q r { s with heap := h', toks := tk' })
    (he : ∀ e sym h' tk', Y sym → Exc s.heap (L :: fsOf outer) sym e .none h' → E (.ref e) { s with heap := h', toks := tk' }) :
    wpAny (model PySem.Challenge.rw_np0052_01.row.prog w) (ktrTop dp un gd cn cs L a ccd cl outer) (call (.ref f) vs) Q E s :=
  C p loose mean mg mb dp un gd cn cs a ccd cl outer A₀ base h₀ L m s Q E B F X N T hk hd hu h he
inductive Res where
  | sym (s : Str)
  | text (t : Str) (pl : Int)
noncomputable def ResL (news nw : Led) (r : Value) : Res → Prop
  | .sym s => (∃ t, r = .str s t) ∧ nw = news
  | .text s pl => ∃ a t t', r = .ref a ∧ nw = (a, tupO [.str s t, .int pl t']) :: news
noncomputable def toldR (O : Except Str ((Int × Int × List Int) × Int)) (first : Int) (tx : Str) : Res :=
  match O with
  | .error s => .sym s
  | .ok ((e0, e1, codes), pl) => .text (Txt.slice tx none (some (e0 - first)) ++ Txt.join "" (codes.map fun c => (⟨#[c.toNat]⟩ : Str)) ++ Txt.slice tx (some (e1 - first)) none) (pl - first)
structure Told (w : World) (f : Addr) (k : Nat) (news : Led) (O : Except Str ((Int × Int × List Int) × Int)) : Prop where
  ctr : CtrX w f k [] news (fun r nw => ∃ e0 e1 codes pl, O = .ok ((e0, e1, codes), pl) ∧ EditAt nw r e0 e1 codes pl ∧ ∀ p ∈ news, p ∈ nw) (fun sym => O = .error sym)
  fn : ∀ (g h : Heap) (L : Addr) (m : Str → Option Value) (nw : Led), Fr g L h m → (hd.heap_1 w.params).In g → News g L h nw → (∀ p ∈ news, p ∈ nw) → FnAt f h
section
variable {prog : Program} {w : World} {A : Around} {h₀ : Heap} {L : Addr} {m : Str → Option Value} {env : Env} {elt : Expr} {x : Str} {scope : Scope} {cl : List (Str × Addr)} {s : Shared} {S : List (Addr × Obj) → Prop} {Fin : List Value → List (Addr × Obj) → Prop} {news : Led}
theorem str_rest {vs : List Value} {ks : List Int} (g : Int → Str) (hi : IntsAre vs ks)
    (turn : ∀ k t I oI C oC D m₂ ys h tk (E' : Value → Shared → Prop), k ∈ ks → LCg.NsObj oC m₂ → m₂ x = some (.int k t) → Fr h₀ L h m → News h₀ L h ((I, oI) :: (C, oC) :: (D, LCg.lst ys) :: news) → LCg.Off3 I C D news → ((@Ne Nat I C) ∧ (@Ne Nat I D) ∧ (@Ne Nat C D)) →
      wpAny (model prog w) A (eval elt (compEnvC scope cl C env)) (LCg.CompEnd h₀ L m { s with heap := h, toks := tk } I oI C oC D (LCg.lst ys) S (fun y news' => news' = news ∧ ∃ t, y = .str (g k) t)) E' { s with heap := h, toks := tk })
    (fin : ∀ ys, StrsAre ys (ks.map g) → Fin ys news) : LCg.CompRest prog w A h₀ L m env elt x scope cl s S (fun i v => vs.toArray[i]? = some v) Fin vs.toArray.size 0 [] news := by
  have hn : vs.toArray.size = ks.length := by rw [List.size_toArray]; exact hi.length
  have key : ∀ (j i : Nat) (ys : List Value), i + j = vs.toArray.size → StrsAre ys ((ks.take i).map g) → LCg.CompRest prog w A h₀ L m env elt x scope cl s S (fun i v => vs.toArray[i]? = some v) Fin j i ys news := by
    intro j
    induction j with
    | zero =>
      intro i ys hi' hy
      have e : i = ks.length := by with_reducible_and_instances exact Eq.trans hi' hn
      subst e
      rw [List.take_length] at hy
      exact LCg.CompRest.zero (fin ys hy)
    | succ j ih =>
      intro i ys hi' hy
      refine LCg.CompRest.succ ?_
      intro v I oI C oC D m₂ h tk E' hv hC hx F N off ne
      refine ex_2_2 (IntsAre.at hi i v (by simpa using hv)) ?_
      intro k t e hk
      subst e
      refine wpAny_mono (turn k t I oI C oC D m₂ ys h tk E' (List.mem_of_getElem? hk) hC hx F N off ne) (fun y s₂ hq => ?_) fun _ _ e => e
      refine genP fun C9 k9 => ?_
      obtain ⟨h', tk', nw, e, F', N', off', hS, hn', t', hy'⟩ := hq
      refine k9 ?_
      clear k9 C9
      subst hn'
      subst hy'
      refine ⟨h', tk', nw, e, F', N', off', hS, ih (i + 1) _ (by (clear hn ne turn fin ih; lia)) ?_⟩
      rw [List.take_add_one, hk]
      simpa using StrsAre.append' hy (.cons (g k) t' .nil)
  exact key _ 0 [] (by with_reducible_and_instances exact Nat.add_comm _ _) (by simp only [List.take_zero, List.map_nil]; exact .nil)
end
noncomputable def txt (cs : List Int) : Str := ⟨(cs.map Int.toNat).toArray⟩
theorem join_txt0 : ∀ (cs : List Int), Str.join "" (cs.map fun c => (⟨#[c.toNat]⟩ : Str)) = txt cs
  | [] => rfl
  | [c] => rfl
  | c :: d :: r => by
    have ih := join_txt0 (d :: r)
    show (⟨#[c.toNat]⟩ : Str) ++ "" ++ Str.join "" ((d :: r).map fun c => (⟨#[c.toNat]⟩ : Str)) = txt (c :: d :: r)
    rw [ih]
    unfold txt
    have e : ((⟨#[c.toNat]⟩ : Str) ++ ("" : Str)) = ⟨#[c.toNat]⟩ := by
      show Str.append _ _ = _
      rfl
    rw [e]
    show Str.append _ _ = _
    unfold Str.append
    simp
theorem join_txt (cs : List Int) : Txt.join "" (cs.map fun c => (⟨#[c.toNat]⟩ : Str)) = txt cs := by
  have h := beq_iff_eq.mp (join_closes (sep := "") (sep' := "") (ys := cs.map fun c => (⟨#[c.toNat]⟩ : Str)) rfl)
  rw [h]
  exact join_txt0 cs
theorem sum_ones (cs : List Int) : ((cs.map fun c => (⟨#[c.toNat]⟩ : Str)).map (·.length)).sum ≤ cs.length := by
  induction cs with
  | nil => exact Nat.le_refl _
  | cons a l ih =>
    rw [List.map_cons, List.map_cons, List.sum_cons, List.length_cons]
    have : (⟨#[a.toNat]⟩ : Str).length = 1 := rfl
    lia
variable {w : World}
theorem c_told {f : Addr} {k : Nat} {news : Led} {O : Except Str ((Int × Int × List Int) × Int)} (C : Told w f k news O) (first : Int) (tf : Tok) (tx : Str) (tt : Tok) (hlen : tx.length < 1000)
    (hOk : ∀ e0 e1 codes pl, O = .ok ((e0, e1, codes), pl) → TextOk codes ∧ codes.length < 100 ∧ first ≤ e0 ∧ e0 ≤ e1 ∧ e1 ≤ first + tx.length) :
    CtrT w 412 (k + 6) [.int first tf, .str tx tt, .ref f] news (fun r nw => ResL news nw r (toldR O first tx)) := by
  refine' ctrT_of ["_law_first", "_law_text", "_law_call"] ?ho ?hcd ?hb ?hl ?h1 ?h2 ?h3 ?h4 ?_
  (((case ho => k_is); (case hcd => k_is); (case hb => exact rfl); (case hl => exact locs rfl); (case h1 => exact rfl); (case h2 => exact rfl); (case h3 => exact rfl); (case h4 => decide)))
  intro p loose mean mg mb dp un gd envc Lc mc A₀ base h₀ g L s B hfc FG hbase X₀ T₀ F X N T hd hu
  (((try dsimp only); (try k_fold)))
  repeat' (first | with_reducible ((show wpAny _ _ (exec (Stmt.Try _ _ _ _ _) _) _ _ _); (k_here; k_dflt (refine wpAny_Try_except ?_))) | with_reducible ((show wpAny _ _ (callWith _ (Value.ref _) _ _ _) _ _ _); (k_here; k_dflt (refine' callWith_F0 ?k1 ?_; (case k1 => (exact Told.fn (by assumption) _ _ _ _ _ (by with_reducible assumption) (by with_reducible assumption) (by with_reducible assumption) (by walk_at "c_keep")))))) | with_reducible ((show wpAny _ _ (call (Value.ref _) _ _) _ _ _); walk_at "st") | walk_at "stp")
  refine Stop.go (useR N C.ctr B F X T rfl (room_le hd (Nat.le_add_right _ _)) (unit_leK hu (Nat.le_add_right _ _)) ?_ ?_)
  · intro r nw h' tk' F1 N1 p9_6
    refine ex_4_3 (p9_6) ?_
    try clear p9_6
    intro e0 e1 codes pl hO x9_0_0 hsub
    refine genP fun C9 k9 => ?_
    obtain ⟨a, b, l, t, t0, t1, vs, n, rfl, m1, m2, m3, hi⟩ := x9_0_0
    refine k9 ?_
    clear k9 C9
    refine ex_0_5 (hOk _ _ _ _ hO) ?_
    intro k1 k2 k3 k4 k5
    clear F N
    have hil := hi.length
    repeat' (first | with_reducible ((show wpAny _ _ (eval (Expr.ListComp _ _ _ _) _) _ _ _); (k_here; k_dflt (refine LCg.ListComp_U (F₀ := by k_asm) (by with_unfolding_all rfl) (by decide) (by rfl) (by decide) (by rfl) ?_))) | with_reducible ((k_here; (with_reducible show wpAny _ _ (subscriptTail _ _ (Value.ref _) (Value.int _ _)) _ _ _); k_dflt (refine item_tupleT (News.isTup (by k_asm) (by k_dflt k_mem)) (by decide) (by decide) (by rfl) (by rfl) ?_))) | walk_at "stp")
    rename Fr _ _ _ _ => F0
    rename News _ _ _ _ => N0
    refine Stop.go (LCg.CompSrc.ledger rfl F0 N0 m3 (by rw [List.size_toArray, hil, PySem.sizeLine_eq]; (clear hlen hOk hd hu hsub k3 k4 k5 hil; lia)) fun g' => ?_)
    refine str_rest (fun c => ⟨#[c.toNat]⟩) hi (fun k t I oI C oC D m₂ ys h tk E' hk hC hx F N off ne => ?_) fun ys hy => ?_
    · have hsg := k1 k hk
      have h0 := hsg.pos
      have h7 : k < 1000 := by unfold Sign at hsg; (clear hlen hOk hd hu hsub k2 k3 k4 k5 hil ne h0; lia)
      walk_at "steps"
      refine Stop.go ?_
      exact LCg.CompEnd.intro (by assumption) (by assumption) _ (fun _ h => h) off (.inr ⟨_, m3, rfl, _, rfl⟩) ⟨rfl, _, rfl⟩
    · intro D h tk F N o1
      have hj := join_txt codes
      have hjl : (Txt.join "" (codes.map fun c => (⟨#[c.toNat]⟩ : Str))).length ≤ 100 := by rw [hj]; show (codes.map Int.toNat).toArray.size ≤ 100; rw [List.size_toArray, List.length_map]; with_reducible_and_instances exact Nat.le_of_lt k2
      have hsum : ((codes.map fun c => (⟨#[c.toNat]⟩ : Str)).map (·.length)).sum + (codes.map fun c => (⟨#[c.toNat]⟩ : Str)).length * (Str.length "") ≤ 16777216 := by
        have : Str.length "" = 0 := by decide +kernel
        rw [this, Nat.mul_zero, Nat.add_zero]
        exact Nat.le_trans (sum_ones codes) (by omega)
      walk_at "steps"
      refine join_list (News.isList N (by walk_at "c_mem")) (by exact hy) hsum fun tj kj => ?_
      repeat' (first | with_reducible ((k_here; (with_reducible show wpAny _ _ (subscriptTail _ _ (Value.ref _) (Value.int _ _)) _ _ _); k_dflt (refine item_tupleT (News.isTup (by k_asm) (by k_dflt k_mem)) (by decide) (by decide) (by rfl) (by rfl) ?_))) | walk_at "stp")
      rename_i D9 h9 F9 N9 _
      exact endsT (Turned.refl FG) F9 (newsub N9 (nw' := (D9, _) :: news) (by
        intro p hp
        rcases List.mem_cons.mp hp with rfl | hp
        · exact .head _
        · have := hsub p hp
          first | exact .tail _ (.tail _ this) | exact .tail _ (.tail _ (.tail _ this)))) (by rw [hO]; exact ⟨_, _, _, rfl, rfl⟩)
  · intro e sym h' tk' hY x
    refine caughtX x FG F N B hfc X₀ T₀ hbase rfl (by k_is) ?_ rfl rfl rfl (by decide)
    intro h2 g2 tk2 oe dx odx E' Z F2 N2 xo B2 X2 T2
    clear F N B X T x
    repeat' (first | with_reducible ((show wpAny _ _ (getAttr (Value.ref _) _ _) _ _ _); (k_here; k_dflt (refine get_symbol (Frag.In.keeps (by k_asm) (Fr.keep (by k_asm))) (ExcObj.has (by assumption) (by k_asm) (.head _) (.tail _ (.head _))) ?_))) | walk_at "stp")
    refine name_goes_keeps F2 N2 ?_
    intro h3 tk3 F3 N3
    exact endsT Z F3 (newsub N3 (nw' := news) (by walk_at "c_keep")) (by rw [hY]; exact ⟨⟨_, rfl⟩, rfl⟩)
end
section
noncomputable def DeckOk (ns : List Int) : Prop := ns ≠ [] ∧ ∀ n ∈ ns, 0 ≤ n ∧ n < 10 ^ 61
theorem DeckOk.set {ns : List Int} (h : DeckOk ns) {j : Nat} {x : Int} (hx : 0 ≤ x ∧ x < 10 ^ 61) : DeckOk (ns.set j x) := by
  refine ⟨fun q => h.1 ?_, fun n hn => ?_⟩
  · have := congrArg List.length q
    rw [List.length_set] at this
    exact List.length_eq_zero_iff.mp this
  · rcases List.mem_or_eq_of_mem_set hn with z | z
    · exact h.2 n z
    · rw [z]; exact hx
theorem DeckOk.tail {ns : List Int} (h : DeckOk ns) (hl : 1 < ns.length) : DeckOk ns.tail := by
  refine ⟨fun q => ?_, fun n hn => h.2 n (List.mem_of_mem_tail hn)⟩
  have := congrArg List.length q
  rw [List.length_tail] at this
  simp at this
  omega
theorem DeckOk.get {ns : List Int} (h : DeckOk ns) {j : Nat} : 0 ≤ ns.getD j 0 ∧ ns.getD j 0 < 10 ^ 61 := by
  rw [List.getD_eq_getElem?_getD]
  cases q : ns[j]? with
  | none => decide
  | some x => exact h.2 x (List.mem_of_getElem? q)
theorem fdiv_in {x y : Int} (h : 0 ≤ x ∧ x < 10 ^ 61) (hy : 0 < y) : 0 ≤ x.fdiv y ∧ x.fdiv y < 10 ^ 61 := by
  rw [Int.fdiv_eq_ediv_of_nonneg _ (by with_reducible_and_instances exact Int.le_of_lt hy)]
  exact ⟨Int.ediv_nonneg h.1 (by with_reducible_and_instances exact Int.le_of_lt hy), Int.lt_of_le_of_lt (Int.ediv_le_self _ h.1) h.2⟩
variable {w : World}
theorem seq0 {y : Value} {q : List Value} : seqIndex? 0 (List.toArray (y :: q)).size = some 0 := by
  unfold seqIndex?
  simp
theorem pop0 {prog : Program} {A : Around} {E : Value → Shared → Prop} {s : Shared} {h₀ : Heap} {L d : Addr} {m : Str → Option Value} {rest : Led} {vs : List Value} {ns : List Int} {n : Nat} {u : Tok} {Q : Value → Shared → Prop}
    (F : Fr h₀ L s.heap m) (N : News h₀ L s.heap ((d, listOf (List.toArray vs) n) :: rest)) (hr : ∀ p ∈ rest, p.1 ≠ d) (hi : IntsAre vs ns) (hz : 0 < ns.length ∧ ns.length < 100)
    (h : ∀ y q h', Fr h₀ L h' m → News h₀ L h' ((d, listOf (List.toArray q) (n + 1)) :: rest) → IntsAre q ns.tail → Q y { s with heap := h' }) : wpAny (model prog w) A (call (.builtin "list.pop") [.ref d, .int 0 u]) Q E s := by
  have hl := hi.length
  cases hi with
  | nil => exact absurd hz.1 (Nat.lt_irrefl 0)
  | cons z tz hi' => exact kl_popAt (p := []) F N (by decide) seq0 (by rfl) (.head hr) (by rw [sizeLine_eq]; show (_ :: _ : List Value).length ≤ _; rw [hl]; exact Nat.le_trans (Nat.le_of_lt hz.2) (by decide)) fun h' F' N' => h _ _ h' F' N' hi'
theorem c_draw0 {rest : Led} {d : Addr} {vs : List Value} {n : Nat} {ns : List Int} (many : Int) (t : Tok) (hr : ∀ p ∈ rest, p.1 ≠ d) (hi : IntsAre vs ns) (hdk : DeckOk ns) (hl : ns.length < 100) (hm : 0 < many ∧ many < 100) :
    Ctr w 390 2 [.ref d, .int many t] ((d, listOf (List.toArray vs) n) :: rest) (fun r nw => ∃ z t' vs' ns' n', r = .int z t' ∧ nw = (d, listOf (List.toArray vs') n') :: rest ∧ IntsAre vs' ns' ∧ DeckOk ns' ∧ ns'.length < 100 ∧ 0 ≤ z ∧ z < many) := by
  revert hr hi hdk hl hm
  revert w rest d vs n ns many t
  refine @pk8 _ _ _ _ _ _ _ _ _ (ne2 neW nei) ?_
  generalize wk8 _ _ = q
  generalize q.1 = w, q.2.1 = rest, q.2.2.1 = d, q.2.2.2.1 = vs, q.2.2.2.2.1 = n, q.2.2.2.2.2.1 = ns, q.2.2.2.2.2.2.1 = many, q.2.2.2.2.2.2.2 = t
  clear q
  intro hr hi hdk hl hm
  refine' ctr_ofW ["_law_deck", "_law_many"] ?ho ?hcd ?hb ?hl ?h1 ?h2 ?h3 ?h4 ?_
  (((case ho => k_is); (case hcd => k_is); (case hb => exact rfl); (case hl => exact locs rfl); (case h1 => exact rfl); (case h2 => exact rfl); (case h3 => exact rfl); (case h4 => decide)))
  generalize wp14 _ = c9
  generalize c9.p = p, c9.loose = loose, c9.mean = mean, c9.mg = mg, c9.mb = mb, c9.dp = dp, c9.un = un, c9.gd = gd, c9.outer = outer, c9.A₀ = A₀, c9.base = base, c9.g = g, c9.L = L, c9.s = s
  clear c9
  intro B F X N T hd hu
  (((try dsimp only); (try k_fold)))
  walk_at "steps"
  rename Fr _ _ _ _ => F0
  rename News _ _ _ _ => N0
  refine Stop.go (While_inv2 (n₀ := ns.length) (fun k m₁ nx => ∃ vs' ns' n', nx = (d, listOf (List.toArray vs') n') :: rest ∧ IntsAre vs' ns' ∧ DeckOk ns' ∧ ns'.length = k ∧ k < 100 ∧ m₁ "_law_deck" = some (.ref d) ∧ m₁ "_law_many" = some (.int many t)) F0 N0 ⟨vs, ns, n, rfl, hi, hdk, rfl, hl, rfl, rfl⟩ ?_)
  clear F0 N0
  intro k m₁ nx h₁ tk₁ F1 N1 p9_7
  refine genP fun C9 k9 => ?_
  refine ex_3_7 (p9_7) ?_
  try clear p9_7
  intro vs' ns' n' e9_3 hi' hd' hk hk9 m1 m2
  subst e9_3
  refine k9 ?_
  clear k9 C9
  subst hk
  have hpos : 0 < ns'.length := by cases ns' with | nil => exact absurd rfl hd'.1 | cons a l => exact Nat.succ_pos _
  have hz9 : 0 < ns'.length ∧ ns'.length < 100 := ⟨hpos, hk9⟩
  repeat' (first | with_reducible ((show wpAny _ _ (setItem _ _ _) _ _ _); (k_here; k_dflt (refine' ksa_set ?F ?N ?U ?i ?a ?b ?c ?_; (case F => k_asm); (case N => k_asm); (case U => exact .head (by assumption)); (case i => assumption); (case a => decide); (case b => omega); (case c => decide)); intro h' F' N')) | with_reducible ((show wpAny _ _ (call (Value.builtin "list.pop") _ _) _ _ _); (k_here; k_dflt (refine' pop0 ?F ?N ?r ?i ?z ?_; (case F => k_asm); (case N => k_asm); (case r => assumption); (case i => assumption); (case z => assumption)); intro y' q' h' F' N' i')) | walk_at "stp")
  · exact wnext (n' := ns'.length - 1) (by assumption) (by assumption) (Nat.sub_lt hpos (by decide)) ⟨_, _, _, rfl, by assumption, hd'.tail (Int.ofNat_lt.mp (by assumption)), List.length_tail, Nat.lt_of_le_of_lt (Nat.sub_le _ _) hk9, by walk_at "c_look", by walk_at "c_look"⟩
  · exact ends (by assumption) (by assumption) ⟨_, _, _, _, _, rfl, rfl, by assumption, hd'.set (fdiv_in hd'.get hm.1), by rw [List.length_set]; exact hk9, Int.fmod_nonneg_of_pos _ hm.1, Int.fmod_lt_of_pos _ hm.1⟩
  · exact ends (by assumption) (by assumption) ⟨_, _, _, _, _, rfl, rfl, by assumption, hd'.set ⟨Int.fmod_nonneg_of_pos _ (by decide), Int.lt_trans (Int.fmod_lt_of_pos _ (by decide)) (by decide)⟩, by rw [List.length_set]; exact hk9, Int.fmod_nonneg_of_pos _ hm.1, Int.fmod_lt_of_pos _ hm.1⟩
theorem Ctr.led {f : Addr} {k : Nat} {vs : List Value} {news news' : Led} {R R' : Value → Led → Prop} (C : Ctr w f k vs news R) (h : ∀ p ∈ news, p ∈ news') (hR : ∀ r nw, R r nw → ∃ nw', (∀ p ∈ nw', p ∈ nw) ∧ R' r nw') : Ctr w f k vs news' R' := by
  intro p loose mean mg mb dp un gd cn cs' a ccd cl outer A₀ base h₀ L m s Q E B F X N T hk hd hu hret
  refine C p loose mean mg mb dp un gd cn cs' a ccd cl outer A₀ base h₀ L m s Q E B F X (newsub N h) T hk hd hu fun r nw h' tk' F' N' r' => ?_
  refine ex_1_2 (hR r nw r') ?_
  intro nw' hs r''
  exact hret r nw' h' tk' F' (newsub N' hs) r''
theorem c_draw {d : Addr} {vs : List Value} {n : Nat} {ns : List Int} {news : Led} {g : Obj → Led} (U : UpdF d (listOf (List.toArray vs) n) news g) (many : Int) (t : Tok) (hi : IntsAre vs ns) (hdk : DeckOk ns) (hl : ns.length < 100) (hm : 0 < many ∧ many < 100) :
    Ctr w 390 2 [.ref d, .int many t] news (fun r nw => ∃ z t' vs' ns' n', r = .int z t' ∧ nw = g (listOf (List.toArray vs') n') ∧ IntsAre vs' ns' ∧ DeckOk ns' ∧ ns'.length < 100 ∧ 0 ≤ z ∧ z < many) := by
  refine genP fun C9 k9 => ?_
  refine ex_2_4 (U.split) ?_
  intro pre post e9_2 hg h1 h2
  subst e9_2
  refine k9 ?_
  clear k9 C9
  refine (c_draw0 (rest := pre ++ post) (n := n) many t (fun p hp => (List.mem_append.mp hp).elim (h1 p) (h2 p)) hi hdk hl hm).led (fun p hp => ?_) fun r nw x9 => ex_5_3 x9 fun z t' vs' ns' n' e1 e2 r => ⟨g (listOf (List.toArray vs') n'), fun p hp => ?_, z, t', vs', ns', n', e1, rfl, r⟩
  · rcases List.mem_cons.mp hp with rfl | hp
    · exact List.mem_append_right _ (.head _)
    · exact (List.mem_append.mp hp).elim (List.mem_append_left _) fun q => List.mem_append_right _ (.tail _ q)
  · rw [hg] at hp
    rw [e2]
    rcases List.mem_append.mp hp with q | q
    · exact .tail _ (List.mem_append_left _ q)
    · rcases List.mem_cons.mp q with rfl | q
      · exact .head _
      · exact .tail _ (List.mem_append_right _ q)
end
section
variable {w : World}
theorem c_one_str {d : Addr} {vs : List Value} {n : Nat} {ns : List Int} {news : Led} {g : Obj → Led} (U : UpdF d (listOf (List.toArray vs) n) news g) (tx : Str) (t : Tok) (hT : 0 < (tx.length : Int) ∧ (tx.length : Int) < 100) (hi : IntsAre vs ns) (hdk : DeckOk ns) (hl : ns.length < 100) :
    Ctr w 402 3 [.ref d, .str tx t] news (fun r nw => ∃ z t' vs' ns' n', r = .str (Txt.item tx z) t' ∧ nw = g (listOf (List.toArray vs') n') ∧ IntsAre vs' ns' ∧ DeckOk ns' ∧ ns'.length < 100 ∧ 0 ≤ z ∧ z < (tx.length : Int)) := by
  have hT' : tx.length < 100 := by (clear hl; omega)
  refine' ctr_of ["_law_deck", "_law_items"] ?ho ?hcd ?hb ?hl ?h1 ?h2 ?h3 ?h4 ?_
  (((case ho => k_is); (case hcd => k_is); (case hb => exact rfl); (case hl => exact locs rfl); (case h1 => exact rfl); (case h2 => exact rfl); (case h3 => exact rfl); (case h4 => decide)))
  intro p loose mean mg mb dp un gd outer A₀ base g L s B F X N T hd hu
  (((try dsimp only); (try k_fold)))
  repeat' (first | with_reducible ((show wpAny _ _ (call (Value.ref _) _ _) _ _ _); (k_here; (refine' useA ?N ?C ?B ?F ?X ?T ?K ?d ?u ?_; (case N => k_asm); (case C => k_dflt exact c_draw (by assumption) _ _ (by assumption) (by assumption) (by assumption) (by first | omega | decide)); (((case B => k_asm); (case F => k_asm); (case X => k_asm); (case T => k_asm); (case K => first | exact rfl | assumption); (case d => k_dflt (first | exact room_le (by assumption) (by first | decide | exact Nat.le_refl _ | exact Nat.le_succ_of_le (by assumption)) | ktr_room)); (case u => k_dflt (first | exact unit_le (by assumption) (by decide) | exact unit_le (k := 1) (by assumption) (by decide) | exact unit_le2 (by assumption) (by decide) | exact unit_leK (by assumption) (by first | exact Nat.le_refl _ | exact Nat.le_succ_of_le (by assumption)) | ktr_units))))); ((((first | (with_reducible refine aft1 ?_; intro _ _ _ _ _) | (with_reducible refine aft0 ?_; intro _ _ _ _) | (with_reducible refine aft3 ?_; intro _ _ _ _ _ _ _) | (with_reducible refine aft4 ?_; intro _ _ _ _ _ _ _ _) | (with_reducible refine aft5f5 ?_; intro _ _ _ _ _ _ _ _ _ _ _ _ _ _) | (with_reducible refine aft3f2 ?_; intro _ _ _ _ _ _ _ _ _) | (with_reducible refine aft3f1 ?_; intro _ _ _ _ _ _ _ _) | (with_reducible refine aft1f1 ?_; intro _ _ _ _ _ _))))))) | with_reducible ((k_here; (with_reducible show wpAny _ _ (subscriptTail _ _ (Value.str _ _) (Value.int _ _)) _ _ _); k_dflt (refine KXi.item (by exact rfl) (by (clear hT hl hT' hd hu; lia)) (by omega) (by (clear hT hl hd hu; lia)) ?_); intro _)) | walk_at "stp")
  exact ends (by assumption) (by assumption) ⟨_, _, _, _, _, rfl, rfl, by assumption, by assumption, by assumption, by assumption, by assumption⟩
theorem sub_listZ {prog : Program} {A : Around} {E : Value → Shared → Prop} {s : Shared} {value slice : Expr} {a : Addr} {l : List Value} {k : Int} {u : Tok} {Q : Value → Shared → Prop} (hl : s.heap.IsList a l.toArray) (h0 : 0 ≤ k) (h1 : k < (l.length : Int)) (hz : l.length < 100)
    (h : ∀ x, l[k.toNat]? = some x → Q x s) (hs : subscripted slice false (.ref a) (.int k u) = operate [.ref a, .int k u] (getItem (.ref a) (.int k u)) := by with_unfolding_all rfl) (hg : ∀ r, letTemporaryGo value (.ref a) r = pure () := by intro _; with_unfolding_all rfl) : wpAny (model prog w) A (subscriptTail value slice (.ref a) (.int k u)) Q E s := by
  obtain ⟨x, hx⟩ : ∃ x, l[k.toNat]? = some x := ⟨_, List.getElem?_eq_getElem (by (clear hz h hg; lia))⟩
  exact item_listL hl h0 (by (clear h0 h hg; lia)) hx (h x hx) hs hg
theorem lenL {prog : Program} {A : Around} {E : Value → Shared → Prop} {s : Shared} {a : Addr} {l : List Value} {Q : Value → Shared → Prop} (hl : s.heap.IsList a l.toArray) (hz : l.length < 100)
    (h : Q (.int (l.length : Int) (s.toks + 1)) { s with toks := s.toks + 1 + 1 }) : wpAny (model prog w) A (call (.builtin "len") [.ref a]) Q E s :=
  len_list hl (by rw [List.size_toArray]; lia) (by rw [List.size_toArray]; exact h)
theorem c_one_list {d l0 : Addr} {vs its : List Value} {n n0 : Nat} {ns : List Int} {news : Led} {g : Obj → Led} (U : UpdF d (listOf (List.toArray vs) n) news g) (hm0 : (l0, listOf (List.toArray its) n0) ∈ news) (hm : ∀ o', (l0, listOf (List.toArray its) n0) ∈ g o') (hT : 0 < its.length) (hT' : its.length < 100) (hi : IntsAre vs ns) (hdk : DeckOk ns) (hl : ns.length < 100) :
    Ctr w 402 3 [.ref d, .ref l0] news (fun r nw => ∃ (z : Nat) (x : Value) (vs' : List Value) (ns' : List Int) (n' : Nat), r = x ∧ nw = g (listOf (List.toArray vs') n') ∧ IntsAre vs' ns' ∧ DeckOk ns' ∧ ns'.length < 100 ∧ its[z]? = some x) := by
  have hT0 : 0 < (its.length : Int) ∧ (its.length : Int) < 100 := by (clear hm hl; lia)
  refine' ctr_of ["_law_deck", "_law_items"] ?ho ?hcd ?hb ?hl ?h1 ?h2 ?h3 ?h4 ?_
  (((case ho => k_is); (case hcd => k_is); (case hb => exact rfl); (case hl => exact locs rfl); (case h1 => exact rfl); (case h2 => exact rfl); (case h3 => exact rfl); (case h4 => decide)))
  intro p loose mean mg mb dp un gd outer A₀ base g L s B F X N T hd hu
  (((try dsimp only); (try k_fold)))
  repeat' (first | with_reducible ((show wpAny _ _ (call (Value.builtin "len") _ _) _ _ _); (k_here; k_dflt (refine lenL (by exact News.isList (by k_asm) (by assumption)) (by assumption) ?_))) | with_reducible ((show wpAny _ _ (call (Value.ref _) _ _) _ _ _); (k_here; (refine' useA ?N ?C ?B ?F ?X ?T ?K ?d ?u ?_; (case N => k_asm); (case C => k_dflt exact c_draw (by assumption) _ _ (by assumption) (by assumption) (by assumption) (by first | omega | decide)); (((case B => k_asm); (case F => k_asm); (case X => k_asm); (case T => k_asm); (case K => first | exact rfl | assumption); (case d => k_dflt (first | exact room_le (by assumption) (by first | decide | exact Nat.le_refl _ | exact Nat.le_succ_of_le (by assumption)) | ktr_room)); (case u => k_dflt (first | exact unit_le (by assumption) (by decide) | exact unit_le (k := 1) (by assumption) (by decide) | exact unit_le2 (by assumption) (by decide) | exact unit_leK (by assumption) (by first | exact Nat.le_refl _ | exact Nat.le_succ_of_le (by assumption)) | ktr_units))))); ((((first | (with_reducible refine aft1 ?_; intro _ _ _ _ _) | (with_reducible refine aft0 ?_; intro _ _ _ _) | (with_reducible refine aft3 ?_; intro _ _ _ _ _ _ _) | (with_reducible refine aft4 ?_; intro _ _ _ _ _ _ _ _) | (with_reducible refine aft5f5 ?_; intro _ _ _ _ _ _ _ _ _ _ _ _ _ _) | (with_reducible refine aft3f2 ?_; intro _ _ _ _ _ _ _ _ _) | (with_reducible refine aft3f1 ?_; intro _ _ _ _ _ _ _ _) | (with_reducible refine aft1f1 ?_; intro _ _ _ _ _ _))))))) | with_reducible ((k_here; (with_reducible show wpAny _ _ (subscriptTail _ _ (Value.ref _) (Value.int _ _)) _ _ _); k_dflt (refine sub_listZ (News.isList (by k_asm) (by first | assumption | apply_assumption)) (by assumption) (by assumption) (by assumption) ?_); intro x9 hx9)) | walk_at "stp")
  exact ends (by assumption) (by assumption) ⟨_, _, _, _, _, rfl, rfl, by assumption, by assumption, by assumption, by assumption⟩
end
section
variable {w : World}
section
variable {prog : Program} {A : Around} {h₀ : Heap} {L : Addr} {m : Str → Option Value} {env : Env} {elt : Expr} {x : Str} {scope : Scope} {cl : List (Str × Addr)} {s : Shared} {S : List (Addr × Obj) → Prop} {P : Nat → Value → Prop} {Fin : List Value → List (Addr × Obj) → Prop} {rest : Led} {d : Addr}
theorem deck_rest {n : Nat} {vs : List Value} {ns : List Int} {nn : Nat} (hi0 : IntsAre vs ns) (hd0 : DeckOk ns) (hl0 : ns.length < 100)
    (turn : ∀ (vs : List Value) (ns : List Int) (nn : Nat) v i I oI C oC D m₂ ys h tk (E' : Value → Shared → Prop), IntsAre vs ns → DeckOk ns → ns.length < 100 → P i v → LCg.NsObj oC m₂ → m₂ x = some v → Fr h₀ L h m → News h₀ L h ((I, oI) :: (C, oC) :: (D, LCg.lst ys) :: (d, listOf (List.toArray vs) nn) :: rest) →
      LCg.Off3 I C D rest → (d ≠ I ∧ d ≠ C ∧ d ≠ D) → ((@Ne Nat I C) ∧ (@Ne Nat I D) ∧ (@Ne Nat C D)) →
      wpAny (model prog w) A (eval elt (compEnvC scope cl C env)) (LCg.CompEnd h₀ L m { s with heap := h, toks := tk } I oI C oC D (LCg.lst ys) S (fun y news' => ∃ c t vs' ns' n', y = .int c t ∧ Sign c ∧ news' = (d, listOf (List.toArray vs') n') :: rest ∧ IntsAre vs' ns' ∧ DeckOk ns' ∧ ns'.length < 100)) E' { s with heap := h, toks := tk })
    (fin : ∀ ys cs vs ns nn, IntsAre ys cs → TextOk cs → cs.length = n → IntsAre vs ns → DeckOk ns → ns.length < 100 → Fin ys ((d, listOf (List.toArray vs) nn) :: rest)) :
    LCg.CompRest prog w A h₀ L m env elt x scope cl s S P Fin n 0 [] ((d, listOf (List.toArray vs) nn) :: rest) := by
  have key : ∀ (j i : Nat) (ys : List Value) (cs : List Int) (vs : List Value) (ns : List Int) (nn : Nat), i + j = n → IntsAre ys cs → TextOk cs → cs.length = i → IntsAre vs ns → DeckOk ns → ns.length < 100 →
      LCg.CompRest prog w A h₀ L m env elt x scope cl s S P Fin j i ys ((d, listOf (List.toArray vs) nn) :: rest) := by
    intro j
    induction j with
    | zero =>
      intro i ys cs vs ns nn hi hy ht hc hv hd hl
      exact LCg.CompRest.zero (fin ys cs vs ns nn hy ht (by with_reducible_and_instances exact Eq.trans hc hi) hv hd hl)
    | succ j ih =>
      intro i ys cs vs ns nn hi hy ht hc hvs hd hl
      refine LCg.CompRest.succ ?_
      intro v I oI C oC D m₂ h tk E' hv hC hx F N off ne
      refine wpAny_mono (turn vs ns nn v i I oI C oC D m₂ ys h tk E' hvs hd hl hv hC hx F N off.2 off.1 ne) (fun y s₂ hq => ?_) fun _ _ e => e
      refine genP fun C9 k9 => ?_
      obtain ⟨h', tk', nw, e, F', N', off', hS, c, t, vs', ns', n', hy', hc', hn, hv', hd', hl'⟩ := hq
      refine k9 ?_
      clear k9 C9
      subst hn
      refine ⟨h', tk', _, e, F', N', off', hS, ?_⟩
      subst hy'
      exact ih (i + 1) _ (cs ++ [c]) vs' ns' n' (by (clear hl0 turn fin ih hc hl ne hl'; lia)) (by simpa using IntsAre.append hy (.cons c t .nil)) (fun z hz => (List.mem_append.mp hz).elim (ht z) fun q => by rw [List.mem_singleton.mp q]; exact hc') (by simp [hc]) hv' hd' hl'
  exact key n 0 [] [] vs ns nn (by with_reducible_and_instances exact Nat.add_comm _ _) .nil (fun _ h => nomatch h) rfl hi0 hd0 hl0
end
theorem signs_at {z : Int} (h0 : 0 ≤ z) (h1 : z < ((Str.length "abcd  .\n" : Nat) : Int)) : Sign (((Txt.charAt "abcd  .\n" z).getD 0 : Nat) : Int) := by
  obtain ⟨k, rfl⟩ : ∃ k : Nat, z = k := ⟨z.toNat, by (clear h1; lia)⟩
  have h8 : (Str.length "abcd  .\n") = 8 := by decide +kernel
  have hk : k < 8 := by (clear h0; lia)
  have e : ∀ k : Fin 8, (((Txt.charAt "abcd  .\n" ((k.val : Nat) : Int)).getD 0 : Nat) : Int) = 97 ∨ (((Txt.charAt "abcd  .\n" ((k.val : Nat) : Int)).getD 0 : Nat) : Int) = 98 ∨ (((Txt.charAt "abcd  .\n" ((k.val : Nat) : Int)).getD 0 : Nat) : Int) = 99 ∨ (((Txt.charAt "abcd  .\n" ((k.val : Nat) : Int)).getD 0 : Nat) : Int) = 100 ∨ (((Txt.charAt "abcd  .\n" ((k.val : Nat) : Int)).getD 0 : Nat) : Int) = 32 ∨ (((Txt.charAt "abcd  .\n" ((k.val : Nat) : Int)).getD 0 : Nat) : Int) = 46 ∨ (((Txt.charAt "abcd  .\n" ((k.val : Nat) : Int)).getD 0 : Nat) : Int) = 10 := by decide +kernel
  exact e ⟨k, hk⟩
local macro_rules | `(tactic| walk_at "c_ne") => `(tactic| first | assumption | exact Ne.symm (by assumption) | k_ne)
local macro_rules | `(tactic| walk_at "c_upd") => `(tactic| first | assumption | (refine UpdF.head ?_; first | assumption) | (refine' UpdF.tail ?a ?b; (case a => walk_at "c_ne"); (case b => walk_at "c_upd")))
theorem c_some {rest : Led} {d : Addr} {vs : List Value} {n : Nat} {ns : List Int} (t tm : Tok) (hr : ∀ p ∈ rest, p.1 ≠ d) (hi : IntsAre vs ns) (hdk : DeckOk ns) (hl : ns.length < 100) :
    Ctr w 407 5 [.ref d, .str "abcd  .\n" t, .int 14 tm] ((d, listOf (List.toArray vs) n) :: rest) (fun r nw => ∃ a ys cs k vs' ns' n', r = .ref a ∧ nw = (a, listOf (List.toArray ys) k) :: (d, listOf (List.toArray vs') n') :: rest ∧ IntsAre ys cs ∧ TextOk cs ∧ cs.length < 16 ∧ IntsAre vs' ns' ∧ DeckOk ns' ∧ ns'.length < 100 ∧ (∀ p ∈ rest, p.1 ≠ a) ∧ d ≠ a) := by
  revert hr hi hdk hl
  revert w rest d vs n ns t tm
  refine @pk8 _ _ _ _ _ _ _ _ _ (ne2 neW nei) ?_
  generalize wk8 _ _ = q
  generalize q.1 = w, q.2.1 = rest, q.2.2.1 = d, q.2.2.2.1 = vs, q.2.2.2.2.1 = n, q.2.2.2.2.2.1 = ns, q.2.2.2.2.2.2.1 = t, q.2.2.2.2.2.2.2 = tm
  clear q
  intro hr hi hdk hl
  have hT : 0 < ((Str.length "abcd  .\n" : Nat) : Int) ∧ ((Str.length "abcd  .\n" : Nat) : Int) < 100 := by decide +kernel
  refine' ctr_ofCW ["_law_deck", "_law_signs", "_law_most"] ?ho ?hcd ?hb ?hl ?h1 ?h2 ?h3 ?h4 ?_
  (((case ho => k_is); (case hcd => k_is); (case hb => exact rfl); (case hl => exact rfl); (case h1 => exact rfl); (case h2 => exact rfl); (case h3 => exact rfl); (case h4 => decide)))
  generalize wp15 _ = c9
  generalize c9.p = p, c9.loose = loose, c9.mean = mean, c9.mg = mg, c9.mb = mb, c9.dp = dp, c9.un = un, c9.gd = gd, c9.outer = outer, c9.A₀ = A₀, c9.base = base, c9.g = g, c9.L = L, c9.s = s, c9.cells = cells
  clear c9
  intro B F X N Y hlt T hd hu
  refine genP fun C9 k9 => ?_
  refine ex_2_3 (CellsAre.two Y) ?_
  intro oc oc2 e9_2 hoc hoc2
  subst e9_2
  refine k9 ?_
  clear k9 C9
  have hdL : @LT.lt Nat _ d L := hlt _ (.head _)
  clear Y
  simp only [List.cons_append, List.nil_append] at N
  (((try dsimp only); (try k_fold)))
  repeat' (first | with_reducible ((show wpAny _ _ (call (Value.ref _) _ _) _ _ _); (k_here; (k_dflt show wpAny _ _ (call (Value.ref 390) _) _ _ _); (refine' useA ?N ?C ?B ?F ?X ?T ?K ?d ?u ?_; (case N => k_asm); (case C => k_dflt exact c_draw (by walk_at "c_upd") _ _ (by assumption) (by assumption) (by assumption) (by first | with_reducible_and_instances decide | decide)); (((case B => k_asm); (case F => k_asm); (case X => k_asm); (case T => k_asm); (case K => first | exact rfl | assumption); (case d => k_dflt (first | exact room_le (by assumption) (by first | decide | exact Nat.le_refl _ | exact Nat.le_succ_of_le (by assumption)) | ktr_room)); (case u => k_dflt (first | exact unit_le (by assumption) (by decide) | exact unit_le (k := 1) (by assumption) (by decide) | exact unit_le2 (by assumption) (by decide) | exact unit_leK (by assumption) (by first | exact Nat.le_refl _ | exact Nat.le_succ_of_le (by assumption)) | ktr_units))))); ((((first | (with_reducible refine aft1 ?_; intro _ _ _ _ _) | (with_reducible refine aft0 ?_; intro _ _ _ _) | (with_reducible refine aft3 ?_; intro _ _ _ _ _ _ _) | (with_reducible refine aft4 ?_; intro _ _ _ _ _ _ _ _) | (with_reducible refine aft5f5 ?_; intro _ _ _ _ _ _ _ _ _ _ _ _ _ _) | (with_reducible refine aft3f2 ?_; intro _ _ _ _ _ _ _ _ _) | (with_reducible refine aft3f1 ?_; intro _ _ _ _ _ _ _ _) | (with_reducible refine aft1f1 ?_; intro _ _ _ _ _ _))))))) | walk_at "stp")
  rename IsRange _ _ _ _ _ _ _ _ => hrg
  rename Fr _ _ _ _ => F0
  rename News _ _ _ _ => N0
  rename IntsAre _ _ => i0
  rename DeckOk _ => d0
  rename List.length _ < 100 => l0
  have hr' : ∀ p ∈ (L + 1 + 1, oc) :: (L + 1, oc2) :: rest, p.1 ≠ d := by
    intro p hp
    rcases List.mem_cons.mp hp with rfl | hp
    · k_ne
    · rcases List.mem_cons.mp hp with rfl | hp
      · k_ne
      · exact hr p hp
  refine Stop.go (LCg.CompSrc.range rfl F0 (newsub N0 (nw' := (d, _) :: (L + 1 + 1, oc) :: (L + 1, oc2) :: rest) (by walk_at "c_keep")) hrg (small_one (by with_reducible_and_instances decide) (by with_reducible_and_instances decide) (by (clear hr hl hT hlt hd hu hdL l0 hr'; lia)) (by (clear hr hl hT hlt hd hu hdL l0 hr'; lia))) (rangeSize_nat _ _) (by rw [PySem.sizeLine_eq]; (clear hr hl hT hlt hd hu hdL l0 hr'; lia)) fun g' => ?_)
  refine deck_rest i0 d0 l0 (fun vs ns nn v i I oI C oC D m₂ ys h tk E' hi hd hl hv hC hx F N off od ne => ?_) fun ys cs vs ns nn hy ht hc hv hd hl => ?_
  · refine ex_0_3 (od) ?_
    try clear od
    intro od1 od2 od3
    repeat' (first | with_reducible ((show wpAny _ _ (call (Value.ref _) _ _) _ _ _); (k_here; (k_dflt show wpAny _ _ (call (Value.ref 402) _) _ _ _); (refine' useA ?N ?C ?B ?F ?X ?T ?K ?d ?u ?_; (case N => k_asm); (case C => k_dflt exact c_one_str (by walk_at "c_upd") _ _ (by assumption) (by assumption) (by assumption) (by assumption)); (((case B => k_asm); (case F => k_asm); (case X => k_asm); (case T => k_asm); (case K => first | exact rfl | assumption); (case d => k_dflt (first | exact room_le (by assumption) (by first | decide | exact Nat.le_refl _ | exact Nat.le_succ_of_le (by assumption)) | ktr_room)); (case u => k_dflt (first | exact unit_le (by assumption) (by decide) | exact unit_le (k := 1) (by assumption) (by decide) | exact unit_le2 (by assumption) (by decide) | exact unit_leK (by assumption) (by first | exact Nat.le_refl _ | exact Nat.le_succ_of_le (by assumption)) | ktr_units))))); ((((first | (with_reducible refine aft1 ?_; intro _ _ _ _ _) | (with_reducible refine aft0 ?_; intro _ _ _ _) | (with_reducible refine aft3 ?_; intro _ _ _ _ _ _ _) | (with_reducible refine aft4 ?_; intro _ _ _ _ _ _ _ _) | (with_reducible refine aft5f5 ?_; intro _ _ _ _ _ _ _ _ _ _ _ _ _ _) | (with_reducible refine aft3f2 ?_; intro _ _ _ _ _ _ _ _ _) | (with_reducible refine aft3f1 ?_; intro _ _ _ _ _ _ _ _) | (with_reducible refine aft1f1 ?_; intro _ _ _ _ _ _))))))) | walk_at "stp")
    refine Stop.go ?_
    exact LCg.CompEnd.intro (by assumption) (by assumption) ((d, listOf (List.toArray _) _) :: (L + 1 + 1, oc) :: (L + 1, oc2) :: rest) (by walk_at "c_keep") ⟨⟨od1, od2, od3⟩, off⟩ trivial ⟨_, _, _, _, _, rfl, signs_at (by assumption) (by assumption), rfl, by assumption, by assumption, by assumption⟩
  · intro D h tk F N o1
    have o2 := off1_mem o1
    walk_at "steps"
    exact ends F (newsub N (nw' := (D, _) :: (d, _) :: rest) (by walk_at "c_keep")) ⟨D, ys, cs, ys.length, vs, ns, nn, rfl, rfl, hy, ht, by (clear hr hT hlt hu hdL l0 hr' hl o2; lia), hv, hd, hl, fun p hp => o2 p (.tail _ (.tail _ (.tail _ hp))), o2 _ (.head _)⟩
end
section
section
variable {prog : Program} {w : World} {A : Around} {E : Value → Shared → Prop} {s : Shared} {env : Env} {h₀ : Heap} {x : Str} {body : List Stmt} {Q : Flow → Shared → Prop}
theorem iter_J {l : Addr} {its : List Value} {n0 : Nat} {m₀ : Str → Option Value} {news : Led} (hh : A.handled = none) (hm : (l, listOf (List.toArray its) n0) ∈ news) (F : Fr h₀ env.locals s.heap m₀) (N : News h₀ env.locals s.heap news)
    (J : Nat → (Str → Option Value) → Prop) (h0 : J 0 m₀)
    (turn : ∀ (i : Nat) v m₁ (s₁ : Shared) own, its[i]? = some v → J i m₁ → (∀ p ∈ news, p.1 ∉ [s.heap.objs.size]) → Fr h₀ env.locals s₁.heap (fun y => if y = x then some v else m₁ y) → News h₀ env.locals s₁.heap (own ++ news) →
      wpAny (model prog w) A (execs body env) (LoopStepU h₀ env.locals [s.heap.objs.size] own (fun m₂ nw => nw = news ∧ J (i + 1) m₂) s₁) E s₁)
    (done : ∀ h' tk m', Fr h₀ env.locals h' m' → News h₀ env.locals h' news → J its.length m' → Q .next { s with heap := h', toks := tk }) :
    wpAny (model prog w) A (pyIter (.ref l)) (fun it s₂ => LoopAtU prog w A h₀ env x body Q E it s₂) E s := by
  have hls : s.heap.IsList l its.toArray := News.isList N hm
  have hlt : l < s.heap.objs.size := Heap.lt_size (N _ hm).1
  have hne : l ≠ s.heap.objs.size := Nat.ne_of_lt hlt
  refine wpAny_pyIter_list hls ?_
  have W := Walks.list (prog := prog) (w := w) hh s.heap.objs.size l hne its.toArray
  have hlen : its.toArray.size = its.length := List.size_toArray ..
  rw [hlen] at W
  refine ⟨s.heap.objs.size, [s.heap.objs.size, l], [s.heap.objs.size], its.length, _, _, m₀, news, fun i m₁ nw => nw = news ∧ J i m₁, rfl, W, ?_, ?_, ?_, ⟨⟨_, Heap.get?_push_size _ rfl, rfl, rfl⟩, hls.at fun o e => Heap.get?_push_of_some _ e⟩, F.push _, fun p hp => ⟨Heap.get?_push_of_some _ (N p hp).1, (N p hp).2⟩, ⟨rfl, h0⟩, ?_, ?_⟩
  · intro hm'
    rcases List.mem_cons.mp hm' with e | hm'
    · exact absurd F.ns.lt (e ▸ Nat.lt_irrefl _)
    · exact (N _ hm).2.1 (List.mem_singleton.mp hm').symm
  · intro b hb
    rw [List.mem_singleton.mp hb]
    exact next_is_new F
  · intro p hp hI
    exact absurd (Heap.lt_size (N p hp).1) ((List.mem_singleton.mp hI) ▸ Nat.lt_irrefl _)
  · rintro i v m₁ news₁ s₁ own hi hP ⟨rfl, hJ⟩ hoff _ _ _ _ F₁ N₁
    exact turn i v m₁ s₁ own (by simpa using hP) hJ hoff F₁ N₁
  · rintro h' tk m' news' F' N' _ ⟨rfl, hJ⟩
    exact done h' tk m' F' N' hJ
end
section
variable {prog : Program} {w : World} {A : Around} {h₀ : Heap} {L : Addr} {m : Str → Option Value} {env : Env} {ct elt : Expr} {x : Str} {scope : Scope} {cl : List (Str × Addr)} {s : Shared} {S : List (Addr × Obj) → Prop} {P : Nat → Value → Prop} {Fin : List Value → List (Addr × Obj) → Prop} {news : Led}
theorem test_rest {n : Nat} {ks : List Int} (p : Int → Bool) (g : Int → Int) (hks : ks.length = n) (hP : ∀ i v, i < n → P i v → ∃ k t, ks[i]? = some k ∧ v = .int k t)
    (turn : ∀ k t I oI C oC D m₂ ys h tk (E' : Value → Shared → Prop), k ∈ ks → LCg.NsObj oC m₂ → m₂ x = some (.int k t) → Fr h₀ L h m → News h₀ L h ((I, oI) :: (C, oC) :: (D, LCg.lst ys) :: news) → LCg.Off3 I C D news → ((@Ne Nat I C) ∧ (@Ne Nat I D) ∧ (@Ne Nat C D)) →
      wpAny (model prog w) A (isTrue ct (compEnvC scope cl C env) (eval ct (compEnvC scope cl C env))) (fun ok s' => if ok = true then
        wpAny (model prog w) A (eval elt (compEnvC scope cl C env)) (LCg.CompEnd h₀ L m { s with heap := h, toks := tk } I oI C oC D (LCg.lst ys) S (fun y news' => news' = news ∧ p k = true ∧ ∃ t, y = .int (g k) t)) E' s'
        else LCg.CompEnd h₀ L m { s with heap := h, toks := tk } I oI C oC D (LCg.lst ys) S (fun _ news' => news' = news ∧ p k = false) Value.none s') E' { s with heap := h, toks := tk })
    (fin : ∀ ys, IntsAre ys ((ks.filter p).map g) → Fin ys news) : LCt.CompRestT prog w A h₀ L m env ct elt x scope cl s S P Fin n 0 [] news := by
  have key : ∀ (j i : Nat) (ys : List Value), i + j = n → IntsAre ys (((ks.take i).filter p).map g) → LCt.CompRestT prog w A h₀ L m env ct elt x scope cl s S P Fin j i ys news := by
    intro j
    induction j with
    | zero =>
      intro i ys hi hy
      have e : i = ks.length := by with_reducible_and_instances exact Eq.trans hi (Eq.symm hks)
      subst e
      rw [List.take_length] at hy
      exact LCt.CompRestT.zero (fin ys hy)
    | succ j ih =>
      intro i ys hi hy v I oI C oC D m₂ h tk E' hv hC hx F N off ne
      refine ex_2_2 (hP i v (by (clear hks hP turn fin ih ne; lia)) hv) ?_
      intro k t hk hv'
      subst hv'
      refine wpAny_mono (turn k t I oI C oC D m₂ ys h tk E' (List.mem_of_getElem? hk) hC hx F N off ne) (fun ok s₂ hq => ?_) fun _ _ e => e
      by_cases hok : ok = true
      · rw [if_pos hok] at hq ⊢
        refine wpAny_mono hq (fun y s₃ hq => ?_) fun _ _ e => e
        refine genP fun C9 k9 => ?_
        obtain ⟨h', tk', nw, e, F', N', off', hS, hn, hp, t', hy'⟩ := hq
        refine k9 ?_
        clear k9 C9
        subst hn
        subst hy'
        refine ⟨h', tk', nw, e, F', N', off', hS, ih (i + 1) _ (by (clear hks hP ne turn fin ih; lia)) ?_⟩
        rw [List.take_add_one, hk]
        simpa [hp] using IntsAre.append hy (.cons (g k) t' .nil)
      · rw [if_neg hok] at hq ⊢
        refine ex_3_7 (hq) ?_
        try clear hq
        intro h' tk' nw e F' N' off' hS hn hp
        subst hn
        refine ⟨h', tk', nw, e, F', N', off', hS, ih (i + 1) _ (by omega) ?_⟩
        rw [List.take_add_one, hk]
        simpa [hp] using hy
  exact key n 0 [] (by with_reducible_and_instances exact Nat.add_comm _ _) (by simp only [List.take_zero, List.filter_nil, List.map_nil]; exact .nil)
end
theorem allLt_mem {d : Addr} : ∀ {l : Led}, AllLt d l → ∀ p ∈ l, p.1 ≠ d
  | [], _, _, h => nomatch h
  | _ :: _, x, p, h => by
    rcases List.mem_cons.mp h with rfl | h
    · exact Nat.ne_of_lt x.1
    · exact allLt_mem x.2 p h
variable {w : World}
end
section
variable {w : World} {news : Led}
noncomputable def runP (tx : Str) (k : Int) : Bool := decide (0 < k) && Txt.isalpha (Txt.item tx (k - 1)) && !Txt.isalpha (Txt.slice tx (some k) (some (k + 1)))
theorem runP_t {tx : Str} {k : Int} (h1 : 0 < k) (h2 : Txt.isalpha (Txt.item tx (k - 1)) = true) (h3 : Txt.isalpha (Txt.slice tx (some k) (some (k + 1))) = false) : runP tx k = true := by unfold runP; rw [h2, h3, decide_eq_true h1]; rfl
theorem runP_1 {tx : Str} {k : Int} (h1 : ¬ 0 < k) : runP tx k = false := by unfold runP; rw [decide_eq_false h1]; rfl
theorem runP_2 {tx : Str} {k : Int} (h2 : Txt.isalpha (Txt.item tx (k - 1)) = false) : runP tx k = false := by unfold runP; rw [h2, Bool.and_false]; rfl
theorem runP_3 {tx : Str} {k : Int} (h3 : Txt.isalpha (Txt.slice tx (some k) (some (k + 1))) = true) : runP tx k = false := by unfold runP; rw [h3]; simp
theorem rangeKs_at {a : Int} {n i : Nat} (h : i < n) : (rangeKs a n)[i]? = some (a + (i : Int)) := by
  unfold rangeKs
  rw [List.getElem?_map, List.getElem?_range h]
  rfl
noncomputable def headP (tx : Str) (k : Int) : Bool := Txt.isalpha (Txt.item tx k) && (decide (k = 0) || !Txt.isalpha (Txt.item tx (k - 1)))
theorem headP_1 {tx : Str} {k : Int} (h1 : Txt.isalpha (Txt.item tx k) = true) (h2 : k = 0) : headP tx k = true := by unfold headP; rw [h1, decide_eq_true h2]; rfl
theorem headP_2 {tx : Str} {k : Int} (h1 : Txt.isalpha (Txt.item tx k) = true) (h2 : Txt.isalpha (Txt.item tx (k - 1)) = false) : headP tx k = true := by unfold headP; rw [h1, h2]; simp
theorem headP_3 {tx : Str} {k : Int} (h1 : Txt.isalpha (Txt.item tx k) = false) : headP tx k = false := by unfold headP; rw [h1]; rfl
theorem headP_4 {tx : Str} {k : Int} (h1 : ¬ k = 0) (h2 : Txt.isalpha (Txt.item tx (k - 1)) = true) : headP tx k = false := by unfold headP; rw [h2, decide_eq_false h1]; simp
noncomputable def runsS (tx : Str) : List Int := ((rangeKs 0 (((tx.length : Int) + 1 - 0).toNat)).filter (runP tx)).map fun k => k
noncomputable def headsS (tx : Str) : List Int := ((rangeKs 0 (((tx.length : Int) - 0).toNat)).filter (headP tx)).map fun k => k
noncomputable def laterS (tx : Str) (i : Int) : List Int := ((runsS tx).filter fun k => decide (i < k)).map fun k => k
noncomputable def earlierS (tx : Str) (i : Int) : List Int := ((headsS tx).filter fun k => decide (k < i)).map fun k => k
noncomputable def wmS (tx : Str) (i many : Int) : Int :=
  if 0 < many then (if many ≤ (laterS tx i).length then (laterS tx i).getD (many - 1).toNat 0 else tx.length)
  else (if 0 - many ≤ (earlierS tx i).length then (earlierS tx i).reverse.getD (0 - many - 1).toNat 0 else 0)
theorem wmS_1 {tx : Str} {i many : Int} (h : 0 < many) (h2 : many ≤ (laterS tx i).length) : wmS tx i many = (laterS tx i).getD (many - 1).toNat 0 := by unfold wmS; rw [if_pos h, if_pos h2]
theorem wmS_2 {tx : Str} {i many : Int} (h : 0 < many) (h2 : ¬ many ≤ (laterS tx i).length) : wmS tx i many = tx.length := by unfold wmS; rw [if_pos h, if_neg h2]
theorem wmS_3 {tx : Str} {i many : Int} (h : ¬ 0 < many) (h2 : 0 - many ≤ (earlierS tx i).length) : wmS tx i many = (earlierS tx i).reverse.getD (0 - many - 1).toNat 0 := by unfold wmS; rw [if_neg h, if_pos h2]
theorem wmS_4 {tx : Str} {i many : Int} (h : ¬ 0 < many) (h2 : ¬ 0 - many ≤ (earlierS tx i).length) : wmS tx i many = 0 := by unfold wmS; rw [if_neg h, if_neg h2]
theorem c_wm0 (tx : Str) (hT : tx.length < 1000) (i : Nat) (hi : i ≤ tx.length) (t0 t1 t2 : Tok) (many : Int) (hm : -2 ≤ many ∧ many ≤ 2 ∧ many ≠ 0) :
    Ctr w 424 8 [.str tx t0, .int i t1, .int many t2] news (fun r nw => (∃ t, r = .int (wmS tx i many) t) ∧ nw = news) := by
  revert hT hi hm
  revert w news tx i t0 t1 t2 many
  refine @pk8 _ _ _ _ _ _ _ _ _ (ne2 neW nei) ?_
  generalize wk8 _ _ = q
  generalize q.1 = w, q.2.1 = news, q.2.2.1 = tx, q.2.2.2.1 = i, q.2.2.2.2.1 = t0, q.2.2.2.2.2.1 = t1, q.2.2.2.2.2.2.1 = t2, q.2.2.2.2.2.2.2 = many
  clear q
  intro hT hi hm
  refine' ctr_ofCW ["_law_text", "_law_at", "_law_many"] ?ho ?hcd ?hb ?hl ?h1 ?h2 ?h3 ?h4 ?_
  (((case ho => k_is); (case hcd => k_is); (case hb => exact rfl); (case hl => exact rfl); (case h1 => exact rfl); (case h2 => exact rfl); (case h3 => exact rfl); (case h4 => decide)))
  generalize wp15 _ = c9
  generalize c9.p = p, c9.loose = loose, c9.mean = mean, c9.mg = mg, c9.mb = mb, c9.dp = dp, c9.un = un, c9.gd = gd, c9.outer = outer, c9.A₀ = A₀, c9.base = base, c9.g = g, c9.L = L, c9.s = s, c9.cells = cells
  clear c9
  intro B F X N Y hlt T hd hu
  refine genP fun C9 k9 => ?_
  refine ex_2_3 (CellsAre.two Y) ?_
  intro oc oc2 e9_2 hoc hoc2
  subst e9_2
  refine k9 ?_
  clear k9 C9
  simp only [List.cons_append, List.nil_append] at N
  (((try dsimp only); (try k_fold)))
  walk_at "steps"
  rename IsRange _ _ _ _ _ _ _ _ => hrg
  rename Fr _ _ _ _ => F0
  rename News _ _ _ _ => N0
  refine Stop.go (LCt.CompSrcT.range rfl F0 N0 hrg (small_one (by with_reducible_and_instances decide) (by with_reducible_and_instances decide) (by (clear hT hi hm hlt hd hu; lia)) (by (clear hi hm hlt hd hu; lia))) (rangeSize_nat _ _) (by rw [PySem.sizeLine_eq]; exact Nat.le_trans hT (by decide)) fun g' => ?_)
  refine test_rest (ks := rangeKs 0 (((tx.length : Int) + 1 - 0).toNat)) (runP tx) (fun k => k) (rangeKs_length _ _) (fun i v hi hv => ?_) (fun k t I oI C oC D m₂ ys h tk E' hk hC hx F N off ne => ?_) fun ys1 hy1 => ?_
  · obtain ⟨t, e⟩ := hv
    exact ⟨0 + (i : Int), t, rangeKs_at hi, e⟩
  · obtain ⟨k0, k1⟩ := mem_rangeKs hk
    rw [Int.zero_add] at k1
    replace k1 : k < (tx.length : Int) + 1 := k1
    walk_at "steps"
    all_goals refine Stop.go ?_
    all_goals refine LCg.CompEnd.intro (by assumption) (by assumption) _ (fun _ h => h) off trivial ?_
    all_goals first | exact ⟨rfl, runP_t (by assumption) (by assumption) (by assumption), _, rfl⟩ | exact ⟨rfl, runP_1 (by assumption)⟩ | exact ⟨rfl, runP_2 (by assumption)⟩ | exact ⟨rfl, runP_3 (by assumption)⟩
  · clear F0 N0
    intro D h tk F N o1
    have o2 := off1_mem o1
    walk_at "steps"
    rename IsRange _ _ _ _ _ _ _ _ => hrg
    rename Fr _ _ _ _ => F0
    rename News _ _ _ _ => N0
    refine Stop.go (LCt.CompSrcT.range rfl F0 N0 hrg (small_one (by omega) (by omega) (by (clear hT hi hm hlt hd hu o2; lia)) (by (clear hi hm hlt hd hu o2; lia))) (rangeSize_nat _ _) (by rw [PySem.sizeLine_eq]; exact Nat.le_trans (Nat.le_of_lt hT) (by decide)) fun g' => ?_)
    refine test_rest (ks := rangeKs 0 (((tx.length : Int) - 0).toNat)) (headP tx) (fun k => k) (rangeKs_length _ _) (fun i v hi hv => ?_) (fun k t I oI C oC D m₂ ys h tk E' hk hC hx F N off ne => ?_) fun ys2 hy2 => ?_
    · obtain ⟨t, e⟩ := hv
      exact ⟨0 + (i : Int), t, rangeKs_at hi, e⟩
    · obtain ⟨k0, k1⟩ := mem_rangeKs hk
      rw [Int.zero_add] at k1
      replace k1 : k < (tx.length : Int) := k1
      walk_at "steps"
      all_goals refine Stop.go ?_
      all_goals refine LCg.CompEnd.intro (by assumption) (by assumption) _ (fun _ h => h) off trivial ?_
      all_goals first | exact ⟨rfl, headP_1 (by assumption) (by assumption), _, rfl⟩ | exact ⟨rfl, headP_2 (by assumption) (by assumption), _, rfl⟩ | exact ⟨rfl, headP_3 (by assumption)⟩ | exact ⟨rfl, headP_4 (by assumption) (by assumption)⟩
    · clear F0 N0
      intro D2 h tk F N o3
      have o4 := off1_mem o3
      have z1 : (runsS tx).length < 2000 := by
        unfold runsS
        rw [List.length_map]
        exact Nat.lt_of_le_of_lt (List.length_filter_le _ _) (by rw [rangeKs_length]; exact Nat.lt_of_le_of_lt hT (by decide))
      have z2 : (headsS tx).length < 2000 := by
        unfold headsS
        rw [List.length_map]
        exact Nat.lt_of_le_of_lt (List.length_filter_le _ _) (by rw [rangeKs_length]; exact Nat.lt_trans hT (by decide))
      have hy1 : IntsAre ys1 (runsS tx) := hy1
      have hy2 : IntsAre ys2 (headsS tx) := hy2
      walk_at "steps"
      · rename Fr _ _ _ _ => F0
        rename News _ _ _ _ => N0
        refine Stop.go (LCt.CompSrcT.ledger rfl F0 N0 (.tail _ (.head _)) (by rw [List.size_toArray, hy1.length, PySem.sizeLine_eq]; exact Nat.le_trans (Nat.le_of_lt z1) (by decide)) fun g' => ?_)
        refine test_rest (ks := runsS tx) (fun k => decide ((i : Int) < k)) (fun k => k) (by rw [List.size_toArray, hy1.length]) (fun i v _ hv => ?_) (fun k t I oI C oC D m₂ ys h tk E' hk hC hx F N off ne => ?_) fun ys3 hy3 => ?_
        · refine ex_2_2 (IntsAre.at hy1 i v (by simpa using hv)) ?_
          intro c tc e hc
          exact ⟨c, tc, hc, e⟩
        · walk_at "steps"
          all_goals refine Stop.go ?_
          · exact LCg.CompEnd.intro (by assumption) (by assumption) _ (fun _ h => h) off (.inr ⟨_, .tail _ (.head _), rfl, _, rfl⟩) ⟨rfl, decide_eq_true (by assumption), _, rfl⟩
          · exact LCg.CompEnd.intro (by assumption) (by assumption) _ (fun _ h => h) off (.inr ⟨_, .tail _ (.head _), rfl, _, rfl⟩) ⟨rfl, decide_eq_false (by assumption)⟩
        · clear F0 N0
          intro D3 h tk F N o5
          have hy3 : IntsAre ys3 (laterS tx i) := hy3
          have z3 : (laterS tx i).length < 2000 := by
            unfold laterS
            rw [List.length_map]
            exact Nat.lt_of_le_of_lt (List.length_filter_le _ _) z1
          walk_at "steps"
          · exact ends (by assumption) (newsub (by assumption) (nw' := news) (by walk_at "c_keep")) ⟨⟨_, int_eq (wmS_1 (by assumption) (by assumption)).symm⟩, rfl⟩
          · exact ends (by assumption) (newsub (by assumption) (nw' := news) (by walk_at "c_keep")) ⟨⟨_, int_eq (wmS_2 (by assumption) (by assumption)).symm⟩, rfl⟩
      · rename Fr _ _ _ _ => F0
        rename News _ _ _ _ => N0
        refine Stop.go (LCt.CompSrcT.ledger rfl F0 N0 (.head _) (by rw [List.size_toArray, hy2.length, PySem.sizeLine_eq]; exact Nat.le_trans (Nat.le_of_lt z2) (by decide)) fun g' => ?_)
        refine test_rest (ks := headsS tx) (fun k => decide (k < (i : Int))) (fun k => k) (by rw [List.size_toArray, hy2.length]) (fun i v _ hv => ?_) (fun k t I oI C oC D m₂ ys h tk E' hk hC hx F N off ne => ?_) fun ys3 hy3 => ?_
        · refine ex_2_2 (IntsAre.at hy2 i v (by simpa using hv)) ?_
          intro c tc e hc
          exact ⟨c, tc, hc, e⟩
        · walk_at "steps"
          all_goals refine Stop.go ?_
          · exact LCg.CompEnd.intro (by assumption) (by assumption) _ (fun _ h => h) off (.inr ⟨_, .head _, rfl, _, rfl⟩) ⟨rfl, decide_eq_true (by assumption), _, rfl⟩
          · exact LCg.CompEnd.intro (by assumption) (by assumption) _ (fun _ h => h) off (.inr ⟨_, .head _, rfl, _, rfl⟩) ⟨rfl, decide_eq_false (by assumption)⟩
        · clear F0 N0
          intro D3 h tk F N o5
          have hy3 : IntsAre ys3 (earlierS tx i) := hy3
          have z3 : (earlierS tx i).length < 2000 := by
            unfold earlierS
            rw [List.length_map]
            exact Nat.lt_of_le_of_lt (List.length_filter_le _ _) z2
          walk_at "steps"
          · exact ends (by assumption) (newsub (by assumption) (nw' := news) (by walk_at "c_keep")) ⟨⟨_, int_eq (wmS_3 (by assumption) (by rw [← List.length_reverse]; assumption)).symm⟩, rfl⟩
          · exact ends (by assumption) (newsub (by assumption) (nw' := news) (by walk_at "c_keep")) ⟨⟨_, int_eq (wmS_4 (by assumption) (by rw [← List.length_reverse]; assumption)).symm⟩, rfl⟩
end
section
variable {w : World} {news : Led}
noncomputable def bcR (tx : Str) (i many : Int) : Res :=
  if i = 0 then .sym "beginning-of-buffer" else if (tx.length : Int) < i + many then .sym "end-of-buffer" else if i - 1 + (if 0 < many then 0 else many) < 0 then .sym "beginning-of-buffer"
  else .text (Txt.slice (Txt.slice tx none (some (i - 1)) ++ Txt.slice tx (some i) none) none (some (i - 1 + many)) ++ Txt.item tx (i - 1) ++ Txt.slice (Txt.slice tx none (some (i - 1)) ++ Txt.slice tx (some i) none) (some (i - 1 + many)) none) (i + many)
theorem bcR_1 {tx : Str} {i many : Int} (h : i = 0) : bcR tx i many = .sym "beginning-of-buffer" := by unfold bcR; rw [if_pos h]
theorem bcR_2 {tx : Str} {i many : Int} (h : ¬ i = 0) (h2 : (tx.length : Int) < i + many) : bcR tx i many = .sym "end-of-buffer" := by unfold bcR; rw [if_neg h, if_pos h2]
theorem bcR_3 {tx : Str} {i many : Int} (h : ¬ i = 0) (h2 : ¬ (tx.length : Int) < i + many) (h3 : i - 1 + (if 0 < many then 0 else many) < 0) : bcR tx i many = .sym "beginning-of-buffer" := by unfold bcR; rw [if_neg h, if_neg h2, if_pos h3]
theorem bcR_4 {tx : Str} {i many : Int} (h : ¬ i = 0) (h2 : ¬ (tx.length : Int) < i + many) (h3 : ¬ i - 1 + (if 0 < many then 0 else many) < 0) : bcR tx i many = .text (Txt.slice (Txt.slice tx none (some (i - 1)) ++ Txt.slice tx (some i) none) none (some (i - 1 + many)) ++ Txt.item tx (i - 1) ++ Txt.slice (Txt.slice tx none (some (i - 1)) ++ Txt.slice tx (some i) none) (some (i - 1 + many)) none) (i + many) := by
  unfold bcR; rw [if_neg h, if_neg h2, if_neg h3]
theorem bcR_4n {tx : Str} {i : Int} (h0 : 0 ≤ i) (h : ¬ i = 0) (h2 : ¬ (tx.length : Int) < i + 1) : bcR tx i 1 = .text (Txt.slice (Txt.slice tx none (some (i - 1)) ++ Txt.slice tx (some i) none) none (some (i - 1 + 1)) ++ Txt.item tx (i - 1) ++ Txt.slice (Txt.slice tx none (some (i - 1)) ++ Txt.slice tx (some i) none) (some (i - 1 + 1)) none) (i + 1) :=
  bcR_4 h h2 (by rw [if_pos (by decide)]; (clear h2; lia))
theorem c_lbc (tx : Str) (hT : tx.length < 100) (i : Int) (hi : 0 ≤ i ∧ i ≤ tx.length) (t0 t1 t2 : Tok) (many : Int) (hm : -2 ≤ many ∧ many ≤ 2 ∧ many ≠ 0) :
    Ctr w 419 8 [.str tx t0, .int i t1, .int many t2] news (fun r nw => ResL news nw r (bcR tx i many)) := by
  revert hT hi hm
  revert w news tx i t0 t1 t2 many
  refine @pk8 _ _ _ _ _ _ _ _ _ (ne2 neW nei) ?_
  generalize wk8 _ _ = q
  generalize q.1 = w, q.2.1 = news, q.2.2.1 = tx, q.2.2.2.1 = i, q.2.2.2.2.1 = t0, q.2.2.2.2.2.1 = t1, q.2.2.2.2.2.2.1 = t2, q.2.2.2.2.2.2.2 = many
  clear q
  intro hT hi hm
  refine' ctr_ofW ["_law_text", "_law_at", "_law_many"] ?ho ?hcd ?hb ?hl ?h1 ?h2 ?h3 ?h4 ?_
  (((case ho => k_is); (case hcd => k_is); (case hb => exact rfl); (case hl => exact locs rfl); (case h1 => exact rfl); (case h2 => exact rfl); (case h3 => exact rfl); (case h4 => decide)))
  generalize wp14 _ = c9
  generalize c9.p = p, c9.loose = loose, c9.mean = mean, c9.mg = mg, c9.mb = mb, c9.dp = dp, c9.un = un, c9.gd = gd, c9.outer = outer, c9.A₀ = A₀, c9.base = base, c9.g = g, c9.L = L, c9.s = s
  clear c9
  intro B F X N T hd hu
  (((try dsimp only); (try k_fold)))
  walk_at "steps"
  all_goals (first
    | exact ends (by assumption) (newsub (by assumption) (nw' := news) (by walk_at "c_keep")) (by rw [bcR_1 (by first | assumption | omega)]; exact ⟨⟨_, rfl⟩, rfl⟩)
    | exact ends (by assumption) (newsub (by assumption) (nw' := news) (by walk_at "c_keep")) (by rw [bcR_2 (by assumption) (by assumption)]; exact ⟨⟨_, rfl⟩, rfl⟩)
    | exact ends (by assumption) (newsub (by assumption) (nw' := news) (by walk_at "c_keep")) (by rw [bcR_3 (by assumption) (by assumption) (by assumption)]; exact ⟨⟨_, rfl⟩, rfl⟩)
    | (refine ends (by assumption) (newsub (by assumption) (nw' := (_, tupO [.str _ _, .int _ _]) :: news) (by walk_at "c_keep")) ?_; (first | rw [bcR_4n (by first | omega | (split <;> omega)) (by assumption) (by assumption)] | rw [bcR_4 (by assumption) (by assumption) (by assumption)]); exact ⟨_, _, _, rfl, rfl⟩))
noncomputable def atN (tx : Str) (i : Int) : Int := if 0 < i then i - (if ((["", "\n"] : List Str).any fun x => x == Txt.slice tx (some i) (some (i + 1))) = true then 1 else 0) else i - if decide (0 < i) = true then 1 else 0
theorem c_lbn1 (tx : Str) (hT : tx.length < 100) (i : Int) (hi : 0 ≤ i ∧ i ≤ tx.length) (t0 t1 t2 : Tok) (hp : 0 < i) :
    Ctr w 419 8 [.str tx t0, .int i t1, .none] news (fun r nw => ResL news nw r (bcR tx (i - (if ((["", "\n"] : List Str).any fun x => x == Txt.slice tx (some i) (some (i + 1))) = true then 1 else 0)) 1)) := by
  revert hT hi hp
  revert w news tx i t0 t1 t2
  refine @pk7 _ _ _ _ _ _ _ _ (ne2 neW nei) ?_
  generalize wk7 _ _ = q
  generalize q.1 = w, q.2.1 = news, q.2.2.1 = tx, q.2.2.2.1 = i, q.2.2.2.2.1 = t0, q.2.2.2.2.2.1 = t1, q.2.2.2.2.2.2 = t2
  clear q
  intro hT hi hp
  refine' ctr_ofW ["_law_text", "_law_at", "_law_many"] ?ho ?hcd ?hb ?hl ?h1 ?h2 ?h3 ?h4 ?_
  (((case ho => k_is); (case hcd => k_is); (case hb => exact rfl); (case hl => exact locs rfl); (case h1 => exact rfl); (case h2 => exact rfl); (case h3 => exact rfl); (case h4 => decide)))
  generalize wp14 _ = c9
  generalize c9.p = p, c9.loose = loose, c9.mean = mean, c9.mg = mg, c9.mb = mb, c9.dp = dp, c9.un = un, c9.gd = gd, c9.outer = outer, c9.A₀ = A₀, c9.base = base, c9.g = g, c9.L = L, c9.s = s
  clear c9
  intro B F X N T hd hu
  (((try dsimp only); (try k_fold)))
  walk_at "steps"
  all_goals (first
    | exact ends (by assumption) (newsub (by assumption) (nw' := news) (by walk_at "c_keep")) (by rw [bcR_1 (by first | assumption | omega)]; exact ⟨⟨_, rfl⟩, rfl⟩)
    | exact ends (by assumption) (newsub (by assumption) (nw' := news) (by walk_at "c_keep")) (by rw [bcR_2 (by assumption) (by assumption)]; exact ⟨⟨_, rfl⟩, rfl⟩)
    | exact ends (by assumption) (newsub (by assumption) (nw' := news) (by walk_at "c_keep")) (by rw [bcR_3 (by assumption) (by assumption) (by assumption)]; exact ⟨⟨_, rfl⟩, rfl⟩)
    | (refine ends (by assumption) (newsub (by assumption) (nw' := (_, tupO [.str _ _, .int _ _]) :: news) (by walk_at "c_keep")) ?_; (first | rw [bcR_4n (by first | omega | (split <;> omega)) (by assumption) (by assumption)] | rw [bcR_4 (by assumption) (by assumption) (by assumption)]); exact ⟨_, _, _, rfl, rfl⟩))
theorem c_lbn2 (tx : Str) (hT : tx.length < 100) (i : Int) (hi : 0 ≤ i ∧ i ≤ tx.length) (t0 t1 t2 : Tok) (hp : ¬ 0 < i) :
    Ctr w 419 8 [.str tx t0, .int i t1, .none] news (fun r nw => ResL news nw r (bcR tx (i - if decide (0 < i) = true then 1 else 0) 1)) := by
  revert hT hi hp
  revert w news tx i t0 t1 t2
  refine @pk7 _ _ _ _ _ _ _ _ (ne2 neW nei) ?_
  generalize wk7 _ _ = q
  generalize q.1 = w, q.2.1 = news, q.2.2.1 = tx, q.2.2.2.1 = i, q.2.2.2.2.1 = t0, q.2.2.2.2.2.1 = t1, q.2.2.2.2.2.2 = t2
  clear q
  intro hT hi hp
  have h5 : (i - if decide (0 < i) = true then 1 else 0) = 0 := by rw [decide_eq_false hp, if_neg (by decide)]; (clear hT; lia)
  refine' ctr_ofW ["_law_text", "_law_at", "_law_many"] ?ho ?hcd ?hb ?hl ?h1 ?h2 ?h3 ?h4 ?_
  (((case ho => k_is); (case hcd => k_is); (case hb => exact rfl); (case hl => exact locs rfl); (case h1 => exact rfl); (case h2 => exact rfl); (case h3 => exact rfl); (case h4 => decide)))
  generalize wp14 _ = c9
  generalize c9.p = p, c9.loose = loose, c9.mean = mean, c9.mg = mg, c9.mb = mb, c9.dp = dp, c9.un = un, c9.gd = gd, c9.outer = outer, c9.A₀ = A₀, c9.base = base, c9.g = g, c9.L = L, c9.s = s
  clear c9
  intro B F X N T hd hu
  (((try dsimp only); (try k_fold)))
  walk_at "steps"
  all_goals first | exact absurd h5 (by assumption) | (first
    | exact ends (by assumption) (newsub (by assumption) (nw' := news) (by walk_at "c_keep")) (by rw [bcR_1 (by first | assumption | omega)]; exact ⟨⟨_, rfl⟩, rfl⟩)
    | exact ends (by assumption) (newsub (by assumption) (nw' := news) (by walk_at "c_keep")) (by rw [bcR_2 (by assumption) (by assumption)]; exact ⟨⟨_, rfl⟩, rfl⟩)
    | exact ends (by assumption) (newsub (by assumption) (nw' := news) (by walk_at "c_keep")) (by rw [bcR_3 (by assumption) (by assumption) (by assumption)]; exact ⟨⟨_, rfl⟩, rfl⟩)
    | (refine ends (by assumption) (newsub (by assumption) (nw' := (_, tupO [.str _ _, .int _ _]) :: news) (by walk_at "c_keep")) ?_; (first | rw [bcR_4n (by first | omega | (split <;> omega)) (by assumption) (by assumption)] | rw [bcR_4 (by assumption) (by assumption) (by assumption)]); exact ⟨_, _, _, rfl, rfl⟩))
theorem c_lbn (tx : Str) (hT : tx.length < 100) (i : Int) (hi : 0 ≤ i ∧ i ≤ tx.length) (t0 t1 t2 : Tok) :
    Ctr w 419 8 [.str tx t0, .int i t1, .none] news (fun r nw => ResL news nw r (bcR tx (atN tx i) 1)) := by
  unfold atN
  by_cases hp : 0 < i
  · rw [if_pos hp]
    exact c_lbn1 tx hT i hi t0 t1 t2 hp
  · rw [if_neg hp]
    exact c_lbn2 tx hT i hi t0 t1 t2 hp
end
section
variable {w : World}
structure ExTab (P : Addr) (q : Str) (ps : Array Value) (rest : Led) : Prop where
  trip : TriplesOk ps.toList
  at_ : ∀ pos cv, codeAmong pos ps.toList = some cv → ∃ c' oc vs t, cv = .ref c' ∧ (c', oc) ∈ rest ∧ oc.data = .fields vs ∧ vs[1]? = some (.str q t)
theorem ExTab.nil (P : Addr) (q : Str) (rest : Led) : ExTab P q #[] rest := ⟨trivial, fun _ _ h => nomatch h⟩
theorem ExTab.mono {P : Addr} {q : Str} {ps : Array Value} {rest rest' : Led} (h : ExTab P q ps rest) (hs : ∀ p ∈ rest, p ∈ rest') : ExTab P q ps rest' :=
  ⟨h.trip, fun pos cv e => by obtain ⟨c', oc, vs, t, a, b, c⟩ := h.at_ pos cv e; exact ⟨c', oc, vs, t, a, hs _ b, c⟩⟩
theorem among_app {pos : Pos} {cv : Value} {l c : Int} {x : Value} : ∀ (ps : List Value), TriplesOk ps → codeAmong pos (ps ++ [rawInt l, rawInt c, x]) = some cv → codeAmong pos ps = some cv ∨ cv = x
  | [], _, h => by
    right
    simp [codeAmong, rawInt] at h
    exact h.2.symm
  | .int a _ :: .int b _ :: y :: r, ht, h => by
    rw [List.cons_append, List.cons_append, List.cons_append] at h
    unfold codeAmong at h ⊢
    split at h
    · left
      rename_i hc
      rw [if_pos hc]
      exact h
    · rename_i hc
      rw [if_neg hc]
      exact among_app r ht h
theorem trip_app {l c : Int} {x : Value} : ∀ (ps : List Value), TriplesOk ps → TriplesOk (ps ++ [rawInt l, rawInt c, x])
  | [], _ => trivial
  | .int a _ :: .int b _ :: y :: r, ht => trip_app r ht
section
variable {M : Model} {A : Around} {E : Value → Shared → Prop} {s : Shared} {h₀ : Heap} {L a c P : Addr} {m mg mb : Str → Option Value} {cn : Str} {cs : Scope} {ccd : Value} {cl : List (Str × Addr)} {others rest : Led}
  {p : Program} {loose : List Str} {mean : ExcName → Option Value} {qual : Str} {params : Arguments} {body : Expr} {scope : Scope} {ps : Array Value} {pos : Pos} {clos : List (Str × Addr)}
theorem kla_any {Q : Value → Shared → Prop} (F : Fr h₀ L s.heap m) (N : News h₀ L s.heap ((P, tabObj ps) :: others)) (T : Top p loose mean mg mb h₀) (C : CodeHd h₀ c P) (hcd : ccd = .ref c) (hP : ∀ q ∈ others, q.1 ≠ P) (ht : ExTab P (cn ++ ".<locals>." ++ "<lambda>") ps rest) (hr : ∀ q ∈ rest, q ∈ others)
    (hdef : defaultsOf params (envX cn cs L a ccd cl) = ([], []))
    (hcl : closureFor scope (envX cn cs L a ccd cl) = pure clos)
    (h : ∀ f c' ctv oc vs t ps' own h' tk, Fr h₀ L h' m →
      News h₀ L h' ((f, kla_obj "<lambda>" (cn ++ ".<locals>." ++ "<lambda>") params body scope clos ((mg "__name__").getD .none) c' ctv) :: (c', oc) :: (P, tabObj ps') :: others) →
      oc.data = .fields vs → vs[1]? = some (.str (cn ++ ".<locals>." ++ "<lambda>") t) → ExTab P (cn ++ ".<locals>." ++ "<lambda>") ps' (own ++ rest) → (own = [] ∧ (c', oc) ∈ rest ∨ own = [(c', oc)] ∧ (∀ q ∈ others, q.1 ≠ c') ∧ P ≠ c') → (∀ q ∈ others, q.1 < f) → P < f → Q (.ref f) { s with heap := h', toks := tk }) :
    wpAny M A (eval (.Lambda params body scope pos) (envX cn cs L a ccd cl)) Q E s := by
  refine kla_eval hdef ?_
  show wpAny M A (makeFunction "<lambda>" (cn ++ ".<locals>." ++ "<lambda>") params (.expr body) scope (envX cn cs L a ccd cl) [] [] [] pos pos.line) Q E s
  cases hf : codeAmong pos ps.toList with
  | none =>
    refine kla_nest F N T C hcd (UpdF.head hP) ht.trip hf hcl ?_
    intro f c' oc vs t ctv h' tk F' N' e1 e2 l1 l2
    refine h f c' ctv oc vs t _ [(c', oc)] h' tk F' N' e1 e2 ⟨?_, ?_⟩ (.inr ⟨rfl, fun q hq => Nat.ne_of_lt (l1 q (.tail _ hq)), Nat.ne_of_lt (l1 _ (.head _))⟩) (fun q hq => Nat.lt_trans (l1 q (.tail _ hq)) l2) (Nat.lt_trans (l1 _ (.head _)) l2)
    · rw [Array.toList_append]
      exact trip_app _ ht.trip
    · intro pos' cv hc
      rw [Array.toList_append] at hc
      rcases among_app _ ht.trip hc with hc | hc
      · refine ex_4_3 (ht.at_ _ _ hc) ?_
        intro c₁ oc₁ vs₁ t₁ a1 a2 a3
        exact ⟨c₁, oc₁, vs₁, t₁, a1, .tail _ a2, a3⟩
      · exact ⟨c', oc, vs, t, hc, .head _, e1, e2⟩
  | some cv =>
    refine genP fun C9 k9 => ?_
    refine ex_4_4 (ht.at_ _ _ hf) ?_
    intro c' oc vs t e9_4 hm e1 e2
    subst e9_4
    refine k9 ?_
    clear k9 C9
    refine kla_hit F N T C hcd (.head _) ht.trip hf hcl ?_
    intro f ctv h' tk F' N' l1
    refine h f c' ctv oc vs t ps [] h' tk F' (newsub N' fun q hq => ?_) e1 e2 ht (.inl ⟨rfl, hm⟩) (fun q hq => l1 q (.tail _ hq)) (l1 _ (.head _))
    rcases List.mem_cons.mp hq with rfl | hq
    · exact .head _
    · rcases List.mem_cons.mp hq with rfl | hq
      · exact .tail _ (.tail _ (hr _ hm))
      · exact .tail _ hq
end
end
section
variable {w : World}
noncomputable def exS (T : Str) (a0 a1 b0 b1 : Int) : Option Str :=
  if a0 ≤ b0 then (if b0 < a1 then none else some (Txt.slice T none (some a0) ++ Txt.slice T (some b0) (some b1) ++ Txt.slice T (some a1) (some b0) ++ Txt.slice T (some a0) (some a1) ++ Txt.slice T (some b1) none))
  else (if a0 < b1 then none else some (Txt.slice T none (some b0) ++ Txt.slice T (some a0) (some a1) ++ Txt.slice T (some b1) (some a0) ++ Txt.slice T (some b0) (some b1) ++ Txt.slice T (some a1) none))
noncomputable def ExOut (o : Option Str) (r : Value) : Prop := match o with | none => r = .none | some x => ∃ t, r = .str x t
noncomputable abbrev qEx : Str := "_law_exchanged" ++ ".<locals>." ++ "<lambda>"
theorem exS_1 {T : Str} {a0 a1 b0 b1 : Int} (h : a0 ≤ b0) (h2 : b0 < a1) : exS T a0 a1 b0 b1 = none := by unfold exS; rw [if_pos h, if_pos h2]
theorem exS_2 {T : Str} {a0 a1 b0 b1 : Int} (h : a0 ≤ b0) (h2 : ¬ b0 < a1) : exS T a0 a1 b0 b1 = some (Txt.slice T none (some a0) ++ Txt.slice T (some b0) (some b1) ++ Txt.slice T (some a1) (some b0) ++ Txt.slice T (some a0) (some a1) ++ Txt.slice T (some b1) none) := by unfold exS; rw [if_pos h, if_neg h2]
theorem exS_swap {T : Str} {a0 a1 b0 b1 : Int} (ha : a0 < a1) (hb : b0 < b1) (h : b0 ≤ a0) : exS T a0 a1 b0 b1 = exS T b0 b1 a0 a1 := by
  unfold exS
  rw [if_pos h]
  by_cases q : a0 ≤ b0
  · rw [if_pos q, if_pos (by with_reducible_and_instances exact Int.lt_of_le_of_lt h ha), if_pos (by with_reducible_and_instances exact Int.lt_of_le_of_lt q hb)]
  · rw [if_neg q]
section
variable {prog : Program} {w : World} {A : Around} {E : Value → Shared → Prop} {s : Shared} {h₀ : Heap} {L l : Addr} {m : Str → Option Value} {news : Led} {Q : Value → Shared → Prop} {f : Value} {kw : List (Str × Value)} {T : Str} {one other : Addr} {a0 a1 b0 b1 : Int} {t0 t1 u0 u1 : Tok} {N9 : Int}
theorem sort2 (F : Fr h₀ L s.heap m) (N : News h₀ L s.heap news) (hl : s.heap.IsList l (List.toArray [.ref one, .ref other])) (h1 : (one, tupO [.int a0 t0, .int a1 t1]) ∈ news) (h2 : (other, tupO [.int b0 u0, .int b1 u1]) ∈ news) (l1 : 0 ≤ a0 ∧ a0 < a1 ∧ a1 ≤ N9) (l2 : 0 ≤ b0 ∧ b0 < b1 ∧ b1 ≤ N9)
    (ha1 : argsOk "sorted" ⟨[.ref l], kw⟩) (ha2 : ∀ x, argsOk "list.sort" ⟨[.ref x], kw⟩) (ht : ∀ x, Builtin.«list.sort» ⟨[.ref x], kw⟩ = ksk_tree x f false)
    (turn : ∀ (p : Addr) (x0 x1 : Int) (t0 t1 : Tok) (h : Heap) (tk : Nat) (own : Led), (p, tupO [.int x0 t0, .int x1 t1]) ∈ news ++ own → Fr h₀ L h m → News h₀ L h (news ++ own) →
      wpAny (model prog w) A.in1.in1 (call f [.ref p]) (KskEnd h₀ L m (news ++ own) x0 { s with heap := h, toks := tk }) (fun _ _ => False) { s with heap := h, toks := tk })
    (d : ∀ p q x0 x1 y0 y1 tx0 tx1 ty0 ty1 D c h' tk, x0 ≤ y0 → (0 ≤ x0 ∧ x0 < x1 ∧ x1 ≤ N9) → (0 ≤ y0 ∧ y0 < y1 ∧ y1 ≤ N9) → exS T a0 a1 b0 b1 = exS T x0 x1 y0 y1 → (p, tupO [.int x0 tx0, .int x1 tx1]) ∈ news → (q, tupO [.int y0 ty0, .int y1 ty1]) ∈ news → Fr h₀ L h' m → News h₀ L h' ((D, listOf (List.toArray [.ref p, .ref q]) c) :: news) → Q (.ref D) { s with heap := h', toks := tk }) :
    wpAny (model prog w) A (call (.builtin "sorted") [.ref l] kw) Q E s := by
  refine ksk_two (b := false) a0 b0 F N hl ha1 ha2 ht (fun h tk own F N => turn one a0 a1 t0 t1 h tk own (List.mem_append_left _ h1) F N) (fun h tk own F N => turn other b0 b1 u0 u1 h tk own (List.mem_append_left _ h2) F N) (fun r D c h' tk F' N' _ => ?_) fun r D c h' tk F' N' _ => ?_
  · simp only [Bool.false_eq_true, if_false] at r
    exact d one other _ _ _ _ _ _ _ _ D c h' tk r l1 l2 rfl h1 h2 F' N'
  · simp only [Bool.false_eq_true, if_false] at r
    exact d other one _ _ _ _ _ _ _ _ D c h' tk r l2 l1 (exS_swap l1.2.1 l2.2.1 r) h2 h1 F' N'
end
theorem c_ex {one other : Addr} {a0 a1 b0 b1 : Int} {t0 t1 u0 u1 : Tok} {others rest : Led} {ps : Array Value} (hP : ∀ q ∈ others, q.1 ≠ 426) (ht : ExTab 426 qEx ps rest) (hr : ∀ q ∈ rest, q ∈ others) (tx : Str) (hT : tx.length < 100) (tt : Tok) (h1 : (one, tupO [.int a0 t0, .int a1 t1]) ∈ others) (h2 : (other, tupO [.int b0 u0, .int b1 u1]) ∈ others)
    (l1 : 0 ≤ a0 ∧ a0 < a1 ∧ a1 ≤ tx.length) (l2 : 0 ≤ b0 ∧ b0 < b1 ∧ b1 ≤ tx.length) :
    Ctr w 431 6 [.str tx tt, .ref one, .ref other] ((426, tabObj ps) :: others) (fun r nw => ∃ ps' own, ExTab 426 qEx ps' (own ++ rest) ∧ nw = (426, tabObj ps') :: own ++ others ∧ (∀ p ∈ own, p.1 ≠ 426 ∧ ∀ q ∈ others, q.1 ≠ p.1) ∧ ExOut (exS tx a0 a1 b0 b1) r) := by
  revert hP ht hr hT h1 h2 l1 l2
  revert w one other a0 a1 b0 b1 t0 t1 u0 u1 others rest ps tx tt
  refine @pk16 _ _ _ _ _ _ _ _ _ _ _ _ _ _ _ _ _ (ne2 (ne2 neW nei) nei) ?_
  generalize wk16 _ _ = q
  generalize q.1 = q0, q.2 = q1
  generalize q0.1 = w, q0.2.1 = one, q0.2.2.1 = other, q0.2.2.2.1 = a0, q0.2.2.2.2.1 = a1, q0.2.2.2.2.2.1 = b0, q0.2.2.2.2.2.2.1 = b1, q0.2.2.2.2.2.2.2 = t0
  generalize q1.1 = t1, q1.2.1 = u0, q1.2.2.1 = u1, q1.2.2.2.1 = others, q1.2.2.2.2.1 = rest, q1.2.2.2.2.2.1 = ps, q1.2.2.2.2.2.2.1 = tx, q1.2.2.2.2.2.2.2 = tt
  clear q q0 q1
  intro hP ht hr hT h1 h2 l1 l2
  refine' ctr_ofW ["_law_text", "_law_left", "_law_right"] ?ho ?hcd ?hb ?hl ?h1 ?h2 ?h3 ?h4 ?_
  (((case ho => k_is); (case hcd => k_is); (case hb => exact rfl); (case hl => exact locs rfl); (case h1 => exact rfl); (case h2 => exact rfl); (case h3 => exact rfl); (case h4 => decide)))
  generalize wp14 _ = c9
  generalize c9.p = p, c9.loose = loose, c9.mean = mean, c9.mg = mg, c9.mb = mb, c9.dp = dp, c9.un = un, c9.gd = gd, c9.outer = outer, c9.A₀ = A₀, c9.base = base, c9.g = g, c9.L = L, c9.s = s
  clear c9
  intro B F X N T hd hu
  (((try dsimp only); (try k_fold)))
  walk_at "steps"
  have C9 : CodeHd g 430 426 := codeHd_of_K X (by kernel_rfl)
  refine Stop.go ?_
  rename Fr _ _ _ _ => F0
  rename News _ _ _ _ => N0
  rename _ ∧ AllLt _ others => lo
  obtain ⟨lo1, lo2⟩ := lo
  refine kla_any (others := (_, listOf #[Value.ref one, Value.ref other] 0) :: others) F0 (newsub N0 (by walk_at "c_keep")) T C9 rfl (fun q hq => ?_) ht (fun q hq => .tail _ (hr q hq)) rfl rfl ?_
  · rcases List.mem_cons.mp hq with rfl | hq
    · exact Ne.symm (Nat.ne_of_lt lo1)
    · exact hP q hq
  intro f c' ctv oc vs t ps' own hh2 tk F1 N1 e1 e2 ht' hown lf1 lf2
  clear F0 N0
  repeat' (first | with_reducible ((show wpAny _ _ (call (Value.builtin "sorted") _ _) _ _ _); (k_here; k_dflt (refine stop_of ?_))) | walk_at "stp")
  rename Fr _ _ _ _ => F2
  rename News _ _ _ _ => N2
  refine Stop.go ?_
  refine sort2 (T := tx) (N9 := tx.length) F2 N2 (News.isList N2 (.tail _ (.tail _ (.tail _ (.head _))))) (.tail _ (.tail _ (.tail _ (.tail _ h1)))) (.tail _ (.tail _ (.tail _ (.tail _ h2)))) l1 l2 (ksk_s1 _ _) (fun _ => ksk_l1 _ _) (fun _ => ksk_t1 _ _) ?_ ?_
  · intro p x0 x1 t0 t1 h' tk' own' hm F' N'
    simp only [List.cons_append] at N' hm
    clear F2 N2
    repeat' (first | with_reducible ((k_here; (with_reducible show wpAny _ _ (subscriptTail _ _ (Value.ref _) (Value.int _ _)) _ _ _); k_dflt (refine item_tupleT (News.isTup (by k_asm) (by k_dflt k_mem)) (by decide) (by decide) (by rfl) (by rfl) ?_))) | walk_at "stp")
  · intro p q x0 x1 y0 y1 tx0 tx1 ty0 ty1 D' cx' h' tk' r1 k1 k2 heq m1 m2 F' N'
    clear F2 N2 h1 h2 l1 l2 ht hr hP
    have hsub : ∀ p ∈ (426, tabObj ps') :: own ++ others, p = (c', oc) ∨ p = (426, tabObj ps') ∨ p ∈ others := by
      intro p hp
      rcases List.mem_cons.mp hp with rfl | hp
      · exact .inr (.inl rfl)
      · rcases List.mem_append.mp hp with hp | hp
        · rcases hown with ⟨rfl, _⟩ | ⟨rfl, _⟩
          · cases hp
          · exact .inl (List.mem_singleton.mp hp)
        · exact .inr (.inr hp)
    have hoff : ∀ p ∈ own, p.1 ≠ 426 ∧ ∀ q ∈ others, q.1 ≠ p.1 := by
      intro p hp
      rcases hown with ⟨rfl, _⟩ | ⟨rfl, z1, z2⟩
      · cases hp
      · rw [List.mem_singleton.mp hp]
        exact ⟨Ne.symm z2, fun q hq => z1 q (.tail _ hq)⟩
    clear hown lf1 lf2
    repeat' (first | with_reducible ((k_here; (with_reducible show wpAny _ _ (subscriptTail _ _ (Value.ref _) (Value.int _ _)) _ _ _); k_dflt (refine item_tupleT (News.isTup (by k_asm) (by k_dflt k_mem)) (by decide) (by decide) (by rfl) (by rfl) ?_))) | walk_at "stp")
    · refine ends (by assumption) (newsub (by assumption) (nw' := (426, tabObj ps') :: own ++ others) fun p hp => ?_) ⟨ps', own, ht', rfl, hoff, by rw [heq, exS_1 r1 (by assumption)]; exact rfl⟩
      rcases hsub p hp with rfl | rfl | hp
      · walk_at "c_mem"
      · walk_at "c_mem"
      · repeat (first | exact hp | refine List.mem_cons_of_mem _ ?_)
    · refine ends (by assumption) (newsub (by assumption) (nw' := (426, tabObj ps') :: own ++ others) fun p hp => ?_) ⟨ps', own, ht', rfl, hoff, by rw [heq, exS_2 r1 (by assumption)]; exact ⟨_, rfl⟩⟩
      rcases hsub p hp with rfl | rfl | hp
      · walk_at "c_mem"
      · walk_at "c_mem"
      · repeat (first | exact hp | refine List.mem_cons_of_mem _ ?_)
end
section
noncomputable def cut {α : Type} (xs : List α) (lo hi : Option Int) : List α := (xs.drop (lo.getD 0).toNat).take ((hi.getD xs.length).toNat - (lo.getD 0).toNat)
theorem pick_cut {vs : List Value} {lo hi : Option Int} (h0 : ∀ z, lo = some z → 0 ≤ z) (h1 : ∀ z, hi = some z → 0 ≤ z) : slicePick vs.toArray lo hi none = (cut vs lo hi).toArray := by
  rw [slicePick_plain]
  congr 1
  have hs : vs.toArray.size = vs.length := List.size_toArray ..
  rw [hs]
  show (vs.drop _).take _ = _
  have e0 : lo.elim 0 (clipAt vs.length) = min (lo.getD 0).toNat vs.length := by
    cases lo with
    | none => simp
    | some z =>
      obtain ⟨k, rfl⟩ := Int.eq_ofNat_of_zero_le (h0 z rfl)
      exact clipAt_nat _ _
  have e1 : hi.elim vs.length (clipAt vs.length) = min (hi.getD vs.length).toNat vs.length := by
    cases hi with
    | none => simp
    | some z =>
      obtain ⟨k, rfl⟩ := Int.eq_ofNat_of_zero_le (h1 z rfl)
      exact clipAt_nat _ _
  rw [e0, e1, clip_eq]
  rfl
theorem cut_len {α : Type} (xs : List α) (lo hi : Option Int) : (cut xs lo hi).length ≤ xs.length := by
  unfold cut
  rw [List.length_take, List.length_drop]
  exact Nat.le_trans (Nat.min_le_right _ _) (Nat.sub_le _ _)
theorem strs_cut {vs : List Value} {xs : List Str} (h : StrsAre vs xs) (lo hi : Option Int) : StrsAre (Mine.cut vs lo hi) (Mine.cut xs lo hi) := by
  unfold Mine.cut
  rw [h.len_eq]
  exact StrsAre.take' (StrsAre.drop' h _) _
inductive All2 {α β : Type} (R : α → β → Prop) : List α → List β → Prop
  | nil : All2 R [] []
  | cons {a b l l'} : R a b → All2 R l l' → All2 R (a :: l) (b :: l')
theorem forall₂_snoc {α β : Type} {R : α → β → Prop} {l : List α} {l' : List β} {a : α} {b : β} (h : All2 R l l') (h' : R a b) : All2 R (l ++ [a]) (l' ++ [b]) := by
  induction h with
  | nil => exact .cons h' .nil
  | cons x _ ih => exact .cons x ih
theorem str_len_app (x y : Str) : (x ++ y).length = x.length + y.length := by
  show (Str.append x y).cps.size = _
  unfold Str.append
  exact Array.size_append
theorem join_len (sep : Str) : ∀ ts : List Str, (Str.join sep ts).length ≤ (ts.map (·.length)).sum + ts.length * sep.length
  | [] => Nat.zero_le _
  | [x] => by simp [Str.join]
  | x :: y :: r => by
    have ih := join_len sep (y :: r)
    show (x ++ sep ++ Str.join sep (y :: r)).length ≤ _
    rw [str_len_app, str_len_app, List.map_cons, List.sum_cons, List.length_cons, Nat.add_mul]
    lia
structure Few (xs : List Str) (a b : Nat) : Prop where
  len : xs.length ≤ a
  each : ∀ x ∈ xs, x.length ≤ b
theorem Few.cut {xs : List Str} {a b : Nat} (h : Few xs a b) (lo hi : Option Int) : Few (Mine.cut xs lo hi) a b :=
  ⟨Nat.le_trans (cut_len _ _ _) h.len, fun x hx => h.each x (List.mem_of_mem_drop (List.mem_of_mem_take hx))⟩
theorem Few.append {xs ys : List Str} {a b c : Nat} (h : Few xs a b) (h' : Few ys c b) : Few (xs ++ ys) (a + c) b :=
  ⟨by rw [List.length_append]; have := h.len; have := h'.len; lia, fun x hx => (List.mem_append.mp hx).elim (h.each x) (h'.each x)⟩
theorem Few.map {xs : List Str} {a b : Nat} (h : Few xs a b) (g : Str → Str) (c : Nat) (hg : ∀ x, (g x).length ≤ x.length + c) : Few (xs.map g) a (b + c) :=
  ⟨by rw [List.length_map]; exact h.len, fun x hx => by obtain ⟨y, hy, rfl⟩ := List.mem_map.mp hx; have := h.each y hy; have := hg y; (clear hg; lia)⟩
theorem Few.sum {xs : List Str} {b : Nat} (h : ∀ x ∈ xs, x.length ≤ b) : (xs.map (·.length)).sum ≤ xs.length * b := by
  induction xs with
  | nil => exact Nat.zero_le _
  | cons x r ih =>
    have h1 := h x (.head _)
    have h2 := ih fun y hy => h y (.tail _ hy)
    rw [List.map_cons, List.sum_cons, List.length_cons, Nat.add_mul]
    (clear ih h; lia)
section
variable {prog : Program} {w : World} {A : Around} {E : Value → Shared → Prop} {s : Shared} {h₀ : Heap} {L : Addr} {m : Str → Option Value} {news : Led} {x y : Str} {t u : Tok} {Q : Value → Shared → Prop} {xs ys : List Str} {vs ws : List Value} {l l2 : Addr} {n n2 : Nat} {a b : Nat}
theorem splitX (hs : Txt.split x y = xs) (F : Fr h₀ L s.heap m) (N : News h₀ L s.heap news) (hy : (y.length == 0) = false) (hsz : x.length < 1000)
    (h : ∀ D vs h' k, StrsAre vs xs → Fr h₀ L h' m → News h₀ L h' ((D, listOf (List.toArray vs) 0) :: news) → (∀ p ∈ news, p.1 < D) → Q (.ref D) { s with heap := h', toks := k }) :
    wpAny (model prog w) A (call (.builtin "str.split") [.str x t, .str y u]) Q E s := by
  refine KSpl.split1 F N hy (fun D l h' k e hi F' N' l1 => ?_) (by rw [PySem.sizeLine_eq]; (clear h; lia))
  rw [e, hs] at hi
  exact h D _ h' k hi F' N' l1
theorem sliceX {value slice : Expr} {vl vu : Value} {lo hi : Option Int} (F : Fr h₀ L s.heap m) (N : News h₀ L s.heap news) (hm : (l, listOf (List.toArray vs) n) ∈ news) (hi' : StrsAre vs xs) (hf : Few xs a b) (ha : a ≤ 1000) (pl : IsPart vl lo) (pu : IsPart vu hi)
    (h0 : ∀ z, lo = some z → 0 ≤ z) (h1 : ∀ z, hi = some z → 0 ≤ z)
    (h : ∀ D vs' h', StrsAre vs' (cut xs lo hi) → Few (cut xs lo hi) a b → Fr h₀ L h' m → News h₀ L h' ((D, listOf (List.toArray vs') 0) :: news) → (∀ p ∈ news, p.1 < D) → Q (.ref D) { s with heap := h' })
    (hs : subscripted slice false (.ref l) (.ref s.heap.objs.size) = operate [.ref s.heap.objs.size, .ref l] (getItem (.ref l) (.ref s.heap.objs.size)) := by with_unfolding_all rfl)
    (ht : ∀ r, letTemporaryGo value (.ref l) r = pure () := by intro _; with_unfolding_all rfl) :
    wpAny (model prog w) A (subscriptTail value slice (.ref l) (.ref s.heap.objs.size)) Q E { s with heap := s.heap.push { cls := .type "slice", data := .fields #[vl, vu, .none] } } := by
  have hlen := hf.len
  have hl := hi'.len_eq
  refine slice_list F N (News.isList N hm) pl pu (fun h' F' N' => ?_) hs ht (by rw [List.size_toArray, PySem.sizeLine_eq]; (clear h0 h1 h ht; lia))
  rw [pick_cut h0 h1] at N'
  exact h _ _ h' (strs_cut hi' lo hi) (hf.cut lo hi) F' N' fun p hp => Nat.lt_succ_of_lt (Heap.lt_size (N p hp).1)
theorem lenX (N : News h₀ L s.heap news) (hm : (l, listOf (List.toArray vs) n) ∈ news) (hi : StrsAre vs xs) (hf : Few xs a b) (ha : a ≤ 1000) (h : Q (.int xs.length (s.toks + 1)) { s with toks := s.toks + 1 + 1 }) : wpAny (model prog w) A (call (.builtin "len") [.ref l]) Q E s :=
  len_strsA (News.isList N hm) hi (by have := hf.len; lia) h
theorem subX {value slice : Expr} {k : Int} (N : News h₀ L s.heap news) (hm : (l, listOf (List.toArray vs) n) ∈ news) (hi : StrsAre vs xs) (hf : Few xs a b) (ha : a ≤ 1000) (h0 : 0 ≤ k) (hk : k < xs.length) (h : ∀ t', (xs.getD k.toNat Str.empty).length ≤ b → Q (.str (xs.getD k.toNat Str.empty) t') s)
    (hs : subscripted slice false (.ref l) (.int k u) = operate [.ref l, .int k u] (getItem (.ref l) (.int k u)) := by with_unfolding_all rfl) (hg : ∀ r, letTemporaryGo value (.ref l) r = pure () := by intro _; with_unfolding_all rfl) :
    wpAny (model prog w) A (subscriptTail value slice (.ref l) (.int k u)) Q E s := by
  refine item_strsA (News.isList N hm) hi h0 hk (by have := hf.len; (clear h0 h hg; lia)) (fun t' => h t' (hf.each _ ?_)) hs hg
  rw [List.getD_eq_getElem?_getD, List.getElem?_eq_getElem (by (clear ha h hg; lia) : k.toNat < xs.length)]
  exact List.getElem_mem _
theorem subLast {value slice : Expr} (N : News h₀ L s.heap news) (hm : (l, listOf (List.toArray vs) n) ∈ news) (hi : StrsAre vs xs) (h0 : 0 < xs.length) (h : ∀ t', Q (.str (xs.getD (xs.length - 1) Str.empty) t') s)
    (hs : subscripted slice false (.ref l) (.int (-1) u) = operate [.ref l, .int (-1) u] (getItem (.ref l) (.int (-1) u)) := by with_unfolding_all rfl) (hg : ∀ r, letTemporaryGo value (.ref l) r = pure () := by intro _; with_unfolding_all rfl) :
    wpAny (model prog w) A (subscriptTail value slice (.ref l) (.int (-1) u)) Q E s := by
  have hsz : vs.toArray.size = xs.length := by rw [List.size_toArray]; exact hi.len_eq
  have e : xs[xs.length - 1]? = some (xs.getD (xs.length - 1) Str.empty) := by rw [List.getD_eq_getElem?_getD, List.getElem?_eq_getElem (by with_reducible_and_instances exact Nat.sub_lt h0 (by decide) : xs.length - 1 < xs.length)]; rfl
  obtain ⟨t, ht⟩ := hi.at e
  have hl := News.isList N hm
  exact subscriptTail_builtin hl.typeIs slot_list_getitem.lookup (wpAny_getItem_list_neg hl (by decide) (by rw [hsz]; (clear h hg hsz; lia)) (by decide) (by rw [hsz, show (-1 + ((xs.length : Nat) : Int)).toNat = xs.length - 1 by (clear h0 h hg hsz; lia)]; simpa using ht) (h t)) hs hg
theorem addX (F : Fr h₀ L s.heap m) (N : News h₀ L s.heap news) (hm : (l, listOf (List.toArray vs) n) ∈ news) (hi : StrsAre vs xs) (hf : Few xs a b) (hm2 : (l2, listOf (List.toArray ws) n2) ∈ news) (hi2 : StrsAre ws ys) {c : Nat} (hf2 : Few ys c b) (ha : a + c ≤ 1000)
    (h : ∀ D vs' h', StrsAre vs' (xs ++ ys) → Few (xs ++ ys) (a + c) b → Fr h₀ L h' m → News h₀ L h' ((D, listOf (List.toArray vs') 0) :: news) → (∀ p ∈ news, p.1 < D) → Q (.ref D) { s with heap := h' }) :
    wpAny (model prog w) A (binaryOp .Add (.ref l) (.ref l2)) Q E s := by
  have h1 := hf.len
  have h2 := hf2.len
  refine add_lists F N (News.isList N hm) (News.isList N hm2) (fun h' F' N' => ?_) (by rw [hi.len_eq, hi2.len_eq, PySem.sizeLine_eq]; (clear h; lia))
  exact h _ _ h' (StrsAre.append' hi hi2) (hf.append hf2) F' N' fun p hp => Heap.lt_size (N p hp).1
theorem mulX {v : Value} {k : Int} (F : Fr h₀ L s.heap m) (N : News h₀ L s.heap news) (hl : s.heap.IsList l [v].toArray) (hi : StrsAre [v] [x]) (hx : x.length ≤ b) (hk : -100 ≤ k ∧ k ≤ 100)
    (h : ∀ D vs' h', StrsAre vs' (List.replicate k.toNat x) → Few (List.replicate k.toNat x) 100 b → Fr h₀ L h' m → News h₀ L h' ((D, listOf (List.toArray vs') 0) :: news) → (∀ p ∈ news, p.1 < D) → Q (.ref D) { s with heap := h' }) :
    wpAny (model prog w) A (binaryOp .Mult (.ref l) (.int k u)) Q E s := by
  have hr : ∀ (j : Nat) (v : Value), (List.replicate j [v]).flatten = List.replicate j v := fun j v => by
    induction j with
    | zero => rfl
    | succ k ih => rw [List.replicate_succ, List.flatten_cons, ih]; rfl
  refine KMa.mul (vs := [v]) F N hl (by lia) (by lia) (by simp; lia) (hr _ _) fun D h' F' N' hf => h D _ h' ?_ ⟨by rw [List.length_replicate]; lia, fun y hy => by rw [List.eq_of_mem_replicate hy]; exact hx⟩ F' N' hf
  refine ex_2_2 (hi.cons_inv) ?_
  intro t vs' e _
  cases e
  generalize k.toNat = j
  induction j with
  | zero => exact .nil
  | succ k ih => exact .cons _ _ ih
theorem joinX (N : News h₀ L s.heap news) (hm : (l, listOf (List.toArray vs) n) ∈ news) (hi : StrsAre vs xs) (hf : Few xs a b) (hx : x.length ≤ 16) (hab : a * b + a * 16 ≤ 1048576)
    (h : ∀ t' k, (Txt.join x xs).length ≤ 1048576 → Q (.str (Txt.join x xs) t') { s with toks := k }) : wpAny (model prog w) A (call (.builtin "str.join") [.str x t, .ref l]) Q E s := by
  have h1 := Few.sum hf.each
  have h2 := Nat.mul_le_mul_right b hf.len
  have h3 := Nat.mul_le_mul hf.len hx
  have h4 := join_len x xs
  have h5 : Txt.join x xs = Str.join x xs := beq_iff_eq.mp (join_closes rfl)
  exact join_list (News.isList N hm) hi (by (clear hx h h4; lia)) fun t' k => h t' k (by rw [h5]; (clear hx h; lia))
theorem maxX {c d o : Int} (hh : A.handled = none) (F : Fr h₀ L s.heap m) (N : News h₀ L s.heap news) (e : (if d > c then d else c) = o)
    (h : ∀ h' tk t', Fr h₀ L h' m → News h₀ L h' news → Q (.int o t') { s with heap := h', toks := tk }) : wpAny (model prog w) A (call (.builtin "max") [.int c t, .int d u]) Q E s :=
  max_two_N hh F N fun h' tk F' N' => by rw [e]; exact h h' tk _ F' N'
theorem Few.one {x : Str} {b : Nat} (hx : x.length ≤ b) : Few [x] 1 b := ⟨Nat.le_refl _, fun y hy => by rw [List.mem_singleton.mp hy]; exact hx⟩
theorem gen_rest {α β : Type} {env : Env} {elt : Expr} {x : Str} {scope : Scope} {cl : List (Str × Addr)} {S : Led → Prop} {P : Nat → Value → Prop} {Fin : List Value → Led → Prop} {n : Nat} (xs : List α) (g : α → β) (PV : α → Value → Prop) (PY : β → Value → Prop) (hn : xs.length = n)
    (hP : ∀ i v, i < n → P i v → ∃ a, xs[i]? = some a ∧ PV a v)
    (turn : ∀ a v I oI C oC D m₂ ys h tk (E' : Value → Shared → Prop), a ∈ xs → PV a v → LCg.NsObj oC m₂ → m₂ x = some v → Fr h₀ L h m → News h₀ L h ((I, oI) :: (C, oC) :: (D, LCg.lst ys) :: news) → LCg.Off3 I C D news → ((@Ne Nat I C) ∧ (@Ne Nat I D) ∧ (@Ne Nat C D)) →
      wpAny (model prog w) A (eval elt (compEnvC scope cl C env)) (LCg.CompEnd h₀ L m { s with heap := h, toks := tk } I oI C oC D (LCg.lst ys) S (fun y news' => news' = news ∧ PY (g a) y)) E' { s with heap := h, toks := tk })
    (fin : ∀ ys, All2 (fun v b => PY b v) ys (xs.map g) → Fin ys news) : LCg.CompRest prog w A h₀ L m env elt x scope cl s S P Fin n 0 [] news := by
  have key : ∀ (j i : Nat) (ys : List Value), i + j = n → All2 (fun v b => PY b v) ys ((xs.take i).map g) → LCg.CompRest prog w A h₀ L m env elt x scope cl s S P Fin j i ys news := by
    intro j
    induction j with
    | zero =>
      intro i ys hi' hy
      have e : i = xs.length := by with_reducible_and_instances exact Eq.trans hi' (Eq.symm hn)
      subst e
      rw [List.take_length] at hy
      exact LCg.CompRest.zero (fin ys hy)
    | succ j ih =>
      intro i ys hi' hy
      refine LCg.CompRest.succ ?_
      intro v I oI C oC D m₂ h tk E' hv hC hx F N off ne
      refine ex_1_2 (hP i v (by (clear hn hP turn fin ih ne; lia)) hv) ?_
      intro a ha hpv
      refine wpAny_mono (turn a v I oI C oC D m₂ ys h tk E' (List.mem_of_getElem? ha) hpv hC hx F N off ne) (fun y s₂ hq => ?_) fun _ _ e => e
      refine ex_3_7 (hq) ?_
      try clear hq
      intro h' tk' nw e F' N' off' hS hn' hy'
      subst hn'
      refine ⟨h', tk', nw, e, F', N', off', hS, ih (i + 1) _ (by (clear hn hP ne turn fin ih; lia)) ?_⟩
      rw [List.take_add_one, ha]
      simpa using forall₂_snoc hy hy'
  exact key _ 0 [] (by with_reducible_and_instances exact Nat.add_comm _ _) (by simp only [List.take_zero, List.map_nil]; exact .nil)
theorem comp_strs {β : Type} {env : Env} {elt : Expr} {x : Str} {scope : Scope} {cl : List (Str × Addr)} {Fin : Shared → List Value → Led → Prop} (g : Str → β) (PY : β → Value → Prop) (hh : A.handled = none) (F : Fr h₀ L s.heap m) (N : News h₀ L s.heap news) (hm : (l, listOf (List.toArray vs) n) ∈ news) (hi : StrsAre vs xs) (hf : Few xs a b) (ha : a ≤ 1000)
    (turn : ∀ y t I oI C oC D m₂ ys h tk (E' : Value → Shared → Prop), y.length ≤ b → LCg.NsObj oC m₂ → m₂ x = some (.str y t) → Fr h₀ L h m → News h₀ L h ((I, oI) :: (C, oC) :: (D, LCg.lst ys) :: news) → LCg.Off3 I C D news → ((@Ne Nat I C) ∧ (@Ne Nat I D) ∧ (@Ne Nat C D)) →
      wpAny (model prog w) A (eval elt (compEnvC scope cl C env)) (LCg.CompEnd h₀ L m { s with heap := h, toks := tk } I oI C oC D (LCg.lst ys) (LCg.SrcAt h₀ l (List.toArray vs)) (fun z news' => news' = news ∧ PY (g y) z)) E' { heap := h, gens := s.gens, drawn := s.drawn, toks := tk, os := s.os })
    (fin : ∀ (gg : Heap) ys, All2 (fun v b => PY b v) ys (xs.map g) → Fin { s with heap := gg } ys news) : LCg.CompSrc prog w A h₀ L m env elt x scope cl Fin (.ref l) s := by
  refine LCg.CompSrc.ledger hh F N hm (by rw [List.size_toArray, hi.len_eq, PySem.sizeLine_eq]; have := hf.len; (clear turn fin; lia)) fun gg => ?_
  refine gen_rest xs g (fun (a : Str) v => (∃ t, v = .str a t)) PY (hi.len_eq.symm.trans (List.size_toArray ..).symm) (fun i v _ hv => ?_) (fun a v I oI C oC D m₂ ys h tk E' ha hv hC hx F N off ne => ?_) fun ys hy => fin gg ys hy
  · refine ex_2_2 (StrsAre.item hi i v (by simpa using hv)) ?_
    intro y t e h1
    exact ⟨y, h1, t, e⟩
  · obtain ⟨t, rfl⟩ := hv
    exact turn a t I oI C oC D m₂ ys h tk E' (hf.each a ha) hC hx F N off ne
theorem all_strs {vs : List Value} {xs : List Str} (h : All2 (fun v b => ∃ t, v = Value.str b t) vs xs) : StrsAre vs xs := by
  induction h with
  | nil => exact .nil
  | cons a _ ih => obtain ⟨t, rfl⟩ := a; exact .cons _ _ ih
theorem all_ints {vs : List Value} {xs : List Int} (h : All2 (fun v b => ∃ t, v = Value.int b t) vs xs) : IntsAre vs xs := by
  induction h with
  | nil => exact .nil
  | cons a _ ih => obtain ⟨t, rfl⟩ := a; exact .cons _ _ ih
end
end
section
noncomputable def othS (xs : List Str) (o k : Nat) : List Str := cut xs (some ((o : Int) + 1)) (some ((o : Int) + 1 + k)) ++ List.replicate ((k : Int) - (cut xs (some ((o : Int) + 1)) (some ((o : Int) + 1 + k))).length).toNat ("" : Str)
noncomputable def topS (xs : List Str) (o k : Nat) : List Str := cut xs none (some (o : Int)) ++ othS xs o k ++ [xs.getD (o : Int).toNat Str.empty]
noncomputable def allS (xs : List Str) (o k : Nat) : Str := Txt.join "" ((topS xs o k ++ cut xs (some ((o : Int) + 1 + k)) none).map fun r : Str => r ++ ("\n" : Str))
noncomputable def blR (xs : List Str) (o k : Nat) : Res := .text (if (o : Int) + 1 + k < xs.length then Txt.slice (allS xs o k) none (some (-1)) else allS xs o k) ((topS xs o k).map fun r : Str => (r.length : Int) + 1).sum
theorem blR_1 {xs : List Str} {o k : Nat} (h : (o : Int) + 1 + k < xs.length) : blR xs o k = .text (Txt.slice (allS xs o k) none (some (-1))) ((topS xs o k).map fun r : Str => (r.length : Int) + 1).sum := by unfold blR; rw [if_pos h]
theorem blR_2 {xs : List Str} {o k : Nat} (h : ¬ (o : Int) + 1 + k < xs.length) : blR xs o k = .text (allS xs o k) ((topS xs o k).map fun r : Str => (r.length : Int) + 1).sum := by unfold blR; rw [if_neg h]
variable {w : World} {news : Led}
theorem c_bl (tx : Str) (hT : tx.length < 100) (xs : List Str) (hxs : Txt.split tx "\n" = xs) (hx0 : 0 < xs.length) (hfew : Few xs 50 50) (o : Nat) (ho : o < xs.length) (i : Nat) (hi : i ≤ tx.length)
    (hcnt : (if Txt.count (Txt.slice tx none (some (i : Int))) "\n" - 1 > 0 then Txt.count (Txt.slice tx none (some (i : Int))) "\n" - 1 else 0) = (o : Int)) (hl1 : (xs.getD (xs.length - 1) Str.empty == "") = false) (hl2 : ¬ xs.getD (xs.length - 1) Str.empty = "") (hl3 : (xs.getD (xs.length - 1) Str.empty != "") = true) (t0 t1 t2 : Tok) (k : Nat) (hm : 1 ≤ k ∧ k ≤ 3) :
    Ctr w 443 8 [.str tx t0, .int i t1, .int k t2] news (fun r nw => ResL news nw r (blR xs o k)) := by
  revert hT hxs hx0 hfew ho hi hcnt hl1 hl2 hl3 hm
  revert w news tx xs o i t0 t1 t2 k
  refine @pk10 _ _ _ _ _ _ _ _ _ _ _ (ne2 (ne2 neW nei) nei) ?_
  generalize wk10 _ _ = q
  generalize q.1 = q0, q.2 = q1
  generalize q0.1 = w, q0.2.1 = news, q0.2.2.1 = tx, q0.2.2.2.1 = xs, q0.2.2.2.2.1 = o, q0.2.2.2.2.2.1 = i, q0.2.2.2.2.2.2.1 = t0, q0.2.2.2.2.2.2.2 = t1
  generalize q1.1 = t2, q1.2 = k
  clear q q0 q1
  intro hT hxs hx0 hfew ho hi hcnt hl1 hl2 hl3 hm
  refine' ctr_ofW ["_law_text", "_law_at", "_law_many"] ?ho ?hcd ?hb ?hl ?h1 ?h2 ?h3 ?h4 ?_
  (((case ho => k_is); (case hcd => k_is); (case hb => exact rfl); (case hl => exact locs rfl); (case h1 => exact rfl); (case h2 => exact rfl); (case h3 => exact rfl); (case h4 => decide)))
  generalize wp14 _ = c9
  generalize c9.p = p, c9.loose = loose, c9.mean = mean, c9.mg = mg, c9.mb = mb, c9.dp = dp, c9.un = un, c9.gd = gd, c9.outer = outer, c9.A₀ = A₀, c9.base = base, c9.g = g, c9.L = L, c9.s = s
  clear c9
  intro B F X N T hd hu
  (((try dsimp only); (try k_fold)))
  repeat' (first | with_reducible ((k_here; (with_reducible show wpAny _ _ (subscriptTail _ _ (Value.ref _) (Value.ref _)) _ _ _); k_dflt (refine' sliceX ?F ?N ?m ?i ?f ?a ?pl ?pu ?h0 ?h1 ?_; (case F => k_asm); (case N => k_asm); (case m => k_mem); (case i => (first | with_reducible assumption | assumption | exact StrsAre.cons _ _ .nil)); (case f => (first | with_reducible assumption | exact Few.one (by with_reducible assumption) | assumption | exact Few.one (by assumption))); (case a => decide); (case pl => (first | exact IsPart.none | exact IsPart.int _ _)); (case pu => (first | exact IsPart.none | exact IsPart.int _ _)); (case h0 => (first | (intro z q; (have q := Option.some.inj q); subst q; (clear hT hx0 ho hi hcnt hl2 hm hd hu l1; lia)) | (intro z q; cases q; done))); (case h1 => (first | (intro z q; (have q := Option.some.inj q); subst q; omega) | (intro z q; cases q; done)))); ((intro D' vs' h' i' f' F' N' l1; (have f9 := Few.len f'); (try dsimp only at F' N'); (try k_lt l1); (try dsimp only))))) | with_reducible ((show wpAny _ _ (binaryOp _ _ _) _ _ _); (k_here; k_dflt (refine' mulX (b := 50) ?F ?N ?l ?i ?x ?n ?_; (case F => k_asm); (case N => k_asm); (case l => is_list); (case i => exact StrsAre.cons _ _ .nil); (case x => decide +kernel); (case n => (clear hT hx0 ho hi hcnt hl2 hd hu l1; lia))); ((intro D' vs' h' i' f' F' N' l1; (have f9 := Few.len f'); (try dsimp only at F' N'); (try k_lt l1); (try dsimp only))))) | with_reducible ((show wpAny _ _ (binaryOp _ _ _) _ _ _); (k_here; k_dflt (refine' addX ?F ?N ?m ?i ?f ?m2 ?i2 ?f2 ?a ?_; (case F => k_asm); (case N => k_asm); (case m => k_mem); (case i => (first | with_reducible assumption | assumption | exact StrsAre.cons _ _ .nil)); (case f => (first | with_reducible assumption | exact Few.one (by with_reducible assumption) | assumption | exact Few.one (by assumption))); (case m2 => k_mem); (case i2 => (first | with_reducible assumption | assumption | exact StrsAre.cons _ _ .nil)); (case f2 => (first | with_reducible assumption | exact Few.one (by with_reducible assumption) | assumption | exact Few.one (by assumption))); (case a => decide)); ((intro D' vs' h' i' f' F' N' l1; (have f9 := Few.len f'); (try dsimp only at F' N'); (try k_lt l1); (try dsimp only))))) | with_reducible ((show wpAny _ _ (eval (Expr.ListComp _ _ _ _) _) _ _ _); (k_here; k_dflt (refine LCg.ListComp_U (F₀ := by k_asm) (by with_unfolding_all rfl) (by decide) (by rfl) (by decide) (by rfl) ?_))) | with_reducible ((show wpAny _ _ (call (Value.builtin "str.split") _ _) _ _ _); (k_here; k_dflt (refine splitX (by assumption) (by k_asm) (by k_asm) (by decide) (by with_reducible_and_instances exact Nat.lt_of_lt_of_le hT (by decide)) ?_); intro D' vs' h' k' i' F' N' l1; (try dsimp only at F' N'); (try k_lt l1); (try dsimp only))) | with_reducible ((show wpAny _ _ (call (Value.builtin "max") _ _) _ _ _); (k_here; k_dflt (refine' maxX ?hh ?F ?N ?e ?_; (case hh => with_unfolding_all rfl); (case F => k_asm); (case N => k_asm); (case e => assumption)); intro h' tk' t' F' N')) | with_reducible ((show wpAny _ _ (call (Value.builtin "len") _ _) _ _ _); (k_here; k_dflt (refine' lenX ?N ?m ?i ?f ?a ?_; (case N => k_asm); (case m => k_mem); (case i => (first | with_reducible assumption | assumption | exact StrsAre.cons _ _ .nil)); (case f => (first | with_reducible assumption | exact Few.one (by with_reducible assumption) | assumption | exact Few.one (by assumption))); (case a => decide)); (try dsimp only))) | with_reducible ((k_here; (with_reducible show wpAny _ _ (subscriptTail _ _ (Value.ref _) (Value.int (-1) _)) _ _ _); k_dflt (refine' subLast ?N ?m ?i ?h0 ?_; (case N => k_asm); (case m => k_mem); (case i => (first | with_reducible assumption | assumption | exact StrsAre.cons _ _ .nil)); (case h0 => omega)); intro _)) | with_reducible ((k_here; (with_reducible show wpAny _ _ (subscriptTail _ _ (Value.ref _) (Value.int _ _)) _ _ _); k_dflt (refine' subX ?N ?m ?i ?f ?a ?h0 ?hk ?_; (case N => k_asm); (case m => k_mem); (case i => (first | with_reducible assumption | assumption | exact StrsAre.cons _ _ .nil)); (case f => (first | with_reducible assumption | exact Few.one (by with_reducible assumption) | assumption | exact Few.one (by assumption))); (case a => decide); (case h0 => with_reducible_and_instances exact Int.natCast_nonneg _); (case hk => with_reducible_and_instances exact Int.ofNat_lt.mpr ho)); intro _ _)) | walk_at "stp")
  refine Stop.go ?_
  refine' comp_strs (fun r : Str => r ++ ("\n" : Str)) (fun (b : Str) v => ∃ t, v = .str b t) rfl ?cF ?cN ?cm ?ci ?cf ?ca (fun y t I oI C oC D m₂ ys h tk E' hlen hC hx F N off ne => ?_) fun gg ys hy => ?_
  case cF => first | with_reducible assumption | assumption
  case cN => first | with_reducible assumption | assumption
  case cm => exact .head _
  case ci => first | with_reducible assumption | assumption
  case cf => first | with_reducible assumption | assumption
  case ca => decide
  · walk_at "steps"
    refine Stop.go ?_
    exact LCg.CompEnd.intro (by assumption) (by assumption) _ (fun _ h => h) off (.inr ⟨_, .head _, rfl, _, rfl⟩) ⟨rfl, _, rfl⟩
  · intro D h tk F N o1
    have hy := all_strs hy
    have f8 := Few.map (by first | with_reducible assumption | assumption) (fun r : Str => r ++ ("\n" : Str)) 1 (fun x => by rw [str_len_app]; exact Nat.le_refl _) (xs := _ ++ cut xs (some ((o : Int) + 1 + k)) none)
    repeat' (first | with_reducible ((k_here; (with_reducible show wpAny _ _ (subscriptTail _ _ (Value.ref _) (Value.ref _)) _ _ _); k_dflt (refine' sliceX ?F ?N ?m ?i ?f ?a ?pl ?pu ?h0 ?h1 ?_; (case F => k_asm); (case N => k_asm); (case m => k_mem); (case i => (first | with_reducible assumption | assumption | exact StrsAre.cons _ _ .nil)); (case f => (first | with_reducible assumption | exact Few.one (by with_reducible assumption) | assumption | exact Few.one (by assumption))); (case a => decide); (case pl => (first | exact IsPart.none | exact IsPart.int _ _)); (case pu => (first | exact IsPart.none | exact IsPart.int _ _)); (case h0 => (first | (intro z q; (have q := Option.some.inj q); subst q; omega) | (intro z q; cases q; done))); (case h1 => (first | (intro z q; (have q := Option.some.inj q); subst q; with_reducible_and_instances exact Int.natCast_nonneg _) | (intro z q; cases q; done)))); ((intro D' vs' h' i' f' F' N' l1; (have f9 := Few.len f'); (try dsimp only at F' N'); (try k_lt l1); (try dsimp only))))) | with_reducible ((show wpAny _ _ (binaryOp _ _ _) _ _ _); (k_here; k_dflt (refine' addX ?F ?N ?m ?i ?f ?m2 ?i2 ?f2 ?a ?_; (case F => k_asm); (case N => k_asm); (case m => k_mem); (case i => (first | with_reducible assumption | assumption | exact StrsAre.cons _ _ .nil)); (case f => (first | with_reducible assumption | exact Few.one (by with_reducible assumption) | assumption | exact Few.one (by assumption))); (case m2 => k_mem); (case i2 => (first | with_reducible assumption | assumption | exact StrsAre.cons _ _ .nil)); (case f2 => (first | with_reducible assumption | exact Few.one (by with_reducible assumption) | assumption | exact Few.one (by assumption))); (case a => decide)); ((intro D' vs' h' i' f' F' N' l1; (have f9 := Few.len f'); (try dsimp only at F' N'); (try k_lt l1); (try dsimp only))))) | with_reducible ((show wpAny _ _ (eval (Expr.ListComp _ _ _ _) _) _ _ _); (k_here; k_dflt (refine LCg.ListComp_U (F₀ := by k_asm) (by with_unfolding_all rfl) (by decide) (by rfl) (by decide) (by rfl) ?_))) | with_reducible ((show wpAny _ _ (call (Value.builtin "str.join") _ _) _ _ _); (k_here; k_dflt (refine' joinX ?N ?l ?i ?f ?s ?w ?_; (case N => k_asm); (case l => k_mem); (case i => assumption); (case f => assumption); (case s => decide +kernel); (case w => decide)); intro t' k' z'; (try dsimp only))) | with_reducible ((show wpAny _ _ (call (Value.builtin "len") _ _) _ _ _); (k_here; k_dflt (refine' lenX ?N ?m ?i ?f ?a ?_; (case N => k_asm); (case m => k_mem); (case i => (first | with_reducible assumption | assumption | exact StrsAre.cons _ _ .nil)); (case f => (first | with_reducible assumption | exact Few.one (by with_reducible assumption) | assumption | exact Few.one (by assumption))); (case a => decide)); (try dsimp only))) | with_reducible ((k_here; (with_reducible show wpAny _ _ (subscriptTail _ _ (Value.ref _) (Value.int (-1) _)) _ _ _); k_dflt (refine' subLast ?N ?m ?i ?h0 ?_; (case N => k_asm); (case m => k_mem); (case i => (first | with_reducible assumption | assumption | exact StrsAre.cons _ _ .nil)); (case h0 => omega)); intro _)) | walk_at "stp")
    all_goals
      refine Stop.go ?_
      refine' comp_strs (fun r : Str => (r.length : Int) + 1) (fun (b : Int) v => ∃ t, v = .int b t) rfl ?dF ?dN ?dm ?di ?df ?da (fun y t I oI C oC D m₂ ys h tk E' hlen hC hx F N off ne => ?turn) fun gg ys hy => ?_
      (case dF => first | with_reducible assumption | assumption)
      (case dN => first | with_reducible assumption | assumption)
      (case dm => exact .head _)
      (case di => first | with_reducible assumption | assumption)
      (case df => first | with_reducible assumption | assumption)
      (case da => decide)
      (case turn =>
        walk_at "steps"
        refine Stop.go ?_
        exact LCg.CompEnd.intro (by assumption) (by assumption) _ (fun _ h => h) off (.inr ⟨_, .head _, rfl, _, rfl⟩) ⟨rfl, _, rfl⟩)
      intro D h tk F N o1
      have hy := all_ints hy
      walk_at "steps"
    · refine ends (by assumption) (newsub (by assumption) (nw' := (_, tupO [.str _ _, .int _ _]) :: news) (by walk_at "c_keep")) ?_
      rw [blR_1 (by assumption)]
      exact ⟨_, _, _, rfl, rfl⟩
    · refine ends (by assumption) (newsub (by assumption) (nw' := (_, tupO [.str _ _, .int _ _]) :: news) (by walk_at "c_keep")) ?_
      rw [blR_2 (by assumption)]
      exact ⟨_, _, _, rfl, rfl⟩
end
section
theorem txt_cps (cs : List Int) : (txt cs).cps.toList = cs.map Int.toNat := rfl
theorem txt_len (cs : List Int) : (txt cs).length = cs.length := by
  show (cs.map Int.toNat).toArray.size = cs.length
  rw [List.size_toArray, List.length_map]
theorem txt_append (a b : List Int) : txt a ++ txt b = txt (a ++ b) := by
  show Str.append _ _ = _
  unfold txt Str.append
  simp
theorem txt_inj {a b : List Int} (ha : ∀ c ∈ a, 0 ≤ c) (hb : ∀ c ∈ b, 0 ≤ c) (h : txt a = txt b) : a = b := by
  have h1 : a.map Int.toNat = b.map Int.toNat := by rw [← txt_cps, ← txt_cps, h]
  have back : ∀ l : List Int, (∀ c ∈ l, 0 ≤ c) → (l.map Int.toNat).map (fun n : Nat => (n : Int)) = l := by
    intro l hl
    rw [List.map_map]
    conv => rhs; rw [← List.map_id l]
    refine List.map_congr_left fun c hc => ?_
    exact Int.toNat_of_nonneg (hl c hc)
  rw [← back a ha, ← back b hb, h1]
section
open PySem.StrLaws PySem.Builtin PySem.Builtin.Str
theorem idx_nat (a b n : Nat) : strSliceIndices (some (a : Int)) (some (b : Int)) 1 n = sliceRange (max 0 (min (a : Int) n)) (max 0 (min (b : Int) n)) 1 := rfl
theorem rng_empty {a b : Int} (h : b ≤ a) : sliceRange a b 1 = [] := by
  have h1 : (if a < b then (b - a + 1 - 1) / 1 else (0 : Int)) = 0 := if_neg (Int.not_lt.mpr h)
  show (List.range (if a < b then (b - a + 1 - 1) / 1 else (0 : Int)).toNat).map _ = _
  rw [h1]
  rfl
theorem max_sub (a b : Nat) : max a b - a = b - a := by
  rcases Nat.le_total a b with h | h
  · rw [Nat.max_eq_right h]
  · rw [Nat.max_eq_left h, Nat.sub_self, Nat.sub_eq_zero_of_le h]
theorem clamp (a n : Nat) : max (0 : Int) (min (a : Int) n) = ((min a n : Nat) : Int) := by
  rcases Nat.le_total a n with h | h
  · rw [Nat.min_eq_left h, Int.min_eq_left (Int.ofNat_le.mpr h), Int.max_eq_right (Int.natCast_nonneg _)]
  · rw [Nat.min_eq_right h, Int.min_eq_right (Int.ofNat_le.mpr h), Int.max_eq_right (Int.natCast_nonneg _)]
theorem idx_clip (i j n : Nat) : strSliceIndices (some (i : Int)) (some (j : Int)) 1 n = strSliceIndices (some ((min i n : Nat) : Int)) (some ((max (min i n) (min j n) : Nat) : Int)) 1 n := by
  rw [idx_nat, idx_nat, clamp, clamp, clamp, clamp, Nat.min_eq_left (Nat.min_le_right i n), Nat.min_eq_left (Nat.max_le.mpr ⟨Nat.min_le_right i n, Nat.min_le_right j n⟩)]
  rcases Nat.le_total (min j n) (min i n) with h | h
  · rw [Nat.max_eq_left h, rng_empty (Int.ofNat_le.mpr h), rng_empty (Int.le_refl _)]
  · rw [Nat.max_eq_right h]
theorem txt_slice_nat (cs : List Int) (i j : Nat) : Txt.slice (txt cs) (some (i : Int)) (some (j : Int)) = txt (slice cs i j) := by
  have hn := txt_len cs
  have e : sliceText (txt cs) (some (i : Int)) (some (j : Int)) = sliceText (txt cs) (some ((min i cs.length : Nat) : Int)) (some ((max (min i cs.length) (min j cs.length) : Nat) : Int)) := by
    unfold sliceText
    rw [idx_clip, hn]
  refine e.trans ?_
  rw [sliceText_nat _ (Nat.le_max_left _ _) (by rw [hn]; exact Nat.max_le.mpr ⟨Nat.min_le_right _ _, Nat.min_le_right _ _⟩), txt_cps, max_sub, ← List.map_drop, ← List.map_take, clip_eq]
  rfl
theorem txt_slice {cs : List Int} {i j : Int} (h : 0 ≤ i) (h' : 0 ≤ j) : Txt.slice (txt cs) (some i) (some j) = txt (slice cs i.toNat j.toNat) := by
  obtain ⟨a, rfl⟩ := Int.eq_ofNat_of_zero_le h
  obtain ⟨b, rfl⟩ := Int.eq_ofNat_of_zero_le h'
  exact txt_slice_nat cs a b
theorem txt_to {cs : List Int} {j : Int} (h' : 0 ≤ j) : Txt.slice (txt cs) none (some j) = txt (cs.take j.toNat) := by
  have e : Txt.slice (txt cs) none (some j) = Txt.slice (txt cs) (some 0) (some j) := by
    show sliceText _ _ _ = sliceText _ _ _
    unfold sliceText
    rw [sliceIdx_none_lo]
  rw [e, txt_slice (by decide) h']
  unfold slice
  rfl
theorem txt_from {cs : List Int} {i : Int} (h : 0 ≤ i) : Txt.slice (txt cs) (some i) none = txt (cs.drop i.toNat) := by
  have e : Txt.slice (txt cs) (some i) none = Txt.slice (txt cs) (some i) (some (cs.length : Int)) := by
    show sliceText _ _ _ = sliceText _ _ _
    unfold sliceText
    rw [sliceIdx_none_hi, txt_len]
  rw [e, txt_slice h (Int.natCast_nonneg _)]
  unfold slice
  congr 1
  exact List.take_of_length_le (by rw [List.length_drop]; exact Nat.le_refl _)
theorem txt_item {cs : List Int} {z : Int} (h : 0 ≤ z) (h' : z < cs.length) : Txt.item (txt cs) z = txt [cs.getD z.toNat 0] := by
  unfold Txt.item Txt.charAt
  rw [seqIndex_nonneg h (by rw [txt_len]; exact h')]
  have hz : z.toNat < cs.length := (Int.toNat_lt h).mpr h'
  unfold txt
  have : ((⟨(cs.map Int.toNat).toArray⟩ : Str).cps[z.toNat]?) = some (cs.getD z.toNat 0).toNat := by
    show (cs.map Int.toNat).toArray[z.toNat]? = _
    rw [List.getElem?_toArray, List.getElem?_map, List.getD_eq_getElem?_getD, List.getElem?_eq_getElem hz]
    rfl
  show (⟨#[(((some z.toNat).bind ((⟨(cs.map Int.toNat).toArray⟩ : Str).cps[·]?)).getD 0)]⟩ : Str) = _
  rw [Option.bind_some, this]
  rfl
theorem txt_itemN {cs : List Int} {j : Nat} (h : j < cs.length) : Txt.item (txt cs) (j : Int) = txt [cs.getD j 0] := txt_item (Int.natCast_nonneg _) (Int.ofNat_lt.mpr h)
theorem alpha_of {c : Int} (h : Sign c) : Txt.isalpha (txt [c]) = isW c := by
  rcases h with rfl | rfl | rfl | rfl | rfl | rfl | rfl <;> decide +kernel
theorem alpha_nil : Txt.isalpha (txt []) = false := by decide +kernel
end
end
section
theorem isW_out {cs : List Int} {k : Nat} (h : cs.length ≤ k) : isW (cs.getD k 0) = false := by
  rw [List.getD_eq_getElem?_getD, List.getElem?_eq_none h]; rfl
noncomputable def endB (cs : List Int) (k : Nat) : Bool := decide (0 < k) && isW (cs.getD (k - 1) 0) && !isW (cs.getD k 0)
noncomputable def endsL (cs : List Int) (i : Nat) : List Nat := (List.range' (i + 1) (cs.length - i)).filter (endB cs)
theorem endsL_cons {cs : List Int} {i : Nat} (h : i < cs.length) : endsL cs i = (if endB cs (i + 1) = true then [i + 1] else []) ++ endsL cs (i + 1) := by
  unfold endsL
  obtain ⟨d, hd⟩ : ∃ d, cs.length - i = d + 1 := Nat.exists_eq_add_one.mpr (Nat.sub_pos_of_lt h)
  rw [hd, nsub hd, List.range'_succ, List.filter_cons]
  split <;> rfl
theorem endsL_go {cs : List Int} : ∀ (d i : Nat), cs.length - i = d → i ≤ cs.length → endsL cs i = if skF cs true i < cs.length then skF cs false (skF cs true i) :: endsL cs (skF cs false (skF cs true i)) else []
  | 0, i, hd, hi => by
    have h0 := Nat.sub_eq_zero_iff_le.mp hd
    rw [skF_end h0, if_neg (Nat.not_lt.mpr h0)]
    unfold endsL
    rw [hd]
    rfl
  | d + 1, i, hd, hi => by
    have hlt : i < cs.length := Nat.lt_of_sub_eq_succ hd
    have ih := endsL_go (cs := cs) d (i + 1) (nsub hd) hlt
    rw [endsL_cons hlt]
    by_cases hw : isW (cs.getD i 0) = true
    · rw [skF_stop (neg := true) hlt (by rw [hw]; decide), if_pos hlt]
      by_cases hn : isW (cs.getD (i + 1) 0) = true
      · have hlt2 : i + 1 < cs.length := by
          rcases Nat.lt_or_ge (i + 1) cs.length with h | h
          · exact h
          · rw [isW_out h] at hn; cases hn
        have hE : endB cs (i + 1) = false := by unfold endB; rw [hn]; simp
        rw [hE, skF_go (neg := false) hlt (by rw [hw]; decide)]
        rw [skF_stop (i := i + 1) (neg := true) hlt2 (by rw [hn]; decide), if_pos hlt2] at ih
        rw [if_neg (by decide), List.nil_append]
        exact ih
      · have hn' : isW (cs.getD (i + 1) 0) = false := by simpa using hn
        have hE : endB cs (i + 1) = true := by
          unfold endB
          rw [hn', Nat.add_sub_cancel, hw]
          simp
        have hs : skF cs false (i + 1) = i + 1 := by
          rcases Nat.lt_or_ge (i + 1) cs.length with h | h
          · exact skF_stop h (by rw [hn']; decide)
          · exact skF_end h
        rw [hE, if_pos rfl, skF_go (neg := false) hlt (by rw [hw]; decide), hs]
        rfl
    · have hw' : isW (cs.getD i 0) = false := by simpa using hw
      have hE : endB cs (i + 1) = false := by unfold endB; rw [Nat.add_sub_cancel, hw']; simp
      rw [hE, if_neg (by decide), List.nil_append, skF_go (neg := true) hlt (by rw [hw']; decide)]
      exact ih
theorem fwdW_ends {cs : List Int} : ∀ (k i : Nat), i ≤ cs.length → fwdW cs (k + 1) i = (endsL cs i).getD k cs.length
  | 0, i, hi => by
    rw [endsL_go _ i rfl hi]
    unfold fwdW
    split <;> rfl
  | k + 1, i, hi => by
    rw [endsL_go _ i rfl hi]
    unfold fwdW
    split
    · rw [fwdW_ends k _ (skF_le (skF_le hi))]
      rfl
    · rfl
noncomputable def headB (cs : List Int) (k : Nat) : Bool := isW (cs.getD k 0) && (decide (k = 0) || !isW (cs.getD (k - 1) 0))
noncomputable def headsL (cs : List Int) (i : Nat) : List Nat := ((List.range i).filter (headB cs)).reverse
theorem headsL_cons {cs : List Int} {i : Nat} : headsL cs (i + 1) = (if headB cs i = true then [i] else []) ++ headsL cs i := by
  unfold headsL
  rw [List.range_succ, List.filter_append, List.reverse_append, List.filter_cons]
  split <;> rfl
theorem skB_succ {cs : List Int} {neg : Bool} {i : Nat} : skB cs neg (i + 1) = if (isW (cs.getD i 0) != neg) = true then skB cs neg i else i + 1 := rfl
theorem headsL_go {cs : List Int} : ∀ (i : Nat), headsL cs i = if 0 < skB cs true i then skB cs false (skB cs true i) :: headsL cs (skB cs false (skB cs true i)) else []
  | 0 => rfl
  | i + 1 => by
    have ih := headsL_go (cs := cs) i
    rw [headsL_cons]
    by_cases hw : isW (cs.getD i 0) = true
    · have e1 : skB cs true (i + 1) = i + 1 := by rw [skB_succ, if_neg (by rw [hw]; decide)]
      have e2 : skB cs false (i + 1) = skB cs false i := by rw [skB_succ, if_pos (by rw [hw]; decide)]
      rw [e1, if_pos (Nat.succ_pos i), e2]
      cases i with
      | zero =>
        have hE : headB cs 0 = true := by unfold headB; rw [hw]; rfl
        rw [hE]
        rfl
      | succ j =>
        by_cases hn : isW (cs.getD j 0) = true
        · have hE : headB cs (j + 1) = false := by unfold headB; rw [Nat.add_sub_cancel, hn]; simp
          have e3 : skB cs true (j + 1) = j + 1 := by rw [skB_succ, if_neg (by rw [hn]; decide)]
          rw [hE, if_neg (by decide), List.nil_append]
          rw [e3, if_pos (Nat.succ_pos j)] at ih
          exact ih
        · have hn' : isW (cs.getD j 0) = false := by simpa using hn
          have hE : headB cs (j + 1) = true := by unfold headB; rw [Nat.add_sub_cancel, hn', hw]; simp
          have e3 : skB cs false (j + 1) = j + 1 := by rw [skB_succ, if_neg (by rw [hn']; decide)]
          rw [hE, if_pos rfl, e3]
          rfl
    · have hw' : isW (cs.getD i 0) = false := by simpa using hw
      have hE : headB cs i = false := by unfold headB; rw [hw']; rfl
      have e1 : skB cs true (i + 1) = skB cs true i := by rw [skB_succ, if_pos (by rw [hw']; decide)]
      rw [hE, if_neg (by decide), List.nil_append, e1]
      exact ih
theorem bwdW_heads {cs : List Int} : ∀ (k i : Nat), bwdW cs (k + 1) i = (headsL cs i).getD k 0
  | 0, i => by
    rw [headsL_go]
    unfold bwdW
    split <;> rfl
  | k + 1, i => by
    rw [headsL_go]
    unfold bwdW
    split
    · rw [bwdW_heads k _]
      rfl
    · rfl
theorem runP_txt {cs : List Int} (ht : TextOk cs) {k : Nat} (hk : k ≤ cs.length) : runP (txt cs) (k : Int) = endB cs k := by
  unfold runP endB
  cases k with
  | zero => rfl
  | succ j =>
    have e1 : ((j + 1 : Nat) : Int) + 1 = ((j + 2 : Nat) : Int) := rfl
    rw [i1, e1, txt_itemN hk, txt_slice_nat, Nat.add_sub_cancel, alpha_of (ht.at hk)]
    have e2 : Txt.isalpha (txt (slice cs (j + 1) (j + 2))) = isW (cs.getD (j + 1) 0) := by
      unfold slice
      rcases Nat.lt_or_ge (j + 1) cs.length with h | h
      · rw [drop_cons h, Nat.add_sub_add_left j 2 1]
        exact alpha_of (ht.at h)
      · rw [List.drop_eq_nil_of_le h, List.take_nil, isW_out h]
        exact alpha_nil
    rw [e2]
    congr 2
    exact (decide_eq_true (p := (0 : Int) < ((j + 1 : Nat) : Int)) (Int.ofNat_lt.mpr (Nat.succ_pos j))).trans (decide_eq_true (Nat.succ_pos j)).symm
theorem headP_txt {cs : List Int} (ht : TextOk cs) {k : Nat} (hk : k < cs.length) : headP (txt cs) (k : Int) = headB cs k := by
  unfold headP headB
  rw [txt_itemN hk, alpha_of (ht.at hk)]
  cases k with
  | zero => rfl
  | succ j =>
    have hj := Nat.lt_of_succ_lt hk
    rw [i1, txt_itemN hj, Nat.add_sub_cancel, alpha_of (ht.at hj), decide_eq_false (p := ((j + 1 : Nat) : Int) = 0) fun h => Nat.succ_ne_zero j (Int.ofNat.inj h), decide_eq_false (Nat.succ_ne_zero j)]
theorem filter_cast (l : List Nat) (p : Int → Bool) (q : Nat → Bool) (h : ∀ k ∈ l, p (k : Int) = q k) : (l.map fun k : Nat => (k : Int)).filter p = (l.filter q).map fun k : Nat => (k : Int) := by
  rw [List.filter_map]
  congr 1
  exact List.filter_congr fun k hk => h k hk
theorem rangeKs_cast (n : Nat) : rangeKs 0 n = (List.range n).map fun k : Nat => (k : Int) := by
  unfold rangeKs
  refine List.map_congr_left fun k _ => ?_
  exact Int.zero_add _
theorem laterS_txt {cs : List Int} (ht : TextOk cs) {i : Nat} (hi : i ≤ cs.length) : laterS (txt cs) i = (endsL cs i).map fun k : Nat => (k : Int) := by
  unfold laterS runsS
  have hL : cs.length + 1 = i + 1 + (cs.length - i) := by rw [Nat.add_right_comm, Nat.add_sub_cancel' hi]
  rw [txt_len, List.map_id', List.map_id', show (((cs.length : Int) + 1 - 0).toNat) = (i + 1) + (cs.length - i) from hL, rangeKs_cast,
    filter_cast _ _ (endB cs) fun k hk => runP_txt ht (Nat.le_of_lt_succ (Nat.lt_of_lt_of_eq (List.mem_range.mp hk) hL.symm)),
    filter_cast _ _ (fun k => decide (i < k)) fun k hk => decide_eq_decide.mpr Int.ofNat_lt]
  unfold endsL
  congr 1
  rw [List.filter_filter, List.range_eq_range', ← List.range'_append_1, List.filter_append]
  have e1 : (List.range' 0 (i + 1)).filter (fun a => decide (i < a) && endB cs a) = [] := by
    refine List.filter_eq_nil_iff.mpr fun a ha => ?_
    have h0 := (List.mem_range'_1.mp ha).2
    rw [Nat.zero_add] at h0
    rw [decide_eq_false (Nat.not_lt.mpr (Nat.le_of_lt_succ h0))]
    exact Bool.false_ne_true
  rw [e1, List.nil_append, Nat.zero_add]
  refine List.filter_congr fun a ha => ?_
  rw [decide_eq_true (p := i < a) (List.mem_range'_1.mp ha).1, Bool.true_and]
theorem earlierS_txt {cs : List Int} (ht : TextOk cs) {i : Nat} (hi : i ≤ cs.length) : (earlierS (txt cs) i).reverse = (headsL cs i).map fun k : Nat => (k : Int) := by
  unfold earlierS headsS
  have hL : cs.length = i + (cs.length - i) := (Nat.add_sub_cancel' hi).symm
  rw [txt_len, List.map_id', List.map_id', show (((cs.length : Int) - 0).toNat) = i + (cs.length - i) from hL, rangeKs_cast,
    filter_cast _ _ (headB cs) fun k hk => headP_txt ht (Nat.lt_of_lt_of_eq (List.mem_range.mp hk) hL.symm),
    filter_cast _ _ (fun k => decide (k < i)) fun k hk => decide_eq_decide.mpr Int.ofNat_lt]
  unfold headsL
  rw [← List.map_reverse]
  congr 2
  rw [List.filter_filter, List.range_eq_range', ← List.range'_append_1, List.filter_append]
  have e1 : (List.range' (0 + i) (cs.length - i)).filter (fun a => decide (a < i) && headB cs a) = [] := by
    refine List.filter_eq_nil_iff.mpr fun a ha => ?_
    have h0 := (List.mem_range'_1.mp ha).1
    rw [Nat.zero_add] at h0
    rw [decide_eq_false (Nat.not_lt.mpr h0)]
    exact Bool.false_ne_true
  rw [e1, List.append_nil, ← List.range_eq_range']
  refine List.filter_congr fun a ha => ?_
  rw [decide_eq_true (List.mem_range.mp ha), Bool.true_and]
theorem getD_cast (l : List Nat) (k d : Nat) : (l.map fun k : Nat => (k : Int)).getD k (d : Int) = ((l.getD k d : Nat) : Int) := by
  rw [List.getD_eq_getElem?_getD, List.getD_eq_getElem?_getD, List.getElem?_map]
  cases l[k]? <;> rfl
theorem getD_out {l : List Nat} {k d : Nat} (h : l.length ≤ k) : l.getD k d = d := by
  rw [List.getD_eq_getElem?_getD, List.getElem?_eq_none h]; rfl
theorem getD_in {l : List Nat} {k d d' : Nat} (h : k < l.length) : l.getD k d = l.getD k d' := by
  rw [List.getD_eq_getElem?_getD, List.getD_eq_getElem?_getD, List.getElem?_eq_getElem h]; rfl
theorem wmS_txt {cs : List Int} (ht : TextOk cs) {i : Nat} (hi : i ≤ cs.length) {many : Int} (hm : many ≠ 0) : wmS (txt cs) i many = (wordF cs i many : Nat) := by
  unfold wmS wordF
  by_cases h : 0 < many
  · have h' : many > 0 := h
    rw [if_pos h, if_pos h', laterS_txt ht hi, List.length_map, txt_len]
    obtain ⟨k, rfl⟩ := pos_succ h
    rw [Int.toNat_natCast, fwdW_ends k i hi, i1, Int.toNat_natCast]
    split
    · rw [show (0 : Int) = ((0 : Nat) : Int) from rfl, getD_cast, getD_in (d' := cs.length) (Int.ofNat_le.mp ‹_›)]
    · rw [getD_out (Nat.le_of_lt_succ (Int.ofNat_lt.mp (Int.not_le.mp ‹_›)))]
  · have h' : ¬ many > 0 := h
    rw [if_neg h, if_neg h', earlierS_txt ht hi]
    obtain ⟨k, rfl⟩ := neg_succ h hm
    have hlen : (earlierS (txt cs) i).length = (headsL cs i).length := by
      have := congrArg List.length (earlierS_txt ht hi)
      rwa [List.length_reverse, List.length_map] at this
    rw [hlen, Int.zero_sub, Int.neg_neg, i1, Int.toNat_natCast, Int.toNat_natCast, bwdW_heads k i, show (0 : Int) = ((0 : Nat) : Int) from rfl, getD_cast]
    split
    · rfl
    · rw [getD_out (Nat.le_of_lt_succ (Int.ofNat_lt.mp (Int.not_le.mp ‹_›)))]
theorem endsL_gt {cs : List Int} {i k : Nat} (h : k ∈ endsL cs i) : i < k ∧ k ≤ cs.length := by
  unfold endsL at h
  have := (List.mem_filter.mp h).1
  rw [List.mem_range'_1] at this
  omega
theorem headsL_lt {cs : List Int} {i k : Nat} (h : k ∈ headsL cs i) : k < i := by
  unfold headsL at h
  exact List.mem_range.mp (List.mem_filter.mp (List.mem_reverse.mp h)).1
theorem getD_or {l : List Nat} {k d : Nat} : l.getD k d ∈ l ∨ l.getD k d = d := by
  rcases Nat.lt_or_ge k l.length with h | h
  · left
    rw [List.getD_eq_getElem?_getD, List.getElem?_eq_getElem h]
    exact List.getElem_mem _
  · right
    exact getD_out h
theorem fwd_gt {cs : List Int} {i : Nat} {many : Int} (h : many > 0) (hi : i ≤ cs.length) : (i < wordF cs i many ∧ wordF cs i many ≤ cs.length) ∨ wordF cs i many = cs.length := by
  unfold wordF
  rw [if_pos h]
  obtain ⟨k, hk⟩ : ∃ k : Nat, many.toNat = k + 1 := ⟨many.toNat - 1, by (clear hi; lia)⟩
  rw [hk, fwdW_ends k i hi]
  rcases getD_or (l := endsL cs i) (k := k) (d := cs.length) with h | h
  · exact .inl (endsL_gt h)
  · exact .inr h
theorem bwd_lt {cs : List Int} {i : Nat} {many : Int} (h : many < 0) : wordF cs i many < i ∨ wordF cs i many = 0 := by
  unfold wordF
  rw [if_neg (by lia)]
  obtain ⟨k, hk⟩ : ∃ k : Nat, (-many).toNat = k + 1 := ⟨(-many).toNat - 1, by lia⟩
  rw [hk, bwdW_heads k i]
  rcases getD_or (l := headsL cs i) (k := k) (d := 0) with h | h
  · exact .inl (headsL_lt h)
  · exact .inr h
theorem wordF_apart {cs : List Int} {i : Nat} {many : Int} (h : many ≠ 0) (hi : i ≤ cs.length) (hn : 0 < cs.length) : wordF cs (wordF cs i many) (0 - many) ≠ wordF cs i many := by
  rcases Int.lt_or_gt_of_ne h with h | h
  · have h1 := bwd_lt (cs := cs) (i := i) h
    have h2 : wordF cs i many < cs.length := by (clear h; lia)
    have h3 := fwd_gt (cs := cs) (i := wordF cs i many) (many := 0 - many) (by (clear hi hn h1 h2; lia)) (by with_reducible_and_instances exact Nat.le_of_lt h2)
    (clear hi hn h h1; omega)
  · have h1 := fwd_gt (cs := cs) (i := i) h hi
    have h2 : 0 < wordF cs i many := by (clear hi h; lia)
    have h3 := bwd_lt (cs := cs) (i := wordF cs i many) (many := 0 - many) (by (clear hi hn h1 h2; omega))
    (clear hi hn h h1; lia)
end
section
local macro_rules | `(tactic| walk_at "pad") => `(tactic| skip)
local macro_rules | `(tactic| walk_at "pad") => `(tactic| skip)
variable {w : World}
theorem c_wm {news : Led} {cs : List Int} (ht : TextOk cs) (hl : cs.length < 100) (i : Nat) (t0 t1 t2 : Tok) (pl many : Int) (hp : pl = (i : Int)) (hi : i ≤ cs.length) (hm : -2 ≤ many ∧ many ≤ 2 ∧ many ≠ 0) :
    Ctr w 424 8 [.str (txt cs) t0, .int pl t1, .int many t2] news (fun r nw => ∃ t, r = .int (wordF cs i many : Nat) t ∧ nw = news) := by
  subst hp
  rw [← wmS_txt ht hi hm.2.2]
  intro p loose mean mg mb dp un gd cn cs' a ccd cl outer A₀ base h₀ L m s Q E B F X N T hk hd hu hret
  exact c_wm0 (txt cs) (by rw [txt_len]; with_reducible_and_instances exact Nat.lt_of_lt_of_le hl (by decide)) i (by rw [txt_len]; exact hi) t0 t1 t2 many hm p loose mean mg mb dp un gd cn cs' a ccd cl outer A₀ base h₀ L m s Q E B F X N T hk hd hu fun r nw h' tk' F' N' ⟨⟨t, e⟩, e'⟩ => hret r nw h' tk' F' N' ⟨t, e, e'⟩
section
variable {prog : Program} {w : World} {A : Around} {E : Value → Shared → Prop} {s : Shared} {h₀ : Heap} {L : Addr} {m : Str → Option Value} {news : Led} {t u : Tok} {Q : Value → Shared → Prop} {a b : Nat}
theorem minNat (hh : A.handled = none) (F : Fr h₀ L s.heap m) (N : News h₀ L s.heap news)
    (h : ∀ h' tk t', Fr h₀ L h' m → News h₀ L h' news → Q (.int ((min a b : Nat) : Int) t') { s with heap := h', toks := tk }) : wpAny (model prog w) A (call (.builtin "min") [.int (a : Int) t, .int (b : Int) u]) Q E s :=
  min_two_N hh F N fun h' tk F' N' => by
    have e : (if (b : Int) < (a : Int) then (b : Int) else (a : Int)) = ((min a b : Nat) : Int) := by
      rcases Nat.lt_or_ge b a with q | q
      · rw [if_pos (Int.ofNat_lt.mpr q), Nat.min_eq_right (Nat.le_of_lt q)]
      · rw [if_neg (fun z => Nat.not_lt.mpr q (Int.ofNat_lt.mp z)), Nat.min_eq_left q]
    rw [e]; exact h h' tk _ F' N'
theorem maxNat (hh : A.handled = none) (F : Fr h₀ L s.heap m) (N : News h₀ L s.heap news)
    (h : ∀ h' tk t', Fr h₀ L h' m → News h₀ L h' news → Q (.int ((max a b : Nat) : Int) t') { s with heap := h', toks := tk }) : wpAny (model prog w) A (call (.builtin "max") [.int (a : Int) t, .int (b : Int) u]) Q E s :=
  max_two_N hh F N fun h' tk F' N' => by
    have e : (if (b : Int) > (a : Int) then (b : Int) else (a : Int)) = ((max a b : Nat) : Int) := by split <;> (clear h; lia)
    rw [e]; exact h h' tk _ F' N'
end
noncomputable def ResF (r : Value) (front : Led) : Res → Prop
  | .sym s => (∃ t, r = .str s t) ∧ front = []
  | .text s pl => ∃ a t t', r = .ref a ∧ front = [(a, tupO [.str s t, .int pl t'])]
noncomputable def lohi (cs : List Int) (i : Nat) (many : Int) : Nat × Nat × Nat := (min (wordF cs i many) (wordF cs (wordF cs i many) (0 - many)), max (wordF cs i many) (wordF cs (wordF cs i many) (0 - many)), wordF cs (wordF cs i many) (0 - many))
noncomputable def bwR (cs : List Int) (i : Nat) (many : Int) : Res :=
  match exS (txt cs) (lohi cs i (-1)).1 (lohi cs i (-1)).2.1 (lohi cs (if many > 0 then (lohi cs i (-1)).2.2 else (lohi cs i (-1)).1) many).1 (lohi cs (if many > 0 then (lohi cs i (-1)).2.2 else (lohi cs i (-1)).1) many).2.1 with
  | none => .sym "error"
  | some x => .text x (if many > 0 then ((lohi cs (lohi cs i (-1)).2.2 many).2.1 : Int) else (lohi cs (lohi cs i (-1)).1 many).1 + ((lohi cs i (-1)).2.1 - (lohi cs i (-1)).1))
local macro_rules | `(tactic| walk_at "w_bnd") => `(tactic| first | assumption | (refine wordF_le ?_; walk_at "w_bnd") | omega)
theorem ne_of_obj {g h : Heap} {L a b : Addr} {news : Led} {o o' : Obj} (N : News g L h news) (h1 : (a, o) ∈ news) (h2 : (b, o') ∈ news) (hne : o ≠ o') : a ≠ b := fun e => hne (by
  have x := (N _ h1).1
  have y := (N _ h2).1
  dsimp only at x y
  rw [e] at x
  exact Option.some.inj (x.symm.trans y))
theorem bwR_1 {cs : List Int} {i : Nat} {many : Int} (h : exS (txt cs) (lohi cs i (-1)).1 (lohi cs i (-1)).2.1 (lohi cs (if many > 0 then (lohi cs i (-1)).2.2 else (lohi cs i (-1)).1) many).1 (lohi cs (if many > 0 then (lohi cs i (-1)).2.2 else (lohi cs i (-1)).1) many).2.1 = none) : bwR cs i many = .sym "error" := by unfold bwR; rw [h]
theorem bwR_2 {cs : List Int} {i : Nat} {many : Int} {x : Str} (h : exS (txt cs) (lohi cs i (-1)).1 (lohi cs i (-1)).2.1 (lohi cs (if many > 0 then (lohi cs i (-1)).2.2 else (lohi cs i (-1)).1) many).1 (lohi cs (if many > 0 then (lohi cs i (-1)).2.2 else (lohi cs i (-1)).1) many).2.1 = some x) : bwR cs i many = .text x (if many > 0 then ((lohi cs (lohi cs i (-1)).2.2 many).2.1 : Int) else (lohi cs (lohi cs i (-1)).1 many).1 + ((lohi cs i (-1)).2.1 - (lohi cs i (-1)).1)) := by unfold bwR; rw [h]
section
variable {p : Program} {loose : List Str} {mean : ExcName → Option Value} {mg mb : Str → Option Value} {dp un : Nat} {gd : Option (List Code)} {cn : Str} {cs : Scope} {a : Addr} {ccd : Value} {cl : List (Str × Addr)} {outer : List Env} {A₀ : Around} {base h₀ : Heap} {L : Addr} {m : Str → Option Value} {s : Shared} {Q E : Value → Shared → Prop}
theorem use_ex {one other : Addr} {a0 a1 b0 b1 : Int} {t0 t1 u0 u1 : Tok} {others rest : Led} {ps : Array Value} (N : News h₀ L s.heap ((one, tupO [.int a0 t0, .int a1 t1]) :: (other, tupO [.int b0 u0, .int b1 u1]) :: (426, tabObj ps) :: others))
    (hP : ∀ q ∈ others, q.1 ≠ 426) (ht : ExTab 426 qEx ps rest) (hr : ∀ q ∈ rest, q ∈ others) (tx : Str) (hT : tx.length < 100) (tt : Tok) (l1 : 0 ≤ a0 ∧ a0 < a1 ∧ a1 ≤ tx.length) (l2 : 0 ≤ b0 ∧ b0 < b1 ∧ b1 ≤ tx.length)
    (B : Below A₀ base outer h₀) (F : Fr h₀ L s.heap m) (X : (hd.heap_1 w.params).In h₀) (T : Top p loose mean mg mb h₀) (hk : cs.kind = .function) (hd : dp + 6 < recursionLimit) (hu : un + 8 * 6 < cLine)
    (h : ∀ r ps' own h' tk', ExTab 426 qEx ps' (own ++ rest) → (∀ p ∈ own, p.1 ≠ 426 ∧ ∀ q ∈ others, q.1 ≠ p.1) → ExOut (exS tx a0 a1 b0 b1) r → Fr h₀ L h' m → News h₀ L h' ((one, tupO [.int a0 t0, .int a1 t1]) :: (other, tupO [.int b0 u0, .int b1 u1]) :: (426, tabObj ps') :: (own ++ others)) → Q r { s with heap := h', toks := tk' }) :
    wpAny (model PySem.Challenge.rw_np0052_01.row.prog w) (ktrTop dp un gd cn cs L a ccd cl outer) (call (.ref 431) [.str tx tt, .ref one, .ref other]) Q E s := by
  refine use (newsub N (nw' := (426, tabObj ps) :: (one, tupO [.int a0 t0, .int a1 t1]) :: (other, tupO [.int b0 u0, .int b1 u1]) :: others) ?_) (c_ex (fun q hq => ?_) ht (fun q hq => .tail _ (.tail _ (hr q hq))) tx hT tt (.head _) (.tail _ (.head _)) l1 l2) B F X T hk hd hu fun r nw h' tk' F1 N1 x9 => ex_2_4 x9 fun ps' own hx' e hoff hout => ?_
  · exact sub_cons (.tail _ (.tail _ (.head _))) (sub_cons (.head _) (sub_cons (.tail _ (.head _)) fun p hp => .tail _ (.tail _ (.tail _ hp))))
  · rcases List.mem_cons.mp hq with rfl | hq
    · exact ne_of_obj N (.head _) (.tail _ (.tail _ (.head _))) (fun e => nomatch congrArg Obj.data e)
    · rcases List.mem_cons.mp hq with rfl | hq
      · exact ne_of_obj N (.tail _ (.head _)) (.tail _ (.tail _ (.head _))) (fun e => nomatch congrArg Obj.data e)
      · exact hP q hq
  · subst e
    refine h r ps' own h' tk' hx' (fun p hp => ⟨(hoff p hp).1, fun q hq => (hoff p hp).2 q (.tail _ (.tail _ hq))⟩) hout F1 (newsub N1 fun p hp => ?_)
    rcases List.mem_cons.mp hp with rfl | hp
    · exact .tail _ (List.mem_append_right own (.head _))
    · rcases List.mem_cons.mp hp with rfl | hp
      · exact .tail _ (List.mem_append_right own (.tail _ (.head _)))
      · rcases List.mem_cons.mp hp with rfl | hp
        · exact .head _
        · rcases List.mem_append.mp hp with hp | hp
          · exact .tail _ (List.mem_append_left _ hp)
          · exact .tail _ (List.mem_append_right own (.tail _ (.tail _ hp)))
end
theorem front_eq {D : Addr} {x : Str} {tr t : Tok} {z z' : Int} (h : z = z') : [((D, tupO [.str x tr, .int z t]) : Addr × Obj)] = [(D, tupO [.str x tr, .int z' t])] := by rw [h]
theorem c_bw_pos {cs : List Int} {others rest : Led} {ps : Array Value} (hP : ∀ q ∈ others, q.1 ≠ 426) (hx : ExTab 426 qEx ps rest) (hr : ∀ q ∈ rest, q ∈ others) (ht : TextOk cs) (hl : cs.length < 100) (h0 : 0 < cs.length) (i : Nat) (hi : i ≤ cs.length) (t0 t1 t2 : Tok) (many : Int) (hm : 1 ≤ many ∧ many ≤ 2) :
    Ctr w 438 9 [.str (txt cs) t0, .int i t1, .int many t2] ((426, tabObj ps) :: others) (fun r nw => ∃ ps' own front, ExTab 426 qEx ps' (own ++ rest) ∧ nw = front ++ (426, tabObj ps') :: (own ++ others) ∧ (∀ p ∈ own, p.1 ≠ 426 ∧ ∀ q ∈ others, q.1 ≠ p.1) ∧ ResF r front (bwR cs i many)) := by
  revert hP hx hr ht hl h0 hi hm
  revert w cs others rest ps i t0 t1 t2 many
  refine @pk10 _ _ _ _ _ _ _ _ _ _ _ (ne2 (ne2 neW nei) nei) ?_
  generalize wk10 _ _ = q
  generalize q.1 = q0, q.2 = q1
  generalize q0.1 = w, q0.2.1 = cs, q0.2.2.1 = others, q0.2.2.2.1 = rest, q0.2.2.2.2.1 = ps, q0.2.2.2.2.2.1 = i, q0.2.2.2.2.2.2.1 = t0, q0.2.2.2.2.2.2.2 = t1
  generalize q1.1 = t2, q1.2 = many
  clear q q0 q1
  intro hP hx hr ht hl h0 hi hm
  have b1 : wordF cs i (-1) ≤ cs.length := wordF_le hi
  have b2 : wordF cs (wordF cs i (-1)) 1 ≤ cs.length := wordF_le b1
  have b3 : wordF cs (wordF cs i (-1)) 1 ≠ wordF cs i (-1) := wordF_apart (many := -1) (by decide) hi h0
  have b4 := wordF_le (many := many) b2
  have b5 := wordF_le (many := 0 - many) b4
  have b6 := wordF_apart (many := many) (by lia) b2 h0
  refine' ctr_ofW ["_law_text", "_law_at", "_law_many"] ?ho ?hcd ?hb ?hl ?h1 ?h2 ?h3 ?h4 ?_
  (((case ho => k_is); (case hcd => k_is); (case hb => exact rfl); (case hl => exact locs rfl); (case h1 => exact rfl); (case h2 => exact rfl); (case h3 => exact rfl); (case h4 => decide)))
  generalize wp14 _ = c9
  generalize c9.p = p, c9.loose = loose, c9.mean = mean, c9.mg = mg, c9.mb = mb, c9.dp = dp, c9.un = un, c9.gd = gd, c9.outer = outer, c9.A₀ = A₀, c9.base = base, c9.g = g, c9.L = L, c9.s = s
  clear c9
  intro B F X N T hd hu
  (((try dsimp only); (try k_fold)))
  repeat' (first | with_reducible ((show wpAny _ _ (call (Value.ref _) _ _) _ _ _); (k_here; (k_dflt show wpAny _ _ (call (Value.ref 424) _) _ _ _); (refine' useA ?N ?C ?B ?F ?X ?T ?K ?d ?u ?_; (case N => k_asm); (case C => k_dflt exact c_wm (by assumption) (by assumption) _ _ _ _ _ _ (by (first | assumption | exact rfl)) (by walk_at "w_bnd") (by lia)); (((case B => k_asm); (case F => k_asm); (case X => k_asm); (case T => k_asm); (case K => first | exact rfl | assumption); (case d => k_dflt (first | exact room_le (by assumption) (by first | decide | exact Nat.le_refl _ | exact Nat.le_succ_of_le (by assumption)) | ktr_room)); (case u => k_dflt (first | exact unit_le (by assumption) (by decide) | exact unit_le (k := 1) (by assumption) (by decide) | exact unit_le2 (by assumption) (by decide) | exact unit_leK (by assumption) (by first | exact Nat.le_refl _ | exact Nat.le_succ_of_le (by assumption)) | ktr_units))))); (((first | (with_reducible refine aft1 ?_; intro _ _ _ _ _) | (with_reducible refine aft0 ?_; intro _ _ _ _) | (with_reducible refine aft3 ?_; intro _ _ _ _ _ _ _) | (with_reducible refine aft4 ?_; intro _ _ _ _ _ _ _ _) | (with_reducible refine aft5f5 ?_; intro _ _ _ _ _ _ _ _ _ _ _ _ _ _) | (with_reducible refine aft3f2 ?_; intro _ _ _ _ _ _ _ _ _) | (with_reducible refine aft3f1 ?_; intro _ _ _ _ _ _ _ _) | (with_reducible refine aft1f1 ?_; intro _ _ _ _ _ _)))))) | with_reducible ((show wpAny _ _ (call (Value.builtin "min") _ _) _ _ _); (k_here; k_dflt (refine' minNat ?hh ?F ?N ?_; (case hh => with_unfolding_all rfl); (case F => k_asm); (case N => k_asm)); intro h' tk' t' F' N'; (try dsimp only))) | with_reducible ((show wpAny _ _ (call (Value.builtin "max") _ _) _ _ _); (k_here; k_dflt (refine' maxNat ?hh ?F ?N ?_; (case hh => with_unfolding_all rfl); (case F => k_asm); (case N => k_asm)); intro h' tk' t' F' N'; (try dsimp only))) | with_reducible ((show wpAny _ _ (call (Value.ref _) _ _) _ _ _); (k_here; (k_dflt show wpAny _ _ (call (Value.ref 431) _) _ _ _); k_dflt (refine stop_of ?_))) | walk_at "stp")
  refine Stop.go (use_ex (by assumption) hP hx hr (txt cs) (by rw [txt_len]; exact hl) t0 (by rw [txt_len]; exact mm b1 b2 b3) (by rw [txt_len]; exact mm b4 b5 b6) B (by assumption) X T rfl (by first | exact room_le hd (by decide) | lia) (by first | exact unit_le hu (by decide) | exact unit_le2 hu (by decide) | lia) ?_)
  intro r ps' own h' tk' hx' hoff hout F1 N1
  cases hq : exS (txt cs) _ _ _ _ with
  | none =>
    rw [hq] at hout
    obtain rfl : r = .none := hout
    walk_at "steps"
    exact ends (by assumption) (newsub (by assumption) (nw' := (426, tabObj ps') :: (own ++ others)) (fun p hp => .tail _ (.tail _ hp))) ⟨ps', own, [], hx', rfl, hoff, by rw [bwR_1 (by rw [if_pos (by lia)]; exact hq)]; exact ⟨⟨_, rfl⟩, rfl⟩⟩
  | some x =>
    rw [hq] at hout
    obtain ⟨tr, rfl⟩ : ∃ t, r = .str x t := hout
    repeat' (first | with_reducible ((k_here; (with_reducible show wpAny _ _ (subscriptTail _ _ (Value.ref _) (Value.int _ _)) _ _ _); k_dflt (refine item_tupleT (News.isTup (by k_asm) (by k_dflt k_mem)) (by decide) (by decide) (by rfl) (by rfl) ?_))) | walk_at "stp")
    rename News _ _ _ _ => N2
    exact ends (by assumption) (newsub N2 (nw' := (_, tupO [.str _ _, .int _ _]) :: (426, tabObj ps') :: (own ++ others)) (sub_cons (.head _) fun p hp => .tail _ (.tail _ (.tail _ hp)))) ⟨ps', own, [_], hx', rfl, hoff, by rw [bwR_2 (by rw [if_pos (by lia)]; exact hq), if_pos (by lia)]; exact ⟨_, _, _, rfl, rfl⟩⟩
theorem c_bw_neg {cs : List Int} {others rest : Led} {ps : Array Value} (hP : ∀ q ∈ others, q.1 ≠ 426) (hx : ExTab 426 qEx ps rest) (hr : ∀ q ∈ rest, q ∈ others) (ht : TextOk cs) (hl : cs.length < 100) (h0 : 0 < cs.length) (i : Nat) (hi : i ≤ cs.length) (t0 t1 t2 : Tok) (many : Int) (hm : -2 ≤ many ∧ many ≤ -1) :
    Ctr w 438 9 [.str (txt cs) t0, .int i t1, .int many t2] ((426, tabObj ps) :: others) (fun r nw => ∃ ps' own front, ExTab 426 qEx ps' (own ++ rest) ∧ nw = front ++ (426, tabObj ps') :: (own ++ others) ∧ (∀ p ∈ own, p.1 ≠ 426 ∧ ∀ q ∈ others, q.1 ≠ p.1) ∧ ResF r front (bwR cs i many)) := by
  revert hP hx hr ht hl h0 hi hm
  revert w cs others rest ps i t0 t1 t2 many
  refine @pk10 _ _ _ _ _ _ _ _ _ _ _ (ne2 (ne2 neW nei) nei) ?_
  generalize wk10 _ _ = q
  generalize q.1 = q0, q.2 = q1
  generalize q0.1 = w, q0.2.1 = cs, q0.2.2.1 = others, q0.2.2.2.1 = rest, q0.2.2.2.2.1 = ps, q0.2.2.2.2.2.1 = i, q0.2.2.2.2.2.2.1 = t0, q0.2.2.2.2.2.2.2 = t1
  generalize q1.1 = t2, q1.2 = many
  clear q q0 q1
  intro hP hx hr ht hl h0 hi hm
  have b1 : wordF cs i (-1) ≤ cs.length := wordF_le hi
  have b2 : wordF cs (wordF cs i (-1)) 1 ≤ cs.length := wordF_le b1
  have b3 : wordF cs (wordF cs i (-1)) 1 ≠ wordF cs i (-1) := wordF_apart (many := -1) (by decide) hi h0
  have hng : ¬ many > 0 := Int.not_lt.mpr (Int.le_trans hm.2 (by decide))
  have b0 : min (wordF cs i (-1)) (wordF cs (wordF cs i (-1)) 1) ≤ cs.length := Nat.le_trans (Nat.min_le_left _ _) b1
  have b4 := wordF_le (many := many) b0
  have b5 := wordF_le (many := 0 - many) b4
  have b6 := wordF_apart (many := many) (by lia) b0 h0
  refine' ctr_ofW ["_law_text", "_law_at", "_law_many"] ?ho ?hcd ?hb ?hl ?h1 ?h2 ?h3 ?h4 ?_
  (((case ho => k_is); (case hcd => k_is); (case hb => exact rfl); (case hl => exact locs rfl); (case h1 => exact rfl); (case h2 => exact rfl); (case h3 => exact rfl); (case h4 => decide)))
  generalize wp14 _ = c9
  generalize c9.p = p, c9.loose = loose, c9.mean = mean, c9.mg = mg, c9.mb = mb, c9.dp = dp, c9.un = un, c9.gd = gd, c9.outer = outer, c9.A₀ = A₀, c9.base = base, c9.g = g, c9.L = L, c9.s = s
  clear c9
  intro B F X N T hd hu
  (((try dsimp only); (try k_fold)))
  repeat' (first | with_reducible ((show wpAny _ _ (call (Value.ref _) _ _) _ _ _); (k_here; (k_dflt show wpAny _ _ (call (Value.ref 424) _) _ _ _); (refine' useA ?N ?C ?B ?F ?X ?T ?K ?d ?u ?_; (case N => k_asm); (case C => k_dflt exact c_wm (by assumption) (by assumption) _ _ _ _ _ _ (by (first | assumption | exact rfl)) (by walk_at "w_bnd") (by lia)); (((case B => k_asm); (case F => k_asm); (case X => k_asm); (case T => k_asm); (case K => first | exact rfl | assumption); (case d => k_dflt (first | exact room_le (by assumption) (by first | decide | exact Nat.le_refl _ | exact Nat.le_succ_of_le (by assumption)) | ktr_room)); (case u => k_dflt (first | exact unit_le (by assumption) (by decide) | exact unit_le (k := 1) (by assumption) (by decide) | exact unit_le2 (by assumption) (by decide) | exact unit_leK (by assumption) (by first | exact Nat.le_refl _ | exact Nat.le_succ_of_le (by assumption)) | ktr_units))))); (((first | (with_reducible refine aft1 ?_; intro _ _ _ _ _) | (with_reducible refine aft0 ?_; intro _ _ _ _) | (with_reducible refine aft3 ?_; intro _ _ _ _ _ _ _) | (with_reducible refine aft4 ?_; intro _ _ _ _ _ _ _ _) | (with_reducible refine aft5f5 ?_; intro _ _ _ _ _ _ _ _ _ _ _ _ _ _) | (with_reducible refine aft3f2 ?_; intro _ _ _ _ _ _ _ _ _) | (with_reducible refine aft3f1 ?_; intro _ _ _ _ _ _ _ _) | (with_reducible refine aft1f1 ?_; intro _ _ _ _ _ _)))))) | with_reducible ((show wpAny _ _ (call (Value.builtin "min") _ _) _ _ _); (k_here; k_dflt (refine' minNat ?hh ?F ?N ?_; (case hh => with_unfolding_all rfl); (case F => k_asm); (case N => k_asm)); intro h' tk' t' F' N'; (try dsimp only))) | with_reducible ((show wpAny _ _ (call (Value.builtin "max") _ _) _ _ _); (k_here; k_dflt (refine' maxNat ?hh ?F ?N ?_; (case hh => with_unfolding_all rfl); (case F => k_asm); (case N => k_asm)); intro h' tk' t' F' N'; (try dsimp only))) | with_reducible ((show wpAny _ _ (call (Value.ref _) _ _) _ _ _); (k_here; (k_dflt show wpAny _ _ (call (Value.ref 431) _) _ _ _); k_dflt (refine stop_of ?_))) | walk_at "stp")
  refine Stop.go (use_ex (by assumption) hP hx hr (txt cs) (by rw [txt_len]; exact hl) t0 (by rw [txt_len]; exact mm b1 b2 b3) (by rw [txt_len]; exact mm b4 b5 b6) B (by assumption) X T rfl (by first | exact room_le hd (by decide) | lia) (by first | exact unit_le hu (by decide) | exact unit_le2 hu (by decide) | lia) ?_)
  intro r ps' own h' tk' hx' hoff hout F1 N1
  cases hq : exS (txt cs) _ _ _ _ with
  | none =>
    rw [hq] at hout
    obtain rfl : r = .none := hout
    walk_at "steps"
    exact ends (by assumption) (newsub (by assumption) (nw' := (426, tabObj ps') :: (own ++ others)) (fun p hp => .tail _ (.tail _ hp))) ⟨ps', own, [], hx', rfl, hoff, by rw [bwR_1 (by rw [if_neg hng]; exact hq)]; exact ⟨⟨_, rfl⟩, rfl⟩⟩
  | some x =>
    rw [hq] at hout
    obtain ⟨tr, rfl⟩ : ∃ t, r = .str x t := hout
    repeat' (first | with_reducible ((k_here; (with_reducible show wpAny _ _ (subscriptTail _ _ (Value.ref _) (Value.int _ _)) _ _ _); k_dflt (refine item_tupleT (News.isTup (by k_asm) (by k_dflt k_mem)) (by decide) (by decide) (by rfl) (by rfl) ?_))) | walk_at "stp")
    rename News _ _ _ _ => N2
    exact ends (by assumption) (newsub N2 (nw' := (_, tupO [.str _ _, .int _ _]) :: (426, tabObj ps') :: (own ++ others)) (sub_cons (.head _) fun p hp => .tail _ (.tail _ (.tail _ hp)))) ⟨ps', own, [_], hx', rfl, hoff, by
      rw [bwR_2 (by rw [if_neg hng]; exact hq), if_neg hng]
      exact ⟨_, _, _, rfl, front_eq (by
        have e0 : (0 : Int) - -1 = 1 := rfl
        simp only [lohi, e0]
        split <;> lia)⟩⟩
theorem c_bw {cs : List Int} {others rest : Led} {ps : Array Value} (hP : ∀ q ∈ others, q.1 ≠ 426) (hx : ExTab 426 qEx ps rest) (hr : ∀ q ∈ rest, q ∈ others) (ht : TextOk cs) (hl : cs.length < 100) (h0 : 0 < cs.length) (i : Nat) (hi : i ≤ cs.length) (t0 t1 t2 : Tok) (many : Int) (hm : -2 ≤ many ∧ many ≤ 2 ∧ many ≠ 0) :
    Ctr w 438 9 [.str (txt cs) t0, .int i t1, .int many t2] ((426, tabObj ps) :: others) (fun r nw => ∃ ps' own front, ExTab 426 qEx ps' (own ++ rest) ∧ nw = front ++ (426, tabObj ps') :: (own ++ others) ∧ (∀ p ∈ own, p.1 ≠ 426 ∧ ∀ q ∈ others, q.1 ≠ p.1) ∧ ResF r front (bwR cs i many)) := by
  by_cases h : 0 < many
  · exact c_bw_pos hP hx hr ht hl h0 i hi t0 t1 t2 many ⟨by (clear hP hr hl h0 hi hm; lia), by (clear hP hr hl h0 hi h; lia)⟩
  · exact c_bw_neg hP hx hr ht hl h0 i hi t0 t1 t2 many ⟨by (clear hP hr hl h0 hi h; lia), by (clear hP hr hl h0 hi; lia)⟩
end
section
noncomputable abbrev CtrB (w : World) (f : Addr) (k : Nat) (vs : List Value) (news : Led) (P : Heap → Prop) (R : Value → Led → Prop) : Prop :=
  ∀ (p : Program) (loose : List Str) (mean : ExcName → Option Value) (mg mb : Str → Option Value)
    (dp un : Nat) (gd : Option (List Code)) (cn : Str) (cs : Scope) (a : Addr) (ccd : Value) (cl : List (Str × Addr)) (outer : List Env) (A₀ : Around) (base h₀ : Heap) (L : Addr) (m : Str → Option Value) (s : Shared) (Q E : Value → Shared → Prop),
    P base → Below A₀ base outer h₀ → Fr h₀ L s.heap m → (hd.heap_1 w.params).In h₀ → News h₀ L s.heap news → Top p loose mean mg mb h₀ → cs.kind = .function →
    dp + k < recursionLimit → un + 8 * k < cLine →
    (∀ r news' h' tk', Fr h₀ L h' m → News h₀ L h' news' → R r news' → Q r { s with heap := h', toks := tk' }) →
    wpAny (model PySem.Challenge.rw_np0052_01.row.prog w) (ktrTop dp un gd cn cs L a ccd cl outer) (call (.ref f) vs) Q E s
theorem ctr_ofB {w : World} {f : Addr} {k : Nat} {vs : List Value} {news : Led} {P : Heap → Prop} {R : Value → Led → Prop} (names : List Str)
    {name qual : Str} {params : Arguments} {body : List Stmt} {scope : Scope} {dV kV doc pm cdv ct oc : Value} {an od : Option Addr} {osl : Array (Option Value)}
    (ho : (hd.heap_1 w.params).lookup f = some ⟨oc, od, .func (fnOf name qual params body scope dV kV doc pm an cdv ct), osl⟩) (hcd : codeIn (hd.heap_1 w.params) cdv qual = true)
    (hb : bindArgs (fnOf name qual params body scope dV kV doc pm an cdv ct) ⟨vs, []⟩ = pure (names.zip vs)) (hloc : ∀ y ∈ names.zip vs, scope.names.lookup y.1 = some .local)
    (hco : scope.isCoroutine = false) (hgen : scope.isGenerator = false) (hkd : scope.kind = .function) (hcell : ∀ x ∈ scope.names, x.2 ≠ .cell)
    (h : ∀ (p : Program) (loose : List Str) (mean : ExcName → Option Value) (mg mb : Str → Option Value) (dp un : Nat) (gd : Option (List Code)) (outer : List Env) (A₀ : Around) (base g : Heap) (L : Addr) (s : Shared),
      P base → Below A₀ base outer g → Fr g L s.heap (fun y => (names.zip vs).reverse.lookup y) → (hd.heap_1 w.params).In g → News g L s.heap news → Top p loose mean mg mb g → dp + k < recursionLimit → un + 8 * k + 4 < cLine →
      wpAny (model PySem.Challenge.rw_np0052_01.row.prog w) (ktrTop dp un gd qual scope L f cdv [] outer) (execs body (envX qual scope L f cdv []))
        (fun fl s' => Ends g L s R (match fl with | .ret v => v | _ => .none) s') (fun _ _ => False) s) : CtrB w f (k + 1) vs news P R := by
  intro p loose mean mg mb dp un gd cn cs a ccd cl outer A₀ base h₀ L m s Q E hPb B F X N T hk hd hu hret
  refine wpAny_call ?_
  refine code_def (binds := names.zip vs) B F X N T rfl rfl hk ho hcd (dp0 hd) (BindsTo.of_eq hb) hloc (fun g L' h₁ FG F' N' B' X' T' => ?_) hco hgen hkd hcell
  have h1 := h p loose mean mg mb (dp + 1) (un + 3) gd (envX cn cs L a ccd cl :: outer) _ base g L' { s with heap := h₁, toks := s.toks + (names.zip vs).length } hPb B' F' X' N' T' (dpS hd) (unS hu)
  refine wpAny_mono h1 (fun fl s' hl => ?_) fun _ _ x => x.elim
  refine genP fun C9 k9 => ?_
  refine ex_4_4 (hl) ?_
  try clear hl
  intro m' nw h' tk' e9_4 Fe Ne r
  subst e9_4
  refine k9 ?_
  clear k9 C9
  exact leaveK_ Fe Ne fun F2 N2 => hret _ _ _ _ F2 N2 r
noncomputable def BdB (w : World) (f : Addr) (k : Nat) (vs : List Value) (news : Led) (P : Heap → Prop) (R : Value → Led → Prop) (names : List Str) (qual : Str) (body : List Stmt) (scope : Scope) (cdv : Value) (p : Program) (loose : List Str) (mean : ExcName → Option Value) (mg mb : Str → Option Value) (dp un : Nat) (gd : Option (List Code)) (outer : List Env) (A₀ : Around) (base g : Heap) (L : Addr) (s : Shared) : Prop :=
      P base → Below A₀ base outer g → Fr g L s.heap (fun y => (names.zip vs).reverse.lookup y) → (hd.heap_1 w.params).In g → News g L s.heap news → Top p loose mean mg mb g → dp + k < recursionLimit → un + 8 * k + 4 < cLine →
      wpAny (model PySem.Challenge.rw_np0052_01.row.prog w) (ktrTop dp un gd qual scope L f cdv [] outer) (execs body (envX qual scope L f cdv []))
        (fun fl s' => Ends g L s R (match fl with | .ret v => v | _ => .none) s') (fun _ _ => False) s
theorem ctr_ofBW {w : World} {f : Addr} {k : Nat} {vs : List Value} {news : Led} {P : Heap → Prop} {R : Value → Led → Prop} (names : List Str)
    {name qual : Str} {params : Arguments} {body : List Stmt} {scope : Scope} {dV kV doc pm cdv ct oc : Value} {an od : Option Addr} {osl : Array (Option Value)}
    (ho : (hd.heap_1 w.params).lookup f = some ⟨oc, od, .func (fnOf name qual params body scope dV kV doc pm an cdv ct), osl⟩) (hcd : codeIn (hd.heap_1 w.params) cdv qual = true)
    (hb : bindArgs (fnOf name qual params body scope dV kV doc pm an cdv ct) ⟨vs, []⟩ = pure (names.zip vs)) (hloc : ∀ y ∈ names.zip vs, scope.names.lookup y.1 = some .local)
    (hco : scope.isCoroutine = false) (hgen : scope.isGenerator = false) (hkd : scope.kind = .function) (hcell : ∀ x ∈ scope.names, x.2 ≠ .cell)
    (h : BdB w f k vs news P R names qual body scope cdv (wp14 (BdB w f k vs news P R names qual body scope cdv)).p (wp14 (BdB w f k vs news P R names qual body scope cdv)).loose (wp14 (BdB w f k vs news P R names qual body scope cdv)).mean (wp14 (BdB w f k vs news P R names qual body scope cdv)).mg (wp14 (BdB w f k vs news P R names qual body scope cdv)).mb (wp14 (BdB w f k vs news P R names qual body scope cdv)).dp (wp14 (BdB w f k vs news P R names qual body scope cdv)).un (wp14 (BdB w f k vs news P R names qual body scope cdv)).gd (wp14 (BdB w f k vs news P R names qual body scope cdv)).outer (wp14 (BdB w f k vs news P R names qual body scope cdv)).A₀ (wp14 (BdB w f k vs news P R names qual body scope cdv)).base (wp14 (BdB w f k vs news P R names qual body scope cdv)).g (wp14 (BdB w f k vs news P R names qual body scope cdv)).L (wp14 (BdB w f k vs news P R names qual body scope cdv)).s) : CtrB w f (k + 1) vs news P R :=
  ctr_ofB names ho hcd hb hloc hco hgen hkd hcell (all14 (P := BdB w f k vs news P R names qual body scope cdv) h)
variable {w : World}
theorem c_deck_ofB {l : Addr} {vs : List Value} {ns : List Int} {news : Led} (hi : IntsAre vs ns) (hl : ns.length < 64) :
    CtrB w 395 3 [.ref l] news (fun b => b.IsList l (List.toArray vs)) (fun r nw => ∃ a vs' ns' k, r = .ref a ∧ nw = (a, listOf (List.toArray vs') k) :: news ∧ IntsAre vs' ns' ∧ DeckOk ns' ∧ ns'.length < 100 ∧ (∀ p ∈ news, p.1 ≠ a)) := by
  revert hi hl
  revert w l vs ns news
  refine @pk5 _ _ _ _ _ _ (ne2 neW nei) ?_
  generalize wk5 _ _ = q
  generalize q.1 = w, q.2.1 = l, q.2.2.1 = vs, q.2.2.2.1 = ns, q.2.2.2.2 = news
  clear q
  intro hi hl
  refine' ctr_ofBW ["script"] ?ho ?hcd ?hb ?hl ?h1 ?h2 ?h3 ?h4 ?_
  (((case ho => k_is); (case hcd => k_is); (case hb => exact rfl); (case hl => exact locs rfl); (case h1 => exact rfl); (case h2 => exact rfl); (case h3 => exact rfl); (case h4 => decide)))
  generalize wp14 _ = c9
  generalize c9.p = p, c9.loose = loose, c9.mean = mean, c9.mg = mg, c9.mb = mb, c9.dp = dp, c9.un = un, c9.gd = gd, c9.outer = outer, c9.A₀ = A₀, c9.base = base, c9.g = g, c9.L = L, c9.s = s
  clear c9
  intro hPb B F X N T hd hu
  have hgl : g.IsList l (List.toArray vs) := hPb.at fun o e => B.stays l o e
  (((try dsimp only); (try k_fold)))
  repeat' (first | with_reducible ((show wpAny _ _ (pyIter (Value.ref _)) _ _ _); walk_at "st") | walk_at "stp")
  rename Fr _ _ _ _ => F0
  rename News _ _ _ _ => N0
  rename IntsAre _ (List.take 24 ns) => i0
  refine Stop.go (iter_J rfl (.head _) F0 N0 (fun _ m₁ => ∃ z t, 0 ≤ z ∧ z < 2147483647 ∧ m₁ "_law_mixed" = some (.int z t) ∧ m₁ "script" = some (.ref l)) ⟨7, _, by decide, by decide, rfl, rfl⟩ ?_ ?_)
  · intro i v m₁ s₁ own hv p9_6 hoff F1 N1
    refine ex_2_4 (p9_6) ?_
    try clear p9_6
    intro z tz z0 z1 m2 m3
    obtain ⟨c, tc, rfl⟩ : ∃ c tc, v = .int c tc := by
      refine ex_2_2 (IntsAre.at i0 i v hv) ?_
      intro c tc e _
      exact ⟨c, tc, e⟩
    clear F0 N0
    refine genP fun C9 k9 => ?_
    obtain ⟨hh, gg, dd, tt, oo⟩ := s₁
    refine k9 ?_
    clear k9 C9
    dsimp only at F1 N1
    repeat' (first | (k_unfold; (try dsimp only)) | (k_unmd; k_unfold; (try dsimp only)) | (walk1; (try dsimp only)) | ((fail_if_success (refine Stop.go ?_)); dsimp only))
    refine Stop.go ?_
    exact LoopStepU.intro (by assumption) (by assumption) (by assumption) ⟨rfl, _, _, Int.fmod_nonneg_of_pos _ (by decide), Int.fmod_lt_of_pos _ (by decide), by walk_at "c_look", by walk_at "c_look"⟩
  · intro h' tk m' F1 N1 p9_5
    refine ex_2_4 (p9_5) ?_
    try clear p9_5
    intro z tz z0 z1 m2 m3
    clear F0 N0 i0
    walk_at "steps"
    rename Fr _ _ _ _ => F0
    rename News _ _ _ _ => N0
    rename IntsAre _ (List.take 24 ns) => i0
    have hlen : (List.take 24 ns).length ≤ 24 := by rw [List.length_take]; with_reducible_and_instances exact Nat.min_le_left _ _
    refine Stop.go (LCt.CompSrcT.ledger rfl F0 N0 (.head _) (by rw [List.size_toArray, i0.length, PySem.sizeLine_eq]; with_reducible_and_instances exact Nat.le_trans hlen (by decide)) fun g' => ?_)
    refine test_rest (ks := List.take 24 ns) (fun c => decide (10 ^ Int.toNat 9 ≤ (if c < 0 then -c else c))) (fun c => (if c < 0 then -c else c).fmod (10 ^ Int.toNat 60)) (by rw [List.size_toArray, i0.length]) (fun i v _ hv => ?_) (fun k t I oI C oC D m₂ ys h tk E' hk hC hx F N off ne => ?_) fun ys hy => ?_
    · refine ex_2_2 (IntsAre.at i0 i v (by simpa using hv)) ?_
      intro c tc e hc
      exact ⟨c, tc, hc, e⟩
    · repeat' (first | (k_unfold; (try dsimp only)) | (k_unmd; k_unfold; (try dsimp only)) | (walk1; (try dsimp only)) | ((fail_if_success (refine Stop.go ?_)); dsimp only))
      · refine Stop.go ?_
        exact LCg.CompEnd.intro (by assumption) (by assumption) _ (fun _ h => h) off (.inr ⟨_, .head _, rfl, _, rfl⟩) ⟨rfl, decide_eq_true (by assumption), _, rfl⟩
      · refine Stop.go ?_
        exact LCg.CompEnd.intro (by assumption) (by assumption) _ (fun _ h => h) off (.inr ⟨_, .head _, rfl, _, rfl⟩) ⟨rfl, decide_eq_false (by assumption)⟩
    · intro D h tk F N o1
      have o2 := off1_mem o1
      have hb : ∀ n ∈ (List.filter (fun c => decide (10 ^ Int.toNat 9 ≤ (if c < 0 then -c else c))) (List.take 24 ns)).map (fun c => (if c < 0 then -c else c).fmod (10 ^ Int.toNat 60)), 0 ≤ n ∧ n < 10 ^ 61 := by
        intro n hn
        refine genP fun C9 k9 => ?_
        refine ex_1_2 (List.mem_map.mp hn) ?_
        intro c _ e9_2
        subst e9_2
        refine k9 ?_
        clear k9 C9
        have hp : (0 : Int) < 10 ^ Int.toNat 60 := by decide
        exact ⟨Int.fmod_nonneg_of_pos _ hp, Int.lt_trans (Int.fmod_lt_of_pos _ hp) (by decide)⟩
      have hl2 : ((List.filter (fun c => decide (10 ^ Int.toNat 9 ≤ (if c < 0 then -c else c))) (List.take 24 ns)).map (fun c => (if c < 0 then -c else c).fmod (10 ^ Int.toNat 60))).length ≤ 24 := by
        rw [List.length_map]
        exact Nat.le_trans (List.length_filter_le _ _) hlen
      generalize (List.filter (fun c => decide (10 ^ Int.toNat 9 ≤ (if c < 0 then -c else c))) (List.take 24 ns)).map (fun c => (if c < 0 then -c else c).fmod (10 ^ Int.toNat 60)) = ms at hy hb hl2
      have i1 : IntsAre [Value.int z tz] [z] := .cons _ _ .nil
      walk_at "steps"
      rename_i D9 w9 h9 F9 N9 I9 l9
      exact ends F9 (newsub N9 (nw' := (D9, listOf (List.toArray w9) 0) :: news) (by walk_at "c_keep")) ⟨D9, w9, ms ++ [z], 0, rfl, rfl, I9, ⟨by simp, fun n hn => (List.mem_append.mp hn).elim (hb n) fun q => by rw [List.mem_singleton.mp q]; exact ⟨z0, Int.lt_trans z1 (by decide)⟩⟩, by rw [List.length_append]; show _ + 1 < 100; (clear hl hd hu z0 z1 hlen o2 hb l9; lia), allLt_mem l9.2.2.2.2⟩
end
section
section
variable {prog : Program} {w : World} {A : Around} {E : Value → Shared → Prop} {s : Shared} {h₀ : Heap} {L : Addr} {m : Str → Option Value} {env : Env}
theorem str_st {I : Addr} {T : String} {tx : Str} {t : Tok} : ∀ i (h h' : Heap) (o : Obj) (nw : Led), h.IsStrIter I T tx t i → h.get? I = some o → h'.get? I = some o → (∀ b o, h₀.get? b = some o → h'.get? b = some o) → News h₀ L h' nw → True → h'.IsStrIter I T tx t i :=
  fun i h h' o nw st e e' _ _ _ => by
    refine ex_1_2 (st) ?_
    try clear st
    intro o2 ho r
    rw [e] at ho
    cases ho
    exact ⟨o, e', r⟩
noncomputable def SrcST (prog : Program) (w : World) (A : Around) (h₀ : Heap) (L : Addr) (m : Str → Option Value) (env : Env) (ct elt : Expr) (x : Str) (scope : Scope) (cl : List (Str × Addr)) (Q : Value → Shared → Prop) (xv : Value) (s₁ : Shared) : Prop :=
  ∃ tx t news, xv = .str tx t ∧ A.handled = none ∧ Fr h₀ L s₁.heap m ∧ News h₀ L s₁.heap news ∧ tx.cps.size ≤ sizeLine ∧
      ∀ g, LCt.CompRestT prog w A h₀ L m env ct elt x scope cl { s₁ with heap := g } (fun _ => True) (SignAt tx) (LCg.FinE h₀ L m { s₁ with heap := g } Q) tx.cps.size 0 [] news
noncomputable def SrcSU (prog : Program) (w : World) (A : Around) (h₀ : Heap) (L : Addr) (m : Str → Option Value) (env : Env) (elt : Expr) (x : Str) (scope : Scope) (cl : List (Str × Addr)) (Q : Value → Shared → Prop) (xv : Value) (s₁ : Shared) : Prop :=
  ∃ tx t news, xv = .str tx t ∧ A.handled = none ∧ Fr h₀ L s₁.heap m ∧ News h₀ L s₁.heap news ∧ tx.cps.size ≤ sizeLine ∧
      ∀ g, LCg.CompRest prog w A h₀ L m env elt x scope cl { s₁ with heap := g } (fun _ => True) (SignAt tx) (LCg.FinE h₀ L m { s₁ with heap := g } Q) tx.cps.size 0 [] news
theorem ListComp_TS {ct elt iter : Expr} {x : Str} {px : Pos} {scope : Scope} {cl : List (Str × Addr)} {pos : Pos} {Q : Value → Shared → Prop} (_F₀ : Fr h₀ L s.heap m)
    (hclos : closureFor scope env = pure cl) (hcell : ∀ y ∈ scope.names, y.2 ≠ .cell) (hkind : scope.kind = .function)
    (hnames : ∀ y ∈ scope.names, y.2 = .local → scope.names.lookup y.1 = some .local) (hx : scope.names.lookup x = some .local)
    (h : wpAny (model prog w) A (eval iter env) (SrcST prog w A h₀ L m env ct elt x scope cl Q) E s)
    (hs : ∀ x, foldedSetIterable iter env x = pure x := by intro _; rfl) :
    wpAny (model prog w) A (eval (.ListComp elt [⟨.Name x px, iter, [ct], 0⟩] scope pos) env) Q E s := by
  rw [eval_ListComp]
  refine wpAny_comprehension_free (use := none) rfl hs hclos hkind hnames (wpAny_mono h (fun xv s₁ h₁ => ?_) fun _ _ e => e)
  refine genP fun C9 k9 => ?_
  refine ex_3_6 (h₁) ?_
  try clear h₁
  intro tx t news e9_3 hh F N hsz R
  subst e9_3
  refine k9 ?_
  clear k9 C9
  cases ha : tx.cps.all (· < 128)
  · refine wpAny_pyIter_wide ha ?_
    refine LCt.block_T (Walks.strWide hh _ tx t) hsz (fun i h st => by obtain ⟨o, e, _⟩ := st; exact ⟨o, e⟩) str_st hcell hkind hx ⟨_, Heap.get?_push_size _ rfl, rfl, rfl⟩ (fun b hb => ?_)
      (F.keeps fun _ _ e => Heap.get?_push_of_some _ e) (N.grown fun _ _ e => Heap.get?_push_of_some _ e) (Nat.ne_of_lt F.ns.lt) (next_is_new F) (fun p hp => Nat.ne_of_lt (Heap.lt_size (N p hp).1)) trivial (R _) ?_
    · rw [List.mem_singleton.mp hb]
      show s₁.heap.objs.size < (s₁.heap.push _).objs.size
      rw [Heap.size_push]; exact Nat.lt_succ_self _
    · intro D C h tk m' ys news' F' N' o1 hn hC₀ hD₀ hCL hDL hCD offC fin
      refine ⟨m', hn, fun h'' hs'' => fin D h'' tk (F'.change hs'' hCL hC₀) (fun p hp => ?_) o1⟩
      refine ⟨hs''.extBut _ _ ?_ (N' p hp).1, (N' p hp).2⟩
      rcases List.mem_cons.mp hp with rfl | hp
      · exact Ne.symm hCD
      · exact offC p hp
  · refine wpAny_pyIter_ascii ha ?_
    refine LCt.block_T (Walks.strAscii hh _ tx t) hsz (fun i h st => by obtain ⟨o, e, _⟩ := st; exact ⟨o, e⟩) str_st hcell hkind hx ⟨_, Heap.get?_push_size _ rfl, rfl, rfl⟩ (fun b hb => ?_)
      (F.keeps fun _ _ e => Heap.get?_push_of_some _ e) (N.grown fun _ _ e => Heap.get?_push_of_some _ e) (Nat.ne_of_lt F.ns.lt) (next_is_new F) (fun p hp => Nat.ne_of_lt (Heap.lt_size (N p hp).1)) trivial (R _) ?_
    · rw [List.mem_singleton.mp hb]
      show s₁.heap.objs.size < (s₁.heap.push _).objs.size
      rw [Heap.size_push]; exact Nat.lt_succ_self _
    · intro D C h tk m' ys news' F' N' o1 hn hC₀ hD₀ hCL hDL hCD offC fin
      refine ⟨m', hn, fun h'' hs'' => fin D h'' tk (F'.change hs'' hCL hC₀) (fun p hp => ?_) o1⟩
      refine ⟨hs''.extBut _ _ ?_ (N' p hp).1, (N' p hp).2⟩
      rcases List.mem_cons.mp hp with rfl | hp
      · exact Ne.symm hCD
      · exact offC p hp
theorem ListComp_US {elt iter : Expr} {x : Str} {px : Pos} {scope : Scope} {cl : List (Str × Addr)} {pos : Pos} {Q : Value → Shared → Prop} (_F₀ : Fr h₀ L s.heap m)
    (hclos : closureFor scope env = pure cl) (hcell : ∀ y ∈ scope.names, y.2 ≠ .cell) (hkind : scope.kind = .function)
    (hnames : ∀ y ∈ scope.names, y.2 = .local → scope.names.lookup y.1 = some .local) (hx : scope.names.lookup x = some .local)
    (h : wpAny (model prog w) A (eval iter env) (SrcSU prog w A h₀ L m env elt x scope cl Q) E s)
    (hs : ∀ x, foldedSetIterable iter env x = pure x := by intro _; rfl) :
    wpAny (model prog w) A (eval (.ListComp elt [⟨.Name x px, iter, [], 0⟩] scope pos) env) Q E s := by
  rw [eval_ListComp]
  refine wpAny_comprehension_free (use := none) rfl hs hclos hkind hnames (wpAny_mono h (fun xv s₁ h₁ => ?_) fun _ _ e => e)
  refine genP fun C9 k9 => ?_
  refine ex_3_6 (h₁) ?_
  try clear h₁
  intro tx t news e9_3 hh F N hsz R
  subst e9_3
  refine k9 ?_
  clear k9 C9
  cases ha : tx.cps.all (· < 128)
  · refine wpAny_pyIter_wide ha ?_
    refine LCg.block_U (Walks.strWide hh _ tx t) hsz (fun i h st => by obtain ⟨o, e, _⟩ := st; exact ⟨o, e⟩) str_st hcell hkind hx ⟨_, Heap.get?_push_size _ rfl, rfl, rfl⟩ (fun b hb => ?_)
      (F.keeps fun _ _ e => Heap.get?_push_of_some _ e) (N.grown fun _ _ e => Heap.get?_push_of_some _ e) (Nat.ne_of_lt F.ns.lt) (next_is_new F) (fun p hp => Nat.ne_of_lt (Heap.lt_size (N p hp).1)) trivial (R _) ?_
    · rw [List.mem_singleton.mp hb]
      show s₁.heap.objs.size < (s₁.heap.push _).objs.size
      rw [Heap.size_push]; exact Nat.lt_succ_self _
    · intro D C h tk m' ys news' F' N' o1 hn hC₀ hD₀ hCL hDL hCD offC fin
      refine ⟨m', hn, fun h'' hs'' => fin D h'' tk (F'.change hs'' hCL hC₀) (fun p hp => ?_) o1⟩
      refine ⟨hs''.extBut _ _ ?_ (N' p hp).1, (N' p hp).2⟩
      rcases List.mem_cons.mp hp with rfl | hp
      · exact Ne.symm hCD
      · exact offC p hp
  · refine wpAny_pyIter_ascii ha ?_
    refine LCg.block_U (Walks.strAscii hh _ tx t) hsz (fun i h st => by obtain ⟨o, e, _⟩ := st; exact ⟨o, e⟩) str_st hcell hkind hx ⟨_, Heap.get?_push_size _ rfl, rfl, rfl⟩ (fun b hb => ?_)
      (F.keeps fun _ _ e => Heap.get?_push_of_some _ e) (N.grown fun _ _ e => Heap.get?_push_of_some _ e) (Nat.ne_of_lt F.ns.lt) (next_is_new F) (fun p hp => Nat.ne_of_lt (Heap.lt_size (N p hp).1)) trivial (R _) ?_
    · rw [List.mem_singleton.mp hb]
      show s₁.heap.objs.size < (s₁.heap.push _).objs.size
      rw [Heap.size_push]; exact Nat.lt_succ_self _
    · intro D C h tk m' ys news' F' N' o1 hn hC₀ hD₀ hCL hDL hCD offC fin
      refine ⟨m', hn, fun h'' hs'' => fin D h'' tk (F'.change hs'' hCL hC₀) (fun p hp => ?_) o1⟩
      refine ⟨hs''.extBut _ _ ?_ (N' p hp).1, (N' p hp).2⟩
      rcases List.mem_cons.mp hp with rfl | hp
      · exact Ne.symm hCD
      · exact offC p hp
end
end
section
variable {w : World} {news : Led}
theorem none_rest {prog : Program} {A : Around} {h₀ : Heap} {L : Addr} {m : Str → Option Value} {env : Env} {ct elt : Expr} {x : Str} {scope : Scope} {cl : List (Str × Addr)} {s : Shared} {S : Led → Prop} {P : Nat → Value → Prop} {Fin : List Value → Led → Prop} {news : Led} {ys : List Value}
    (turn : ∀ i v I oI C oC D m₂ h tk (E' : Value → Shared → Prop), P i v → LCg.NsObj oC m₂ → m₂ x = some v → Fr h₀ L h m → News h₀ L h ((I, oI) :: (C, oC) :: (D, LCg.lst ys) :: news) → LCg.Off3 I C D news → ((@Ne Nat I C) ∧ (@Ne Nat I D) ∧ (@Ne Nat C D)) →
      wpAny (model prog w) A (isTrue ct (compEnvC scope cl C env) (eval ct (compEnvC scope cl C env))) (fun ok s' => if ok = true then
        wpAny (model prog w) A (eval elt (compEnvC scope cl C env)) (LCg.CompEnd h₀ L m { s with heap := h, toks := tk } I oI C oC D (LCg.lst ys) S (fun _ _ => False)) E' s'
        else LCg.CompEnd h₀ L m { s with heap := h, toks := tk } I oI C oC D (LCg.lst ys) S (fun _ news' => news' = news) Value.none s') E' { heap := h, gens := s.gens, drawn := s.drawn, toks := tk, os := s.os })
    (fin : Fin ys news) : ∀ n i, LCt.CompRestT prog w A h₀ L m env ct elt x scope cl s S P Fin n i ys news
  | 0, _ => fin
  | n + 1, i => fun v I oI C oC D m₂ h tk E' hv hC hx F N off ne => by
    refine wpAny_mono (turn i v I oI C oC D m₂ h tk E' hv hC hx F N off ne) (fun ok s₂ hq => ?_) fun _ _ e => e
    by_cases hok : ok = true
    · rw [if_pos hok] at hq ⊢
      refine wpAny_mono hq (fun y s₃ hq => ?_) fun _ _ e => e
      refine ex_3_6 (hq) ?_
      try clear hq
      intro h' tk' nw e F' N' off' hS hf
      exact hf.elim
    · rw [if_neg hok] at hq ⊢
      refine ex_3_6 (hq) ?_
      try clear hq
      intro h' tk' nw e F' N' off' hS hn
      subst hn
      exact ⟨h', tk', _, e, F', N', off', hS, none_rest turn fin n (i + 1)⟩
theorem empty_has (c : Nat) : Txt.contains "" ⟨#[c]⟩ = false := by
  unfold Txt.contains
  rw [PyProof.Rows.in_meets]
  rfl
theorem c_sf (x : Str) (hx : x = "") (t : Tok) : Ctr w 205 4 [.str x t] news (fun r nw => ∃ t, r = .str "" t ∧ nw = news) := by
  revert hx
  revert w news x t
  refine @pk4 _ _ _ _ _ (ne2 neW nei) ?_
  generalize wk4 _ _ = q
  generalize q.1 = w, q.2.1 = news, q.2.2.1 = x, q.2.2.2 = t
  clear q
  intro hx
  subst hx
  refine' ctr_ofCW ["text"] ?ho ?hcd ?hb ?hl ?h1 ?h2 ?h3 ?h4 ?_
  (((case ho => k_is); (case hcd => k_is); (case hb => exact rfl); (case hl => exact rfl); (case h1 => exact rfl); (case h2 => exact rfl); (case h3 => exact rfl); (case h4 => decide)))
  generalize wp15 _ = c9
  generalize c9.p = p, c9.loose = loose, c9.mean = mean, c9.mg = mg, c9.mb = mb, c9.dp = dp, c9.un = un, c9.gd = gd, c9.outer = outer, c9.A₀ = A₀, c9.base = base, c9.g = g, c9.L = L, c9.s = s, c9.cells = cells
  clear c9
  intro B F X N Y hlt T hd hu
  refine genP fun C9 k9 => ?_
  refine ex_1_2 (CellsAre.one Y) ?_
  intro oc e9_1 hoc
  subst e9_1
  refine k9 ?_
  clear k9 C9
  simp only [List.cons_append, List.nil_append] at N
  (((try dsimp only); (try k_fold)))
  repeat' (first | with_reducible ((show wpAny _ _ (eval (Expr.ListComp _ _ _ _) _) _ _ _); (k_here; k_dflt (first | refine ListComp_TS (_F₀ := by k_asm) (by with_unfolding_all rfl) (by decide) (by rfl) (by decide) (by rfl) ?_ | refine ListComp_US (_F₀ := by k_asm) (by with_unfolding_all rfl) (by decide) (by rfl) (by decide) (by rfl) ?_))) | walk_at "stp")
  refine Stop.go ⟨_, _, _, rfl, rfl, by assumption, by assumption, by rw [PySem.sizeLine_eq]; decide +kernel, fun gg => none_rest (fun i v I oI C oC D m₂ h tk E' hv hC hx F N off ne => ?_) ?_ _ _⟩
  · refine genP fun C9 k9 => ?_
    refine ex_2_2 (hv) ?_
    try clear hv
    intro c u hc e9_3
    subst e9_3
    refine k9 ?_
    clear k9 C9
    have he : (!(Builtin.Str.occurrences (Str.ofString "") ⟨#[c]⟩ 0 (Str.ofString "").length 1).isEmpty) = false := empty_has c
    walk_at "steps"
    refine Stop.go ?_
    exact LCg.CompEnd.intro (by assumption) (by assumption) _ (fun _ h => h) off trivial rfl
  · intro D h tk F N o1
    walk_at "steps"
    exact ends (by assumption) (newsub (by assumption) (nw' := news) (by walk_at "c_keep")) ⟨_, rfl, rfl⟩
end
section
variable {w : World} {news : Led}
theorem allLt_lt {d : Addr} : ∀ {l : Led}, AllLt d l → ∀ p ∈ l, p.1 < d
  | [], _, _, h => nomatch h
  | _ :: _, x, p, h => by
    rcases List.mem_cons.mp h with rfl | h
    · exact x.1
    · exact allLt_lt x.2 p h
theorem c_rs1 (d : Str) (hd1 : d.length = 1) (hd2 : ¬ d = "") (hd3 : (d == "") = false) (hm : (Txt.item d 0 == "-") = false) (hk : (!(Builtin.Str.occurrences " w_.()'\"\\/$<>@!|" (Txt.item d 0) 0 (Str.length " w_.()'\"\\/$<>@!|") 1).isEmpty) = true) (hs : Txt.slice d (some 2) none = "") (t : Tok) : Ctr w 210 5 [.str d t] news (fun r nw => ∃ syn own, r = .ref syn ∧ nw = own ++ news ∧ SynAt own syn (Txt.item d 0) ∧ ∀ p ∈ own, ∀ q ∈ news, q.1 ≠ p.1) := by
  revert hd1 hd2 hd3 hm hk hs
  revert w news d t
  refine @pk4 _ _ _ _ _ (ne2 neW nei) ?_
  generalize wk4 _ _ = q
  generalize q.1 = w, q.2.1 = news, q.2.2.1 = d, q.2.2.2 = t
  clear q
  intro hd1 hd2 hd3 hm hk hs
  refine' ctr_ofW ["text"] ?ho ?hcd ?hb ?hl ?h1 ?h2 ?h3 ?h4 ?_
  (((case ho => k_is); (case hcd => k_is); (case hb => exact rfl); (case hl => exact locs rfl); (case h1 => exact rfl); (case h2 => exact rfl); (case h3 => exact rfl); (case h4 => decide)))
  generalize wp14 _ = c9
  generalize c9.p = p, c9.loose = loose, c9.mean = mean, c9.mg = mg, c9.mb = mb, c9.dp = dp, c9.un = un, c9.gd = gd, c9.outer = outer, c9.A₀ = A₀, c9.base = base, c9.g = g, c9.L = L, c9.s = s
  clear c9
  intro B F X N T hd hu
  (((try dsimp only); (try k_fold)))
  repeat' (first | with_reducible ((show wpAny _ _ (eval (Expr.ListComp _ _ _ _) _) _ _ _); (k_here; k_dflt (first | refine ListComp_US (_F₀ := by k_asm) (by with_unfolding_all rfl) (by decide) (by rfl) (by decide) (by rfl) ?_))) | walk_at "stp")
  have hz : (Txt.slice d (some 2) none).cps.size = 0 := by rw [hs]; rfl
  refine Stop.go ⟨_, _, _, rfl, rfl, by assumption, by assumption, by rw [hz]; exact Nat.zero_le _, fun gg => ?_⟩
  rw [hz]
  refine LCg.CompRest.zero ?_
  intro D h tk F N o1
  repeat' (first | with_reducible ((show wpAny _ _ (call (Value.ref _) _ _) _ _ _); (k_here; (k_dflt show wpAny _ _ (call (Value.ref 196) _) _ _ _); k_dflt (refine' call_cls ?k1 ?k2 ?k3 ?k4 ?k5 ?k6 ?_; (case k1 => k_asm); (case k2 => k_asm); (case k3 => k_asm); (case k4 => k_is); (case k5 => k_is); (case k6 => k_is); k_whole; intro x' d' h' F' N' l1 l2; (try k_lt l1); (try k_lt2 l2); (try k_sweep); (try dsimp only); k_enter))) | with_reducible ((show wpAny _ _ (call (Value.ref _) _ _) _ _ _); (k_here; (k_dflt show wpAny _ _ (call (Value.ref 205) _) _ _ _); (refine' useA ?N ?C ?B ?F ?X ?T ?K ?d ?u ?_; (case N => k_asm); (case C => k_dflt exact c_sf _ (by assumption) _); (((case B => k_asm); (case F => k_asm); (case X => k_asm); (case T => k_asm); (case K => first | exact rfl | assumption); (case d => k_dflt (first | exact room_le (by assumption) (by first | decide | exact Nat.le_refl _ | exact Nat.le_succ_of_le (by assumption)) | ktr_room)); (case u => k_dflt (first | exact unit_le (by assumption) (by decide) | exact unit_le (k := 1) (by assumption) (by decide) | exact unit_le2 (by assumption) (by decide) | exact unit_leK (by assumption) (by first | exact Nat.le_refl _ | exact Nat.le_succ_of_le (by assumption)) | ktr_units))))); (((first | (with_reducible refine aft1 ?_; intro _ _ _ _ _) | (with_reducible refine aft0 ?_; intro _ _ _ _) | (with_reducible refine aft3 ?_; intro _ _ _ _ _ _ _) | (with_reducible refine aft4 ?_; intro _ _ _ _ _ _ _ _) | (with_reducible refine aft5f5 ?_; intro _ _ _ _ _ _ _ _ _ _ _ _ _ _) | (with_reducible refine aft3f2 ?_; intro _ _ _ _ _ _ _ _ _) | (with_reducible refine aft3f1 ?_; intro _ _ _ _ _ _ _ _) | (with_reducible refine aft1f1 ?_; intro _ _ _ _ _ _)))))) | walk_at "stp")
  rename _ ∧ AllLt _ news => lo
  have lo3 := allLt_lt lo.2
  refine ends (by assumption) (newsub (by assumption) (nw' := (_, instObj 196 _) :: (_, dictOf [_, _, _] _) :: news) (by walk_at "c_keep")) ⟨_, [_, _], rfl, rfl, ⟨_, _, _, _, _, _, _, _, _, _, _, .head _, .tail _ (.head _)⟩, fun p hp q hq => ?_⟩
  have h9 := lo3 q hq
  rcases List.mem_cons.mp hp with rfl | hp
  · exact Nat.ne_of_lt (Nat.lt_trans h9 (by assumption))
  · rw [List.mem_singleton.mp hp]
    exact Nat.ne_of_lt h9
theorem c_rs2 (d : Str) (hd1 : d.length = 2) (hd2 : ¬ d = "") (hd3 : (d == "") = false) (hm : (Txt.item d 0 == "-") = false) (hk : (!(Builtin.Str.occurrences " w_.()'\"\\/$<>@!|" (Txt.item d 0) 0 (Str.length " w_.()'\"\\/$<>@!|") 1).isEmpty) = true) (hm1 : (Txt.item d 1 == " ") = false) (hs : Txt.slice d (some 2) none = "") (t : Tok) : Ctr w 210 5 [.str d t] news (fun r nw => ∃ syn own, r = .ref syn ∧ nw = own ++ news ∧ SynAt own syn (Txt.item d 0) ∧ ∀ p ∈ own, ∀ q ∈ news, q.1 ≠ p.1) := by
  revert hd1 hd2 hd3 hm hk hm1 hs
  revert w news d t
  refine @pk4 _ _ _ _ _ (ne2 neW nei) ?_
  generalize wk4 _ _ = q
  generalize q.1 = w, q.2.1 = news, q.2.2.1 = d, q.2.2.2 = t
  clear q
  intro hd1 hd2 hd3 hm hk hm1 hs
  refine' ctr_ofW ["text"] ?ho ?hcd ?hb ?hl ?h1 ?h2 ?h3 ?h4 ?_
  (((case ho => k_is); (case hcd => k_is); (case hb => exact rfl); (case hl => exact locs rfl); (case h1 => exact rfl); (case h2 => exact rfl); (case h3 => exact rfl); (case h4 => decide)))
  generalize wp14 _ = c9
  generalize c9.p = p, c9.loose = loose, c9.mean = mean, c9.mg = mg, c9.mb = mb, c9.dp = dp, c9.un = un, c9.gd = gd, c9.outer = outer, c9.A₀ = A₀, c9.base = base, c9.g = g, c9.L = L, c9.s = s
  clear c9
  intro B F X N T hd hu
  (((try dsimp only); (try k_fold)))
  repeat' (first | with_reducible ((show wpAny _ _ (eval (Expr.ListComp _ _ _ _) _) _ _ _); (k_here; k_dflt (first | refine ListComp_US (_F₀ := by k_asm) (by with_unfolding_all rfl) (by decide) (by rfl) (by decide) (by rfl) ?_))) | walk_at "stp")
  have hz : (Txt.slice d (some 2) none).cps.size = 0 := by rw [hs]; rfl
  refine Stop.go ⟨_, _, _, rfl, rfl, by assumption, by assumption, by rw [hz]; exact Nat.zero_le _, fun gg => ?_⟩
  rw [hz]
  refine LCg.CompRest.zero ?_
  intro D h tk F N o1
  repeat' (first | with_reducible ((show wpAny _ _ (call (Value.ref _) _ _) _ _ _); (k_here; (k_dflt show wpAny _ _ (call (Value.ref 196) _) _ _ _); k_dflt (refine' call_cls ?k1 ?k2 ?k3 ?k4 ?k5 ?k6 ?_; (case k1 => k_asm); (case k2 => k_asm); (case k3 => k_asm); (case k4 => k_is); (case k5 => k_is); (case k6 => k_is); k_whole; intro x' d' h' F' N' l1 l2; (try k_lt l1); (try k_lt2 l2); (try k_sweep); (try dsimp only); k_enter))) | with_reducible ((show wpAny _ _ (call (Value.ref _) _ _) _ _ _); (k_here; (k_dflt show wpAny _ _ (call (Value.ref 205) _) _ _ _); (refine' useA ?N ?C ?B ?F ?X ?T ?K ?d ?u ?_; (case N => k_asm); (case C => k_dflt exact c_sf _ (by assumption) _); (((case B => k_asm); (case F => k_asm); (case X => k_asm); (case T => k_asm); (case K => first | exact rfl | assumption); (case d => k_dflt (first | exact room_le (by assumption) (by first | decide | exact Nat.le_refl _ | exact Nat.le_succ_of_le (by assumption)) | ktr_room)); (case u => k_dflt (first | exact unit_le (by assumption) (by decide) | exact unit_le (k := 1) (by assumption) (by decide) | exact unit_le2 (by assumption) (by decide) | exact unit_leK (by assumption) (by first | exact Nat.le_refl _ | exact Nat.le_succ_of_le (by assumption)) | ktr_units))))); (((first | (with_reducible refine aft1 ?_; intro _ _ _ _ _) | (with_reducible refine aft0 ?_; intro _ _ _ _) | (with_reducible refine aft3 ?_; intro _ _ _ _ _ _ _) | (with_reducible refine aft4 ?_; intro _ _ _ _ _ _ _ _) | (with_reducible refine aft5f5 ?_; intro _ _ _ _ _ _ _ _ _ _ _ _ _ _) | (with_reducible refine aft3f2 ?_; intro _ _ _ _ _ _ _ _ _) | (with_reducible refine aft3f1 ?_; intro _ _ _ _ _ _ _ _) | (with_reducible refine aft1f1 ?_; intro _ _ _ _ _ _)))))) | walk_at "stp")
  rename _ ∧ AllLt _ news => lo
  have lo3 := allLt_lt lo.2
  refine ends (by assumption) (newsub (by assumption) (nw' := (_, instObj 196 _) :: (_, dictOf [_, _, _] _) :: news) (by walk_at "c_keep")) ⟨_, [_, _], rfl, rfl, ⟨_, _, _, _, _, _, _, _, _, _, _, .head _, .tail _ (.head _)⟩, fun p hp q hq => ?_⟩
  have h9 := lo3 q hq
  rcases List.mem_cons.mp hp with rfl | hp
  · exact Nat.ne_of_lt (Nat.lt_trans h9 (by assumption))
  · rw [List.mem_singleton.mp hp]
    exact Nat.ne_of_lt h9
end
section
variable {w : World}
theorem valueAt_stored (kvs : List (Int × Value)) (k c : Int) (v : Value) : valueAt (stored kvs k v) c = if c = k then some v else valueAt kvs c := by
  unfold valueAt stored
  by_cases ha : (kvs.any fun kv => decide (kv.1 = k)) = true
  · rw [if_pos ha, List.find?_map]
    have hp : ((fun kv : Int × Value => decide (kv.1 = c)) ∘ fun kv : Int × Value => if kv.1 = k then (kv.1, v) else kv) = fun kv : Int × Value => decide (kv.1 = c) := by
      funext kv
      show decide ((if kv.1 = k then (kv.1, v) else kv).1 = c) = _
      split <;> rfl
    rw [hp]
    cases hf : kvs.find? (fun kv : Int × Value => decide (kv.1 = c)) with
    | none =>
      by_cases hc : c = k
      · exfalso
        subst hc
        refine ex_1_2 (List.any_eq_true.mp ha) ?_
        intro x hx hk
        have := List.find?_eq_none.mp hf x hx
        exact this hk
      · rw [if_neg hc]; rfl
    | some x =>
      have h1 : x.1 = c := by simpa using List.find?_some hf
      by_cases hc : c = k
      · rw [if_pos hc]
        show some (if x.1 = k then (x.1, v) else x).2 = some v
        rw [if_pos (h1.trans hc)]
      · rw [if_neg hc]
        show some (if x.1 = k then (x.1, v) else x).2 = some x.2
        rw [if_neg (fun e => hc (h1.symm.trans e))]
  · rw [if_neg ha, List.find?_append]
    cases hf : kvs.find? (fun kv : Int × Value => decide (kv.1 = c)) with
    | none =>
      by_cases hc : c = k
      · rw [if_pos hc]
        subst hc
        simp
      · rw [if_neg hc]
        have : ¬ k = c := fun e => hc e.symm
        simp [this]
    | some x =>
      have h1 : x.1 = c := by simpa using List.find?_some hf
      have hc : ¬ c = k := fun e => ha (List.any_eq_true.mpr ⟨x, List.mem_of_find?_eq_some hf, by simpa using h1.trans e⟩)
      rw [if_neg hc]
      rfl
theorem stored_len (kvs : List (Int × Value)) (k : Int) (v : Value) : (stored kvs k v).length ≤ kvs.length + 1 := by
  unfold stored
  split
  · rw [List.length_map]; with_reducible_and_instances exact Nat.le_succ _
  · rw [List.length_append]; exact Nat.le_refl _
section
variable {prog : Program} {w : World} {A : Around} {E : Value → Shared → Prop} {s : Shared} {env : Env} {h₀ : Heap} {x : Str} {body : List Stmt} {Q : Flow → Shared → Prop} {I : Addr}
theorem strRest_J (J : List Nat → (Str → Option Value) → Led → Prop)
    (turn : ∀ c cl m news (u : Tok) (it : Obj) h tk, J (c :: cl) m news → Fr h₀ env.locals h (fun y => if y = x then some (.str ⟨#[c]⟩ u) else m y) → News h₀ env.locals h ((I, it) :: news) →
      wpAny (model prog w) A (execs body env) (UnrPost h₀ env.locals { s with heap := h, toks := tk } I it (fun m' news' => J cl m' news') Q) E { heap := h, gens := s.gens, drawn := s.drawn, toks := tk, os := s.os })
    (done : ∀ m news h tk, J [] m news → Fr h₀ env.locals h m → News h₀ env.locals h news → Q .next { heap := h, gens := s.gens, drawn := s.drawn, toks := tk, os := s.os }) : ∀ cl m news, J cl m news → StrRest prog w A E h₀ env x body Q s I (cl.map fun c => (⟨#[c]⟩ : Str)) m news
  | [], m, news, hJ => StrRest.zero fun h tk F N => done m news h tk hJ F N
  | c :: cl, m, news, hJ => StrRest.succ fun u it h tk F N => by
    have ih := strRest_J J turn done cl
    have key : ∀ s₂, UnrEnd h₀ env.locals { s with heap := h, toks := tk } I it (fun m' news' => J cl m' news') s₂ → UnrEnd h₀ env.locals { s with heap := h, toks := tk } I it (StrRest prog w A E h₀ env x body Q s I (cl.map fun c => (⟨#[c]⟩ : Str))) s₂ := by
      intro s₂ p9_1
      refine ex_4_5 (p9_1) ?_
      try clear p9_1
      intro h' tk' m' news' e F' N' off j
      exact ⟨h', tk', m', news', e, F', N', off, ih _ _ j⟩
    refine wpAny_mono (turn c cl m news u it h tk hJ F N) (fun f s₂ p => ?_) fun _ _ e => e
    cases f with
    | ret v => exact p
    | brk => exact p
    | next => exact key _ p
    | cont => exact key _ p
end
theorem c_ma {table dt rd : Addr} {o : Obj} {kvs : List (Int × Value)} {h1 t1 h2 t2 n} {others : Led} (d tx : Str) (t t' : Tok) (hC : ∀ t news, Ctr w 210 5 [.str d t] news (fun r nw => ∃ syn own, r = .ref syn ∧ nw = own ++ news ∧ SynAt own syn (Txt.item d 0) ∧ ∀ p ∈ own, ∀ q ∈ news, q.1 ≠ p.1))
    (m1 : (table, instObj 277 dt) ∈ others) (m2 : (dt, dictOf [⟨h1, .str "parent" t1, .none⟩, ⟨h2, .str "rows" t2, .ref rd⟩] n) ∈ others) (hrd : ∀ q ∈ others, q.1 ≠ rd) (hdk : o.IsDictOf (PySem.intKind PySem.Challenge.rw_np0052_01.row.prog w) kvs) (hsm : (rd == sysModules) = false) (hlen : kvs.length + tx.length ≤ 1000) :
    Ctr w 239 6 [.ref table, .str tx t, .str d t'] ((rd, o) :: others) (fun r nw => ∃ o' kvs' own syn, r = .none ∧ nw = (rd, o') :: (own ++ others) ∧ o'.IsDictOf (PySem.intKind PySem.Challenge.rw_np0052_01.row.prog w) kvs' ∧ kvs'.length ≤ kvs.length + tx.length ∧ SynAt own syn (Txt.item d 0) ∧ (∀ c : Int, valueAt kvs' c = if (∃ n ∈ tx.cps.toList, (n : Int) = c) then some (.ref syn) else valueAt kvs c) ∧ ∀ p ∈ own, p.1 ≠ rd ∧ ∀ q ∈ others, q.1 ≠ p.1) := by
  revert hC m1 m2 hrd hdk hsm hlen
  revert w table dt rd o kvs h1 t1 h2 t2 n others d tx t t'
  refine @pk16 _ _ _ _ _ _ _ _ _ _ _ _ _ _ _ _ _ (ne2 (ne2 neW nei) nei) ?_
  generalize wk16 _ _ = q
  generalize q.1 = q0, q.2 = q1
  generalize q0.1 = w, q0.2.1 = table, q0.2.2.1 = dt, q0.2.2.2.1 = rd, q0.2.2.2.2.1 = o, q0.2.2.2.2.2.1 = kvs, q0.2.2.2.2.2.2.1 = h1, q0.2.2.2.2.2.2.2 = t1
  generalize q1.1 = h2, q1.2.1 = t2, q1.2.2.1 = n, q1.2.2.2.1 = others, q1.2.2.2.2.1 = d, q1.2.2.2.2.2.1 = tx, q1.2.2.2.2.2.2.1 = t, q1.2.2.2.2.2.2.2 = t'
  clear q q0 q1
  intro hC m1 m2 hrd hdk hsm hlen
  refine' ctr_ofW ["self", "text", "description"] ?ho ?hcd ?hb ?hl ?h1 ?h2 ?h3 ?h4 ?_
  (((case ho => k_is); (case hcd => k_is); (case hb => exact rfl); (case hl => exact locs rfl); (case h1 => exact rfl); (case h2 => exact rfl); (case h3 => exact rfl); (case h4 => decide)))
  generalize wp14 _ = c9
  generalize c9.p = p, c9.loose = loose, c9.mean = mean, c9.mg = mg, c9.mb = mb, c9.dp = dp, c9.un = un, c9.gd = gd, c9.outer = outer, c9.A₀ = A₀, c9.base = base, c9.g = g, c9.L = L, c9.s = s
  clear c9
  intro B F X N T hd hu
  (((try dsimp only); (try k_fold)))
  repeat' (first | with_reducible ((show wpAny _ _ (call (Value.ref _) _ _) _ _ _); (k_here; (k_dflt show wpAny _ _ (call (Value.ref 210) _) _ _ _); k_dflt (refine stop_of ?_))) | walk_at "stp")
  refine Stop.go (useA (by assumption) (hC _ _) B (by assumption) X T rfl (by first | exact room_le hd (by decide) | omega) (by first | exact unit_le hu (by decide) | exact unit_le2 hu (by decide) | omega) (aft2f2 ?_))
  intro syn own h' tk' F1 N1 hs ho
  have N2 : News g L h' ((rd, o) :: (own ++ others)) := newsub N1 fun p hp => by
    rcases List.mem_cons.mp hp with rfl | hp
    · exact List.mem_append_right _ (.head _)
    · rcases List.mem_append.mp hp with hp | hp
      · exact List.mem_append_left _ hp
      · exact List.mem_append_right _ (.tail _ hp)
  have hrd' : ∀ q ∈ own ++ others, q.1 ≠ rd := fun q hq => (List.mem_append.mp hq).elim (fun h => Ne.symm (ho q h _ (.head _))) (hrd q)
  have m1' := List.mem_append_right own m1
  have m2' := List.mem_append_right own m2
  clear N1 F N
  repeat' (first | with_reducible ((show wpAny _ _ (exec (Stmt.For _ _ _ _ _) _) _ _ _); (k_here; (rename Fr _ _ _ _ => lF'); (with_unfolding_all refine' For_invVF lF' ?k1 ?k2 ?_; (case k1 => exact rfl); (case k2 => exact rfl); k_whole))) | walk_at "stp")
  rename Fr _ _ _ _ => F0
  rename News _ _ _ _ => N0
  refine Stop.go (iter_strUnr (l := tx.cps.toList.map fun c => (⟨#[c]⟩ : Str)) rfl F0 N0 rfl fun I hI => strRest_J (fun cl m nx => ∃ pre kvs' o', pre ++ cl = tx.cps.toList ∧ nx = (rd, o') :: (own ++ others) ∧ m "self" = some (.ref table) ∧ m "syntax" = some (.ref syn) ∧ o'.IsDictOf (PySem.intKind PySem.Challenge.rw_np0052_01.row.prog w) kvs' ∧ kvs'.length + cl.length ≤ kvs.length + tx.length ∧ ∀ c : Int, valueAt kvs' c = if (∃ n ∈ pre, (n : Int) = c) then some (.ref syn) else valueAt kvs c) ?_ ?_ _ _ _ ⟨[], kvs, o, rfl, rfl, rfl, rfl, hdk, Nat.le_refl _, fun c => (if_neg (fun ⟨n, h, _⟩ => nomatch h)).symm⟩)
  · intro c cl m nx u it h tk p9_8 F1 N1
    refine genP fun C9 k9 => ?_
    refine ex_3_7 (p9_8) ?_
    try clear p9_8
    intro pre kvs' o' e1 e9_4 k1 k2 k3 k4 k5
    subst e9_4
    refine k9 ?_
    clear k9 C9
    have hIr : I ≠ rd := Ne.symm (Nat.ne_of_lt (hI _ (.head _)))
    have U : UpdF rd o' ((I, it) :: (rd, o') :: (own ++ others)) (fun o'' => (I, it) :: (rd, o'') :: (own ++ others)) := .tail hIr (.head hrd')
    rw [List.length_cons] at k4
    clear F0 N0
    repeat' (first | with_reducible ((show wpAny _ _ (setItem _ _ _) _ _ _); (k_here; k_dflt (refine' kda_set (knd := PySem.intKind _ _) ?F ?N ?U ?d (intKind_is _ _ _ _) ?z ?_; (case F => k_asm); (case N => k_asm); (case U => assumption); (case d => assumption); (case z => rw [PySem.sizeLine_eq]; (clear hC hrd hd hu ho hrd' hI k5 hIr; lia))); intro h' o' F' N' hd'; (try dsimp only at N'))) | walk_at "stp")
    have hl9 := stored_len kvs' (c : Int) (Value.ref syn)
    refine Stop.go (UnrEnd.intro (by assumption) (by assumption) ((rd, _) :: (own ++ others)) (fun _ h => h) (fun p hp => ?_) ⟨pre ++ [c], _, _, by rw [List.append_assoc]; exact e1, rfl, by walk_at "c_look", by walk_at "c_look", by assumption, by (clear hC hrd hlen hd hu ho hrd' hI k5 hIr; lia), fun c' => ?_⟩)
    · rcases List.mem_cons.mp hp with rfl | hp
      · exact Ne.symm hIr
      · exact Nat.ne_of_lt (hI p (.tail _ hp))
    · rw [valueAt_stored, k5 c']
      by_cases h1 : c' = (c : Int)
      · rw [if_pos h1, if_pos ⟨c, List.mem_append_right _ (.head _), h1.symm⟩]
      · rw [if_neg h1]
        by_cases h2 : ∃ n ∈ pre, (n : Int) = c'
        · rw [if_pos h2, if_pos]
          refine ex_1_2 (h2) ?_
          try clear h2
          intro n hn e
          exact ⟨n, List.mem_append_left _ hn, e⟩
        · rw [if_neg h2, if_neg]
          intro p9_0
          refine ex_1_2 (p9_0) ?_
          try clear p9_0
          intro n hn e
          rcases List.mem_append.mp hn with hn | hn
          · exact h2 ⟨n, hn, e⟩
          · rw [List.mem_singleton.mp hn] at e
            exact h1 e.symm
  · intro m nx h tk p9_4 F1 N1
    refine genP fun C9 k9 => ?_
    refine ex_3_7 (p9_4) ?_
    try clear p9_4
    intro pre kvs' o' e1 e9_4 k1 k2 k3 k4 k5
    subst e9_4
    refine k9 ?_
    clear k9 C9
    clear F0 N0
    walk_at "steps"
    rw [List.append_nil] at e1
    subst e1
    exact ends (by assumption) (by assumption) ⟨o', kvs', own, syn, rfl, rfl, k3, by simpa using k4, hs, k5, fun p hp => ⟨Ne.symm (ho p hp _ (.head _)), fun q hq => ho p hp q (.tail _ hq)⟩⟩
end
section
variable {w : World}
inductive TR (w : World) (news base : Led) (table rd : Addr) (o : Obj) (len : Nat) (S : Int → Option Str) : Prop
  | mk : ∀ own dt kvs h1 t1 h2 t2 n, base = own ++ news → (∀ p ∈ own, ∀ q ∈ news, q.1 ≠ p.1) → (table, instObj 277 dt) ∈ own → (dt, dictOf [⟨h1, .str "parent" t1, .none⟩, ⟨h2, .str "rows" t2, .ref rd⟩] n) ∈ own → (∀ q ∈ base, q.1 ≠ rd) → (rd == sysModules) = false →
    o.IsDictOf (PySem.intKind PySem.Challenge.rw_np0052_01.row.prog w) kvs → kvs.length ≤ len → (∀ c kd, S c = some kd → ∃ syn, valueAt kvs c = some (.ref syn) ∧ SynAt own syn kd) → TR w news base table rd o len S
noncomputable abbrev RD (w : World) (d : Str) : Prop := ∀ t news, Ctr w 210 5 [.str d t] news (fun r nw => ∃ syn own, r = .ref syn ∧ nw = own ++ news ∧ SynAt own syn (Txt.item d 0) ∧ ∀ p ∈ own, ∀ q ∈ news, q.1 ≠ p.1)
noncomputable def inT (tx : Str) (c : Int) : Bool := tx.cps.toList.any fun n => decide ((n : Int) = c)
theorem inT_iff {tx : Str} {c : Int} : inT tx c = true ↔ ∃ n ∈ tx.cps.toList, (n : Int) = c := by
  unfold inT
  rw [List.any_eq_true]
  constructor
  · rintro ⟨n, h, e⟩; exact ⟨n, h, by simpa using e⟩
  · rintro ⟨n, h, e⟩; exact ⟨n, h, by simpa using e⟩
theorem TR.start {g h : Heap} {L : Addr} {news : Led} {x d rd : Addr} {o : Obj} {h1 t1 h2 t2 n} (_N : News g L h ((rd, o) :: (x, instObj 277 d) :: (d, dictOf [⟨h1, .str "parent" t1, .none⟩, ⟨h2, .str "rows" t2, .ref rd⟩] n) :: news))
    (hd0 : o.IsDictOf (PySem.intKind PySem.Challenge.rw_np0052_01.row.prog w) []) (sm0 : (rd == sysModules) = false) (l1 : ∀ p ∈ news, p.1 < d) (l2 : d < x) (lo : x < rd ∧ d < rd ∧ AllLt rd news) :
    TR w news ((x, instObj 277 d) :: (d, dictOf [⟨h1, .str "parent" t1, .none⟩, ⟨h2, .str "rows" t2, .ref rd⟩] n) :: news) x rd o 0 (fun _ => none) := by
  have lo3 := allLt_lt lo.2.2
  refine ⟨[(x, instObj 277 d), (d, _)], d, [], h1, t1, h2, t2, n, rfl, fun p hp q hq => ?_, .head _, .tail _ (.head _), fun q hq => ?_, sm0, hd0, Nat.le_refl _, fun _ _ h => nomatch h⟩
  · have h9 := l1 q hq
    rcases List.mem_cons.mp hp with rfl | hp
    · exact Nat.ne_of_lt (Nat.lt_trans h9 l2)
    · rw [List.mem_singleton.mp hp]
      exact Nat.ne_of_lt h9
  · rcases List.mem_cons.mp hq with rfl | hq
    · exact Nat.ne_of_lt lo.1
    · rcases List.mem_cons.mp hq with rfl | hq
      · exact Nat.ne_of_lt lo.2.1
      · exact Nat.ne_of_lt (lo3 q hq)
section
variable {p : Program} {loose : List Str} {mean : ExcName → Option Value} {mg mb : Str → Option Value} {dp un : Nat} {gd : Option (List Code)} {cn : Str} {cs : Scope} {a : Addr} {ccd : Value} {cl : List (Str × Addr)} {outer : List Env} {A₀ : Around} {base₀ h₀ : Heap} {L : Addr} {m : Str → Option Value} {s : Shared} {Q E : Value → Shared → Prop}
theorem use_ma {news base front : Led} {table rd : Addr} {o : Obj} {len : Nat} {S : Int → Option Str} {d tx : Str} {t t' : Tok} (N : News h₀ L s.heap (front ++ (rd, o) :: base)) (R : TR w news base table rd o len S) (hC : RD w d) (hlen : len + tx.length ≤ 1000) (hf : ∀ p ∈ front, p.1 ≠ rd)
    (B : Below A₀ base₀ outer h₀) (F : Fr h₀ L s.heap m) (X : (hd.heap_1 w.params).In h₀) (T : Top p loose mean mg mb h₀) (hk : cs.kind = .function) (hd : dp + 6 < recursionLimit) (hu : un + 8 * 6 < cLine)
    (h : ∀ o' base' h' tk', TR w news base' table rd o' (len + tx.length) (fun c => if inT tx c = true then some (Txt.item d 0) else S c) → (∀ q ∈ front, (∀ p ∈ base, p.1 ≠ q.1) → ∀ p ∈ base', p.1 ≠ q.1) → Fr h₀ L h' m → News h₀ L h' (front ++ (rd, o') :: base') → Q .none { s with heap := h', toks := tk' }) :
    wpAny (model PySem.Challenge.rw_np0052_01.row.prog w) (ktrTop dp un gd cn cs L a ccd cl outer) (call (.ref 239) [.ref table, .str tx t, .str d t']) Q E s := by
  refine genP fun C9 k9 => ?_
  obtain ⟨own, dt, kvs, h1, t1, h2, t2, n, e0, k8, k1, k2, k3, k4, k5, k6, k7⟩ := R
  refine k9 ?_
  clear k9 C9
  have k1' : (table, instObj 277 dt) ∈ base := by rw [e0]; exact List.mem_append_left _ k1
  have k2' : (dt, dictOf [⟨h1, .str "parent" t1, .none⟩, ⟨h2, .str "rows" t2, .ref rd⟩] n) ∈ base := by rw [e0]; exact List.mem_append_left _ k2
  have hfb : ∀ q ∈ front ++ base, q.1 ≠ rd := fun q hq => (List.mem_append.mp hq).elim (hf q) (k3 q)
  refine use (newsub N fun p hp => ?_) (c_ma (others := front ++ base) d tx t t' hC (List.mem_append_right _ k1') (List.mem_append_right _ k2') hfb k5 k4 (by (clear hf hd hu h k8 k3 k7 hfb; lia))) B F X T hk hd hu fun r nw h' tk' F1 N1 x9 => ex_4_7 x9 fun o' kvs' own' syn e1 e2 j1 j2 j3 j4 j5 => ?_
  · rcases List.mem_cons.mp hp with rfl | hp
    · exact List.mem_append_right _ (.head _)
    · rcases List.mem_append.mp hp with hp | hp
      · exact List.mem_append_left _ hp
      · exact List.mem_append_right _ (.tail _ hp)
  · subst e1 e2
    refine h o' (own' ++ base) h' tk' ⟨own' ++ own, dt, kvs', h1, t1, h2, t2, n, by rw [e0, List.append_assoc], fun p hp q hq => ?_, List.mem_append_right _ k1, List.mem_append_right _ k2, fun q hq => (List.mem_append.mp hq).elim (fun h => (j5 q h).1) (k3 q), k4, j1, by (clear hlen hf hd hu h k8 k3 k7 hfb j4 j5; lia), fun c kd hS => ?_⟩ (fun q hq hb p hp => ?_) F1 (newsub N1 fun p hp => ?_)
    · rcases List.mem_append.mp hp with hp | hp
      · exact (j5 p hp).2 q (List.mem_append_right _ (by rw [e0]; exact List.mem_append_right _ hq))
      · exact k8 p hp q hq
    · rw [j4 c]
      by_cases hc : inT tx c = true
      · rw [if_pos hc] at hS
        cases hS
        rw [if_pos (inT_iff.mp hc)]
        exact ⟨syn, rfl, j3.mono fun p hp => List.mem_append_left _ hp⟩
      · rw [if_neg hc] at hS
        rw [if_neg (fun h => hc (inT_iff.mpr h))]
        refine ex_1_2 (k7 c kd hS) ?_
        intro syn' v1 v2
        exact ⟨syn', v1, v2.mono fun p hp => List.mem_append_right _ hp⟩
    · rcases List.mem_append.mp hp with hp | hp
      · exact Ne.symm ((j5 p hp).2 q (List.mem_append_left _ hq))
      · exact hb p hp
    · rcases List.mem_append.mp hp with hp | hp
      · exact .tail _ (List.mem_append_right _ (List.mem_append_left _ hp))
      · rcases List.mem_cons.mp hp with rfl | hp
        · exact .head _
        · rcases List.mem_append.mp hp with hp | hp
          · exact .tail _ (List.mem_append_left _ hp)
          · exact .tail _ (List.mem_append_right _ (List.mem_append_right _ hp))
end
theorem tr_meth {A : Around} {E : Value → Shared → Prop} {s : Shared} {news base front : Led} {table rd L f : Addr} {o : Obj} {len : Nat} {S : Int → Option Str} {h₀ : Heap} {m : Str → Option Value} {name : Str} {pl : Sem Bool} {Q : Value × List Value → Shared → Prop}
    (N : News h₀ L s.heap (front ++ (rd, o) :: base)) (R : TR w news base table rd o len S) (F : Fr h₀ L s.heap m) (X : (hd.heap_1 w.params).In h₀) (hg : plainGet (hd.heap_1 w.params) 277 name = true)
    (hf : findIn (hd.heap_1 w.params) (.ref 277) name = some (some (.ref f))) (ht : isFn (hd.heap_1 w.params) (.ref f) = true)
    (hl : ∀ h1 t1 h2 t2 x y, getL name [⟨h1, .str "parent" t1, x⟩, ⟨h2, .str "rows" t2, y⟩] = some none) (h : Q (.ref f, [.ref table]) s) :
    wpAny (model PySem.Challenge.rw_np0052_01.row.prog w) A (getMethod (.ref table) name pl) Q E s := by
  refine genP fun C9 k9 => ?_
  obtain ⟨own, dt, kvs, h1, t1, h2, t2, n, e0, _, k1, k2, _⟩ := R
  refine k9 ?_
  clear k9 C9
  exact method_inst F X (InstAt.of_news N (List.mem_append_right _ (.tail _ (by rw [e0]; exact List.mem_append_left _ k1))) (List.mem_append_right _ (.tail _ (by rw [e0]; exact List.mem_append_left _ k2)))) hg hf ht (hl _ _ _ _ _ _) h
theorem TR.off {news base : Led} {table rd : Addr} {o : Obj} {len : Nat} {S : Int → Option Str} (R : TR w news base table rd o len S) {vs : Array Value} {n : Nat} : ({ cls := .type "tuple", data := .seq vs n } : Obj) ≠ o := by
  refine genP fun C9 k9 => ?_
  obtain ⟨own, dt, kvs, h1, t1, h2, t2, n, e0, k8, k1, k2, k3, k4, ⟨es, ep, _, hd, _⟩, _⟩ := R
  refine k9 ?_
  clear k9 C9
  intro e
  rw [← e] at hd
  cases hd
theorem ne_of_mem {g h : Heap} {L b : Addr} {news : Led} {p : Addr × Obj} {o' : Obj} (N : News g L h news) (h1 : p ∈ news) (h2 : (b, o') ∈ news) (hne : p.2 ≠ o') : p.1 ≠ b := fun e => hne (by
  have x := (N _ h1).1
  have y := (N _ h2).1
  dsimp only at x y
  rw [e] at x
  exact Option.some.inj (x.symm.trans y))
theorem TR.done {news base : Led} {table rd : Addr} {o : Obj} {len : Nat} {S : Int → Option Str} (R : TR w news base table rd o len S) (hS : ∀ c, Sign c → S c = some (kindW c)) :
    ∃ own, (rd, o) :: base = own ++ news ∧ TabW w own table ∧ ∀ p ∈ own, ∀ q ∈ news, q.1 ≠ p.1 := by
  refine genP fun C9 k9 => ?_
  obtain ⟨own, dt, kvs, h1, t1, h2, t2, n, e0, k8, k1, k2, k3, k4, k5, k6, k7⟩ := R
  refine k9 ?_
  clear k9 C9
  refine ⟨(rd, o) :: own, by rw [e0]; rfl, ?_, fun p hp q hq => ?_⟩
  · refine ⟨dt, rd, o, kvs, h1, t1, h2, t2, n, .tail _ k1, .tail _ k2, .head _, k5, k4, fun c hc => ?_⟩
    refine ex_1_2 (k7 c _ (hS c hc)) ?_
    intro syn v1 v2
    exact ⟨syn, v1, v2.mono fun p hp => .tail _ hp⟩
  · rcases List.mem_cons.mp hp with rfl | hp
    · exact k3 q (by rw [e0]; exact List.mem_append_right _ hq)
    · exact k8 p hp q hq
end
section
variable {w : World} {news : Led}
theorem ne_single {l : Led} {I : Addr × Obj} (h : ∀ p ∈ l, p.1 ≠ I.1) : ∀ p ∈ l, ∀ q ∈ [I], p.1 ≠ q.1 := fun p hp _ hq => (List.mem_singleton.mp hq).symm ▸ h p hp
theorem c_tab : Ctr w 295 8 [] news (fun r nw => ∃ table own, r = .ref table ∧ nw = own ++ news ∧ TabW w own table ∧ ∀ p ∈ own, ∀ q ∈ news, q.1 ≠ p.1) := by
  revert w news
  refine @pk2 _ _ _ (ne2 neW nei) ?_
  generalize wk2 _ _ = q
  generalize q.1 = w, q.2 = news
  clear q
  refine' ctr_ofW [] ?ho ?hcd ?hb ?hl ?h1 ?h2 ?h3 ?h4 ?_
  (((case ho => k_is); (case hcd => k_is); (case hb => exact rfl); (case hl => exact locs rfl); (case h1 => exact rfl); (case h2 => exact rfl); (case h3 => exact rfl); (case h4 => decide)))
  generalize wp14 _ = c9
  generalize c9.p = p, c9.loose = loose, c9.mean = mean, c9.mg = mg, c9.mb = mb, c9.dp = dp, c9.un = un, c9.gd = gd, c9.outer = outer, c9.A₀ = A₀, c9.base = base, c9.g = g, c9.L = L, c9.s = s
  clear c9
  intro B F X N T hd hu
  (((try dsimp only); (try k_fold)))
  repeat' (first | with_reducible ((show wpAny _ _ (call (Value.ref _) _ _) _ _ _); (k_here; (k_dflt show wpAny _ _ (call (Value.ref 277) _) _ _ _); k_dflt (refine stop_of ?_))) | walk_at "stp")
  refine Stop.go ?_
  show wpAny _ _ (call (.ref 277) []) _ _ _
  refine' call_cls ?k1 ?k2 ?k3 ?k4 ?k5 ?k6 ?_
  (case k1 => k_asm); (case k2 => k_asm); (case k3 => k_asm); (case k4 => k_is); (case k5 => k_is); (case k6 => k_is)
  intro x' d' h' F' N' l1 l2; (try k_lt l1); (try k_lt2 l2); (try k_sweep); (try dsimp only)
  k_enter
  repeat' (first | with_reducible ((show wpAny _ _ (call (Value.ref _) _ _) _ _ _); (k_here; (k_dflt show wpAny _ _ (call (Value.ref 239) _) _ _ _); k_dflt (refine stop_of ?_))) | walk_at "stp")
  rename Obj.IsDictOf (PySem.intKind _ _) _ _ => hd0
  rename (_ == sysModules) = false => sm0
  rename _ ∧ _ ∧ AllLt _ news => lo
  rename News g L _ ((_, _) :: (_, instObj 277 _) :: _) => N0
  have R0 := TR.start N0 hd0 sm0 l1 l2 lo
  (refine' Stop.go (use_ma (front := []) ?N ?R ?C ?len ?f ?B ?F ?X ?T ?K ?d ?u ?_); (case N => exact (by assumption)); (case R => assumption); (case C => (first | exact fun t news => c_rs1 _ (by decide +kernel) (by decide +kernel) (by decide +kernel) (by decide +kernel) (by decide +kernel) (by decide +kernel) t | exact fun t news => c_rs2 _ (by decide +kernel) (by decide +kernel) (by decide +kernel) (by decide +kernel) (by decide +kernel) (by decide +kernel) (by decide +kernel) t)); (case len => decide +kernel); (case f => exact fun _ h => nomatch h); (case B => k_asm); (case F => assumption); (case X => k_asm); (case T => k_asm); (case K => rfl); (case d => k_dflt (first | exact room_le (by assumption) (by decide) | ktr_room)); (case u => k_dflt (first | exact unit_le (by assumption) (by decide) | ktr_units)))
  intro o1 base1 h1 tk1 R1 _ F1 N1
  clear R0 N0
  repeat' (first | with_reducible ((show wpAny _ _ (call (Value.ref _) _ _) _ _ _); (k_here; (k_dflt show wpAny _ _ (call (Value.ref 239) _) _ _ _); k_dflt (refine stop_of ?_))) | with_reducible ((show wpAny _ _ (getMethod (Value.ref _) _ _) _ _ _); (k_here; k_dflt (refine' tr_meth (front := []) ?N ?R ?F ?X ?hg ?hf ?ht ?hl ?_; (case R => assumption); (case N => assumption); (case F => k_asm); (case X => k_asm); (case hg => k_is); (case hf => k_is); (case ht => k_is); (case hl => exact fun _ _ _ _ _ _ => rfl)))) | walk_at "stp")
  (refine' Stop.go (use_ma (front := []) ?N ?R ?C ?len ?f ?B ?F ?X ?T ?K ?d ?u ?_); (case N => exact (by assumption)); (case R => assumption); (case C => (first | exact fun t news => c_rs1 _ (by decide +kernel) (by decide +kernel) (by decide +kernel) (by decide +kernel) (by decide +kernel) (by decide +kernel) t | exact fun t news => c_rs2 _ (by decide +kernel) (by decide +kernel) (by decide +kernel) (by decide +kernel) (by decide +kernel) (by decide +kernel) (by decide +kernel) t)); (case len => decide +kernel); (case f => exact fun _ h => nomatch h); (case B => k_asm); (case F => assumption); (case X => k_asm); (case T => k_asm); (case K => rfl); (case d => k_dflt (first | exact room_le (by assumption) (by decide) | ktr_room)); (case u => k_dflt (first | exact unit_le (by assumption) (by decide) | ktr_units)))
  intro o2 base2 h2 tk2 R2 _ F2 N2
  clear R1 N1 F1
  repeat' (first | with_reducible ((show wpAny _ _ (call (Value.ref _) _ _) _ _ _); (k_here; (k_dflt show wpAny _ _ (call (Value.ref 239) _) _ _ _); k_dflt (refine stop_of ?_))) | with_reducible ((show wpAny _ _ (getMethod (Value.ref _) _ _) _ _ _); (k_here; k_dflt (refine' tr_meth (front := []) ?N ?R ?F ?X ?hg ?hf ?ht ?hl ?_; (case R => assumption); (case N => assumption); (case F => k_asm); (case X => k_asm); (case hg => k_is); (case hf => k_is); (case ht => k_is); (case hl => exact fun _ _ _ _ _ _ => rfl)))) | walk_at "stp")
  (refine' Stop.go (use_ma (front := []) ?N ?R ?C ?len ?f ?B ?F ?X ?T ?K ?d ?u ?_); (case N => exact (by assumption)); (case R => assumption); (case C => (first | exact fun t news => c_rs1 _ (by decide +kernel) (by decide +kernel) (by decide +kernel) (by decide +kernel) (by decide +kernel) (by decide +kernel) t | exact fun t news => c_rs2 _ (by decide +kernel) (by decide +kernel) (by decide +kernel) (by decide +kernel) (by decide +kernel) (by decide +kernel) (by decide +kernel) t)); (case len => decide +kernel); (case f => exact fun _ h => nomatch h); (case B => k_asm); (case F => assumption); (case X => k_asm); (case T => k_asm); (case K => rfl); (case d => k_dflt (first | exact room_le (by assumption) (by decide) | ktr_room)); (case u => k_dflt (first | exact unit_le (by assumption) (by decide) | ktr_units)))
  intro o3 base3 h3 tk3 R3 _ F3 N3
  clear R2 N2 F2
  repeat' (first | with_reducible ((show wpAny _ _ (call (Value.ref _) _ _) _ _ _); (k_here; (k_dflt show wpAny _ _ (call (Value.ref 239) _) _ _ _); k_dflt (refine stop_of ?_))) | with_reducible ((show wpAny _ _ (getMethod (Value.ref _) _ _) _ _ _); (k_here; k_dflt (refine' tr_meth (front := []) ?N ?R ?F ?X ?hg ?hf ?ht ?hl ?_; (case R => assumption); (case N => assumption); (case F => k_asm); (case X => k_asm); (case hg => k_is); (case hf => k_is); (case ht => k_is); (case hl => exact fun _ _ _ _ _ _ => rfl)))) | walk_at "stp")
  (refine' Stop.go (use_ma (front := []) ?N ?R ?C ?len ?f ?B ?F ?X ?T ?K ?d ?u ?_); (case N => exact (by assumption)); (case R => assumption); (case C => (first | exact fun t news => c_rs1 _ (by decide +kernel) (by decide +kernel) (by decide +kernel) (by decide +kernel) (by decide +kernel) (by decide +kernel) t | exact fun t news => c_rs2 _ (by decide +kernel) (by decide +kernel) (by decide +kernel) (by decide +kernel) (by decide +kernel) (by decide +kernel) (by decide +kernel) t)); (case len => decide +kernel); (case f => exact fun _ h => nomatch h); (case B => k_asm); (case F => assumption); (case X => k_asm); (case T => k_asm); (case K => rfl); (case d => k_dflt (first | exact room_le (by assumption) (by decide) | ktr_room)); (case u => k_dflt (first | exact unit_le (by assumption) (by decide) | ktr_units)))
  intro o4 base4 h4 tk4 R4 _ F4 N4
  clear R3 N3 F3
  walk_at "steps"
  rename Fr _ _ _ _ => F5
  rename News _ _ _ _ => N5
  try clear N4
  try clear F4
  refine iter_tupTurns rfl F5 N5 (.head _) rfl rfl fun I hI => ?_
  have hIr : I ≠ _ := Ne.symm (Nat.ne_of_lt (hI (_, o4) (by walk_at "c_mem")))
  have hb0 : ∀ p ∈ base4, p.1 ≠ I := fun p hp => Nat.ne_of_lt (hI p (by repeat (first | exact hp | refine List.mem_cons_of_mem _ ?_)))
  refine ItemsRest.val fun h0 tk0 G0 => AllObj.cons fun oI0 hc0 => AllObj.nil fun M0 => ?_
  simp only [List.cons_append, List.nil_append] at M0
  clear F5 N5
  repeat' (first | with_reducible ((show wpAny _ _ (getMethod (Value.ref _) _ _) _ _ _); (k_here; k_dflt (refine' tr_meth (front := [(_, _), (_, _), (_, _), (_, _), (_, _)]) ?N ?R ?F ?X ?hg ?hf ?ht ?hl ?_; (case R => assumption); (case N => assumption); (case F => k_asm); (case X => k_asm); (case hg => k_is); (case hf => k_is); (case ht => k_is); (case hl => exact fun _ _ _ _ _ _ => rfl)))) | with_reducible ((show wpAny _ _ (call (Value.ref _) _ _) _ _ _); (k_here; (k_dflt show wpAny _ _ (call (Value.ref 239) _) _ _ _); k_dflt (refine stop_of ?_))) | walk_at "stp")
  (refine' Stop.go (use_ma (front := [(_, _), (_, _), (_, _), (_, _), (_, _)]) ?N ?R ?C ?len ?f ?B ?F ?X ?T ?K ?d ?u ?_); (case N => exact (by assumption)); (case R => assumption); (case C => (first | exact fun t news => c_rs1 _ (by decide +kernel) (by decide +kernel) (by decide +kernel) (by decide +kernel) (by decide +kernel) (by decide +kernel) t | exact fun t news => c_rs2 _ (by decide +kernel) (by decide +kernel) (by decide +kernel) (by decide +kernel) (by decide +kernel) (by decide +kernel) (by decide +kernel) t)); (case len => decide +kernel); (case f => ((refine List.forall_mem_cons.mpr ⟨by assumption, ?_⟩; (repeat (refine List.forall_mem_cons.mpr ⟨ne_of_mem (by assumption) (by walk_at "c_mem") (by walk_at "c_mem") (TR.off (by assumption)), ?_⟩)); exact fun _ h => nomatch h))); (case B => k_asm); (case F => assumption); (case X => k_asm); (case T => k_asm); (case K => rfl); (case d => k_dflt (first | exact room_le (by assumption) (by decide) | ktr_room)); (case u => k_dflt (first | exact unit_le (by assumption) (by decide) | ktr_units)))
  intro o5 base5 hh5 tt5 R5 hb5 F5 N5
  have hb5 := hb5 _ (.head _) hb0
  simp only [List.cons_append, List.nil_append] at N5
  clear R4
  repeat' (first | with_reducible ((show wpAny _ _ (getMethod (Value.ref _) _ _) _ _ _); (k_here; k_dflt (refine' tr_meth (front := [(_, _), (_, _), (_, _), (_, _), (_, _)]) ?N ?R ?F ?X ?hg ?hf ?ht ?hl ?_; (case R => assumption); (case N => assumption); (case F => k_asm); (case X => k_asm); (case hg => k_is); (case hf => k_is); (case ht => k_is); (case hl => exact fun _ _ _ _ _ _ => rfl)))) | with_reducible ((show wpAny _ _ (call (Value.ref _) _ _) _ _ _); (k_here; (k_dflt show wpAny _ _ (call (Value.ref 239) _) _ _ _); k_dflt (refine stop_of ?_))) | walk_at "stp")
  (refine' Stop.go (use_ma (front := [(_, _), (_, _), (_, _), (_, _), (_, _)]) ?N ?R ?C ?len ?f ?B ?F ?X ?T ?K ?d ?u ?_); (case N => exact (by assumption)); (case R => assumption); (case C => (first | exact fun t news => c_rs1 _ (by decide +kernel) (by decide +kernel) (by decide +kernel) (by decide +kernel) (by decide +kernel) (by decide +kernel) t | exact fun t news => c_rs2 _ (by decide +kernel) (by decide +kernel) (by decide +kernel) (by decide +kernel) (by decide +kernel) (by decide +kernel) (by decide +kernel) t)); (case len => decide +kernel); (case f => ((refine List.forall_mem_cons.mpr ⟨by assumption, ?_⟩; (repeat (refine List.forall_mem_cons.mpr ⟨ne_of_mem (by assumption) (by walk_at "c_mem") (by walk_at "c_mem") (TR.off (by assumption)), ?_⟩)); exact fun _ h => nomatch h))); (case B => k_asm); (case F => assumption); (case X => k_asm); (case T => k_asm); (case K => rfl); (case d => k_dflt (first | exact room_le (by assumption) (by decide) | ktr_room)); (case u => k_dflt (first | exact unit_le (by assumption) (by decide) | ktr_units)))
  intro o6 base6 hh6 tt6 R6 hb6 F6 N6
  have hb6 := hb6 _ (.head _) hb5
  simp only [List.cons_append, List.nil_append] at N6
  clear R5
  walk_at "steps"
  refine Stop.go ⟨_, _, _, (_, _) :: (_, _) :: (_, _) :: (_, _) :: (_, _) :: base6, rfl, by assumption, by assumption, ?_, ⟨.head _, trivial⟩, ?_⟩
  · exact ne_single (List.forall_mem_cons.mpr ⟨Nat.ne_of_lt (hI _ (.head _)), List.forall_mem_cons.mpr ⟨Nat.ne_of_lt (hI _ (.tail _ (.head _))), List.forall_mem_cons.mpr ⟨Nat.ne_of_lt (hI _ (.tail _ (.tail _ (.head _)))), List.forall_mem_cons.mpr ⟨Nat.ne_of_lt (hI _ (.tail _ (.tail _ (.tail _ (.head _))))), List.forall_mem_cons.mpr ⟨Ne.symm hIr, hb6⟩⟩⟩⟩⟩)
  refine ItemsRest.val fun h1 tk1 G1 => AllObj.cons fun oI1 hc1 => AllObj.nil fun M1 => ?_
  simp only [List.cons_append, List.nil_append] at M1
  repeat' (first | with_reducible ((show wpAny _ _ (getMethod (Value.ref _) _ _) _ _ _); (k_here; k_dflt (refine' tr_meth (front := [(_, _), (_, _), (_, _), (_, _), (_, _)]) ?N ?R ?F ?X ?hg ?hf ?ht ?hl ?_; (case R => assumption); (case N => assumption); (case F => k_asm); (case X => k_asm); (case hg => k_is); (case hf => k_is); (case ht => k_is); (case hl => exact fun _ _ _ _ _ _ => rfl)))) | with_reducible ((show wpAny _ _ (call (Value.ref _) _ _) _ _ _); (k_here; (k_dflt show wpAny _ _ (call (Value.ref 239) _) _ _ _); k_dflt (refine stop_of ?_))) | walk_at "stp")
  (refine' Stop.go (use_ma (front := [(_, _), (_, _), (_, _), (_, _), (_, _)]) ?N ?R ?C ?len ?f ?B ?F ?X ?T ?K ?d ?u ?_); (case N => exact (by assumption)); (case R => assumption); (case C => (first | exact fun t news => c_rs1 _ (by decide +kernel) (by decide +kernel) (by decide +kernel) (by decide +kernel) (by decide +kernel) (by decide +kernel) t | exact fun t news => c_rs2 _ (by decide +kernel) (by decide +kernel) (by decide +kernel) (by decide +kernel) (by decide +kernel) (by decide +kernel) (by decide +kernel) t)); (case len => decide +kernel); (case f => ((refine List.forall_mem_cons.mpr ⟨by assumption, ?_⟩; (repeat (refine List.forall_mem_cons.mpr ⟨ne_of_mem (by assumption) (by walk_at "c_mem") (by walk_at "c_mem") (TR.off (by assumption)), ?_⟩)); exact fun _ h => nomatch h))); (case B => k_asm); (case F => assumption); (case X => k_asm); (case T => k_asm); (case K => rfl); (case d => k_dflt (first | exact room_le (by assumption) (by decide) | ktr_room)); (case u => k_dflt (first | exact unit_le (by assumption) (by decide) | ktr_units)))
  intro o7 base7 hh7 tt7 R7 hb7 F7 N7
  have hb7 := hb7 _ (.head _) hb6
  simp only [List.cons_append, List.nil_append] at N7
  clear R6
  repeat' (first | with_reducible ((show wpAny _ _ (getMethod (Value.ref _) _ _) _ _ _); (k_here; k_dflt (refine' tr_meth (front := [(_, _), (_, _), (_, _), (_, _), (_, _)]) ?N ?R ?F ?X ?hg ?hf ?ht ?hl ?_; (case R => assumption); (case N => assumption); (case F => k_asm); (case X => k_asm); (case hg => k_is); (case hf => k_is); (case ht => k_is); (case hl => exact fun _ _ _ _ _ _ => rfl)))) | with_reducible ((show wpAny _ _ (call (Value.ref _) _ _) _ _ _); (k_here; (k_dflt show wpAny _ _ (call (Value.ref 239) _) _ _ _); k_dflt (refine stop_of ?_))) | walk_at "stp")
  (refine' Stop.go (use_ma (front := [(_, _), (_, _), (_, _), (_, _), (_, _)]) ?N ?R ?C ?len ?f ?B ?F ?X ?T ?K ?d ?u ?_); (case N => exact (by assumption)); (case R => assumption); (case C => (first | exact fun t news => c_rs1 _ (by decide +kernel) (by decide +kernel) (by decide +kernel) (by decide +kernel) (by decide +kernel) (by decide +kernel) t | exact fun t news => c_rs2 _ (by decide +kernel) (by decide +kernel) (by decide +kernel) (by decide +kernel) (by decide +kernel) (by decide +kernel) (by decide +kernel) t)); (case len => decide +kernel); (case f => ((refine List.forall_mem_cons.mpr ⟨by assumption, ?_⟩; (repeat (refine List.forall_mem_cons.mpr ⟨ne_of_mem (by assumption) (by walk_at "c_mem") (by walk_at "c_mem") (TR.off (by assumption)), ?_⟩)); exact fun _ h => nomatch h))); (case B => k_asm); (case F => assumption); (case X => k_asm); (case T => k_asm); (case K => rfl); (case d => k_dflt (first | exact room_le (by assumption) (by decide) | ktr_room)); (case u => k_dflt (first | exact unit_le (by assumption) (by decide) | ktr_units)))
  intro o8 base8 hh8 tt8 R8 hb8 F8 N8
  have hb8 := hb8 _ (.head _) hb7
  simp only [List.cons_append, List.nil_append] at N8
  clear R7
  walk_at "steps"
  refine Stop.go ⟨_, _, _, (_, _) :: (_, _) :: (_, _) :: (_, _) :: (_, _) :: base8, rfl, by assumption, by assumption, ?_, ⟨.head _, trivial⟩, ?_⟩
  · exact ne_single (List.forall_mem_cons.mpr ⟨Nat.ne_of_lt (hI _ (.head _)), List.forall_mem_cons.mpr ⟨Nat.ne_of_lt (hI _ (.tail _ (.head _))), List.forall_mem_cons.mpr ⟨Nat.ne_of_lt (hI _ (.tail _ (.tail _ (.head _)))), List.forall_mem_cons.mpr ⟨Nat.ne_of_lt (hI _ (.tail _ (.tail _ (.tail _ (.head _))))), List.forall_mem_cons.mpr ⟨Ne.symm hIr, hb8⟩⟩⟩⟩⟩)
  refine ItemsRest.val fun h2 tk2 G2 => AllObj.cons fun oI2 hc2 => AllObj.nil fun M2 => ?_
  simp only [List.cons_append, List.nil_append] at M2
  repeat' (first | with_reducible ((show wpAny _ _ (getMethod (Value.ref _) _ _) _ _ _); (k_here; k_dflt (refine' tr_meth (front := [(_, _), (_, _), (_, _), (_, _), (_, _)]) ?N ?R ?F ?X ?hg ?hf ?ht ?hl ?_; (case R => assumption); (case N => assumption); (case F => k_asm); (case X => k_asm); (case hg => k_is); (case hf => k_is); (case ht => k_is); (case hl => exact fun _ _ _ _ _ _ => rfl)))) | with_reducible ((show wpAny _ _ (call (Value.ref _) _ _) _ _ _); (k_here; (k_dflt show wpAny _ _ (call (Value.ref 239) _) _ _ _); k_dflt (refine stop_of ?_))) | walk_at "stp")
  (refine' Stop.go (use_ma (front := [(_, _), (_, _), (_, _), (_, _), (_, _)]) ?N ?R ?C ?len ?f ?B ?F ?X ?T ?K ?d ?u ?_); (case N => exact (by assumption)); (case R => assumption); (case C => (first | exact fun t news => c_rs1 _ (by decide +kernel) (by decide +kernel) (by decide +kernel) (by decide +kernel) (by decide +kernel) (by decide +kernel) t | exact fun t news => c_rs2 _ (by decide +kernel) (by decide +kernel) (by decide +kernel) (by decide +kernel) (by decide +kernel) (by decide +kernel) (by decide +kernel) t)); (case len => decide +kernel); (case f => ((refine List.forall_mem_cons.mpr ⟨by assumption, ?_⟩; (repeat (refine List.forall_mem_cons.mpr ⟨ne_of_mem (by assumption) (by walk_at "c_mem") (by walk_at "c_mem") (TR.off (by assumption)), ?_⟩)); exact fun _ h => nomatch h))); (case B => k_asm); (case F => assumption); (case X => k_asm); (case T => k_asm); (case K => rfl); (case d => k_dflt (first | exact room_le (by assumption) (by decide) | ktr_room)); (case u => k_dflt (first | exact unit_le (by assumption) (by decide) | ktr_units)))
  intro o9 base9 hh9 tt9 R9 hb9 F9 N9
  have hb9 := hb9 _ (.head _) hb8
  simp only [List.cons_append, List.nil_append] at N9
  clear R8
  repeat' (first | with_reducible ((show wpAny _ _ (getMethod (Value.ref _) _ _) _ _ _); (k_here; k_dflt (refine' tr_meth (front := [(_, _), (_, _), (_, _), (_, _), (_, _)]) ?N ?R ?F ?X ?hg ?hf ?ht ?hl ?_; (case R => assumption); (case N => assumption); (case F => k_asm); (case X => k_asm); (case hg => k_is); (case hf => k_is); (case ht => k_is); (case hl => exact fun _ _ _ _ _ _ => rfl)))) | with_reducible ((show wpAny _ _ (call (Value.ref _) _ _) _ _ _); (k_here; (k_dflt show wpAny _ _ (call (Value.ref 239) _) _ _ _); k_dflt (refine stop_of ?_))) | walk_at "stp")
  (refine' Stop.go (use_ma (front := [(_, _), (_, _), (_, _), (_, _), (_, _)]) ?N ?R ?C ?len ?f ?B ?F ?X ?T ?K ?d ?u ?_); (case N => exact (by assumption)); (case R => assumption); (case C => (first | exact fun t news => c_rs1 _ (by decide +kernel) (by decide +kernel) (by decide +kernel) (by decide +kernel) (by decide +kernel) (by decide +kernel) t | exact fun t news => c_rs2 _ (by decide +kernel) (by decide +kernel) (by decide +kernel) (by decide +kernel) (by decide +kernel) (by decide +kernel) (by decide +kernel) t)); (case len => decide +kernel); (case f => ((refine List.forall_mem_cons.mpr ⟨by assumption, ?_⟩; (repeat (refine List.forall_mem_cons.mpr ⟨ne_of_mem (by assumption) (by walk_at "c_mem") (by walk_at "c_mem") (TR.off (by assumption)), ?_⟩)); exact fun _ h => nomatch h))); (case B => k_asm); (case F => assumption); (case X => k_asm); (case T => k_asm); (case K => rfl); (case d => k_dflt (first | exact room_le (by assumption) (by decide) | ktr_room)); (case u => k_dflt (first | exact unit_le (by assumption) (by decide) | ktr_units)))
  intro o10 base10 hh10 tt10 R10 hb10 F10 N10
  have hb10 := hb10 _ (.head _) hb9
  simp only [List.cons_append, List.nil_append] at N10
  clear R9
  walk_at "steps"
  refine Stop.go ⟨_, _, _, (_, _) :: (_, _) :: (_, _) :: (_, _) :: (_, _) :: base10, rfl, by assumption, by assumption, ?_, ⟨.head _, trivial⟩, ?_⟩
  · exact ne_single (List.forall_mem_cons.mpr ⟨Nat.ne_of_lt (hI _ (.head _)), List.forall_mem_cons.mpr ⟨Nat.ne_of_lt (hI _ (.tail _ (.head _))), List.forall_mem_cons.mpr ⟨Nat.ne_of_lt (hI _ (.tail _ (.tail _ (.head _)))), List.forall_mem_cons.mpr ⟨Nat.ne_of_lt (hI _ (.tail _ (.tail _ (.tail _ (.head _))))), List.forall_mem_cons.mpr ⟨Ne.symm hIr, hb10⟩⟩⟩⟩⟩)
  refine ItemsRest.zero fun h9 tk9 F9 N9 => ?_
  have N9' : News g L h9 ([] ++ (_, o10) :: base10) := newsub N9 fun p hp => .tail _ (.tail _ (.tail _ (.tail _ hp)))
  clear N9 hI hIr hb0 hb5 hb6 hb7 hb8 hb9 hb10
  try clear F10
  try clear N10
  repeat' (first | with_reducible ((show wpAny _ _ (call (Value.ref _) _ _) _ _ _); (k_here; (k_dflt show wpAny _ _ (call (Value.ref 239) _) _ _ _); k_dflt (refine stop_of ?_))) | with_reducible ((show wpAny _ _ (getMethod (Value.ref _) _ _) _ _ _); (k_here; k_dflt (refine' tr_meth (front := []) ?N ?R ?F ?X ?hg ?hf ?ht ?hl ?_; (case R => assumption); (case N => assumption); (case F => k_asm); (case X => k_asm); (case hg => k_is); (case hf => k_is); (case ht => k_is); (case hl => exact fun _ _ _ _ _ _ => rfl)))) | walk_at "stp")
  (refine' Stop.go (use_ma (front := []) ?N ?R ?C ?len ?f ?B ?F ?X ?T ?K ?d ?u ?_); (case N => exact (by assumption)); (case R => assumption); (case C => (first | exact fun t news => c_rs1 _ (by decide +kernel) (by decide +kernel) (by decide +kernel) (by decide +kernel) (by decide +kernel) (by decide +kernel) t | exact fun t news => c_rs2 _ (by decide +kernel) (by decide +kernel) (by decide +kernel) (by decide +kernel) (by decide +kernel) (by decide +kernel) (by decide +kernel) t)); (case len => decide +kernel); (case f => exact fun _ h => nomatch h); (case B => k_asm); (case F => assumption); (case X => k_asm); (case T => k_asm); (case K => rfl); (case d => k_dflt (first | exact room_le (by assumption) (by decide) | ktr_room)); (case u => k_dflt (first | exact unit_le (by assumption) (by decide) | ktr_units)))
  intro o11 base11 hh11 tt11 R11 _ F11 N11
  clear R10
  repeat' (first | with_reducible ((show wpAny _ _ (call (Value.ref _) _ _) _ _ _); (k_here; (k_dflt show wpAny _ _ (call (Value.ref 239) _) _ _ _); k_dflt (refine stop_of ?_))) | with_reducible ((show wpAny _ _ (getMethod (Value.ref _) _ _) _ _ _); (k_here; k_dflt (refine' tr_meth (front := []) ?N ?R ?F ?X ?hg ?hf ?ht ?hl ?_; (case R => assumption); (case N => assumption); (case F => k_asm); (case X => k_asm); (case hg => k_is); (case hf => k_is); (case ht => k_is); (case hl => exact fun _ _ _ _ _ _ => rfl)))) | walk_at "stp")
  (refine' Stop.go (use_ma (front := []) ?N ?R ?C ?len ?f ?B ?F ?X ?T ?K ?d ?u ?_); (case N => exact (by assumption)); (case R => assumption); (case C => (first | exact fun t news => c_rs1 _ (by decide +kernel) (by decide +kernel) (by decide +kernel) (by decide +kernel) (by decide +kernel) (by decide +kernel) t | exact fun t news => c_rs2 _ (by decide +kernel) (by decide +kernel) (by decide +kernel) (by decide +kernel) (by decide +kernel) (by decide +kernel) (by decide +kernel) t)); (case len => decide +kernel); (case f => exact fun _ h => nomatch h); (case B => k_asm); (case F => assumption); (case X => k_asm); (case T => k_asm); (case K => rfl); (case d => k_dflt (first | exact room_le (by assumption) (by decide) | ktr_room)); (case u => k_dflt (first | exact unit_le (by assumption) (by decide) | ktr_units)))
  intro o12 base12 hh12 tt12 R12 _ F12 N12
  clear R11
  walk_at "steps"
  obtain ⟨own, e0, hT, hof⟩ := R12.done (fun c hc => by rcases hc with rfl | rfl | rfl | rfl | rfl | rfl | rfl <;> decide +kernel)
  exact ends (by assumption) (newsub (by assumption) (nw' := own ++ news) fun p hp => by rw [← e0] at hp; exact hp) ⟨x', own, rfl, rfl, hT, hof⟩
end
section
theorem fwdL_succ (cs : List Int) (k a : Nat) : fwdL cs (k + 1) a = if leN cs a < cs.length then fwdL cs k (leN cs a + 1) else (cs.length, (k + 1) - (if a < cs.length then 1 else 0)) := rfl
theorem lsN_succ (cs : List Int) (i : Nat) : lsN cs (i + 1) = if cs.getD i 0 = 10 then i + 1 else lsN cs i := rfl
theorem backL_succ (cs : List Int) (k a : Nat) : backL cs (k + 1) a = if a = 0 then 0 else backL cs k (lsN cs (a - 1)) := rfl
noncomputable def glue : List (List Int) → List Int
  | [] => []
  | [l] => l
  | l :: m :: r => l ++ 10 :: glue (m :: r)
noncomputable def nls (ls : List (List Int)) : List Int := (ls.map fun l => l ++ [10]).flatten
noncomputable def off (ls : List (List Int)) (j : Nat) : Nat := (nls (ls.take j)).length
theorem nls_append (a b : List (List Int)) : nls (a ++ b) = nls a ++ nls b := by unfold nls; rw [List.map_append, List.flatten_append]
theorem nls_cons (l : List Int) (r : List (List Int)) : nls (l :: r) = l ++ 10 :: nls r := by
  unfold nls
  rw [List.map_cons, List.flatten_cons, List.append_assoc]
  rfl
theorem glue_cons (l : List Int) (r : List (List Int)) (h : r ≠ []) : glue (l :: r) = l ++ 10 :: glue r := by
  cases r with
  | nil => exact absurd rfl h
  | cons m r => rfl
theorem glue_nls : ∀ (ls : List (List Int)), ls ≠ [] → glue ls ++ [10] = nls ls
  | [], h => absurd rfl h
  | [l], _ => by rw [nls_cons]; rfl
  | l :: m :: r, _ => by
    rw [glue_cons l (m :: r) (by simp), nls_cons, List.append_assoc, List.cons_append, glue_nls (m :: r) (by simp)]
theorem glue_app : ∀ (a b : List (List Int)), b ≠ [] → glue (a ++ b) = nls a ++ glue b
  | [], b, _ => by simp [nls]
  | l :: a, b, h => by
    rw [List.cons_append, glue_cons _ _ (by simp [h]), glue_app a b h, nls_cons, List.append_assoc, List.cons_append]
theorem glue_at (ls : List (List Int)) (j : Nat) (h : j < ls.length) : glue ls = nls (ls.take j) ++ glue (ls.drop j) := by
  have h1 : ls.drop j ≠ [] := fun e => by
    have := congrArg List.length e
    rw [List.length_drop] at this
    simp at this
    lia
  have h2 := glue_app (ls.take j) (ls.drop j) h1
  rwa [List.take_append_drop] at h2
theorem off_zero (ls : List (List Int)) : off ls 0 = 0 := rfl
theorem off_succ (ls : List (List Int)) (j : Nat) (h : j < ls.length) : off ls (j + 1) = off ls j + (ls[j].length + 1) := by
  unfold off
  rw [List.take_add_one, List.getElem?_eq_getElem h, nls_append, List.length_append]
  show _ + (nls [ls[j]]).length = _
  rw [nls_cons]
  simp [nls]
theorem off_le (ls : List (List Int)) : ∀ (a b : Nat), a ≤ b → off ls a ≤ off ls b := by
  intro a b h
  unfold off
  have e : ls.take b = ls.take a ++ (ls.take b).drop a := by
    conv => lhs; rw [← List.take_append_drop a (ls.take b)]
    rw [List.take_take, Nat.min_eq_left h]
  rw [e, nls_append, List.length_append]
  with_reducible_and_instances exact Nat.le_add_right _ _
theorem glue_len (ls : List (List Int)) (h : ls ≠ []) : (glue ls).length + 1 = off ls ls.length := by
  unfold off
  rw [List.take_length, ← glue_nls ls h, List.length_append]
  rfl
theorem glue_rest (ls : List (List Int)) (j x : Nat) (h : j < ls.length) (hx : x ≤ ls[j].length) : ∃ rest, (glue ls).drop (off ls j + x) = ls[j].drop x ++ rest ∧ (rest = [] ∨ ∃ r, rest = 10 :: r) := by
  have e : (glue ls).drop (off ls j + x) = (glue (ls.drop j)).drop x := by
    rw [glue_at ls j h, ← List.drop_drop]
    congr 1
    unfold off
    exact List.drop_left
  rw [e, List.drop_eq_getElem_cons h]
  cases hr : ls.drop (j + 1) with
  | nil => exact ⟨[], by simp [glue], .inl rfl⟩
  | cons m r =>
    refine ⟨10 :: glue (m :: r), ?_, .inr ⟨_, rfl⟩⟩
    rw [glue_cons _ _ (by simp), List.drop_append_of_le_length hx]
theorem leN_glue {ls : List (List Int)} (h10 : ∀ l ∈ ls, ∀ c ∈ l, c ≠ 10) (j x : Nat) (h : j < ls.length) (hx : x ≤ ls[j].length) : leN (glue ls) (off ls j + x) = off ls j + ls[j].length := by
  refine ex_1_2 (glue_rest ls j x h hx) ?_
  intro rest e hr
  unfold leN
  rw [e]
  have h1 : ∀ c ∈ ls[j].drop x, (c != 10) = true := fun c hc => bne_iff_ne.mpr (h10 _ (List.getElem_mem h) c (List.mem_of_mem_drop hc))
  have h2 : (ls[j].drop x ++ rest).takeWhile (fun c => c != 10) = ls[j].drop x := by
    rw [List.takeWhile_append_of_pos h1]
    rcases hr with rfl | ⟨r, rfl⟩
    · simp
    · simp
  rw [h2, List.length_drop, Nat.add_assoc, Nat.add_sub_cancel' hx]
theorem glue_getD {ls : List (List Int)} (j x : Nat) (h : j < ls.length) (hx : x < ls[j].length) : (glue ls).getD (off ls j + x) 0 = ls[j][x] := by
  refine ex_1_2 (glue_rest ls j x h (Nat.le_of_lt hx)) ?_
  intro rest e hr
  have e2 : (glue ls)[off ls j + x]? = ((glue ls).drop (off ls j + x))[0]? := by rw [List.getElem?_drop]; rfl
  rw [List.getD_eq_getElem?_getD, e2, e, List.getElem?_append_left (by rw [List.length_drop]; omega), List.getElem?_drop, Nat.add_zero, List.getElem?_eq_getElem hx]
  rfl
theorem glue_nl {ls : List (List Int)} (j : Nat) (h : j + 1 < ls.length) : (glue ls).getD (off ls (j + 1) - 1) 0 = 10 := by
  have hj := Nat.lt_of_succ_lt h
  rw [glue_at ls (j + 1) h, off_succ ls j hj, List.take_add_one, List.getElem?_eq_getElem hj, nls_append, show nls (Option.toList (some ls[j])) = ls[j] ++ [10] from nls_cons _ _, ← List.append_assoc]
  have hl : off ls j + (ls[j].length + 1) - 1 = (nls (ls.take j) ++ ls[j]).length := by rw [List.length_append]; rfl
  rw [hl, List.getD_eq_getElem?_getD, List.append_assoc, List.getElem?_append_right (Nat.le_refl _), Nat.sub_self]
  rfl
theorem off_lt {ls : List (List Int)} (j : Nat) (h : j < ls.length) : off ls j + ls[j].length ≤ (glue ls).length := by
  have h1 := off_succ ls j h
  have h2 := off_le ls (j + 1) ls.length h
  have h3 := glue_len ls (by intro e; rw [e] at h; cases h)
  lia
theorem lsN_glue {ls : List (List Int)} (h10 : ∀ l ∈ ls, ∀ c ∈ l, c ≠ 10) (j : Nat) (h : j < ls.length) : ∀ x, x ≤ ls[j].length → lsN (glue ls) (off ls j + x) = off ls j
  | 0, _ => by
    cases j with
    | zero => rfl
    | succ j =>
      have h2 := glue_nl j h
      rw [off_succ ls j (Nat.lt_of_succ_lt h)] at h2 ⊢
      exact (lsN_succ _ _).trans (if_pos h2)
  | x + 1, hx => by
    refine (lsN_succ _ _).trans ((if_neg ?_).trans (lsN_glue h10 j h x (Nat.le_of_succ_le hx)))
    exact (glue_getD j x h hx).symm ▸ h10 _ (List.getElem_mem h) _ (List.getElem_mem _)
theorem backL_glue {ls : List (List Int)} (h10 : ∀ l ∈ ls, ∀ c ∈ l, c ≠ 10) : ∀ (k j : Nat), j < ls.length → backL (glue ls) k (off ls j) = off ls (j - k)
  | 0, j, _ => rfl
  | k + 1, 0, h => by rw [Nat.zero_sub]; rfl
  | k + 1, j + 1, h => by
    have hj := Nat.lt_of_succ_lt h
    have h1 := lsN_glue h10 j hj _ (Nat.le_refl _)
    rw [off_succ ls j hj, Nat.add_sub_add_right]
    refine (backL_succ _ _ _).trans ((if_neg (Nat.succ_ne_zero _)).trans ((congrArg (backL (glue ls) k) h1).trans (backL_glue h10 k j hj)))
theorem leN_line {ls : List (List Int)} (h10 : ∀ l ∈ ls, ∀ c ∈ l, c ≠ 10) (j : Nat) (h : j < ls.length) : leN (glue ls) (off ls j) = off ls j + ls[j].length := leN_glue h10 j 0 h (Nat.zero_le _)
theorem fwdL_in {ls : List (List Int)} (h10 : ∀ l ∈ ls, ∀ c ∈ l, c ≠ 10) : ∀ (k j : Nat), j + (k + 1) < ls.length → fwdL (glue ls) (k + 1) (off ls j) = (off ls (j + (k + 1)), 0)
  | k, j, h => by
    have h0 : j + 1 < ls.length := Nat.lt_of_le_of_lt (Nat.add_le_add_left (Nat.le_add_left 1 k) j) h
    have hj := Nat.lt_of_succ_lt h0
    have h1 := off_succ ls j hj
    have h3 := Nat.le_trans (Nat.le_add_right _ _) (off_lt (j + 1) h0)
    rw [h1] at h3
    replace h3 : off ls j + ls[j].length < (glue ls).length := h3
    rw [fwdL_succ, leN_line h10 j hj, if_pos h3, Nat.add_assoc, ← h1]
    cases k with
    | zero => rfl
    | succ k => rw [fwdL_in h10 k (j + 1) (by rwa [Nat.add_right_comm j 1]), Nat.add_right_comm j 1]; rfl
theorem fwdL_out {ls : List (List Int)} (h10 : ∀ l ∈ ls, ∀ c ∈ l, c ≠ 10) (r : Nat) : ∀ (m j : Nat) (e : ls.length = j + (m + 1)), ls[j + m]'(e ▸ Nat.lt_succ_self _) ≠ [] → fwdL (glue ls) (m + (r + 1)) (off ls j) = ((glue ls).length, r)
  | 0, j, e, hl => by
    have hj : j < ls.length := e ▸ Nat.lt_succ_self j
    have h3 := glue_len ls fun q => by rw [q] at hj; cases hj
    have h4 : (glue ls).length = off ls j + ls[j].length := by
      refine Nat.succ.inj (h3.trans ?_)
      rw [e]
      exact off_succ ls j hj
    have h5 : 0 < ls[j].length := List.length_pos_iff.mpr hl
    rw [Nat.zero_add, fwdL_succ, leN_line h10 j hj, h4, if_neg (Nat.lt_irrefl _), if_pos (Nat.lt_add_of_pos_right h5)]
    rfl
  | m + 1, j, e, hl => by
    have h0 : j + 1 < ls.length := e ▸ Nat.add_lt_add_left (Nat.succ_lt_succ (Nat.succ_pos m)) j
    have hj := Nat.lt_of_succ_lt h0
    have h1 := off_succ ls j hj
    have h3 := Nat.le_trans (Nat.le_add_right _ _) (off_lt (j + 1) h0)
    rw [h1] at h3
    replace h3 : off ls j + ls[j].length < (glue ls).length := h3
    have e1 : j + 1 + m = j + (m + 1) := Nat.add_right_comm j 1 m
    have e2 : fwdL (glue ls) (m + (r + 1)) (off ls (j + 1)) = ((glue ls).length, r) := fwdL_out h10 r m (j + 1) (e.trans (Nat.add_right_comm j 1 (m + 1)).symm) fun q => hl (by rw [← q]; congr 1; exact e1.symm)
    rw [Nat.add_right_comm m 1 (r + 1), fwdL_succ, leN_line h10 j hj, if_pos h3, Nat.add_assoc (off ls j), ← h1]
    exact e2
end
section
theorem take_off {ls : List (List Int)} (j : Nat) (h : j < ls.length) : (glue ls).take (off ls j) = nls (ls.take j) := by
  rw [glue_at ls j h]
  unfold off
  exact List.take_left
theorem drop_off {ls : List (List Int)} (j : Nat) (h : j < ls.length) : (glue ls).drop (off ls j) = glue (ls.drop j) := by
  rw [glue_at ls j h]
  unfold off
  exact List.drop_left
theorem off_drop {ls : List (List Int)} (a j : Nat) : off (ls.drop a) j + off ls a = off ls (a + j) := by
  unfold off
  rw [List.take_add, nls_append, List.length_append]
  with_reducible_and_instances exact Nat.add_comm _ _
theorem slice_off {ls : List (List Int)} (a b : Nat) (hab : a ≤ b) (h : b < ls.length) : slice (glue ls) (off ls a) (off ls b) = nls ((ls.drop a).take (b - a)) := by
  unfold slice
  obtain ⟨d, rfl⟩ := Nat.exists_eq_add_of_le hab
  rw [drop_off a (Nat.lt_of_le_of_lt hab h), ← off_drop, Nat.add_sub_cancel, Nat.add_sub_cancel_left]
  exact take_off d (by rw [List.length_drop]; exact Nat.lt_sub_of_add_lt (Nat.add_comm a d ▸ h))
theorem slice_end {ls : List (List Int)} (a : Nat) (h : a < ls.length) : slice (glue ls) (off ls a) (glue ls).length = glue (ls.drop a) := by
  unfold slice
  rw [drop_off a h]
  refine List.take_of_length_le ?_
  have := congrArg List.length (drop_off a h)
  rw [List.length_drop] at this
  with_reducible_and_instances exact Nat.le_of_eq (Eq.symm this)
theorem ahL_in {ls : List (List Int)} (h10 : ∀ l ∈ ls, ∀ c ∈ l, c ≠ 10) (k j : Nat) (h : j + (k + 1) < ls.length) : ahL (glue ls) (k + 1) (off ls j) = (off ls (j + (k + 1)), 0) := by
  unfold ahL
  rw [fwdL_in h10 k j h]
  dsimp only
  rw [if_neg fun q => q.2 (glue_nl (j + k) h)]
theorem ahL_out {ls : List (List Int)} (h10 : ∀ l ∈ ls, ∀ c ∈ l, c ≠ 10) (r m j : Nat) (e : ls.length = j + (m + 1)) (hl : ls[j + m]'(e ▸ Nat.lt_succ_self _) ≠ []) : ahL (glue ls) (m + (r + 1)) (off ls j) = ((glue ls).length, r + 1) := by
  unfold ahL
  have hm : j + m < ls.length := e ▸ Nat.lt_succ_self _
  have h3 := glue_len ls fun q => by rw [q] at hm; cases hm
  rw [e, ← Nat.add_assoc j m 1, off_succ ls (j + m) hm] at h3
  have h4 : (glue ls).length = off ls (j + m) + ls[j + m].length := Nat.succ.inj h3
  have h5 := List.length_pos_iff.mpr hl
  obtain ⟨n, hn⟩ : ∃ n, ls[j + m].length = n + 1 := Nat.exists_eq_add_one.mpr h5
  have h6 := glue_getD (j + m) n hm (hn ▸ Nat.lt_succ_self n)
  have hc : off ls j < (glue ls).length ∧ ¬ (glue ls).getD ((glue ls).length - 1) 0 = 10 := by
    rw [h4]
    refine ⟨ Nat.lt_of_le_of_lt (off_le ls j (j + m) (Nat.le_add_right _ _)) (Nat.lt_add_of_pos_right h5), ?_⟩
    rw [hn, ← Nat.add_assoc, Nat.add_sub_cancel, h6]
    exact h10 _ (List.getElem_mem _) _ (List.getElem_mem _)
  rw [fwdL_out h10 r m j e hl, if_pos hc]
theorem ahL_end {cs : List Int} (k : Nat) (hk : 0 < k) : ahL cs k cs.length = (cs.length, k) := by
  have h1 : leN cs cs.length = cs.length := leN_stop (.inl (Nat.le_refl _))
  obtain ⟨k, rfl⟩ : ∃ k', k = k' + 1 := ⟨k - 1, by lia⟩
  unfold ahL
  rw [fwdL_succ]
  rw [h1, if_neg (Nat.lt_irrefl _), if_neg (Nat.lt_irrefl _), if_neg fun q => Nat.lt_irrefl _ q.1]
  rfl
noncomputable def othL (ls : List (List Int)) (o k : Nat) : List (List Int) := (ls.drop (o + 1)).take k ++ List.replicate (k - ((ls.drop (o + 1)).take k).length) []
theorem nls_rep (n : Nat) : nls (List.replicate n []) = List.replicate n 10 := by
  induction n with
  | zero => rfl
  | succ n ih => rw [List.replicate_succ, List.replicate_succ, nls_cons, ih]; rfl
theorem dropLast_snoc (a : List Int) (x : Int) : (a ++ [x]).dropLast = a := List.dropLast_concat
theorem lines_text {ls : List (List Int)} (h10 : ∀ l ∈ ls, ∀ c ∈ l, c ≠ 10) (hl : ∀ h : 0 < ls.length, ls[ls.length - 1] ≠ []) (o k : Nat) (hk : 0 < k) (ho : o < ls.length) (a b : Nat × Nat) (ha : a = ahL (glue ls) 1 (off ls o)) (hb : b = ahL (glue ls) k a.1) :
    (glue ls).take (off ls o) ++ ((slice (glue ls) a.1 b.1 ++ List.replicate b.2 10) ++ (slice (glue ls) (off ls o) a.1 ++ List.replicate a.2 10)) ++ (glue ls).drop b.1 = (if o + 1 + k < ls.length then (nls (ls.take o ++ othL ls o k ++ [ls[o]] ++ ls.drop (o + 1 + k))).dropLast else nls (ls.take o ++ othL ls o k ++ [ls[o]] ++ ls.drop (o + 1 + k))) ∧
      off ls o + (slice (glue ls) a.1 b.1 ++ List.replicate b.2 10).length + (slice (glue ls) (off ls o) a.1 ++ List.replicate a.2 10).length = (nls (ls.take o ++ othL ls o k ++ [ls[o]])).length ∧ off ls o ≤ b.1 ∧ b.1 ≤ (glue ls).length := by
  have hN : nls [ls[o]] = ls[o] ++ [10] := by rw [nls_cons]; rfl
  have hlen : ∀ (x y z : List Int), x.length = off ls o → off ls o + y.length + z.length = (x ++ (y ++ z)).length := fun x y z h => by rw [List.length_append, List.length_append, h, Nat.add_assoc]
  have hl' : ∀ (j : Nat) (e : ls.length = j + 1), ls[j]'(e ▸ Nat.lt_succ_self j) ≠ [] := fun j e => by
    have := hl (e ▸ Nat.succ_pos j)
    simpa only [e, Nat.add_sub_cancel] using this
  have hne : ∀ n, n < ls.length → ls.drop n ≠ [] := fun n h e => Nat.lt_irrefl _ (Nat.lt_of_lt_of_le h (List.drop_eq_nil_iff.mp e))
  obtain ⟨k, rfl⟩ : ∃ n, k = n + 1 := Nat.exists_eq_add_one.mpr hk
  rw [take_off o ho]
  by_cases h1 : o + 1 < ls.length
  · rw [ahL_in h10 0 o h1] at ha
    subst ha
    dsimp only at hb ⊢
    have s1 : slice (glue ls) (off ls o) (off ls (o + 1)) = ls[o] ++ [10] := by
      rw [slice_off o (o + 1) (Nat.le_succ o) h1, Nat.add_sub_cancel_left, List.drop_eq_getElem_cons ho, List.take_succ_cons, List.take_zero, hN]
    have l1 := off_le ls o (o + 1) (Nat.le_succ o)
    by_cases h2 : o + 1 + (k + 1) < ls.length
    · rw [ahL_in h10 k (o + 1) h2] at hb
      rw [if_pos h2]
      subst hb
      dsimp only
      have l2 := off_le ls (o + 1) (o + 1 + (k + 1)) (Nat.le_add_right _ _)
      have l3 := off_lt (ls := ls) (o + 1 + (k + 1)) h2
      have e1 : othL ls o (k + 1) = (ls.drop (o + 1)).take (k + 1) := by
        unfold othL
        rw [List.length_take_of_le (by rw [List.length_drop]; exact Nat.le_sub_of_add_le' (Nat.le_of_lt h2)), Nat.sub_self]
        exact List.append_nil _
      rw [s1, slice_off (o + 1) (o + 1 + (k + 1)) (Nat.le_add_right _ _) h2, drop_off _ h2, e1, Nat.add_sub_cancel_left, nls_append, nls_append, nls_append, hN, ← glue_nls (ls.drop (o + 1 + (k + 1))) (hne _ h2), hlen (nls (ls.take o)) _ _ rfl]
      simp only [List.replicate_zero, List.append_nil, List.append_assoc]
      refine ⟨?_, trivial, Nat.le_trans l1 l2, Nat.le_trans (Nat.le_add_right _ _) l3⟩
      simp only [← List.append_assoc]
      rw [dropLast_snoc]
    · obtain ⟨m, e⟩ := Nat.exists_eq_add_of_lt h1
      have h3 : m < k + 1 := Nat.lt_of_not_le fun q => h2 (e ▸ Nat.lt_succ_of_le (Nat.add_le_add_left q _))
      obtain ⟨r, hr⟩ := Nat.exists_eq_add_of_lt h3
      rw [if_neg h2]
      rw [hr] at hb ⊢
      rw [Nat.add_assoc m r 1, ahL_out h10 r m (o + 1) e (hl' _ e)] at hb
      subst hb
      dsimp only
      have l3 := off_lt (ls := ls) (o + 1) h1
      have hd : (ls.drop (o + 1)).length = m + 1 := by rw [List.length_drop, e, Nat.add_assoc (o + 1), Nat.add_sub_cancel_left]
      have e0 : ls.drop (o + 1 + (m + r + 1)) = [] := List.drop_eq_nil_of_le (by rw [e, Nat.add_assoc (o + 1)]; exact Nat.add_le_add_left (Nat.succ_le_succ (Nat.le_add_right m r)) _)
      have e1 : (ls.drop (o + 1)).take (m + r + 1) = ls.drop (o + 1) := List.take_of_length_le (hd ▸ Nat.succ_le_succ (Nat.le_add_right m r))
      have e2 : nls (othL ls o (m + r + 1)) = glue (ls.drop (o + 1)) ++ List.replicate (r + 1) 10 := by
        unfold othL
        rw [e1, nls_append, nls_rep, ← glue_nls _ (hne _ h1), hd, List.append_assoc, Nat.add_right_comm m r 1, Nat.add_sub_cancel_left]
        rfl
      rw [s1, slice_end (o + 1) h1, List.drop_length, e0, nls_append, nls_append, nls_append, hN, e2, hlen (nls (ls.take o)) _ _ rfl]
      simp only [List.replicate_zero, List.append_nil, List.append_assoc]
      exact ⟨rfl, trivial, Nat.le_trans l1 (Nat.le_trans (Nat.le_add_right _ _) l3), Nat.le_refl _⟩
  · have e : ls.length = o + 1 := Nat.le_antisymm (Nat.le_of_not_lt h1) ho
    rw [show (1 : Nat) = 0 + (0 + 1) from rfl, ahL_out h10 0 0 o e (hl' o e)] at ha
    subst ha
    dsimp only at hb ⊢
    rw [ahL_end (k + 1) hk] at hb
    subst hb
    dsimp only
    have l3 := off_lt (ls := ls) o ho
    have e0 : ls.drop (o + 1 + (k + 1)) = [] := List.drop_eq_nil_of_le (e ▸ Nat.le_add_right _ _)
    have e1 : ls.drop (o + 1) = [] := List.drop_eq_nil_of_le (e ▸ Nat.le_refl _)
    have s1 : slice (glue ls) (off ls o) (glue ls).length = ls[o] := by
      rw [slice_end o ho, List.drop_eq_getElem_cons ho, e1]
      rfl
    have s2 : slice (glue ls) (glue ls).length (glue ls).length = [] := by unfold slice; rw [Nat.sub_self]; rfl
    have e2 : nls (othL ls o (k + 1)) = List.replicate (k + 1) 10 := by
      unfold othL
      rw [e1, List.take_nil, nls_append, nls_rep]
      rfl
    rw [if_neg fun q => h1 (Nat.lt_of_le_of_lt (Nat.le_add_right _ _) q), s1, s2, List.drop_length, e0, nls_append, nls_append, nls_append, hN, e2, hlen (nls (ls.take o)) _ _ rfl]
    simp only [List.append_nil, List.append_assoc, List.nil_append]
    exact ⟨rfl, rfl, Nat.le_trans (Nat.le_add_right _ _) l3, Nat.le_refl _⟩
end
section
theorem ofNat_toNat (l : List Nat) : (l.map fun n : Nat => (n : Int)).map Int.toNat = l := by
  rw [List.map_map]
  conv => rhs; rw [← List.map_id l]
  exact List.map_congr_left fun n _ => rfl
theorem join_glue : ∀ (ls : List (List Int)), Str.join "\n" (ls.map txt) = txt (glue ls)
  | [] => rfl
  | [l] => rfl
  | l :: m :: r => by
    have ih := join_glue (m :: r)
    show txt l ++ ("\n" : Str) ++ Str.join "\n" ((m :: r).map txt) = _
    rw [ih, glue_cons l (m :: r) (by simp), show ("\n" : Str) = txt [10] from rfl, txt_append, txt_append, List.append_assoc]
    rfl
theorem split_lines {cs : List Int} (h0 : ∀ c ∈ cs, 0 ≤ c) : ∃ ls : List (List Int), Txt.split (txt cs) "\n" = ls.map txt ∧ glue ls = cs ∧ (∀ l ∈ ls, ∀ c ∈ l, c ≠ 10) ∧ 0 < ls.length := by
  refine ⟨(Txt.split (txt cs) "\n").map fun p => p.cps.toList.map fun n : Nat => (n : Int), ?_, ?_, ?_, ?_⟩
  · rw [List.map_map]
    conv => lhs; rw [← List.map_id (Txt.split (txt cs) "\n")]
    refine List.map_congr_left fun p _ => ?_
    show p = txt (p.cps.toList.map fun n : Nat => (n : Int))
    unfold txt
    rw [ofNat_toNat]
  · have h1 := StrLaws.join_split (txt cs) "\n"
    have h2 := join_glue ((Txt.split (txt cs) "\n").map fun p => p.cps.toList.map fun n : Nat => (n : Int))
    have h3 : ((Txt.split (txt cs) "\n").map fun p => p.cps.toList.map fun n : Nat => (n : Int)).map txt = Txt.split (txt cs) "\n" := by
      rw [List.map_map]
      conv => rhs; rw [← List.map_id (Txt.split (txt cs) "\n")]
      refine List.map_congr_left fun p _ => ?_
      show txt (p.cps.toList.map fun n : Nat => (n : Int)) = p
      unfold txt
      rw [ofNat_toNat]
    rw [h3, h1] at h2
    refine txt_inj ?_ h0 h2.symm
    have key : ∀ (ls : List (List Int)), (∀ l ∈ ls, ∀ c ∈ l, 0 ≤ c) → ∀ c ∈ glue ls, 0 ≤ c := by
      intro ls
      induction ls with
      | nil => intro _ c hc; cases hc
      | cons l r ih =>
        intro h c hc
        cases r with
        | nil => exact h l (.head _) c hc
        | cons m r =>
          rw [glue_cons _ _ (by simp)] at hc
          rcases List.mem_append.mp hc with hc | hc
          · exact h l (.head _) c hc
          · rcases List.mem_cons.mp hc with rfl | hc
            · decide
            · exact ih (fun l hl => h l (.tail _ hl)) c hc
    refine key _ fun l hl c hc => ?_
    refine genP fun C9 k9 => ?_
    refine ex_1_2 (List.mem_map.mp hl) ?_
    intro p _ e9_2
    subst e9_2
    refine k9 ?_
    clear k9 C9
    refine genP fun C9 k9 => ?_
    refine ex_1_2 (List.mem_map.mp hc) ?_
    intro n _ e9_2
    subst e9_2
    refine k9 ?_
    clear k9 C9
    exact Int.natCast_nonneg n
  · intro l hl c hc e
    refine genP fun C9 k9 => ?_
    refine ex_1_2 (List.mem_map.mp hl) ?_
    intro p hp e9_2
    subst e9_2
    refine k9 ?_
    clear k9 C9
    refine ex_1_2 (List.mem_map.mp hc) ?_
    intro n hn e2
    have := StrLaws.split_free (txt cs) 10 p hp
    refine this ?_
    have : n = 10 := by lia
    rw [← this]; exact hn
  · rw [List.length_map]
    exact split_pos (txt cs) "\n"
theorem place_at : ∀ (ls : List (List Int)) (i : Nat), 0 < ls.length → i ≤ (glue ls).length → ∃ (j x : Nat) (h : j < ls.length), x ≤ ls[j].length ∧ i = off ls j + x
  | [l], i, _, hi => ⟨0, i, by simp, hi, by rw [off_zero, Nat.zero_add]⟩
  | l :: m :: r, i, _, hi => by
    rw [glue_cons _ _ (by simp), List.length_append, List.length_cons] at hi
    rcases Nat.lt_or_ge l.length i with h | h
    · obtain ⟨d, rfl⟩ := Nat.exists_eq_add_of_lt h
      refine genP fun C9 k9 => ?_
      obtain ⟨j, x, hj, hx, e⟩ := place_at (m :: r) d (Nat.succ_pos _) (Nat.le_of_add_le_add_left (Nat.le_of_succ_le_succ hi))
      refine k9 ?_
      clear k9 C9
      refine ⟨j + 1, x, Nat.succ_lt_succ hj, hx, ?_⟩
      have : off (l :: m :: r) (j + 1) = l.length + (off (m :: r) j + 1) := by
        unfold off
        rw [List.take_succ_cons, nls_cons, List.length_append, List.length_cons]
      rw [this, e]
      exact (congrArg (· + 1) (Nat.add_assoc _ _ _).symm).trans (Nat.add_right_comm _ x 1)
    · exact ⟨0, i, Nat.succ_pos _, h, by rw [off_zero, Nat.zero_add]⟩
theorem back_text {ls : List (List Int)} (h10 : ∀ l ∈ ls, ∀ c ∈ l, c ≠ 10) (o k : Nat) (ho : o + 1 < ls.length) (a b : Nat) (ha : a = (fwdL (glue ls) 1 (off ls o)).1) (hb : b = backL (glue ls) k (lsN (glue ls) (off ls o))) :
    (glue ls).take b ++ (slice (glue ls) (off ls o) a ++ slice (glue ls) b (off ls o)) ++ (glue ls).drop a = glue (ls.take (o - k) ++ [ls[o]] ++ (ls.drop (o - k)).take (o - (o - k)) ++ ls.drop (o + 1)) ∧
      (b : Int) + a - off ls o = ((nls (ls.take (o - k) ++ [ls[o]])).length : Nat) ∧ b ≤ a ∧ a ≤ (glue ls).length := by
  have hN : nls [ls[o]] = ls[o] ++ [10] := by rw [nls_cons]; rfl
  have hj := Nat.lt_of_succ_lt ho
  have h1 : _ = (off ls (o + 1), 0) := fwdL_in h10 0 o ho
  have h2 : lsN (glue ls) (off ls o) = off ls o := lsN_glue h10 o hj 0 (Nat.zero_le _)
  rw [h1] at ha
  rw [h2, backL_glue h10 k o hj] at hb
  subst ha hb
  have hne : ls.drop (o + 1) ≠ [] := fun e => Nat.lt_irrefl _ (Nat.lt_of_lt_of_le ho (List.drop_eq_nil_iff.mp e))
  have l0 := Nat.sub_le o k
  generalize o - k = d at l0 ⊢
  have l2 := off_lt (ls := ls) (o + 1) ho
  have l3 := off_succ ls o hj
  have s1 : slice (glue ls) (off ls o) (off ls (o + 1)) = ls[o] ++ [10] := by
    rw [slice_off o (o + 1) (Nat.le_succ o) ho, Nat.add_sub_cancel_left, List.drop_eq_getElem_cons hj, List.take_succ_cons, List.take_zero, hN]
  refine ⟨?_, ?_, off_le ls d (o + 1) (Nat.le_succ_of_le l0), Nat.le_trans (Nat.le_add_right _ _) l2⟩
  · rw [take_off _ (Nat.lt_of_le_of_lt l0 hj), s1, slice_off d o l0 hj, drop_off _ ho, glue_app _ _ hne, nls_append, nls_append, hN, List.append_assoc (nls _) (ls[o] ++ [10])]
  · rw [nls_append, hN, List.length_append, l3, List.length_append]
    show ((off ls d + (off ls o + (ls[o].length + 1)) : Nat) : Int) - off ls o = _
    rw [Nat.add_left_comm, Int.natCast_add, Int.add_comm, Int.add_sub_cancel]
    rfl
theorem cnt_take {ls : List (List Int)} (h10 : ∀ l ∈ ls, ∀ c ∈ l, c ≠ 10) (hp : ∀ l ∈ ls, ∀ c ∈ l, 0 ≤ c) (j x : Nat) (h : j < ls.length) (hx : x ≤ ls[j].length) : Txt.count (txt ((glue ls).take (off ls j + x))) "\n" = j := by
  have e : (glue ls).take (off ls j + x) = nls (ls.take j) ++ ls[j].take x := by
    refine ex_1_2 (glue_rest ls j 0 h (Nat.zero_le _)) ?_
    intro rest e1 _
    rw [Nat.add_zero, List.drop_zero] at e1
    rw [List.take_add, take_off j h, e1, List.take_append_of_le_length hx]
  have free : ∀ (l : List Int), (∀ c ∈ l, c ≠ 10) → (∀ c ∈ l, 0 ≤ c) → cnt 10 (l.map Int.toNat) = 0 := fun l hl h0 => cnt_none 10 _ fun hc => by
    refine ex_1_2 (List.mem_map.mp hc) ?_
    intro c hc e
    exact hl c hc (by rw [← Int.toNat_of_nonneg (h0 c hc), e]; rfl)
  have key : ∀ (r : List (List Int)), (∀ l ∈ r, ∀ c ∈ l, c ≠ 10) → (∀ l ∈ r, ∀ c ∈ l, 0 ≤ c) → cnt 10 ((nls r).map Int.toNat) = r.length := by
    intro r
    induction r with
    | nil => intro _ _; rfl
    | cons l r ih =>
      intro a b
      rw [nls_cons, List.map_append, List.map_cons, cnt_append, cnt_cons, free l (a l (.head _)) (b l (.head _)), ih (fun l hl => a l (.tail _ hl)) fun l hl => b l (.tail _ hl), if_pos (by decide), List.length_cons]
      first | rfl | exact Nat.add_comm _ _ | lia
  rw [show ("\n" : Str) = ⟨#[10]⟩ from rfl, show Txt.count (txt ((glue ls).take (off ls j + x))) ⟨#[10]⟩ = cnt 10 (txt ((glue ls).take (off ls j + x))).cps.toList from count_is _ _, txt_cps, e, List.map_append, cnt_append, key (ls.take j) (fun l hl => h10 l (List.mem_of_mem_take hl)) (fun l hl => hp l (List.mem_of_mem_take hl)),
    free _ (fun c hc => h10 _ (List.getElem_mem h) c (List.mem_of_mem_take hc)) (fun c hc => hp _ (List.getElem_mem h) c (List.mem_of_mem_take hc)), List.length_take, Nat.min_eq_left (Nat.le_of_lt h)]
  first | rfl | lia
end
section
theorem cut_map (ls : List (List Int)) (lo hi : Option Int) : cut (ls.map txt) lo hi = (cut ls lo hi).map txt := by
  unfold cut
  rw [List.length_map, ← List.map_drop, ← List.map_take]
theorem cut_mid {α : Type} (ls : List α) (o k : Nat) : cut ls (some ((o : Int) + 1)) (some ((o : Int) + 1 + k)) = (ls.drop (o + 1)).take k := by
  unfold cut
  show (ls.drop ((o : Int) + 1).toNat).take (((o : Int) + 1 + k).toNat - ((o : Int) + 1).toNat) = _
  rw [show ((o : Int) + 1 + k).toNat - ((o : Int) + 1).toNat = k from Nat.add_sub_cancel_left (n := o + 1) (m := k)]
  rfl
theorem cut_to {α : Type} (ls : List α) (o : Nat) : cut ls none (some (o : Int)) = ls.take o := by
  unfold cut
  show (ls.drop 0).take ((o : Int).toNat - 0) = _
  rfl
theorem cut_from {α : Type} (ls : List α) (z : Int) (h : 0 ≤ z) : cut ls (some z) none = ls.drop z.toNat := by
  unfold cut
  show (ls.drop z.toNat).take ((ls.length : Int).toNat - z.toNat) = _
  exact List.take_of_length_le (by rw [List.length_drop]; exact Nat.le_refl _)
theorem join_nls : ∀ (rows : List (List Int)), Str.join "" ((rows.map txt).map fun r : Str => r ++ ("\n" : Str)) = txt (nls rows)
  | [] => rfl
  | [l] => by
    show txt l ++ ("\n" : Str) = _
    rw [show ("\n" : Str) = txt [10] from rfl, txt_append]
    unfold nls
    simp
  | l :: m :: r => by
    have ih := join_nls (m :: r)
    show txt l ++ ("\n" : Str) ++ ("" : Str) ++ Str.join "" (((m :: r).map txt).map fun r : Str => r ++ ("\n" : Str)) = _
    rw [ih, show ("\n" : Str) = txt [10] from rfl, show ("" : Str) = txt [] from rfl, txt_append, txt_append, txt_append, nls_cons l (m :: r)]
    simp
theorem joinT {sep : Str} {xs : List Str} : Txt.join sep xs = Str.join sep xs := beq_iff_eq.mp (join_closes rfl)
theorem sum_nls (rows : List (List Int)) : ((rows.map txt).map fun r : Str => (r.length : Int) + 1).sum = ((nls rows).length : Nat) := by
  induction rows with
  | nil => rfl
  | cons l r ih =>
    rw [List.map_cons, List.map_cons, List.sum_cons, ih, nls_cons, txt_len, List.length_append, List.length_cons, Int.add_assoc, Int.add_comm 1]
    rfl
theorem othS_map (ls : List (List Int)) (o k : Nat) : othS (ls.map txt) o k = (othL ls o k).map txt := by
  unfold othS othL
  rw [cut_map, cut_mid, List.length_map, List.map_append, List.map_replicate]
  congr 2
  exact Int.toNat_sub _ _
theorem topS_map (ls : List (List Int)) (o k : Nat) (h : o < ls.length) : topS (ls.map txt) o k = (ls.take o ++ othL ls o k ++ [ls[o]]).map txt := by
  unfold topS
  rw [cut_map, cut_to, othS_map, List.map_append, List.map_append]
  congr 1
  show [(ls.map txt).getD (o : Int).toNat Str.empty] = [txt ls[o]]
  rw [Int.toNat_natCast, List.getD_eq_getElem?_getD, List.getElem?_map, List.getElem?_eq_getElem h]
  rfl
theorem allS_map (ls : List (List Int)) (o k : Nat) (h : o < ls.length) : allS (ls.map txt) o k = txt (nls (ls.take o ++ othL ls o k ++ [ls[o]] ++ ls.drop (o + 1 + k))) := by
  unfold allS
  rw [topS_map ls o k h, cut_map, cut_from _ _ (show 0 ≤ (o : Int) + 1 + k from Int.natCast_nonneg (o + 1 + k)), show ((o : Int) + 1 + k).toNat = o + 1 + k from rfl, ← List.map_append, joinT, join_nls]
theorem txt_but {cs : List Int} (h : cs ≠ []) : Txt.slice (txt cs) none (some (-1)) = txt cs.dropLast := by
  have hl : 0 < cs.length := List.length_pos_iff.mpr h
  show StrLaws.sliceText (txt cs) none (some (-1)) = _
  obtain ⟨m, e⟩ := Nat.exists_eq_add_one.mpr hl
  have e1 : (-1 + (cs.length : Int) - 0).toNat = cs.length - 1 := by
    rw [Int.sub_zero, Int.add_comm, e]
    exact congrArg Int.toNat (Int.add_neg_cancel_right (m : Int) 1)
  rw [StrLaws.sliceText_to_neg (by decide) (by rw [txt_len]; exact Int.neg_le_neg (Int.ofNat_le.mpr hl)), txt_cps, txt_len, e1]
  unfold txt
  congr 2
  rw [List.drop_zero, ← List.map_take, List.dropLast_eq_take]
theorem told_txt (cs : List Int) (first : Int) (e0 e1 : Nat) (codes : List Int) (pl : Int) : toldR (.ok ((first + e0, first + e1, codes), first + pl)) first (txt cs) = .text (txt (cs.take e0 ++ codes ++ cs.drop e1)) pl := by
  show Res.text _ _ = _
  rw [i3, i3, i3, txt_to (Int.natCast_nonneg _), txt_from (Int.natCast_nonneg _), join_txt, txt_append, txt_append]
  rfl
theorem lines_res {ls : List (List Int)} (h10 : ∀ l ∈ ls, ∀ c ∈ l, c ≠ 10) (hl : ∀ h : 0 < ls.length, ls[ls.length - 1] ≠ []) (o k : Nat) (hk : 0 < k) (ho : o < ls.length) (first : Int) (a b : Nat × Nat) (ha : a = ahL (glue ls) 1 (off ls o)) (hb : b = ahL (glue ls) k a.1) :
    toldR (.ok ((first + (off ls o : Nat), first + (b.1 : Nat), (slice (glue ls) a.1 b.1 ++ List.replicate b.2 10) ++ (slice (glue ls) (off ls o) a.1 ++ List.replicate a.2 10)), first + (off ls o : Nat) + (slice (glue ls) a.1 b.1 ++ List.replicate b.2 10).length + (slice (glue ls) (off ls o) a.1 ++ List.replicate a.2 10).length)) first (txt (glue ls)) = blR (ls.map txt) o k := by
  refine ex_0_4 (lines_text h10 hl o k hk ho a b ha hb) ?_
  intro h1 h2 h3 h4
  refine (congrArg (fun z : Int => toldR (.ok ((first + (off ls o : Nat), first + (b.1 : Nat), (slice (glue ls) a.1 b.1 ++ List.replicate b.2 10) ++ (slice (glue ls) (off ls o) a.1 ++ List.replicate a.2 10)), z)) first (txt (glue ls))) (show _ = first + (((nls (ls.take o ++ othL ls o k ++ [ls[o]])).length : Nat) : Int) by rw [← h2, Int.natCast_add, Int.natCast_add, ← Int.add_assoc, ← Int.add_assoc])).trans ?_
  rw [told_txt, h1]
  unfold blR
  rw [allS_map ls o k ho, topS_map ls o k ho, sum_nls, List.length_map]
  by_cases hc : o + 1 + k < ls.length
  · rw [if_pos hc, if_pos (show (o : Int) + 1 + k < ls.length from Int.ofNat_lt.mpr hc), txt_but]
    intro e
    have := congrArg List.length e
    rw [nls_append, nls_append, nls_append, nls_cons ls[o]] at this
    simp at this
  · rw [if_neg hc, if_neg (show ¬ (o : Int) + 1 + k < ls.length from fun q => hc (Int.ofNat_lt.mp q))]
end
section
noncomputable def shE (first : Int) : Except Str ((Nat × Nat × List Int) × Int) → Except Str ((Int × Int × List Int) × Int)
  | .error e => .error e
  | .ok ((a, b, c), p) => .ok ((first + a, first + b, c), first + p)
theorem charF_ok {n i : Nat} {many : Int} (h1 : (i : Int) + many ≤ n) (h2 : 0 ≤ (i : Int) + many) : charF n i many = .ok ((i : Int) + many).toNat := by
  unfold charF; rw [if_neg (by with_reducible_and_instances exact Int.not_lt.mpr h1), if_neg (by with_reducible_and_instances exact Int.not_lt.mpr h2)]
theorem charF_hi {n i : Nat} {many : Int} (h1 : (n : Int) < (i : Int) + many) : charF n i many = .error "end-of-buffer" := by
  unfold charF; rw [if_pos h1]
theorem charF_lo {n i : Nat} {many : Int} (h1 : ¬ (n : Int) < (i : Int) + many) (h2 : (i : Int) + many < 0) : charF n i many = .error "beginning-of-buffer" := by
  unfold charF; rw [if_neg h1, if_pos h2]
theorem slice_one {cs : List Int} {i : Nat} (h : 0 < i) (hi : i ≤ cs.length) : slice cs (i - 1) i = [cs.getD (i - 1) 0] := by
  cases i with
  | zero => exact absurd h (Nat.lt_irrefl 0)
  | succ j =>
    show slice cs j (j + 1) = [cs.getD j 0]
    unfold slice
    rw [drop_cons hi, Nat.add_sub_cancel_left, List.take_succ_cons, List.take_zero]
theorem slice_self (cs : List Int) (i : Nat) : slice cs i i = [] := by unfold slice; rw [Nat.sub_self, List.take_zero]
theorem charF_eq {n i j : Nat} {many : Int} (e : (i : Int) + many = j) (h : j ≤ n) : charF n i many = .ok j := by
  rw [charF_ok (by rw [e]; exact Int.ofNat_le.mpr h) (by rw [e]; exact Int.natCast_nonneg _), e]; rfl
theorem txt_toN (cs : List Int) (j : Nat) : Txt.slice (txt cs) none (some (j : Int)) = txt (cs.take j) := txt_to (Int.natCast_nonneg _)
theorem txt_fromN (cs : List Int) (j : Nat) : Txt.slice (txt cs) (some (j : Int)) none = txt (cs.drop j) := txt_from (Int.natCast_nonneg _)
theorem nover {n j : Nat} {many : Int} (hi : j ≤ n) (hp : ¬ many > 0) : ¬ (n : Int) < (j : Int) + many := Int.not_lt.mpr (Int.le_trans (Int.add_le_add_left (Int.not_lt.mp hp) _) ((Int.add_zero (j : Int)).symm ▸ Int.ofNat_le.mpr hi))
theorem chars_res {cs : List Int} (i : Nat) (hi : i ≤ cs.length) (many : Int) (hm : many ≠ 0) (first : Int) : toldR (shE first (unitsE (charF cs.length) cs i many)) first (txt cs) = bcR (txt cs) i many := by
  cases i with
  | zero =>
    have e : unitsE (charF cs.length) cs 0 many = .error "beginning-of-buffer" := unitsE_1 (aroundE_e1 (charF_lo (Int.not_lt.mpr (Int.le_trans (by decide) (Int.natCast_nonneg _))) (by decide)))
    rw [e, bcR_1 (by rfl)]
    rfl
  | succ j =>
    have hj := Nat.le_of_succ_le hi
    have c1 : ((j + 1 : Nat) : Int) - 1 = (j : Int) := Int.add_sub_cancel (j : Int) 1
    have a1 : charF cs.length (j + 1) (-1) = .ok j := charF_eq c1 hj
    have a2 : charF cs.length j (0 - -1) = .ok (j + 1) := charF_eq rfl hi
    have e1 : aroundE (charF cs.length) (j + 1) (-1) = .ok (j, j + 1, j + 1) := by
      rw [aroundE_ok a1 a2, Nat.min_eq_left (Nat.le_succ j), Nat.max_eq_right (Nat.le_succ j)]
    have hne : ¬ ((j + 1 : Nat) : Int) = 0 := fun h => Nat.succ_ne_zero j (Int.ofNat.inj h)
    have hS : Txt.slice (txt cs) none (some (((j + 1 : Nat) : Int) - 1)) ++ Txt.slice (txt cs) (some ((j + 1 : Nat) : Int)) none = txt (cs.take j ++ cs.drop (j + 1)) := by
      rw [c1, txt_toN, txt_fromN, txt_append]
    have hI : Txt.item (txt cs) (((j + 1 : Nat) : Int) - 1) = txt [cs.getD j 0] := by rw [c1, txt_itemN hi]
    have s1 : slice cs j (j + 1) = [cs.getD j 0] := slice_one (Nat.succ_pos j) hi
    by_cases hp : many > 0
    · by_cases hb : (cs.length : Int) < ((j + 1 : Nat) : Int) + many
      · have e : unitsE (charF cs.length) cs (j + 1) many = .error "end-of-buffer" := unitsE_2 e1 hp (aroundE_e1 (charF_hi hb))
        rw [e, bcR_2 hne (by rw [txt_len]; exact hb)]
        rfl
      · obtain ⟨m, rfl⟩ : ∃ m : Nat, many = m := ⟨many.toNat, (Int.toNat_of_nonneg (Int.le_of_lt hp)).symm⟩
        have hb' : j + 1 + m ≤ cs.length := Int.ofNat_le.mp (Int.not_lt.mp hb)
        have a3 : charF cs.length (j + 1) (m : Int) = .ok (j + 1 + m) := charF_eq rfl hb'
        have a4 : charF cs.length (j + 1 + m) (0 - (m : Int)) = .ok (j + 1) := charF_eq (by rw [Int.zero_sub]; exact Int.add_neg_cancel_right ((j + 1 : Nat) : Int) m) hi
        have e2 : aroundE (charF cs.length) (j + 1) m = .ok (j + 1, j + 1 + m, j + 1) := by
          rw [aroundE_ok a3 a4, Nat.min_eq_right (Nat.le_add_right _ _), Nat.max_eq_left (Nat.le_add_right _ _)]
        have e3 : regE cs j (j + 1) (j + 1) (j + 1 + m) = some (j, j + 1 + m, slice cs (j + 1) (j + 1 + m) ++ slice cs (j + 1) (j + 1) ++ slice cs j (j + 1)) := by
          unfold regE
          rw [if_pos (Nat.le_succ j), if_pos (Nat.le_refl _)]
        have c2 : ((j + 1 : Nat) : Int) - 1 + (m : Int) = ((j + m : Nat) : Int) := by rw [c1]; rfl
        rw [unitsE_6 e1 hp e2 e3]
        show toldR (.ok ((first + (j : Int), first + ((j + 1 + m : Nat) : Int), _), first + ((j + 1 + m : Nat) : Int))) first (txt cs) = _
        rw [told_txt, bcR_4 hne (by rw [txt_len]; exact hb) (by rw [if_pos hp, c1]; exact nneg j), hS, hI, c2, txt_toN, txt_fromN, txt_append, txt_append, slice_self, s1]
        congr 2
        have l1 : (cs.take j).length = j := by rw [List.length_take]; exact Nat.min_eq_left hj
        have l2 : (cs.take j).length ≤ j + m := by rw [l1]; exact Nat.le_add_right _ _
        rw [List.take_append, List.drop_append, l1, List.take_of_length_le l2, List.drop_eq_nil_of_le l2, Nat.add_sub_cancel_left, List.drop_drop]
        unfold slice
        rw [Nat.add_sub_cancel_left]
        simp
    · by_cases hb : ((j + 1 : Nat) : Int) - 1 + many < 0
      · have e : unitsE (charF cs.length) cs (j + 1) many = .error "beginning-of-buffer" := unitsE_3 e1 hp (aroundE_e1 (charF_lo (nover hj hp) (by rw [c1] at hb; exact hb)))
        rw [e, bcR_3 hne (by rw [txt_len]; exact nover hi hp) (by rw [if_neg hp]; exact hb)]
        rfl
      · have hlo := nover hi hp
        obtain ⟨m, rfl, hm1⟩ : ∃ m : Nat, many = -(m : Int) ∧ 0 < m := (neg_succ hp hm).elim fun m' e => ⟨m' + 1, e, Nat.succ_pos m'⟩
        have hmj : m ≤ j := Int.ofNat_le.mp (Int.le_of_sub_nonneg (Int.not_lt.mp (by rw [c1] at hb; exact hb)))
        obtain ⟨k, rfl⟩ : ∃ k, j = k + m := ⟨j - m, (Nat.sub_add_cancel hmj).symm⟩
        clear hmj
        have hk := Nat.le_trans (Nat.le_add_right k m) hj
        have c3 : ((k + m : Nat) : Int) + -(m : Int) = (k : Int) := Int.add_neg_cancel_right (k : Int) (m : Int)
        have a3 : charF cs.length (k + m) (-(m : Int)) = .ok k := charF_eq c3 hk
        have a4 : charF cs.length k (0 - -(m : Int)) = .ok (k + m) := charF_eq (by rw [Int.zero_sub, Int.neg_neg]; rfl) hj
        have e2 : aroundE (charF cs.length) (k + m) (-(m : Int)) = .ok (k, k + m, k + m) := by
          rw [aroundE_ok a3 a4, Nat.min_eq_left (Nat.le_add_right _ _), Nat.max_eq_right (Nat.le_add_right _ _)]
        have e3 : regE cs (k + m) (k + m + 1) k (k + m) = some (k, k + m + 1, slice cs (k + m) (k + m + 1) ++ slice cs (k + m) (k + m) ++ slice cs k (k + m)) := by
          unfold regE
          rw [if_neg (Nat.not_le.mpr (Nat.lt_add_of_pos_right hm1)), if_pos (Nat.le_refl _)]
        rw [unitsE_7 e1 hp e2 e3]
        show toldR (.ok ((first + (k : Int), first + ((k + m + 1 : Nat) : Int), _), first + ((k : Int) + ((k + m + 1 : Nat) : Int) - ((k + m : Nat) : Int)))) first (txt cs) = _
        rw [told_txt, bcR_4 hne (by rw [txt_len]; exact hlo) (by rw [if_neg hp]; exact hb), hS, hI, c1, c3, txt_toN, txt_fromN, txt_append, txt_append, slice_self, s1]
        have l1 : (cs.take (k + m)).length = k + m := by rw [List.length_take]; exact Nat.min_eq_left hj
        have l2 : k ≤ (cs.take (k + m)).length := by rw [l1]; exact Nat.le_add_right _ _
        have e5 : cs.take k ++ ([cs.getD (k + m) 0] ++ [] ++ slice cs k (k + m)) ++ cs.drop (k + m + 1) = (cs.take (k + m) ++ cs.drop (k + m + 1)).take k ++ [cs.getD (k + m) 0] ++ (cs.take (k + m) ++ cs.drop (k + m + 1)).drop k := by
          rw [List.take_append_of_le_length l2, List.drop_append_of_le_length l2, List.take_take, Nat.min_eq_left (Nat.le_add_right _ _), List.drop_take]
          unfold slice
          simp
        rw [e5]
        congr 1
        show (k : Int) + (((k + m : Nat) : Int) + 1) - ((k + m : Nat) : Int) = ((k + m : Nat) : Int) + 1 + -(m : Int)
        rw [Int.add_left_comm, i3, Int.natCast_add, Int.add_right_comm, Int.add_neg_cancel_right]
end
section
theorem atN_txt {cs : List Int} (ht : TextOk cs) (i : Nat) (hi : i ≤ cs.length) : atN (txt cs) i = (nlBack cs i : Nat) := by
  unfold atN nlBack
  cases i with
  | zero =>
    rw [if_neg (by decide), if_neg (show ¬ ((0 = cs.length ∨ cs.getD 0 0 = 10) ∧ 0 < 0) from fun q => absurd q.2 (by decide))]
    rfl
  | succ j =>
    have h0 := Nat.succ_pos j
    rw [if_pos (show (0 : Int) < ((j + 1 : Nat) : Int) from Int.ofNat_lt.mpr h0), show ((j + 1 : Nat) : Int) + 1 = ((j + 1 + 1 : Nat) : Int) from rfl, txt_slice_nat]
    rcases Nat.lt_or_ge (j + 1) cs.length with h | h
    · have e : slice cs (j + 1) (j + 1 + 1) = [cs.getD (j + 1) 0] := by
        unfold slice
        rw [drop_cons h, Nat.add_sub_cancel_left, List.take_succ_cons, List.take_zero]
      rw [e]
      have hs := ht.at h
      generalize cs.getD (j + 1) 0 = c at hs
      have key : ((["", "\n"] : List Str).any fun x => x == txt [c]) = decide (c = 10) := by
        rcases hs with rfl | rfl | rfl | rfl | rfl | rfl | rfl <;> decide +kernel
      rw [key]
      by_cases hc : c = 10
      · rw [decide_eq_true hc, if_pos rfl, if_pos ⟨.inr hc, h0⟩]
        exact i1 j
      · rw [decide_eq_false hc, if_neg (by decide), if_neg (fun q => q.1.elim (Nat.ne_of_lt h) hc)]
        exact Int.sub_zero _
    · have e : slice cs (j + 1) (j + 1 + 1) = [] := by unfold slice; rw [List.drop_eq_nil_of_le h, List.take_nil]
      rw [e, if_pos (by decide +kernel), if_pos ⟨.inl (Nat.le_antisymm hi h), h0⟩]
      exact i1 j
noncomputable def okW (cs : List Int) (i : Nat) (many : Int) : Except Str Nat := .ok (wordF cs i many)
theorem around_okW (cs : List Int) (i : Nat) (many : Int) : aroundE (okW cs) i many = .ok ((lohi cs i many).1, (lohi cs i many).2.1, (lohi cs i many).2.2) := rfl
theorem exS_reg {cs : List Int} {a0 a1 b0 b1 : Nat} : exS (txt cs) a0 a1 b0 b1 = (regE cs a0 a1 b0 b1).map fun e => txt (cs.take e.1 ++ e.2.2 ++ cs.drop e.2.1) := by
  have key : ∀ x0 x1 y0 y1 : Nat, Txt.slice (txt cs) none (some (x0 : Int)) ++ Txt.slice (txt cs) (some (y0 : Int)) (some (y1 : Int)) ++ Txt.slice (txt cs) (some (x1 : Int)) (some (y0 : Int)) ++ Txt.slice (txt cs) (some (x0 : Int)) (some (x1 : Int)) ++ Txt.slice (txt cs) (some (y1 : Int)) none = txt (cs.take x0 ++ (slice cs y0 y1 ++ slice cs x1 y0 ++ slice cs x0 x1) ++ cs.drop y1) := by
    intro x0 x1 y0 y1
    rw [txt_toN, txt_slice_nat, txt_slice_nat, txt_slice_nat, txt_fromN, txt_append, txt_append, txt_append, txt_append]
    congr 1
    simp
  unfold exS regE
  by_cases h : a0 ≤ b0
  · rw [if_pos (Int.ofNat_le.mpr h), if_pos h]
    by_cases h2 : a1 ≤ b0
    · rw [if_neg (Int.not_lt.mpr (Int.ofNat_le.mpr h2)), if_pos h2, key]
      rfl
    · rw [if_pos (Int.ofNat_lt.mpr (Nat.lt_of_not_le h2)), if_neg h2]
      rfl
  · rw [if_neg fun q => h (Int.ofNat_le.mp q), if_neg h]
    by_cases h2 : b1 ≤ a0
    · rw [if_neg (Int.not_lt.mpr (Int.ofNat_le.mpr h2)), if_pos h2, key]
      rfl
    · rw [if_pos (Int.ofNat_lt.mpr (Nat.lt_of_not_le h2)), if_neg h2]
      rfl
theorem words_res {cs : List Int} (i : Nat) (many : Int) (first : Int) : toldR (shE first (unitsE (okW cs) cs i many)) first (txt cs) = bwR cs i many := by
  unfold bwR
  rw [exS_reg]
  by_cases hp : many > 0
  · rw [if_pos hp]
    cases hr : regE cs (lohi cs i (-1)).1 (lohi cs i (-1)).2.1 (lohi cs (lohi cs i (-1)).2.2 many).1 (lohi cs (lohi cs i (-1)).2.2 many).2.1 with
    | none => rw [unitsE_4 (around_okW cs i (-1)) hp (around_okW cs _ many) hr]; rfl
    | some e =>
      refine genP fun C9 k9 => ?_
      obtain ⟨e0, e1, codes⟩ := e
      refine k9 ?_
      clear k9 C9
      rw [unitsE_6 (around_okW cs i (-1)) hp (around_okW cs _ many) hr]
      show toldR (.ok ((first + (e0 : Int), first + (e1 : Int), codes), first + ((lohi cs (lohi cs i (-1)).2.2 many).2.1 : Int))) first (txt cs) = _
      rw [told_txt, if_pos hp]
      rfl
  · rw [if_neg hp]
    cases hr : regE cs (lohi cs i (-1)).1 (lohi cs i (-1)).2.1 (lohi cs (lohi cs i (-1)).1 many).1 (lohi cs (lohi cs i (-1)).1 many).2.1 with
    | none => rw [unitsE_5 (around_okW cs i (-1)) hp (around_okW cs _ many) hr]; rfl
    | some e =>
      refine genP fun C9 k9 => ?_
      obtain ⟨e0, e1, codes⟩ := e
      refine k9 ?_
      clear k9 C9
      rw [unitsE_7 (around_okW cs i (-1)) hp (around_okW cs _ many) hr]
      show toldR (.ok ((first + (e0 : Int), first + (e1 : Int), codes), first + (((lohi cs (lohi cs i (-1)).1 many).1 : Int) + (lohi cs i (-1)).2.1 - (lohi cs i (-1)).1))) first (txt cs) = _
      rw [told_txt, if_neg hp, Int.add_sub_assoc]
      rfl
noncomputable def shM (first : Int) (j : Nat) : Except Str (Nat × Nat × List Int) → Except Str ((Int × Int × List Int) × Int)
  | .error e => .error e
  | .ok (a, b, c) => .ok ((first + a, first + b, c), first + j)
noncomputable def mkR (cs : List Int) (i j : Nat) : Res :=
  match exS (txt cs) (lohi cs i 1).1 (lohi cs i 1).2.1 (lohi cs j 1).1 (lohi cs j 1).2.1 with
  | none => .sym "error"
  | some x => .text x j
theorem marks_res {cs : List Int} (i j : Nat) (first : Int) : toldR (shM first j (marksE (okW cs) cs i j)) first (txt cs) = mkR cs i j := by
  unfold mkR
  rw [exS_reg]
  cases hr : regE cs (lohi cs i 1).1 (lohi cs i 1).2.1 (lohi cs j 1).1 (lohi cs j 1).2.1 with
  | none => rw [marksE_3 (around_okW cs i 1) (around_okW cs j 1) hr]; rfl
  | some e =>
    refine genP fun C9 k9 => ?_
    obtain ⟨e0, e1, codes⟩ := e
    refine k9 ?_
    clear k9 C9
    rw [marksE_4 (around_okW cs i 1) (around_okW cs j 1) hr]
    show toldR (.ok ((first + (e0 : Int), first + (e1 : Int), codes), first + (j : Int))) first (txt cs) = _
    rw [told_txt]
    rfl
noncomputable def bkS (xs : List Str) (o k : Nat) : Str := Txt.join "\n" (cut xs none (some ((o - k : Nat) : Int)) ++ [xs.getD (o : Int).toNat Str.empty] ++ cut xs (some ((o - k : Nat) : Int)) (some (o : Int)) ++ cut xs (some ((o : Int) + 1)) none)
noncomputable def bkP (xs : List Str) (o k : Nat) : Int := ((cut xs none (some ((o - k : Nat) : Int)) ++ [xs.getD (o : Int).toNat Str.empty]).map fun r : Str => (r.length : Int) + 1).sum
theorem cut_two {α : Type} (ls : List α) (a b : Nat) : cut ls (some (a : Int)) (some (b : Int)) = (ls.drop a).take (b - a) := rfl
theorem back_res {ls : List (List Int)} (h10 : ∀ l ∈ ls, ∀ c ∈ l, c ≠ 10) (o k : Nat) (ho : o + 1 < ls.length) (first : Int) (a b : Nat) (ha : a = (fwdL (glue ls) 1 (off ls o)).1) (hb : b = backL (glue ls) k (lsN (glue ls) (off ls o))) :
    toldR (.ok ((first + (b : Int), first + (a : Int), slice (glue ls) (off ls o) a ++ slice (glue ls) b (off ls o)), first + (b : Int) + (first + (a : Int)) - (first + (off ls o : Nat)))) first (txt (glue ls)) = .text (bkS (ls.map txt) o k) (bkP (ls.map txt) o k) := by
  refine ex_0_4 (back_text h10 o k ho a b ha hb) ?_
  intro h1 h2 h3 h4
  refine (congrArg (fun z : Int => toldR (.ok ((first + (b : Int), first + (a : Int), slice (glue ls) (off ls o) a ++ slice (glue ls) b (off ls o)), z)) first (txt (glue ls))) (show _ = first + (((nls (ls.take (o - k) ++ [ls[o]])).length : Nat) : Int) by rw [← h2, Int.add_assoc first, Int.add_left_comm (b : Int), Int.add_sub_assoc, Int.add_sub_add_left])).trans ?_
  rw [told_txt, h1]
  have hg : (ls.map txt).getD (o : Int).toNat Str.empty = txt ls[o] := by
    rw [Int.toNat_natCast, List.getD_eq_getElem?_getD, List.getElem?_map, List.getElem?_eq_getElem (Nat.lt_of_succ_lt ho)]
    rfl
  unfold bkS bkP
  rw [hg, cut_map, cut_to, cut_map, cut_two, cut_map, cut_from _ _ (show 0 ≤ (o : Int) + 1 from Int.natCast_nonneg (o + 1)), show ((o : Int) + 1).toNat = o + 1 from rfl]
  have e1 : (ls.take (o - k)).map txt ++ [txt ls[o]] = (ls.take (o - k) ++ [ls[o]]).map txt := by rw [List.map_append]; rfl
  rw [e1, ← List.map_append, ← List.map_append, joinT, join_glue, sum_nls]
end
section
theorem ctrX_lam {w : World} {f c' : Addr} {k : Nat} {vs : List Value} {news : Led} {R : Value → Led → Prop} {Y : Str → Prop} (names : List Str)
    {name qual : Str} {params : Arguments} {body : Expr} {scope : Scope} {clos : List (Str × Addr)} {pm ctv : Value} {oc : Obj} {vc : Array Value} {tq : Tok}
    (hm : (f, kla_obj name qual params body scope clos pm c' ctv) ∈ news) (hmc : (c', oc) ∈ news) (hoc : oc.data = .fields vc) (hvc : vc[1]? = some (.str qual tq))
    (hb : bindArgs (kla_fn name qual params body scope clos pm (.ref c') ctv) ⟨vs, []⟩ = pure (names.zip vs)) (hloc : ∀ y ∈ names.zip vs, scope.names.lookup y.1 = some .local)
    (hco : scope.isCoroutine = false) (hgen : scope.isGenerator = false) (hkd : scope.kind = .function) (hcell : ∀ x ∈ scope.names, x.2 ≠ .cell)
    (h : ∀ (p : Program) (loose : List Str) (mean : ExcName → Option Value) (mg mb : Str → Option Value) (dp un : Nat) (gd : Option (List Code)) (outer : List Env) (A₀ : Around) (base g : Heap) (L : Addr) (s : Shared),
      Below A₀ base outer g → Fr g L s.heap (fun y => (names.zip vs).reverse.lookup y) → (hd.heap_1 w.params).In g → News g L s.heap news → Top p loose mean mg mb g → dp + k < recursionLimit → un + 8 * k + 4 < cLine →
      wpAny (model PySem.Challenge.rw_np0052_01.row.prog w) (ktrTop dp un gd qual scope L f (.ref c') clos outer) (eval body (envX qual scope L f (.ref c') clos))
        (fun v s' => Ends g L s R v s') (fun e s' => EndsX g L outer news s Y e s') s) : CtrX w f (k + 1) vs news R Y := by
  intro p loose mean mg mb dp un gd cn cs a ccd cl outer A₀ base h₀ L m s Q E B F X N T hk hd hu hret herr
  refine wpAny_call ?_
  obtain ⟨FG, BG, st, lv⟩ := groundX (R := fun r s' => match r with | .ok (.ret v) => Q v s' | .ok _ => False | .error e => E e s') (A := ktrTop dp un gd cn cs L a ccd cl outer) B F N rfl rfl hk
  refine kla_callFunE (dp0 hd) (N _ hm).1 rfl hco hgen rfl (codeRec_news N hmc hoc hvc) ?_
  rw [hb]
  refine wpAny_pure (wpAny_newFunctionEnv hcell hloc (fun h₁ hns hsb => ⟨((T.nolimit).keeps F.keep).fresh _ hsb, ?_⟩) hkd)
  show codeAny _ _ (.expr body (envX qual scope s.heap.objs.size f (.ref c') clos)) _ _
  have hk₁ : ∀ b o, s.heap.get? b = some o → h₁.get? b = some o := fun b o e => hsb.extBut b o (Nat.ne_of_lt (Heap.lt_size e)) (Heap.get?_push_of_some _ e)
  have B' : Below _ base (envX cn cs L a ccd cl :: outer) (hideAll s.heap (news.map (·.1))) := BG
  have F' : Fr (hideAll s.heap (news.map (·.1))) s.heap.objs.size h₁ (fun y => (names.zip vs).reverse.lookup y) := ⟨hns, fun b o e => hk₁ b o (of_hideAll _ e), Nat.le_of_eq (hideAll_size _ _)⟩
  have N' : News (hideAll s.heap (news.map (·.1))) s.heap.objs.size h₁ news := fun p hp => ⟨hk₁ _ _ (N p hp).1, Nat.ne_of_lt (Heap.lt_size (N p hp).1), hideAll_none _ (List.mem_map_of_mem hp)⟩
  have kG : ∀ b o, s.heap.get? b = some o → b ∉ news.map (·.1) → (hideAll s.heap (news.map (·.1))).get? b = some o := fun b o e n => hideAll_get _ e n
  have h1 := h p loose mean mg mb (dp + 1) (un + 3) gd (envX cn cs L a ccd cl :: outer) _ base _ s.heap.objs.size { s with heap := h₁, toks := s.toks + (names.zip vs).length } B' F' (X.keeps st) N' (T.keeps st) (dpS hd) (unS hu)
  refine kla_codeExpr (wpAny_mono h1 (fun v s' hl => ?_) fun e' s' x => ?_)
  · refine genP fun C9 k9 => ?_
    refine ex_4_4 (hl) ?_
    try clear hl
    intro m' nw h' tk' e9_4 Fe Ne r
    subst e9_4
    refine k9 ?_
    clear k9 C9
    exact lv _ _ (leaveK_ Fe Ne fun F2 N2 => hret _ _ _ _ F2 N2 r)
  · refine genP fun C9 k9 => ?_
    refine ex_7_7 (x) ?_
    try clear x
    intro e0 sym H m' nw h' tk' e9_7 e9_8 Fe Ne hsub hy x
    subst e9_7
    subst e9_8
    refine k9 ?_
    clear k9 C9
    have ff : H.FunFrames base (envX qual scope s.heap.objs.size f (.ref c') clos :: envX cn cs L a ccd cl :: outer) := funFrames_push B' Fe hkd
    refine Exc.leave (L := s.heap.objs.size) x rfl ff rfl fun h'' x' => ?_
    have up : ∀ b o, s.heap.get? b = some o → H.get? b = some o ∧ b ≠ s.heap.objs.size := fun b o hb => by
      by_cases hm : b ∈ news.map (·.1)
      · refine genP fun C9 k9 => ?_
        refine ex_1_2 (List.mem_map.mp hm) ?_
        intro q hq e9_2
        subst e9_2
        refine k9 ?_
        clear k9 C9
        have e1 := (N q hq).1
        rw [hb] at e1
        cases e1
        exact ⟨(Ne _ (hsub q hq)).1, (N' q hq).2.1⟩
      · have hg := kG b o hb hm
        refine ⟨Fe.keep b o hg, fun q => ?_⟩
        subst q
        exact absurd (Nat.lt_of_lt_of_le (Heap.lt_size hg) Fe.above) (Nat.lt_irrefl _)
    exact herr e0 sym h'' tk' hy (x'.mono (fun b o hb => (up b o hb).1) fun b o hb => by
      show b ∈ s.heap.objs.size :: (L :: fsOf outer) ↔ _
      rw [List.mem_cons]
      exact ⟨fun z => z.resolve_left (up b o hb).2, .inr⟩)
end
section
variable {w : World} {news : Led}
theorem row_view {g h : Heap} {L : Addr} {x d D : Addr} {vs : List Value} {cs : List Int} {c : Nat} {first : Int} {t : Tok} {h1 t1 h2 t2 n} (N : News g L h ((D, listOf (List.toArray vs) c) :: (x, instObj 334 d) :: (d, dictOf [⟨h1, .str "codes" t1, .ref D⟩, ⟨h2, .str "place" t2, .int first t⟩] n) :: news))
    (hi : IntsAre vs cs) (hl : cs.length < 100) (hf : 0 ≤ first ∧ first < 100) (l1 : ∀ p ∈ news, p.1 < d) (l2 : d < x) (l3 : x < D ∧ d < D ∧ AllLt D news) :
    ∃ own, News g L h (own ++ news) ∧ ViewAt own x cs first ∧ ∀ p ∈ own, ∀ q ∈ news, q.1 ≠ p.1 := by
  have lo := allLt_lt l3.2.2
  refine ⟨[(D, listOf (List.toArray vs) c), (x, instObj 334 d), (d, dictOf [⟨h1, .str "codes" t1, .ref D⟩, ⟨h2, .str "place" t2, .int first t⟩] n)], N, ⟨d, D, vs, t, h1, t1, h2, t2, n, c, .tail _ (.head _), .tail _ (.tail _ (.head _)), .head _, hi, by with_reducible_and_instances exact Nat.lt_of_lt_of_le hl (by decide), hf.1, by (clear hl l1 l2 l3 lo; lia)⟩, fun p hp q hq => ?_⟩
  have h9 := l1 q hq
  rcases List.mem_cons.mp hp with rfl | hp
  · exact Nat.ne_of_lt (lo q hq)
  · rcases List.mem_cons.mp hp with rfl | hp
    · exact Nat.ne_of_lt (Nat.lt_trans h9 l2)
    · rw [List.mem_singleton.mp hp]
      exact Nat.ne_of_lt h9
theorem c_row {lc : Addr} {vs : List Value} {cs : List Int} {n : Nat} (hm : (lc, listOf (List.toArray vs) n) ∈ news) (hi : IntsAre vs cs) (hl : cs.length < 100) (first : Int) (hf : 0 ≤ first ∧ first < 100) (t : Tok) :
    Ctr w 334 3 [.ref lc, .int first t] news (fun r nw => ∃ v own, r = .ref v ∧ nw = own ++ news ∧ ViewAt own v cs first ∧ ∀ p ∈ own, ∀ q ∈ news, q.1 ≠ p.1) := by
  intro p loose mean mg mb dp un gd cn cs' a ccd cl outer A₀ base h₀ L m s Q E B F X N T hk hd hu hret
  refine' call_cls ?k1 ?k2 ?k3 ?k4 ?k5 ?k6 ?_
  (case k1 => k_asm); (case k2 => k_asm); (case k3 => k_asm); (case k4 => k_is); (case k5 => k_is); (case k6 => k_is)
  intro x' d' h' F' N' l1 l2; (try k_lt l1); (try k_lt2 l2); (try k_sweep); (try dsimp only)
  try clear F
  try clear N
  refine' code_def ?k1 ?k2 ?k3 ?k4 ?k5 ?kA ?kF ?kK ?k6 ?k7 ?k8 ?k9 ?kB ?_ ?c2 ?c3 ?c4 ?c5
  (case kA => exact rfl); (case kF => exact rfl); (case kK => exact hk); (case k1 => k_asm); (case k2 => k_asm); (case k3 => k_asm); (case k4 => k_asm); (case k5 => k_asm); (case k6 => k_is); (case k7 => k_is); (case k8 => k_room)
  (case k9 => first | exact BindsTo.of_eq rfl | exact binds_K (by k_in) rfl (by k_is) rfl rfl rfl)
  (case c5 => decide); (case kB => exact locs rfl); (case c2 => exact rfl); (case c3 => exact rfl); (case c4 => exact rfl)
  intro g' L' h' FG' F' N' B' X' T'; (try dsimp only); (try k_lift B'); (try k_fold)
  walk_at "steps"
  rename News h₀ L _ ((_, listOf _ _) :: (_, instObj 334 _) :: _) => N9
  rename _ ∧ _ ∧ AllLt _ news => lo
  refine ex_1_3 (row_view N9 hi hl hf l1 l2 lo) ?_
  intro own N8 V ho
  exact hret _ _ _ _ (by assumption) N8 ⟨_, own, rfl, rfl, V, ho⟩
end
section
section
variable {prog : Program} {w : World} {A : Around} {E : Value → Shared → Prop} {s : Shared} {env : Env} {h₀ : Heap} {x : Str} {body : List Stmt} {Q : Flow → Shared → Prop}
end
end
section
structure LOff (L d : Addr) (rest : Led) : Prop where
  dk : ∀ p ∈ rest, p.1 ≠ d
  t1 : ∀ p ∈ rest, p.1 ≠ 426
  t2 : ∀ p ∈ rest, p.1 ≠ 445
  c1 : ∀ p ∈ rest, p.1 ≠ L + 1
  c2 : ∀ p ∈ rest, p.1 ≠ L + 1 + 1
  c3 : ∀ p ∈ rest, p.1 ≠ L + 1 + 1 + 1
  c4 : ∀ p ∈ rest, p.1 ≠ L + 1 + 1 + 1 + 1
  c5 : ∀ p ∈ rest, p.1 ≠ L + 1 + 1 + 1 + 1 + 1
  c6 : ∀ p ∈ rest, p.1 ≠ L + 1 + 1 + 1 + 1 + 1 + 1
  c7 : ∀ p ∈ rest, p.1 ≠ L + 1 + 1 + 1 + 1 + 1 + 1 + 1
  c8 : ∀ p ∈ rest, p.1 ≠ L + 1 + 1 + 1 + 1 + 1 + 1 + 1 + 1
  c9 : ∀ p ∈ rest, p.1 ≠ L + 1 + 1 + 1 + 1 + 1 + 1 + 1 + 1 + 1
theorem LOff.fresh {L d : Addr} {dk o1 o2 o3 o4 o5 o6 o7 o8 o9 : Obj} {ps1 ps2 : Array Value} {rest own : Led} (hof : ∀ p ∈ own, ∀ q ∈ (d, dk) :: (L + 1 + 1 + 1 + 1 + 1 + 1 + 1 + 1 + 1, o1) :: (L + 1 + 1 + 1 + 1 + 1 + 1 + 1 + 1, o2) :: (L + 1 + 1 + 1 + 1 + 1 + 1 + 1, o3) :: (L + 1 + 1 + 1 + 1 + 1 + 1, o4) :: (L + 1 + 1 + 1 + 1 + 1, o5) :: (L + 1 + 1 + 1 + 1, o6) :: (L + 1 + 1 + 1, o7) :: (L + 1 + 1, o8) :: (L + 1, o9) :: (426, tabObj ps1) :: (445, tabObj ps2) :: rest, q.1 ≠ p.1) : LOff L d own := ⟨fun p hp => Ne.symm (hof p hp _ (.head _)), fun p hp => Ne.symm (hof p hp _ (.tail _ (.tail _ (.tail _ (.tail _ (.tail _ (.tail _ (.tail _ (.tail _ (.tail _ (.tail _ (.head _)))))))))))), fun p hp => Ne.symm (hof p hp _ (.tail _ (.tail _ (.tail _ (.tail _ (.tail _ (.tail _ (.tail _ (.tail _ (.tail _ (.tail _ (.tail _ (.head _))))))))))))), fun p hp => Ne.symm (hof p hp _ (.tail _ (.tail _ (.tail _ (.tail _ (.tail _ (.tail _ (.tail _ (.tail _ (.tail _ (.head _))))))))))), fun p hp => Ne.symm (hof p hp _ (.tail _ (.tail _ (.tail _ (.tail _ (.tail _ (.tail _ (.tail _ (.tail _ (.head _)))))))))), fun p hp => Ne.symm (hof p hp _ (.tail _ (.tail _ (.tail _ (.tail _ (.tail _ (.tail _ (.tail _ (.head _))))))))), fun p hp => Ne.symm (hof p hp _ (.tail _ (.tail _ (.tail _ (.tail _ (.tail _ (.tail _ (.head _)))))))), fun p hp => Ne.symm (hof p hp _ (.tail _ (.tail _ (.tail _ (.tail _ (.tail _ (.head _))))))), fun p hp => Ne.symm (hof p hp _ (.tail _ (.tail _ (.tail _ (.tail _ (.head _)))))), fun p hp => Ne.symm (hof p hp _ (.tail _ (.tail _ (.tail _ (.head _))))), fun p hp => Ne.symm (hof p hp _ (.tail _ (.tail _ (.head _)))), fun p hp => Ne.symm (hof p hp _ (.tail _ (.head _)))⟩
theorem LOff.app {L d : Addr} {rest own : Led} (h : LOff L d own) (hO : LOff L d rest) : LOff L d (own ++ rest) := ⟨fun p hp => (List.mem_append.mp hp).elim (h.dk p) (hO.dk p), fun p hp => (List.mem_append.mp hp).elim (h.t1 p) (hO.t1 p), fun p hp => (List.mem_append.mp hp).elim (h.t2 p) (hO.t2 p), fun p hp => (List.mem_append.mp hp).elim (h.c1 p) (hO.c1 p), fun p hp => (List.mem_append.mp hp).elim (h.c2 p) (hO.c2 p), fun p hp => (List.mem_append.mp hp).elim (h.c3 p) (hO.c3 p), fun p hp => (List.mem_append.mp hp).elim (h.c4 p) (hO.c4 p), fun p hp => (List.mem_append.mp hp).elim (h.c5 p) (hO.c5 p), fun p hp => (List.mem_append.mp hp).elim (h.c6 p) (hO.c6 p), fun p hp => (List.mem_append.mp hp).elim (h.c7 p) (hO.c7 p), fun p hp => (List.mem_append.mp hp).elim (h.c8 p) (hO.c8 p), fun p hp => (List.mem_append.mp hp).elim (h.c9 p) (hO.c9 p)⟩
theorem LOff.sub {L d : Addr} {rest r' : Led} (hO : LOff L d rest) (h : ∀ p ∈ r', p ∈ rest) : LOff L d r' := ⟨fun p hp => hO.dk p (h p hp), fun p hp => hO.t1 p (h p hp), fun p hp => hO.t2 p (h p hp), fun p hp => hO.c1 p (h p hp), fun p hp => hO.c2 p (h p hp), fun p hp => hO.c3 p (h p hp), fun p hp => hO.c4 p (h p hp), fun p hp => hO.c5 p (h p hp), fun p hp => hO.c6 p (h p hp), fun p hp => hO.c7 p (h p hp), fun p hp => hO.c8 p (h p hp), fun p hp => hO.c9 p (h p hp)⟩
theorem LOff.cons {L d a : Nat} {o : Obj} {rest : Led} (hO : LOff L d rest) (hL : 448 < L) (h1 : d < a) (h2 : L + 1 + 1 + 1 + 1 + 1 + 1 + 1 + 1 + 1 < a) : LOff L d ((a, o) :: rest) := by
  have hLa : L < a := by with_reducible_and_instances exact Nat.lt_of_le_of_lt (Nat.le_add_right _ _) h2
  exact ⟨List.forall_mem_cons.mpr ⟨Nat.ne_of_gt h1, hO.dk⟩, List.forall_mem_cons.mpr ⟨Nat.ne_of_gt (Nat.lt_trans (show 426 < L from Nat.lt_trans (by decide) hL) hLa), hO.t1⟩, List.forall_mem_cons.mpr ⟨Nat.ne_of_gt (Nat.lt_trans (show 445 < L from Nat.lt_trans (by decide) hL) hLa), hO.t2⟩, List.forall_mem_cons.mpr ⟨Nat.ne_of_gt (Nat.lt_of_le_of_lt (show L + 1 ≤ L + 1 + 1 + 1 + 1 + 1 + 1 + 1 + 1 + 1 by (clear hL h1 h2 hLa; lia)) h2), hO.c1⟩, List.forall_mem_cons.mpr ⟨Nat.ne_of_gt (Nat.lt_of_le_of_lt (show L + 1 + 1 ≤ L + 1 + 1 + 1 + 1 + 1 + 1 + 1 + 1 + 1 by (clear hL h1 h2 hLa; lia)) h2), hO.c2⟩, List.forall_mem_cons.mpr ⟨Nat.ne_of_gt (Nat.lt_of_le_of_lt (show L + 1 + 1 + 1 ≤ L + 1 + 1 + 1 + 1 + 1 + 1 + 1 + 1 + 1 by (clear hL h1 h2 hLa; lia)) h2), hO.c3⟩, List.forall_mem_cons.mpr ⟨Nat.ne_of_gt (Nat.lt_of_le_of_lt (show L + 1 + 1 + 1 + 1 ≤ L + 1 + 1 + 1 + 1 + 1 + 1 + 1 + 1 + 1 by (clear hL h1 h2 hLa; lia)) h2), hO.c4⟩, List.forall_mem_cons.mpr ⟨Nat.ne_of_gt (Nat.lt_of_le_of_lt (show L + 1 + 1 + 1 + 1 + 1 ≤ L + 1 + 1 + 1 + 1 + 1 + 1 + 1 + 1 + 1 by (clear hL h1 h2 hLa; lia)) h2), hO.c5⟩, List.forall_mem_cons.mpr ⟨Nat.ne_of_gt (Nat.lt_of_le_of_lt (show L + 1 + 1 + 1 + 1 + 1 + 1 ≤ L + 1 + 1 + 1 + 1 + 1 + 1 + 1 + 1 + 1 by (clear hL h1 h2 hLa; lia)) h2), hO.c6⟩, List.forall_mem_cons.mpr ⟨Nat.ne_of_gt (Nat.lt_of_le_of_lt (show L + 1 + 1 + 1 + 1 + 1 + 1 + 1 ≤ L + 1 + 1 + 1 + 1 + 1 + 1 + 1 + 1 + 1 by (clear hL h1 h2 hLa; lia)) h2), hO.c7⟩, List.forall_mem_cons.mpr ⟨Nat.ne_of_gt (Nat.lt_of_le_of_lt (show L + 1 + 1 + 1 + 1 + 1 + 1 + 1 + 1 ≤ L + 1 + 1 + 1 + 1 + 1 + 1 + 1 + 1 + 1 by with_reducible_and_instances exact Nat.le_succ _) h2), hO.c8⟩, List.forall_mem_cons.mpr ⟨Nat.ne_of_gt (Nat.lt_of_le_of_lt (show L + 1 + 1 + 1 + 1 + 1 + 1 + 1 + 1 + 1 ≤ L + 1 + 1 + 1 + 1 + 1 + 1 + 1 + 1 + 1 by with_reducible_and_instances exact Nat.le_refl _) h2), hO.c9⟩⟩
section
variable {prog : Program} {w : World} {A : Around} {E : Value → Shared → Prop} {s : Shared} {h₀ : Heap} {L : Addr} {news : Led} {t : Tok} {Q : Value → Shared → Prop} {vs : List Value} {l : Addr} {n : Nat} {cs : List Int}
theorem joinC (N : News h₀ L s.heap news) (hm : (l, listOf (List.toArray vs) n) ∈ news) (hi : StrsAre vs (cs.map fun c => (⟨#[c.toNat]⟩ : Str))) (hl : cs.length < 100) (h : ∀ t' k, Q (.str (txt cs) t') { s with toks := k }) :
    wpAny (model prog w) A (call (.builtin "str.join") [.str "" t, .ref l]) Q E s := by
  have hsum : ((cs.map fun c => (⟨#[c.toNat]⟩ : Str)).map (·.length)).sum + (cs.map fun c => (⟨#[c.toNat]⟩ : Str)).length * (Str.length "") ≤ 16777216 := by
    have : Str.length "" = 0 := by decide +kernel
    rw [this, Nat.mul_zero, Nat.add_zero]
    exact Nat.le_trans (sum_ones cs) (by (clear h this; lia))
  refine join_list (News.isList N hm) hi hsum fun t' k => ?_
  rw [join_txt]
  exact h t' k
end
end
section
theorem slice_ok {cs : List Int} (h : TextOk cs) (i j : Nat) : TextOk (slice cs i j) := fun c hc => h c (List.mem_of_mem_drop (List.mem_of_mem_take hc))
theorem slice_lenle {cs : List Int} (i j : Nat) : (slice cs i j).length ≤ cs.length := by unfold slice; exact Nat.le_trans (List.length_take_le' _ _) (by rw [List.length_drop]; exact Nat.sub_le _ _)
theorem ok_app {a b : List Int} (h1 : TextOk a) (h2 : TextOk b) : TextOk (a ++ b) := fun c hc => (List.mem_append.mp hc).elim (h1 c) (h2 c)
theorem ok_rep (n : Nat) : TextOk (List.replicate n 10) := fun c hc => by rw [List.eq_of_mem_replicate hc]; unfold Sign; with_reducible_and_instances decide
noncomputable abbrev OkE (O : Except Str ((Int × Int × List Int) × Int)) (first : Int) (n : Nat) : Prop := ∀ e0 e1 codes pl, O = .ok ((e0, e1, codes), pl) → TextOk codes ∧ codes.length < 100 ∧ first ≤ e0 ∧ e0 ≤ e1 ∧ e1 ≤ first + n
theorem okE {first : Int} {e0 e1 n : Nat} (h : e0 ≤ e1) (h' : e1 ≤ n) : first ≤ first + (e0 : Int) ∧ first + (e0 : Int) ≤ first + (e1 : Int) ∧ first + (e1 : Int) ≤ first + (n : Int) :=
  ⟨Int.le_add_of_nonneg_right (Int.natCast_nonneg _), Int.add_le_add_left (Int.ofNat_le.mpr h) _, Int.add_le_add_left (Int.ofNat_le.mpr h') _⟩
theorem regE_ok {cs : List Int} (h : TextOk cs) (hl : cs.length < 17) {a0 a1 b0 b1 e0 e1 : Nat} {codes : List Int} (l1 : a0 ≤ a1) (l2 : a1 ≤ cs.length) (l3 : b0 ≤ b1) (l4 : b1 ≤ cs.length) (he : regE cs a0 a1 b0 b1 = some (e0, e1, codes)) :
    TextOk codes ∧ codes.length < 100 ∧ e0 ≤ e1 ∧ e1 ≤ cs.length := by
  have key : ∀ x y z u v t : Nat, TextOk (slice cs x y ++ slice cs z u ++ slice cs v t) ∧ (slice cs x y ++ slice cs z u ++ slice cs v t).length < 100 := fun x y z u v t => ⟨ok_app (ok_app (slice_ok h _ _) (slice_ok h _ _)) (slice_ok h _ _), by
    have k1 := slice_lenle (cs := cs) x y
    have k2 := slice_lenle (cs := cs) z u
    have k3 := slice_lenle (cs := cs) v t
    rw [List.length_append, List.length_append]
    exact Nat.lt_of_le_of_lt (Nat.add_le_add (Nat.add_le_add k1 k2) k3) (Nat.lt_of_lt_of_le (Nat.add_lt_add (Nat.add_lt_add hl hl) hl) (by decide))⟩
  unfold regE at he
  split at he
  · split at he
    · cases he
      exact ⟨(key _ _ _ _ _ _).1, (key _ _ _ _ _ _).2, Nat.le_trans (by assumption) l3, l4⟩
    · cases he
  · split at he
    · cases he
      exact ⟨(key _ _ _ _ _ _).1, (key _ _ _ _ _ _).2, Nat.le_trans l3 (Nat.le_trans (by assumption) l1), l2⟩
    · cases he
theorem around_ok {F : Nat → Int → Except Str Nat} {n i lo hi near : Nat} {many : Int} (hF : ∀ i many j, F i many = .ok j → i ≤ n → j ≤ n) (hi' : i ≤ n) (h : aroundE F i many = .ok (lo, hi, near)) : lo ≤ hi ∧ hi ≤ n ∧ near ≤ n := by
  unfold aroundE at h
  cases h1 : F i many with
  | error e => rw [h1] at h; cases h
  | ok far =>
    rw [h1] at h
    dsimp only at h
    cases h2 : F far (0 - many) with
    | error e => rw [h2] at h; cases h
    | ok nr =>
      rw [h2] at h
      cases h
      have b1 := hF _ _ _ h1 hi'
      have b2 := hF _ _ _ h2 b1
      exact ⟨Nat.le_trans (Nat.min_le_left _ _) (Nat.le_max_left _ _), Nat.max_le.mpr ⟨b1, b2⟩, b2⟩
theorem units_ok {F : Nat → Int → Except Str Nat} {cs : List Int} (h : TextOk cs) (hl : cs.length < 17) (hF : ∀ i many j, F i many = .ok j → i ≤ cs.length → j ≤ cs.length) (i : Nat) (hi : i ≤ cs.length) (many : Int) (first : Int) : OkE (shE first (unitsE F cs i many)) first cs.length := by
  intro x0 x1 codes pl he
  cases hu : unitsE F cs i many with
  | error e => rw [hu] at he; cases he
  | ok r =>
    obtain ⟨⟨e0, e1, cd⟩, p⟩ := r
    rw [hu] at he
    cases he
    unfold unitsE at hu
    cases h1 : aroundE F i (-1) with
    | error e => rw [h1] at hu; cases hu
    | ok r1 =>
      refine genP fun C9 k9 => ?_
      obtain ⟨lo, hi1, bh⟩ := r1
      refine k9 ?_
      clear k9 C9
      refine ex_0_3 (around_ok hF hi h1) ?_
      intro k1 k2 k3
      rw [h1] at hu
      dsimp only at hu
      split at hu
      · cases h2 : aroundE F bh many with
        | error e => rw [h2] at hu; cases hu
        | ok r2 =>
          refine genP fun C9 k9 => ?_
          obtain ⟨lo2, hi2, nr⟩ := r2
          refine k9 ?_
          clear k9 C9
          refine ex_0_3 (around_ok hF k3 h2) ?_
          intro k4 k5 k6
          rw [h2] at hu
          dsimp only at hu
          cases h3 : regE cs lo hi1 lo2 hi2 with
          | none => rw [h3] at hu; cases hu
          | some e =>
            rw [h3] at hu
            cases hu
            refine ex_0_4 (regE_ok h hl k1 k2 k4 k5 h3) ?_
            intro q1 q2 q3 q4
            exact ⟨q1, q2, okE q3 q4⟩
      · cases h2 : aroundE F lo many with
        | error e => rw [h2] at hu; cases hu
        | ok r2 =>
          refine genP fun C9 k9 => ?_
          obtain ⟨lo2, hi2, nr⟩ := r2
          refine k9 ?_
          clear k9 C9
          refine ex_0_3 (around_ok hF (Nat.le_trans k1 k2) h2) ?_
          intro k4 k5 k6
          rw [h2] at hu
          dsimp only at hu
          cases h3 : regE cs lo hi1 lo2 hi2 with
          | none => rw [h3] at hu; cases hu
          | some e =>
            rw [h3] at hu
            cases hu
            refine ex_0_4 (regE_ok h hl k1 k2 k4 k5 h3) ?_
            intro q1 q2 q3 q4
            exact ⟨q1, q2, okE q3 q4⟩
theorem marks_ok {F : Nat → Int → Except Str Nat} {cs : List Int} (h : TextOk cs) (hl : cs.length < 17) (hF : ∀ i many j, F i many = .ok j → i ≤ cs.length → j ≤ cs.length) (i j : Nat) (hi : i ≤ cs.length) (hj : j ≤ cs.length) (first : Int) : OkE (shM first j (marksE F cs i j)) first cs.length := by
  intro x0 x1 codes pl he
  cases hu : marksE F cs i j with
  | error e => rw [hu] at he; cases he
  | ok r =>
    refine genP fun C9 k9 => ?_
    obtain ⟨e0, e1, cd⟩ := r
    refine k9 ?_
    clear k9 C9
    rw [hu] at he
    cases he
    unfold marksE at hu
    cases h1 : aroundE F i 1 with
    | error e => rw [h1] at hu; cases hu
    | ok r1 =>
      refine genP fun C9 k9 => ?_
      obtain ⟨lo, hi1, bh⟩ := r1
      refine k9 ?_
      clear k9 C9
      refine ex_0_3 (around_ok hF hi h1) ?_
      intro k1 k2 k3
      rw [h1] at hu
      dsimp only at hu
      cases h2 : aroundE F j 1 with
      | error e => rw [h2] at hu; cases hu
      | ok r2 =>
        refine genP fun C9 k9 => ?_
        obtain ⟨lo2, hi2, nr⟩ := r2
        refine k9 ?_
        clear k9 C9
        refine ex_0_3 (around_ok hF hj h2) ?_
        intro k4 k5 k6
        rw [h2] at hu
        dsimp only at hu
        cases h3 : regE cs lo hi1 lo2 hi2 with
        | none => rw [h3] at hu; cases hu
        | some e =>
          rw [h3] at hu
          cases hu
          refine ex_0_4 (regE_ok h hl k1 k2 k4 k5 h3) ?_
          intro q1 q2 q3 q4
          exact ⟨q1, q2, okE q3 q4⟩
theorem fwdL_ge {cs : List Int} : ∀ (k a : Nat), a ≤ cs.length → a ≤ (fwdL cs k a).1
  | 0, a, _ => Nat.le_refl _
  | k + 1, a, h => by
    rw [fwdL_succ]
    split
    · have h1 := leN_ge (cs := cs) (i := a)
      have := fwdL_ge (cs := cs) k (leN cs a + 1) (by assumption)
      exact Nat.le_trans h1 (Nat.le_of_succ_le this)
    · exact h
theorem backL_self {cs : List Int} : ∀ (k a : Nat), backL cs k a ≤ a
  | 0, a => Nat.le_refl _
  | k + 1, a => by
    rw [backL_succ]
    split
    · exact Nat.zero_le _
    · exact Nat.le_trans (backL_self (cs := cs) k (lsN cs (a - 1))) (Nat.le_trans (lsN_le (cs := cs) (a - 1)) (Nat.sub_le a 1))
theorem startL_le {cs : List Int} (i : Nat) : startL cs i ≤ i := Nat.le_trans (backL_self _ _) (lsN_le i)
theorem lines_ok {cs : List Int} (h : TextOk cs) (hl : cs.length < 17) (st : Nat) (hi : st ≤ cs.length) (k : Nat) (hk8 : k < 10) (first pl : Int) (a b : Nat × Nat) (ha : a = ahL cs 1 st) (hb : b = ahL cs k a.1) :
    OkE (.ok ((first + st, first + b.1, (slice cs a.1 b.1 ++ List.replicate b.2 10) ++ (slice cs st a.1 ++ List.replicate a.2 10)), pl)) first cs.length := by
  intro x0 x1 codes pl' he
  cases he
  have k1 := fwdL_ge 1 st hi
  have k2 := fwdL_le 1 st hi
  have e1 : a.1 = (fwdL cs 1 st).1 := by rw [ha]; rfl
  rw [← e1] at k1 k2
  have k3 := fwdL_ge (cs := cs) k a.1 k2
  have k4 := fwdL_le (cs := cs) k a.1 k2
  have e2 : b.1 = (fwdL cs k a.1).1 := by rw [hb]; rfl
  rw [← e2] at k3 k4
  have k5 := ahL_snd (cs := cs) 1 st
  have k6 := ahL_snd (cs := cs) k a.1
  rw [← ha] at k5
  rw [← hb] at k6
  have k7 := slice_lenle (cs := cs) a.1 b.1
  have k8 := slice_lenle (cs := cs) st a.1
  refine ⟨ok_app (ok_app (slice_ok h _ _) (ok_rep _)) (ok_app (slice_ok h _ _) (ok_rep _)), ?_, okE (Nat.le_trans k1 k3) k4⟩
  rw [List.length_append, List.length_append, List.length_append, List.length_replicate, List.length_replicate]
  exact Nat.lt_of_le_of_lt (Nat.add_le_add (Nat.add_le_add (Nat.le_trans k7 (Nat.le_of_lt hl)) (Nat.le_trans k6 hk8)) (Nat.add_le_add (Nat.le_trans k8 (Nat.le_of_lt hl)) k5)) (by decide)
theorem back_ok {cs : List Int} (h : TextOk cs) (hl : cs.length < 17) (st : Nat) (hi : st ≤ cs.length) (k : Nat) (first pl : Int) (a b : Nat) (ha : a = (fwdL cs 1 st).1) (hb : b = backL cs k (lsN cs st)) :
    OkE (.ok ((first + (b : Nat), first + (a : Nat), slice cs st a ++ slice cs b st), pl)) first cs.length := by
  intro x0 x1 codes pl' he
  cases he
  have k1 := fwdL_ge 1 st hi
  have k2 := fwdL_le 1 st hi
  have k3 := backL_self (cs := cs) k (lsN cs st)
  have k4 := lsN_le (cs := cs) st
  have k7 := slice_lenle (cs := cs) st a
  have k8 := slice_lenle (cs := cs) b st
  rw [← ha] at k1 k2
  rw [← hb] at k3
  refine ⟨ok_app (slice_ok h _ _) (slice_ok h _ _), ?_, okE (Nat.le_trans k3 (Nat.le_trans k4 k1)) k2⟩
  rw [List.length_append]
  exact Nat.lt_of_le_of_lt (Nat.add_le_add k7 k8) (Nat.lt_of_lt_of_le (Nat.add_lt_add hl hl) (by decide))
theorem start_off {ls : List (List Int)} (h10 : ∀ l ∈ ls, ∀ c ∈ l, c ≠ 10) (j x : Nat) (h : j < ls.length) (hx : x ≤ ls[j].length) : startL (glue ls) (off ls j + x) = off ls (j - 1) := by
  unfold startL
  rw [lsN_glue h10 j h x hx, backL_glue h10 1 j h]
end
section
theorem nls_ge : ∀ (ls : List (List Int)), ls.length ≤ (nls ls).length
  | [] => Nat.le_refl _
  | l :: r => by
    have ih := nls_ge r
    rw [nls_cons, List.length_append, List.length_cons, List.length_cons]
    exact Nat.le_trans (Nat.succ_le_succ ih) (Nat.le_add_left _ _)
theorem nls_each : ∀ (ls : List (List Int)), ∀ l ∈ ls, l.length ≤ (nls ls).length
  | l :: r, l', h => by
    rw [nls_cons, List.length_append, List.length_cons]
    rcases List.mem_cons.mp h with rfl | h
    · exact Nat.le_add_right _ _
    · exact Nat.le_trans (nls_each r l' h) (Nat.le_trans (Nat.le_succ _) (Nat.le_add_left _ _))
theorem nls_mem : ∀ (ls : List (List Int)), ∀ l ∈ ls, ∀ c ∈ l, c ∈ nls ls
  | l :: r, l', h, c, hc => by
    rw [nls_cons]
    rcases List.mem_cons.mp h with rfl | h
    · exact List.mem_append_left _ hc
    · exact List.mem_append_right _ (.tail _ (nls_mem r l' h c hc))
theorem glue_last97 {ls : List (List Int)} (h0 : 0 < ls.length) (h : (glue ls).getLast? = some 97) : ∀ h : 0 < ls.length, ls[ls.length - 1] ≠ [] := by
  intro _ e
  have h1 : ls.length - 1 < ls.length := Nat.sub_lt h0 (by decide)
  have g1 := glue_at ls (ls.length - 1) h1
  have g2 : ls.drop (ls.length - 1) = [ls[ls.length - 1]] := by
    rw [List.drop_eq_getElem_cons h1]
    congr 1
    exact List.drop_eq_nil_of_le (Nat.le_of_eq (Nat.sub_add_cancel h0).symm)
  rw [g2, e] at g1
  have g3 : glue ls = nls (ls.take (ls.length - 1)) := by
    rw [g1]
    show _ ++ [] = _
    rw [List.append_nil]
  rw [g3] at h
  by_cases q : ls.take (ls.length - 1) = []
  · rw [q] at h
    cases h
  · rw [← glue_nls _ q, List.getLast?_append] at h
    cases h
theorem cnt_if (j : Nat) : (if (j : Int) - 1 > 0 then (j : Int) - 1 else 0) = ((j - 1 : Nat) : Int) := by
  cases j with
  | zero => rfl
  | succ n =>
    rw [i1]
    cases n with
    | zero => rfl
    | succ n => exact if_pos (Int.ofNat_lt.mpr (Nat.succ_pos n))
theorem lines_facts {cz : List Int} (ok : TextOk cz) (hl : cz.length < 17) (hpos : 0 < cz.length) (hlast : cz.getLast? = some 97) (i : Nat) (hi : i ≤ cz.length) :
    ∃ (ls : List (List Int)) (o : Nat), glue ls = cz ∧ Txt.split (txt cz) "\n" = ls.map txt ∧ (∀ l ∈ ls, ∀ c ∈ l, c ≠ 10) ∧ o < ls.length ∧ (∀ h : 0 < ls.length, ls[ls.length - 1] ≠ []) ∧ startL cz i = off ls o ∧
      (if Txt.count (Txt.slice (txt cz) none (some (i : Int))) "\n" - 1 > 0 then Txt.count (Txt.slice (txt cz) none (some (i : Int))) "\n" - 1 else 0) = (o : Int) ∧ Few (ls.map txt) 50 50 ∧ off ls o ≤ cz.length ∧
      (((ls.map txt).getD ((ls.map txt).length - 1) Str.empty == "") = false ∧ ¬ (ls.map txt).getD ((ls.map txt).length - 1) Str.empty = "" ∧ ((ls.map txt).getD ((ls.map txt).length - 1) Str.empty != "") = true) := by
  refine ex_1_4 (split_lines (cs := cz) fun c hc => (ok c hc).pos) ?_
  intro ls hsp hg h10 hls
  subst hg
  refine genP fun C9 k9 => ?_
  obtain ⟨j, x, hj, hx, hat⟩ := place_at ls i hls hi
  refine k9 ?_
  clear k9 C9
  have hne : ls ≠ [] := fun e => by rw [e] at hls; exact absurd hls (by decide)
  have hnl : (nls ls).length = (glue ls).length + 1 := by rw [← glue_nls ls hne, List.length_append]; rfl
  have hp : ∀ l ∈ ls, ∀ c ∈ l, 0 ≤ c := fun l hl' c hc => by
    have := nls_mem ls l hl' c hc
    rw [← glue_nls ls hne] at this
    rcases List.mem_append.mp this with h | h
    · exact (ok c h).pos
    · rw [List.mem_singleton.mp h]; decide
  have hcount := cnt_take h10 hp j x hj hx
  have hlast' := glue_last97 hls hlast
  have hgd : (ls.map txt).getD ((ls.map txt).length - 1) Str.empty = txt ls[ls.length - 1] := by
    rw [List.length_map, List.getD_eq_getElem?_getD, List.getElem?_map, List.getElem?_eq_getElem (Nat.sub_lt hls (by decide) : ls.length - 1 < ls.length)]
    rfl
  have hnt : ¬ txt ls[ls.length - 1] = "" := fun e => by
    have h1 := txt_len ls[ls.length - 1]
    rw [e] at h1
    have h2 : Str.length "" = 0 := by decide +kernel
    rw [h2] at h1
    exact hlast' hls (List.eq_nil_of_length_eq_zero h1.symm)
  have hst := start_off h10 j x hj hx
  rw [← hat] at hst
  refine ⟨ls, j - 1, rfl, hsp, h10, Nat.lt_of_le_of_lt (Nat.sub_le _ _) hj, hlast', hst, ?_, ⟨?_, ?_⟩, ?_, ?_⟩
  · rw [txt_toN, hat, hcount]
    exact cnt_if j
  · rw [List.length_map]
    exact Nat.le_trans (nls_ge ls) (Nat.le_trans (Nat.le_of_eq hnl) (Nat.le_trans hl (by decide)))
  · intro y hy
    refine genP fun C9 k9 => ?_
    refine ex_1_2 (List.mem_map.mp hy) ?_
    intro l hl' e9_2
    subst e9_2
    refine k9 ?_
    clear k9 C9
    rw [txt_len]
    exact Nat.le_trans (nls_each ls l hl') (Nat.le_trans (Nat.le_of_eq hnl) (Nat.le_trans hl (by decide)))
  · rw [← hst]
    exact Nat.le_trans (startL_le i) hi
  · rw [hgd]
    refine ⟨?_, hnt, ?_⟩
    · exact beq_eq_false_iff_ne.mpr hnt
    · exact bne_iff_ne.mpr hnt
end
section
theorem end_a : ahL [97, 10, 98] 1 (startL [97, 10, 98] 2) = (2, 0) := by decide
theorem end_b : ahL [97, 10, 98] 1 2 = (3, 1) := by decide
theorem end_s : startL [97, 10, 98] 2 = 0 := by decide
theorem end_ok : TextOk [97, 10, 98] := fun c hc => by
  unfold Sign
  simp only [List.mem_cons, List.not_mem_nil, or_false] at hc
  rcases hc with rfl | rfl | rfl <;> decide
theorem end_txt : ("a\nb" : Str) = txt [97, 10, 98] := by decide +kernel
theorem end_res (a b : Nat × Nat) (ha : a = ahL [97, 10, 98] 1 (startL [97, 10, 98] 2)) (hb : b = ahL [97, 10, 98] 1 a.1) :
    toldR (.ok (((1 : Int) + (startL [97, 10, 98] 2 : Nat), (1 : Int) + (b.1 : Nat), (slice [97, 10, 98] a.1 b.1 ++ List.replicate b.2 10) ++ (slice [97, 10, 98] (startL [97, 10, 98] 2) a.1 ++ List.replicate a.2 10)), (1 : Int) + (startL [97, 10, 98] 2 : Nat) + (slice [97, 10, 98] a.1 b.1 ++ List.replicate b.2 10).length + (slice [97, 10, 98] (startL [97, 10, 98] 2) a.1 ++ List.replicate a.2 10).length)) 1 "a\nb" = .text "b\na\n" 4 := by
  rw [end_a] at ha
  subst ha
  rw [end_b] at hb
  subst hb
  rw [end_s, end_txt]
  have h := told_txt [97, 10, 98] 1 0 3 ((slice [97, 10, 98] 2 3 ++ List.replicate 1 10) ++ (slice [97, 10, 98] 0 2 ++ List.replicate 0 10)) 4
  refine Eq.trans ?_ (h.trans ?_)
  · rfl
  · have e : txt (([97, 10, 98] : List Int).take 0 ++ ((slice [97, 10, 98] 2 3 ++ List.replicate 1 10) ++ (slice [97, 10, 98] 0 2 ++ List.replicate 0 10)) ++ ([97, 10, 98] : List Int).drop 3) = ("b\na\n" : Str) := by decide +kernel
    rw [e]
end
section
noncomputable abbrev qL : Str := "law" ++ ".<locals>." ++ "<lambda>"
noncomputable abbrev TL (L d : Addr) (dk o1 o2 o3 o4 o5 o6 o7 o8 o9 : Obj) (ps1 ps2 : Array Value) (rest : Led) : Led :=
  (d, dk) :: (L + 1 + 1 + 1 + 1 + 1 + 1 + 1 + 1 + 1, o1) :: (L + 1 + 1 + 1 + 1 + 1 + 1 + 1 + 1, o2) :: (L + 1 + 1 + 1 + 1 + 1 + 1 + 1, o3) :: (L + 1 + 1 + 1 + 1 + 1 + 1, o4) :: (L + 1 + 1 + 1 + 1 + 1, o5) :: (L + 1 + 1 + 1 + 1, o6) :: (L + 1 + 1 + 1, o7) :: (L + 1 + 1, o8) :: (L + 1, o9) :: (426, tabObj ps1) :: (445, tabObj ps2) :: rest
noncomputable abbrev TF (L d : Addr) (dk o1 o2 o3 o4 o5 o6 o7 o8 o9 : Obj) (ps1 ps2 : Array Value) : Led :=
  [(d, dk), (L + 1 + 1 + 1 + 1 + 1 + 1 + 1 + 1 + 1, o1), (L + 1 + 1 + 1 + 1 + 1 + 1 + 1 + 1, o2), (L + 1 + 1 + 1 + 1 + 1 + 1 + 1, o3), (L + 1 + 1 + 1 + 1 + 1 + 1, o4), (L + 1 + 1 + 1 + 1 + 1, o5), (L + 1 + 1 + 1 + 1, o6), (L + 1 + 1 + 1, o7), (L + 1 + 1, o8), (L + 1, o9), (426, tabObj ps1), (445, tabObj ps2)]
structure Dk (L d : Nat) : Prop where
  hL : 448 < L
  q0 : L + 1 + 1 + 1 + 1 + 1 + 1 + 1 + 1 + 1 ≠ d
  q1 : L + 1 + 1 + 1 + 1 + 1 + 1 + 1 + 1 ≠ d
  q2 : L + 1 + 1 + 1 + 1 + 1 + 1 + 1 ≠ d
  q3 : L + 1 + 1 + 1 + 1 + 1 + 1 ≠ d
  q4 : L + 1 + 1 + 1 + 1 + 1 ≠ d
  q5 : L + 1 + 1 + 1 + 1 ≠ d
  q6 : L + 1 + 1 + 1 ≠ d
  q7 : L + 1 + 1 ≠ d
  q8 : L + 1 ≠ d
  q9 : 426 ≠ d
  q10 : 445 ≠ d
section
variable {L d : Addr} {dk o1 o2 o3 o4 o5 o6 o7 o8 o9 : Obj} {ps1 ps2 : Array Value} {rest own : Led}
theorem LOff.of_ne (h : ∀ p ∈ own, ∀ q ∈ TF L d dk o1 o2 o3 o4 o5 o6 o7 o8 o9 ps1 ps2, q.1 ≠ p.1) : LOff L d own :=
  LOff.fresh (dk := dk) (o1 := o1) (o2 := o2) (o3 := o3) (o4 := o4) (o5 := o5) (o6 := o6) (o7 := o7) (o8 := o8) (o9 := o9) (ps1 := ps1) (ps2 := ps2) (rest := []) fun p hp q hq => h p hp q hq
theorem TL.front {p : Addr × Obj} (h : p ∈ TF L d dk o1 o2 o3 o4 o5 o6 o7 o8 o9 ps1 ps2) : p ∈ TL L d dk o1 o2 o3 o4 o5 o6 o7 o8 o9 ps1 ps2 rest := List.mem_append_left rest h
theorem TL.back {p : Addr × Obj} (h : p ∈ rest) : p ∈ TL L d dk o1 o2 o3 o4 o5 o6 o7 o8 o9 ps1 ps2 rest := List.mem_append_right (TF L d dk o1 o2 o3 o4 o5 o6 o7 o8 o9 ps1 ps2) h
theorem TL.cases {p : Addr × Obj} (h : p ∈ TL L d dk o1 o2 o3 o4 o5 o6 o7 o8 o9 ps1 ps2 rest) : p ∈ TF L d dk o1 o2 o3 o4 o5 o6 o7 o8 o9 ps1 ps2 ∨ p ∈ rest := List.mem_append.mp (show p ∈ TF L d dk o1 o2 o3 o4 o5 o6 o7 o8 o9 ps1 ps2 ++ rest from h)
theorem TL.sub {a b : Led} (h : ∀ p ∈ a, p ∈ b) : ∀ p ∈ TL L d dk o1 o2 o3 o4 o5 o6 o7 o8 o9 ps1 ps2 a, p ∈ TL L d dk o1 o2 o3 o4 o5 o6 o7 o8 o9 ps1 ps2 b := fun p hp => (TL.cases hp).elim TL.front fun q => TL.back (h p q)
theorem TL.sub_app {a b : Led} : ∀ p ∈ TL L d dk o1 o2 o3 o4 o5 o6 o7 o8 o9 ps1 ps2 (a ++ b), p ∈ a ++ TL L d dk o1 o2 o3 o4 o5 o6 o7 o8 o9 ps1 ps2 b := fun p hp => (TL.cases hp).elim (fun q => List.mem_append_right _ (TL.front q)) fun q => (List.mem_append.mp q).elim (fun z => List.mem_append_left _ z) fun z => List.mem_append_right _ (TL.back z)
end
structure Cl (o1 o2 o3 o4 o5 o6 o7 o8 o9 : Obj) : Prop where
  c1 : ∃ v, o1.data = .cell v
  c2 : ∃ v, o2.data = .cell v
  c3 : ∃ v, o3.data = .cell v
  c4 : ∃ v, o4.data = .cell v
  c5 : ∃ v, o5.data = .cell v
  c6 : ∃ v, o6.data = .cell v
  c7 : ∃ v, o7.data = .cell v
  c8 : ∃ v, o8.data = .cell v
  c9 : ∃ v, o9.data = .cell v
theorem fm {p : Addr × Obj → Prop} {a : Addr × Obj} {l : Led} (h : p a) (t : ∀ x, x ∈ l → p x) : ∀ x, x ∈ a :: l → p x := fun x hx => (List.mem_cons.mp hx).elim (fun e => e ▸ h) (t x)
theorem tup_off {g h : Heap} {L d a : Addr} {dvs : List Value} {dn : Nat} {o1 o2 o3 o4 o5 o6 o7 o8 o9 : Obj} {ps1 ps2 : Array Value} {rest : Led} {vs : List Value} (N : News g L h ((a, tupO vs) :: TL L d (listOf (List.toArray dvs) dn) o1 o2 o3 o4 o5 o6 o7 o8 o9 ps1 ps2 rest)) (C : Cl o1 o2 o3 o4 o5 o6 o7 o8 o9) : LOff L d [(a, tupO vs)] := by
  refine LOff.of_ne (dk := listOf (List.toArray dvs) dn) (o1 := o1) (o2 := o2) (o3 := o3) (o4 := o4) (o5 := o5) (o6 := o6) (o7 := o7) (o8 := o8) (o9 := o9) (ps1 := ps1) (ps2 := ps2) fun p hp q hq => ?_
  rw [List.mem_singleton.mp hp]
  have hc : ∀ o : Obj, (∃ v, o.data = .cell v) → o ≠ tupO vs := fun o ⟨v, e⟩ e' => by rw [e'] at e; exact nomatch e
  refine ne_of_obj N (.tail _ (TL.front hq)) (.head _) ?_
  revert q
  refine fm (p := fun q => q.2 ≠ tupO vs) (fun e => absurd (Value.type.inj (congrArg Obj.cls e)) (by decide)) ?_
  refine fm (hc _ C.c1) ?_
  refine fm (hc _ C.c2) ?_
  refine fm (hc _ C.c3) ?_
  refine fm (hc _ C.c4) ?_
  refine fm (hc _ C.c5) ?_
  refine fm (hc _ C.c6) ?_
  refine fm (hc _ C.c7) ?_
  refine fm (hc _ C.c8) ?_
  refine fm (hc _ C.c9) ?_
  refine fm (fun e => nomatch congrArg Obj.data e) ?_
  refine fm (fun e => nomatch congrArg Obj.data e) ?_
  exact fun _ h => nomatch h
section
variable {M : Model} {A : Around} {E : Value → Shared → Prop} {s : Shared} {h₀ : Heap} {L a d : Addr} {m mg mb : Str → Option Value} {cs : Scope} {cl : List (Str × Addr)} {dk o1 o2 o3 o4 o5 o6 o7 o8 o9 : Obj} {ps1 ps2 : Array Value} {rest : Led}
  {p : Program} {loose : List Str} {mean : ExcName → Option Value} {params : Arguments} {body : Expr} {scope : Scope} {pos : Pos} {clos : List (Str × Addr)}
theorem law_lam {Q : Value → Shared → Prop} (K : Dk L d) (F : Fr h₀ L s.heap m) (N : News h₀ L s.heap (TL L d dk o1 o2 o3 o4 o5 o6 o7 o8 o9 ps1 ps2 rest)) (T : Top p loose mean mg mb h₀) (C : CodeHd h₀ 447 445) (hO : LOff L d rest) (ht : ExTab 445 qL ps2 rest)
    (hdef : defaultsOf params (envX "law" cs L a (.ref 447) cl) = ([], [])) (hcl : closureFor scope (envX "law" cs L a (.ref 447) cl) = pure clos)
    (h : ∀ f c' ctv oc vs t ps2' own h' tk, Fr h₀ L h' m →
      News h₀ L h' ((f, kla_obj "<lambda>" qL params body scope clos ((mg "__name__").getD .none) c' ctv) :: TL L d dk o1 o2 o3 o4 o5 o6 o7 o8 o9 ps1 ps2' (own ++ rest)) →
      oc.data = .fields vs → vs[1]? = some (.str qL t) → (c', oc) ∈ own ++ rest → ExTab 445 qL ps2' (own ++ rest) → LOff L d (own ++ rest) → LOff L d [(f, kla_obj "<lambda>" qL params body scope clos ((mg "__name__").getD .none) c' ctv)] → Q (.ref f) { s with heap := h', toks := tk }) :
    wpAny M A (eval (.Lambda params body scope pos) (envX "law" cs L a (.ref 447) cl)) Q E s := by
  have hL := K.hL
  have hq := K.q10
  refine kla_any (P := 445) (rest := rest) (others := [(d, dk), (L + 1 + 1 + 1 + 1 + 1 + 1 + 1 + 1 + 1, o1), (L + 1 + 1 + 1 + 1 + 1 + 1 + 1 + 1, o2), (L + 1 + 1 + 1 + 1 + 1 + 1 + 1, o3), (L + 1 + 1 + 1 + 1 + 1 + 1, o4), (L + 1 + 1 + 1 + 1 + 1, o5), (L + 1 + 1 + 1 + 1, o6), (L + 1 + 1 + 1, o7), (L + 1 + 1, o8), (L + 1, o9), (426, tabObj ps1)] ++ rest) F (newsub N fun q hq => ?_) T C rfl (fun q hq' => ?_) ht (fun q hq => List.mem_append_right _ hq) hdef hcl ?_
  · rcases List.mem_cons.mp hq with rfl | hq
    · exact TL.front (.tail _ (.tail _ (.tail _ (.tail _ (.tail _ (.tail _ (.tail _ (.tail _ (.tail _ (.tail _ (.tail _ (.head _))))))))))))
    · rcases List.mem_append.mp hq with hq | hq
      · refine TL.front ?_
        have : ∀ x ∈ [(d, dk), (L + 1 + 1 + 1 + 1 + 1 + 1 + 1 + 1 + 1, o1), (L + 1 + 1 + 1 + 1 + 1 + 1 + 1 + 1, o2), (L + 1 + 1 + 1 + 1 + 1 + 1 + 1, o3), (L + 1 + 1 + 1 + 1 + 1 + 1, o4), (L + 1 + 1 + 1 + 1 + 1, o5), (L + 1 + 1 + 1 + 1, o6), (L + 1 + 1 + 1, o7), (L + 1 + 1, o8), (L + 1, o9), (426, tabObj ps1)], x ∈ [(d, dk), (L + 1 + 1 + 1 + 1 + 1 + 1 + 1 + 1 + 1, o1), (L + 1 + 1 + 1 + 1 + 1 + 1 + 1 + 1, o2), (L + 1 + 1 + 1 + 1 + 1 + 1 + 1, o3), (L + 1 + 1 + 1 + 1 + 1 + 1, o4), (L + 1 + 1 + 1 + 1 + 1, o5), (L + 1 + 1 + 1 + 1, o6), (L + 1 + 1 + 1, o7), (L + 1 + 1, o8), (L + 1, o9), (426, tabObj ps1)] ++ [((445 : Addr), tabObj ps2)] := fun x hx => List.mem_append_left _ hx
        exact this q hq
      · exact TL.back hq
  · rcases List.mem_append.mp hq' with hq' | hq'
    · have hLn : ∀ x : Nat, 448 < x → x ≠ 445 := fun x hx e => absurd (e ▸ hx) (by decide)
      refine (?_ : ∀ x : Addr × Obj, x ∈ _ → x.1 ≠ 445) q hq'
      refine fm (p := fun q => q.1 ≠ 445) (Ne.symm hq) ?_
      iterate 9 (refine fm (by exact hLn _ (by repeat (first | exact hL | refine Nat.lt_succ_of_lt ?_))) ?_)
      exact fm (show (426 : Nat) ≠ 445 by decide) fun _ h => nomatch h
    · exact hO.t2 q hq'
  · intro f c' ctv oc vs t ps2' own h' tk F' N' e1 e2 ht' hown lf1 lf2
    have hf : ∀ q ∈ TF L d dk o1 o2 o3 o4 o5 o6 o7 o8 o9 ps1 ps2', q.1 ≠ f := fun q hq => by
      have hq : q ∈ [(d, dk), (L + 1 + 1 + 1 + 1 + 1 + 1 + 1 + 1 + 1, o1), (L + 1 + 1 + 1 + 1 + 1 + 1 + 1 + 1, o2), (L + 1 + 1 + 1 + 1 + 1 + 1 + 1, o3), (L + 1 + 1 + 1 + 1 + 1 + 1, o4), (L + 1 + 1 + 1 + 1 + 1, o5), (L + 1 + 1 + 1 + 1, o6), (L + 1 + 1 + 1, o7), (L + 1 + 1, o8), (L + 1, o9), (426, tabObj ps1)] ++ [((445 : Addr), tabObj ps2')] := hq
      rcases List.mem_append.mp hq with hq | hq
      · exact Nat.ne_of_lt (lf1 q (List.mem_append_left _ hq))
      · rw [List.mem_singleton.mp hq]
        exact Nat.ne_of_lt lf2
    have hown' : LOff L d own ∧ (c', oc) ∈ own ++ rest := by
      rcases hown with ⟨rfl, hm⟩ | ⟨rfl, hm, hp⟩
      · exact ⟨LOff.of_ne (dk := dk) (o1 := o1) (o2 := o1) (o3 := o1) (o4 := o1) (o5 := o1) (o6 := o1) (o7 := o1) (o8 := o1) (o9 := o1) (ps1 := ps1) (ps2 := ps2) (fun p hp => nomatch hp), hm⟩
      · refine ⟨LOff.of_ne (dk := dk) (o1 := o1) (o2 := o2) (o3 := o3) (o4 := o4) (o5 := o5) (o6 := o6) (o7 := o7) (o8 := o8) (o9 := o9) (ps1 := ps1) (ps2 := ps2) (fun p' hp' q hq => ?_), .head _⟩
        rw [List.mem_singleton.mp hp']
        have hq : q ∈ [(d, dk), (L + 1 + 1 + 1 + 1 + 1 + 1 + 1 + 1 + 1, o1), (L + 1 + 1 + 1 + 1 + 1 + 1 + 1 + 1, o2), (L + 1 + 1 + 1 + 1 + 1 + 1 + 1, o3), (L + 1 + 1 + 1 + 1 + 1 + 1, o4), (L + 1 + 1 + 1 + 1 + 1, o5), (L + 1 + 1 + 1 + 1, o6), (L + 1 + 1 + 1, o7), (L + 1 + 1, o8), (L + 1, o9), (426, tabObj ps1)] ++ [((445 : Addr), tabObj ps2)] := hq
        rcases List.mem_append.mp hq with hq | hq
        · exact hm q (List.mem_append_left _ hq)
        · rw [List.mem_singleton.mp hq]
          exact hp
    refine h f c' ctv oc vs t ps2' own h' tk F' (newsub N' fun q hq => ?_) e1 e2 hown'.2 ht' (hown'.1.app hO) (LOff.of_ne (dk := dk) (o1 := o1) (o2 := o2) (o3 := o3) (o4 := o4) (o5 := o5) (o6 := o6) (o7 := o7) (o8 := o8) (o9 := o9) (ps1 := ps1) (ps2 := ps2') fun p hp q hq => by rw [List.mem_singleton.mp hp]; exact hf q hq)
    rcases List.mem_cons.mp hq with rfl | hq
    · exact .head _
    · rcases TL.cases hq with hq | hq
      · have hq : q ∈ [(d, dk), (L + 1 + 1 + 1 + 1 + 1 + 1 + 1 + 1 + 1, o1), (L + 1 + 1 + 1 + 1 + 1 + 1 + 1 + 1, o2), (L + 1 + 1 + 1 + 1 + 1 + 1 + 1, o3), (L + 1 + 1 + 1 + 1 + 1 + 1, o4), (L + 1 + 1 + 1 + 1 + 1, o5), (L + 1 + 1 + 1 + 1, o6), (L + 1 + 1 + 1, o7), (L + 1 + 1, o8), (L + 1, o9), (426, tabObj ps1)] ++ [((445 : Addr), tabObj ps2')] := hq
        rcases List.mem_append.mp hq with hq | hq
        · exact .tail _ (.tail _ (.tail _ (List.mem_append_left _ hq)))
        · rw [List.mem_singleton.mp hq]
          exact .tail _ (.tail _ (.head _))
      · rcases List.mem_append.mp hq with hq | hq
        · rcases hown with ⟨rfl, _⟩ | ⟨rfl, _, _⟩
          · cases hq
          · rw [List.mem_singleton.mp hq]
            exact .tail _ (.head _)
        · exact .tail _ (.tail _ (.tail _ (List.mem_append_right _ hq)))
end
noncomputable def ResM (nx : Led) (r : Value) : Res → Prop
  | .sym s => ∃ t, r = .str s t
  | .text s pl => ∃ a t t', r = .ref a ∧ (a, tupO [.str s t, .int pl t']) ∈ nx
theorem ResM.mono {nx nx' : Led} {r : Value} {R : Res} (x : ResM nx r R) (h : ∀ p ∈ nx, p ∈ nx') : ResM nx' r R := by
  cases R with
  | sym s => exact x
  | text s pl => obtain ⟨a, t, t', e, k⟩ := x; exact ⟨a, t, t', e, h _ k⟩
theorem ResL.front {news nw : Led} {r : Value} {R : Res} (x : ResL news nw r R) : ∃ front, nw = front ++ news ∧ ResF r front R := by
  cases R with
  | sym s => exact ⟨[], x.2, x.1, rfl⟩
  | text s pl => obtain ⟨a, t, t', e, k⟩ := x; exact ⟨[(a, _)], k, a, t, t', e, rfl⟩
theorem ResF.m {r : Value} {front nx : Led} {R : Res} (x : ResF r front R) (h : ∀ p ∈ front, p ∈ nx) : ResM nx r R := by
  cases R with
  | sym s => exact x.1
  | text s pl => obtain ⟨a, t, t', e, k⟩ := x; subst k; exact ⟨a, t, t', e, h _ (.head _)⟩
theorem ResF.off {g h : Heap} {L d : Addr} {dvs : List Value} {dn : Nat} {o1 o2 o3 o4 o5 o6 o7 o8 o9 : Obj} {ps1 ps2 : Array Value} {rest front : Led} {r : Value} {R : Res} (x : ResF r front R) (N : News g L h (front ++ TL L d (listOf (List.toArray dvs) dn) o1 o2 o3 o4 o5 o6 o7 o8 o9 ps1 ps2 rest)) (C : Cl o1 o2 o3 o4 o5 o6 o7 o8 o9) : LOff L d front := by
  cases R with
  | sym s => obtain ⟨_, rfl⟩ := x; exact LOff.of_ne (dk := o1) (o1 := o1) (o2 := o1) (o3 := o1) (o4 := o1) (o5 := o1) (o6 := o1) (o7 := o1) (o8 := o1) (o9 := o1) (ps1 := ps1) (ps2 := ps2) (fun p hp => nomatch hp)
  | text s pl => obtain ⟨a, t, t', _, rfl⟩ := x; exact tup_off N C
section
variable {w : World} {p : Program} {loose : List Str} {mean : ExcName → Option Value} {mg mb : Str → Option Value} {dp un : Nat} {gd : Option (List Code)} {cn : Str} {cs : Scope} {a : Addr} {ccd : Value} {cl : List (Str × Addr)} {A₀ : Around} {base h₀ : Heap} {L d : Addr} {m : Str → Option Value} {s : Shared} {Q E : Value → Shared → Prop} {dvs : List Value} {dn : Nat} {o1 o2 o3 o4 o5 o6 o7 o8 o9 : Obj} {ps1 ps2 : Array Value} {rest : Led} {fk : Addr × Obj} {f : Addr} {k : Nat}
theorem use_told {O : Except Str ((Int × Int × List Int) × Int)} {first : Int} {tf tt : Tok} {tx : Str} (N : News h₀ L s.heap (fk :: TL L d (listOf (List.toArray dvs) dn) o1 o2 o3 o4 o5 o6 o7 o8 o9 ps1 ps2 rest)) (C : Told w f k (fk :: TL L d (listOf (List.toArray dvs) dn) o1 o2 o3 o4 o5 o6 o7 o8 o9 ps1 ps2 rest) O)
    (hlen : tx.length < 1000) (hOk : OkE O first tx.length) (Z : Cl o1 o2 o3 o4 o5 o6 o7 o8 o9) (hO : LOff L d rest) (B : Below A₀ base [] h₀) (F : Fr h₀ L s.heap m) (X : (hd.heap_1 w.params).In h₀) (T : Top p loose mean mg mb h₀) (hk : cs.kind = .function) (hd : dp + (k + 6) < recursionLimit) (hu : un + 8 * (k + 6) < cLine)
    (h : ∀ r front h' tk', Fr h₀ L h' m → News h₀ L h' (TL L d (listOf (List.toArray dvs) dn) o1 o2 o3 o4 o5 o6 o7 o8 o9 ps1 ps2 (front ++ rest)) → ResM (front ++ rest) r (toldR O first tx) → LOff L d (front ++ rest) → Q r { s with heap := h', toks := tk' }) :
    wpAny (model PySem.Challenge.rw_np0052_01.row.prog w) (ktrTop dp un gd cn cs L a ccd cl []) (call (.ref 412) [.int first tf, .str tx tt, .ref f]) Q E s := by
  refine c_told C first tf tx tt hlen hOk p loose mean mg mb dp un gd cn cs a ccd cl A₀ base h₀ L m s Q E B F X N T hk hd hu fun r nw h' tk' F' N' hr => ?_
  refine genP fun C9 k9 => ?_
  refine ex_1_2 (hr.front) ?_
  intro front e9_1 hf
  subst e9_1
  refine k9 ?_
  clear k9 C9
  have N2 : News h₀ L h' (front ++ TL L d (listOf (List.toArray dvs) dn) o1 o2 o3 o4 o5 o6 o7 o8 o9 ps1 ps2 rest) := newsub N' fun p hp => (List.mem_append.mp hp).elim (List.mem_append_left _) fun q => List.mem_append_right _ (.tail _ q)
  exact h r front h' tk' F' (newsub N2 TL.sub_app) (hf.m fun p hp => List.mem_append_left _ hp) ((hf.off N2 Z).app hO)
theorem use_res {R : Res} {vs : List Value} {outer : List Env} (N : News h₀ L s.heap (TL L d (listOf (List.toArray dvs) dn) o1 o2 o3 o4 o5 o6 o7 o8 o9 ps1 ps2 rest)) (C : Ctr w f k vs (TL L d (listOf (List.toArray dvs) dn) o1 o2 o3 o4 o5 o6 o7 o8 o9 ps1 ps2 rest) fun r nw => ResL (TL L d (listOf (List.toArray dvs) dn) o1 o2 o3 o4 o5 o6 o7 o8 o9 ps1 ps2 rest) nw r R)
    (Z : Cl o1 o2 o3 o4 o5 o6 o7 o8 o9) (hO : LOff L d rest) (B : Below A₀ base outer h₀) (F : Fr h₀ L s.heap m) (X : (hd.heap_1 w.params).In h₀) (T : Top p loose mean mg mb h₀) (hk : cs.kind = .function) (hd : dp + k < recursionLimit) (hu : un + 8 * k < cLine)
    (h : ∀ r front h' tk', Fr h₀ L h' m → News h₀ L h' (TL L d (listOf (List.toArray dvs) dn) o1 o2 o3 o4 o5 o6 o7 o8 o9 ps1 ps2 (front ++ rest)) → ResM (front ++ rest) r R → LOff L d (front ++ rest) → Q r { s with heap := h', toks := tk' }) :
    wpAny (model PySem.Challenge.rw_np0052_01.row.prog w) (ktrTop dp un gd cn cs L a ccd cl outer) (call (.ref f) vs) Q E s := by
  refine use N C B F X T hk hd hu fun r nw h' tk' F' N' hr => ?_
  refine genP fun C9 k9 => ?_
  refine ex_1_2 (hr.front) ?_
  intro front e9_1 hf
  subst e9_1
  refine k9 ?_
  clear k9 C9
  exact h r front h' tk' F' (newsub N' TL.sub_app) (hf.m fun p hp => List.mem_append_left _ hp) ((hf.off N' Z).app hO)
end
theorem ne_res {prog : Program} {w : World} {A : Around} {E Q : Value → Shared → Prop} {s : Shared} {h₀ : Heap} {L : Addr} {nx n1 n2 : Led} {r1 r2 : Value} {R : Res} (N : News h₀ L s.heap nx) (h1 : ResM n1 r1 R) (h2 : ResM n2 r2 R) (s1 : ∀ p ∈ n1, p ∈ nx) (s2 : ∀ p ∈ n2, p ∈ nx) (hu : A.units + 64 < cLine) (h : Q (.bool false) s) :
    wpAny (model prog w) A (compareOp .NotEq r1 r2) Q E s := by
  cases R with
  | sym x =>
    obtain ⟨t, rfl⟩ := h1
    obtain ⟨u, rfl⟩ := h2
    exact SeqAt.RcNeAt.str_str x t x u prog w E Q (by simpa using h)
  | text x pl =>
    refine genP fun C9 k9 => ?_
    refine ex_3_2 (h1) ?_
    try clear h1
    intro a t t' e9_3 k1
    subst e9_3
    refine k9 ?_
    clear k9 C9
    refine genP fun C9 k9 => ?_
    refine ex_3_2 (h2) ?_
    try clear h2
    intro b u u' e9_3 k2
    subst e9_3
    refine k9 ?_
    clear k9 C9
    refine SeqAt.RcNeAt.tuples (e := fun _ => true) (News.isTup N (s1 _ k1)) (News.isTup N (s2 _ k2)) (by with_reducible_and_instances exact Nat.lt_of_le_of_lt (Nat.le_add_right _ _) hu) (fun j g1 g2 => ?_) prog w E Q ?_
    · match j, g1, g2 with
      | 0, _, _ => have := SeqAt.EqAt.str_str (A := A.in1) (s := s) x t x u; rwa [beq_self_eq_true] at this
      | 1, _, _ => have := SeqAt.EqAt.int_int (A := A.in1) (s := s) pl t' pl u'; rwa [beq_self_eq_true] at this
      | n + 2, g, _ => exact absurd g (by show ¬ n + 2 < 2; (clear s1 s2 hu g1 g2 g; lia))
    · have e : (!((List.range (min (List.toArray [Value.str x t, Value.int pl t']).size (List.toArray [Value.str x u, Value.int pl u']).size)).all (fun _ => true) && (List.toArray [Value.str x t, Value.int pl t']).size == (List.toArray [Value.str x u, Value.int pl u']).size)) = false := by
        simp
      rw [e]
      exact h
end
section
noncomputable def cellV (o : Obj) : Option Value → Prop
  | none => ∃ v, o.data = .cell v
  | some x => o.data = .cell (some x)
theorem cellV.cl {o : Obj} {x : Option Value} (h : cellV o x) : ∃ v, o.data = .cell v := by
  cases x with
  | none => exact h
  | some x => exact ⟨_, h⟩
structure Tf (L d : Nat) (cz : List Int) (first : Int) (at_ : Nat) : Prop where
  dk : Dk L d
  ok : TextOk cz
  len : cz.length < 17
  pos : 0 < cz.length
  last : cz.getLast? = some 97
  f1 : 1 ≤ first
  f2 : first ≤ 3
  at_le : at_ ≤ cz.length
structure Rest (w : World) (L d tb vw lz : Addr) (wz : List Value) (kp : Led) (cz : List Int) (first : Int) (ps1 ps2 : Array Value) (rest : Led) : Prop where
  off : LOff L d rest
  V : ViewAt rest vw cz first
  hz : (lz, listOf (List.toArray wz) 0) ∈ rest
  iz : IntsAre wz cz
  T : TabW w rest tb
  x1 : ExTab 426 qEx ps1 rest
  x2 : ExTab 445 qL ps2 rest
  hk : ∀ p ∈ kp, p ∈ rest
theorem Rest.mono {w : World} {L d tb vw lz : Addr} {wz : List Value} {kp : Led} {cz : List Int} {first : Int} {ps1 ps2 : Array Value} {rest rest' : Led} (R : Rest w L d tb vw lz wz kp cz first ps1 ps2 rest) (h : ∀ p ∈ rest, p ∈ rest') (ho : LOff L d rest') : Rest w L d tb vw lz wz kp cz first ps1 ps2 rest' :=
  ⟨ho, R.V.mono h, h _ R.hz, R.iz, R.T.mono h, R.x1.mono h, R.x2.mono h, fun p hp => h p (R.hk p hp)⟩
theorem Rest.app {w : World} {L d tb vw lz : Addr} {wz : List Value} {kp : Led} {cz : List Int} {first : Int} {ps1 ps2 : Array Value} {rest own : Led} (R : Rest w L d tb vw lz wz kp cz first ps1 ps2 rest) (ho : LOff L d (own ++ rest)) : Rest w L d tb vw lz wz kp cz first ps1 ps2 (own ++ rest) := R.mono (fun _ hp => List.mem_append_right _ hp) ho
theorem Rest.lam {w : World} {L d tb vw lz : Addr} {wz : List Value} {kp : Led} {cz : List Int} {first : Int} {ps1 ps2 ps2' : Array Value} {rest own : Led} (R : Rest w L d tb vw lz wz kp cz first ps1 ps2 rest) (ho : LOff L d (own ++ rest)) (x : ExTab 445 qL ps2' (own ++ rest)) : Rest w L d tb vw lz wz kp cz first ps1 ps2' (own ++ rest) :=
  ⟨ho, (R.app ho).V, (R.app ho).hz, R.iz, (R.app ho).T, (R.app ho).x1, x, (R.app ho).hk⟩
noncomputable def mvr (w : World) (L vw : Addr) (cz : List Int) (first : Int) (o3 o2 : Obj) (rest : Led) : Option Addr → Prop
  | none => ∃ v, o3.data = .cell v
  | some fm => o3.data = .cell (some (.ref fm)) ∧ Mover w fm 10 ((L + 1 + 1 + 1 + 1 + 1 + 1 + 1 + 1, o2) :: rest) vw first cz (okW cz)
theorem mvr.cl {w : World} {L vw : Addr} {cz : List Int} {first : Int} {o3 o2 : Obj} {rest : Led} {x : Option Addr} (h : mvr w L vw cz first o3 o2 rest x) : ∃ v, o3.data = .cell v := by
  cases x with
  | none => exact h
  | some x => exact ⟨_, h.1⟩
theorem mvr.mono {w : World} {L vw : Addr} {cz : List Int} {first : Int} {o3 o2 : Obj} {rest rest' : Led} {x : Option Addr} (h : mvr w L vw cz first o3 o2 rest x) (hs : ∀ p ∈ rest, p ∈ rest') : mvr w L vw cz first o3 o2 rest' x := by
  cases x with
  | none => exact h
  | some x => exact ⟨h.1, h.2.mono fun p hp => (List.mem_cons.mp hp).elim (fun e => e ▸ .head _) fun q => .tail _ (hs p q)⟩
structure Nm (m : Str → Option Value) (d lz : Addr) (cz : List Int) : Prop where
  dk : m "_law_deck" = some (.ref d)
  tx : ∃ t, m "_law_text" = some (.str (txt cz) t)
  cd : m "_law_codes" = some (.ref lz)
theorem Nm.set {m : Str → Option Value} {d lz : Addr} {cz : List Int} (h : Nm m d lz cz) {x : Str} {v : Value} (h1 : ("_law_deck" : Str) ≠ x) (h2 : ("_law_text" : Str) ≠ x) (h3 : ("_law_codes" : Str) ≠ x) : Nm (fun y => if y = x then some v else m y) d lz cz :=
  ⟨(if_neg h1).trans h.dk, h.tx.imp fun t e => (if_neg h2).trans e, (if_neg h3).trans h.cd⟩
inductive St (w : World) (L d tb vw lz : Addr) (wz : List Value) (kp : Led) (cz : List Int) (first : Int) (at_ : Nat) (cM cC cL cK : Option Value) (cF : Option Addr) (m : Str → Option Value) : Led → Prop where
  | of {dvs : List Value} {dns : List Int} {dn : Nat} {ps1 ps2 : Array Value} {o1 o2 o3 o4 o5 o6 o7 o8 o9 : Obj} {rest : Led} {tf ta : Tok}
    (i1 : IntsAre dvs dns) (k1 : DeckOk dns) (z1 : dns.length < 100) (e1 : o1.data = .cell (some (.ref vw))) (e2 : o2.data = .cell (some (.ref tb))) (e3 : mvr w L vw cz first o3 o2 rest cF) (e4 : cellV o4 cK) (e5 : cellV o5 cM) (e6 : cellV o6 cL) (e7 : o7.data = .cell (some (.int first tf))) (e8 : cellV o8 cC) (e9 : o9.data = .cell (some (.int at_ ta)))
    (R : Rest w L d tb vw lz wz kp cz first ps1 ps2 rest) (Nn : Nm m d lz cz) : St w L d tb vw lz wz kp cz first at_ cM cC cL cK cF m (TL L d (listOf (List.toArray dvs) dn) o1 o2 o3 o4 o5 o6 o7 o8 o9 ps1 ps2 rest)
noncomputable def SegEnd (g : Heap) (L : Addr) (s : Shared) (post : (Str → Option Value) → Led → Prop) (fl : Flow) (s' : Shared) : Prop :=
  fl = .next ∧ ∃ m' nx' h' tk', s' = { s with heap := h', toks := tk' } ∧ Fr g L h' m' ∧ News g L h' nx' ∧ post m' nx'
theorem seg_end {g : Heap} {L : Addr} {s : Shared} {post : (Str → Option Value) → Led → Prop} {m' : Str → Option Value} {nx' : Led} {h' : Heap} {tk' : Nat} (F : Fr g L h' m') (N : News g L h' nx') (r : post m' nx') : SegEnd g L s post .next { s with heap := h', toks := tk' } := ⟨rfl, m', nx', h', tk', rfl, F, N, r⟩
theorem Told.of_E {w : World} {f : Addr} {k : Nat} {news : Led} {O : Except Str ((Nat × Nat × List Int) × Int)} {first : Int} {name qual : Str} {params : Arguments} {body : Expr} {scope : Scope} {clos : List (Str × Addr)} {pm ctv : Value} {c' : Addr}
    (hm : (f, kla_obj name qual params body scope clos pm c' ctv) ∈ news) (C : CtrX w f k [] news (fun r nw => ∃ e0 e1 codes pl, O = .ok ((e0, e1, codes), pl) ∧ EditAt nw r (first + (e0 : Nat)) (first + (e1 : Nat)) codes (first + pl) ∧ ∀ p ∈ news, p ∈ nw) (fun sym => O = .error sym)) : Told w f k news (shE first O) :=
  ⟨C.imp (fun r nw x9 => ex_4_3 x9 fun e0 e1 codes pl h1 h2 h3 => ⟨_, _, _, _, by rw [h1]; rfl, h2, h3⟩) fun y h => by rw [h]; rfl, fun g h L m nw F X N hs => FnAt.of N (hs _ hm)⟩
theorem Told.of_M {w : World} {f : Addr} {k : Nat} {news : Led} {O : Except Str (Nat × Nat × List Int)} {first : Int} {j : Nat} {name qual : Str} {params : Arguments} {body : Expr} {scope : Scope} {clos : List (Str × Addr)} {pm ctv : Value} {c' : Addr}
    (hm : (f, kla_obj name qual params body scope clos pm c' ctv) ∈ news) (C : CtrX w f k [] news (fun r nw => ∃ e0 e1 codes, O = .ok (e0, e1, codes) ∧ EditAt nw r (first + (e0 : Nat)) (first + (e1 : Nat)) codes (first + (j : Nat)) ∧ ∀ p ∈ news, p ∈ nw) (fun sym => O = .error sym)) : Told w f k news (shM first j O) :=
  ⟨C.imp (fun r nw x9 => ex_3_3 x9 fun e0 e1 codes h1 h2 h3 => ⟨_, _, _, _, by rw [h1]; rfl, h2, h3⟩) fun y h => by rw [h]; rfl, fun g h L m nw F X N hs => FnAt.of N (hs _ hm)⟩
theorem Told.of_L {w : World} {f : Addr} {k : Nat} {news : Led} {e0 e1 pl : Int} {codes : List Int} {name qual : Str} {params : Arguments} {body : Expr} {scope : Scope} {clos : List (Str × Addr)} {pm ctv : Value} {c' : Addr} {Y : Str → Prop}
    (hm : (f, kla_obj name qual params body scope clos pm c' ctv) ∈ news) (C : CtrX w f k [] news (fun r nw => EditAt nw r e0 e1 codes pl ∧ ∀ p ∈ news, p ∈ nw) Y) (hY : ∀ y, ¬ Y y) : Told w f k news (.ok ((e0, e1, codes), pl)) :=
  ⟨C.imp (fun r nw ⟨h2, h3⟩ => ⟨_, _, _, _, rfl, h2, h3⟩) fun y h => absurd h (hY y), fun g h L m nw F X N hs => FnAt.of N (hs _ hm)⟩
section
variable {w : World} {g0 h0 : Heap} {L0 f c' : Addr} {k : Nat} {nx : Led} {first : Int} {name qual : Str} {params : Arguments} {body : Expr} {scope : Scope} {clos : List (Str × Addr)} {pm ctv : Value} {oc : Obj} {vc : Array Value} {tq : Tok}
noncomputable abbrev LamWalk (w : World) (news : Led) (f c' : Addr) (k : Nat) (qual : Str) (body : Expr) (scope : Scope) (clos : List (Str × Addr)) (R : Value → Led → Prop) (Y : Str → Prop) : Prop :=
  ∀ (p : Program) (loose : List Str) (mean : ExcName → Option Value) (mg mb : Str → Option Value) (dp un : Nat) (gd : Option (List Code)) (outer : List Env) (A₀ : Around) (base g : Heap) (L : Addr) (s : Shared),
      Below A₀ base outer g → Fr g L s.heap (fun y => ([] : List (Str × Value)).lookup y) → (hd.heap_1 w.params).In g → News g L s.heap news → Top p loose mean mg mb g → dp + k < recursionLimit → un + 8 * k + 4 < cLine →
      wpAny (model PySem.Challenge.rw_np0052_01.row.prog w) (ktrTop dp un gd qual scope L f (.ref c') clos outer) (eval body (envX qual scope L f (.ref c') clos))
        (fun v s' => Ends g L s R v s') (fun e s' => EndsX g L outer news s Y e s') s
theorem told_E {O : Except Str ((Nat × Nat × List Int) × Int)} (N : News g0 L0 h0 ((f, kla_obj name qual params body scope clos pm c' ctv) :: nx)) (hmc : (c', oc) ∈ nx) (hoc : oc.data = .fields vc) (hvc : vc[1]? = some (.str qual tq)) (hb : bindArgs (kla_fn name qual params body scope clos pm (.ref c') ctv) ⟨[], []⟩ = pure [])
    (hco : scope.isCoroutine = false) (hgen : scope.isGenerator = false) (hkd : scope.kind = .function) (hcell : ∀ x ∈ scope.names, x.2 ≠ .cell)
    (h : LamWalk w ((f, kla_obj name qual params body scope clos pm c' ctv) :: nx) f c' k qual body scope clos (fun r nw => ∃ e0 e1 codes pl, O = .ok ((e0, e1, codes), pl) ∧ EditAt nw r (first + (e0 : Nat)) (first + (e1 : Nat)) codes (first + pl) ∧ ∀ p ∈ (f, kla_obj name qual params body scope clos pm c' ctv) :: nx, p ∈ nw) (fun sym => O = .error sym)) :
    Told w f (k + 1) ((f, kla_obj name qual params body scope clos pm c' ctv) :: nx) (shE first O) :=
  Told.of_E (.head _) (ctrX_lam [] (.head _) (.tail _ hmc) hoc hvc hb (fun y h => nomatch h) hco hgen hkd hcell h)
theorem told_M {O : Except Str (Nat × Nat × List Int)} {j : Nat} (N : News g0 L0 h0 ((f, kla_obj name qual params body scope clos pm c' ctv) :: nx)) (hmc : (c', oc) ∈ nx) (hoc : oc.data = .fields vc) (hvc : vc[1]? = some (.str qual tq)) (hb : bindArgs (kla_fn name qual params body scope clos pm (.ref c') ctv) ⟨[], []⟩ = pure [])
    (hco : scope.isCoroutine = false) (hgen : scope.isGenerator = false) (hkd : scope.kind = .function) (hcell : ∀ x ∈ scope.names, x.2 ≠ .cell)
    (h : LamWalk w ((f, kla_obj name qual params body scope clos pm c' ctv) :: nx) f c' k qual body scope clos (fun r nw => ∃ e0 e1 codes, O = .ok (e0, e1, codes) ∧ EditAt nw r (first + (e0 : Nat)) (first + (e1 : Nat)) codes (first + (j : Nat)) ∧ ∀ p ∈ (f, kla_obj name qual params body scope clos pm c' ctv) :: nx, p ∈ nw) (fun sym => O = .error sym)) :
    Told w f (k + 1) ((f, kla_obj name qual params body scope clos pm c' ctv) :: nx) (shM first j O) :=
  Told.of_M (.head _) (ctrX_lam [] (.head _) (.tail _ hmc) hoc hvc hb (fun y h => nomatch h) hco hgen hkd hcell h)
theorem told_L {e0 e1 pl : Int} {codes : List Int} (N : News g0 L0 h0 ((f, kla_obj name qual params body scope clos pm c' ctv) :: nx)) (hmc : (c', oc) ∈ nx) (hoc : oc.data = .fields vc) (hvc : vc[1]? = some (.str qual tq)) (hb : bindArgs (kla_fn name qual params body scope clos pm (.ref c') ctv) ⟨[], []⟩ = pure [])
    (hco : scope.isCoroutine = false) (hgen : scope.isGenerator = false) (hkd : scope.kind = .function) (hcell : ∀ x ∈ scope.names, x.2 ≠ .cell)
    (h : LamWalk w ((f, kla_obj name qual params body scope clos pm c' ctv) :: nx) f c' k qual body scope clos (fun r nw => EditAt nw r e0 e1 codes pl ∧ ∀ p ∈ (f, kla_obj name qual params body scope clos pm c' ctv) :: nx, p ∈ nw) (fun _ => False)) :
    Told w f (k + 1) ((f, kla_obj name qual params body scope clos pm c' ctv) :: nx) (.ok ((e0, e1, codes), pl)) :=
  Told.of_L (.head _) (ctrX_lam [] (.head _) (.tail _ hmc) hoc hvc hb (fun y h => nomatch h) hco hgen hkd hcell h) fun _ h => h
end
theorem St.open {w : World} {g h : Heap} {L d tb vw lz : Addr} {wz : List Value} {kp : Led} {cz : List Int} {first : Int} {at_ : Nat} {cM cC cL cK : Option Value} {cF : Option Addr} {m : Str → Option Value} {nx : Led} {P : Prop} (S : St w L d tb vw lz wz kp cz first at_ cM cC cL cK cF m nx) (N : News g L h nx)
    (k : ∀ dvs dns dn ps1 ps2 o1 o2 o3 o4 o5 o6 o7 o8 o9 rest tf ta tt, News g L h (TL L d (listOf (List.toArray dvs) dn) o1 o2 o3 o4 o5 o6 o7 o8 o9 ps1 ps2 rest) → IntsAre dvs dns → DeckOk dns → dns.length < 100 →
      o1.data = .cell (some (.ref vw)) → o2.data = .cell (some (.ref tb)) → mvr w L vw cz first o3 o2 rest cF → cellV o4 cK → cellV o5 cM → cellV o6 cL → o7.data = .cell (some (.int first tf)) → cellV o8 cC → o9.data = .cell (some (.int at_ ta)) →
      Rest w L d tb vw lz wz kp cz first ps1 ps2 rest → Nm m d lz cz → m "_law_text" = some (.str (txt cz) tt) → m "_law_deck" = some (.ref d) → m "_law_codes" = some (.ref lz) → P) : P := by
  cases S with | of i1 k1 z1 e1 e2 e3 e4 e5 e6 e7 e8 e9 R Nn =>
  exact Nn.tx.elim fun tt htx => k _ _ _ _ _ _ _ _ _ _ _ _ _ _ _ _ _ tt N i1 k1 z1 e1 e2 e3 e4 e5 e6 e7 e8 e9 R Nn htx Nn.dk Nn.cd
end
section
local macro_rules | `(tactic| walk_at "call ref") => `(tactic| walk_at "st")
local macro_rules | `(tactic| walk_at "u_ne") => `(tactic| first | assumption | exact Ne.symm (by assumption) | k_ne | (refine @Nat.ne_of_gt _ _ ?_; omega) | (refine @Nat.ne_of_lt _ _ ?_; omega))
local macro_rules | `(tactic| walk_at "u_rest") => `(tactic| first
  | exact LOff.dk (by assumption)
  | exact LOff.t1 (by assumption)
  | exact LOff.t2 (by assumption)
  | exact LOff.c1 (by assumption)
  | exact LOff.c2 (by assumption)
  | exact LOff.c3 (by assumption)
  | exact LOff.c4 (by assumption)
  | exact LOff.c5 (by assumption)
  | exact LOff.c6 (by assumption)
  | exact LOff.c7 (by assumption)
  | exact LOff.c8 (by assumption)
  | exact LOff.c9 (by assumption))
local macro_rules | `(tactic| walk_at "u_all") => `(tactic| first | walk_at "u_rest" | (refine List.forall_mem_cons.mpr ⟨by walk_at "u_ne", ?_⟩; walk_at "u_all"))
local macro_rules | `(tactic| walk_at "u_cell") => `(tactic| first | (refine UpdF.head ?_; walk_at "u_all") | (refine' UpdF.tail ?a ?b; (case a => walk_at "u_ne"); (case b => walk_at "u_cell")))
local macro_rules | `(tactic| walk_at "pyIter ref") => `(tactic| walk_at "st")
section
variable {L d : Addr} {dk o1 o2 o3 o4 o5 o6 o7 o8 o9 : Obj} {ps1 ps2 : Array Value} {rest : Led}
theorem TL.upd_d (K : Dk L d) (hO : LOff L d rest) : UpdF d dk (TL L d dk o1 o2 o3 o4 o5 o6 o7 o8 o9 ps1 ps2 rest) (fun o' => TL L d o' o1 o2 o3 o4 o5 o6 o7 o8 o9 ps1 ps2 rest) := by
  refine genP fun C9 k9 => ?_
  obtain ⟨hL, q0, q1, q2, q3, q4, q5, q6, q7, q8, q9, q10⟩ := K
  refine k9 ?_
  clear k9 C9
  walk_at "u_cell"
theorem TL.upd_9 (K : Dk L d) (hO : LOff L d rest) : UpdF (L + 1 + 1 + 1 + 1 + 1 + 1 + 1 + 1 + 1) o1 (TL L d dk o1 o2 o3 o4 o5 o6 o7 o8 o9 ps1 ps2 rest) (fun o' => TL L d dk o' o2 o3 o4 o5 o6 o7 o8 o9 ps1 ps2 rest) := by
  refine genP fun C9 k9 => ?_
  obtain ⟨hL, q0, q1, q2, q3, q4, q5, q6, q7, q8, q9, q10⟩ := K
  refine k9 ?_
  clear k9 C9
  walk_at "u_cell"
theorem TL.upd_7 (K : Dk L d) (hO : LOff L d rest) : UpdF (L + 1 + 1 + 1 + 1 + 1 + 1 + 1) o3 (TL L d dk o1 o2 o3 o4 o5 o6 o7 o8 o9 ps1 ps2 rest) (fun o' => TL L d dk o1 o2 o' o4 o5 o6 o7 o8 o9 ps1 ps2 rest) := by
  refine genP fun C9 k9 => ?_
  obtain ⟨hL, q0, q1, q2, q3, q4, q5, q6, q7, q8, q9, q10⟩ := K
  refine k9 ?_
  clear k9 C9
  walk_at "u_cell"
theorem TL.upd_6 (K : Dk L d) (hO : LOff L d rest) : UpdF (L + 1 + 1 + 1 + 1 + 1 + 1) o4 (TL L d dk o1 o2 o3 o4 o5 o6 o7 o8 o9 ps1 ps2 rest) (fun o' => TL L d dk o1 o2 o3 o' o5 o6 o7 o8 o9 ps1 ps2 rest) := by
  refine genP fun C9 k9 => ?_
  obtain ⟨hL, q0, q1, q2, q3, q4, q5, q6, q7, q8, q9, q10⟩ := K
  refine k9 ?_
  clear k9 C9
  walk_at "u_cell"
theorem TL.upd_5 (K : Dk L d) (hO : LOff L d rest) : UpdF (L + 1 + 1 + 1 + 1 + 1) o5 (TL L d dk o1 o2 o3 o4 o5 o6 o7 o8 o9 ps1 ps2 rest) (fun o' => TL L d dk o1 o2 o3 o4 o' o6 o7 o8 o9 ps1 ps2 rest) := by
  refine genP fun C9 k9 => ?_
  obtain ⟨hL, q0, q1, q2, q3, q4, q5, q6, q7, q8, q9, q10⟩ := K
  refine k9 ?_
  clear k9 C9
  walk_at "u_cell"
theorem TL.upd_4 (K : Dk L d) (hO : LOff L d rest) : UpdF (L + 1 + 1 + 1 + 1) o6 (TL L d dk o1 o2 o3 o4 o5 o6 o7 o8 o9 ps1 ps2 rest) (fun o' => TL L d dk o1 o2 o3 o4 o5 o' o7 o8 o9 ps1 ps2 rest) := by
  refine genP fun C9 k9 => ?_
  obtain ⟨hL, q0, q1, q2, q3, q4, q5, q6, q7, q8, q9, q10⟩ := K
  refine k9 ?_
  clear k9 C9
  walk_at "u_cell"
theorem TL.upd_3 (K : Dk L d) (hO : LOff L d rest) : UpdF (L + 1 + 1 + 1) o7 (TL L d dk o1 o2 o3 o4 o5 o6 o7 o8 o9 ps1 ps2 rest) (fun o' => TL L d dk o1 o2 o3 o4 o5 o6 o' o8 o9 ps1 ps2 rest) := by
  refine genP fun C9 k9 => ?_
  obtain ⟨hL, q0, q1, q2, q3, q4, q5, q6, q7, q8, q9, q10⟩ := K
  refine k9 ?_
  clear k9 C9
  walk_at "u_cell"
theorem TL.upd_2 (K : Dk L d) (hO : LOff L d rest) : UpdF (L + 1 + 1) o8 (TL L d dk o1 o2 o3 o4 o5 o6 o7 o8 o9 ps1 ps2 rest) (fun o' => TL L d dk o1 o2 o3 o4 o5 o6 o7 o' o9 ps1 ps2 rest) := by
  refine genP fun C9 k9 => ?_
  obtain ⟨hL, q0, q1, q2, q3, q4, q5, q6, q7, q8, q9, q10⟩ := K
  refine k9 ?_
  clear k9 C9
  walk_at "u_cell"
theorem TL.upd_1 (K : Dk L d) (hO : LOff L d rest) : UpdF (L + 1) o9 (TL L d dk o1 o2 o3 o4 o5 o6 o7 o8 o9 ps1 ps2 rest) (fun o' => TL L d dk o1 o2 o3 o4 o5 o6 o7 o8 o' ps1 ps2 rest) := by
  refine genP fun C9 k9 => ?_
  obtain ⟨hL, q0, q1, q2, q3, q4, q5, q6, q7, q8, q9, q10⟩ := K
  refine k9 ?_
  clear k9 C9
  walk_at "u_cell"
end
end
section
noncomputable abbrev TG (L d : Addr) (dk o1 o2 o3 o4 o5 o6 o7 o8 o9 : Obj) (ps2 : Array Value) : Led :=
  [(d, dk), (L + 1 + 1 + 1 + 1 + 1 + 1 + 1 + 1 + 1, o1), (L + 1 + 1 + 1 + 1 + 1 + 1 + 1 + 1, o2), (L + 1 + 1 + 1 + 1 + 1 + 1 + 1, o3), (L + 1 + 1 + 1 + 1 + 1 + 1, o4), (L + 1 + 1 + 1 + 1 + 1, o5), (L + 1 + 1 + 1 + 1, o6), (L + 1 + 1 + 1, o7), (L + 1 + 1, o8), (L + 1, o9), (445, tabObj ps2)]
section
variable {L d : Addr} {dk o1 o2 o3 o4 o5 o6 o7 o8 o9 : Obj} {ps1 ps2 : Array Value} {rest own : Led}
theorem TG.to {x : Addr × Obj} (h : x ∈ TG L d dk o1 o2 o3 o4 o5 o6 o7 o8 o9 ps2) : x ∈ TF L d dk o1 o2 o3 o4 o5 o6 o7 o8 o9 ps1 ps2 := by
  have h : x ∈ [(d, dk), (L + 1 + 1 + 1 + 1 + 1 + 1 + 1 + 1 + 1, o1), (L + 1 + 1 + 1 + 1 + 1 + 1 + 1 + 1, o2), (L + 1 + 1 + 1 + 1 + 1 + 1 + 1, o3), (L + 1 + 1 + 1 + 1 + 1 + 1, o4), (L + 1 + 1 + 1 + 1 + 1, o5), (L + 1 + 1 + 1 + 1, o6), (L + 1 + 1 + 1, o7), (L + 1 + 1, o8), (L + 1, o9)] ++ [((445 : Addr), tabObj ps2)] := h
  show x ∈ [(d, dk), (L + 1 + 1 + 1 + 1 + 1 + 1 + 1 + 1 + 1, o1), (L + 1 + 1 + 1 + 1 + 1 + 1 + 1 + 1, o2), (L + 1 + 1 + 1 + 1 + 1 + 1 + 1, o3), (L + 1 + 1 + 1 + 1 + 1 + 1, o4), (L + 1 + 1 + 1 + 1 + 1, o5), (L + 1 + 1 + 1 + 1, o6), (L + 1 + 1 + 1, o7), (L + 1 + 1, o8), (L + 1, o9)] ++ [((426 : Addr), tabObj ps1), ((445 : Addr), tabObj ps2)]
  exact (List.mem_append.mp h).elim (List.mem_append_left _) fun q => List.mem_append_right _ (.tail _ q)
theorem TF.cases {x : Addr × Obj} (h : x ∈ TF L d dk o1 o2 o3 o4 o5 o6 o7 o8 o9 ps1 ps2) : x = (426, tabObj ps1) ∨ x ∈ TG L d dk o1 o2 o3 o4 o5 o6 o7 o8 o9 ps2 := by
  have h : x ∈ [(d, dk), (L + 1 + 1 + 1 + 1 + 1 + 1 + 1 + 1 + 1, o1), (L + 1 + 1 + 1 + 1 + 1 + 1 + 1 + 1, o2), (L + 1 + 1 + 1 + 1 + 1 + 1 + 1, o3), (L + 1 + 1 + 1 + 1 + 1 + 1, o4), (L + 1 + 1 + 1 + 1 + 1, o5), (L + 1 + 1 + 1 + 1, o6), (L + 1 + 1 + 1, o7), (L + 1 + 1, o8), (L + 1, o9)] ++ [((426 : Addr), tabObj ps1), ((445 : Addr), tabObj ps2)] := h
  rcases List.mem_append.mp h with h | h
  · right
    show x ∈ [(d, dk), (L + 1 + 1 + 1 + 1 + 1 + 1 + 1 + 1 + 1, o1), (L + 1 + 1 + 1 + 1 + 1 + 1 + 1 + 1, o2), (L + 1 + 1 + 1 + 1 + 1 + 1 + 1, o3), (L + 1 + 1 + 1 + 1 + 1 + 1, o4), (L + 1 + 1 + 1 + 1 + 1, o5), (L + 1 + 1 + 1 + 1, o6), (L + 1 + 1 + 1, o7), (L + 1 + 1, o8), (L + 1, o9)] ++ [((445 : Addr), tabObj ps2)]
    exact List.mem_append_left _ h
  · rcases List.mem_cons.mp h with h | h
    · exact .inl h
    · right
      show x ∈ [(d, dk), (L + 1 + 1 + 1 + 1 + 1 + 1 + 1 + 1 + 1, o1), (L + 1 + 1 + 1 + 1 + 1 + 1 + 1 + 1, o2), (L + 1 + 1 + 1 + 1 + 1 + 1 + 1, o3), (L + 1 + 1 + 1 + 1 + 1 + 1, o4), (L + 1 + 1 + 1 + 1 + 1, o5), (L + 1 + 1 + 1 + 1, o6), (L + 1 + 1 + 1, o7), (L + 1 + 1, o8), (L + 1, o9)] ++ [((445 : Addr), tabObj ps2)]
      exact List.mem_append_right _ h
theorem TG.ne (K : Dk L d) {q : Addr × Obj} (hq' : q ∈ TG L d dk o1 o2 o3 o4 o5 o6 o7 o8 o9 ps2) : q.1 ≠ 426 := by
  have hL := K.hL
  have hLn : ∀ x : Nat, 448 < x → x ≠ 426 := fun x hx e => absurd (e ▸ hx) (by decide)
  refine (?_ : ∀ x : Addr × Obj, x ∈ _ → x.1 ≠ 426) q hq'
  refine fm (p := fun q => q.1 ≠ 426) (Ne.symm K.q9) ?_
  iterate 9 (refine fm (by exact hLn _ (by repeat (first | exact hL | refine Nat.lt_succ_of_lt ?_))) ?_)
  exact fm (show (445 : Nat) ≠ 426 by decide) fun _ h => nomatch h
theorem TL.turn : ∀ x ∈ (426, tabObj ps1) :: (TG L d dk o1 o2 o3 o4 o5 o6 o7 o8 o9 ps2 ++ rest), x ∈ TL L d dk o1 o2 o3 o4 o5 o6 o7 o8 o9 ps1 ps2 rest := fun x hx => by
  rcases List.mem_cons.mp hx with rfl | hx
  · exact TL.front (.tail _ (.tail _ (.tail _ (.tail _ (.tail _ (.tail _ (.tail _ (.tail _ (.tail _ (.tail _ (.head _)))))))))))
  · exact (List.mem_append.mp hx).elim (fun q => TL.front (TG.to q)) TL.back
theorem TL.unturn : ∀ x ∈ TL L d dk o1 o2 o3 o4 o5 o6 o7 o8 o9 ps1 ps2 (own ++ rest), x ∈ (426, tabObj ps1) :: (own ++ (TG L d dk o1 o2 o3 o4 o5 o6 o7 o8 o9 ps2 ++ rest)) := fun x hx => by
  rcases TL.cases hx with h | h
  · rcases TF.cases h with rfl | h
    · exact .head _
    · exact .tail _ (List.mem_append_right _ (List.mem_append_left _ h))
  · rcases List.mem_append.mp h with h | h
    · exact .tail _ (List.mem_append_left _ h)
    · exact .tail _ (List.mem_append_right _ (List.mem_append_right _ h))
theorem LOff.of_own (h : ∀ p ∈ own, p.1 ≠ 426 ∧ ∀ q ∈ TG L d dk o1 o2 o3 o4 o5 o6 o7 o8 o9 ps2 ++ rest, q.1 ≠ p.1) : LOff L d own :=
  LOff.of_ne (dk := dk) (o1 := o1) (o2 := o2) (o3 := o3) (o4 := o4) (o5 := o5) (o6 := o6) (o7 := o7) (o8 := o8) (o9 := o9) (ps1 := #[]) (ps2 := ps2) fun p hp q hq => by
    rcases TF.cases hq with rfl | hq
    · exact Ne.symm (h p hp).1
    · exact (h p hp).2 q (List.mem_append_left _ hq)
end
section
variable {w : World} {p : Program} {loose : List Str} {mean : ExcName → Option Value} {mg mb : Str → Option Value} {dp un : Nat} {gd : Option (List Code)} {cn : Str} {cs' : Scope} {a : Addr} {ccd : Value} {cl : List (Str × Addr)} {outer : List Env} {A₀ : Around} {base h₀ : Heap} {L d : Addr} {m : Str → Option Value} {s : Shared} {Q E : Value → Shared → Prop} {dvs : List Value} {dn : Nat} {o1 o2 o3 o4 o5 o6 o7 o8 o9 : Obj} {ps1 ps2 : Array Value} {rest : Led}
theorem use_bw {cs : List Int} (K : Dk L d) (N : News h₀ L s.heap (TL L d (listOf (List.toArray dvs) dn) o1 o2 o3 o4 o5 o6 o7 o8 o9 ps1 ps2 rest)) (hx : ExTab 426 qEx ps1 rest) (hO : LOff L d rest) (Z : Cl o1 o2 o3 o4 o5 o6 o7 o8 o9) (ht : TextOk cs) (hl : cs.length < 100) (h0 : 0 < cs.length) (i : Nat) (hi : i ≤ cs.length) (t0 t1 t2 : Tok) (many : Int) (hm : -2 ≤ many ∧ many ≤ 2 ∧ many ≠ 0)
    (B : Below A₀ base outer h₀) (F : Fr h₀ L s.heap m) (X : (hd.heap_1 w.params).In h₀) (T : Top p loose mean mg mb h₀) (hk : cs'.kind = .function) (hd : dp + 9 < recursionLimit) (hu : un + 8 * 9 < cLine)
    (h : ∀ r ps1' own h' tk', Fr h₀ L h' m → News h₀ L h' (TL L d (listOf (List.toArray dvs) dn) o1 o2 o3 o4 o5 o6 o7 o8 o9 ps1' ps2 (own ++ rest)) → ResM (own ++ rest) r (bwR cs i many) → LOff L d (own ++ rest) → ExTab 426 qEx ps1' (own ++ rest) → Q r { s with heap := h', toks := tk' }) :
    wpAny (model PySem.Challenge.rw_np0052_01.row.prog w) (ktrTop dp un gd cn cs' L a ccd cl outer) (call (.ref 438) [.str (txt cs) t0, .int i t1, .int many t2]) Q E s := by
  refine use (newsub N TL.turn) (c_bw (others := TG L d (listOf (List.toArray dvs) dn) o1 o2 o3 o4 o5 o6 o7 o8 o9 ps2 ++ rest) (rest := rest) (fun q hq => (List.mem_append.mp hq).elim (TG.ne K) (hO.t1 q)) hx (fun q hq => List.mem_append_right _ hq) ht hl h0 i hi t0 t1 t2 many hm) B F X T hk hd hu fun r nw h' tk' F' N' x9 => ex_3_4 x9 fun ps' own front x1 e hof hf => ?_
  subst e
  have hown := (LOff.of_own hof).app hO
  have N2 : News h₀ L h' (front ++ TL L d (listOf (List.toArray dvs) dn) o1 o2 o3 o4 o5 o6 o7 o8 o9 ps' ps2 (own ++ rest)) := newsub N' fun x hx => (List.mem_append.mp hx).elim (List.mem_append_left _) fun q => List.mem_append_right _ (TL.unturn x q)
  have hfo := (hf.off N2 Z).app hown
  rw [← List.append_assoc] at hfo
  refine h r ps' (front ++ own) h' tk' F' (newsub N2 fun x hx => TL.sub_app x ?_) (hf.m fun x hx => List.mem_append_left _ (List.mem_append_left _ hx)) hfo (x1.mono fun x hx => ?_)
  · rw [List.append_assoc] at hx; exact hx
  · rw [List.append_assoc]; exact List.mem_append_right _ hx
theorem use_exL {one other : Addr} {a0 a1 b0 b1 : Int} {t0 t1 u0 u1 : Tok} {tx : Str} {tt : Tok} (K : Dk L d) (N : News h₀ L s.heap (TL L d (listOf (List.toArray dvs) dn) o1 o2 o3 o4 o5 o6 o7 o8 o9 ps1 ps2 rest)) (hx : ExTab 426 qEx ps1 rest) (hO : LOff L d rest) (hT : tx.length < 100) (h1 : (one, tupO [.int a0 t0, .int a1 t1]) ∈ rest) (h2 : (other, tupO [.int b0 u0, .int b1 u1]) ∈ rest)
    (l1 : 0 ≤ a0 ∧ a0 < a1 ∧ a1 ≤ tx.length) (l2 : 0 ≤ b0 ∧ b0 < b1 ∧ b1 ≤ tx.length)
    (B : Below A₀ base outer h₀) (F : Fr h₀ L s.heap m) (X : (hd.heap_1 w.params).In h₀) (T : Top p loose mean mg mb h₀) (hk : cs'.kind = .function) (hd : dp + 6 < recursionLimit) (hu : un + 8 * 6 < cLine)
    (h : ∀ r ps1' own h' tk', Fr h₀ L h' m → News h₀ L h' (TL L d (listOf (List.toArray dvs) dn) o1 o2 o3 o4 o5 o6 o7 o8 o9 ps1' ps2 (own ++ rest)) → ExOut (exS tx a0 a1 b0 b1) r → LOff L d (own ++ rest) → ExTab 426 qEx ps1' (own ++ rest) → Q r { s with heap := h', toks := tk' }) :
    wpAny (model PySem.Challenge.rw_np0052_01.row.prog w) (ktrTop dp un gd cn cs' L a ccd cl outer) (call (.ref 431) [.str tx tt, .ref one, .ref other]) Q E s := by
  refine use (newsub N TL.turn) (c_ex (others := TG L d (listOf (List.toArray dvs) dn) o1 o2 o3 o4 o5 o6 o7 o8 o9 ps2 ++ rest) (rest := rest) (fun q hq => (List.mem_append.mp hq).elim (TG.ne K) (hO.t1 q)) hx (fun q hq => List.mem_append_right _ hq) tx hT tt (List.mem_append_right _ h1) (List.mem_append_right _ h2) l1 l2) B F X T hk hd hu fun r nw h' tk' F' N' x9 => ex_2_4 x9 fun ps' own x1 e hof hf => ?_
  subst e
  exact h r ps' own h' tk' F' (newsub N' TL.unturn) hf ((LOff.of_own hof).app hO) x1
end
end
section
section
variable {prog : Program} {w : World} {A : Around} {E : Value → Shared → Prop} {s : Shared} {env : Env} {h₀ : Heap} {x : Str} {body : List Stmt} {Q : Flow → Shared → Prop}
theorem iter_tupJ {D : Addr} {items : List Value} {m₀ : Str → Option Value} {news nx₀ : Led} (hh : A.handled = none) (hm : (D, tupO items) ∈ news) (F : Fr h₀ env.locals s.heap m₀) (N : News h₀ env.locals s.heap news) (hs : ∀ p ∈ nx₀, p ∈ news)
    (J : Nat → (Str → Option Value) → Led → Prop) (h0 : J 0 m₀ nx₀)
    (turn : ∀ i v m₁ nx I h₁ tk₁ own, items[i]? = some v → J i m₁ nx → (∀ p ∈ nx, p.1 ≠ I) → (∀ p ∈ own, p.1 = I ∨ p.1 = D) → (∃ oI, (I, oI) ∈ own) → Fr h₀ env.locals h₁ (fun y => if y = x then some v else m₁ y) → News h₀ env.locals h₁ (own ++ nx) →
      wpAny (model prog w) A (execs body env) (LoopStepV h₀ env.locals [I] own (J (i + 1)) { s with heap := h₁, toks := tk₁ } (fun v s' => Q (.ret v) s') fun s' => Q .next s') E { heap := h₁, gens := s.gens, drawn := s.drawn, toks := tk₁, os := s.os })
    (done : ∀ h' tk m' nx, Fr h₀ env.locals h' m' → News h₀ env.locals h' nx → J items.length m' nx → Q .next { heap := h', gens := s.gens, drawn := s.drawn, toks := tk, os := s.os }) :
    wpAny (model prog w) A (pyIter (.ref D)) (fun it s₂ => LoopAtV prog w A h₀ env x body Q E it s₂) E s := by
  have ht : s.heap.IsTuple D items.toArray := News.isTup N hm
  have hne : D ≠ s.heap.objs.size := Nat.ne_of_lt (Heap.lt_size (N _ hm).1)
  refine wpAny_pyIter_tuple ht ?_
  refine ⟨s.heap.objs.size, _, [s.heap.objs.size], items.toArray.size, _, _, m₀, nx₀, J, rfl, Walks.tuple hh s.heap.objs.size D hne items.toArray, ?_, ?_, ?_, ?_, F.push _, fun p hp => ⟨Heap.get?_push_of_some _ (N p (hs p hp)).1, (N p (hs p hp)).2⟩, h0, ?_, ?_⟩
  · intro hI
    rcases List.mem_cons.mp hI with e | hI
    · exact absurd F.ns.lt (e ▸ Nat.lt_irrefl _)
    · exact absurd (List.mem_singleton.mp hI).symm (N _ hm).2.1
  · intro c hc
    rw [List.mem_singleton.mp hc]
    exact next_is_new F
  · intro p hp hI
    exact absurd (Heap.lt_size (N p (hs p hp)).1) ((List.mem_singleton.mp hI) ▸ Nat.lt_irrefl _)
  · exact ⟨⟨_, Heap.get?_push_size _ rfl, rfl, rfl⟩, ht.at fun o e => Heap.get?_push_of_some _ e⟩
  · intro i v m₁ news₁ s₁ own p9_6 hin hP hJ hoff hown _ hhid hst F₁ N₁
    refine genP fun C9 k9 => ?_
    refine ex_2_1 (p9_6) ?_
    try clear p9_6
    intro hh' tk' e9_2
    subst e9_2
    refine k9 ?_
    clear k9 C9
    refine ex_1_2 (hst.1) ?_
    intro oI hoI _
    exact turn i v m₁ news₁ s.heap.objs.size hh' tk' own (by simpa using hP) hJ (fun p hp e => hoff p hp (e ▸ .head _)) (fun p hp => by simpa using hown p hp) ⟨oI, hhid _ (.head _) (next_is_new F) _ hoI⟩ F₁ N₁
  · rintro h' tk m' news' F' N' _ hJ
    exact done h' tk m' news' F' N' (by simpa using hJ)
theorem iter_rangeK {r : Addr} {b : Nat} {t u v : Tok} {m₀ : Str → Option Value} {news nx₀ : Led} (hh : A.handled = none) (hr : IsRange s.heap r 0 (b : Int) 1 t u v) (hb : b < 1000) (F : Fr h₀ env.locals s.heap m₀) (N : News h₀ env.locals s.heap news) (hs : ∀ p ∈ nx₀, p ∈ news)
    (J : Nat → (Str → Option Value) → Led → Prop) (h0 : J 0 m₀ nx₀)
    (turn : ∀ i v m₁ nx I h₁ tk₁ own, i < b → J i m₁ nx → (∀ p ∈ nx, p.1 ≠ I) → (∀ p ∈ own, p.1 = I) → (∃ oI x y, (I, oI) ∈ own ∧ IsRangeIter h₁ I x y 1 ∧ h₁.get? I = some oI) → Fr h₀ env.locals h₁ (fun y => if y = x then some v else m₁ y) → News h₀ env.locals h₁ (own ++ nx) →
      wpAny (model prog w) A (execs body env) (LoopStepV h₀ env.locals [I] own (J (i + 1)) { s with heap := h₁, toks := tk₁ } (fun v s' => Q (.ret v) s') fun s' => Q .next s') E { heap := h₁, gens := s.gens, drawn := s.drawn, toks := tk₁, os := s.os })
    (done : ∀ h' tk m' nx, Fr h₀ env.locals h' m' → News h₀ env.locals h' nx → J b m' nx → Q .next { heap := h', gens := s.gens, drawn := s.drawn, toks := tk, os := s.os }) :
    wpAny (model prog w) A (pyIter (.ref r)) (fun it s₂ => LoopAtV prog w A h₀ env x body Q E it s₂) E s := by
  refine wpAny_pyIter_range hr (small_one (by with_reducible_and_instances decide) (by with_reducible_and_instances decide) (by (clear hb hs turn done; lia)) (by (clear hs turn done; lia))) ?_
  have hn : Builtin.Range.rangeSize 0 (b : Int) 1 = ((b : Nat) : Int) := by
    have := rangeSize_nat 0 (b : Int)
    rwa [show ((b : Int) - 0).toNat = b by (clear hb hs turn done this; lia)] at this
  refine ⟨s.heap.objs.size, [s.heap.objs.size], [s.heap.objs.size], b, _, _, m₀, nx₀, J, rfl, LCg.range_walks hh 0 b, ?_, ?_, ?_, ?_, F.push _, fun p hp => ⟨Heap.get?_push_of_some _ (N p (hs p hp)).1, (N p (hs p hp)).2⟩, h0, ?_, ?_⟩
  · intro hm
    exact absurd F.ns.lt ((List.mem_singleton.mp hm) ▸ Nat.lt_irrefl _)
  · intro c hc
    rw [List.mem_singleton.mp hc]
    exact next_is_new F
  · intro p hp hI
    exact absurd (Heap.lt_size (N p (hs p hp)).1) ((List.mem_singleton.mp hI) ▸ Nat.lt_irrefl _)
  · show IsRangeIter _ _ _ _ _
    rw [hn]
    simpa using Heap.get?_push_size _ rfl
  · intro i v m₁ news₁ s₁ own p9_6 hin hP hJ hoff hown _ hhid hst F₁ N₁
    refine genP fun C9 k9 => ?_
    refine ex_2_1 (p9_6) ?_
    try clear p9_6
    intro hh' tk' e9_2
    subst e9_2
    refine k9 ?_
    clear k9 C9
    have hst' := hst
    have hoI : hh'.get? s.heap.objs.size = some _ := hst'
    exact turn i v m₁ news₁ s.heap.objs.size hh' tk' own hin hJ (fun p hp e => hoff p hp (e ▸ .head _)) (fun p hp => List.mem_singleton.mp (hown p hp)) ⟨_, _, _, hhid _ (.head _) (next_is_new F) _ hoI, hst, hoI⟩ F₁ N₁
  · rintro h' tk m' news' F' N' _ hJ
    exact done h' tk m' news' F' N' hJ
end
end
section
theorem execs_seq' {M : Model} {Γ : Ctx} {env : Env} {b : List Stmt} {Q : Flow → Pos → Shared → Prop} {E : Value → Pos → Shared → Prop} : ∀ (a : List Stmt) (p : Pos) (s : Shared),
    Sem.wp M Γ (execs a env) (fun fl p' s' => fl = .next ∧ Sem.wp M Γ (execs b env) Q E p' s') E p s → Sem.wp M Γ (execs (a ++ b) env) Q E p s
  | [], p, s, h => by
    rw [execs_nil, Sem.wp_pure'] at h
    exact h.2
  | st :: a, p, s, h => by
    rw [execs_cons, Sem.wp_bind'] at h
    rw [List.cons_append, execs_cons, Sem.wp_bind']
    refine Sem.wp_mono M Γ _ (fun f p' s' h' => ?_) (fun _ _ _ e => e) _ _ h
    cases f with
    | next => exact execs_seq' a p' s' h'
    | _ =>
      dsimp only at h'
      rw [Sem.wp_pure'] at h'
      exact nomatch h'.1
theorem execs_seq {M : Model} {A : Around} {env : Env} {a b : List Stmt} {Q : Flow → Shared → Prop} {E : Value → Shared → Prop} {s : Shared} (h : wpAny M A (execs a env) (fun fl s' => fl = .next ∧ wpAny M A (execs b env) Q E s') E s) : wpAny M A (execs (a ++ b) env) Q E s :=
  fun Γ p hΓ => execs_seq' a p s (Sem.wp_mono M Γ _ (fun _ p' _ x => ⟨x.1, x.2 Γ p' hΓ⟩) (fun _ _ _ e => e) _ _ (h Γ p hΓ))
theorem SegEnd.from {g : Heap} {L : Addr} {s : Shared} {post : (Str → Option Value) → Led → Prop} {h : Heap} {t : Nat} {fl : Flow} {s' : Shared} (x : SegEnd g L { s with heap := h, toks := t } post fl s') : SegEnd g L s post fl s' := by
  refine genP fun C9 k9 => ?_
  obtain ⟨e, m', nx', h', tk', rfl, F, N, r⟩ := x
  refine k9 ?_
  clear k9 C9
  exact ⟨e, m', nx', h', tk', rfl, F, N, r⟩
section
variable {M : Model} {A : Around} {env : Env} {a b : List Stmt} {st : Stmt} {g : Heap} {L : Addr} {s : Shared} {post post2 : (Str → Option Value) → Led → Prop}
theorem seg_then (h1 : wpAny M A (execs a env) (SegEnd g L s post) (fun _ _ => False) s)
    (h2 : ∀ m' nx' h' tk', Fr g L h' m' → News g L h' nx' → post m' nx' → wpAny M A (execs b env) (SegEnd g L { s with heap := h', toks := tk' } post2) (fun _ _ => False) { s with heap := h', toks := tk' }) : wpAny M A (execs (a ++ b) env) (SegEnd g L s post2) (fun _ _ => False) s := by
  refine execs_seq (wpAny_mono h1 (fun fl s' x => ?_) fun _ _ e => e)
  refine genP fun C9 k9 => ?_
  obtain ⟨e, m', nx', h', tk', rfl, F, N, r⟩ := x
  refine k9 ?_
  clear k9 C9
  exact ⟨e, wpAny_mono (h2 m' nx' h' tk' F N r) (fun _ _ y => y.from) fun _ _ e => e⟩
theorem seg_then1 (h1 : wpAny M A (exec st env) (SegEnd g L s post) (fun _ _ => False) s)
    (h2 : ∀ m' nx' h' tk', Fr g L h' m' → News g L h' nx' → post m' nx' → wpAny M A (execs b env) (SegEnd g L { s with heap := h', toks := tk' } post2) (fun _ _ => False) { s with heap := h', toks := tk' }) : wpAny M A (execs (st :: b) env) (SegEnd g L s post2) (fun _ _ => False) s := by
  refine wpAny_execs_cons (wpAny_mono h1 (fun fl s' x => ?_) fun _ _ e => e)
  refine genP fun C9 k9 => ?_
  obtain ⟨rfl, m', nx', h', tk', rfl, F, N, r⟩ := x
  refine k9 ?_
  clear k9 C9
  exact wpAny_mono (h2 m' nx' h' tk' F N r) (fun _ _ y => y.from) fun _ _ e => e
end
end
section
variable {w : World} {news : Led}
theorem c_row1 {lc : Addr} {vs : List Value} {cs : List Int} {n : Nat} (hm : (lc, listOf (List.toArray vs) n) ∈ news) (hi : IntsAre vs cs) (hl : cs.length < 100) :
    Ctr w 334 3 [.ref lc] news (fun r nw => ∃ v own, r = .ref v ∧ nw = own ++ news ∧ ViewAt own v cs 1 ∧ ∀ p ∈ own, ∀ q ∈ news, q.1 ≠ p.1) := by
  intro p loose mean mg mb dp un gd cn cs' a ccd cl outer A₀ base h₀ L m s Q E B F X N T hk hd hu hret
  refine' call_cls ?k1 ?k2 ?k3 ?k4 ?k5 ?k6 ?_
  (case k1 => k_asm); (case k2 => k_asm); (case k3 => k_asm); (case k4 => k_is); (case k5 => k_is); (case k6 => k_is)
  intro x' d' h' F' N' l1 l2; (try k_lt l1); (try k_lt2 l2); (try k_sweep); (try dsimp only)
  try clear F
  try clear N
  refine' code_def ?k1 ?k2 ?k3 ?k4 ?k5 ?kA ?kF ?kK ?k6 ?k7 ?k8 ?k9 ?kB ?_ ?c2 ?c3 ?c4 ?c5
  (case kA => exact rfl); (case kF => exact rfl); (case kK => exact hk); (case k1 => k_asm); (case k2 => k_asm); (case k3 => k_asm); (case k4 => k_asm); (case k5 => k_asm); (case k6 => k_is); (case k7 => k_is); (case k8 => k_room)
  (case k9 => first | exact BindsTo.of_eq rfl | exact binds_K (by k_in) rfl (by k_is) rfl rfl rfl)
  (case c5 => decide); (case kB => exact locs rfl); (case c2 => exact rfl); (case c3 => exact rfl); (case c4 => exact rfl)
  intro g' L' h' FG' F' N' B' X' T'; (try dsimp only); (try k_lift B'); (try k_fold)
  walk_at "steps"
  rename News h₀ L _ ((_, listOf _ _) :: (_, instObj 334 _) :: _) => N9
  rename _ ∧ _ ∧ AllLt _ news => lo
  refine ex_1_3 (row_view N9 hi hl (by decide) l1 l2 lo) ?_
  intro own N8 V ho
  exact hret _ _ _ _ (by assumption) N8 ⟨_, own, rfl, rfl, V, ho⟩
end
section
theorem TF.ne_any {L d I : Addr} {dk o1 o2 o3 o4 o5 o6 o7 o8 o9 dk' p1 p2 p3 p4 p5 p6 p7 p8 p9 : Obj} {ps1 ps2 qs1 qs2 : Array Value} (h : ∀ q ∈ TF L d dk o1 o2 o3 o4 o5 o6 o7 o8 o9 ps1 ps2, q.1 ≠ I) : ∀ q ∈ TF L d dk' p1 p2 p3 p4 p5 p6 p7 p8 p9 qs1 qs2, q.1 ≠ I := fun q hq => by
  have e : (TF L d dk' p1 p2 p3 p4 p5 p6 p7 p8 p9 qs1 qs2).map (·.1) = (TF L d dk o1 o2 o3 o4 o5 o6 o7 o8 o9 ps1 ps2).map (·.1) := rfl
  have h1 := List.mem_map_of_mem (f := fun x : Addr × Obj => x.1) hq
  rw [e] at h1
  refine ex_1_2 (List.mem_map.mp h1) ?_
  intro q0 h2 h3
  rw [← h3]
  exact h q0 h2
inductive LawJ (w : World) (L d tb : Addr) (m : Str → Option Value) : Led → Prop where
  | of {dvs : List Value} {dns : List Int} {dn : Nat} {ps1 ps2 : Array Value} {o1 o2 o3 o4 o5 o6 o7 o8 o9 : Obj} {core : Led} {v1 v3 v4 v5 v6 v7 v8 v9 : Option Value} (i1 : IntsAre dvs dns) (k1 : DeckOk dns) (z1 : dns.length < 100)
    (e1 : o1.data = .cell v1) (e2 : o2.data = .cell (some (.ref tb))) (e3 : o3.data = .cell v3) (e4 : o4.data = .cell v4) (e5 : o5.data = .cell v5) (e6 : o6.data = .cell v6) (e7 : o7.data = .cell v7) (e8 : o8.data = .cell v8) (e9 : o9.data = .cell v9)
    (x1 : ExTab 426 qEx ps1 core) (x2 : ExTab 445 qL ps2 core) (hT : TabW w core tb) (hO : LOff L d core) (hm : m "_law_deck" = some (.ref d)) : LawJ w L d tb m (TL L d (listOf (List.toArray dvs) dn) o1 o2 o3 o4 o5 o6 o7 o8 o9 ps1 ps2 core)
theorem LawJ.open {w : World} {L d tb : Addr} {m : Str → Option Value} {nx : Led} {P : Prop} (J : LawJ w L d tb m nx)
    (k : ∀ dvs dns dn ps1 ps2 o1 o2 o3 o4 o5 o6 o7 o8 o9 core v1 v3 v4 v5 v6 v7 v8 v9, nx = TL L d (listOf (List.toArray dvs) dn) o1 o2 o3 o4 o5 o6 o7 o8 o9 ps1 ps2 core → IntsAre dvs dns → DeckOk dns → dns.length < 100 → o1.data = .cell v1 → o2.data = .cell (some (.ref tb)) → o3.data = .cell v3 → o4.data = .cell v4 → o5.data = .cell v5 → o6.data = .cell v6 → o7.data = .cell v7 → o8.data = .cell v8 → o9.data = .cell v9 →
      ExTab 426 qEx ps1 core → ExTab 445 qL ps2 core → TabW w core tb → LOff L d core → m "_law_deck" = some (.ref d) → P) : P := by
  cases J with | of i1 k1 z1 e1 e2 e3 e4 e5 e6 e7 e8 e9 x1 x2 hT hO hm =>
  exact k _ _ _ _ _ _ _ _ _ _ _ _ _ _ _ _ _ _ _ _ _ _ _ rfl i1 k1 z1 e1 e2 e3 e4 e5 e6 e7 e8 e9 x1 x2 hT hO hm
theorem ExTab.filter {g h : Heap} {L P I : Addr} {q : Str} {ps : Array Value} {rest nx : Led} {oI : Obj} {x y : Int} (N : News g L h nx) (hs : ∀ p ∈ rest, p ∈ nx) (hI : (I, oI) ∈ nx) (ho : oI.data = .fields #[rawInt x, rawInt y, rawInt 1]) (X : ExTab P q ps rest) : ExTab P q ps (rest.filter fun p => decide (p.1 ≠ I)) :=
  ⟨X.trip, fun pos cv e => by
    refine ex_4_4 (X.at_ pos cv e) ?_
    intro c' oc vs t a b c dd
    refine ⟨c', oc, vs, t, a, List.mem_filter.mpr ⟨b, decide_eq_true fun e' => ?_⟩, c, dd⟩
    have h1 := (N _ (hs _ b)).1
    have h2 := (N _ hI).1
    dsimp only at h1 h2 e'
    rw [e'] at h1
    have h3 := Option.some.inj (h1.symm.trans h2)
    rw [h3, ho] at c
    have h4 : (#[rawInt x, rawInt y, rawInt 1] : Array Value) = vs := Data.fields.inj c
    rw [← h4] at dd
    exact nomatch dd⟩
theorem LawJ.next {w : World} {L d tb I : Addr} {g h h₁ : Heap} {tk : Nat} {m : Str → Option Value} {nx own core : Led} {oI : Obj} {x y : Int} {vw lz : Addr} {wz : List Value} {cz : List Int} {first : Int} {at_ : Nat} {cM cC cL cK : Option Value} {cF : Option Addr} {s₁ : Shared} {dk o1 o2 o3 o4 o5 o6 o7 o8 o9 : Obj} {ps1 ps2 : Array Value}
    (F : Fr g L h m) (N : News g L h nx) (S : St w L d tb vw lz wz (own ++ core) cz first at_ cM cC cL cK cF m nx) (hI : ∀ p ∈ TL L d dk o1 o2 o3 o4 o5 o6 o7 o8 o9 ps1 ps2 core, p.1 ≠ I) (hown : ∀ p ∈ own, p.1 = I) (hoI : (I, oI) ∈ own) (hit : IsRangeIter h₁ I x y 1) (hg : h₁.get? I = some oI) (hT : TabW w core tb) :
    LoopStepU g L [I] own (LawJ w L d tb) s₁ .next { s₁ with heap := h, toks := tk } := by
  refine S.open N ?_
  clear S N
  intro dvs dns dn qs1 qs2 p1 p2 p3 p4 p5 p6 p7 p8 p9 rest tf ta tt N i1 k1 z1 e1 e2 e3 e4 e5 e6 e7 e8 e9 R Nn _ hdk _
  have hod : oI.data = .fields #[rawInt x, rawInt y, rawInt 1] := by
    have := Option.some.inj (hg.symm.trans hit)
    rw [this]
  have hIn : (I, oI) ∈ TL L d (listOf (List.toArray dvs) dn) p1 p2 p3 p4 p5 p6 p7 p8 p9 qs1 qs2 rest := TL.back (R.hk _ (List.mem_append_left _ hoI))
  have hsub : ∀ p ∈ rest.filter (fun p => decide (p.1 ≠ I)), p ∈ rest := fun p hp => (List.mem_filter.mp hp).1
  obtain ⟨v3, d3⟩ := e3.cl
  obtain ⟨v4, d4⟩ := e4.cl
  obtain ⟨v5, d5⟩ := e5.cl
  obtain ⟨v6, d6⟩ := e6.cl
  obtain ⟨v8, d8⟩ := e8.cl
  refine LoopStepU.intro F (news₂ := TL L d (listOf (List.toArray dvs) dn) p1 p2 p3 p4 p5 p6 p7 p8 p9 qs1 qs2 (rest.filter fun p => decide (p.1 ≠ I))) (newsub N fun p hp => ?_) (fun p hp hpI => ?_) (LawJ.of i1 k1 z1 e1 e2 d3 d4 d5 d6 e7 d8 e9 (R.x1.filter N (fun p hp => TL.back hp) hIn hod) (R.x2.filter N (fun p hp => TL.back hp) hIn hod) (hT.mono fun p hp => List.mem_filter.mpr ⟨R.hk p (List.mem_append_right _ hp), decide_eq_true (hI p (TL.back hp))⟩) (R.off.sub hsub) hdk)
  · rcases List.mem_append.mp hp with q | q
    · exact TL.back (R.hk p (List.mem_append_left _ q))
    · exact TL.sub hsub p q
  · have hpI := List.mem_singleton.mp hpI
    rcases TL.cases hp with q | q
    · exact TF.ne_any (fun x hx => hI x (TL.front hx)) p q hpI
    · exact of_decide_eq_true (List.mem_filter.mp q).2 hpI
end
section
local macro_rules | `(tactic| walk_at "call ref") => `(tactic| walk_at "st")
variable {w : World} {p : Program} {loose : List Str} {mean : ExcName → Option Value} {mg mb : Str → Option Value} {dp un : Nat} {gd : Option (List Code)} {A₀ : Around} {base g : Heap} {L : Addr} {s : Shared}
    {name qual : Str} {params : Arguments} {body : List Stmt} {scope : Scope} {dV kV doc pm cdv ct oc : Value} {an od : Option Addr} {osl : Array (Option Value)}
    (ho : (hd.heap_1 w.params).lookup 448 = some ⟨oc, od, .func (fnOf name qual params body scope dV kV doc pm an cdv ct), osl⟩) {tgt it : Expr} {turn els : List Stmt} {pos : Pos} (hb : body[1]? = some (.For tgt it turn els pos))
    {m : Str → Option Value} {d lz vw tb : Addr} {wz : List Value} {kp : Led} {cz : List Int} {first : Int} {at_ : Nat} {nx : Led} (P : Tf L d cz first at_)
    (B : Below A₀ base [] g) (F : Fr g L s.heap m) (X : (hd.heap_1 w.params).In g) (T : Top p loose mean mg mb g) (hd : dp + 30 < recursionLimit) (hu : un + 300 < cLine) (C2 : CodeHd g 447 445) (N : News g L s.heap nx)
section
include ho hb P B F X T hd hu C2 N in
theorem seg_chars_int {st : Stmt} (hst : turn[4]? = some st) {cC cL cK : Option Value} {cF : Option Addr} {many : Int} {tm : Tok} (hm : -2 ≤ many ∧ many ≤ 2 ∧ many ≠ 0) (S : St w L d tb vw lz wz kp cz first at_ (some (.int many tm)) cC cL cK cF m nx) :
    wpAny (model PySem.Challenge.rw_np0052_01.row.prog w) (ktrTop dp un gd qual scope L 448 (.ref 447) (cellsFrom (L + 1) scope.names []) []) (exec st (envX qual scope L 448 (.ref 447) (cellsFrom (L + 1) scope.names [])))
      (SegEnd g L s fun m' nx' => St w L d tb vw lz wz kp cz first at_ (some (.int many tm)) cC cL cK cF m' nx') (fun _ _ => False) s := by
  refine genQ fun Q hQ => ?_
  have hK := P.dk
  revert hQ
  refine S.open N ?_
  clear S N
  intro dvs dns dn ps1 ps2 o1 o2 o3 o4 o5 o6 o7 o8 o9 rest tf ta tt N i1 k1 z1 e1 e2 e3 e4 e5 e6 e7 e8 e9 R Nn htx hdk hcd hQ
  have hO := R.off
  have e5' : o5.data = .cell (some (.int many tm)) := e5
  have e := ho.symm.trans (by k_is : _ = some _)
  clear ho
  revert hst hb
  apply obj_elim e
  clear e
  intro hb
  apply for_elim hb
  clear hb
  intro hst
  apply st_elim hst
  clear hst
  try dsimp only
  try k_fold
  have u0 : Unit := ()
  have u1 : Unit := ()
  have u2 : Unit := ()
  have u3 : Unit := ()
  have u4 : Unit := ()
  have u5 : Unit := ()
  have u6 : Unit := ()
  have u7 : Unit := ()
  revert P B F X T hd hu C2 hm hK N i1 k1 z1 e1 e2 e3 e4 e5 e6 e7 e8 e9 R Nn htx hdk hcd hQ hO e5'
  revert w p loose mean mg mb dp un gd A₀ base g L s m d lz vw tb wz kp cz first at_ nx cC cL cK cF many tm Q dvs dns dn ps1 ps2 o1 o2 o3 o4 o5 o6 o7 o8 o9 rest tf ta tt u0 u1 u2 u3 u4 u5 u6 u7
  refine @pk58 _ _ _ _ _ _ _ _ _ _ _ _ _ _ _ _ _ _ _ _ _ _ _ _ _ _ _ _ _ _ _ _ _ _ _ _ _ _ _ _ _ _ _ _ _ _ _ _ _ _ _ _ _ _ _ _ _ _ _ (ne2 (ne2 neW (ne2 nei (ne2 nei (ne2 nei (ne2 nei (ne2 nei (ne2 nei nei))))))) (ne2 (ne2 nei (ne2 neA (ne2 nei (ne2 nei (ne2 nei (ne2 neS (ne2 nei nei))))))) (ne2 (ne2 nei (ne2 nei (ne2 nei (ne2 nei (ne2 nei (ne2 nei (ne2 nei nei))))))) (ne2 (ne2 nei (ne2 nei (ne2 nei (ne2 nei (ne2 nei (ne2 nei (ne2 nei nei))))))) (ne2 (ne2 nei (ne2 nei (ne2 nei (ne2 nei (ne2 nei (ne2 nei (ne2 nei nei))))))) (ne2 (ne2 nei (ne2 nei (ne2 nei (ne2 nei (ne2 nei (ne2 nei (ne2 nei nei))))))) (ne2 (ne2 nei (ne2 nei (ne2 nei (ne2 nei (ne2 nei (ne2 nei (ne2 nei nei))))))) (ne2 nei nei)))))))) ?_
  intro P9 e9
  generalize wk58 _ _ = q
  generalize q.1 = q0, q.2.1 = q1, q.2.2.1 = q2, q.2.2.2.1 = q3, q.2.2.2.2.1 = q4, q.2.2.2.2.2.1 = q5, q.2.2.2.2.2.2.1 = q6, q.2.2.2.2.2.2.2 = q7
  generalize q0.1 = w, q0.2.1 = p, q0.2.2.1 = loose, q0.2.2.2.1 = mean, q0.2.2.2.2.1 = mg, q0.2.2.2.2.2.1 = mb, q0.2.2.2.2.2.2.1 = dp, q0.2.2.2.2.2.2.2 = un
  generalize q1.1 = gd, q1.2.1 = A₀, q1.2.2.1 = base, q1.2.2.2.1 = g, q1.2.2.2.2.1 = L, q1.2.2.2.2.2.1 = s, q1.2.2.2.2.2.2.1 = m, q1.2.2.2.2.2.2.2 = d
  generalize q2.1 = lz, q2.2.1 = vw, q2.2.2.1 = tb, q2.2.2.2.1 = wz, q2.2.2.2.2.1 = kp, q2.2.2.2.2.2.1 = cz, q2.2.2.2.2.2.2.1 = first, q2.2.2.2.2.2.2.2 = at_
  generalize q3.1 = nx, q3.2.1 = cC, q3.2.2.1 = cL, q3.2.2.2.1 = cK, q3.2.2.2.2.1 = cF, q3.2.2.2.2.2.1 = many, q3.2.2.2.2.2.2.1 = tm, q3.2.2.2.2.2.2.2 = Q
  generalize q4.1 = dvs, q4.2.1 = dns, q4.2.2.1 = dn, q4.2.2.2.1 = ps1, q4.2.2.2.2.1 = ps2, q4.2.2.2.2.2.1 = o1, q4.2.2.2.2.2.2.1 = o2, q4.2.2.2.2.2.2.2 = o3
  generalize q5.1 = o4, q5.2.1 = o5, q5.2.2.1 = o6, q5.2.2.2.1 = o7, q5.2.2.2.2.1 = o8, q5.2.2.2.2.2.1 = o9, q5.2.2.2.2.2.2.1 = rest, q5.2.2.2.2.2.2.2 = tf
  generalize q6.1 = ta, q6.2.1 = tt, q6.2.2.1 = u0, q6.2.2.2.1 = u1, q6.2.2.2.2.1 = u2, q6.2.2.2.2.2.1 = u3, q6.2.2.2.2.2.2.1 = u4, q6.2.2.2.2.2.2.2 = u5
  generalize q7.1 = u6, q7.2 = u7
  clear q q0 q1 q2 q3 q4 q5 q6 q7
  subst e9
  intro P B F X T hd hu C2 hm hK N i1 k1 z1 e1 e2 e3 e4 e5 e6 e7 e8 e9 R Nn htx hdk hcd hQ hO e5'
  clear u0 u1 u2 u3 u4 u5 u6 u7
  walk_at "steps"
  refine Stop.go (law_lam P.dk F N T C2 R.off R.x2 rfl rfl ?_)
  intro f c' ctv oc vs t ps2' own h1 tk1 F1 N1 y1 y2 hc x2' off' offf
  have R1 := R.lam off' x2'
  have V1 := R1.V
  have e3a := e3.mono (rest' := own ++ rest) fun p hp => List.mem_append_right _ hp
  clear F N R e3
  generalize own ++ rest = rest1 at *
  have TD := told_E (w := w) (k := 8) (first := first) (O := unitsE (charF cz.length) cz at_ many) N1 (TL.back hc) y1 y2 rfl rfl rfl rfl (by decide) (by
    clear B F1 X T hd hu
    intro p loose mean mg mb dp un gd outer A₀ base g L0 s B F X N T hd hu
    walk_at "steps"
    refine Stop.go (useX N (c_ce_int (R1.V.mono fun p hp => .tail _ (TL.back hp)) at_ P.at_le _ many rfl hm _ _) B F X T rfl (by first | exact room_le hd (by decide) | omega) (by first | exact unit_le hu (by decide) | exact unit_le2 hu (by decide) | omega) (fun _ y => y) (fun _ h => h) (fun _ _ => rfl) ?_)
    rintro r nw h' tk' F' N' R'
    clear F N
    walk_at "steps"
    exact ends (by assumption) (by assumption) R')
  walk_at "steps"
  have hl := P.len
  have Z : Cl o1 o2 o3 o4 o5 o6 o7 o8 o9 := ⟨⟨_, e1⟩, ⟨_, e2⟩, e3a.cl, e4.cl, e5.cl, e6.cl, ⟨_, e7⟩, e8.cl, ⟨_, e9⟩⟩
  refine Stop.go (use_told N1 TD (by rw [txt_len]; with_reducible_and_instances exact Nat.lt_of_lt_of_le hl (by decide)) (by rw [txt_len]; exact units_ok P.ok hl (fun _ _ _ h _ => charF_le h) at_ P.at_le many first) Z off' B F1 X T rfl (by first | exact room_le hd (by decide) | omega) (by first | exact unit_le hu (by decide) | exact unit_le2 hu (by decide) | omega) ?_)
  intro r front h2 tk2 F2 N2 q2 off2
  rw [chars_res at_ P.at_le many hm.2.2 first] at q2
  have R2 := R1.app off2
  have e3b := e3a.mono (rest' := front ++ rest1) fun p hp => List.mem_append_right _ hp
  have Z : Cl o1 o2 o3 o4 o5 o6 o7 o8 o9 := Z
  clear F1 N1 R1 TD offf hc e3a
  generalize front ++ rest1 = rest2 at *
  walk_at "steps"
  have hz := P.at_le
  refine Stop.go (use_res N2 (c_lbc (txt cz) (by rw [txt_len]; with_reducible_and_instances exact Nat.lt_of_lt_of_le hl (by decide)) at_ (by rw [txt_len]; (clear hd hu hm z1 hl; lia)) tt _ _ many hm) Z off2 B F2 X T rfl (by first | exact room_le hd (by decide) | omega) (by first | exact unit_le hu (by decide) | exact unit_le2 hu (by decide) | omega) ?_)
  intro r' front' h3 tk3 F3 N3 q3 off3
  have q2' := q2.mono (nx' := front' ++ rest2) fun p hp => List.mem_append_right _ hp
  have R3 := R2.app off3
  have e3c := e3b.mono (rest' := front' ++ rest2) fun p hp => List.mem_append_right _ hp
  clear F2 N2 q2 R2 off2 e3b
  generalize front' ++ rest2 = rest3 at *
  walk_at "steps"
  refine Stop.go (ne_res N3 q2' q3 (fun p hp => TL.back hp) (fun p hp => TL.back hp) (u64 hu) ?_)
  walk_at "steps"
  subst hQ; exact seg_end F3 N3 (St.of i1 k1 z1 e1 e2 e3c e4 e5 e6 e7 e8 e9 R3 Nn)
end
section
include ho hb P B F X T hd hu C2 N in
theorem seg_chars_none {st : Stmt} (hst : turn[4]? = some st) {cC cL cK : Option Value} {cF : Option Addr} (S : St w L d tb vw lz wz kp cz first at_ (some .none) cC cL cK cF m nx) :
    wpAny (model PySem.Challenge.rw_np0052_01.row.prog w) (ktrTop dp un gd qual scope L 448 (.ref 447) (cellsFrom (L + 1) scope.names []) []) (exec st (envX qual scope L 448 (.ref 447) (cellsFrom (L + 1) scope.names [])))
      (SegEnd g L s fun m' nx' => St w L d tb vw lz wz kp cz first at_ (some .none) cC cL cK cF m' nx') (fun _ _ => False) s := by
  refine genQ fun Q hQ => ?_
  have hK := P.dk
  revert hQ
  refine S.open N ?_
  clear S N
  intro dvs dns dn ps1 ps2 o1 o2 o3 o4 o5 o6 o7 o8 o9 rest tf ta tt N i1 k1 z1 e1 e2 e3 e4 e5 e6 e7 e8 e9 R Nn htx hdk hcd hQ
  have hO := R.off
  have e5' : o5.data = .cell (some .none) := e5
  have e := ho.symm.trans (by k_is : _ = some _)
  clear ho
  revert hst hb
  apply obj_elim e
  clear e
  intro hb
  apply for_elim hb
  clear hb
  intro hst
  apply st_elim hst
  clear hst
  try dsimp only
  try k_fold
  have u0 : Unit := ()
  have u1 : Unit := ()
  have u2 : Unit := ()
  have u3 : Unit := ()
  have u4 : Unit := ()
  have u5 : Unit := ()
  have u6 : Unit := ()
  have u7 : Unit := ()
  have u8 : Unit := ()
  have u9 : Unit := ()
  revert P B F X T hd hu C2 hK N i1 k1 z1 e1 e2 e3 e4 e5 e6 e7 e8 e9 R Nn htx hdk hcd hQ hO e5'
  revert w p loose mean mg mb dp un gd A₀ base g L s m d lz vw tb wz kp cz first at_ nx cC cL cK cF Q dvs dns dn ps1 ps2 o1 o2 o3 o4 o5 o6 o7 o8 o9 rest tf ta tt u0 u1 u2 u3 u4 u5 u6 u7 u8 u9
  refine @pk58 _ _ _ _ _ _ _ _ _ _ _ _ _ _ _ _ _ _ _ _ _ _ _ _ _ _ _ _ _ _ _ _ _ _ _ _ _ _ _ _ _ _ _ _ _ _ _ _ _ _ _ _ _ _ _ _ _ _ _ (ne2 (ne2 neW (ne2 nei (ne2 nei (ne2 nei (ne2 nei (ne2 nei (ne2 nei nei))))))) (ne2 (ne2 nei (ne2 neA (ne2 nei (ne2 nei (ne2 nei (ne2 neS (ne2 nei nei))))))) (ne2 (ne2 nei (ne2 nei (ne2 nei (ne2 nei (ne2 nei (ne2 nei (ne2 nei nei))))))) (ne2 (ne2 nei (ne2 nei (ne2 nei (ne2 nei (ne2 nei (ne2 nei (ne2 nei nei))))))) (ne2 (ne2 nei (ne2 nei (ne2 nei (ne2 nei (ne2 nei (ne2 nei (ne2 nei nei))))))) (ne2 (ne2 nei (ne2 nei (ne2 nei (ne2 nei (ne2 nei (ne2 nei (ne2 nei nei))))))) (ne2 (ne2 nei (ne2 nei (ne2 nei (ne2 nei (ne2 nei (ne2 nei (ne2 nei nei))))))) (ne2 nei nei)))))))) ?_
  intro P9 e9
  generalize wk58 _ _ = q
  generalize q.1 = q0, q.2.1 = q1, q.2.2.1 = q2, q.2.2.2.1 = q3, q.2.2.2.2.1 = q4, q.2.2.2.2.2.1 = q5, q.2.2.2.2.2.2.1 = q6, q.2.2.2.2.2.2.2 = q7
  generalize q0.1 = w, q0.2.1 = p, q0.2.2.1 = loose, q0.2.2.2.1 = mean, q0.2.2.2.2.1 = mg, q0.2.2.2.2.2.1 = mb, q0.2.2.2.2.2.2.1 = dp, q0.2.2.2.2.2.2.2 = un
  generalize q1.1 = gd, q1.2.1 = A₀, q1.2.2.1 = base, q1.2.2.2.1 = g, q1.2.2.2.2.1 = L, q1.2.2.2.2.2.1 = s, q1.2.2.2.2.2.2.1 = m, q1.2.2.2.2.2.2.2 = d
  generalize q2.1 = lz, q2.2.1 = vw, q2.2.2.1 = tb, q2.2.2.2.1 = wz, q2.2.2.2.2.1 = kp, q2.2.2.2.2.2.1 = cz, q2.2.2.2.2.2.2.1 = first, q2.2.2.2.2.2.2.2 = at_
  generalize q3.1 = nx, q3.2.1 = cC, q3.2.2.1 = cL, q3.2.2.2.1 = cK, q3.2.2.2.2.1 = cF, q3.2.2.2.2.2.1 = Q, q3.2.2.2.2.2.2.1 = dvs, q3.2.2.2.2.2.2.2 = dns
  generalize q4.1 = dn, q4.2.1 = ps1, q4.2.2.1 = ps2, q4.2.2.2.1 = o1, q4.2.2.2.2.1 = o2, q4.2.2.2.2.2.1 = o3, q4.2.2.2.2.2.2.1 = o4, q4.2.2.2.2.2.2.2 = o5
  generalize q5.1 = o6, q5.2.1 = o7, q5.2.2.1 = o8, q5.2.2.2.1 = o9, q5.2.2.2.2.1 = rest, q5.2.2.2.2.2.1 = tf, q5.2.2.2.2.2.2.1 = ta, q5.2.2.2.2.2.2.2 = tt
  generalize q6.1 = u0, q6.2.1 = u1, q6.2.2.1 = u2, q6.2.2.2.1 = u3, q6.2.2.2.2.1 = u4, q6.2.2.2.2.2.1 = u5, q6.2.2.2.2.2.2.1 = u6, q6.2.2.2.2.2.2.2 = u7
  generalize q7.1 = u8, q7.2 = u9
  clear q q0 q1 q2 q3 q4 q5 q6 q7
  subst e9
  intro P B F X T hd hu C2 hK N i1 k1 z1 e1 e2 e3 e4 e5 e6 e7 e8 e9 R Nn htx hdk hcd hQ hO e5'
  clear u0 u1 u2 u3 u4 u5 u6 u7 u8 u9
  walk_at "steps"
  refine Stop.go (law_lam P.dk F N T C2 R.off R.x2 rfl rfl ?_)
  intro f c' ctv oc vs t ps2' own h1 tk1 F1 N1 y1 y2 hc x2' off' offf
  have R1 := R.lam off' x2'
  have V1 := R1.V
  have e3a := e3.mono (rest' := own ++ rest) fun p hp => List.mem_append_right _ hp
  clear F N R e3
  generalize own ++ rest = rest1 at *
  have TD := told_E (w := w) (k := 8) (first := first) (O := unitsE (charF cz.length) cz (nlBack cz at_) 1) N1 (TL.back hc) y1 y2 rfl rfl rfl rfl (by decide) (by
    clear B F1 X T hd hu
    intro p loose mean mg mb dp un gd outer A₀ base g L0 s B F X N T hd hu
    walk_at "steps"
    refine Stop.go (useX N (c_ce_none (R1.V.mono fun p hp => .tail _ (TL.back hp)) at_ P.at_le _ rfl _) B F X T rfl (by first | exact room_le hd (by decide) | omega) (by first | exact unit_le hu (by decide) | exact unit_le2 hu (by decide) | omega) (fun _ y => y) (fun _ h => h) (fun _ _ => rfl) ?_)
    rintro r nw h' tk' F' N' R'
    clear F N
    walk_at "steps"
    exact ends (by assumption) (by assumption) R')
  walk_at "steps"
  have hl := P.len
  have hnl : nlBack cz at_ ≤ cz.length := by have := P.at_le; unfold nlBack; split <;> omega
  have Z : Cl o1 o2 o3 o4 o5 o6 o7 o8 o9 := ⟨⟨_, e1⟩, ⟨_, e2⟩, e3a.cl, e4.cl, e5.cl, e6.cl, ⟨_, e7⟩, e8.cl, ⟨_, e9⟩⟩
  refine Stop.go (use_told N1 TD (by rw [txt_len]; with_reducible_and_instances exact Nat.lt_of_lt_of_le hl (by decide)) (by rw [txt_len]; exact units_ok P.ok hl (fun _ _ _ h _ => charF_le h) (nlBack cz at_) hnl 1 first) Z off' B F1 X T rfl (by first | exact room_le hd (by decide) | omega) (by first | exact unit_le hu (by decide) | exact unit_le2 hu (by decide) | omega) ?_)
  intro r front h2 tk2 F2 N2 q2 off2
  rw [chars_res (nlBack cz at_) hnl 1 (by decide) first] at q2
  have R2 := R1.app off2
  have e3b := e3a.mono (rest' := front ++ rest1) fun p hp => List.mem_append_right _ hp
  have Z : Cl o1 o2 o3 o4 o5 o6 o7 o8 o9 := Z
  clear F1 N1 R1 TD offf hc e3a
  generalize front ++ rest1 = rest2 at *
  walk_at "steps"
  have hz := P.at_le
  refine Stop.go (use_res N2 (c_lbn (txt cz) (by rw [txt_len]; with_reducible_and_instances exact Nat.lt_of_lt_of_le hl (by decide)) at_ (by rw [txt_len]; (clear hd hu z1 hl hnl; lia)) tt _ tt) Z off2 B F2 X T rfl (by first | exact room_le hd (by decide) | omega) (by first | exact unit_le hu (by decide) | exact unit_le2 hu (by decide) | omega) ?_)
  intro r' front' h3 tk3 F3 N3 q3 off3
  rw [atN_txt P.ok at_ P.at_le] at q3
  have q2' := q2.mono (nx' := front' ++ rest2) fun p hp => List.mem_append_right _ hp
  have R3 := R2.app off3
  have e3c := e3b.mono (rest' := front' ++ rest2) fun p hp => List.mem_append_right _ hp
  clear F2 N2 q2 R2 off2 e3b
  generalize front' ++ rest2 = rest3 at *
  walk_at "steps"
  refine Stop.go (ne_res N3 q2' q3 (fun p hp => TL.back hp) (fun p hp => TL.back hp) (u64 hu) ?_)
  walk_at "steps"
  subst hQ; exact seg_end F3 N3 (St.of i1 k1 z1 e1 e2 e3c e4 e5 e6 e7 e8 e9 R3 Nn)
end
section
theorem pick4 {z : Nat} {x : Value} {t0 t1 t2 t3 : Tok} (h : ([.int 1 t0, .int 2 t1, .int (-1) t2, .int (-2) t3] : List Value)[z]? = some x) : ∃ k t, x = .int k t ∧ (-2 ≤ k ∧ k ≤ 2 ∧ k ≠ 0) := by
  match z, h with
  | 0, h => cases h; exact ⟨_, _, rfl, by decide⟩
  | 1, h => cases h; exact ⟨_, _, rfl, by decide⟩
  | 2, h => cases h; exact ⟨_, _, rfl, by decide⟩
  | 3, h => cases h; exact ⟨_, _, rfl, by decide⟩
  | n + 4, h => cases h
include ho hb P B F X T hd hu C2 N in
theorem seg_count {st : Stmt} (hst : turn[5]? = some st) {cM cC cL cK : Option Value} {cF : Option Addr} (S : St w L d tb vw lz wz kp cz first at_ cM cC cL cK cF m nx) :
    wpAny (model PySem.Challenge.rw_np0052_01.row.prog w) (ktrTop dp un gd qual scope L 448 (.ref 447) (cellsFrom (L + 1) scope.names []) []) (exec st (envX qual scope L 448 (.ref 447) (cellsFrom (L + 1) scope.names [])))
      (SegEnd g L s fun m' nx' => ∃ z t, (-2 ≤ z ∧ z ≤ 2 ∧ z ≠ 0) ∧ St w L d tb vw lz wz kp cz first at_ cM (some (.int z t)) cL cK cF m' nx') (fun _ _ => False) s := by
  refine genQ fun Q hQ => ?_
  have hK := P.dk
  revert hQ
  refine S.open N ?_
  clear S N
  intro dvs dns dn ps1 ps2 o1 o2 o3 o4 o5 o6 o7 o8 o9 rest tf ta tt N i1 k1 z1 e1 e2 e3 e4 e5 e6 e7 e8 e9 R Nn htx hdk hcd hQ
  have hO := R.off
  obtain ⟨v8, d8⟩ := e8.cl
  have e := ho.symm.trans (by k_is : _ = some _)
  clear ho
  revert hst hb
  apply obj_elim e
  clear e
  intro hb
  apply for_elim hb
  clear hb
  intro hst
  apply st_elim hst
  clear hst
  try dsimp only
  try k_fold
  walk_at "steps"
  rename Fr _ _ _ _ => F1
  rename News _ _ _ _ => N1
  rename @LT.lt Nat _ d _ ∧ _ => l1
  refine Stop.go (useA N1 (c_one_list (UpdF.tail (by first | exact Nat.ne_of_gt l1.1 | exact Nat.ne_of_lt l1.1) (TL.upd_d hK hO)) (.head _) (fun o' => .head _) (show 0 < 4 by decide) (show 4 < 100 by decide) i1 k1 z1) B F1 X T rfl (by first | exact room_le hd (by decide) | omega) (by first | exact unit_le hu (by decide) | exact unit_le2 hu (by decide) | omega) (aft5f4 ?_))
  intro zi xm vsB nsB mB h2 tk2 F2 N2 iB dB lB hxm
  refine genP fun C9 k9 => ?_
  refine ex_2_2 (pick4 hxm) ?_
  intro k t e9_2 hk
  subst e9_2
  refine k9 ?_
  clear k9 C9
  have N3 := newsub N2 fun p hp => List.mem_cons_of_mem _ hp
  clear N1 N2 F1 l1
  repeat' (first | with_reducible ((show wpAny _ _ (storeName _ _ _) _ _ _); (k_here; k_dflt (refine' storeX_C ?F ?N ?c ?U ?d ?_ ?a ?b; (case a => rfl); (case b => rfl); (case F => k_asm); (case N => k_asm); (case c => rfl); (case U => (k_dflt first | exact TL.upd_1 (by assumption) (by assumption) | exact TL.upd_2 (by assumption) (by assumption) | exact TL.upd_3 (by assumption) (by assumption) | exact TL.upd_4 (by assumption) (by assumption) | exact TL.upd_5 (by assumption) (by assumption) | exact TL.upd_6 (by assumption) (by assumption) | exact TL.upd_7 (by assumption) (by assumption) | exact TL.upd_9 (by assumption) (by assumption))); (case d => k_asm); k_whole); intro h' o' F' N' d'; (try dsimp only at N'))) | walk_at "stp")
  subst hQ; exact seg_end (by assumption) (by assumption) ⟨k, t, hk, St.of iB dB lB e1 e2 e3 e4 e5 e6 e7 (by assumption) e9 R Nn⟩
include ho hb P B F X T hd hu C2 N in
theorem seg_lines {st : Stmt} (hst : turn[8]? = some st) {cM cC cL cK : Option Value} {cF : Option Addr} (S : St w L d tb vw lz wz kp cz first at_ cM cC cL cK cF m nx) :
    wpAny (model PySem.Challenge.rw_np0052_01.row.prog w) (ktrTop dp un gd qual scope L 448 (.ref 447) (cellsFrom (L + 1) scope.names []) []) (exec st (envX qual scope L 448 (.ref 447) (cellsFrom (L + 1) scope.names [])))
      (SegEnd g L s fun m' nx' => ∃ (k : Nat) (t : Tok), (1 ≤ k ∧ k ≤ 3) ∧ St w L d tb vw lz wz kp cz first at_ cM cC (some (.int k t)) cK cF m' nx') (fun _ _ => False) s := by
  refine genQ fun Q hQ => ?_
  have hK := P.dk
  revert hQ
  refine S.open N ?_
  clear S N
  intro dvs dns dn ps1 ps2 o1 o2 o3 o4 o5 o6 o7 o8 o9 rest tf ta tt N i1 k1 z1 e1 e2 e3 e4 e5 e6 e7 e8 e9 R Nn htx hdk hcd hQ
  have hO := R.off
  obtain ⟨v6, d6⟩ := e6.cl
  have e := ho.symm.trans (by k_is : _ = some _)
  clear ho
  revert hst hb
  apply obj_elim e
  clear e
  intro hb
  apply for_elim hb
  clear hb
  intro hst
  apply st_elim hst
  clear hst
  try dsimp only
  try k_fold
  walk_at "steps"
  refine Stop.go (useA N (c_draw (TL.upd_d hK hO) 3 _ i1 k1 z1 (by decide)) B F X T rfl (by first | exact room_le hd (by decide) | omega) (by first | exact unit_le hu (by decide) | exact unit_le2 hu (by decide) | omega) (aft5f5 ?_))
  intro z t vsB nsB mB h2 tk2 F2 N2 iB dB lB q0 q1
  obtain ⟨k, rfl⟩ := Int.eq_ofNat_of_zero_le q0
  clear N F
  repeat' (first | with_reducible ((show wpAny _ _ (storeName _ _ _) _ _ _); (k_here; k_dflt (refine' storeX_C ?F ?N ?c ?U ?d ?_ ?a ?b; (case a => rfl); (case b => rfl); (case F => k_asm); (case N => k_asm); (case c => rfl); (case U => (k_dflt first | exact TL.upd_1 (by assumption) (by assumption) | exact TL.upd_2 (by assumption) (by assumption) | exact TL.upd_3 (by assumption) (by assumption) | exact TL.upd_4 (by assumption) (by assumption) | exact TL.upd_5 (by assumption) (by assumption) | exact TL.upd_6 (by assumption) (by assumption) | exact TL.upd_7 (by assumption) (by assumption) | exact TL.upd_9 (by assumption) (by assumption))); (case d => k_asm); k_whole); intro h' o' F' N' d'; (try dsimp only at N'))) | walk_at "stp")
  rename _ = Data.cell (some (Value.int (1 + _) _)) => dd
  have dd' := dd.trans (congrArg (fun v => Data.cell (some v)) (int_eq (b := ((1 + k : Nat) : Int)) (by (clear hd hu z1 lB q0 q1; lia))))
  subst hQ; exact seg_end (by assumption) (by assumption) ⟨1 + k, _, by (clear hd hu z1 lB q0; lia), St.of iB dB lB e1 e2 e3 e4 e5 dd' e7 e8 e9 R Nn⟩
include ho hb P B F X T hd hu C2 N in
theorem seg_mark {st : Stmt} (hst : turn[10]? = some st) {cM cC cL cK : Option Value} {cF : Option Addr} (S : St w L d tb vw lz wz kp cz first at_ cM cC cL cK cF m nx) :
    wpAny (model PySem.Challenge.rw_np0052_01.row.prog w) (ktrTop dp un gd qual scope L 448 (.ref 447) (cellsFrom (L + 1) scope.names []) []) (exec st (envX qual scope L 448 (.ref 447) (cellsFrom (L + 1) scope.names [])))
      (SegEnd g L s fun m' nx' => ∃ (k : Nat) (t : Tok), k ≤ cz.length ∧ St w L d tb vw lz wz kp cz first at_ cM cC cL (some (.int k t)) cF m' nx') (fun _ _ => False) s := by
  refine genQ fun Q hQ => ?_
  have hK := P.dk
  revert hQ
  refine S.open N ?_
  clear S N
  intro dvs dns dn ps1 ps2 o1 o2 o3 o4 o5 o6 o7 o8 o9 rest tf ta tt N i1 k1 z1 e1 e2 e3 e4 e5 e6 e7 e8 e9 R Nn htx hdk hcd hQ
  have hO := R.off
  obtain ⟨v4, d4⟩ := e4.cl
  have hwl := R.iz.length
  have hzl := P.len
  have e := ho.symm.trans (by k_is : _ = some _)
  clear ho
  revert hst hb
  apply obj_elim e
  clear e
  intro hb
  apply for_elim hb
  clear hb
  intro hst
  apply st_elim hst
  clear hst
  try dsimp only
  try k_fold
  repeat' (first | with_reducible ((show wpAny _ _ (call (Value.builtin "len") _ _) _ _ _); (k_dflt (refine lenL (News.isList N (TL.back R.hz)) (by (clear hd hu z1; lia)) ?_))) | walk_at "stp")
  walk_at "steps"
  walk_at "steps"
  refine Stop.go (useA N (c_draw (TL.upd_d hK hO) _ _ i1 k1 z1 (by (clear hd hu z1; lia))) B F X T rfl (by first | exact room_le hd (by decide) | omega) (by first | exact unit_le hu (by decide) | exact unit_le2 hu (by decide) | omega) (aft5f5 ?_))
  intro z t vsB nsB mB h2 tk2 F2 N2 iB dB lB q0 q1
  obtain ⟨k, rfl⟩ := Int.eq_ofNat_of_zero_le q0
  clear N F
  repeat' (first | with_reducible ((show wpAny _ _ (storeName _ _ _) _ _ _); (k_here; k_dflt (refine' storeX_C ?F ?N ?c ?U ?d ?_ ?a ?b; (case a => rfl); (case b => rfl); (case F => k_asm); (case N => k_asm); (case c => rfl); (case U => (k_dflt first | exact TL.upd_1 (by assumption) (by assumption) | exact TL.upd_2 (by assumption) (by assumption) | exact TL.upd_3 (by assumption) (by assumption) | exact TL.upd_4 (by assumption) (by assumption) | exact TL.upd_5 (by assumption) (by assumption) | exact TL.upd_6 (by assumption) (by assumption) | exact TL.upd_7 (by assumption) (by assumption) | exact TL.upd_9 (by assumption) (by assumption))); (case d => k_asm); k_whole); intro h' o' F' N' d'; (try dsimp only at N'))) | walk_at "stp")
  subst hQ; exact seg_end (by assumption) (by assumption) ⟨k, _, by (clear hd hu z1 hzl lB q0; lia), St.of iB dB lB e1 e2 e3 (by assumption) e5 e6 e7 e8 e9 R Nn⟩
end
section
theorem mover_mk {w : World} {g0 h0 : Heap} {L0 f c' vw cell : Addr} {k : Nat} {nx rest1 : Led} {cz : List Int} {first : Int} {o2 : Obj} {name qual : Str} {params : Arguments} {body : Expr} {scope : Scope} {clos : List (Str × Addr)} {pm ctv : Value} {oc : Obj} {vc : Array Value} {tq : Tok}
    (N : News g0 L0 h0 ((f, kla_obj name qual params body scope clos pm c' ctv) :: nx)) (hmc : (c', oc) ∈ rest1) (hoc : oc.data = .fields vc) (hvc : vc[1]? = some (.str qual tq))
    (hb : ∀ x y z, bindArgs (kla_fn name qual params body scope clos pm (.ref c') ctv) ⟨[x, y, z], []⟩ = pure (([("_law_row", x), ("_law_place", y), ("_law_step", z)] : List (Str × Value)))) (hloc : ∀ y ∈ (["_law_row", "_law_place", "_law_step"] : List Str), scope.names.lookup y = some .local)
    (hco : scope.isCoroutine = false) (hgen : scope.isGenerator = false) (hkd : scope.kind = .function) (hcell : ∀ x ∈ scope.names, x.2 ≠ .cell)
    (h : ∀ (news' : Led) (i : Nat) (pl many : Int) (t t' : Tok), (∀ p ∈ (cell, o2) :: (f, kla_obj name qual params body scope clos pm c' ctv) :: rest1, p ∈ news') → i ≤ cz.length → pl = first + i → (-2 ≤ many ∧ many ≤ 2 ∧ many ≠ 0) →
      ∀ (p : Program) (loose : List Str) (mean : ExcName → Option Value) (mg mb : Str → Option Value) (dp un : Nat) (gd : Option (List Code)) (outer : List Env) (A₀ : Around) (base g : Heap) (L : Addr) (s : Shared),
      Below A₀ base outer g → Fr g L s.heap (fun y => ([("_law_step", .int many t'), ("_law_place", .int pl t), ("_law_row", .ref vw)] : List (Str × Value)).lookup y) → (Mine.hd.heap_1 w.params).In g → News g L s.heap news' → Top p loose mean mg mb g → dp + k < recursionLimit → un + 8 * k + 4 < cLine →
      wpAny (model PySem.Challenge.rw_np0052_01.row.prog w) (ktrTop dp un gd qual scope L f (.ref c') clos outer) (eval body (envX qual scope L f (.ref c') clos))
        (fun v s' => Ends g L s (fun r nw => ∃ j t'', okW cz i many = .ok j ∧ r = .int (first + (j : Nat)) t'' ∧ nw = news') v s') (fun e s' => EndsX g L outer news' s (fun sym => okW cz i many = .error sym) e s') s) :
    Mover w f (k + 1) ((cell, o2) :: (f, kla_obj name qual params body scope clos pm c' ctv) :: rest1) vw first cz (okW cz) :=
  ⟨fun news' hs i hi pl many hp hm t t' => ctrX_lam ["_law_row", "_law_place", "_law_step"] (hs _ (.tail _ (.head _))) (hs _ (.tail _ (.tail _ hmc))) hoc hvc (hb _ _ _) (fun y hy => hloc _ (List.of_mem_zip hy).1) hco hgen hkd hcell (h news' i pl many t t' hs hi hp hm),
    fun i many j hj hi => by cases hj; exact wordF_le hi, fun g h L m nw F X N hs => FnAt.of N (hs _ (.tail _ (.head _)))⟩
include ho hb P B F X T hd hu C2 N in
theorem seg_mover {st : Stmt} (hst : turn[6]? = some st) {cM cC cL cK : Option Value} {cF : Option Addr} (S : St w L d tb vw lz wz kp cz first at_ cM cC cL cK cF m nx) :
    wpAny (model PySem.Challenge.rw_np0052_01.row.prog w) (ktrTop dp un gd qual scope L 448 (.ref 447) (cellsFrom (L + 1) scope.names []) []) (exec st (envX qual scope L 448 (.ref 447) (cellsFrom (L + 1) scope.names [])))
      (SegEnd g L s fun m' nx' => ∃ fm, St w L d tb vw lz wz kp cz first at_ cM cC cL cK (some fm) m' nx') (fun _ _ => False) s := by
  refine genQ fun Q hQ => ?_
  have hK := P.dk
  revert hQ
  refine S.open N ?_
  clear S N
  intro dvs dns dn ps1 ps2 o1 o2 o3 o4 o5 o6 o7 o8 o9 rest tf ta tt N i1 k1 z1 e1 e2 e3 e4 e5 e6 e7 e8 e9 R Nn htx hdk hcd hQ
  have hO := R.off
  obtain ⟨v7, d7⟩ := e3.cl
  clear hO
  have e := ho.symm.trans (by k_is : _ = some _)
  clear ho
  revert hst hb
  apply obj_elim e
  clear e
  intro hb
  apply for_elim hb
  clear hb
  intro hst
  apply st_elim hst
  clear hst
  try dsimp only
  try k_fold
  walk_at "steps"
  refine Stop.go (law_lam hK F N T C2 R.off R.x2 rfl rfl ?_)
  intro f c' ctv oc vs t ps2' own h1 tk1 F1 N1 y1 y2 hc x2' off' offf
  have R1 := R.lam off' x2'
  clear F N R
  generalize own ++ rest = rest1 at *
  have MV := mover_mk (w := w) (k := 9) (cz := cz) (first := first) (vw := vw) (cell := L + 1 + 1 + 1 + 1 + 1 + 1 + 1 + 1) (o2 := o2) N1 hc y1 y2 (fun _ _ _ => rfl) (by decide) rfl rfl rfl (by decide) (by
    intro news' i pl many t t' hs hi hp hm
    have V1 := R1.V.mono fun p hp => hs p (.tail _ (.tail _ hp))
    have T1 := R1.T.mono fun p hp => hs p (.tail _ (.tail _ hp))
    have m1 := hs _ (.head _)
    have hok := P.ok
    clear hs N1 R1 x2' off' offf hc B F1 X T hd hu i1 k1 z1 C2 hK P Nn htx hdk hcd
    intro p loose mean mg mb dp un gd outer A₀ base g L0 s B F X N T hd hu
    repeat' (first | with_reducible ((show wpAny _ _ (eval (Expr.Name _ _) _) _ _ _); (k_here; k_dflt (refine' nameX_F ?N ?c ?m ?d ?_ ?a ?b; (case a => rfl); (case b => rfl); (case N => k_asm); (case c => rfl); (case m => assumption); (case d => k_asm)))) | walk_at "stp")
    refine Stop.go (use N (c_fw V1 T1 i hi hok _ _ hp hm.2.2 _ _) B F X T rfl (by first | exact room_le hd (by decide) | omega) (by first | exact unit_le hu (by decide) | exact unit_le2 hu (by decide) | omega) ?_)
    intro r nw h' tk' F' N' p9_6
    refine genP fun C9 k9 => ?_
    refine ex_3_2 (p9_6) ?_
    try clear p9_6
    intro a t1 x e9_3 e9_4
    subst e9_3
    subst e9_4
    refine k9 ?_
    clear k9 C9
    clear F N
    repeat' (first | with_reducible ((k_here; (with_reducible show wpAny _ _ (subscriptTail _ _ (Value.ref _) (Value.int _ _)) _ _ _); k_dflt (refine item_tupleT (News.isTup (by k_asm) (by k_dflt k_mem)) (by decide) (by decide) (by rfl) (by rfl) ?_))) | walk_at "stp")
    exact ends (by assumption) (newsub (by assumption) (nw' := news') fun p hp => .tail _ hp) ⟨_, _, rfl, rfl, rfl⟩)
  have R2 := R1.app (offf.app off')
  have N2 := newsub N1 (nw' := TL L d (listOf (List.toArray dvs) dn) o1 o2 o3 o4 o5 o6 o7 o8 o9 ps1 ps2' (_ :: rest1)) fun p hp => (TL.cases hp).elim (fun q => .tail _ (TL.front q)) fun q => (List.mem_cons.mp q).elim (fun z => z ▸ .head _) fun z => .tail _ (TL.back z)
  clear N1 R1 hc offf off' x2'
  simp only [List.cons_append, List.nil_append] at R2
  have hO := R2.off
  generalize _ :: rest1 = rest2 at *
  repeat' (first | with_reducible ((show wpAny _ _ (storeName _ _ _) _ _ _); (k_here; k_dflt (refine' storeX_C ?F ?N ?c ?U ?d ?_ ?a ?b; (case a => rfl); (case b => rfl); (case F => k_asm); (case N => k_asm); (case c => rfl); (case U => (k_dflt first | exact TL.upd_1 (by assumption) (by assumption) | exact TL.upd_2 (by assumption) (by assumption) | exact TL.upd_3 (by assumption) (by assumption) | exact TL.upd_4 (by assumption) (by assumption) | exact TL.upd_5 (by assumption) (by assumption) | exact TL.upd_6 (by assumption) (by assumption) | exact TL.upd_7 (by assumption) (by assumption) | exact TL.upd_9 (by assumption) (by assumption))); (case d => k_asm); k_whole); intro h' o' F' N' d'; (try dsimp only at N'))) | walk_at "stp")
  subst hQ; exact seg_end (by assumption) (by assumption) ⟨f, St.of i1 k1 z1 e1 e2 ⟨by assumption, MV⟩ e4 e5 e6 e7 e8 e9 R2 Nn⟩
end
section
include ho hb P B F X T hd hu C2 N in
theorem seg_words {st : Stmt} (hst : turn[7]? = some st) {cM cL cK : Option Value} {fm : Addr} {many : Int} {tm : Tok} (hm : -2 ≤ many ∧ many ≤ 2 ∧ many ≠ 0) (S : St w L d tb vw lz wz kp cz first at_ cM (some (.int many tm)) cL cK (some fm) m nx) :
    wpAny (model PySem.Challenge.rw_np0052_01.row.prog w) (ktrTop dp un gd qual scope L 448 (.ref 447) (cellsFrom (L + 1) scope.names []) []) (exec st (envX qual scope L 448 (.ref 447) (cellsFrom (L + 1) scope.names [])))
      (SegEnd g L s fun m' nx' => St w L d tb vw lz wz kp cz first at_ cM (some (.int many tm)) cL cK (some fm) m' nx') (fun _ _ => False) s := by
  refine genQ fun Q hQ => ?_
  have hK := P.dk
  revert hQ
  refine S.open N ?_
  clear S N
  intro dvs dns dn ps1 ps2 o1 o2 o3 o4 o5 o6 o7 o8 o9 rest tf ta tt N i1 k1 z1 e1 e2 e3 e4 e5 e6 e7 e8 e9 R Nn htx hdk hcd hQ
  have hO := R.off
  have e8' : o8.data = .cell (some (.int many tm)) := e8
  have e31 := e3.1
  have e := ho.symm.trans (by k_is : _ = some _)
  clear ho
  revert hst hb
  apply obj_elim e
  clear e
  intro hb
  apply for_elim hb
  clear hb
  intro hst
  apply st_elim hst
  clear hst
  try dsimp only
  try k_fold
  walk_at "steps"
  refine Stop.go (law_lam P.dk F N T C2 R.off R.x2 rfl rfl ?_)
  intro f c' ctv oc vs t ps2' own h1 tk1 F1 N1 y1 y2 hc x2' off' offf
  have R1 := R.lam off' x2'
  have V1 := R1.V
  have e3a := e3.mono (rest' := own ++ rest) fun p hp => List.mem_append_right _ hp
  clear F N R e3
  generalize own ++ rest = rest1 at *
  have e3m := e3a.2
  have TD := told_E (w := w) (k := 12) (first := first) (O := unitsE (okW cz) cz at_ many) N1 (TL.back hc) y1 y2 rfl rfl rfl rfl (by decide) (by
    clear B F1 X T hd hu
    intro p loose mean mg mb dp un gd outer A₀ base g L0 s B F X N T hd hu
    walk_at "steps"
    refine Stop.go (useX N (c_ue2 (e3m.mono fun p hp => (List.mem_cons.mp hp).elim (fun z => z ▸ .tail _ (TL.front (.tail _ (.tail _ (.head _))))) fun z => .tail _ (TL.back z)) (R1.V.mono fun p hp => .tail _ (TL.back hp)) at_ _ many rfl P.at_le hm _ _ (by decide)) B F X T rfl (by first | exact room_le hd (by decide) | omega) (by first | exact unit_le hu (by decide) | exact unit_le2 hu (by decide) | omega) (fun _ y => y) (fun _ h => h) (fun _ _ => rfl) ?_)
    rintro r nw h' tk' F' N' R'
    clear F N
    walk_at "steps"
    exact ends (by assumption) (by assumption) R')
  walk_at "steps"
  have hl := P.len
  have Z : Cl o1 o2 o3 o4 o5 o6 o7 o8 o9 := ⟨⟨_, e1⟩, ⟨_, e2⟩, e3a.cl, e4.cl, e5.cl, e6.cl, ⟨_, e7⟩, e8.cl, ⟨_, e9⟩⟩
  refine Stop.go (use_told N1 TD (by rw [txt_len]; with_reducible_and_instances exact Nat.lt_of_lt_of_le hl (by decide)) (by rw [txt_len]; exact units_ok P.ok hl e3m.bnd at_ P.at_le many first) Z off' B F1 X T rfl (by first | exact room_le hd (by decide) | omega) (by first | exact unit_le hu (by decide) | exact unit_le2 hu (by decide) | omega) ?_)
  intro r front h2 tk2 F2 N2 q2 off2
  rw [words_res at_ many first] at q2
  have R2 := R1.app off2
  have e3b := e3a.mono (rest' := front ++ rest1) fun p hp => List.mem_append_right _ hp
  have Z : Cl o1 o2 o3 o4 o5 o6 o7 o8 o9 := Z
  clear F1 N1 R1 TD offf hc e3a e3m hO
  generalize front ++ rest1 = rest2 at *
  walk_at "steps"
  refine Stop.go (use_bw hK N2 R2.x1 off2 Z P.ok (by with_reducible_and_instances exact Nat.lt_of_lt_of_le hl (by decide)) P.pos at_ P.at_le tt _ _ many hm B F2 X T rfl (by first | exact room_le hd (by decide) | omega) (by first | exact unit_le hu (by decide) | exact unit_le2 hu (by decide) | omega) ?_)
  intro r' ps1' own' h3 tk3 F3 N3 q3 off3 x1'
  have q2' := q2.mono (nx' := own' ++ rest2) fun p hp => List.mem_append_right _ hp
  have R3 : Rest w L d tb vw lz wz kp cz first ps1' ps2' (own' ++ rest2) := ⟨off3, (R2.app off3).V, (R2.app off3).hz, R2.iz, (R2.app off3).T, x1', (R2.app off3).x2, (R2.app off3).hk⟩
  have e3c := e3b.mono (rest' := own' ++ rest2) fun p hp => List.mem_append_right _ hp
  clear F2 N2 q2 R2 off2 e3b
  generalize own' ++ rest2 = rest3 at *
  walk_at "steps"
  refine Stop.go (ne_res N3 q2' q3 (fun p hp => TL.back hp) (fun p hp => TL.back hp) (u64 hu) ?_)
  walk_at "steps"
  subst hQ; exact seg_end F3 N3 (St.of i1 k1 z1 e1 e2 e3c e4 e5 e6 e7 e8 e9 R3 Nn)
end
section
include ho hb P B F X T hd hu C2 N in
theorem seg_rows {st : Stmt} (hst : turn[9]? = some st) {cM cC cK : Option Value} {cF : Option Addr} {k : Nat} {tm : Tok} (hk : 1 ≤ k ∧ k ≤ 3) (S : St w L d tb vw lz wz kp cz first at_ cM cC (some (.int k tm)) cK cF m nx) :
    wpAny (model PySem.Challenge.rw_np0052_01.row.prog w) (ktrTop dp un gd qual scope L 448 (.ref 447) (cellsFrom (L + 1) scope.names []) []) (exec st (envX qual scope L 448 (.ref 447) (cellsFrom (L + 1) scope.names [])))
      (SegEnd g L s fun m' nx' => St w L d tb vw lz wz kp cz first at_ cM cC (some (.int k tm)) cK cF m' nx') (fun _ _ => False) s := by
  refine genQ fun Q hQ => ?_
  have hK := P.dk
  revert hQ
  refine S.open N ?_
  clear S N
  intro dvs dns dn ps1 ps2 o1 o2 o3 o4 o5 o6 o7 o8 o9 rest tf ta tt N i1 k1 z1 e1 e2 e3 e4 e5 e6 e7 e8 e9 R Nn htx hdk hcd hQ
  have hO := R.off
  have e6' : o6.data = .cell (some (.int k tm)) := e6
  have hl := P.len
  have hz := P.at_le
  have hk1 : 0 < k := hk.1
  refine ex_2_12 (lines_facts P.ok P.len P.pos P.last at_ P.at_le) ?_
  intro ls o hgl hsp h10 hol hlast hsl hcnt hfew hole hl1 hl2 hl3
  have hres : ∀ a b, a = ahL cz 1 (startL cz at_) → b = ahL cz k a.1 → toldR (.ok ((first + (startL cz at_ : Nat), first + (b.1 : Nat), (slice cz a.1 b.1 ++ List.replicate b.2 10) ++ (slice cz (startL cz at_) a.1 ++ List.replicate a.2 10)), first + (startL cz at_ : Nat) + (slice cz a.1 b.1 ++ List.replicate b.2 10).length + (slice cz (startL cz at_) a.1 ++ List.replicate a.2 10).length)) first (txt cz) = blR (ls.map txt) o k := by
    intro a b ha hb
    rw [hsl] at ha ⊢
    rw [← hgl] at ha hb ⊢
    exact lines_res h10 hlast o k hk1 hol first a b ha hb
  have e := ho.symm.trans (by k_is : _ = some _)
  clear ho
  revert hst hb
  apply obj_elim e
  clear e
  intro hb
  apply for_elim hb
  clear hb
  intro hst
  apply st_elim hst
  clear hst
  try dsimp only
  try k_fold
  walk_at "steps"
  refine Stop.go (law_lam P.dk F N T C2 R.off R.x2 rfl rfl ?_)
  intro f c' ctv oc vs t ps2' own h1 tk1 F1 N1 y1 y2 hc x2' off' offf
  have R1 := R.lam off' x2'
  have V1 := R1.V
  have e3a := e3.mono (rest' := own ++ rest) fun p hp => List.mem_append_right _ hp
  clear F N R e3
  generalize own ++ rest = rest1 at *
  obtain ⟨a, ha⟩ : ∃ a, a = ahL cz 1 (startL cz at_) := ⟨_, rfl⟩
  obtain ⟨b, hb⟩ : ∃ b, b = ahL cz k a.1 := ⟨_, rfl⟩
  have hres := hres a b ha hb
  have TD := told_L (w := w) (k := 6) (e0 := first + (startL cz at_ : Nat)) (e1 := first + (b.1 : Nat)) (codes := (slice cz a.1 b.1 ++ List.replicate b.2 10) ++ (slice cz (startL cz at_) a.1 ++ List.replicate a.2 10)) (pl := first + (startL cz at_ : Nat) + (slice cz a.1 b.1 ++ List.replicate b.2 10).length + (slice cz (startL cz at_) a.1 ++ List.replicate a.2 10).length) N1 (TL.back hc) y1 y2 rfl rfl rfl rfl (by decide) (h := by
    clear B F1 X T hd hu
    intro p loose mean mg mb dp un gd outer A₀ base g L0 s B F X N T hd hu
    walk_at "steps"
    refine Stop.go (useX N (c_lines_edit (R1.V.mono fun p hp => .tail _ (TL.back hp)) at_ P.at_le _ rfl _ k hk1 (by (clear z1 hl hz hk1 h10 hol hlast hsl hcnt hole hl2 hd hu; lia)) _ rfl _).toX B F X T rfl (by first | exact room_le hd (by decide) | omega) (by first | exact unit_le hu (by decide) | exact unit_le2 hu (by decide) | omega) (fun _ y => y) (fun _ h => h) (fun _ _ => rfl) ?_)
    rintro r nw h' tk' F' N' R'
    clear F N
    walk_at "steps"
    exact ends (by assumption) (by assumption) (R' a b ha hb))
  walk_at "steps"
  have Z : Cl o1 o2 o3 o4 o5 o6 o7 o8 o9 := ⟨⟨_, e1⟩, ⟨_, e2⟩, e3a.cl, e4.cl, e5.cl, e6.cl, ⟨_, e7⟩, e8.cl, ⟨_, e9⟩⟩
  refine Stop.go (use_told N1 TD (by rw [txt_len]; with_reducible_and_instances exact Nat.lt_of_lt_of_le hl (by decide)) (by rw [txt_len]; exact lines_ok P.ok hl _ (by rw [hsl]; exact hole) k (by (clear hd hu z1 hl hz hk1 h10 hol hlast hsl hcnt hole hl2; lia)) first _ a b ha hb) Z off' B F1 X T rfl (by first | exact room_le hd (by decide) | omega) (by first | exact unit_le hu (by decide) | exact unit_le2 hu (by decide) | omega) ?_)
  intro r front h2 tk2 F2 N2 q2 off2
  rw [hres] at q2
  have R2 := R1.app off2
  have e3b := e3a.mono (rest' := front ++ rest1) fun p hp => List.mem_append_right _ hp
  clear F1 N1 R1 TD offf hc e3a hO
  generalize front ++ rest1 = rest2 at *
  walk_at "steps"
  refine Stop.go (use_res N2 (c_bl (txt cz) (by rw [txt_len]; with_reducible_and_instances exact Nat.lt_of_lt_of_le hl (by decide)) (ls.map txt) hsp (by rw [List.length_map]; with_reducible_and_instances exact Nat.lt_of_le_of_lt (Nat.zero_le _) hol) hfew o (by rw [List.length_map]; omega) at_ (by rw [txt_len]; omega) hcnt hl1 hl2 hl3 tt _ _ k hk) Z off2 B F2 X T rfl (by first | exact room_le hd (by decide) | omega) (by first | exact unit_le hu (by decide) | exact unit_le2 hu (by decide) | omega) ?_)
  intro r' front' h3 tk3 F3 N3 q3 off3
  have q2' := q2.mono (nx' := front' ++ rest2) fun p hp => List.mem_append_right _ hp
  have R3 := R2.app off3
  have e3c := e3b.mono (rest' := front' ++ rest2) fun p hp => List.mem_append_right _ hp
  clear F2 N2 q2 R2 off2 e3b
  generalize front' ++ rest2 = rest3 at *
  walk_at "steps"
  refine Stop.go (ne_res N3 q2' q3 (fun p hp => TL.back hp) (fun p hp => TL.back hp) (u64 hu) ?_)
  walk_at "steps"
  subst hQ; exact seg_end F3 N3 (St.of i1 k1 z1 e1 e2 e3c e4 e5 e6 e7 e8 e9 R3 Nn)
end
section
local macro_rules | `(tactic| walk_at "w_bnd") => `(tactic| first | assumption | (refine wordF_le ?_; walk_at "w_bnd") | omega)
noncomputable def PartsAt (cz : List Int) (zs : List Nat) (ts : List Addr) (rest : Led) : Prop := ts.length ≤ zs.length ∧ ∀ k z, zs[k]? = some z → k < ts.length → ∃ a t0 t1, ts[k]? = some a ∧ (a, tupO [.int ((lohi cz z 1).1 : Nat) t0, .int ((lohi cz z 1).2.1 : Nat) t1]) ∈ rest
theorem PartsAt.snoc {cz : List Int} {zs : List Nat} {ts : List Addr} {rest rest' : Led} {z : Nat} {a : Addr} {t0 t1 : Tok} (h : PartsAt cz zs ts rest) (hs : ∀ p ∈ rest, p ∈ rest') (hz : zs[ts.length]? = some z) (hm : (a, tupO [.int ((lohi cz z 1).1 : Nat) t0, .int ((lohi cz z 1).2.1 : Nat) t1]) ∈ rest') : PartsAt cz zs (ts ++ [a]) rest' := by
  obtain ⟨h1, h2⟩ := List.getElem?_eq_some_iff.mp hz
  refine ⟨by rw [List.length_append]; exact h1, fun k y hy hk => ?_⟩
  rw [List.length_append] at hk
  by_cases q : k < ts.length
  · refine ex_3_2 (h.2 k y hy q) ?_
    intro b u0 u1 e1 e2
    exact ⟨b, u0, u1, by rw [List.getElem?_append_left q]; exact e1, hs _ e2⟩
  · have hk' : k = ts.length := by have : k < ts.length + 1 := hk; (clear hs h1 h2 hk; lia)
    subst hk'
    rw [hz] at hy
    cases hy
    exact ⟨a, t0, t1, by simp, hm⟩
section
variable {w : World} {L d tb vw lz lP fm : Addr} {wz : List Value} {kp : Led} {cz : List Int} {first : Int} {dvs : List Value} {dn : Nat} {o1 o2 o3 o4 o5 o6 o7 o8 o9 : Obj} {ps1 ps2 : Array Value} {zs : List Nat}
inductive PJ (w : World) (L d tb vw lz lP fm : Addr) (wz : List Value) (kp : Led) (cz : List Int) (first : Int) (dvs : List Value) (dn : Nat) (o1 o2 o3 o4 o5 o6 o7 o8 o9 : Obj) (ps1 ps2 : Array Value) (zs : List Nat) (i : Nat) (m' : Str → Option Value) (nx : Led) : Prop
  | mk : ∀ (ts : List Addr) (n : Nat) (rest' : Led), nx = (lP, listOf (List.toArray (ts.map Value.ref)) n) :: TL L d (listOf (List.toArray dvs) dn) o1 o2 o3 o4 o5 o6 o7 o8 o9 ps1 ps2 rest' → ts.length = i → (∀ q ∈ TL L d (listOf (List.toArray dvs) dn) o1 o2 o3 o4 o5 o6 o7 o8 o9 ps1 ps2 rest', q.1 ≠ lP) → Rest w L d tb vw lz wz kp cz first ps1 ps2 rest' → mvr w L vw cz first o3 o2 rest' (some fm) → Nm m' d lz cz → m' "_law_parts" = some (.ref lP) → PartsAt cz zs ts rest' → PJ w L d tb vw lz lP fm wz kp cz first dvs dn o1 o2 o3 o4 o5 o6 o7 o8 o9 ps1 ps2 zs i m' nx
theorem PJ.step {g h5 : Heap} {I D9 : Addr} {own rest' rest1 : Led} {ts : List Addr} {n i z tk : Nat} {m' : Str → Option Value} {s₁ : Shared} {tA tB : Tok} {oI : Obj} (K : Dk L d) (hts : ts.length = i) (R' : Rest w L d tb vw lz wz kp cz first ps1 ps2 rest') (e3 : mvr w L vw cz first o3 o2 rest' (some fm)) (Nn : Nm m' d lz cz) (hp : m' "_law_parts" = some (.ref lP)) (hA : PartsAt cz zs ts rest')
    (hz : zs[i]? = some z) (ho1 : ∀ p ∈ own, p ∈ rest1) (ho2 : ∀ p ∈ rest', p ∈ rest1) (hoI : (I, oI) ∈ own) (hIP : lP ≠ I) (hI : ∀ q ∈ TL L d (listOf (List.toArray dvs) dn) o1 o2 o3 o4 o5 o6 o7 o8 o9 ps1 ps2 rest', q.1 ≠ I) (hP : ∀ q ∈ TL L d (listOf (List.toArray dvs) dn) o1 o2 o3 o4 o5 o6 o7 o8 o9 ps1 ps2 rest', q.1 ≠ lP)
    (hD : @LT.lt Nat _ lP D9) (hlt : ∀ q ∈ TL L d (listOf (List.toArray dvs) dn) o1 o2 o3 o4 o5 o6 o7 o8 o9 ps1 ps2 rest1, q.1 < D9)
    (F : Fr g L h5 m') (N : News g L h5 ((D9, tupO [.int ((lohi cz z 1).1 : Nat) tA, .int ((lohi cz z 1).2.1 : Nat) tB]) :: (lP, listOf ((List.toArray (ts.map Value.ref)).push (.ref D9)) (n + 1)) :: TL L d (listOf (List.toArray dvs) dn) o1 o2 o3 o4 o5 o6 o7 o8 o9 ps1 ps2 rest1)) :
    LoopStepU g L [I] own (PJ w L d tb vw lz lP fm wz kp cz first dvs dn o1 o2 o3 o4 o5 o6 o7 o8 o9 ps1 ps2 zs (i + 1)) s₁ .next { s₁ with heap := h5, toks := tk } := by
  have eP : listOf ((List.toArray (ts.map Value.ref)).push (.ref D9)) (n + 1) = listOf (List.toArray ((ts ++ [D9]).map Value.ref)) (n + 1) := by simp
  rw [eP] at N
  have hof : LOff L d ((D9, tupO [.int ((lohi cz z 1).1 : Nat) tA, .int ((lohi cz z 1).2.1 : Nat) tB]) :: rest') :=
    LOff.cons R'.off K.hL (hlt _ (TL.front (.head _))) (hlt _ (TL.front (.tail _ (.head _))))
  have hin : ∀ p ∈ rest', p ∈ (D9, tupO [.int ((lohi cz z 1).1 : Nat) tA, .int ((lohi cz z 1).2.1 : Nat) tB]) :: rest' := fun p hp => .tail _ hp
  have split : ∀ q ∈ TL L d (listOf (List.toArray dvs) dn) o1 o2 o3 o4 o5 o6 o7 o8 o9 ps1 ps2 ((D9, tupO [.int ((lohi cz z 1).1 : Nat) tA, .int ((lohi cz z 1).2.1 : Nat) tB]) :: rest'), q ∈ TL L d (listOf (List.toArray dvs) dn) o1 o2 o3 o4 o5 o6 o7 o8 o9 ps1 ps2 rest' ∨ q = (D9, tupO [.int ((lohi cz z 1).1 : Nat) tA, .int ((lohi cz z 1).2.1 : Nat) tB]) := fun q hq =>
    (TL.cases hq).elim (fun x => .inl (TL.front x)) fun x => (List.mem_cons.mp x).elim .inr fun y => .inl (TL.back y)
  refine LoopStepU.intro F (news₂ := (lP, listOf (List.toArray ((ts ++ [D9]).map Value.ref)) (n + 1)) :: TL L d (listOf (List.toArray dvs) dn) o1 o2 o3 o4 o5 o6 o7 o8 o9 ps1 ps2 ((D9, tupO [.int ((lohi cz z 1).1 : Nat) tA, .int ((lohi cz z 1).2.1 : Nat) tB]) :: rest')) (newsub N fun p hp => ?_) (fun p hp hpI => ?_) ⟨ts ++ [D9], n + 1, _, rfl, by rw [List.length_append, hts]; rfl, fun q hq => ?_, R'.mono hin hof, e3.mono hin, Nn, hp, hA.snoc hin (by rw [hts]; exact hz) (.head _)⟩
  · rcases List.mem_append.mp hp with q | q
    · exact .tail _ (.tail _ (TL.back (ho1 p q)))
    · rcases List.mem_cons.mp q with rfl | q
      · exact .tail _ (.head _)
      · rcases split p q with q | rfl
        · exact .tail _ (.tail _ (TL.sub ho2 p q))
        · exact .head _
  · have hpI := List.mem_singleton.mp hpI
    rcases List.mem_cons.mp hp with rfl | q
    · exact hIP hpI
    · rcases split p q with q | rfl
      · exact hI p q hpI
      · exact Nat.ne_of_gt (hlt _ (TL.back (ho1 _ hoI))) hpI
  · rcases split q hq with q' | rfl
    · exact hP q q'
    · exact Nat.ne_of_gt hD
end
include ho hb P B F X T hd hu C2 N in
theorem seg_parts {cM cC cL : Option Value} {fm : Addr} {j : Nat} {tj : Tok} (hj : j ≤ cz.length) (S : St w L d tb vw lz wz kp cz first at_ cM cC cL (some (.int j tj)) (some fm) m nx) :
    wpAny (model PySem.Challenge.rw_np0052_01.row.prog w) (ktrTop dp un gd qual scope L 448 (.ref 447) (cellsFrom (L + 1) scope.names []) []) (execs ((turn.drop 11).take 2) (envX qual scope L 448 (.ref 447) (cellsFrom (L + 1) scope.names [])))
      (SegEnd g L s fun m' nx' => ∃ Pl a b n t0 t1 u0 u1, m' "_law_parts" = some (.ref Pl) ∧ St w L d tb vw lz wz ((Pl, listOf (List.toArray [Value.ref a, Value.ref b]) n) :: (a, tupO [.int ((lohi cz at_ 1).1 : Nat) t0, .int ((lohi cz at_ 1).2.1 : Nat) t1]) :: (b, tupO [.int ((lohi cz j 1).1 : Nat) u0, .int ((lohi cz j 1).2.1 : Nat) u1]) :: kp) cz first at_ cM cC cL (some (.int j tj)) (some fm) m' nx') (fun _ _ => False) s := by
  refine genQ fun Q hQ => ?_
  have hK := P.dk
  revert hQ
  refine S.open N ?_
  clear S N
  intro dvs dns dn ps1 ps2 o1 o2 o3 o4 o5 o6 o7 o8 o9 rest tf ta tt N i1 k1 z1 e1 e2 e3 e4 e5 e6 e7 e8 e9 R Nn htx hdk hcd hQ
  have hO := R.off
  have e4' : o4.data = .cell (some (.int j tj)) := e4
  have hl := P.len
  have hl100 : cz.length < 100 := by with_reducible_and_instances exact Nat.lt_of_lt_of_le hl (by decide)
  have hz := P.at_le
  have hok := P.ok
  have e := ho.symm.trans (by k_is : _ = some _)
  clear ho
  revert hb
  apply obj_elim e
  clear e
  intro hb
  apply for_elim hb
  clear hb
  simp only [List.drop_succ_cons, List.drop_zero, List.take_succ_cons, List.take_zero]
  try dsimp only
  try k_fold
  have u0 : Unit := ()
  have u1 : Unit := ()
  have u2 : Unit := ()
  have u3 : Unit := ()
  have u4 : Unit := ()
  have u5 : Unit := ()
  have u6 : Unit := ()
  have u7 : Unit := ()
  revert P B F X T hd hu C2 hj hK N i1 k1 z1 e1 e2 e3 e4 e5 e6 e7 e8 e9 R Nn htx hdk hcd hQ hO e4' hl hl100 hz hok
  revert w p loose mean mg mb dp un gd A₀ base g L s m d lz vw tb wz kp cz first at_ nx cM cC cL fm j tj Q dvs dns dn ps1 ps2 o1 o2 o3 o4 o5 o6 o7 o8 o9 rest tf ta tt u0 u1 u2 u3 u4 u5 u6 u7
  refine @pk58 _ _ _ _ _ _ _ _ _ _ _ _ _ _ _ _ _ _ _ _ _ _ _ _ _ _ _ _ _ _ _ _ _ _ _ _ _ _ _ _ _ _ _ _ _ _ _ _ _ _ _ _ _ _ _ _ _ _ _ (ne2 (ne2 neW (ne2 nei (ne2 nei (ne2 nei (ne2 nei (ne2 nei (ne2 nei nei))))))) (ne2 (ne2 nei (ne2 neA (ne2 nei (ne2 nei (ne2 nei (ne2 neS (ne2 nei nei))))))) (ne2 (ne2 nei (ne2 nei (ne2 nei (ne2 nei (ne2 nei (ne2 nei (ne2 nei nei))))))) (ne2 (ne2 nei (ne2 nei (ne2 nei (ne2 nei (ne2 nei (ne2 nei (ne2 nei nei))))))) (ne2 (ne2 nei (ne2 nei (ne2 nei (ne2 nei (ne2 nei (ne2 nei (ne2 nei nei))))))) (ne2 (ne2 nei (ne2 nei (ne2 nei (ne2 nei (ne2 nei (ne2 nei (ne2 nei nei))))))) (ne2 (ne2 nei (ne2 nei (ne2 nei (ne2 nei (ne2 nei (ne2 nei (ne2 nei nei))))))) (ne2 nei nei)))))))) ?_
  intro P9 e9
  generalize wk58 _ _ = q
  generalize q.1 = q0, q.2.1 = q1, q.2.2.1 = q2, q.2.2.2.1 = q3, q.2.2.2.2.1 = q4, q.2.2.2.2.2.1 = q5, q.2.2.2.2.2.2.1 = q6, q.2.2.2.2.2.2.2 = q7
  generalize q0.1 = w, q0.2.1 = p, q0.2.2.1 = loose, q0.2.2.2.1 = mean, q0.2.2.2.2.1 = mg, q0.2.2.2.2.2.1 = mb, q0.2.2.2.2.2.2.1 = dp, q0.2.2.2.2.2.2.2 = un
  generalize q1.1 = gd, q1.2.1 = A₀, q1.2.2.1 = base, q1.2.2.2.1 = g, q1.2.2.2.2.1 = L, q1.2.2.2.2.2.1 = s, q1.2.2.2.2.2.2.1 = m, q1.2.2.2.2.2.2.2 = d
  generalize q2.1 = lz, q2.2.1 = vw, q2.2.2.1 = tb, q2.2.2.2.1 = wz, q2.2.2.2.2.1 = kp, q2.2.2.2.2.2.1 = cz, q2.2.2.2.2.2.2.1 = first, q2.2.2.2.2.2.2.2 = at_
  generalize q3.1 = nx, q3.2.1 = cM, q3.2.2.1 = cC, q3.2.2.2.1 = cL, q3.2.2.2.2.1 = fm, q3.2.2.2.2.2.1 = j, q3.2.2.2.2.2.2.1 = tj, q3.2.2.2.2.2.2.2 = Q
  generalize q4.1 = dvs, q4.2.1 = dns, q4.2.2.1 = dn, q4.2.2.2.1 = ps1, q4.2.2.2.2.1 = ps2, q4.2.2.2.2.2.1 = o1, q4.2.2.2.2.2.2.1 = o2, q4.2.2.2.2.2.2.2 = o3
  generalize q5.1 = o4, q5.2.1 = o5, q5.2.2.1 = o6, q5.2.2.2.1 = o7, q5.2.2.2.2.1 = o8, q5.2.2.2.2.2.1 = o9, q5.2.2.2.2.2.2.1 = rest, q5.2.2.2.2.2.2.2 = tf
  generalize q6.1 = ta, q6.2.1 = tt, q6.2.2.1 = u0, q6.2.2.2.1 = u1, q6.2.2.2.2.1 = u2, q6.2.2.2.2.2.1 = u3, q6.2.2.2.2.2.2.1 = u4, q6.2.2.2.2.2.2.2 = u5
  generalize q7.1 = u6, q7.2 = u7
  clear q q0 q1 q2 q3 q4 q5 q6 q7
  subst e9
  intro P B F X T hd hu C2 hj hK N i1 k1 z1 e1 e2 e3 e4 e5 e6 e7 e8 e9 R Nn htx hdk hcd hQ hO e4' hl hl100 hz hok
  clear u0 u1 u2 u3 u4 u5 u6 u7
  repeat' (first | with_reducible ((show wpAny _ _ (exec (Stmt.For _ _ _ _ _) _) _ _ _); (k_here; k_dflt ((rename Fr _ _ _ _ => lF'); (with_unfolding_all refine' For_invVF lF' ?k1 ?k2 ?_; (case k1 => exact rfl); (case k2 => exact rfl))))) | with_reducible ((show wpAny _ _ (pyIter (Value.ref _)) _ _ _); walk_at "st") | walk_at "stp")
  rename_i lP hA lPl hB Dt hC F1 N1 lD
  have lPl := allLt_lt (show AllLt lP (TL L d (listOf (List.toArray dvs) dn) o1 o2 o3 o4 o5 o6 o7 o8 o9 ps1 ps2 rest) from lPl)
  have lPD : lP < Dt := lD.1
  clear lD
  refine Stop.go (iter_tupJ (items := [.int at_ ta, .int j tj]) (nx₀ := (lP, listOf (List.toArray ([].map Value.ref)) 0) :: TL L d (listOf (List.toArray dvs) dn) o1 o2 o3 o4 o5 o6 o7 o8 o9 ps1 ps2 rest) rfl (.head _) F1 N1 (fun p hp => .tail _ hp)
    (PJ w L d tb vw lz lP fm wz kp cz first dvs dn o1 o2 o3 o4 o5 o6 o7 o8 o9 ps1 ps2 [at_, j])
    ⟨[], 0, rest, rfl, rfl, fun q hq => Nat.ne_of_lt (lPl q hq), R, e3, Nn.set (by decide) (by decide) (by decide), if_pos rfl, Nat.zero_le _, fun k z _ hk => absurd hk (Nat.not_lt_zero _)⟩ ?_ ?_)
  · intro i v m₁ nx I h₁ tk₁ own hv p9_9 hI hown p9_12 F2 N2
    refine genP fun C9 k9 => ?_
    obtain ⟨ts, n, rest', rfl, hts, hP, R', e3', Nn', hp', hA'⟩ := p9_9
    refine k9 ?_
    clear k9 C9
    refine genP fun C9 k9 => ?_
    obtain ⟨oI, hoI⟩ := p9_12
    refine k9 ?_
    clear k9 C9
    obtain ⟨z, t, rfl, hz1, hz2⟩ : ∃ (z : Nat) (t : Tok), v = .int z t ∧ ([at_, j] : List Nat)[i]? = some z ∧ z ≤ cz.length := by
      match i, hv with
      | 0, hv => cases hv; exact ⟨_, _, rfl, rfl, hz⟩
      | 1, hv => cases hv; exact ⟨_, _, rfl, rfl, hj⟩
    obtain ⟨tt', htx'⟩ := Nn'.tx
    have N3 := newsub N2 (nw' := (lP, listOf (List.toArray (ts.map Value.ref)) n) :: TL L d (listOf (List.toArray dvs) dn) o1 o2 o3 o4 o5 o6 o7 o8 o9 ps1 ps2 (own ++ rest')) fun p hp => by
      rcases List.mem_cons.mp hp with rfl | hp
      · exact List.mem_append_right _ (.head _)
      · rcases List.mem_append.mp (TL.sub_app p hp) with q | q
        · exact List.mem_append_left _ q
        · exact List.mem_append_right _ (.tail _ q)
    have hPr : ∀ q ∈ TL L d (listOf (List.toArray dvs) dn) o1 o2 o3 o4 o5 o6 o7 o8 o9 ps1 ps2 (own ++ rest'), q.1 ≠ lP := fun q hq => by
      rcases List.mem_append.mp (TL.sub_app q hq) with hq | hq
      · rcases hown q hq with e | e
        · rw [e]; exact Ne.symm (hI _ (.head _))
        · rw [e]; exact Nat.ne_of_gt lPD
      · exact hP q hq
    have ho1 : ∀ p ∈ own, p ∈ own ++ rest' := fun p hp => List.mem_append_left _ hp
    have ho2 : ∀ p ∈ rest', p ∈ own ++ rest' := fun p hp => List.mem_append_right _ hp
    clear N1 F1 N2 R e3 i1 k1 z1 hO
    generalize own ++ rest' = rest1 at *
    have hP1 : ∀ q ∈ TL L d (listOf (List.toArray dvs) dn) o1 o2 o3 o4 o5 o6 o7 o8 o9 ps1 ps2 rest1, q.1 ≠ lP := hPr
    repeat' (first | with_reducible ((show wpAny _ _ (call (Value.ref _) _ _) _ _ _); (k_here; (k_dflt show wpAny _ _ (call (Value.ref 424) _) _ _ _); (refine' useA ?N ?C ?B ?F ?X ?T ?K ?d ?u ?_; (case N => k_asm); (case C => k_dflt exact c_wm (by assumption) (by assumption) _ _ _ _ _ _ (by (first | assumption | exact rfl)) (by walk_at "w_bnd") (by with_reducible_and_instances decide)); (((case B => k_asm); (case F => k_asm); (case X => k_asm); (case T => k_asm); (case K => first | exact rfl | assumption); (case d => k_dflt (first | exact room_le (by assumption) (by first | decide | exact Nat.le_refl _ | exact Nat.le_succ_of_le (by assumption)) | ktr_room)); (case u => k_dflt (first | exact unit_le (by assumption) (by decide) | exact unit_le (k := 1) (by assumption) (by decide) | exact unit_le2 (by assumption) (by decide) | exact unit_leK (by assumption) (by first | exact Nat.le_refl _ | exact Nat.le_succ_of_le (by assumption)) | ktr_units))))); (((first | (with_reducible refine aft1 ?_; intro _ _ _ _ _) | (with_reducible refine aft0 ?_; intro _ _ _ _) | (with_reducible refine aft3 ?_; intro _ _ _ _ _ _ _) | (with_reducible refine aft4 ?_; intro _ _ _ _ _ _ _ _) | (with_reducible refine aft5f5 ?_; intro _ _ _ _ _ _ _ _ _ _ _ _ _ _) | (with_reducible refine aft3f2 ?_; intro _ _ _ _ _ _ _ _ _) | (with_reducible refine aft3f1 ?_; intro _ _ _ _ _ _ _ _) | (with_reducible refine aft1f1 ?_; intro _ _ _ _ _ _)))))) | with_reducible ((show wpAny _ _ (call (Value.builtin "min") _ _) _ _ _); (k_here; k_dflt (refine' minNat ?hh ?F ?N ?_; (case hh => with_unfolding_all rfl); (case F => k_asm); (case N => k_asm)); intro h' tk' t' F' N'; (try dsimp only))) | with_reducible ((show wpAny _ _ (call (Value.builtin "max") _ _) _ _ _); (k_here; k_dflt (refine' maxNat ?hh ?F ?N ?_; (case hh => with_unfolding_all rfl); (case F => k_asm); (case N => k_asm)); intro h' tk' t' F' N'; (try dsimp only))) | with_reducible ((show wpAny _ _ (call (Value.builtin "list.append") _ _) _ _ _); (k_here; k_dflt (refine stop_of ?_))) | walk_at "stp")
    rename News _ _ _ _ => N4
    rename Fr _ _ _ _ => F4
    rename @LT.lt Nat _ lP _ ∧ _ => lD
    rename_i D9 _
    have eA : min (wordF cz (wordF cz z 1) (-1)) (wordF cz z 1) = (lohi cz z 1).1 := Nat.min_comm _ _
    have eB : max (wordF cz (wordF cz z 1) (-1)) (wordF cz z 1) = (lohi cz z 1).2.1 := Nat.max_comm _ _
    rw [eA, eB] at N4
    have hts2 : ts.length ≤ 2 := hA'.1
    refine Stop.go (append_K F4 N4 (Upd.tail (Nat.ne_of_gt lD.1) (Upd.head hP1)) (fun h5 F5 N5 => ?_) (by rw [List.size_toArray, List.length_map, PySem.sizeLine_eq]; with_reducible_and_instances exact Nat.le_trans hts2 (by decide)))
    have lD2 := allLt_lt (show AllLt D9 (TL L d (listOf (List.toArray dvs) dn) o1 o2 o3 o4 o5 o6 o7 o8 o9 ps1 ps2 rest1) from lD.2)
    refine wpAny_execs_nil ?_
    exact PJ.step hK hts R' e3' (Nn'.set (by decide) (by decide) (by decide) |>.set (by decide) (by decide) (by decide)) (by walk_at "c_look") hA' hz1 ho1 ho2 hoI (hI _ (.head _)) (fun q hq => hI q (.tail _ hq)) hP lD.1 lD2 F5 N5
  · intro h' tk m' nx F2 N2 p9_6
    refine genP fun C9 k9 => ?_
    obtain ⟨ts, n, rest', rfl, hts, hP, R', e3', Nn', hp', hA'⟩ := p9_6
    refine k9 ?_
    clear k9 C9
    walk_at "steps"
    obtain ⟨a, t0, t1, ea, ma⟩ := hA'.2 0 at_ rfl (by rw [hts]; exact Nat.zero_lt_succ _)
    obtain ⟨b, u0, u1, eb, mb'⟩ := hA'.2 1 j rfl (by rw [hts]; exact Nat.lt_succ_self 1)
    obtain rfl : ts = [a, b] := by
      match ts, hts, ea, eb with
      | [x, y], _, ea, eb => cases ea; cases eb; rfl
    have hPo : LOff L d [(lP, listOf (List.toArray [Value.ref a, Value.ref b]) n)] := LOff.of_ne (dk := listOf (List.toArray dvs) dn) (o1 := o1) (o2 := o2) (o3 := o3) (o4 := o4) (o5 := o5) (o6 := o6) (o7 := o7) (o8 := o8) (o9 := o9) (ps1 := ps1) (ps2 := ps2) fun p hp q hq => by rw [List.mem_singleton.mp hp]; exact hP q (TL.front hq)
    have R3 := R'.app (hPo.app R'.off)
    subst hQ; exact seg_end F2 (newsub N2 (nw' := TL L d (listOf (List.toArray dvs) dn) o1 o2 o3 o4 o5 o6 o7 o8 o9 ps1 ps2 ((lP, listOf (List.toArray [Value.ref a, Value.ref b]) n) :: rest')) fun p hp => TL.sub_app (a := [(lP, _)]) p hp) ⟨lP, a, b, n, t0, t1, u0, u1, hp', St.of i1 k1 z1 e1 e2 (e3'.mono (fun p hp => .tail _ hp)) e4 e5 e6 e7 e8 e9 ⟨R3.off, R3.V, R3.hz, R3.iz, R3.T, R3.x1, R3.x2, fun p hp => by
      rcases List.mem_cons.mp hp with rfl | hp
      · exact .head _
      rcases List.mem_cons.mp hp with rfl | hp
      · exact .tail _ ma
      rcases List.mem_cons.mp hp with rfl | hp
      · exact .tail _ mb'
      · exact .tail _ (R'.hk p hp)⟩ Nn'⟩
end
section
theorem lohi_ok {cz : List Int} (h0 : 0 < cz.length) {i : Nat} (hi : i ≤ cz.length) : (0 : Int) ≤ ((lohi cz i 1).1 : Nat) ∧ (((lohi cz i 1).1 : Nat) : Int) < ((lohi cz i 1).2.1 : Nat) ∧ (((lohi cz i 1).2.1 : Nat) : Int) ≤ ((txt cz).length : Nat) := by
  have b1 : wordF cz i 1 ≤ cz.length := wordF_le hi
  have b2 : wordF cz (wordF cz i 1) (0 - 1) ≤ cz.length := wordF_le b1
  have b3 : wordF cz (wordF cz i 1) (0 - 1) ≠ wordF cz i 1 := wordF_apart (many := 1) (by decide) hi h0
  rw [txt_len]
  exact mm b1 b2 b3
include ho hb P B F X T hd hu C2 N in
theorem seg_due {st : Stmt} (hst : turn[13]? = some st) {cM cC cL : Option Value} {fm Pl a b : Addr} {n j : Nat} {tj t0 t1 u0 u1 : Tok} (hj : j ≤ cz.length) (hPl : m "_law_parts" = some (.ref Pl)) (S : St w L d tb vw lz wz ((Pl, listOf (List.toArray [Value.ref a, Value.ref b]) n) :: (a, tupO [.int ((lohi cz at_ 1).1 : Nat) t0, .int ((lohi cz at_ 1).2.1 : Nat) t1]) :: (b, tupO [.int ((lohi cz j 1).1 : Nat) u0, .int ((lohi cz j 1).2.1 : Nat) u1]) :: kp) cz first at_ cM cC cL (some (.int j tj)) (some fm) m nx) :
    wpAny (model PySem.Challenge.rw_np0052_01.row.prog w) (ktrTop dp un gd qual scope L 448 (.ref 447) (cellsFrom (L + 1) scope.names []) []) (exec st (envX qual scope L 448 (.ref 447) (cellsFrom (L + 1) scope.names [])))
      (SegEnd g L s fun m' nx' => ∃ r, m' "_law_due" = some r ∧ ExOut (exS (txt cz) ((lohi cz at_ 1).1 : Nat) ((lohi cz at_ 1).2.1 : Nat) ((lohi cz j 1).1 : Nat) ((lohi cz j 1).2.1 : Nat)) r ∧ St w L d tb vw lz wz kp cz first at_ cM cC cL (some (.int j tj)) (some fm) m' nx') (fun _ _ => False) s := by
  have S := S
  refine genQ fun Q hQ => ?_
  have hK := P.dk
  revert hQ
  refine S.open N ?_
  clear S N
  intro dvs dns dn ps1 ps2 o1 o2 o3 o4 o5 o6 o7 o8 o9 rest tf ta tt N i1 k1 z1 e1 e2 e3 e4 e5 e6 e7 e8 e9 R Nn htx hdk hcd hQ
  have hO := R.off
  have hl := P.len
  have hpl := R.hk _ (.head _)
  have h1 := R.hk _ (.tail _ (.head _))
  have h2 := R.hk _ (.tail _ (.tail _ (.head _)))
  have hkp : ∀ p ∈ kp, p ∈ rest := fun p hp => R.hk p (.tail _ (.tail _ (.tail _ hp)))
  have e := ho.symm.trans (by k_is : _ = some _)
  clear ho
  revert hst hb
  apply obj_elim e
  clear e
  intro hb
  apply for_elim hb
  clear hb
  intro hst
  apply st_elim hst
  clear hst
  try dsimp only
  try k_fold
  walk_at "steps"
  have Z : Cl o1 o2 o3 o4 o5 o6 o7 o8 o9 := ⟨⟨_, e1⟩, ⟨_, e2⟩, e3.cl, e4.cl, e5.cl, e6.cl, ⟨_, e7⟩, e8.cl, ⟨_, e9⟩⟩
  refine Stop.go (use_exL hK N R.x1 R.off (by rw [txt_len]; with_reducible_and_instances exact Nat.lt_of_lt_of_le hl (by decide)) h1 h2 (lohi_ok P.pos P.at_le) (lohi_ok P.pos hj) B F X T rfl (by first | exact room_le hd (by decide) | omega) (by first | exact unit_le hu (by decide) | exact unit_le2 hu (by decide) | omega) ?_)
  intro r ps1' own h2 tk2 F2 N2 q2 off2 x1'
  have R2 : Rest w L d tb vw lz wz kp cz first ps1' ps2 (own ++ rest) := ⟨off2, (R.app off2).V, (R.app off2).hz, R.iz, (R.app off2).T, x1', (R.app off2).x2, fun p hp => List.mem_append_right _ (hkp p hp)⟩
  have e3b := e3.mono (rest' := own ++ rest) fun p hp => List.mem_append_right _ hp
  clear F N R hkp hpl e3 hO
  generalize own ++ rest = rest2 at *
  walk_at "steps"
  subst hQ; exact seg_end (by assumption) (by assumption) ⟨r, if_pos rfl, q2, St.of i1 k1 z1 e1 e2 e3b e4 e5 e6 e7 e8 e9 R2 (Nn.set (by decide) (by decide) (by decide))⟩
end
section
include ho hb P B F X T hd hu C2 N in
theorem seg_seen {st : Stmt} (hst : turn[14]? = some st) {cM cC cL : Option Value} {fm : Addr} {j : Nat} {tj : Tok} {rd : Value} (hj : j ≤ cz.length) (hdue : m "_law_due" = some rd) (S : St w L d tb vw lz wz kp cz first at_ cM cC cL (some (.int j tj)) (some fm) m nx) :
    wpAny (model PySem.Challenge.rw_np0052_01.row.prog w) (ktrTop dp un gd qual scope L 448 (.ref 447) (cellsFrom (L + 1) scope.names []) []) (exec st (envX qual scope L 448 (.ref 447) (cellsFrom (L + 1) scope.names [])))
      (SegEnd g L s fun m' nx' => ∃ r fr, m' "_law_seen" = some r ∧ m' "_law_due" = some rd ∧ ResM fr r (mkR cz at_ j) ∧ St w L d tb vw lz wz (fr ++ kp) cz first at_ cM cC cL (some (.int j tj)) (some fm) m' nx') (fun _ _ => False) s := by
  refine genQ fun Q hQ => ?_
  have hK := P.dk
  revert hQ
  refine S.open N ?_
  clear S N
  intro dvs dns dn ps1 ps2 o1 o2 o3 o4 o5 o6 o7 o8 o9 rest tf ta tt N i1 k1 z1 e1 e2 e3 e4 e5 e6 e7 e8 e9 R Nn htx hdk hcd hQ
  have hO := R.off
  have e4' : o4.data = .cell (some (.int j tj)) := e4
  have e31 := e3.1
  have e := ho.symm.trans (by k_is : _ = some _)
  clear ho
  revert hst hb
  apply obj_elim e
  clear e
  intro hb
  apply for_elim hb
  clear hb
  intro hst
  apply st_elim hst
  clear hst
  try dsimp only
  try k_fold
  walk_at "steps"
  refine Stop.go (law_lam P.dk F N T C2 R.off R.x2 rfl rfl ?_)
  intro f c' ctv oc vs t ps2' own h1 tk1 F1 N1 y1 y2 hc x2' off' offf
  have R1 := R.lam off' x2'
  have V1 := R1.V
  have e3a := e3.mono (rest' := own ++ rest) fun p hp => List.mem_append_right _ hp
  clear F N R e3
  generalize own ++ rest = rest1 at *
  have e3m := e3a.2
  have TD := told_M (w := w) (k := 12) (first := first) (j := j) (O := marksE (okW cz) cz at_ j) N1 (TL.back hc) y1 y2 rfl rfl rfl rfl (by decide) (by
    clear B F1 X T hd hu
    intro p loose mean mg mb dp un gd outer A₀ base g L0 s B F X N T hd hu
    walk_at "steps"
    refine Stop.go (useX N (c_um (e3m.mono fun p hp => (List.mem_cons.mp hp).elim (fun z => z ▸ .tail _ (TL.front (.tail _ (.tail _ (.head _))))) fun z => .tail _ (TL.back z)) (R1.V.mono fun p hp => .tail _ (TL.back hp)) at_ j P.at_le hj _ _ rfl rfl _ _ (by decide)) B F X T rfl (by first | exact room_le hd (by decide) | omega) (by first | exact unit_le hu (by decide) | exact unit_le2 hu (by decide) | omega) (fun _ y => y) (fun _ h => h) (fun _ _ => rfl) ?_)
    rintro r nw h' tk' F' N' R'
    clear F N
    walk_at "steps"
    exact ends (by assumption) (by assumption) R')
  walk_at "steps"
  have hl := P.len
  have Z : Cl o1 o2 o3 o4 o5 o6 o7 o8 o9 := ⟨⟨_, e1⟩, ⟨_, e2⟩, e3a.cl, e4.cl, e5.cl, e6.cl, ⟨_, e7⟩, e8.cl, ⟨_, e9⟩⟩
  refine Stop.go (use_told N1 TD (by rw [txt_len]; with_reducible_and_instances exact Nat.lt_of_lt_of_le hl (by decide)) (by rw [txt_len]; exact marks_ok P.ok hl e3m.bnd at_ j P.at_le hj first) Z off' B F1 X T rfl (by first | exact room_le hd (by decide) | omega) (by first | exact unit_le hu (by decide) | exact unit_le2 hu (by decide) | omega) ?_)
  intro r front h2 tk2 F2 N2 q2 off2
  rw [marks_res at_ j first] at q2
  have R2 : Rest w L d tb vw lz wz ((front ++ rest1) ++ kp) cz first ps1 ps2' (front ++ rest1) := ⟨off2, (R1.app off2).V, (R1.app off2).hz, R1.iz, (R1.app off2).T, (R1.app off2).x1, (R1.app off2).x2, fun p hp => (List.mem_append.mp hp).elim id fun q => List.mem_append_right _ (R1.hk p q)⟩
  have e3b := e3a.mono (rest' := front ++ rest1) fun p hp => List.mem_append_right _ hp
  clear F1 N1 R1 TD offf hc e3a e3m hO
  generalize front ++ rest1 = rest2 at *
  walk_at "steps"
  subst hQ; exact seg_end (by assumption) (by assumption) ⟨r, rest2, if_pos rfl, (if_neg (by decide)).trans hdue, q2, St.of i1 k1 z1 e1 e2 e3b e4 e5 e6 e7 e8 e9 R2 (Nn.set (by decide) (by decide) (by decide))⟩
end
section
include ho hb P B F X T hd hu C2 N in
theorem seg_same {st : Stmt} (hst : turn[15]? = some st) {cM cC cL : Option Value} {fm : Addr} {j : Nat} {tj : Tok} {rd rs : Value} {fr : Led} (hdue : m "_law_due" = some rd) (hseen : m "_law_seen" = some rs) (hx : ExOut (exS (txt cz) ((lohi cz at_ 1).1 : Nat) ((lohi cz at_ 1).2.1 : Nat) ((lohi cz j 1).1 : Nat) ((lohi cz j 1).2.1 : Nat)) rd) (hr : ResM fr rs (mkR cz at_ j)) (S : St w L d tb vw lz wz (fr ++ kp) cz first at_ cM cC cL (some (.int j tj)) (some fm) m nx) :
    wpAny (model PySem.Challenge.rw_np0052_01.row.prog w) (ktrTop dp un gd qual scope L 448 (.ref 447) (cellsFrom (L + 1) scope.names []) []) (exec st (envX qual scope L 448 (.ref 447) (cellsFrom (L + 1) scope.names [])))
      (SegEnd g L s fun m' nx' => St w L d tb vw lz wz kp cz first at_ cM cC cL (some (.int j tj)) (some fm) m' nx') (fun _ _ => False) s := by
  refine genQ fun Q hQ => ?_
  have hK := P.dk
  revert hQ
  refine S.open N ?_
  clear S N
  intro dvs dns dn ps1 ps2 o1 o2 o3 o4 o5 o6 o7 o8 o9 rest tf ta tt N i1 k1 z1 e1 e2 e3 e4 e5 e6 e7 e8 e9 R Nn htx hdk hcd hQ
  have hO := R.off
  have e4' : o4.data = .cell (some (.int j tj)) := e4
  have hkp : ∀ p ∈ kp, p ∈ rest := fun p hp => R.hk p (List.mem_append_right _ hp)
  have hfr : ∀ p ∈ fr, p ∈ rest := fun p hp => R.hk p (List.mem_append_left _ hp)
  have R' : Rest w L d tb vw lz wz kp cz first ps1 ps2 rest := ⟨R.off, R.V, R.hz, R.iz, R.T, R.x1, R.x2, hkp⟩
  unfold mkR at hr
  have e := ho.symm.trans (by k_is : _ = some _)
  clear ho
  revert hst hb
  apply obj_elim e
  clear e
  intro hb
  apply for_elim hb
  clear hb
  intro hst
  apply st_elim hst
  clear hst
  try dsimp only
  try k_fold
  cases hq : exS (txt cz) ((lohi cz at_ 1).1 : Nat) ((lohi cz at_ 1).2.1 : Nat) ((lohi cz j 1).1 : Nat) ((lohi cz j 1).2.1 : Nat) with
  | none =>
    rw [hq] at hx hr
    dsimp only at hr
    obtain rfl : rd = .none := hx
    obtain ⟨ts, rfl⟩ := hr
    walk_at "steps"
    subst hQ; exact seg_end (by assumption) (by assumption) (St.of i1 k1 z1 e1 e2 e3 e4 e5 e6 e7 e8 e9 R' Nn)
  | some x =>
    rw [hq] at hx hr
    dsimp only at hr
    obtain ⟨td, rfl⟩ : ∃ t, rd = .str x t := hx
    refine genP fun C9 k9 => ?_
    refine ex_3_2 (hr) ?_
    try clear hr
    intro as t1 t2 e9_3 hms
    subst e9_3
    refine k9 ?_
    clear k9 C9
    walk_at "steps"
    rename News _ _ _ _ => N2
    refine Stop.go (ne_res (R := .text x j) (n1 := fr) (n2 := [(_, tupO [.str x td, .int j tj])]) N2 ⟨_, _, _, rfl, hms⟩ ⟨_, _, _, rfl, .head _⟩ (fun p hp => .tail _ (TL.back (hfr p hp))) (fun p hp => by rw [List.mem_singleton.mp hp]; exact .head _) (u64 hu) ?_)
    have N3 := newsub N2 fun p hp => List.mem_cons_of_mem _ hp
    clear N2
    walk_at "steps"
    subst hQ; exact seg_end (by assumption) (by assumption) (St.of i1 k1 z1 e1 e2 e3 e4 e5 e6 e7 e8 e9 R' Nn)
end
section
include ho hb P B F X T hd hu C2 N in
theorem seg_back {cM cC cK : Option Value} {cF : Option Addr} {k : Nat} {tm : Tok} (hk : 1 ≤ k ∧ k ≤ 3) (S : St w L d tb vw lz wz kp cz first at_ cM cC (some (.int k tm)) cK cF m nx) :
    wpAny (model PySem.Challenge.rw_np0052_01.row.prog w) (ktrTop dp un gd qual scope L 448 (.ref 447) (cellsFrom (L + 1) scope.names []) []) (execs (turn.drop 16) (envX qual scope L 448 (.ref 447) (cellsFrom (L + 1) scope.names [])))
      (SegEnd g L s fun m' nx' => St w L d tb vw lz wz kp cz first at_ cM cC (some (.int k tm)) cK cF m' nx') (fun _ _ => False) s := by
  refine genQ fun Q hQ => ?_
  have hK := P.dk
  revert hQ
  refine S.open N ?_
  clear S N
  intro dvs dns dn ps1 ps2 o1 o2 o3 o4 o5 o6 o7 o8 o9 rest tf ta tt N i1 k1 z1 e1 e2 e3 e4 e5 e6 e7 e8 e9 R Nn htx hdk hcd hQ
  have hO := R.off
  have e6' : o6.data = .cell (some (.int k tm)) := e6
  have hl := P.len
  have hz := P.at_le
  have hk1 : 0 < k := hk.1
  refine ex_2_12 (lines_facts P.ok P.len P.pos P.last at_ P.at_le) ?_
  intro ls o hgl hsp h10 hol hlast hst hcnt hfew hole hl1 hl2 hl3
  have hlow : (if (o : Int) - k > 0 then (o : Int) - k else 0) = ((o - k : Nat) : Int) := by split <;> (clear hd hu hk z1 hl hz hk1 h10 hol hlast hst hcnt hole hl2; lia)
  have hxl : (ls.map txt).length = ls.length := List.length_map ..
  have hol' : o < (ls.map txt).length := by rw [hxl]; exact hol
  obtain ⟨xs, hxs⟩ : ∃ xs, xs = ls.map txt := ⟨_, rfl⟩
  rw [← hxs] at hsp hfew hol'
  have hT : (txt cz).length < 100 := by rw [txt_len]; with_reducible_and_instances exact Nat.lt_of_lt_of_le hl (by decide)
  have hT2 : (txt cz).length = cz.length := txt_len cz
  obtain ⟨nx0, hnx⟩ : ∃ nx0, nx0 = TL L d (listOf (List.toArray dvs) dn) o1 o2 o3 o4 o5 o6 o7 o8 o9 ps1 ps2 rest := ⟨_, rfl⟩
  have n9 : (L + 1, o9) ∈ nx0 := hnx ▸ TL.front (.tail _ (.tail _ (.tail _ (.tail _ (.tail _ (.tail _ (.tail _ (.tail _ (.tail _ (.head _))))))))))
  have n6 : (L + 1 + 1 + 1 + 1, o6) ∈ nx0 := hnx ▸ TL.front (.tail _ (.tail _ (.tail _ (.tail _ (.tail _ (.tail _ (.head _)))))))
  have n7 : (L + 1 + 1 + 1, o7) ∈ nx0 := hnx ▸ TL.front (.tail _ (.tail _ (.tail _ (.tail _ (.tail _ (.tail _ (.tail _ (.head _))))))))
  have hxl2 : xs.length = ls.length := by rw [hxs]; exact hxl
  have hres : o + 1 < ls.length → ∀ a b, a = (fwdL cz 1 (startL cz at_)).1 → b = backL cz k (lsN cz (startL cz at_)) → toldR (.ok ((first + (b : Int), first + (a : Int), slice cz (startL cz at_) a ++ slice cz b (startL cz at_)), first + (b : Int) + (first + (a : Int)) - (first + (startL cz at_ : Nat)))) first (txt cz) = .text (bkS xs o k) (bkP xs o k) := by
    intro ho a b ha hb
    rw [hst] at ha hb ⊢
    rw [← hgl] at ha hb ⊢
    rw [hxs]
    exact back_res h10 o k ho first a b ha hb
  rw [← hnx] at N
  clear hl1 hl2 hl3 h10 hlast
  have e := ho.symm.trans (by k_is : _ = some _)
  clear ho
  revert hb
  apply obj_elim e
  clear e
  intro hb
  apply for_elim hb
  clear hb
  simp only [List.drop_succ_cons, List.drop_zero, List.take_succ_cons, List.take_zero]
  try dsimp only
  try k_fold
  have u0 : Unit := ()
  have u1 : Unit := ()
  have u2 : Unit := ()
  have u3 : Unit := ()
  revert P B F X T hd hu C2 hk hK i1 k1 z1 e1 e2 e3 e4 e5 e6 e7 e8 e9 R Nn htx hdk hcd hQ hO e6' hl hz hk1 hgl hol hst hcnt hole hlow hxl hol' hfew hsp hxs hT hT2 N hnx n9 n6 n7 hxl2 hres
  revert w p loose mean mg mb dp un gd A₀ base g L s m d lz vw tb wz kp cz first at_ nx cM cC cK cF k tm Q dvs dns dn ps1 ps2 o1 o2 o3 o4 o5 o6 o7 o8 o9 rest tf ta tt ls o xs nx0 u0 u1 u2 u3
  refine @pk58 _ _ _ _ _ _ _ _ _ _ _ _ _ _ _ _ _ _ _ _ _ _ _ _ _ _ _ _ _ _ _ _ _ _ _ _ _ _ _ _ _ _ _ _ _ _ _ _ _ _ _ _ _ _ _ _ _ _ _ (ne2 (ne2 neW (ne2 nei (ne2 nei (ne2 nei (ne2 nei (ne2 nei (ne2 nei nei))))))) (ne2 (ne2 nei (ne2 neA (ne2 nei (ne2 nei (ne2 nei (ne2 neS (ne2 nei nei))))))) (ne2 (ne2 nei (ne2 nei (ne2 nei (ne2 nei (ne2 nei (ne2 nei (ne2 nei nei))))))) (ne2 (ne2 nei (ne2 nei (ne2 nei (ne2 nei (ne2 nei (ne2 nei (ne2 nei nei))))))) (ne2 (ne2 nei (ne2 nei (ne2 nei (ne2 nei (ne2 nei (ne2 nei (ne2 nei nei))))))) (ne2 (ne2 nei (ne2 nei (ne2 nei (ne2 nei (ne2 nei (ne2 nei (ne2 nei nei))))))) (ne2 (ne2 nei (ne2 nei (ne2 nei (ne2 nei (ne2 nei (ne2 nei (ne2 nei nei))))))) (ne2 nei nei)))))))) ?_
  intro P9 e9
  generalize wk58 _ _ = q
  generalize q.1 = q0, q.2.1 = q1, q.2.2.1 = q2, q.2.2.2.1 = q3, q.2.2.2.2.1 = q4, q.2.2.2.2.2.1 = q5, q.2.2.2.2.2.2.1 = q6, q.2.2.2.2.2.2.2 = q7
  generalize q0.1 = w, q0.2.1 = p, q0.2.2.1 = loose, q0.2.2.2.1 = mean, q0.2.2.2.2.1 = mg, q0.2.2.2.2.2.1 = mb, q0.2.2.2.2.2.2.1 = dp, q0.2.2.2.2.2.2.2 = un
  generalize q1.1 = gd, q1.2.1 = A₀, q1.2.2.1 = base, q1.2.2.2.1 = g, q1.2.2.2.2.1 = L, q1.2.2.2.2.2.1 = s, q1.2.2.2.2.2.2.1 = m, q1.2.2.2.2.2.2.2 = d
  generalize q2.1 = lz, q2.2.1 = vw, q2.2.2.1 = tb, q2.2.2.2.1 = wz, q2.2.2.2.2.1 = kp, q2.2.2.2.2.2.1 = cz, q2.2.2.2.2.2.2.1 = first, q2.2.2.2.2.2.2.2 = at_
  generalize q3.1 = nx, q3.2.1 = cM, q3.2.2.1 = cC, q3.2.2.2.1 = cK, q3.2.2.2.2.1 = cF, q3.2.2.2.2.2.1 = k, q3.2.2.2.2.2.2.1 = tm, q3.2.2.2.2.2.2.2 = Q
  generalize q4.1 = dvs, q4.2.1 = dns, q4.2.2.1 = dn, q4.2.2.2.1 = ps1, q4.2.2.2.2.1 = ps2, q4.2.2.2.2.2.1 = o1, q4.2.2.2.2.2.2.1 = o2, q4.2.2.2.2.2.2.2 = o3
  generalize q5.1 = o4, q5.2.1 = o5, q5.2.2.1 = o6, q5.2.2.2.1 = o7, q5.2.2.2.2.1 = o8, q5.2.2.2.2.2.1 = o9, q5.2.2.2.2.2.2.1 = rest, q5.2.2.2.2.2.2.2 = tf
  generalize q6.1 = ta, q6.2.1 = tt, q6.2.2.1 = ls, q6.2.2.2.1 = o, q6.2.2.2.2.1 = xs, q6.2.2.2.2.2.1 = nx0, q6.2.2.2.2.2.2.1 = u0, q6.2.2.2.2.2.2.2 = u1
  generalize q7.1 = u2, q7.2 = u3
  clear q q0 q1 q2 q3 q4 q5 q6 q7
  subst e9
  intro P B F X T hd hu C2 hk hK i1 k1 z1 e1 e2 e3 e4 e5 e6 e7 e8 e9 R Nn htx hdk hcd hQ hO e6' hl hz hk1 hgl hol hst hcnt hole hlow hxl hol' hfew hsp hxs hT hT2 N hnx n9 n6 n7 hxl2 hres
  clear u0 u1 u2 u3
  repeat' (first | with_reducible ((k_here; (with_reducible show wpAny _ _ (subscriptTail _ _ (Value.ref _) (Value.ref _)) _ _ _); k_dflt (refine' sliceX ?F ?N ?m ?i ?f ?a ?pl ?pu ?h0 ?h1 ?_; (case F => k_asm); (case N => k_asm); (case m => k_mem); (case i => (first | with_reducible assumption | assumption | exact StrsAre.cons _ _ .nil)); (case f => (first | with_reducible assumption | exact Few.one (by with_reducible assumption) | assumption | exact Few.one (by assumption))); (case a => decide); (case pl => (first | exact IsPart.none | exact IsPart.int _ _)); (case pu => (first | exact IsPart.none | exact IsPart.int _ _)); (case h0 => (first | (intro z q; (have q := Option.some.inj q); subst q; omega) | (intro z q; cases q; done))); (case h1 => (first | (intro z q; (have q := Option.some.inj q); subst q; with_reducible_and_instances exact Int.natCast_nonneg _) | (intro z q; cases q; done)))); ((intro D' vs' h' i' f' F' N' l1; (have f9 := Few.len f'); (try dsimp only at F' N'); (try k_lt l1); (try dsimp only))))) | with_reducible ((show wpAny _ _ (binaryOp _ _ _) _ _ _); (k_here; k_dflt (refine' addX ?F ?N ?m ?i ?f ?m2 ?i2 ?f2 ?a ?_; (case F => k_asm); (case N => k_asm); (case m => k_mem); (case i => (first | with_reducible assumption | assumption | exact StrsAre.cons _ _ .nil)); (case f => (first | with_reducible assumption | exact Few.one (by with_reducible assumption) | assumption | exact Few.one (by assumption))); (case m2 => k_mem); (case i2 => (first | with_reducible assumption | assumption | exact StrsAre.cons _ _ .nil)); (case f2 => (first | with_reducible assumption | exact Few.one (by with_reducible assumption) | assumption | exact Few.one (by assumption))); (case a => decide)); ((intro D' vs' h' i' f' F' N' l1; (have f9 := Few.len f'); (try dsimp only at F' N'); (try k_lt l1); (try dsimp only))))) | with_reducible ((show wpAny _ _ (eval (Expr.Name _ _) _) _ _ _); (k_here; k_dflt (refine' nameX_C ?N ?c ?m ?d ?_ ?a ?b; (case a => rfl); (case b => rfl); (case N => k_asm); (case c => rfl); (case m => first | assumption | exact List.mem_cons_of_mem _ (by assumption) | (repeat (first | assumption | refine List.mem_cons_of_mem _ ?_))); (case d => k_asm)))) | with_reducible ((show wpAny _ _ (eval (Expr.ListComp _ _ _ _) _) _ _ _); (k_here; k_dflt (refine LCg.ListComp_U (F₀ := by k_asm) (by with_unfolding_all rfl) (by decide) (by rfl) (by decide) (by rfl) ?_))) | with_reducible ((show wpAny _ _ (call (Value.builtin "str.split") _ _) _ _ _); (k_here; k_dflt (refine splitX (by assumption) (by k_asm) (by k_asm) (by decide) (by with_reducible_and_instances exact Nat.lt_of_lt_of_le hT (by decide)) ?_); intro D' vs' h' k' i' F' N' l1; (try dsimp only at F' N'); (try k_lt l1); (try dsimp only))) | with_reducible ((show wpAny _ _ (call (Value.builtin "max") _ _) _ _ _); (k_here; k_dflt (refine' maxX ?hh ?F ?N ?e ?_; (case hh => with_unfolding_all rfl); (case F => k_asm); (case N => k_asm); (case e => assumption)); intro h' tk' t' F' N')) | with_reducible ((show wpAny _ _ (call (Value.builtin "len") _ _) _ _ _); (k_here; k_dflt (refine' lenX ?N ?m ?i ?f ?a ?_; (case N => k_asm); (case m => k_mem); (case i => (first | with_reducible assumption | assumption | exact StrsAre.cons _ _ .nil)); (case f => (first | with_reducible assumption | exact Few.one (by with_reducible assumption) | assumption | exact Few.one (by assumption))); (case a => decide)); (try dsimp only))) | with_reducible ((show wpAny _ _ (call (Value.builtin "str.join") _ _) _ _ _); (k_here; k_dflt (refine' joinX ?N ?l ?i ?f ?s ?w ?_; (case N => k_asm); (case l => k_mem); (case i => assumption); (case f => assumption); (case s => decide +kernel); (case w => decide)); intro t' k' z'; (try dsimp only))) | with_reducible ((k_here; (with_reducible show wpAny _ _ (subscriptTail _ _ (Value.ref _) (Value.int _ _)) _ _ _); k_dflt (refine' subX ?N ?m ?i ?f ?a ?h0 ?hk ?_; (case N => k_asm); (case m => k_mem); (case i => (first | with_reducible assumption | assumption | exact StrsAre.cons _ _ .nil)); (case f => (first | with_reducible assumption | exact Few.one (by with_reducible assumption) | assumption | exact Few.one (by assumption))); (case a => decide); (case h0 => with_reducible_and_instances exact Int.natCast_nonneg _); (case hk => (clear hd hu hk z1 hl hz hk1 hol hst hcnt hole hlow hxl hol' hT hT2 hxl2 hres f9 l1; lia))); intro _ _)) | walk_at "stp")
  · have hlt : o + 1 < ls.length := by (clear hd hu hk z1 hl hz hk1 hol hst hcnt hole hlow hxl hol' hT hT2 hres z' f9 l1; lia)
    have hres := hres hlt
    refine Stop.go ?_
    refine' comp_strs (fun r : Str => (r.length : Int) + 1) (fun (b : Int) v => ∃ t, v = .int b t) rfl ?dF ?dN ?dm ?di ?df ?da (fun y t I oI C oC D m₂ ys h tk E' hlen hC hx F N off ne => ?turn) fun gg ys hy => ?fin
    (case dF => assumption)
    (case dN => assumption)
    (case dm => exact .head _)
    (case di => assumption)
    (case df => assumption)
    (case da => decide)
    (case turn =>
      walk_at "steps"
      refine Stop.go ?_
      exact LCg.CompEnd.intro (by assumption) (by assumption) _ (fun _ h => h) off (.inr ⟨_, .head _, rfl, _, rfl⟩) ⟨rfl, _, rfl⟩)
    intro D h tk F N oo1
    have hy := all_ints hy
    repeat' (first | with_reducible ((show wpAny _ _ (eval (Expr.Name _ _) _) _ _ _); (k_here; k_dflt (refine' nameX_C ?N ?c ?m ?d ?_ ?a ?b; (case a => rfl); (case b => rfl); (case N => k_asm); (case c => rfl); (case m => first | assumption | exact List.mem_cons_of_mem _ (by assumption) | (repeat (first | assumption | refine List.mem_cons_of_mem _ ?_))); (case d => k_asm)))) | walk_at "stp")
    rename News _ _ _ _ => Nf
    rename Fr _ _ _ _ => Ff
    have N4 := newsub Nf (nw' := nx0) (fun p hp => by repeat (first | exact hp | refine List.mem_cons_of_mem _ ?_))
    clear Nf hy n9 n6 n7 hcnt hsp hfew
    subst hnx
    refine Stop.go (law_lam hK Ff N4 T C2 R.off R.x2 rfl rfl ?_)
    intro f c' ctv oc vs t ps2' own h1 tk1 F1 N1 y1 y2 hc x2' off' offf
    have R1 := R.lam off' x2'
    have e3a := e3.mono (rest' := own ++ rest) fun p hp => List.mem_append_right _ hp
    have Z : Cl o1 o2 o3 o4 o5 o6 o7 o8 o9 := ⟨⟨_, e1⟩, ⟨_, e2⟩, e3.cl, e4.cl, e5.cl, e6.cl, ⟨_, e7⟩, e8.cl, ⟨_, e9⟩⟩
    clear Ff N4 R e3 hO
    generalize own ++ rest = rest1 at *
    obtain ⟨a, ha⟩ : ∃ a, a = (fwdL cz 1 (startL cz at_)).1 := ⟨_, rfl⟩
    obtain ⟨b, hb⟩ : ∃ b, b = backL cz k (lsN cz (startL cz at_)) := ⟨_, rfl⟩
    have hres := hres a b ha hb
    have TD := told_L (w := w) (k := 6) (e0 := first + (b : Nat)) (e1 := first + (a : Nat)) (codes := slice cz (startL cz at_) a ++ slice cz b (startL cz at_)) (pl := first + (b : Int) + (first + (a : Int)) - (first + (startL cz at_ : Nat))) N1 (TL.back hc) y1 y2 rfl rfl rfl rfl (by decide) (h := by
      clear B F1 X T hd hu
      intro p loose mean mg mb dp un gd outer A₀ base g L0 s B F X N T hd hu
      walk_at "steps"
      refine Stop.go (useX N (c_lines_back_edit (R1.V.mono fun p hp => .tail _ (TL.back hp)) at_ P.at_le _ rfl _ k hk1 (by (clear z1 hl hz hk1 hol hst hole hlow hxl hol' hT hT2 hxl2 z' f9 hlt l1 ha hb hd hu; lia)) _ rfl _).toX B F X T rfl (by first | exact room_le hd (by decide) | omega) (by first | exact unit_le hu (by decide) | exact unit_le2 hu (by decide) | omega) (fun _ y => y) (fun _ h => h) (fun _ _ => rfl) ?_)
      rintro r nw h' tk' F' N' R'
      clear F N
      walk_at "steps"
      exact ends (by assumption) (by assumption) (R' a b ha hb))
    walk_at "steps"
    refine Stop.go (use_told N1 TD (by rw [txt_len]; (clear hd hu hk z1 hl hz hk1 hol hst hole hlow hxl hol' hxl2 z' f9 hlt l1 ha hb; lia)) (by rw [txt_len]; exact back_ok P.ok hl _ (by rw [hst]; exact hole) k first _ a b ha hb) Z off' B F1 X T rfl (by first | exact room_le hd (by decide) | omega) (by first | exact unit_le hu (by decide) | exact unit_le2 hu (by decide) | omega) ?_)
    intro r front h2 tk2 F2 N2 q2 off2
    rw [hres] at q2
    refine genP fun C9 k9 => ?_
    refine ex_3_2 (q2) ?_
    try clear q2
    intro ar tr tr' e9_3 hmr
    subst e9_3
    refine k9 ?_
    clear k9 C9
    have R2 := R1.app off2
    have e3b := e3a.mono (rest' := front ++ rest1) fun p hp => List.mem_append_right _ hp
    clear F1 N1 R1 TD offf hc e3a
    generalize front ++ rest1 = rest2 at *
    walk_at "steps"
    rename News _ _ _ _ => N5
    refine Stop.go (ne_res (R := .text (bkS xs o k) (bkP xs o k)) (n1 := rest2) (n2 := [(_, tupO [.str (bkS xs o k) _, .int (bkP xs o k) _])]) N5 ⟨_, _, _, rfl, hmr⟩ ⟨_, _, _, rfl, .head _⟩ (fun p hp => .tail _ (TL.back hp)) (fun p hp => by rw [List.mem_singleton.mp hp]; exact .head _) (u64 hu) ?_)
    have N6 := newsub N5 fun p hp => List.mem_cons_of_mem _ hp
    clear N5
    walk_at "steps"
    subst hQ; exact seg_end (by assumption) (by assumption) (St.of i1 k1 z1 e1 e2 e3b e4 e5 e6 e7 e8 e9 R2 (((((Nn.set (by decide) (by decide) (by decide)).set (by decide) (by decide) (by decide)).set (by decide) (by decide) (by decide)).set (by decide) (by decide) (by decide)).set (by decide) (by decide) (by decide)))
  · rename News _ _ _ _ => Nf
    have N4 := newsub Nf (nw' := nx0) (fun p hp => by repeat (first | exact hp | refine List.mem_cons_of_mem _ ?_))
    subst hnx
    subst hQ; exact seg_end (by assumption) N4 (St.of i1 k1 z1 e1 e2 e3 e4 e5 e6 e7 e8 e9 R ((Nn.set (by decide) (by decide) (by decide)).set (by decide) (by decide) (by decide)))
end
end
section
local macro_rules | `(tactic| walk_at "call ref") => `(tactic| walk_at "st")
local macro_rules | `(tactic| walk_at "u_ne") => `(tactic| first | assumption | exact Ne.symm (by assumption) | k_ne | (refine @Nat.ne_of_gt _ _ ?_; omega) | (refine @Nat.ne_of_lt _ _ ?_; omega))
local macro_rules | `(tactic| walk_at "u_rest") => `(tactic| first
  | exact LOff.dk (by assumption)
  | exact LOff.t1 (by assumption)
  | exact LOff.t2 (by assumption)
  | exact LOff.c1 (by assumption)
  | exact LOff.c2 (by assumption)
  | exact LOff.c3 (by assumption)
  | exact LOff.c4 (by assumption)
  | exact LOff.c5 (by assumption)
  | exact LOff.c6 (by assumption)
  | exact LOff.c7 (by assumption)
  | exact LOff.c8 (by assumption)
  | exact LOff.c9 (by assumption))
local macro_rules | `(tactic| walk_at "u_all") => `(tactic| first | walk_at "u_rest" | (refine List.forall_mem_cons.mpr ⟨by walk_at "u_ne", ?_⟩; walk_at "u_all"))
local macro_rules | `(tactic| walk_at "u_cell") => `(tactic| first | (refine UpdF.head ?_; walk_at "u_all") | (refine' UpdF.tail ?a ?b; (case a => walk_at "u_ne"); (case b => walk_at "u_cell")))
local macro_rules | `(tactic| walk_at "pyIter ref") => `(tactic| walk_at "st")
local macro_rules | `(tactic| walk_at "call ref") => `(tactic| walk_at "st")
section
theorem TL.ne_d {L d : Addr} {o1 o2 o3 o4 o5 o6 o7 o8 o9 : Obj} {ps1 ps2 : Array Value} {rest : Led} (K : Dk L d) (hO : LOff L d rest) : ∀ p ∈ (L + 1 + 1 + 1 + 1 + 1 + 1 + 1 + 1 + 1, o1) :: (L + 1 + 1 + 1 + 1 + 1 + 1 + 1 + 1, o2) :: (L + 1 + 1 + 1 + 1 + 1 + 1 + 1, o3) :: (L + 1 + 1 + 1 + 1 + 1 + 1, o4) :: (L + 1 + 1 + 1 + 1 + 1, o5) :: (L + 1 + 1 + 1 + 1, o6) :: (L + 1 + 1 + 1, o7) :: (L + 1 + 1, o8) :: (L + 1, o9) :: (426, tabObj ps1) :: (445, tabObj ps2) :: rest, p.1 ≠ d := by
  refine genP fun C9 k9 => ?_
  obtain ⟨hL, q0, q1, q2, q3, q4, q5, q6, q7, q8, q9, q10⟩ := K
  refine k9 ?_
  clear k9 C9
  walk_at "u_all"
theorem pick5 {z : Nat} {x : Value} {t0 t1 t2 t3 : Tok} (h : ([.none, .int 1 t0, .int 2 t1, .int (-1) t2, .int (-2) t3] : List Value)[z]? = some x) : x = .none ∨ ∃ k t, x = .int k t ∧ (-2 ≤ k ∧ k ≤ 2 ∧ k ≠ 0) := by
  match z, h with
  | 0, h => cases h; exact .inl rfl
  | 1, h => cases h; exact .inr ⟨_, _, rfl, by decide⟩
  | 2, h => cases h; exact .inr ⟨_, _, rfl, by decide⟩
  | 3, h => cases h; exact .inr ⟨_, _, rfl, by decide⟩
  | 4, h => cases h; exact .inr ⟨_, _, rfl, by decide⟩
  | n + 5, h => cases h
theorem seg_start {w : World} {p : Program} {loose : List Str} {mean : ExcName → Option Value} {mg mb : Str → Option Value} {dp un : Nat} {gd : Option (List Code)} {A₀ : Around} {base g : Heap} {L : Addr} {s : Shared}
    {name qual : Str} {params : Arguments} {body : List Stmt} {scope : Scope} {dV kV doc pm cdv ct oc : Value} {an od : Option Addr} {osl : Array (Option Value)}
    (ho : (hd.heap_1 w.params).lookup 448 = some ⟨oc, od, .func (fnOf name qual params body scope dV kV doc pm an cdv ct), osl⟩) {tgt it : Expr} {turn els : List Stmt} {pos : Pos} (hb : body[1]? = some (.For tgt it turn els pos))
    {m : Str → Option Value} {d tb : Addr} {kp : Led} {dvs : List Value} {dns : List Int} {dn : Nat} {o1 o2 o3 o4 o5 o6 o7 o8 o9 : Obj} {ps1 ps2 : Array Value} {rest : Led} {v1 v3 v4 v5 v6 v7 v8 v9 : Option Value} (hK : Dk L d)
    (B : Below A₀ base [] g) (F : Fr g L s.heap m) (X : (hd.heap_1 w.params).In g) (T : Top p loose mean mg mb g) (hd : dp + 30 < recursionLimit) (hu : un + 300 < cLine) (N : News g L s.heap (TL L d (listOf (List.toArray dvs) dn) o1 o2 o3 o4 o5 o6 o7 o8 o9 ps1 ps2 rest))
    (hm : m "_law_deck" = some (.ref d)) (i1 : IntsAre dvs dns) (k1 : DeckOk dns) (z1 : dns.length < 100)
    (e1 : o1.data = .cell v1) (e2 : o2.data = .cell (some (.ref tb))) (e3 : o3.data = .cell v3) (e4 : o4.data = .cell v4) (e5 : o5.data = .cell v5) (e6 : o6.data = .cell v6) (e7 : o7.data = .cell v7) (e8 : o8.data = .cell v8) (e9 : o9.data = .cell v9)
    (hO : LOff L d rest) (hT : TabW w rest tb) (x1 : ExTab 426 qEx ps1 rest) (x2 : ExTab 445 qL ps2 rest) (hkp : ∀ p ∈ kp, p ∈ rest) :
    wpAny (model PySem.Challenge.rw_np0052_01.row.prog w) (ktrTop dp un gd qual scope L 448 (.ref 447) (cellsFrom (L + 1) scope.names []) []) (execs (turn.take 4) (envX qual scope L 448 (.ref 447) (cellsFrom (L + 1) scope.names [])))
      (SegEnd g L s fun m' nx' => ∃ vw lz wz cz first at_ vm, Tf L d cz first at_ ∧ (vm = .none ∨ ∃ many t, vm = .int many t ∧ (-2 ≤ many ∧ many ≤ 2 ∧ many ≠ 0)) ∧ St w L d tb vw lz wz kp cz first at_ (some vm) none none none none m' nx') (fun _ _ => False) s := by
  have e := ho.symm.trans (by k_is : _ = some _)
  clear ho
  revert hb
  apply obj_elim e
  clear e
  intro hb
  apply for_elim hb
  clear hb
  simp only [List.drop_succ_cons, List.drop_zero, List.take_succ_cons, List.take_zero]
  try dsimp only
  try k_fold
  have u0 : Unit := ()
  have u1 : Unit := ()
  have u2 : Unit := ()
  have u3 : Unit := ()
  have u4 : Unit := ()
  have u5 : Unit := ()
  have u6 : Unit := ()
  have u7 : Unit := ()
  have u8 : Unit := ()
  have u9 : Unit := ()
  have u10 : Unit := ()
  have u11 : Unit := ()
  have u12 : Unit := ()
  have u13 : Unit := ()
  have u14 : Unit := ()
  have u15 : Unit := ()
  have u16 : Unit := ()
  revert hK B F X T hd hu N hm i1 k1 z1 e1 e2 e3 e4 e5 e6 e7 e8 e9 hO hT x1 x2 hkp
  revert w p loose mean mg mb dp un gd A₀ base g L s m d tb kp dvs dns dn o1 o2 o3 o4 o5 o6 o7 o8 o9 ps1 ps2 rest v1 v3 v4 v5 v6 v7 v8 v9 u0 u1 u2 u3 u4 u5 u6 u7 u8 u9 u10 u11 u12 u13 u14 u15 u16
  refine @pk58 _ _ _ _ _ _ _ _ _ _ _ _ _ _ _ _ _ _ _ _ _ _ _ _ _ _ _ _ _ _ _ _ _ _ _ _ _ _ _ _ _ _ _ _ _ _ _ _ _ _ _ _ _ _ _ _ _ _ _ (ne2 (ne2 neW (ne2 nei (ne2 nei (ne2 nei (ne2 nei (ne2 nei (ne2 nei nei))))))) (ne2 (ne2 nei (ne2 neA (ne2 nei (ne2 nei (ne2 nei (ne2 neS (ne2 nei nei))))))) (ne2 (ne2 nei (ne2 nei (ne2 nei (ne2 nei (ne2 nei (ne2 nei (ne2 nei nei))))))) (ne2 (ne2 nei (ne2 nei (ne2 nei (ne2 nei (ne2 nei (ne2 nei (ne2 nei nei))))))) (ne2 (ne2 nei (ne2 nei (ne2 nei (ne2 nei (ne2 nei (ne2 nei (ne2 nei nei))))))) (ne2 (ne2 nei (ne2 nei (ne2 nei (ne2 nei (ne2 nei (ne2 nei (ne2 nei nei))))))) (ne2 (ne2 nei (ne2 nei (ne2 nei (ne2 nei (ne2 nei (ne2 nei (ne2 nei nei))))))) (ne2 nei nei)))))))) ?_
  intro P9 e9
  generalize wk58 _ _ = q
  generalize q.1 = q0, q.2.1 = q1, q.2.2.1 = q2, q.2.2.2.1 = q3, q.2.2.2.2.1 = q4, q.2.2.2.2.2.1 = q5, q.2.2.2.2.2.2.1 = q6, q.2.2.2.2.2.2.2 = q7
  generalize q0.1 = w, q0.2.1 = p, q0.2.2.1 = loose, q0.2.2.2.1 = mean, q0.2.2.2.2.1 = mg, q0.2.2.2.2.2.1 = mb, q0.2.2.2.2.2.2.1 = dp, q0.2.2.2.2.2.2.2 = un
  generalize q1.1 = gd, q1.2.1 = A₀, q1.2.2.1 = base, q1.2.2.2.1 = g, q1.2.2.2.2.1 = L, q1.2.2.2.2.2.1 = s, q1.2.2.2.2.2.2.1 = m, q1.2.2.2.2.2.2.2 = d
  generalize q2.1 = tb, q2.2.1 = kp, q2.2.2.1 = dvs, q2.2.2.2.1 = dns, q2.2.2.2.2.1 = dn, q2.2.2.2.2.2.1 = o1, q2.2.2.2.2.2.2.1 = o2, q2.2.2.2.2.2.2.2 = o3
  generalize q3.1 = o4, q3.2.1 = o5, q3.2.2.1 = o6, q3.2.2.2.1 = o7, q3.2.2.2.2.1 = o8, q3.2.2.2.2.2.1 = o9, q3.2.2.2.2.2.2.1 = ps1, q3.2.2.2.2.2.2.2 = ps2
  generalize q4.1 = rest, q4.2.1 = v1, q4.2.2.1 = v3, q4.2.2.2.1 = v4, q4.2.2.2.2.1 = v5, q4.2.2.2.2.2.1 = v6, q4.2.2.2.2.2.2.1 = v7, q4.2.2.2.2.2.2.2 = v8
  generalize q5.1 = v9, q5.2.1 = u0, q5.2.2.1 = u1, q5.2.2.2.1 = u2, q5.2.2.2.2.1 = u3, q5.2.2.2.2.2.1 = u4, q5.2.2.2.2.2.2.1 = u5, q5.2.2.2.2.2.2.2 = u6
  generalize q6.1 = u7, q6.2.1 = u8, q6.2.2.1 = u9, q6.2.2.2.1 = u10, q6.2.2.2.2.1 = u11, q6.2.2.2.2.2.1 = u12, q6.2.2.2.2.2.2.1 = u13, q6.2.2.2.2.2.2.2 = u14
  generalize q7.1 = u15, q7.2 = u16
  clear q q0 q1 q2 q3 q4 q5 q6 q7
  subst e9
  intro hK B F X T hd hu N hm i1 k1 z1 e1 e2 e3 e4 e5 e6 e7 e8 e9 hO hT x1 x2 hkp
  clear u0 u1 u2 u3 u4 u5 u6 u7 u8 u9 u10 u11 u12 u13 u14 u15 u16
  walk_at "steps"
  refine Stop.go (useA N (c_some _ _ (TL.ne_d hK hO) i1 k1 z1) B F X T rfl (by first | exact room_le hd (by decide) | omega) (by first | exact unit_le hu (by decide) | exact unit_le2 hu (by decide) | omega) (aft7f8 ?_))
  intro lc ys cs kc dvs5 dns5 dn5 h5 tk5 F5 N5 ic tc zc i5 k5 z5 fc fd
  clear N F i1 k1 z1
  repeat' (first | with_reducible ((show wpAny _ _ (eval (Expr.ListComp _ _ _ _) _) _ _ _); (k_here; k_dflt (refine LCg.ListComp_U (F₀ := by k_asm) (by with_unfolding_all rfl) (by decide) (by rfl) (by decide) (by rfl) ?_))) | walk_at "stp")
  rename Fr _ _ _ _ => F6
  rename News _ _ _ _ => N6
  rename IntsAre _ (cs ++ [97]) => iC
  have hcz : TextOk (cs ++ [97]) := fun c hc => (List.mem_append.mp hc).elim (tc c) fun h => by rw [List.mem_singleton.mp h]; exact .inl rfl
  have hlz : (cs ++ [97]).length < 17 ∧ 0 < (cs ++ [97]).length := by rw [List.length_append]; exact ⟨by show _ + 1 < 17; with_reducible_and_instances exact Nat.add_lt_add_right zc _, by show 0 < _ + 1; with_reducible_and_instances exact Nat.succ_pos _⟩
  have hgl9 : (cs ++ [97]).getLast? = some 97 := by simp
  generalize cs ++ [97] = cz at iC hcz hlz hgl9
  rename_i lz wz hz1 lo9 hz2
  refine Stop.go (LCg.CompSrc.ledger rfl F6 N6 (.head _) (by rw [List.size_toArray, iC.length, PySem.sizeLine_eq]; (clear hd hu hkp zc z5 fc fd lo9; lia)) fun g' => ?_)
  refine str_rest (fun c => ⟨#[c.toNat]⟩) iC (fun k t I oI C oC D m₂ ys h tk E' hk hC hx F N off ne => ?_) fun ys hy => ?_
  · have hsg := hcz k hk
    have h0 := hsg.pos
    have h7 : k < 1000 := by unfold Sign at hsg; (clear hd hu hkp zc z5 fc fd lo9 hlz ne h0; lia)
    clear F6 N6
    walk_at "steps"
    refine Stop.go ?_
    exact LCg.CompEnd.intro (by assumption) (by assumption) _ (fun _ h => h) off (.inr ⟨_, .head _, rfl, _, rfl⟩) ⟨rfl, _, rfl⟩
  · intro D h tk F N oo1
    clear F6 N6
    repeat' (first | with_reducible ((show wpAny _ _ (call (Value.builtin "str.join") _ _) _ _ _); (k_here; k_dflt (refine joinC (by k_asm) (by k_mem) (by assumption) (by (clear hd hu hkp zc z5 fc fd lo9; lia)) ?_); intro t' k'; (try dsimp only))) | walk_at "stp")
    clear oo1
    rename Fr _ _ _ _ => F7
    rename News _ _ _ _ => N
    have hOz : LOff L d ((lz, listOf (List.toArray wz) 0) :: rest) := LOff.cons hO hK.hL lo9.2.2.1 lo9.2.2.2.1
    have N7 := newsub N (nw' := TL L d (listOf (List.toArray dvs5) dn5) o1 o2 o3 o4 o5 o6 o7 o8 o9 ps1 ps2 ((lz, listOf (List.toArray wz) 0) :: rest)) (by walk_at "c_keep")
    have hmz : (lz, listOf (List.toArray wz) 0) ∈ (lz, listOf (List.toArray wz) 0) :: rest := .head _
    have hrz : ∀ p ∈ rest, p ∈ (lz, listOf (List.toArray wz) 0) :: rest := fun p hp => .tail _ hp
    clear N lo9
    generalize (lz, listOf (List.toArray wz) 0) :: rest = rz at N7 hOz hmz hrz
    refine Stop.go (useA N7 (c_draw (TL.upd_d hK hOz) 3 _ i5 k5 z5 (by decide)) B F7 X T rfl (by first | exact room_le hd (by decide) | omega) (by first | exact unit_le hu (by decide) | exact unit_le2 hu (by decide) | omega) (aft5f5 ?_))
    intro z9 t9 vsB nsB mB h8 tk8 F8 N8 iB dB lB q0 q1
    clear N7 F7 i5 k5 z5 ys hy
    walk_at "steps"
    rename News _ _ _ _ => N
    have N9 := newsub N fun p hp => List.mem_cons_of_mem _ hp
    clear N
    repeat' (first | with_reducible ((show wpAny _ _ (storeName _ _ _) _ _ _); (k_here; k_dflt (refine' storeX_C ?F ?N ?c ?U ?d ?_ ?a ?b; (case a => rfl); (case b => rfl); (case F => k_asm); (case N => k_asm); (case c => rfl); (case U => (k_dflt first | exact TL.upd_1 (by assumption) (by assumption) | exact TL.upd_2 (by assumption) (by assumption) | exact TL.upd_3 (by assumption) (by assumption) | exact TL.upd_4 (by assumption) (by assumption) | exact TL.upd_5 (by assumption) (by assumption) | exact TL.upd_6 (by assumption) (by assumption) | exact TL.upd_7 (by assumption) (by assumption) | exact TL.upd_9 (by assumption) (by assumption))); (case d => k_asm); k_whole); intro h' o' F' N' d'; (try dsimp only at N'))) | walk_at "stp")
    rename News _ _ _ _ => N8
    rename Fr _ _ _ _ => Ff
    rename _ = Data.cell (some (Value.int (1 + z9) _)) => dF
    refine Stop.go (useA N8 (c_row (TL.back hmz) iC (by (clear hd hu hkp zc fc fd hrz lB q0 q1; lia)) (1 + z9) (by (clear hd hu hkp zc fc fd hlz hrz lB; lia)) _) B Ff X T rfl (by first | exact room_le hd (by decide) | omega) (by first | exact unit_le hu (by decide) | exact unit_le2 hu (by decide) | omega) (aft2f2 ?_))
    intro vw own h10 tk10 F10 N10 V hof
    have hOv := (LOff.fresh hof).app hOz
    have N11 := newsub N10 TL.sub_app
    have Vv := V.mono (fun p hp => List.mem_append_left rz hp)
    have hmv := List.mem_append_right own hmz
    have hrv : ∀ p ∈ rest, p ∈ own ++ rz := fun p hp => List.mem_append_right own (hrz p hp)
    clear N8 N10 N9 Ff hOz hmz hrz V hof
    generalize own ++ rz = rv at N11 hOv hmv hrv Vv
    have hwl := iC.length
    walk_at "steps"
    refine Stop.go (useA N11 (c_draw (TL.upd_d hK hOv) _ _ iB dB lB (by (clear hd hu hkp zc fc fd lB q0 q1 hrv hwl; lia))) B F10 X T rfl (by first | exact room_le hd (by decide) | omega) (by first | exact unit_le hu (by decide) | exact unit_le2 hu (by decide) | omega) (aft5f5 ?_))
    intro zA tA vsC nsC mC h12 tk12 F12 N12 iD dD lD q2 q3
    obtain ⟨at_, rfl⟩ := Int.eq_ofNat_of_zero_le q2
    clear N11 F10 iB dB lB
    walk_at "steps"
    rename News _ _ _ _ => N
    have N13 := newsub N fun p hp => List.mem_cons_of_mem _ hp
    clear N
    repeat' (first | with_reducible ((show wpAny _ _ (storeName _ _ _) _ _ _); (k_here; k_dflt (refine' storeX_C ?F ?N ?c ?U ?d ?_ ?a ?b; (case a => rfl); (case b => rfl); (case F => k_asm); (case N => k_asm); (case c => rfl); (case U => (k_dflt first | exact TL.upd_1 (by assumption) (by assumption) | exact TL.upd_2 (by assumption) (by assumption) | exact TL.upd_3 (by assumption) (by assumption) | exact TL.upd_4 (by assumption) (by assumption) | exact TL.upd_5 (by assumption) (by assumption) | exact TL.upd_6 (by assumption) (by assumption) | exact TL.upd_7 (by assumption) (by assumption) | exact TL.upd_9 (by assumption) (by assumption))); (case d => k_asm); k_whole); intro h' o' F' N' d'; (try dsimp only at N'))) | walk_at "stp")
    rename Fr _ _ _ _ => F1
    rename News _ _ _ _ => N1
    rename @LT.lt Nat _ d _ ∧ _ => l1
    refine Stop.go (useA N1 (c_one_list (UpdF.tail (by first | exact Nat.ne_of_gt l1.1 | exact Nat.ne_of_lt l1.1) (TL.upd_d hK hOv)) (.head _) (fun o' => .head _) (show 0 < 5 by decide) (show 5 < 100 by decide) iD dD lD) B F1 X T rfl (by first | exact room_le hd (by decide) | omega) (by first | exact unit_le hu (by decide) | exact unit_le2 hu (by decide) | omega) (aft5f4 ?_))
    intro zi xm vsE nsE mE h14 tk14 F14 N14 iE dE lE hxm
    have hpk := pick5 hxm
    have N15 := newsub N14 fun p hp => List.mem_cons_of_mem _ hp
    clear N1 N14 F1 l1
    repeat' (first | with_reducible ((show wpAny _ _ (storeName _ _ _) _ _ _); (k_here; k_dflt (refine' storeX_C ?F ?N ?c ?U ?d ?_ ?a ?b; (case a => rfl); (case b => rfl); (case F => k_asm); (case N => k_asm); (case c => rfl); (case U => (k_dflt first | exact TL.upd_1 (by assumption) (by assumption) | exact TL.upd_2 (by assumption) (by assumption) | exact TL.upd_3 (by assumption) (by assumption) | exact TL.upd_4 (by assumption) (by assumption) | exact TL.upd_5 (by assumption) (by assumption) | exact TL.upd_6 (by assumption) (by assumption) | exact TL.upd_7 (by assumption) (by assumption) | exact TL.upd_9 (by assumption) (by assumption))); (case d => k_asm); k_whole); intro h' o' F' N' d'; (try dsimp only at N'))) | walk_at "stp")
    exact seg_end (by assumption) (by assumption) ⟨vw, lz, wz, cz, 1 + z9, at_, _, ⟨hK, hcz, hlz.1, hlz.2, hgl9, by (clear hd hu hkp zc fc fd hlz q1 hrv hwl lD q2 q3 lE hpk; lia), by (clear hd hu hkp zc fc fd hlz q0 hrv hwl lD q2 q3 lE hpk; lia), by (clear hd hu hkp zc fc fd hlz q0 q1 hrv hwl lD q2 lE hpk; lia)⟩, hpk, (St.of iE dE lE (by assumption) e2 ⟨_, e3⟩ ⟨_, e4⟩ (by assumption) ⟨_, e6⟩ dF ⟨_, e8⟩ (by assumption) ⟨hOv, Vv, hmv, iC, hT.mono hrv, x1.mono hrv, x2.mono hrv, fun p hp => hrv p (hkp p hp)⟩ ⟨by walk_at "c_look", ⟨_, if_pos rfl⟩, by walk_at "c_look"⟩)⟩
end
section
theorem turn_parts {w : World} {name qual : Str} {params : Arguments} {body : List Stmt} {scope : Scope} {dV kV doc pm cdv ct oc : Value} {an od : Option Addr} {osl : Array (Option Value)}
    (ho : (hd.heap_1 w.params).lookup 448 = some ⟨oc, od, .func (fnOf name qual params body scope dV kV doc pm an cdv ct), osl⟩) {tgt it : Expr} {turn els : List Stmt} {pos : Pos} (hb : body[1]? = some (.For tgt it turn els pos)) {g : Heap} (X : (hd.heap_1 w.params).In g) :
    ∃ s4 s5 s6 s7 s8 s9 s10 s13 s14 s15, turn[4]? = some s4 ∧ turn[5]? = some s5 ∧ turn[6]? = some s6 ∧ turn[7]? = some s7 ∧ turn[8]? = some s8 ∧ turn[9]? = some s9 ∧ turn[10]? = some s10 ∧ turn[13]? = some s13 ∧ turn[14]? = some s14 ∧ turn[15]? = some s15 ∧
      turn = turn.take 4 ++ (s4 :: s5 :: s6 :: s7 :: s8 :: s9 :: s10 :: ((turn.drop 11).take 2 ++ (s13 :: s14 :: s15 :: turn.drop 16))) := by
  have e := ho.symm.trans (by k_is : _ = some _)
  clear ho
  revert hb
  apply obj_elim e
  clear e
  intro hb
  apply for_elim hb
  clear hb
  exact ⟨_, _, _, _, _, _, _, _, _, _, rfl, rfl, rfl, rfl, rfl, rfl, rfl, rfl, rfl, rfl, rfl⟩
theorem turn_walk {w : World} {p : Program} {loose : List Str} {mean : ExcName → Option Value} {mg mb : Str → Option Value} {dp un : Nat} {gd : Option (List Code)} {A₀ : Around} {base g : Heap} {L : Addr} {s : Shared}
    {name qual : Str} {params : Arguments} {body : List Stmt} {scope : Scope} {dV kV doc pm cdv ct oc : Value} {an od : Option Addr} {osl : Array (Option Value)}
    (ho : (hd.heap_1 w.params).lookup 448 = some ⟨oc, od, .func (fnOf name qual params body scope dV kV doc pm an cdv ct), osl⟩) {tgt it : Expr} {turn els : List Stmt} {pos : Pos} (hb : body[1]? = some (.For tgt it turn els pos))
    {m : Str → Option Value} {d tb : Addr} {kp : Led} {dvs : List Value} {dns : List Int} {dn : Nat} {o1 o2 o3 o4 o5 o6 o7 o8 o9 : Obj} {ps1 ps2 : Array Value} {rest : Led} {v1 v3 v4 v5 v6 v7 v8 v9 : Option Value} (hK : Dk L d)
    (B : Below A₀ base [] g) (F : Fr g L s.heap m) (X : (hd.heap_1 w.params).In g) (T : Top p loose mean mg mb g) (hd : dp + 30 < recursionLimit) (hu : un + 300 < cLine) (C2 : CodeHd g 447 445) (N : News g L s.heap (TL L d (listOf (List.toArray dvs) dn) o1 o2 o3 o4 o5 o6 o7 o8 o9 ps1 ps2 rest))
    (hm : m "_law_deck" = some (.ref d)) (i1 : IntsAre dvs dns) (k1 : DeckOk dns) (z1 : dns.length < 100)
    (e1 : o1.data = .cell v1) (e2 : o2.data = .cell (some (.ref tb))) (e3 : o3.data = .cell v3) (e4 : o4.data = .cell v4) (e5 : o5.data = .cell v5) (e6 : o6.data = .cell v6) (e7 : o7.data = .cell v7) (e8 : o8.data = .cell v8) (e9 : o9.data = .cell v9)
    (hO : LOff L d rest) (hT : TabW w rest tb) (x1 : ExTab 426 qEx ps1 rest) (x2 : ExTab 445 qL ps2 rest) (hkp : ∀ p ∈ kp, p ∈ rest) :
    wpAny (model PySem.Challenge.rw_np0052_01.row.prog w) (ktrTop dp un gd qual scope L 448 (.ref 447) (cellsFrom (L + 1) scope.names []) []) (execs turn (envX qual scope L 448 (.ref 447) (cellsFrom (L + 1) scope.names [])))
      (SegEnd g L s fun m' nx' => ∃ vw lz wz cz first at_ cM cC cL cK cF, St w L d tb vw lz wz kp cz first at_ cM cC cL cK cF m' nx') (fun _ _ => False) s := by
  refine ex_10_11 (turn_parts ho hb X) ?_
  intro s4 s5 s6 s7 s8 s9 s10 s13 s14 s15 q4 q5 q6 q7 q8 q9 q10 q13 q14 q15 ht
  rw [ht]
  refine seg_then (seg_start ho hb hK B F X T hd hu N hm i1 k1 z1 e1 e2 e3 e4 e5 e6 e7 e8 e9 hO hT x1 x2 hkp) ?_
  clear F N
  intro m nx h t F N p9_6
  refine ex_7_3 (p9_6) ?_
  try clear p9_6
  intro vw lz wz cz first at_ vm P hvm S
  refine seg_then1 (post := fun m' nx' => St w L d tb vw lz wz kp cz first at_ (some vm) none none none none m' nx') ?_ ?_
  · rcases hvm with rfl | ⟨many, t, rfl, hmm⟩
    · exact seg_chars_none ho hb P B F X T hd hu C2 N q4 S
    · exact seg_chars_int ho hb P B F X T hd hu C2 N q4 hmm S
  clear F N S
  intro m nx h t F N S
  refine seg_then1 (seg_count ho hb P B F X T hd hu C2 N q5 S) ?_
  clear F N S
  intro m nx h t F N p9_6
  refine ex_2_2 (p9_6) ?_
  try clear p9_6
  intro z tz hz S
  refine seg_then1 (seg_mover ho hb P B F X T hd hu C2 N q6 S) ?_
  clear F N S
  rintro m nx h t F N ⟨fm, S⟩
  refine seg_then1 (seg_words ho hb P B F X T hd hu C2 N q7 hz S) ?_
  clear F N S
  intro m nx h t F N S
  refine seg_then1 (seg_lines ho hb P B F X T hd hu C2 N q8 S) ?_
  clear F N S
  intro m nx h t F N p9_6
  refine ex_2_2 (p9_6) ?_
  try clear p9_6
  intro k tk hk S
  refine seg_then1 (seg_rows ho hb P B F X T hd hu C2 N q9 hk S) ?_
  clear F N S
  intro m nx h t F N S
  refine seg_then1 (seg_mark ho hb P B F X T hd hu C2 N q10 S) ?_
  clear F N S
  intro m nx h t F N p9_6
  refine ex_2_2 (p9_6) ?_
  try clear p9_6
  intro j tj hj S
  refine seg_then (seg_parts ho hb P B F X T hd hu C2 N hj S) ?_
  clear F N S
  intro m nx h t F N p9_6
  refine ex_8_2 (p9_6) ?_
  try clear p9_6
  intro Pl a b n t0 t1 u0 u1 hPl S
  refine seg_then1 (seg_due ho hb P B F X T hd hu C2 N q13 hj hPl S) ?_
  clear F N S
  intro m nx h t F N p9_6
  refine ex_1_3 (p9_6) ?_
  try clear p9_6
  intro rd hdue hx S
  refine seg_then1 (seg_seen ho hb P B F X T hd hu C2 N q14 hj hdue S) ?_
  clear F N S
  intro m nx h t F N p9_6
  refine ex_2_4 (p9_6) ?_
  try clear p9_6
  intro rs fr hseen hdue' hr S
  refine seg_then1 (seg_same ho hb P B F X T hd hu C2 N q15 hdue' hseen hx hr S) ?_
  clear F N S
  intro m nx h t F N S
  refine wpAny_mono (seg_back ho hb P B F X T hd hu C2 N hk S) (fun fl s' x => ?_) fun _ _ e => e
  refine genP fun C9 k9 => ?_
  obtain ⟨e, m', nx', h', tk', rfl, F, N, S⟩ := x
  refine k9 ?_
  clear k9 C9
  exact ⟨e, m', nx', h', tk', rfl, F, N, _, _, _, _, _, _, _, _, _, _, _, S⟩
end
section
theorem law_walk {w : World} {l : Addr} {vs : List Value} {ns : List Int} (hi : IntsAre vs ns) (hl64 : ns.length < 64) {p : Program} {loose : List Str} {mean : ExcName → Option Value} {mg mb : Str → Option Value} {dp un : Nat} {gd : Option (List Code)} {A₀ : Around} {base g : Heap} {L : Addr} {s : Shared} {o1 o2 o3 o4 o5 o6 o7 o8 o9 : Obj}
    {name qual : Str} {params : Arguments} {body : List Stmt} {scope : Scope} {dV kV doc pm cdv ct oc : Value} {an od : Option Addr} {osl : Array (Option Value)}
    (ho : (hd.heap_1 w.params).lookup 448 = some ⟨oc, od, .func (fnOf name qual params body scope dV kV doc pm an cdv ct), osl⟩) (hgl : base.IsList l (List.toArray vs))
    (B : Below A₀ base [] g) (F : Fr g L s.heap (fun y => if y = "script" then some (.ref l) else none)) (X : (hd.heap_1 w.params).In g) (T : Top p loose mean mg mb g) (hd : dp + 30 < recursionLimit) (hu : un + 300 < cLine)
    (C2 : CodeHd g 447 445) (hL : @LT.lt Nat _ 448 L) (d1 : o1.data = .cell none) (d2 : o2.data = .cell none) (d3 : o3.data = .cell none) (d4 : o4.data = .cell none) (d5 : o5.data = .cell none) (d6 : o6.data = .cell none) (d7 : o7.data = .cell none) (d8 : o8.data = .cell none) (d9 : o9.data = .cell none)
    (N : News g L s.heap [(L + 1 + 1 + 1 + 1 + 1 + 1 + 1 + 1 + 1, o1), (L + 1 + 1 + 1 + 1 + 1 + 1 + 1 + 1, o2), (L + 1 + 1 + 1 + 1 + 1 + 1 + 1, o3), (L + 1 + 1 + 1 + 1 + 1 + 1, o4), (L + 1 + 1 + 1 + 1 + 1, o5), (L + 1 + 1 + 1 + 1, o6), (L + 1 + 1 + 1, o7), (L + 1 + 1, o8), (L + 1, o9), (426, tabObj #[]), (445, tabObj #[])]) :
    wpAny (model PySem.Challenge.rw_np0052_01.row.prog w) (ktrTop dp un gd qual scope L 448 (.ref 447) (cellsFrom (L + 1) scope.names []) []) (execs body (envX qual scope L 448 (.ref 447) (cellsFrom (L + 1) scope.names [])))
      (fun fl s' => ∃ m' nw h' tk' ps1 ps2, s' = { s with heap := h', toks := tk' } ∧ fl = .ret (.bool true) ∧ Fr g L h' m' ∧ News g L h' nw ∧ (426, tabObj ps1) ∈ nw ∧ (445, tabObj ps2) ∈ nw) (fun _ _ => False) s := by
  have hl := (by k_is : (Mine.hd.heap_1 w.params).lookup 448 = some _)
  have e := ho.symm.trans hl
  clear ho
  apply obj_elim e
  clear e
  have ho := hl
  clear hl
  try dsimp only
  try k_fold
  walk_at "steps"
  refine Stop.go (c_deck_ofB hi hl64 _ _ _ _ _ _ _ _ _ _ _ _ _ _ _ _ _ _ _ _ _ _ hgl B F X N T rfl (by first | exact room_le hd (by decide) | omega) (by first | exact unit_le hu (by decide) | exact unit_le2 hu (by decide) | omega) ?_)
  intro r nw h1 tk1 F1 N1 p9_6
  refine genP fun C9 k9 => ?_
  refine ex_4_6 (p9_6) ?_
  try clear p9_6
  intro d vs1 ns1 n1 e9_4 e9_5 i1 k1 z1 f1
  subst e9_4
  subst e9_5
  refine k9 ?_
  clear k9 C9
  clear F N
  walk_at "steps"
  refine Stop.go (useA N1 c_tab B F1 X T rfl (by first | exact room_le hd (by decide) | omega) (by first | exact unit_le hu (by decide) | exact unit_le2 hu (by decide) | omega) (aft2f2 ?_))
  intro tb own h2 tk2 F2 N2 hT hof
  clear N1 F1
  have q0 := f1 _ (.head _)
  have q1 := f1 _ (.tail _ (.head _))
  have q2 := f1 _ (.tail _ (.tail _ (.head _)))
  have q3 := f1 _ (.tail _ (.tail _ (.tail _ (.head _))))
  have q4 := f1 _ (.tail _ (.tail _ (.tail _ (.tail _ (.head _)))))
  have q5 := f1 _ (.tail _ (.tail _ (.tail _ (.tail _ (.tail _ (.head _))))))
  have q6 := f1 _ (.tail _ (.tail _ (.tail _ (.tail _ (.tail _ (.tail _ (.head _)))))))
  have q7 := f1 _ (.tail _ (.tail _ (.tail _ (.tail _ (.tail _ (.tail _ (.tail _ (.head _))))))))
  have q8 := f1 _ (.tail _ (.tail _ (.tail _ (.tail _ (.tail _ (.tail _ (.tail _ (.tail _ (.head _)))))))))
  have q9 := f1 _ (.tail _ (.tail _ (.tail _ (.tail _ (.tail _ (.tail _ (.tail _ (.tail _ (.tail _ (.head _))))))))))
  have q10 := f1 _ (.tail _ (.tail _ (.tail _ (.tail _ (.tail _ (.tail _ (.tail _ (.tail _ (.tail _ (.tail _ (.head _)))))))))))
  dsimp only at q0 q1 q2 q3 q4 q5 q6 q7 q8 q9 q10
  have hO : LOff L d own := ⟨fun p hp => Ne.symm (hof p hp _ (.head _)), fun p hp => Ne.symm (hof p hp _ (.tail _ (.tail _ (.tail _ (.tail _ (.tail _ (.tail _ (.tail _ (.tail _ (.tail _ (.tail _ (.head _)))))))))))), fun p hp => Ne.symm (hof p hp _ (.tail _ (.tail _ (.tail _ (.tail _ (.tail _ (.tail _ (.tail _ (.tail _ (.tail _ (.tail _ (.tail _ (.head _))))))))))))), fun p hp => Ne.symm (hof p hp _ (.tail _ (.tail _ (.tail _ (.tail _ (.tail _ (.tail _ (.tail _ (.tail _ (.tail _ (.head _))))))))))), fun p hp => Ne.symm (hof p hp _ (.tail _ (.tail _ (.tail _ (.tail _ (.tail _ (.tail _ (.tail _ (.tail _ (.head _)))))))))), fun p hp => Ne.symm (hof p hp _ (.tail _ (.tail _ (.tail _ (.tail _ (.tail _ (.tail _ (.tail _ (.head _))))))))), fun p hp => Ne.symm (hof p hp _ (.tail _ (.tail _ (.tail _ (.tail _ (.tail _ (.tail _ (.head _)))))))), fun p hp => Ne.symm (hof p hp _ (.tail _ (.tail _ (.tail _ (.tail _ (.tail _ (.head _))))))), fun p hp => Ne.symm (hof p hp _ (.tail _ (.tail _ (.tail _ (.tail _ (.head _)))))), fun p hp => Ne.symm (hof p hp _ (.tail _ (.tail _ (.tail _ (.head _))))), fun p hp => Ne.symm (hof p hp _ (.tail _ (.tail _ (.head _)))), fun p hp => Ne.symm (hof p hp _ (.tail _ (.head _)))⟩
  have N3 := newsub N2 (nw' := (d, listOf (List.toArray vs1) n1) :: (L + 1 + 1 + 1 + 1 + 1 + 1 + 1 + 1 + 1, o1) :: (L + 1 + 1 + 1 + 1 + 1 + 1 + 1 + 1, o2) :: (L + 1 + 1 + 1 + 1 + 1 + 1 + 1, o3) :: (L + 1 + 1 + 1 + 1 + 1 + 1, o4) :: (L + 1 + 1 + 1 + 1 + 1, o5) :: (L + 1 + 1 + 1 + 1, o6) :: (L + 1 + 1 + 1, o7) :: (L + 1 + 1, o8) :: (L + 1, o9) :: (426, tabObj #[]) :: (445, tabObj #[]) :: own) fun p hp => by
    have h9 : p ∈ ((d, listOf (List.toArray vs1) n1) :: [(L + 1 + 1 + 1 + 1 + 1 + 1 + 1 + 1 + 1, o1), (L + 1 + 1 + 1 + 1 + 1 + 1 + 1 + 1, o2), (L + 1 + 1 + 1 + 1 + 1 + 1 + 1, o3), (L + 1 + 1 + 1 + 1 + 1 + 1, o4), (L + 1 + 1 + 1 + 1 + 1, o5), (L + 1 + 1 + 1 + 1, o6), (L + 1 + 1 + 1, o7), (L + 1 + 1, o8), (L + 1, o9), (426, tabObj #[]), (445, tabObj #[])]) ++ own := hp
    rcases List.mem_append.mp h9 with h9 | h9
    · exact List.mem_append_right _ h9
    · exact List.mem_append_left _ h9
  clear N2 hof f1
  repeat' (first | with_reducible ((show wpAny _ _ (storeName _ _ _) _ _ _); (k_here; k_dflt (refine' storeX_C ?F ?N ?c ?U ?d ?_ ?a ?b; (case a => rfl); (case b => rfl); (case F => k_asm); (case N => k_asm); (case c => rfl); (case U => walk_at "u_cell"); (case d => k_asm); k_whole); intro h' o' F' N' d'; (try dsimp only at N'))) | walk_at "stp")
  rename IsRange _ _ _ _ _ _ _ _ => hrg
  try clear N3
  try clear F2
  have hK : Dk L d := ⟨hL, q0, q1, q2, q3, q4, q5, q6, q7, q8, q9, q10⟩
  refine Stop.go (iter_rangeK (b := 2) (nx₀ := TL L d (listOf (List.toArray vs1) n1) o1 _ o3 o4 o5 o6 o7 o8 o9 #[] #[] own) rfl hrg (by decide) (by assumption) (by assumption) (fun p hp => .tail _ hp) (fun i m nx => LawJ w L d tb m nx) (LawJ.of i1 k1 z1 d1 (by assumption) d3 d4 d5 d6 d7 d8 d9 (ExTab.nil _ _ _) (ExTab.nil _ _ _) hT hO rfl) ?_ ?_)
  · clear d1 d2 d3 d4 d5 d6 d7 d8 d9 hT hO i1 k1 z1 hrg
    intro i v m₁ nx I h₁ tk₁ own3 hi3 J9 hI hown p9_12 F3 N3
    refine ex_3_3 (p9_12) ?_
    try clear p9_12
    intro oI x y hoI hit hgI
    refine LawJ.open J9 ?_
    clear J9
    rintro dvs dns dn ps1 ps2 p1 p2 p3 p4 p5 p6 p7 p8 p9 core v1 v3 v4 v5 v6 v7 v8 v9 rfl i1' k1' z1' e1 e2 e3 e4 e5 e6 e7 e8 e9 x1 x2 hT' hO' hm
    have hOw : LOff L d own3 := LOff.of_ne (dk := listOf (List.toArray dvs) dn) (o1 := p1) (o2 := p2) (o3 := p3) (o4 := p4) (o5 := p5) (o6 := p6) (o7 := p7) (o8 := p8) (o9 := p9) (ps1 := ps1) (ps2 := ps2) fun p hp q hq => by rw [hown p hp]; exact hI q (TL.front hq)
    have N4 := newsub N3 TL.sub_app
    refine wpAny_mono (turn_walk ho rfl (kp := own3 ++ core) hK B F3 X T hd hu C2 N4 ((if_neg (by decide)).trans hm) i1' k1' z1' e1 e2 e3 e4 e5 e6 e7 e8 e9 (hOw.app hO') (hT'.mono fun p hp => List.mem_append_right _ hp) (x1.mono fun p hp => List.mem_append_right _ hp) (x2.mono fun p hp => List.mem_append_right _ hp) (fun _ h => h)) (fun fl s' hl => ?_) fun _ _ e => e.elim
    refine genP fun C9 k9 => ?_
    obtain ⟨rfl, m', nx', h', tk', rfl, F5, N5, vw, lz, wz, cz, first, at_, cM, cC, cL, cK, cF, S⟩ := hl
    refine k9 ?_
    clear k9 C9
    exact LawJ.next F5 N5 S hI hown hoI hit hgI hT'
  · clear ho
    rintro h3 tk3 m₁ nx F3 N3 J9
    refine LawJ.open J9 ?_
    clear J9
    rintro dvs dns dn ps1 ps2 p1 p2 p3 p4 p5 p6 p7 p8 p9 core v1 v3 v4 v5 v6 v7 v8 v9 rfl i1' k1' z1' e1 e2 e3 e4 e5 e6 e7 e8 e9 x1 x2 hT' hO' hm
    dsimp only
    walk_at "steps"
    refine Stop.go (law_lam hK F3 N3 T C2 hO' x2 rfl rfl ?_)
    intro f c' ctv oc vs t ps2' own4 h4 tk4 F4 N4 y1 y2 hc x2' off' offf
    clear F3 N3
    obtain ⟨a, ha⟩ : ∃ a, a = ahL [97, 10, 98] 1 (startL [97, 10, 98] 2) := ⟨_, rfl⟩
    obtain ⟨b, hb⟩ : ∃ b, b = ahL [97, 10, 98] 1 a.1 := ⟨_, rfl⟩
    have TD := told_L (w := w) (k := 6) (e0 := (1 : Int) + (startL [97, 10, 98] 2 : Nat)) (e1 := (1 : Int) + (b.1 : Nat)) (codes := (slice [97, 10, 98] a.1 b.1 ++ List.replicate b.2 10) ++ (slice [97, 10, 98] (startL [97, 10, 98] 2) a.1 ++ List.replicate a.2 10)) (pl := (1 : Int) + (startL [97, 10, 98] 2 : Nat) + (slice [97, 10, 98] a.1 b.1 ++ List.replicate b.2 10).length + (slice [97, 10, 98] (startL [97, 10, 98] 2) a.1 ++ List.replicate a.2 10).length) N4 (TL.back hc) y1 y2 rfl rfl rfl rfl (by decide) (h := by
      clear B F4 X T hd hu
      intro p loose mean mg mb dp un gd outer A₀ base g L0 s B F X N T hd hu
      walk_at "steps"
      rename Fr _ _ _ _ => F5
      rename News _ _ _ _ => N5
      refine Stop.go (useA N5 (c_row1 (.head _) (.cons _ _ (.cons _ _ (.cons _ _ .nil))) (by decide)) B F5 X T rfl (by first | exact room_le hd (by decide) | omega) (by first | exact unit_le hu (by decide) | exact unit_le2 hu (by decide) | omega) (aft2f2 ?_))
      intro v own' h' tk' F' N' V hof
      clear F5 N5
      walk_at "steps"
      refine Stop.go (useX N' (c_lines_edit (V.mono fun p hp => List.mem_append_left _ hp) 2 (by decide) 3 (by decide) _ 1 (by decide) (by decide) 1 rfl _).toX B F' X T rfl (by first | exact room_le hd (by decide) | omega) (by first | exact unit_le hu (by decide) | exact unit_le2 hu (by decide) | omega) (fun _ y => y) (fun _ h => List.mem_append_right _ (.tail _ h)) (fun _ _ => rfl) ?_)
      rintro r nw h' tk' F' N' R'
      clear hof
      walk_at "steps"
      have R9 := R' a b ha hb
      exact ends F' N' ⟨R9.1, fun p hp => R9.2 p (List.mem_append_right _ (.tail _ hp))⟩)
    walk_at "steps"
    have hl3 : Str.length "a\nb" = ([97, 10, 98] : List Int).length := by decide +kernel
    have Z : Cl p1 p2 p3 p4 p5 p6 p7 p8 p9 := ⟨⟨_, e1⟩, ⟨_, e2⟩, ⟨_, e3⟩, ⟨_, e4⟩, ⟨_, e5⟩, ⟨_, e6⟩, ⟨_, e7⟩, ⟨_, e8⟩, ⟨_, e9⟩⟩
    refine Stop.go (use_told N4 TD (by rw [hl3]; decide) (by rw [hl3]; exact lines_ok end_ok (by decide) _ (by decide) 1 (by decide) 1 _ a b ha hb) Z off' B F4 X T rfl (by first | exact room_le hd (by decide) | omega) (by first | exact unit_le hu (by decide) | exact unit_le2 hu (by decide) | omega) ?_)
    intro r front h6 tk6 F6 N6 q2 off2
    rw [end_res a b ha hb] at q2
    refine genP fun C9 k9 => ?_
    refine ex_3_2 (q2) ?_
    try clear q2
    intro ar tr tr' e9_3 hmr
    subst e9_3
    refine k9 ?_
    clear k9 C9
    clear F4 N4 TD offf hc
    repeat' (first | with_reducible ((show wpAny _ _ (compareOp _ _ _) _ _ _); walk_at "st") | walk_at "stp")
    rename News _ _ _ _ => N7
    have e9 : PyData.eqv (.tuple [.str "b\na\n", .int 4]) (.tuple [.str "b\na\n", .int 4]) = true := by decide +kernel
    refine Stop.go (eq_dataH (reads_tuple_at (News.get N7 (.tail _ (TL.back hmr))) rfl rfl (.cons (Reads.str _ _) (.cons (Reads.int _ _) .nil))) (reads_tuple_at (News.get N7 (.head _)) rfl rfl (.cons (Reads.str _ _) (.cons (Reads.int _ _) .nil))) (by decide +kernel) (by decide +kernel) (u64 hu) ?_)
    rw [e9]
    exact ⟨_, _, _, _, ps1, ps2', rfl, rfl, by assumption, newsub N7 fun p hp => List.mem_cons_of_mem _ hp, TL.front (.tail _ (.tail _ (.tail _ (.tail _ (.tail _ (.tail _ (.tail _ (.tail _ (.tail _ (.tail _ (.head _))))))))))), TL.front (.tail _ (.tail _ (.tail _ (.tail _ (.tail _ (.tail _ (.tail _ (.tail _ (.tail _ (.tail _ (.tail _ (.head _))))))))))))⟩
end
end
section
namespace law_holds
theorem tw10983241140555628109:True:=trivial
theorem tw1414043511812021011:True:=trivial
theorem tw14160533322030094474:True:=trivial
theorem tw447027507633508388:True:=trivial
theorem tw6860709855171689206:True:=trivial
theorem tw3974387499553966400:True:=trivial
theorem tw9288214680346807717:True:=trivial
theorem tw5950301352895977177:True:=trivial
theorem tw10028117763298573888:True:=trivial
theorem tw2695550118857162214:True:=trivial
theorem tw16805829885119392726:True:=trivial
theorem tw3035144380315620824:True:=trivial
theorem tw4992725456586698614:True:=trivial
theorem tw2557128651999224082:True:=trivial
theorem tw7696488724909661519:True:=trivial
theorem tw11097350217990362986:True:=trivial
theorem tw3307954989432871184:True:=trivial
theorem tw1096898596823417342:True:=trivial
theorem tw2887050238494874643:True:=trivial
theorem tw1784627337472249616:True:=trivial
theorem tw16893121556090616931:True:=trivial
theorem tw10007947361888340627:True:=trivial
theorem tw14872900085578418628:True:=trivial
theorem tw14497384708736915567:True:=trivial
theorem tw3756308257209627903:True:=trivial
theorem tw18261290160731607033:True:=trivial
theorem tw6727219029552735585:True:=trivial
theorem tw2907507879108658156:True:=trivial
theorem tw12134408205421670959:True:=trivial
theorem tw1341266762083198811:True:=trivial
theorem tw7495221243884187115:True:=trivial
theorem tw11633083819707477107:True:=trivial
theorem tw4524032621918665186:True:=trivial
theorem tw12459966957829302596:True:=trivial
theorem tw1287794668844245411:True:=trivial
theorem tw17993387198741990920:True:=trivial
theorem tw2090888555730037645:True:=trivial
theorem tw12889056044993165476:True:=trivial
theorem tw9889521400790421688:True:=trivial
theorem tw10301956948240465243:True:=trivial
theorem tw11133525997344109421:True:=trivial
theorem tw6265907326580845545:True:=trivial
theorem tw18388893480867403737:True:=trivial
theorem tw3769339739266743318:True:=trivial
theorem tw7769649832755249146:True:=trivial
theorem tw5858263632927829637:True:=trivial
theorem tw5506821171919863439:True:=trivial
theorem tw13397297893571687751:True:=trivial
theorem tw6667284449218939238:True:=trivial
theorem tw17713402740875732926:True:=trivial
theorem tw11484002064277903863:True:=trivial
theorem tw14774650325386425613:True:=trivial
theorem tw1670043908289496885:True:=trivial
theorem tw2269544990204364226:True:=trivial
theorem tw179590077315354965:True:=trivial
theorem tw6896717019858035522:True:=trivial
theorem tw18135211599370774712:True:=trivial
theorem tw16947615914383616782:True:=trivial
theorem tw3850334171643177529:True:=trivial
theorem tw15609566024721092083:True:=trivial
theorem tw1496123403401453975:True:=trivial
theorem tw3186734533307500241:True:=trivial
theorem tw12116493165278983582:True:=trivial
theorem tw1385162719727133579:True:=trivial
theorem tw2602977815382960713:True:=trivial
theorem tw14326059299131336239:True:=trivial
theorem tw5920216800500632969:True:=trivial
theorem tw16461882675039125421:True:=trivial
theorem tw16009327648451700120:True:=trivial
theorem tw15732109348078318572:True:=trivial
theorem tw16760957895259694429:True:=trivial
theorem tw15661869461025623997:True:=trivial
theorem tw15333956030411951890:True:=trivial
theorem tw3239664765083619833:True:=trivial
theorem tw2152083551845799040:True:=trivial
theorem tw18090433342136740992:True:=trivial
theorem tw13983371404066579822:True:=trivial
theorem tw3776956092104397036:True:=trivial
theorem tw15150646450996357022:True:=trivial
theorem tw4581845663705801772:True:=trivial
theorem tw9423440377400516374:True:=trivial
theorem tw5769158387606399586:True:=trivial
theorem tw11426015686315989412:True:=trivial
theorem tw11100686419730198450:True:=trivial
theorem tw2078624436916829710:True:=trivial
theorem tw10516828495840041881:True:=trivial
theorem tw3064161073002809673:True:=trivial
theorem tw3682559726232862161:True:=trivial
theorem tw15154110283740273250:True:=trivial
theorem tw17923851452625207687:True:=trivial
theorem tw14925382992726071281:True:=trivial
theorem tw18051328159682125866:True:=trivial
theorem tw3438298445031660282:True:=trivial
theorem tw1905533677188600702:True:=trivial
theorem tw6507877686720480950:True:=trivial
theorem tw4370086069003782432:True:=trivial
theorem tw59864651932915081:True:=trivial
theorem tw41732636909640268:True:=trivial
theorem tw1762888911704233025:True:=trivial
theorem tw16470317323979864763:True:=trivial
theorem tw15643490421465472420:True:=trivial
theorem tw2618386414584295968:True:=trivial
theorem tw5389484754426515990:True:=trivial
theorem tw11017292853192552079:True:=trivial
theorem tw8249079356659094474:True:=trivial
theorem tw9849722394096787677:True:=trivial
theorem tw12296726922439171297:True:=trivial
theorem tw13766487248619392586:True:=trivial
theorem tw17253691774821329096:True:=trivial
theorem tw11235138625250882983:True:=trivial
theorem tw8857742495270377987:True:=trivial
theorem tw1928719863018725356:True:=trivial
theorem tw8570087061310353148:True:=trivial
theorem tw6159533029260741167:True:=trivial
theorem tw10666784280354678857:True:=trivial
theorem tw1053317679998426468:True:=trivial
theorem tw2006301483956418059:True:=trivial
theorem tw3850375180904979519:True:=trivial
theorem tw2075624079617657780:True:=trivial
theorem tw12149405283708829123:True:=trivial
theorem tw9875236377963488844:True:=trivial
theorem tw3494445600050047599:True:=trivial
theorem tw14913908035333294122:True:=trivial
theorem tw7221428835167493151:True:=trivial
theorem tw10371022188087798493:True:=trivial
theorem tw5455921660152230842:True:=trivial
theorem tw11677100312832694166:True:=trivial
theorem tw14789792462180790578:True:=trivial
theorem tw3366817510852727610:True:=trivial
theorem tw676263390381983339:True:=trivial
theorem tw9779807473162285230:True:=trivial
theorem tw4441770287765753910:True:=trivial
theorem tw12456547296908542839:True:=trivial
theorem tw1819975233463548508:True:=trivial
theorem tw13220211186989608806:True:=trivial
theorem tw2842810181116790245:True:=trivial
theorem tw784011647948385275:True:=trivial
theorem tw6260460797876433568:True:=trivial
theorem tw11625900857008200698:True:=trivial
theorem tw602461330855297101:True:=trivial
theorem tw16106779387088534511:True:=trivial
theorem tw4037582482628031876:True:=trivial
theorem tw15274831704391544125:True:=trivial
theorem tw699380112222796084:True:=trivial
theorem tw7120836010843673076:True:=trivial
theorem tw15334298953996031811:True:=trivial
theorem tw7404543985812422374:True:=trivial
theorem tw9317688335297629284:True:=trivial
theorem tw6333624483447246961:True:=trivial
theorem tw6636196486538999452:True:=trivial
theorem tw13800757232730249582:True:=trivial
theorem tw3742325753681652743:True:=trivial
theorem tw10264638600885302300:True:=trivial
theorem tw17255088995462705879:True:=trivial
theorem tw1689763614830377041:True:=trivial
theorem tw3253820488102484341:True:=trivial
theorem tw575232530192455986:True:=trivial
theorem tw10968802771074238664:True:=trivial
theorem tw7910590604623066228:True:=trivial
theorem tw3943428198234077543:True:=trivial
theorem tw11881114122080957857:True:=trivial
theorem tw14354538779393863138:True:=trivial
theorem tw15759456685926392790:True:=trivial
theorem tw10817052189556005596:True:=trivial
theorem tw14983226153234331074:True:=trivial
theorem tw1099259369241382048:True:=trivial
theorem tw2055734563569237896:True:=trivial
theorem tw13280740594461564331:True:=trivial
theorem tw2856731137302751260:True:=trivial
theorem tw13392613628428298086:True:=trivial
theorem tw15014403891855920072:True:=trivial
theorem tw2442502879453312968:True:=trivial
theorem tw17180001009569633970:True:=trivial
theorem tw10024239376800412576:True:=trivial
theorem tw3896150654470677357:True:=trivial
theorem tw15607887362523206001:True:=trivial
theorem tw6911747868599837429:True:=trivial
theorem tw2124134355350193313:True:=trivial
theorem tw7408322871517469003:True:=trivial
theorem tw8957123355933967898:True:=trivial
theorem tw16462895619179043833:True:=trivial
theorem tw7472407996622490835:True:=trivial
theorem tw10441050188594101415:True:=trivial
theorem tw8970147916757833333:True:=trivial
theorem tw11781800970755023335:True:=trivial
theorem tw3927331946688356228:True:=trivial
theorem tw17598101756349436640:True:=trivial
theorem tw2102315897755806987:True:=trivial
theorem tw519298541982818421:True:=trivial
theorem tw17345407343664743607:True:=trivial
theorem tw12303009252429188658:True:=trivial
theorem tw16406091861079842607:True:=trivial
theorem tw14498155544194170393:True:=trivial
theorem tw4072507727158212662:True:=trivial
theorem tw11544315989524547432:True:=trivial
theorem tw13478230802861573701:True:=trivial
theorem tw12889673554181485818:True:=trivial
theorem tw15883345262158282383:True:=trivial
theorem tw2578278018795888234:True:=trivial
theorem tw11126432536435168541:True:=trivial
theorem tw4008084134468147086:True:=trivial
theorem tw850272041215511910:True:=trivial
theorem tw10188763426450519768:True:=trivial
theorem tw14571795756577361901:True:=trivial
theorem tw9843604407834444796:True:=trivial
theorem tw10814379081540604434:True:=trivial
theorem tw14289194402921355359:True:=trivial
theorem tw4818577856007422655:True:=trivial
theorem tw8909828626151137519:True:=trivial
theorem tw16273140198857503625:True:=trivial
theorem tw12780804625047726367:True:=trivial
theorem tw18254337876149969668:True:=trivial
theorem tw10368410895845634921:True:=trivial
theorem tw660297872995803996:True:=trivial
theorem tw3005452535816212104:True:=trivial
theorem tw11977050620070087417:True:=trivial
theorem tw4593294709026258786:True:=trivial
theorem tw8040771413219435098:True:=trivial
theorem tw15162217921772873613:True:=trivial
theorem tw2175471002772951711:True:=trivial
theorem tw653560878884961445:True:=trivial
theorem tw6719018230134327050:True:=trivial
theorem tw4916342969005030805:True:=trivial
theorem tw14988988175077273356:True:=trivial
theorem tw11182679623053108816:True:=trivial
theorem tw11463670642173560981:True:=trivial
theorem tw607667584577438428:True:=trivial
theorem tw3910120701321347557:True:=trivial
theorem tw14883556706271630602:True:=trivial
theorem tw13028658284911697911:True:=trivial
theorem tw10242277825702978295:True:=trivial
theorem tw10486713781251687710:True:=trivial
theorem tw3044157190286280182:True:=trivial
theorem tw17911580528928914924:True:=trivial
theorem tw4614512636035447770:True:=trivial
theorem tw8634839017697508684:True:=trivial
theorem tw4515466672771955728:True:=trivial
theorem tw9529696498207198238:True:=trivial
theorem tw4323815956820902445:True:=trivial
theorem tw1832781179975386347:True:=trivial
theorem tw3850404396616230974:True:=trivial
theorem tw8835965917227929528:True:=trivial
theorem tw10108825076125807744:True:=trivial
theorem tw3046938939346580660:True:=trivial
theorem tw2136269947727277649:True:=trivial
theorem tw1973129929022764952:True:=trivial
theorem tw8386679336120195906:True:=trivial
theorem tw14385925486924208373:True:=trivial
theorem tw6861490101519172755:True:=trivial
theorem tw8191475993861738794:True:=trivial
theorem tw13154458805202713791:True:=trivial
theorem tw5451054884063135654:True:=trivial
theorem tw17499823404086765753:True:=trivial
theorem tw3882201998751590657:True:=trivial
theorem tw8854015012368427407:True:=trivial
theorem tw11223184984439025696:True:=trivial
theorem tw15617896438947887921:True:=trivial
theorem tw1791086108937442324:True:=trivial
theorem tw8984712037535005518:True:=trivial
theorem tw18430954121086234272:True:=trivial
theorem tw2558664710541493025:True:=trivial
theorem tw8652346329174877282:True:=trivial
theorem tw7311554392007033315:True:=trivial
theorem tw11404014056486942332:True:=trivial
theorem tw17137896507007830732:True:=trivial
theorem tw7304591109411159013:True:=trivial
theorem tw14904137174637212347:True:=trivial
theorem tw10841264019214440115:True:=trivial
theorem tw4146061822495498468:True:=trivial
theorem tw15140378357190847165:True:=trivial
theorem tw6776455111828631412:True:=trivial
theorem tw5731563423909890137:True:=trivial
theorem tw4439653461905209652:True:=trivial
theorem tw10609929442622069884:True:=trivial
theorem tw9207643191828677137:True:=trivial
theorem tw6709271908398517637:True:=trivial
theorem tw2043166853727251185:True:=trivial
theorem tw16563099163409725306:True:=trivial
theorem tw2644310842459337959:True:=trivial
theorem tw8312341600987523519:True:=trivial
theorem tw14746732674962391887:True:=trivial
theorem tw5640673133297012132:True:=trivial
theorem tw17274716441693411508:True:=trivial
theorem tw498061464947678834:True:=trivial
theorem tw10465528174321978529:True:=trivial
theorem tw1258919526383655059:True:=trivial
theorem tw15352839923633478061:True:=trivial
theorem tw6869992995446874880:True:=trivial
theorem tw15293083901398250104:True:=trivial
theorem tw9992725586745946429:True:=trivial
theorem tw445335354869643106:True:=trivial
theorem tw4781243967656130014:True:=trivial
theorem tw10442559174759676424:True:=trivial
theorem tw9634471323475708679:True:=trivial
theorem tw14991590004735058009:True:=trivial
theorem tw13431030151845061361:True:=trivial
theorem tw13281950902743806629:True:=trivial
theorem tw8790382262760724670:True:=trivial
theorem tw3033269912633744064:True:=trivial
theorem tw3912811242725288453:True:=trivial
theorem tw14997073306097389879:True:=trivial
theorem tw14596297492920191028:True:=trivial
theorem tw16098122237329998606:True:=trivial
theorem tw12977093529070104392:True:=trivial
theorem tw15694993059591697976:True:=trivial
theorem tw8330938851228082562:True:=trivial
theorem tw7930489173983624532:True:=trivial
theorem tw881140697980615281:True:=trivial
theorem tw5062152199769849712:True:=trivial
theorem tw2322801206320994539:True:=trivial
theorem tw14335913921861858828:True:=trivial
theorem tw8176227357466254829:True:=trivial
theorem tw8763168800255643514:True:=trivial
theorem tw5898729028444588960:True:=trivial
theorem tw15272395603832836080:True:=trivial
theorem tw10093380194815717143:True:=trivial
theorem tw2139172203440323022:True:=trivial
theorem tw11924911360389889469:True:=trivial
theorem tw16836969012518115619:True:=trivial
theorem tw12476058986133298565:True:=trivial
theorem tw14051398506283589457:True:=trivial
theorem tw3049941959672503198:True:=trivial
theorem tw10812634152524527747:True:=trivial
theorem tw9682718004065560343:True:=trivial
theorem tw11098625913536864229:True:=trivial
theorem tw18221428039690301666:True:=trivial
theorem tw6317479115527610633:True:=trivial
theorem tw10876394233666535175:True:=trivial
theorem tw15802469936163623734:True:=trivial
theorem tw8785698371604719795:True:=trivial
theorem tw12342728606916771844:True:=trivial
theorem tw1989176631692091739:True:=trivial
theorem tw15527639110640922598:True:=trivial
theorem tw17865009358878524859:True:=trivial
theorem tw4995542688137877417:True:=trivial
theorem tw13190408463805328480:True:=trivial
theorem tw2903333896348957400:True:=trivial
theorem tw8553002610548859549:True:=trivial
theorem tw9552830710289189752:True:=trivial
theorem tw16190678330180157336:True:=trivial
theorem tw9184033795430018204:True:=trivial
theorem tw9851250264566433934:True:=trivial
theorem tw15448297888555860652:True:=trivial
theorem tw724200737284857819:True:=trivial
theorem tw4464252984393422682:True:=trivial
theorem tw11764581739189218997:True:=trivial
theorem tw4273555757443719353:True:=trivial
theorem tw6934448944433832347:True:=trivial
theorem tw17027635718292003107:True:=trivial
theorem tw1285599515219305098:True:=trivial
theorem tw1335265377702380343:True:=trivial
theorem tw11289095316329951393:True:=trivial
theorem tw17028624522117568015:True:=trivial
theorem tw11946022803392826334:True:=trivial
theorem tw13250372474279835810:True:=trivial
theorem tw7820799176418779761:True:=trivial
theorem tw13780023080261437657:True:=trivial
theorem tw17237755526102222789:True:=trivial
theorem tw3959601488294255719:True:=trivial
theorem tw6765152471904792315:True:=trivial
theorem tw13301187468288870568:True:=trivial
theorem tw16194741210049916205:True:=trivial
theorem tw455179833554555240:True:=trivial
theorem tw3756957479349018193:True:=trivial
theorem tw7407239408455114201:True:=trivial
theorem tw11470271118054631628:True:=trivial
theorem tw15806970514647361693:True:=trivial
theorem tw16099233806120587224:True:=trivial
theorem tw17942709131360195518:True:=trivial
theorem tw12223724995276690173:True:=trivial
theorem tw5274592661964301406:True:=trivial
theorem tw3955097671198598788:True:=trivial
theorem tw18269650602155537469:True:=trivial
theorem tw12732824653754844360:True:=trivial
theorem tw9069877914133315304:True:=trivial
theorem tw7497986649931050792:True:=trivial
theorem tw8369274380968253667:True:=trivial
theorem tw981846192996546977:True:=trivial
theorem tw302768837105346163:True:=trivial
theorem tw7604666192120794032:True:=trivial
theorem tw9255152265573255198:True:=trivial
theorem tw7566432030715092817:True:=trivial
theorem tw15544829507116839252:True:=trivial
theorem tw1035469204868569938:True:=trivial
theorem tw745255978533919091:True:=trivial
theorem tw11640684591233886235:True:=trivial
theorem tw10362271348294423435:True:=trivial
theorem tw12115171985352901274:True:=trivial
theorem tw14892801356780361778:True:=trivial
theorem tw8417186165934385351:True:=trivial
theorem tw5914491427308094424:True:=trivial
theorem tw18203989763732354715:True:=trivial
theorem tw7019463264422422977:True:=trivial
theorem tw12419048959643632839:True:=trivial
theorem tw13882729330811710610:True:=trivial
theorem tw4030767218360268280:True:=trivial
theorem tw11347954631545130290:True:=trivial
theorem tw14390095281932903014:True:=trivial
theorem tw2387193687640843687:True:=trivial
theorem tw13190703287169160282:True:=trivial
theorem tw16978406815995349258:True:=trivial
theorem tw17470365217354309832:True:=trivial
theorem tw10027879121665395642:True:=trivial
theorem tw12687621791434340054:True:=trivial
theorem tw16381176275627223697:True:=trivial
theorem tw16015401734918298211:True:=trivial
theorem tw6723812968561706957:True:=trivial
theorem tw15961912297980305975:True:=trivial
theorem tw4594515247299072714:True:=trivial
theorem tw11803358882649189518:True:=trivial
theorem tw1172607208729018732:True:=trivial
theorem tw8285764192309689115:True:=trivial
theorem tw5907203647135998699:True:=trivial
end law_holds
theorem kc_nine {cm : Str → Option Value} {n₁ n₂ n₃ n₄ n₅ n₆ n₇ n₈ n₉ : Str} {c₁ c₂ c₃ c₄ c₅ c₆ c₇ c₈ c₉ : Addr} {cells : List (Addr × Obj)} {C : Prop} (x : CellsAre cm [(n₁, c₁), (n₂, c₂), (n₃, c₃), (n₄, c₄), (n₅, c₅), (n₆, c₆), (n₇, c₇), (n₈, c₈), (n₉, c₉)] cells)
    (k : ∀ o₁ o₂ o₃ o₄ o₅ o₆ o₇ o₈ o₉ : Obj, cells = [(c₁, o₁), (c₂, o₂), (c₃, o₃), (c₄, o₄), (c₅, o₅), (c₆, o₆), (c₇, o₇), (c₈, o₈), (c₉, o₉)] → o₁.data = .cell (cm n₁) → o₂.data = .cell (cm n₂) → o₃.data = .cell (cm n₃) → o₄.data = .cell (cm n₄) → o₅.data = .cell (cm n₅) → o₆.data = .cell (cm n₆) → o₇.data = .cell (cm n₇) → o₈.data = .cell (cm n₈) → o₉.data = .cell (cm n₉) → C) : C := by
  cases x with | cons h r => exact ex_8_9 (kc_eight r) fun o₂ o₃ o₄ o₅ o₆ o₇ o₈ o₉ e h₂ h₃ h₄ h₅ h₆ h₇ h₈ h₉ => k _ o₂ o₃ o₄ o₅ o₆ o₇ o₈ o₉ (by rw [e]) h h₂ h₃ h₄ h₅ h₆ h₇ h₈ h₉
set_option Elab.async true in
theorem law_holds : PySem.Challenge.rw_np0052_01.Holds := by
  w_on; o_law; k_head; (case hw => w_witness2)
  k_fill
  intro w s₀ s₁ mg mb G Y fa o pm cd doc dV kV ho hd hcd hD hmg hg args vals as hpre hlay hrd hwl hlo
  have KX := km_in_of Y
  km_tabs Y
  have X := (Ground.X G).1
  have V := (Ground.X G).2
  refine Ground.open G ?_
  intro T B D TE TW
  try (refine guard_noD D (by decide +kernel) ?_; clear D)
  have hfa : fa = 448 := by
    have e1 := mg_of (n := "law") (v := .ref 448) KX (topRead_of T).g (by k_is)
    have e2 := hmg.symm.trans e1
    exact Value.ref.inj (Option.some.inj e2)
  subst hfa
  km_lay T hmg ho hd cd
  clear hmg
  wrow_args hpre hlay hrd hwl hlo
  (first | refine callC_kw (enter_call ?_) | refine enter_call ?_)
  w_top on
  kn_posts
  have he := Dflts.none hD rfl
  subst he
  have he := Dflts.noKw hD
  subst he
  refine call_cellsN (by decide) ho (fd_plain hd) (Top.nolimit T) hcd rfl (kinds_of (by kinds_ok)) (by decide) fun h₁ tk₁ cells F N0 X0 => ?_
  refine kc_nine X0 ?_
  intro o1 o2 o3 o4 o5 o6 o7 o8 o9 he d1 d2 d3 d4 d5 d6 d7 d8 d9
  subst he
  clear X0
  clear hd
  kn_ghosts F T
  k_drop
  rename Frag.In _ _ => XX0
  have XX : (Mine.hd.heap_1 w.params).In (ghostOf s₁.heap [(430, 426), (447, 445)]) := XX0
  rename Below callerA _ _ _ => BB
  rename Fr _ _ _ _ => FF
  rename News _ _ _ _ => NN
  rename Top _ _ _ _ _ (ghostOf _ _) => TT
  rename IntsAre _ _ => hI
  show wpAny _ (ktrTop (1 + claimMargin + 1) 7 (some []) "law" _ s₁.heap.objs.size 448 (.ref 447) _ []) (execs _ (envX "law" _ s₁.heap.objs.size 448 (.ref 447) _)) _ _ { s₁ with heap := h₁, toks := tk₁ }
  refine' wpAny_mono (law_walk (L := s₁.heap.objs.size) (s := { s₁ with heap := h₁, toks := tk₁ }) (w := w) (dp := 1 + claimMargin + 1) (un := 7) (gd := some []) hI ?len ?ho lifted BB FF XX TT ?hd ?hu codeHd ?hL d1 d2 d3 d4 d5 d6 d7 d8 d9 NN) ?post ?err
  case ho => k_is
  case len => omega
  case hd => decide
  case hu => decide
  case hL => exact Nat.lt_of_lt_of_le (Heap.lt_size (XX0 448 _ (by k_is))) FF.above
  case err => exact fun _ _ e => e.elim
  rintro fl s' x
  refine genP fun C9 k9 => ?_
  obtain ⟨m', nw, h', tk', ps1, ps2, rfl, rfl, F9, N9, h1, h2⟩ := x
  refine k9 ?_
  clear k9 C9
  refine ⟨goodW_bool F9 hg (raisesW_false ?_) ?_, GrownAt.of N9 h1, GrownAt.of N9 h2, trivial⟩
  · wrow_none_raised
  · kc_post
end
end Mine
set_option maxRecDepth 100000 in
set_option maxHeartbeats 8000000 in
theorem PySem.Challenge.cw_np0052_01_holds : PySem.Challenge.rw_np0052_01.Holds :=
  Mine.law_holds
