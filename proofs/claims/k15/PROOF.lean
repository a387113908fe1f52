import PyProof.Rows.All
import Wide.All
import OpenK.AllK
import Wide.FinOn
import HandS.ForMost
import HandS.ForExc
import HandS.Wide
import HandS.WideBits
import HandS.IsInst
import HandS.ExcIs
import HandS.HotCalls
import HandS.Codes
import HandS.TupLe
import HandS.Rev
import HandS.More
import PySem.Challenge.RW_waysum_k15_each_refusal_its_own
set_option Elab.async false
set_option linter.all false
set_option maxRecDepth 100000
set_option maxHeartbeats 4000000
set_option autoImplicit false
namespace Ws
open PySem PySem.Spec PyProof.Rows L2
/-- the i-th statement of the text's top -/
def topS (i : Nat) : Stmt := PySem.Challenge.pw_waysum_k15_each_refusal_its_own.main.body.getD i (.Pass ⟨0, 0, 0, 0⟩)
abbrev s_common : Stmt := topS 11
abbrev s_lowest : Stmt := topS 12
abbrev s_is_share : Stmt := topS 13
abbrev s_added : Stmt := topS 14
abbrev s_taken : Stmt := topS 15
abbrev s_less : Stmt := topS 16
abbrev s_worth_of : Stmt := topS 33
abbrev s_by_steps : Stmt := topS 34
abbrev s_straight : Stmt := topS 35
abbrev s_through : Stmt := topS 36
abbrev s_table : Stmt := topS 37
abbrev s_total : Stmt := topS 38
abbrev s_without : Stmt := topS 39
abbrev s_spread : Stmt := topS 41
abbrev s_way_for : Stmt := topS 42
abbrev s__law_cell_at : Stmt := topS 44
abbrev s__law_which : Stmt := topS 45
abbrev s__law_no_net : Stmt := topS 46
abbrev s__law_no_worth : Stmt := topS 47
abbrev s__law_no_place : Stmt := topS 48
abbrev s__law_no_sum : Stmt := topS 49
abbrev s__law_done : Stmt := topS 50
abbrev s_law : Stmt := topS 51
abbrev s_Kind_picks : Stmt := inClass (topS 19) 0
abbrev s_Fewest_picks : Stmt := inClass (topS 20) 0
abbrev s_Fewest_none : Stmt := inClass (topS 20) 1
abbrev s_Fewest_rest : Stmt := inClass (topS 20) 2
abbrev s_Fewest_is_worth : Stmt := inClass (topS 20) 3
abbrev s_Fewest_together : Stmt := inClass (topS 20) 4
abbrev s_Fewest_behind : Stmt := inClass (topS 20) 5
abbrev s_Fewest_rounds : Stmt := inClass (topS 20) 6
abbrev s_Widest_picks : Stmt := inClass (topS 21) 0
abbrev s_Widest_none : Stmt := inClass (topS 21) 1
abbrev s_Widest_rest : Stmt := inClass (topS 21) 2
abbrev s_Widest_is_worth : Stmt := inClass (topS 21) 3
abbrev s_Widest_together : Stmt := inClass (topS 21) 4
abbrev s_Widest_behind : Stmt := inClass (topS 21) 5
abbrev s_Widest_rounds : Stmt := inClass (topS 21) 6
abbrev s_Counted_none : Stmt := inClass (topS 22) 0
abbrev s_Counted_rest : Stmt := inClass (topS 22) 1
abbrev s_Counted_is_worth : Stmt := inClass (topS 22) 2
abbrev s_Counted_together : Stmt := inClass (topS 22) 3
abbrev s_Counted_behind : Stmt := inClass (topS 22) 4
abbrev s_Counted_rounds : Stmt := inClass (topS 22) 5
abbrev s_Likeliest_picks : Stmt := inClass (topS 23) 0
abbrev s_Likeliest_none : Stmt := inClass (topS 23) 1
abbrev s_Likeliest_rest : Stmt := inClass (topS 23) 2
abbrev s_Likeliest_is_worth : Stmt := inClass (topS 23) 3
abbrev s_Likeliest_together : Stmt := inClass (topS 23) 4
abbrev s_Likeliest_behind : Stmt := inClass (topS 23) 5
abbrev s_Likeliest_rounds : Stmt := inClass (topS 23) 6
abbrev s_Chances_none : Stmt := inClass (topS 24) 0
abbrev s_Chances_rest : Stmt := inClass (topS 24) 1
abbrev s_Chances_is_worth : Stmt := inClass (topS 24) 2
abbrev s_Chances_together : Stmt := inClass (topS 24) 3
abbrev s_Chances_behind : Stmt := inClass (topS 24) 4
abbrev s_Chances_rounds : Stmt := inClass (topS 24) 5
abbrev s_Musts_none : Stmt := inClass (topS 25) 0
abbrev s_Musts_rest : Stmt := inClass (topS 25) 1
abbrev s_Musts_is_worth : Stmt := inClass (topS 25) 2
abbrev s_Musts_together : Stmt := inClass (topS 25) 3
abbrev s_Musts_behind : Stmt := inClass (topS 25) 4
abbrev s_Musts_rounds : Stmt := inClass (topS 25) 5
abbrev s_Rests___init__ : Stmt := inClass (topS 26) 0
abbrev s_Rests_none : Stmt := inClass (topS 26) 1
abbrev s_Rests_rest : Stmt := inClass (topS 26) 2
abbrev s_Rests_is_worth : Stmt := inClass (topS 26) 3
abbrev s_Rests_together : Stmt := inClass (topS 26) 4
abbrev s_Rests_behind : Stmt := inClass (topS 26) 5
abbrev s_Rests_rounds : Stmt := inClass (topS 26) 6
abbrev s_Net___init__ : Stmt := inClass (topS 30) 0
abbrev s_Net_ask_shares : Stmt := inClass (topS 30) 1
abbrev s_Net_ask : Stmt := inClass (topS 30) 2
abbrev s_Net_kind : Stmt := inClass (topS 30) 3
abbrev s_Net_places : Stmt := inClass (topS 30) 4
abbrev s_Net_roads : Stmt := inClass (topS 30) 5
abbrev s_Counted_picks : Stmt := inClass (topS 19) 0
abbrev s_Chances_picks : Stmt := inClass (topS 19) 0
abbrev s_Musts_picks : Stmt := inClass (topS 19) 0
abbrev s_Rests_picks : Stmt := inClass (topS 19) 0
/-! ### M1: worths, deeds (plain Lean) -/
/-- the seven kinds -/
inductive Kd where
  | few | wid | cnt | lik | cha | mus | rst (m : Nat)
  deriving DecidableEq
/-- their classes -/
inductive Kx where
  | few | wid | cnt | lik | cha | mus | rst
  deriving DecidableEq
def Kd.x : Kd → Kx
  | .few => .few | .wid => .wid | .cnt => .cnt | .lik => .lik | .cha => .cha | .mus => .mus | .rst _ => .rst
/-- rests by 1 to 12 -/
def KOk : Kd → Prop
  | .rst m => 1 ≤ m ∧ m ≤ 12
  | _ => True
/-- a worth -/
inductive Wo where
  | non | int (i : Int) | rat (r : Rat)
  deriving DecidableEq
def noneW : Kd → Wo
  | .few => .non | .wid => .int 0 | .cnt => .int 0 | .lik => .rat 0 | .cha => .rat 0 | .mus => .non | .rst _ => .int 0
def restW : Kd → Wo
  | .few => .int 0 | .wid => .int 1000000000 | .cnt => .int 1 | .lik => .rat 1 | .cha => .rat 1 | .mus => .int 0 | .rst _ => .int 1
/-- a worth of the kind -/
def Good : Kd → Wo → Prop
  | .few, .non => True
  | .few, .int i => 0 ≤ i
  | .wid, .int i => 0 ≤ i ∧ i ≤ 1000000000
  | .cnt, .int i => -1 ≤ i
  | .lik, .rat r => 0 ≤ r ∧ r ≤ 1
  | .cha, .rat r => 0 ≤ r
  | .mus, .non => True
  | .mus, .int i => 0 ≤ i
  | .rst m, .int i => 0 ≤ i ∧ i < 2 ^ m
  | _, _ => False
/-- the number whose bits below n are told -/
def bitsOf : Nat → (Nat → Bool) → Nat
  | 0, _ => 0
  | n + 1, p => bitsOf n p ||| (if p n then 2 ^ n else 0)
theorem bitsOf_lt : ∀ (n : Nat) (p : Nat → Bool), bitsOf n p < 2 ^ n
  | 0, _ => by show 0 < 1; decide
  | n + 1, p => by
    unfold bitsOf
    have h := bitsOf_lt n p
    refine Nat.or_lt_two_pow (by rw [Nat.pow_succ]; omega) ?_
    split
    · exact Nat.pow_lt_pow_right (by decide) (by omega)
    · exact Nat.two_pow_pos _
theorem testBit_bitsOf : ∀ (n : Nat) (p : Nat → Bool) (r : Nat), (bitsOf n p).testBit r = (decide (r < n) && p r)
  | 0, p, r => by simp [bitsOf]
  | n + 1, p, r => by
    unfold bitsOf
    rw [Nat.testBit_or, testBit_bitsOf n p r]
    by_cases h : r = n
    · subst h
      cases e : p r <;> simp
    · have h2 : decide (r < n + 1) = decide (r < n) := by
        rw [decide_eq_decide]; omega
      rw [h2]
      have h3 : (if p n then 2 ^ n else 0).testBit r = false := by
        split
        · rw [Nat.testBit_two_pow]; exact decide_eq_false (fun e => h e.symm)
        · exact Nat.zero_testBit r
      rw [h3, Bool.or_false]
theorem testBit_above {a m r : Nat} (h : a < 2 ^ m) (hr : m ≤ r) : a.testBit r = false :=
  Nat.testBit_lt_two_pow (Nat.lt_of_lt_of_le h (Nat.pow_le_pow_right (by decide) hr))
/-- rests behind one another -/
def rbeh (m a b : Nat) : Nat := bitsOf m fun r => (List.range m).any fun i => (List.range m).any fun j => a.testBit i && b.testBit j && (i + j) % m == r
theorem testBit_rbeh (m a b r : Nat) : (rbeh m a b).testBit r = true ↔ r < m ∧ ∃ i j, i < m ∧ j < m ∧ a.testBit i = true ∧ b.testBit j = true ∧ (i + j) % m = r := by
  unfold rbeh
  rw [testBit_bitsOf]
  simp only [Bool.and_eq_true, decide_eq_true_eq, List.any_eq_true, List.mem_range, beq_iff_eq]
  constructor
  · rintro ⟨h, i, hi, j, hj, ⟨ha, hb⟩, e⟩
    exact ⟨h, i, j, hi, hj, ha, hb, e⟩
  · rintro ⟨h, i, j, hi, hj, ha, hb, e⟩
    exact ⟨h, i, hi, j, hj, ⟨ha, hb⟩, e⟩
theorem rbeh_lt (m a b : Nat) : rbeh m a b < 2 ^ m := bitsOf_lt _ _
/-- rounds of rests: n turns -/
def riter (m a : Nat) : Nat → Nat
  | 0 => 1
  | n + 1 => riter m a n ||| rbeh m (riter m a n) a
def rstar (m a : Nat) : Nat := riter m a m
/-- together -/
def tog : Kd → Wo → Wo → Wo
  | .few, .non, b => b
  | .few, a, .non => a
  | .few, .int i, .int j => .int (if j < i then j else i)
  | .wid, .int i, .int j => .int (if j > i then j else i)
  | .cnt, .int i, .int j => if i = -1 ∨ j = -1 then .int (-1) else .int (i + j)
  | .lik, .rat r, .rat s => if r < s then .rat s else .rat r
  | .cha, .rat r, .rat s => .rat (r + s)
  | .mus, .non, b => b
  | .mus, a, .non => a
  | .mus, .int i, .int j => .int ((i.toNat &&& j.toNat : Nat) : Int)
  | .rst _, .int i, .int j => .int ((i.toNat ||| j.toNat : Nat) : Int)
  | _, a, _ => a
/-- behind -/
def beh : Kd → Wo → Wo → Wo
  | .few, .int i, .int j => .int (i + j)
  | .few, _, _ => .non
  | .wid, .int i, .int j => .int (if j < i then j else i)
  | .cnt, .int i, .int j => if i = 0 ∨ j = 0 then .int 0 else if i = -1 ∨ j = -1 then .int (-1) else .int (i * j)
  | .lik, .rat r, .rat s => .rat (r * s)
  | .cha, .rat r, .rat s => .rat (r * s)
  | .mus, .int i, .int j => .int ((i.toNat ||| j.toNat : Nat) : Int)
  | .mus, _, _ => .non
  | .rst m, .int i, .int j => .int (rbeh m i.toNat j.toNat : Nat)
  | _, a, _ => a
/-- rounds; none: no sum -/
def rnd : Kd → Wo → Option Wo
  | .few, _ => some (.int 0)
  | .wid, _ => some (.int 1000000000)
  | .cnt, .int i => some (.int (if i = 0 then 1 else -1))
  | .lik, _ => some (.rat 1)
  | .cha, .rat r => if r < 1 then some (.rat (1 / (1 - r))) else none
  | .mus, _ => some (.int 0)
  | .rst m, .int i => some (.int (rstar m i.toNat : Nat))
  | _, a => some a
/-- does the kind pick -/
def pick : Kd → Bool
  | .few => true | .wid => true | .lik => true | _ => false
/-- a number of bits -/
def sz : Wo → Nat
  | .non => 1
  | .int i => i.natAbs.log2 + 1
  | .rat r => max (r.num.natAbs.log2 + 1) (r.den.log2 + 1)
/-- what the deeds ask of sizes -/
def Fits : Kd → Wo → Wo → Prop
  | .lik, a, b => sz a + sz b ≤ 8000
  | .cha, a, b => sz a + sz b ≤ 8000
  | .cnt, a, b => sz a + sz b ≤ 900000
  | _, _, _ => True
/-- of one worth -/
def Fit1 : Kd → Wo → Prop
  | .cha, a => sz a ≤ 8000
  | _, _ => True
/-! rounds of rests -/
theorem riter_lt {m : Nat} (h : 1 ≤ m) (a : Nat) : ∀ n, riter m a n < 2 ^ m
  | 0 => by show 1 < 2 ^ m; exact Nat.one_lt_two_pow (by omega)
  | n + 1 => Nat.or_lt_two_pow (riter_lt h a n) (rbeh_lt m _ a)
theorem riter_sub (m a n r : Nat) (h : (riter m a n).testBit r = true) : (riter m a (n + 1)).testBit r = true := by
  show (riter m a n ||| rbeh m (riter m a n) a).testBit r = true
  rw [Nat.testBit_or, h, Bool.true_or]
def cnt (F : Nat) : Nat → Nat
  | 0 => 0
  | m + 1 => cnt F m + (if F.testBit m then 1 else 0)
theorem cnt_le (F : Nat) : ∀ m, cnt F m ≤ m
  | 0 => Nat.le_refl 0
  | m + 1 => by
    have := cnt_le F m
    unfold cnt
    split <;> omega
theorem cnt_mono {F G : Nat} (h : ∀ r, F.testBit r = true → G.testBit r = true) : ∀ m, cnt F m ≤ cnt G m
  | 0 => Nat.le_refl 0
  | m + 1 => by
    have := cnt_mono h m
    unfold cnt
    by_cases e : F.testBit m = true
    · rw [if_pos e, if_pos (h m e)]; omega
    · rw [if_neg e]; omega
theorem cnt_lt {F G : Nat} (h : ∀ r, F.testBit r = true → G.testBit r = true) : ∀ m r, r < m → F.testBit r = false → G.testBit r = true → cnt F m < cnt G m
  | 0, r, hr, _, _ => by omega
  | m + 1, r, hr, h1, h2 => by
    unfold cnt
    by_cases e : r = m
    · subst e
      have := cnt_mono h r
      rw [h1, h2]
      simp
      omega
    · have := cnt_lt h m r (by omega) h1 h2
      by_cases e : F.testBit m = true
      · rw [if_pos e, if_pos (h m e)]; omega
      · rw [if_neg e]; omega
theorem riter_still {m a n : Nat} (h : riter m a (n + 1) = riter m a n) : ∀ k, riter m a (n + k) = riter m a n
  | 0 => rfl
  | k + 1 => by
    have ih := riter_still h k
    show riter m a (n + k) ||| rbeh m (riter m a (n + k)) a = _
    rw [ih]
    exact h
theorem riter_grows {m a : Nat} (hm : 1 ≤ m) : ∀ n, (∀ j, j < n → riter m a (j + 1) ≠ riter m a j) → n + 1 ≤ cnt (riter m a n) m
  | 0, _ => by
    have h : cnt 0 m < cnt 1 m := cnt_lt (F := 0) (G := 1) (fun r h => by simp at h) m 0 (by omega) (by simp) (by simp)
    show 0 + 1 ≤ cnt 1 m
    omega
  | n + 1, h => by
    have ih := riter_grows hm n fun j hj => h j (by omega)
    have ne := h n (by omega)
    obtain ⟨r, hr⟩ : ∃ r, (riter m a (n + 1)).testBit r ≠ (riter m a n).testBit r := by
      refine Classical.byContradiction fun z => ne (Nat.eq_of_testBit_eq fun r => ?_)
      exact Classical.byContradiction fun y => z ⟨r, y⟩
    have h1 : (riter m a n).testBit r = false := by
      cases e : (riter m a n).testBit r with
      | false => rfl
      | true => exact absurd ((riter_sub m a n r e).trans e.symm) hr
    have h2 : (riter m a (n + 1)).testBit r = true := by
      cases e : (riter m a (n + 1)).testBit r with
      | true => rfl
      | false => exact absurd (e.trans h1.symm) hr
    have hrm : r < m := by
      refine Classical.byContradiction fun z => ?_
      rw [testBit_above (riter_lt hm a (n + 1)) (by omega)] at h2
      cases h2
    have := cnt_lt (riter_sub m a n) m r hrm h1 h2
    omega
theorem riter_stops {m a : Nat} (hm : 1 ≤ m) : ∃ n, n < m ∧ riter m a (n + 1) = riter m a n := by
  refine Classical.byContradiction fun z => ?_
  have := riter_grows (a := a) hm m fun j hj e => z ⟨j, hj, e⟩
  have := cnt_le (riter m a m) m
  omega
theorem riter_end {m a n : Nat} (hm : 1 ≤ m) (h : riter m a (n + 1) = riter m a n) : riter m a n = rstar m a := by
  obtain ⟨j, hj, e⟩ := riter_stops (a := a) hm
  have e1 := riter_still e (m - j)
  rw [show j + (m - j) = m by omega] at e1
  show riter m a n = riter m a m
  rw [e1]
  by_cases hn : n ≤ j
  · have := riter_still h (j - n)
    rw [show n + (j - n) = j by omega] at this
    exact this.symm
  · have := riter_still e (n - j)
    rw [show j + (n - j) = n by omega] at this
    exact this
theorem rstar_fix {m a : Nat} (hm : 1 ≤ m) : rstar m a ||| rbeh m (rstar m a) a = rstar m a := by
  obtain ⟨j, hj, e⟩ := riter_stops (a := a) hm
  have e1 := riter_still e (m - j)
  have e2 := riter_still e (m + 1 - j)
  rw [show j + (m - j) = m by omega] at e1
  rw [show j + (m + 1 - j) = m + 1 by omega] at e2
  show riter m a (m + 1) = riter m a m
  rw [e1, e2]
theorem rstar_lt {m : Nat} (h : 1 ≤ m) (a : Nat) : rstar m a < 2 ^ m := riter_lt h a m
/-! the laws' own numbers for the kinds -/
def wh : Kd → Int
  | .few => 0 | .wid => 1 | .cnt => 2 | .lik => 3 | .cha => 4 | .mus => 5 | .rst _ => 6
def kd (w m : Int) : Kd := if w = 0 then .few else if w = 1 then .wid else if w = 2 then .cnt else if w = 3 then .lik else if w = 4 then .cha else if w = 5 then .mus else .rst m.toNat
theorem wh_kd {w m : Int} (h0 : 0 ≤ w) (h6 : w ≤ 6) : wh (kd w m) = w := by
  unfold kd
  by_cases e0 : w = 0
  · subst e0; rfl
  by_cases e1 : w = 1
  · subst e1; rfl
  by_cases e2 : w = 2
  · subst e2; rfl
  by_cases e3 : w = 3
  · subst e3; rfl
  by_cases e4 : w = 4
  · subst e4; rfl
  by_cases e5 : w = 5
  · subst e5; rfl
  rw [if_neg e0, if_neg e1, if_neg e2, if_neg e3, if_neg e4, if_neg e5]
  show (6 : Int) = w
  omega
theorem kd_rst {w m : Int} (hm : 0 ≤ m) {m' : Nat} (h : kd w m = .rst m') : m = (m' : Int) := by
  unfold kd at h
  by_cases e0 : w = 0
  · rw [if_pos e0] at h; cases h
  by_cases e1 : w = 1
  · rw [if_neg e0, if_pos e1] at h; cases h
  by_cases e2 : w = 2
  · rw [if_neg e0, if_neg e1, if_pos e2] at h; cases h
  by_cases e3 : w = 3
  · rw [if_neg e0, if_neg e1, if_neg e2, if_pos e3] at h; cases h
  by_cases e4 : w = 4
  · rw [if_neg e0, if_neg e1, if_neg e2, if_neg e3, if_pos e4] at h; cases h
  by_cases e5 : w = 5
  · rw [if_neg e0, if_neg e1, if_neg e2, if_neg e3, if_neg e4, if_pos e5] at h; cases h
  rw [if_neg e0, if_neg e1, if_neg e2, if_neg e3, if_neg e4, if_neg e5] at h
  injection h with h
  omega
theorem kd_ok {w m : Int} (h1 : 1 ≤ m) (h12 : m ≤ 12) : KOk (kd w m) := by
  cases e : kd w m with
  | rst m' => have := kd_rst (by omega) e; exact ⟨by omega, by omega⟩
  | _ => trivial
/-- a cell of the script -/
def cell (ns : List Int) (i : Nat) : Int := ns.getD i 0
/-- a drawn worth -/
def lawW2 (k : Kd) (c : Int) : Wo :=
  match k with
  | .few => .int (if c % 6 < 5 then c / 6 % 20 else c / 6 % 10 ^ 30)
  | .wid => .int (if c % 6 < 5 then c / 6 % 20 else c / 6 % (10 ^ 9 + 1))
  | .cnt => .int (if c % 6 < 5 then c / 6 % 5 - 1 else c / 6 % 10 ^ 30)
  | .lik => .rat (Rat.divInt (c / 6 % (1 + c / 6 / 7 % 12 + 1)) (1 + c / 6 / 7 % 12))
  | .cha => .rat (Rat.divInt (c / 6 % 9) (1 + c / 6 / 9 % 12))
  | .mus => .int (if c % 6 < 5 then c / 6 % 16 else c / 6 % 10 ^ 30)
  | .rst m => .int (c / 6 % 2 ^ m)
def lawW (k : Kd) (c : Int) : Wo := if c % 6 = 1 then noneW k else if c % 6 = 2 then restW k else lawW2 k c
theorem good_none (k : Kd) : Good k (noneW k) := by
  cases k <;> simp [noneW, Good]
  all_goals first | decide | exact Nat.two_pow_pos _ | skip
  · rename_i m; exact_mod_cast Nat.two_pow_pos m
theorem good_rest {k : Kd} (h : KOk k) : Good k (restW k) := by
  cases k <;> simp [restW, Good]
  all_goals first | decide | skip
  · rename_i m
    have : 1 < 2 ^ m := Nat.one_lt_two_pow (by have := h.1; omega)
    exact_mod_cast this
/-! ### K0: words for defs, methods, classes; calls that may raise; instances of classes without an __init__ -/
section
variable {P : Program} {w : World} {K : PySem.W.Frag} {mg : Str → Option Value} {base : Heap}
/-- a def of the module's top -/
structure Dfn (K : PySem.W.Frag) (mg : Str → Option Value) (x : Str) (st : Stmt) (ps : List Str) (f : Addr) (fd : FuncData) : Prop where
  g : mg x = some (.ref f)
  F : Fun K x x st f fd
  b : Binds K fd ps []
/-- a method of the class at C -/
structure Mth (K : PySem.W.Frag) (C : Addr) (m qual : Str) (st : Stmt) (ps : List Str) (f : Addr) (fd : FuncData) : Prop where
  me : Meth K C m f
  F : Fun K m qual st f fd
  b : Binds K fd ps []
/-- a class of the program's own -/
structure Clz (K : PySem.W.Frag) (mg : Str → Option Value) (x : Str) (C : Addr) : Prop where
  g : mg x = some (.ref C)
  cl : Cls K C
  kp : PySem.W.keepIn K (.ref C) = true
  mks : PySem.W.makesIn K C = true
  ha : PySem.W.findIn K (.ref C) "__class__" = some (some (.builtin "object.__class__"))
  hm : PySem.W.mroIn K C (.type "object") = some true
/-- it has no __init__ of its own -/
structure Bare (K : PySem.W.Frag) (C : Addr) : Prop where
  ini : PySem.W.findIn K (.ref C) "__init__" = some (some (.builtin "object.__init__"))
/-- what may be called by the name x: it keeps the promise sp -/
structure Fc (CX : CXT) (P : Program) (w : World) (K : PySem.W.Frag) (mg : Str → Option Value) (base : Heap) (k : Nat) (x : Str) (sp : Sp) : Prop where
  ex : ∃ (f : Addr) (fd : FuncData) (ps : List Str), FnOk P w K mg base CX k f fd ps sp ∧ mg x = some (.ref f) ∧ PySem.W.keepIn K (.ref f) = true ∧ Binds K fd ps []
structure Mc (CX : CXT) (P : Program) (w : World) (K : PySem.W.Frag) (mg : Str → Option Value) (base : Heap) (k : Nat) (C : Addr) (m : Str) (sp : Sp) : Prop where
  ex : ∃ (f : Addr) (fd : FuncData) (ps : List Str), FnOk P w K mg base CX k f fd ps sp ∧ Cls K C ∧ Meth K C m f ∧ Binds K fd ps []
theorem Fc.imp {CX : CXT} {k : Nat} {x : Str} {sp sp' : Sp} (F : Fc CX P w K mg base k x sp) (h : ∀ vs H Q E, sp' vs H Q E → sp vs H Q E) : Fc CX P w K mg base k x sp' := by
  obtain ⟨f, fd, ps, G, r⟩ := F.ex
  exact ⟨f, fd, ps, G.imp h, r⟩
theorem Mc.imp {CX : CXT} {k : Nat} {C : Addr} {x : Str} {sp sp' : Sp} (F : Mc CX P w K mg base k C x sp) (h : ∀ vs H Q E, sp' vs H Q E → sp vs H Q E) : Mc CX P w K mg base k C x sp' := by
  obtain ⟨f, fd, ps, G, r⟩ := F.ex
  exact ⟨f, fd, ps, G.imp h, r⟩
theorem Mc.mono {CX : CXT} {j k : Nat} {C : Addr} {x : Str} {sp : Sp} (F : Mc CX P w K mg base j C x sp) (h : j ≤ k) : Mc CX P w K mg base k C x sp := by
  obtain ⟨f, fd, ps, G, r⟩ := F.ex
  exact ⟨f, fd, ps, G.mono h, r⟩
/-- what raises nothing may stand where something may be raised -/
theorem anyCX {CX : CXT} {k : Nat} {f : Addr} {fd : FuncData} {ps : List Str} {sp : Sp} (F : FnOk P w K mg base CX0 k f fd ps sp) : FnOk P w K mg base CX k f fd ps sp :=
  ⟨F.len, fun A outer s H args us vs Q E hr he hb hv hs => codeAny_mono (F.run A outer s H args us vs Q E hr he hb hv hs) fun r s' h => by
    cases r with
    | error e => exact False.elim h
    | ok fl => cases fl <;> exact h⟩
theorem Fc.any {CX : CXT} {k : Nat} {x : Str} {sp : Sp} (F : Fc CX0 P w K mg base k x sp) : Fc CX P w K mg base k x sp := by
  obtain ⟨f, fd, ps, G, r⟩ := F.ex
  exact ⟨f, fd, ps, anyCX G, r⟩
theorem Mc.any {CX : CXT} {k : Nat} {C : Addr} {x : Str} {sp : Sp} (F : Mc CX0 P w K mg base k C x sp) : Mc CX P w K mg base k C x sp := by
  obtain ⟨f, fd, ps, G, r⟩ := F.ex
  exact ⟨f, fd, ps, anyCX G, r⟩
/-- by its body: nothing is raised -/
theorem fc0 {x : Str} {st : Stmt} {ps N : List Str} {f : Addr} {fd : FuncData} {k : Nat} {sp : Sp} (D : Dfn K mg x st ps f fd) (S : FnScope N ps (defScope st)) (len : ∀ vs H Q E, sp vs H Q E → vs.length = ps.length)
    (body : ∀ (cdv : Value) (A : Around) (outer : List Env) (s : Shared) (H : Hp) (vs : List V) (Q : VK) (E : XK), Room k (A.deeper (envOfC x (defScope st) s.heap.objs.size f cdv)) → sp vs H Q E →
      ∃ t, PSs (cxOf CX0 P w K mg base N x (defScope st) f cdv A outer s H E).nox (defBody st) t ∧ t { nx := fun _ H' => Q .non H', rt := Q } (start N vs) H) : Fc CX0 P w K mg base (k + 1) x sp :=
  ⟨f, fd, ps, D.F.ok S len body, D.g, D.F.kp, D.b⟩
theorem mc0 {C : Addr} {m qual : Str} {st : Stmt} {ps N : List Str} {f : Addr} {fd : FuncData} {k : Nat} {sp : Sp} (c : Cls K C) (D : Mth K C m qual st ps f fd) (S : FnScope N ps (defScope st)) (len : ∀ vs H Q E, sp vs H Q E → vs.length = ps.length)
    (body : ∀ (cdv : Value) (A : Around) (outer : List Env) (s : Shared) (H : Hp) (vs : List V) (Q : VK) (E : XK), Room k (A.deeper (envOfC qual (defScope st) s.heap.objs.size f cdv)) → sp vs H Q E →
      ∃ t, PSs (cxOf CX0 P w K mg base N qual (defScope st) f cdv A outer s H E).nox (defBody st) t ∧ t { nx := fun _ H' => Q .non H', rt := Q } (start N vs) H) : Mc CX0 P w K mg base (k + 1) C m sp :=
  ⟨f, fd, ps, D.F.ok S len body, c, D.me, D.b⟩
/-- by its body: something may be raised -/
theorem fcX {x : Str} {st : Stmt} {ps N : List Str} {f : Addr} {fd : FuncData} {k : Nat} {sp : Sp} (D : Dfn K mg x st ps f fd) (S : FnScope N ps (defScope st)) (len : ∀ vs H Q E, sp vs H Q E → vs.length = ps.length)
    (body : ∀ (cdv : Value) (A : Around) (outer : List Env) (s : Shared) (H : Hp) (vs : List V) (Q : VK) (E : XK), Room k (A.deeper (envOfC x (defScope st) s.heap.objs.size f cdv)) → sp vs H Q E →
      ∃ t, PSs (cxOf (L2.CX P w) P w K mg base N x (defScope st) f cdv A outer s H E) (defBody st) t ∧ t { nx := fun _ H' => Q .non H', rt := Q } (start N vs) H) : Fc (L2.CX P w) P w K mg base (k + 1) x sp :=
  ⟨f, fd, ps, D.F.okX S len body, D.g, D.F.kp, D.b⟩
theorem mcX {C : Addr} {m qual : Str} {st : Stmt} {ps N : List Str} {f : Addr} {fd : FuncData} {k : Nat} {sp : Sp} (c : Cls K C) (D : Mth K C m qual st ps f fd) (S : FnScope N ps (defScope st)) (len : ∀ vs H Q E, sp vs H Q E → vs.length = ps.length)
    (body : ∀ (cdv : Value) (A : Around) (outer : List Env) (s : Shared) (H : Hp) (vs : List V) (Q : VK) (E : XK), Room k (A.deeper (envOfC qual (defScope st) s.heap.objs.size f cdv)) → sp vs H Q E →
      ∃ t, PSs (cxOf (L2.CX P w) P w K mg base N qual (defScope st) f cdv A outer s H E) (defBody st) t ∧ t { nx := fun _ H' => Q .non H', rt := Q } (start N vs) H) : Mc (L2.CX P w) P w K mg base (k + 1) C m sp :=
  ⟨f, fd, ps, D.F.okX S len body, c, D.me, D.b⟩
end
section
variable {X : Cx} {CX : CXT} {k j : Nat} {C : Addr} {x m : Str} {sp : Sp} {E : XK} {ES : L2.St → XK} {p pos apos : Pos} {e o : Expr} {es : List Expr} {ta : TE} {t : TA}
/-- f(e, ..) -/
theorem pe_f (F : Fc CX X.prog X.w X.K X.mg X.base k x sp) (hr : Room j X.A) (hk : k ≤ j) (hx : Passes CX X E) (hg : Gl X x) (ha : PA X (e :: es) t)
    (hdb : (x == ("__debug__" : Str)) = false := by decide) (he : starEach (e :: es) X.env = (false, eval e X.env) :: starEach es X.env := by rfl) (hpl : (backTo pos (starEach es X.env)).any (·.1) = false := by rfl) :
    PE X (.Call (.Name x p) (e :: es) [] pos) (tCall sp [] E t) := by
  obtain ⟨f, fd, ps, G, hm, kp, b⟩ := F.ex
  exact pe_call G (hr.mono hk) hg hm kp b .nil hx ha hdb he hpl
/-- .. what is raised is wished for at the slots -/
theorem pe_fS (F : Fc CX X.prog X.w X.K X.mg X.base k x sp) (hr : Room j X.A) (hk : k ≤ j) (hx : ∀ σ, PassesAt CX X σ (ES σ)) (hg : Gl X x) (ha : PA X (e :: es) t)
    (hdb : (x == ("__debug__" : Str)) = false := by decide) (he : starEach (e :: es) X.env = (false, eval e X.env) :: starEach es X.env := by rfl) (hpl : (backTo pos (starEach es X.env)).any (·.1) = false := by rfl) :
    PE X (.Call (.Name x p) (e :: es) [] pos) (tCallS sp ES t) := by
  obtain ⟨f, fd, ps, G, hm, kp, b⟩ := F.ex
  exact pe_callS G (hr.mono hk) hg hm kp b hx ha hdb he hpl
/-- o.m(e, ..) -/
theorem pe_m {pl : Sem Bool} (F : Mc CX X.prog X.w X.K X.mg X.base k C m sp) (hr : Room j X.A) (hk : k ≤ j) (hx : Passes CX X E) (ho : PE X o ta) (ha : PA X (e :: es) t)
    (hst : starEach (e :: es) X.env = (false, eval e X.env) :: starEach es X.env := by rfl) (hpl : (backTo pos (starEach es X.env)).any (·.1) = false := by rfl)
    (ht : eval (.Call (.Attribute o m apos) (e :: es) [] pos) X.env = (do
      let ov ← eval o X.env
      standAt apos.atName
      let (f, first) ← holding [ov] (getMethod ov m pl)
      callWith pos f first (backTo pos (starEach (e :: es) X.env)) (backToKw pos (keywordEach [] X.env))) := by rfl) :
    PE X (.Call (.Attribute o m apos) (e :: es) [] pos) (tMeth C m sp [] E ta t) := by
  obtain ⟨f, fd, ps, G, c, hm, b⟩ := F.ex
  exact pe_meth (pl := pl) ho c hm G (hr.mono hk) b .nil hx ha hst hpl ht
/-- o.m() -/
theorem pe_m0 {pl : Sem Bool} (F : Mc CX X.prog X.w X.K X.mg X.base k C m sp) (hr : Room j X.A) (hk : k ≤ j) (hx : Passes CX X E) (ho : PE X o ta)
    (ht : eval (.Call (.Attribute o m apos) [] [] pos) X.env = (do
      let ov ← eval o X.env
      standAt apos.atName
      let (f, first) ← holding [ov] (getMethod ov m pl)
      callWith pos f first (backTo pos (starEach [] X.env)) (backToKw pos (keywordEach [] X.env))) := by rfl) :
    PE X (.Call (.Attribute o m apos) [] [] pos) (tMeth C m sp [] E ta tNil) := by
  obtain ⟨f, fd, ps, G, c, hm, b⟩ := F.ex
  exact pe_meth0 (pl := pl) ho c hm G (hr.mono hk) b .nil hx ht
/-- .. what is raised is wished for at the slots -/
def tMethS (C : Addr) (m : Str) (sp : Sp) (ES : L2.St → XK) (ta : TE) (t : TA) : TE := fun σ H Q => ta σ H fun x H1 => ∃ a dx fs, x = .ref a ∧ H1 a = some (.ins C dx fs) ∧ fs.lookup m = none ∧ t σ H1 fun vs H2 => sp (x :: vs) H2 Q (ES σ)
theorem pe_mS {pl : Sem Bool} (F : Mc CX X.prog X.w X.K X.mg X.base k C m sp) (hr : Room j X.A) (hk : k ≤ j) (hx : ∀ σ, PassesAt CX X σ (ES σ)) (ho : PE X o ta) (ha : PA X (e :: es) t)
    (hst : starEach (e :: es) X.env = (false, eval e X.env) :: starEach es X.env := by rfl) (hpl : (backTo pos (starEach es X.env)).any (·.1) = false := by rfl)
    (ht : eval (.Call (.Attribute o m apos) (e :: es) [] pos) X.env = (do
      let ov ← eval o X.env
      standAt apos.atName
      let (f, first) ← holding [ov] (getMethod ov m pl)
      callWith pos f first (backTo pos (starEach (e :: es) X.env)) (backToKw pos (keywordEach [] X.env))) := by rfl) :
    PE X (.Call (.Attribute o m apos) (e :: es) [] pos) (tMethS C m sp ES ta t) := by
  obtain ⟨f, fd, ps, G, c, hm, b⟩ := F.ex
  constructor
  intro pins s σ H Q I h
  refine PySem.W.methodCall_KW (pl := pl) (thn (ho.run pins s σ H _ I h) ?_) ht
  rintro u s1 ⟨y, H1, I1, ry, a, dx, fs, rfl, ea, l, q⟩
  cases ry
  refine getmeth_ok I1 ea c hm l ?_
  refine PySem.W.callWith_K (first := [.ref a]) (h₀ := X.base) I.ok.mod.kin hm.kp (thn (ha.run pos pins s1 σ H1 _ I1 q) ?_) hst hpl
  rintro us s2 ⟨vs, H2, I2, r, q2⟩
  exact ⟨I2.kIn, run_fnS (us := .ref a :: us) (vs := .ref a :: vs) G (hr.mono hk) b (hx σ) I2 (.cons rfl r) q2⟩
/-- a reading out of a family -/
theorem pe_any {ι : Type} {T : ι → TE} (h : ∀ i, PE X e (T i)) : PE X e (fun σ H Q => ∃ i, T i σ H Q) := ⟨fun pins s σ H Q I ⟨i, q⟩ => (h i).run pins s σ H Q I q⟩
theorem pe_imp {T T' : TE} (h : PE X e T) (hi : ∀ σ H Q, T' σ H Q → T σ H Q) : PE X e T' := ⟨fun pins s σ H Q I q => h.run pins s σ H Q I (hi σ H Q q)⟩
theorem ps_any {st : Stmt} {ι : Type} {T : ι → TS} (h : ∀ i, PS X st (T i)) : PS X st (fun D σ H => ∃ i, T i D σ H) := ⟨fun pins s σ H D I ⟨i, q⟩ => (h i).run pins s σ H D I q⟩
/-- C(), C without an __init__ -/
theorem pe_new0 (c : Clz X.K X.mg x C) (b : Bare X.K C) (hg : Gl X x) (hdb : (x == ("__debug__" : Str)) = false := by decide) :
    PE X (.Call (.Name x p) [] [] pos) (fun _ H Q => ∀ a dx, H a = none → H dx = none → dx ≠ a → Q (.ref a) (upd (upd H dx (.own a)) a (.ins C dx []))) := by
  constructor
  intro pins s σ H Q I h
  refine wpAny_Call_Name_kw (ld_glob I hg c.g ?_ hdb)
  refine PySem.W.callWith_K0 I.kIn c.kp (wpAny_call ?_)
  have I2 := Inv.made (C := C) I
  have KX := I2.kIn
  refine make_map0 I.kIn c.mks b.ini (fun self => PySem.W.Looks.of_pure (PySem.W.oi_bind self)) ?_
  have e2 : ((s.heap.push PySem.W.emptyDict).push (PySem.W.instObj C s.heap.objs.size)).get? (s.heap.objs.size + 1) = some (PySem.W.instObj C s.heap.objs.size) := by
    have := Heap.get?_push_size (s.heap.push PySem.W.emptyDict) (o := PySem.W.instObj C s.heap.objs.size) rfl
    rwa [Heap.size_push] at this
  have t1 : PySem.W.Looks (model X.prog X.w) ((s.heap.push PySem.W.emptyDict).push (PySem.W.instObj C s.heap.objs.size)) (typeOf (.ref (s.heap.objs.size + 1))) (.ref C) := (PySem.W.Looks.ld e2).andThen .now
  have t2 : PySem.W.Looks (model X.prog X.w) ((s.heap.push PySem.W.emptyDict).push (PySem.W.instObj C s.heap.objs.size)) (isInstance (.ref (s.heap.objs.size + 1)) (.type "object")) true := t1.andThen (PySem.W.looks_mroIn KX c.hm)
  refine codeAny_call_builtin PySem.W.oi_plain PySem.W.entry_oi (@PySem.W.check_slot (model X.prog X.w) _ _ _ "object.__init__" "object" "__init__" (.ref (s.heap.objs.size + 1)) [] [] _ PySem.W.oi_kind PySem.W.oi_split t2 (PySem.W.oi_args _) ?_)
  rw [PySem.W.oi_run]
  exact wpAny_pure ⟨rfl, V.ref (s.heap.objs.size + 1), _, I2, rfl, h _ _ (I.hok.fresh (Nat.le_succ _)) (I.hok.fresh (Nat.le_refl _)) (Nat.ne_of_lt (Nat.lt_succ_self _))⟩
end
/-- an __init__ -/
structure Ini (K : PySem.W.Frag) (C : Addr) (qual : Str) (st : Stmt) (ps : List Str) (f : Addr) (fd : FuncData) : Prop where
  M : Mk K C f
  F : Fun K "__init__" qual st f fd
  b : Binds K fd ps []
/-- an exception's class -/
structure Exz (K : PySem.W.Frag) (mg : Str → Option Value) (x : Str) (C : Addr) : Prop where
  g : mg x = some (.ref C)
  kp : PySem.W.keepIn K (.ref C) = true
  ex : PySem.W.excIn K C [.type "ValueError", .type "Exception", .type "BaseException", .type "object"] "ValueError.__new__" = true
  bs : PySem.W.subIn K (.ref C) (.type "BaseException") = some true
  ty : PySem.W.typeIn K (.ref C) = some (.type "type")
  is : PySem.W.isClsIn K C = true
  ec : ExcC K C
theorem kit_ref {K : PySem.W.Frag} {C D : Addr} {b : Bool} (h1 : PySem.W.isClsIn K D = true) (h2 : PySem.W.typeIn K (.ref D) = some (.type "type")) (h3 : PySem.W.subIn K (.ref C) (.ref D) = some b) (h4 : C ≠ D ∨ b = true) : PySem.W.kitOne K (.ref C) (.ref D) = some b := by
  unfold PySem.W.kitOne
  by_cases e : C = D
  · subst e
    rw [if_pos (by simp)]
    rcases h4 with h | h
    · exact absurd rfl h
    · rw [h]
  · have ne : ((Value.ref C : Value) == .ref D) = false := by simp [e]
    rw [ne, if_neg Bool.false_ne_true]
    unfold PySem.W.kitCls
    have h1' : (PySem.W.clsIn K D).isSome = true := h1
    have e2 : ((PySem.W.clsIn K D).isSome && PySem.W.typeIn K (.ref D) == some (.type "type")) = true := by rw [h1', h2] <;> rfl
    show (if ((PySem.W.clsIn K D).isSome && PySem.W.typeIn K (.ref D) == some (.type "type")) = true then PySem.W.subIn K (.ref C) (.ref D) else none) = some b
    rw [if_pos e2]
    exact h3
theorem kit_val {K : PySem.W.Frag} {C : Addr} (h : PySem.W.subIn K (.ref C) (.type "ValueError") = some true) : PySem.W.kitOne K (.ref C) (.type "ValueError") = some true := by
  unfold PySem.W.kitOne
  have ne : ((Value.ref C : Value) == .type "ValueError") = false := by simp
  rw [ne, if_neg Bool.false_ne_true]
  show (if PySem.W.kitMeta "ValueError" = true then PySem.W.subIn K (.ref C) (.type "ValueError") else none) = some true
  rw [if_pos (by decide +kernel)]
  exact h
theorem exm_of_kit {K : PySem.W.Frag} {C D : Addr} {b : Bool} (hb : PySem.W.subIn K (.ref D) (.type "BaseException") = some true) (h1 : PySem.W.isClsIn K D = true) (h2 : PySem.W.typeIn K (.ref D) = some (.type "type")) (h3 : PySem.W.subIn K (.ref C) (.ref D) = some b) : PySem.W.exmOne K (.ref C) (.ref D) = some b := by
  unfold PySem.W.exmOne
  have e1 : (PySem.W.subIn K (.ref D) (.type "BaseException") == some true) = true := by rw [hb] <;> rfl
  rw [if_pos e1]
  unfold PySem.W.kitCls
  have h1' : (PySem.W.clsIn K D).isSome = true := h1
  have e2 : ((PySem.W.clsIn K D).isSome && PySem.W.typeIn K (.ref D) == some (.type "type")) = true := by rw [h1', h2] <;> rfl
  show (if ((PySem.W.clsIn K D).isSome && PySem.W.typeIn K (.ref D) == some (.type "type")) = true then PySem.W.subIn K (.ref C) (.ref D) else none) = some b
  rw [if_pos e2]
  exact h3
/-- C(e, ..) -/
structure Nc (CX : CXT) (P : Program) (w : World) (K : PySem.W.Frag) (mg : Str → Option Value) (base : Heap) (k : Nat) (x : Str) (C : Addr) (sp : Sp) : Prop where
  ex : ∃ (f : Addr) (fd : FuncData) (ps : List Str), FnOk P w K mg base CX k f fd ps sp ∧ Mk K C f ∧ mg x = some (.ref C) ∧ Binds K fd ps []
section
variable {X : Cx} {CX : CXT} {k j : Nat} {C : Addr} {x : Str} {sp : Sp} {E : XK} {ES : L2.St → XK} {p pos : Pos} {e : Expr} {es : List Expr} {t : TA}
theorem pe_nc (F : Nc CX X.prog X.w X.K X.mg X.base k x C sp) (hr : Room j X.A) (hk : k + 1 ≤ j) (hx : Passes CX X E) (hg : Gl X x) (ha : PA X (e :: es) t)
    (hdb : (x == ("__debug__" : Str)) = false := by decide) (he : starEach (e :: es) X.env = (false, eval e X.env) :: starEach es X.env := by rfl) (hpl : (backTo pos (starEach es X.env)).any (·.1) = false := by rfl) :
    PE X (.Call (.Name x p) (e :: es) [] pos) (tMake C sp [] E t) := by
  obtain ⟨f, fd, ps, G, M, hm, b⟩ := F.ex
  exact pe_make M G (hr.mono hk) hg hm b .nil hx ha hdb he hpl
/-- .. what is raised is wished for at the slots -/
def tNew (C : Addr) (sp : Sp) (ES : L2.St → XK) (t : TA) : TE := fun σ H Q => t σ H fun vs H1 => ∀ a d, H1 a = none → H1 d = none → d ≠ a → sp (.ref a :: vs) (upd (upd H1 d (.own a)) a (.ins C d [])) (fun z H2 => z = .non ∧ Q (.ref a) H2) (ES σ)
theorem pe_ncS (F : Nc CX X.prog X.w X.K X.mg X.base k x C sp) (hr : Room j X.A) (hk : k + 1 ≤ j) (hx : ∀ σ, PassesAt CX X σ (ES σ)) (hg : Gl X x) (ha : PA X (e :: es) t)
    (hdb : (x == ("__debug__" : Str)) = false := by decide) (he : starEach (e :: es) X.env = (false, eval e X.env) :: starEach es X.env := by rfl) (hpl : (backTo pos (starEach es X.env)).any (·.1) = false := by rfl) :
    PE X (.Call (.Name x p) (e :: es) [] pos) (tNew C sp ES t) := by
  obtain ⟨f, fd, ps, G, M, hm, b⟩ := F.ex
  constructor
  intro pins s σ H Q I h
  refine wpAny_Call_Name_kw (ld_glob I hg hm ?_ hdb)
  refine PySem.W.callWith_K (h₀ := X.base) I.ok.mod.kin M.kp (thn (ha.run pos pins s σ H _ I h) ?_) he hpl
  rintro us s1 ⟨vs, H1, J, r, q⟩
  refine ⟨J.kIn, wpAny_call ?_⟩
  have J2 := J.made (C := C)
  have q1 := q _ _ (J.hok.fresh (Nat.le_succ _)) (J.hok.fresh (Nat.le_refl _)) (Nat.ne_of_lt (Nat.lt_succ_self _))
  have r1 : Vals (V.ref (s1.heap.objs.size + 1) :: vs) (Value.ref (s1.heap.objs.size + 1) :: us) := .cons rfl r
  have n1 := r1.length.symm.trans (G.len _ _ _ _ q1)
  have b1 := b _ (Value.ref (s1.heap.objs.size + 1) :: us) J2.kIn (by rw [List.append_nil]; exact n1)
  rw [List.append_nil] at b1
  refine make_map (f := f) J.kIn M.makes M.init (beq_iff_eq.mp M.fn) (codeAny_mono (G.run _ X.stack _ _ ⟨_, []⟩ _ _ _ _ ((hr.mono hk).make C us []) (J2.env0.make C us []) b1 r1 q1) ?_)
  rintro (e | fl) s' h'
  · exact hx σ _ _ _ e s' J2 h'
  · cases fl with
    | ret u =>
      obtain ⟨z, H', J3, rz, ez, q3⟩ := J2.after h'
      subst ez
      exact ⟨rz, V.ref (s1.heap.objs.size + 1), H', J3, rfl, q3⟩
    | next => exact h'.elim
    | brk => exact h'.elim
    | cont => exact h'.elim
end
section
variable {P : Program} {w : World} {K : PySem.W.Frag} {mg : Str → Option Value} {base : Heap} {N : List Str} {q : Str} {sc : Scope} {f : Addr} {cd : Value} {A : Around} {outer : List Env} {s : Shared} {H : Hp} {E : XK}
/-- what a callee raises leaves this def too -/
theorem passEAt (σ : L2.St) : PassesAt (L2.CX P w) (cxOf (L2.CX P w) P w K mg base N q sc f cd A outer s H E) σ E := fun pins H1 s1 e s2 I h => passes_call (takes_of rfl rfl rfl rfl) (fun _ _ _ _ h => h) pins σ H1 s1 e s2 I h
theorem passE : Passes (L2.CX P w) (cxOf (L2.CX P w) P w K mg base N q sc f cd A outer s H E) E := passes_call (takes_of rfl rfl rfl rfl) (fun _ _ _ _ h => h)
end
/-- one by one -/
def Al {α : Type} (R : V → α → Prop) (vs : List V) (rs : List α) : Prop := vs.length = rs.length ∧ ∀ (i : Nat) (v : V) (r : α), vs[i]? = some v → rs[i]? = some r → R v r
section
variable {α : Type} {R R' : V → α → Prop} {vs : List V} {rs : List α}
theorem Al.nil : Al R [] [] := ⟨rfl, fun i v r h => by simp at h⟩
theorem Al.len (h : Al R vs rs) : vs.length = rs.length := h.1
theorem Al.get (h : Al R vs rs) {i : Nat} {v : V} (e : vs[i]? = some v) : ∃ r, rs[i]? = some r ∧ R v r := by
  have hi : i < vs.length := (List.getElem?_eq_some_iff.1 e).1
  have hj : i < rs.length := by rw [← h.1]; exact hi
  exact ⟨rs[i], List.getElem?_eq_getElem hj, h.2 i v _ e (List.getElem?_eq_getElem hj)⟩
theorem Al.getR (h : Al R vs rs) {i : Nat} {r : α} (e : rs[i]? = some r) : ∃ v, vs[i]? = some v ∧ R v r := by
  have hi : i < rs.length := (List.getElem?_eq_some_iff.1 e).1
  have hj : i < vs.length := by rw [h.1]; exact hi
  exact ⟨vs[i], List.getElem?_eq_getElem hj, h.2 i _ r (List.getElem?_eq_getElem hj) e⟩
theorem Al.imp (h : Al R vs rs) (f : ∀ v r, R v r → R' v r) : Al R' vs rs := ⟨h.1, fun i v r e1 e2 => f v r (h.2 i v r e1 e2)⟩
theorem Al.snoc (h : Al R vs rs) {v : V} {r : α} (hr : R v r) : Al R (vs ++ [v]) (rs ++ [r]) := by
  refine ⟨by rw [List.length_append, List.length_append, h.1]; rfl, fun i v' r' e1 e2 => ?_⟩
  by_cases hi : i < vs.length
  · rw [List.getElem?_append_left hi] at e1
    rw [List.getElem?_append_left (by rw [← h.1]; exact hi)] at e2
    exact h.2 i v' r' e1 e2
  · rw [List.getElem?_append_right (by omega)] at e1
    rw [List.getElem?_append_right (by rw [← h.1]; omega)] at e2
    have h0 : i - vs.length = 0 := by
      have := (List.getElem?_eq_some_iff.1 e1).1
      simp at this; omega
    rw [← h.1, h0] at e2
    rw [h0] at e1
    cases e1; cases e2
    exact hr
end
/-- where the classes stand -/
structure Ad where
  SumError : Addr
  NoNet : Addr
  NoWorth : Addr
  NoPlace : Addr
  NoRoad : Addr
  NoSteps : Addr
  NoPick : Addr
  NoSum : Addr
  NoWay : Addr
  Kind : Addr
  Fewest : Addr
  Widest : Addr
  Counted : Addr
  Likeliest : Addr
  Chances : Addr
  Musts : Addr
  Rests : Addr
  Net : Addr
/-- the kinds that the text has -/
def Av : Kx → Bool
  | .few => true
  | .wid => true
  | .cnt => true
  | .lik => true
  | .cha => true
  | .mus => true
  | .rst => true
def Ad.C (A : Ad) : Kx → Addr
  | .few => A.Fewest
  | .wid => A.Widest
  | .cnt => A.Counted
  | .lik => A.Likeliest
  | .cha => A.Chances
  | .mus => A.Musts
  | .rst => A.Rests
/-- what the top has written -/
structure Tx (K : PySem.W.Frag) (mg : Str → Option Value) (A : Ad) : Prop where
  d_common : ∃ f fd, Dfn K mg "common" s_common ["one", "other"] f fd
  d_lowest : ∃ f fd, Dfn K mg "lowest" s_lowest ["top", "below"] f fd
  d_is_share : ∃ f fd, Dfn K mg "is_share" s_is_share ["some"] f fd
  d_added : ∃ f fd, Dfn K mg "added" s_added ["one", "other"] f fd
  d_taken : ∃ f fd, Dfn K mg "taken" s_taken ["one", "other"] f fd
  d_less : ∃ f fd, Dfn K mg "less" s_less ["one", "other"] f fd
  d_worth_of : ∃ f fd, Dfn K mg "worth_of" s_worth_of ["net", "place", "row"] f fd
  d_by_steps : ∃ f fd, Dfn K mg "by_steps" s_by_steps ["net", "place", "other", "steps"] f fd
  d_straight : ∃ f fd, Dfn K mg "straight" s_straight ["net"] f fd
  d_through : ∃ f fd, Dfn K mg "through" s_through ["kind", "rows", "place"] f fd
  d_table : ∃ f fd, Dfn K mg "table" s_table ["net"] f fd
  d_total : ∃ f fd, Dfn K mg "total" s_total ["net", "place", "other"] f fd
  d_without : ∃ f fd, Dfn K mg "without" s_without ["net", "place"] f fd
  d_spread : ∃ f fd, Dfn K mg "spread" s_spread ["net", "row"] f fd
  d_way_for : ∃ f fd, Dfn K mg "way_for" s_way_for ["net", "place", "other"] f fd
  d__law_cell_at : ∃ f fd, Dfn K mg "_law_cell_at" s__law_cell_at ["script", "k"] f fd
  d__law_which : ∃ f fd, Dfn K mg "_law_which" s__law_which ["e"] f fd
  d__law_no_net : ∃ f fd, Dfn K mg "_law_no_net" s__law_no_net ["cell", "far"] f fd
  d__law_no_worth : ∃ f fd, Dfn K mg "_law_no_worth" s__law_no_worth ["cell", "far"] f fd
  d__law_no_place : ∃ f fd, Dfn K mg "_law_no_place" s__law_no_place ["net", "cell", "far"] f fd
  d__law_no_sum : ∃ f fd, Dfn K mg "_law_no_sum" s__law_no_sum ["net", "cell"] f fd
  d__law_done : ∃ f fd, Dfn K mg "_law_done" s__law_done ["way", "cell", "far"] f fd
  c_Kind : Clz K mg "Kind" A.Kind
  b_Kind : Bare K A.Kind
  c_Fewest : Clz K mg "Fewest" A.Fewest
  b_Fewest : Bare K A.Fewest
  c_Widest : Clz K mg "Widest" A.Widest
  b_Widest : Bare K A.Widest
  c_Counted : Clz K mg "Counted" A.Counted
  b_Counted : Bare K A.Counted
  c_Likeliest : Clz K mg "Likeliest" A.Likeliest
  b_Likeliest : Bare K A.Likeliest
  c_Chances : Clz K mg "Chances" A.Chances
  b_Chances : Bare K A.Chances
  c_Musts : Clz K mg "Musts" A.Musts
  b_Musts : Bare K A.Musts
  c_Rests : Clz K mg "Rests" A.Rests
  c_Net : Clz K mg "Net" A.Net
  m_Kind_picks : ∃ f fd, Mth K A.Kind "picks" "Kind.picks" s_Kind_picks ["self"] f fd
  m_Fewest_picks : ∃ f fd, Mth K A.Fewest "picks" "Fewest.picks" s_Fewest_picks ["self"] f fd
  m_Fewest_none : ∃ f fd, Mth K A.Fewest "none" "Fewest.none" s_Fewest_none ["self"] f fd
  m_Fewest_rest : ∃ f fd, Mth K A.Fewest "rest" "Fewest.rest" s_Fewest_rest ["self"] f fd
  m_Fewest_is_worth : ∃ f fd, Mth K A.Fewest "is_worth" "Fewest.is_worth" s_Fewest_is_worth ["self", "some"] f fd
  m_Fewest_together : ∃ f fd, Mth K A.Fewest "together" "Fewest.together" s_Fewest_together ["self", "one", "other"] f fd
  m_Fewest_behind : ∃ f fd, Mth K A.Fewest "behind" "Fewest.behind" s_Fewest_behind ["self", "one", "other"] f fd
  m_Fewest_rounds : ∃ f fd, Mth K A.Fewest "rounds" "Fewest.rounds" s_Fewest_rounds ["self", "one"] f fd
  m_Widest_picks : ∃ f fd, Mth K A.Widest "picks" "Widest.picks" s_Widest_picks ["self"] f fd
  m_Widest_none : ∃ f fd, Mth K A.Widest "none" "Widest.none" s_Widest_none ["self"] f fd
  m_Widest_rest : ∃ f fd, Mth K A.Widest "rest" "Widest.rest" s_Widest_rest ["self"] f fd
  m_Widest_is_worth : ∃ f fd, Mth K A.Widest "is_worth" "Widest.is_worth" s_Widest_is_worth ["self", "some"] f fd
  m_Widest_together : ∃ f fd, Mth K A.Widest "together" "Widest.together" s_Widest_together ["self", "one", "other"] f fd
  m_Widest_behind : ∃ f fd, Mth K A.Widest "behind" "Widest.behind" s_Widest_behind ["self", "one", "other"] f fd
  m_Widest_rounds : ∃ f fd, Mth K A.Widest "rounds" "Widest.rounds" s_Widest_rounds ["self", "one"] f fd
  m_Counted_none : ∃ f fd, Mth K A.Counted "none" "Counted.none" s_Counted_none ["self"] f fd
  m_Counted_rest : ∃ f fd, Mth K A.Counted "rest" "Counted.rest" s_Counted_rest ["self"] f fd
  m_Counted_is_worth : ∃ f fd, Mth K A.Counted "is_worth" "Counted.is_worth" s_Counted_is_worth ["self", "some"] f fd
  m_Counted_together : ∃ f fd, Mth K A.Counted "together" "Counted.together" s_Counted_together ["self", "one", "other"] f fd
  m_Counted_behind : ∃ f fd, Mth K A.Counted "behind" "Counted.behind" s_Counted_behind ["self", "one", "other"] f fd
  m_Counted_rounds : ∃ f fd, Mth K A.Counted "rounds" "Counted.rounds" s_Counted_rounds ["self", "one"] f fd
  m_Likeliest_picks : ∃ f fd, Mth K A.Likeliest "picks" "Likeliest.picks" s_Likeliest_picks ["self"] f fd
  m_Likeliest_none : ∃ f fd, Mth K A.Likeliest "none" "Likeliest.none" s_Likeliest_none ["self"] f fd
  m_Likeliest_rest : ∃ f fd, Mth K A.Likeliest "rest" "Likeliest.rest" s_Likeliest_rest ["self"] f fd
  m_Likeliest_is_worth : ∃ f fd, Mth K A.Likeliest "is_worth" "Likeliest.is_worth" s_Likeliest_is_worth ["self", "some"] f fd
  m_Likeliest_together : ∃ f fd, Mth K A.Likeliest "together" "Likeliest.together" s_Likeliest_together ["self", "one", "other"] f fd
  m_Likeliest_behind : ∃ f fd, Mth K A.Likeliest "behind" "Likeliest.behind" s_Likeliest_behind ["self", "one", "other"] f fd
  m_Likeliest_rounds : ∃ f fd, Mth K A.Likeliest "rounds" "Likeliest.rounds" s_Likeliest_rounds ["self", "one"] f fd
  m_Chances_none : ∃ f fd, Mth K A.Chances "none" "Chances.none" s_Chances_none ["self"] f fd
  m_Chances_rest : ∃ f fd, Mth K A.Chances "rest" "Chances.rest" s_Chances_rest ["self"] f fd
  m_Chances_is_worth : ∃ f fd, Mth K A.Chances "is_worth" "Chances.is_worth" s_Chances_is_worth ["self", "some"] f fd
  m_Chances_together : ∃ f fd, Mth K A.Chances "together" "Chances.together" s_Chances_together ["self", "one", "other"] f fd
  m_Chances_behind : ∃ f fd, Mth K A.Chances "behind" "Chances.behind" s_Chances_behind ["self", "one", "other"] f fd
  m_Chances_rounds : ∃ f fd, Mth K A.Chances "rounds" "Chances.rounds" s_Chances_rounds ["self", "one"] f fd
  m_Musts_none : ∃ f fd, Mth K A.Musts "none" "Musts.none" s_Musts_none ["self"] f fd
  m_Musts_rest : ∃ f fd, Mth K A.Musts "rest" "Musts.rest" s_Musts_rest ["self"] f fd
  m_Musts_is_worth : ∃ f fd, Mth K A.Musts "is_worth" "Musts.is_worth" s_Musts_is_worth ["self", "some"] f fd
  m_Musts_together : ∃ f fd, Mth K A.Musts "together" "Musts.together" s_Musts_together ["self", "one", "other"] f fd
  m_Musts_behind : ∃ f fd, Mth K A.Musts "behind" "Musts.behind" s_Musts_behind ["self", "one", "other"] f fd
  m_Musts_rounds : ∃ f fd, Mth K A.Musts "rounds" "Musts.rounds" s_Musts_rounds ["self", "one"] f fd
  m_Rests___init__ : ∃ f fd, Ini K A.Rests "Rests.__init__" s_Rests___init__ ["self", "m"] f fd
  m_Rests_none : ∃ f fd, Mth K A.Rests "none" "Rests.none" s_Rests_none ["self"] f fd
  m_Rests_rest : ∃ f fd, Mth K A.Rests "rest" "Rests.rest" s_Rests_rest ["self"] f fd
  m_Rests_is_worth : ∃ f fd, Mth K A.Rests "is_worth" "Rests.is_worth" s_Rests_is_worth ["self", "some"] f fd
  m_Rests_together : ∃ f fd, Mth K A.Rests "together" "Rests.together" s_Rests_together ["self", "one", "other"] f fd
  m_Rests_behind : ∃ f fd, Mth K A.Rests "behind" "Rests.behind" s_Rests_behind ["self", "one", "other"] f fd
  m_Rests_rounds : ∃ f fd, Mth K A.Rests "rounds" "Rests.rounds" s_Rests_rounds ["self", "one"] f fd
  m_Net___init__ : ∃ f fd, Ini K A.Net "Net.__init__" s_Net___init__ ["self", "kind", "places", "roads"] f fd
  m_Net_ask_shares : ∃ f fd, Mth K A.Net "ask_shares" "Net.ask_shares" s_Net_ask_shares ["self", "kind", "places", "roads"] f fd
  m_Net_ask : ∃ f fd, Mth K A.Net "ask" "Net.ask" s_Net_ask ["self", "place"] f fd
  m_Net_kind : ∃ f fd, Mth K A.Net "kind" "Net.kind" s_Net_kind ["self"] f fd
  m_Net_places : ∃ f fd, Mth K A.Net "places" "Net.places" s_Net_places ["self"] f fd
  m_Net_roads : ∃ f fd, Mth K A.Net "roads" "Net.roads" s_Net_roads ["self"] f fd
  m_Counted_picks : ∃ f fd, Mth K A.Counted "picks" "Kind.picks" s_Counted_picks ["self"] f fd
  m_Chances_picks : ∃ f fd, Mth K A.Chances "picks" "Kind.picks" s_Chances_picks ["self"] f fd
  m_Musts_picks : ∃ f fd, Mth K A.Musts "picks" "Kind.picks" s_Musts_picks ["self"] f fd
  m_Rests_picks : ∃ f fd, Mth K A.Rests "picks" "Kind.picks" s_Rests_picks ["self"] f fd
  x_SumError : Exz K mg "SumError" A.SumError
  x_NoNet : Exz K mg "NoNet" A.NoNet
  x_NoWorth : Exz K mg "NoWorth" A.NoWorth
  x_NoPlace : Exz K mg "NoPlace" A.NoPlace
  x_NoRoad : Exz K mg "NoRoad" A.NoRoad
  x_NoSteps : Exz K mg "NoSteps" A.NoSteps
  x_NoPick : Exz K mg "NoPick" A.NoPick
  x_NoSum : Exz K mg "NoSum" A.NoSum
  x_NoWay : Exz K mg "NoWay" A.NoWay
  k_Fewest_Chances : PySem.W.kitOne K (.ref A.Fewest) (.ref A.Chances) = some false
  k_Widest_Chances : PySem.W.kitOne K (.ref A.Widest) (.ref A.Chances) = some false
  k_Counted_Chances : PySem.W.kitOne K (.ref A.Counted) (.ref A.Chances) = some false
  k_Likeliest_Chances : PySem.W.kitOne K (.ref A.Likeliest) (.ref A.Chances) = some false
  k_Chances_Chances : PySem.W.kitOne K (.ref A.Chances) (.ref A.Chances) = some true
  k_Musts_Chances : PySem.W.kitOne K (.ref A.Musts) (.ref A.Chances) = some false
  k_Rests_Chances : PySem.W.kitOne K (.ref A.Rests) (.ref A.Chances) = some false
  k_SumError_NoNet : PySem.W.kitOne K (.ref A.SumError) (.ref A.NoNet) = some false
  k_NoNet_NoNet : PySem.W.kitOne K (.ref A.NoNet) (.ref A.NoNet) = some true
  k_NoWorth_NoNet : PySem.W.kitOne K (.ref A.NoWorth) (.ref A.NoNet) = some false
  k_NoPlace_NoNet : PySem.W.kitOne K (.ref A.NoPlace) (.ref A.NoNet) = some false
  k_NoRoad_NoNet : PySem.W.kitOne K (.ref A.NoRoad) (.ref A.NoNet) = some false
  k_NoSteps_NoNet : PySem.W.kitOne K (.ref A.NoSteps) (.ref A.NoNet) = some false
  k_NoPick_NoNet : PySem.W.kitOne K (.ref A.NoPick) (.ref A.NoNet) = some false
  k_NoSum_NoNet : PySem.W.kitOne K (.ref A.NoSum) (.ref A.NoNet) = some false
  k_NoWay_NoNet : PySem.W.kitOne K (.ref A.NoWay) (.ref A.NoNet) = some false
  k_SumError_NoWorth : PySem.W.kitOne K (.ref A.SumError) (.ref A.NoWorth) = some false
  k_NoNet_NoWorth : PySem.W.kitOne K (.ref A.NoNet) (.ref A.NoWorth) = some false
  k_NoWorth_NoWorth : PySem.W.kitOne K (.ref A.NoWorth) (.ref A.NoWorth) = some true
  k_NoPlace_NoWorth : PySem.W.kitOne K (.ref A.NoPlace) (.ref A.NoWorth) = some false
  k_NoRoad_NoWorth : PySem.W.kitOne K (.ref A.NoRoad) (.ref A.NoWorth) = some false
  k_NoSteps_NoWorth : PySem.W.kitOne K (.ref A.NoSteps) (.ref A.NoWorth) = some false
  k_NoPick_NoWorth : PySem.W.kitOne K (.ref A.NoPick) (.ref A.NoWorth) = some false
  k_NoSum_NoWorth : PySem.W.kitOne K (.ref A.NoSum) (.ref A.NoWorth) = some false
  k_NoWay_NoWorth : PySem.W.kitOne K (.ref A.NoWay) (.ref A.NoWorth) = some false
  k_SumError_NoPlace : PySem.W.kitOne K (.ref A.SumError) (.ref A.NoPlace) = some false
  k_NoNet_NoPlace : PySem.W.kitOne K (.ref A.NoNet) (.ref A.NoPlace) = some false
  k_NoWorth_NoPlace : PySem.W.kitOne K (.ref A.NoWorth) (.ref A.NoPlace) = some false
  k_NoPlace_NoPlace : PySem.W.kitOne K (.ref A.NoPlace) (.ref A.NoPlace) = some true
  k_NoRoad_NoPlace : PySem.W.kitOne K (.ref A.NoRoad) (.ref A.NoPlace) = some false
  k_NoSteps_NoPlace : PySem.W.kitOne K (.ref A.NoSteps) (.ref A.NoPlace) = some false
  k_NoPick_NoPlace : PySem.W.kitOne K (.ref A.NoPick) (.ref A.NoPlace) = some false
  k_NoSum_NoPlace : PySem.W.kitOne K (.ref A.NoSum) (.ref A.NoPlace) = some false
  k_NoWay_NoPlace : PySem.W.kitOne K (.ref A.NoWay) (.ref A.NoPlace) = some false
  k_SumError_NoRoad : PySem.W.kitOne K (.ref A.SumError) (.ref A.NoRoad) = some false
  k_NoNet_NoRoad : PySem.W.kitOne K (.ref A.NoNet) (.ref A.NoRoad) = some false
  k_NoWorth_NoRoad : PySem.W.kitOne K (.ref A.NoWorth) (.ref A.NoRoad) = some false
  k_NoPlace_NoRoad : PySem.W.kitOne K (.ref A.NoPlace) (.ref A.NoRoad) = some false
  k_NoRoad_NoRoad : PySem.W.kitOne K (.ref A.NoRoad) (.ref A.NoRoad) = some true
  k_NoSteps_NoRoad : PySem.W.kitOne K (.ref A.NoSteps) (.ref A.NoRoad) = some false
  k_NoPick_NoRoad : PySem.W.kitOne K (.ref A.NoPick) (.ref A.NoRoad) = some false
  k_NoSum_NoRoad : PySem.W.kitOne K (.ref A.NoSum) (.ref A.NoRoad) = some false
  k_NoWay_NoRoad : PySem.W.kitOne K (.ref A.NoWay) (.ref A.NoRoad) = some false
  k_SumError_NoSteps : PySem.W.kitOne K (.ref A.SumError) (.ref A.NoSteps) = some false
  k_NoNet_NoSteps : PySem.W.kitOne K (.ref A.NoNet) (.ref A.NoSteps) = some false
  k_NoWorth_NoSteps : PySem.W.kitOne K (.ref A.NoWorth) (.ref A.NoSteps) = some false
  k_NoPlace_NoSteps : PySem.W.kitOne K (.ref A.NoPlace) (.ref A.NoSteps) = some false
  k_NoRoad_NoSteps : PySem.W.kitOne K (.ref A.NoRoad) (.ref A.NoSteps) = some false
  k_NoSteps_NoSteps : PySem.W.kitOne K (.ref A.NoSteps) (.ref A.NoSteps) = some true
  k_NoPick_NoSteps : PySem.W.kitOne K (.ref A.NoPick) (.ref A.NoSteps) = some false
  k_NoSum_NoSteps : PySem.W.kitOne K (.ref A.NoSum) (.ref A.NoSteps) = some false
  k_NoWay_NoSteps : PySem.W.kitOne K (.ref A.NoWay) (.ref A.NoSteps) = some false
  k_SumError_NoPick : PySem.W.kitOne K (.ref A.SumError) (.ref A.NoPick) = some false
  k_NoNet_NoPick : PySem.W.kitOne K (.ref A.NoNet) (.ref A.NoPick) = some false
  k_NoWorth_NoPick : PySem.W.kitOne K (.ref A.NoWorth) (.ref A.NoPick) = some false
  k_NoPlace_NoPick : PySem.W.kitOne K (.ref A.NoPlace) (.ref A.NoPick) = some false
  k_NoRoad_NoPick : PySem.W.kitOne K (.ref A.NoRoad) (.ref A.NoPick) = some false
  k_NoSteps_NoPick : PySem.W.kitOne K (.ref A.NoSteps) (.ref A.NoPick) = some false
  k_NoPick_NoPick : PySem.W.kitOne K (.ref A.NoPick) (.ref A.NoPick) = some true
  k_NoSum_NoPick : PySem.W.kitOne K (.ref A.NoSum) (.ref A.NoPick) = some false
  k_NoWay_NoPick : PySem.W.kitOne K (.ref A.NoWay) (.ref A.NoPick) = some false
  k_SumError_NoSum : PySem.W.kitOne K (.ref A.SumError) (.ref A.NoSum) = some false
  k_NoNet_NoSum : PySem.W.kitOne K (.ref A.NoNet) (.ref A.NoSum) = some false
  k_NoWorth_NoSum : PySem.W.kitOne K (.ref A.NoWorth) (.ref A.NoSum) = some false
  k_NoPlace_NoSum : PySem.W.kitOne K (.ref A.NoPlace) (.ref A.NoSum) = some false
  k_NoRoad_NoSum : PySem.W.kitOne K (.ref A.NoRoad) (.ref A.NoSum) = some false
  k_NoSteps_NoSum : PySem.W.kitOne K (.ref A.NoSteps) (.ref A.NoSum) = some false
  k_NoPick_NoSum : PySem.W.kitOne K (.ref A.NoPick) (.ref A.NoSum) = some false
  k_NoSum_NoSum : PySem.W.kitOne K (.ref A.NoSum) (.ref A.NoSum) = some true
  k_NoWay_NoSum : PySem.W.kitOne K (.ref A.NoWay) (.ref A.NoSum) = some false
  k_SumError_NoWay : PySem.W.kitOne K (.ref A.SumError) (.ref A.NoWay) = some false
  k_NoNet_NoWay : PySem.W.kitOne K (.ref A.NoNet) (.ref A.NoWay) = some false
  k_NoWorth_NoWay : PySem.W.kitOne K (.ref A.NoWorth) (.ref A.NoWay) = some false
  k_NoPlace_NoWay : PySem.W.kitOne K (.ref A.NoPlace) (.ref A.NoWay) = some false
  k_NoRoad_NoWay : PySem.W.kitOne K (.ref A.NoRoad) (.ref A.NoWay) = some false
  k_NoSteps_NoWay : PySem.W.kitOne K (.ref A.NoSteps) (.ref A.NoWay) = some false
  k_NoPick_NoWay : PySem.W.kitOne K (.ref A.NoPick) (.ref A.NoWay) = some false
  k_NoSum_NoWay : PySem.W.kitOne K (.ref A.NoSum) (.ref A.NoWay) = some false
  k_NoWay_NoWay : PySem.W.kitOne K (.ref A.NoWay) (.ref A.NoWay) = some true
  k_SumError_SumError : PySem.W.kitOne K (.ref A.SumError) (.ref A.SumError) = some true
  k_NoNet_SumError : PySem.W.kitOne K (.ref A.NoNet) (.ref A.SumError) = some true
  k_NoWorth_SumError : PySem.W.kitOne K (.ref A.NoWorth) (.ref A.SumError) = some true
  k_NoPlace_SumError : PySem.W.kitOne K (.ref A.NoPlace) (.ref A.SumError) = some true
  k_NoRoad_SumError : PySem.W.kitOne K (.ref A.NoRoad) (.ref A.SumError) = some true
  k_NoSteps_SumError : PySem.W.kitOne K (.ref A.NoSteps) (.ref A.SumError) = some true
  k_NoPick_SumError : PySem.W.kitOne K (.ref A.NoPick) (.ref A.SumError) = some true
  k_NoSum_SumError : PySem.W.kitOne K (.ref A.NoSum) (.ref A.SumError) = some true
  k_NoWay_SumError : PySem.W.kitOne K (.ref A.NoWay) (.ref A.SumError) = some true
  e_SumError_SumError : PySem.W.exmOne K (.ref A.SumError) (.ref A.SumError) = some true
  e_NoNet_SumError : PySem.W.exmOne K (.ref A.NoNet) (.ref A.SumError) = some true
  e_NoWorth_SumError : PySem.W.exmOne K (.ref A.NoWorth) (.ref A.SumError) = some true
  e_NoPlace_SumError : PySem.W.exmOne K (.ref A.NoPlace) (.ref A.SumError) = some true
  e_NoRoad_SumError : PySem.W.exmOne K (.ref A.NoRoad) (.ref A.SumError) = some true
  e_NoSteps_SumError : PySem.W.exmOne K (.ref A.NoSteps) (.ref A.SumError) = some true
  e_NoPick_SumError : PySem.W.exmOne K (.ref A.NoPick) (.ref A.SumError) = some true
  e_NoSum_SumError : PySem.W.exmOne K (.ref A.NoSum) (.ref A.SumError) = some true
  e_NoWay_SumError : PySem.W.exmOne K (.ref A.NoWay) (.ref A.SumError) = some true
  v_SumError : PySem.W.kitOne K (.ref A.SumError) (.type "ValueError") = some true
  v_NoNet : PySem.W.kitOne K (.ref A.NoNet) (.type "ValueError") = some true
  v_NoWorth : PySem.W.kitOne K (.ref A.NoWorth) (.type "ValueError") = some true
  v_NoPlace : PySem.W.kitOne K (.ref A.NoPlace) (.type "ValueError") = some true
  v_NoRoad : PySem.W.kitOne K (.ref A.NoRoad) (.type "ValueError") = some true
  v_NoSteps : PySem.W.kitOne K (.ref A.NoSteps) (.type "ValueError") = some true
  v_NoPick : PySem.W.kitOne K (.ref A.NoPick) (.type "ValueError") = some true
  v_NoSum : PySem.W.kitOne K (.ref A.NoSum) (.type "ValueError") = some true
  v_NoWay : PySem.W.kitOne K (.ref A.NoWay) (.type "ValueError") = some true
  a_Net_many : NoAttr K A.Net "many"
  a_Net_rows : NoAttr K A.Net "rows"
  a_Net_sort_of : NoAttr K A.Net "sort_of"
  a_Rests_m : NoAttr K A.Rests "m"
  n_len : mg "len" = none
  n_range : mg "range" = none
  n_isinstance : mg "isinstance" = none
  n_min : mg "min" = none
  n_max : mg "max" = none
  n_list : mg "list" = none
  n_reversed : mg "reversed" = none
  n_tuple : mg "tuple" = none
  n_int : mg "int" = none
  n_ValueError : mg "ValueError" = none
  g_WIDEST : ∃ u, mg "WIDEST" = some u ∧ RelV (.int 1000000000) u
  g_MOST_PLACES : ∃ u, mg "MOST_PLACES" = some u ∧ RelV (.int 8) u
  g_MOST_ROADS : ∃ u, mg "MOST_ROADS" = some u ∧ RelV (.int 64) u
  g_MOST_STEPS : ∃ u, mg "MOST_STEPS" = some u ∧ RelV (.int 40) u
  hn : PySem.W.specialIn K (.builtin "object.__class__") "__get__" = some (some (.builtin "getset_descriptor.__get__"))
  ht : PySem.W.takesIn K (.builtin "object.__class__") = some true
/-! ### M2: shares as numbers -/
theorem low_num (t b : Int) (hb : 0 < b) : (Rat.divInt t b).num = t / (Int.gcd t b : Int) := by
  rw [Rat.num_divInt, Int.sign_eq_one_of_pos hb, Int.one_mul, Int.gcd_comm]
theorem low_den (t b : Int) (hb : 0 < b) : ((Rat.divInt t b).den : Int) = b / (Int.gcd t b : Int) := by
  rw [Rat.den_divInt, if_neg (by omega), Int.natCast_ediv, Int.gcd_comm, Int.natAbs_of_nonneg (by omega)]
theorem rat_add (r s : Rat) : Rat.divInt (r.num * s.den + s.num * r.den) (r.den * s.den) = r + s := by
  rw [Rat.add_def', ← Rat.divInt_ofNat, Int.natCast_mul]
theorem rat_mul (r s : Rat) : Rat.divInt (r.num * s.num) (r.den * s.den) = r * s := by
  rw [Rat.mul_def', ← Rat.divInt_ofNat, Int.natCast_mul]
theorem den_pos (r : Rat) : (0 : Int) < r.den := by have := r.den_pos; omega
theorem rat_lt_one (r : Rat) : r < 1 ↔ r.num < r.den := by
  rw [Rat.lt_iff]
  show r.num * 1 < 1 * (r.den : Int) ↔ _
  omega
theorem rat_le_one (r : Rat) : r ≤ 1 ↔ r.num ≤ r.den := by
  rw [Rat.le_iff]
  show r.num * 1 ≤ 1 * (r.den : Int) ↔ _
  omega
theorem rat_star (r : Rat) (h : r < 1) : Rat.divInt r.den (r.den - r.num) = 1 / (1 - r) := by
  have h1 := (rat_lt_one r).1 h
  have hd := den_pos r
  have e : (1 : Rat) - r = Rat.divInt (r.den - r.num) r.den := by
    have e1 : (1 : Rat) = Rat.divInt r.den r.den := (Rat.divInt_self' (by omega)).symm
    have e2 : r = Rat.divInt r.num r.den := (Rat.num_divInt_den r).symm
    conv => lhs; rw [e1]; arg 2; rw [e2]
    rw [Rat.sub_eq_add_neg, Rat.neg_divInt, Rat.divInt_add_divInt _ _ (by omega) (by omega)]
    have : (r.den : Int) * r.den + -r.num * r.den = (r.den - r.num) * r.den := by grind
    rw [this, Rat.divInt_mul_right (by omega)]
  rw [e, Rat.div_def, Rat.inv_divInt, Rat.one_mul]
theorem gcd_step (a b : Int) : Int.gcd b (a % b) = Int.gcd a b := by
  rw [Int.gcd_comm b, Int.emod_def]; simp
theorem gcd_pos' (a b : Int) (h : 0 < b) : (0 : Int) < (Int.gcd a b : Int) := by
  have := Int.gcd_pos_of_ne_zero_right a (b := b) (by omega)
  omega
theorem gcd_le' (a b : Int) (h : 0 < b) : (Int.gcd a b : Int) ≤ b := Int.gcd_le_right a h
theorem rat_dvi {t b : Int} (ht : 0 ≤ t) (hb : 0 < b) : 0 ≤ Rat.divInt t b := by
  rw [← Rat.num_nonneg, Rat.num_divInt, Int.sign_eq_one_of_pos hb, Int.one_mul]
  exact Int.ediv_nonneg ht (by omega)
theorem rat_dvi1 {t b : Int} (htb : t ≤ b) (hb : 0 < b) : Rat.divInt t b ≤ 1 := by
  rw [rat_le_one, low_num t b hb, low_den t b hb]
  exact Int.ediv_le_ediv (gcd_pos' t b hb) htb
theorem good_law {k : Kd} (h : KOk k) (c : Int) : Good k (lawW k c) := by
  unfold lawW
  split
  · exact good_none k
  split
  · exact good_rest h
  have hp : (0 : Int) < 10 ^ 30 := by decide
  cases k with
  | few => show 0 ≤ (if c % 6 < 5 then c / 6 % 20 else c / 6 % 10 ^ 30); split <;> exact Int.emod_nonneg _ (by decide)
  | wid =>
    show 0 ≤ (if c % 6 < 5 then c / 6 % 20 else c / 6 % (10 ^ 9 + 1)) ∧ (if c % 6 < 5 then c / 6 % 20 else c / 6 % (10 ^ 9 + 1)) ≤ 1000000000
    split <;> omega
  | cnt => show -1 ≤ (if c % 6 < 5 then c / 6 % 5 - 1 else c / 6 % 10 ^ 30); split <;> omega
  | lik =>
    have hb0 : 0 ≤ c / 6 / 7 % 12 := Int.emod_nonneg _ (by decide)
    have h1 := Int.emod_nonneg (c / 6) (b := 1 + c / 6 / 7 % 12 + 1) (by omega)
    have h2 := Int.emod_lt_of_pos (c / 6) (b := 1 + c / 6 / 7 % 12 + 1) (by omega)
    exact ⟨rat_dvi h1 (by omega), rat_dvi1 (by omega) (by omega)⟩
  | cha =>
    have hb0 : 0 ≤ c / 6 / 9 % 12 := Int.emod_nonneg _ (by decide)
    exact rat_dvi (Int.emod_nonneg _ (by decide)) (by omega)
  | mus => show 0 ≤ (if c % 6 < 5 then c / 6 % 16 else c / 6 % 10 ^ 30); split <;> exact Int.emod_nonneg _ (by decide)
  | rst m => exact ⟨Int.emod_nonneg _ (by have : (0 : Int) < 2 ^ m := Int.pow_pos (by decide); omega), Int.emod_lt_of_pos _ (Int.pow_pos (by decide))⟩
theorem sz_int {i : Int} {n : Nat} (h : i.natAbs < 2 ^ n) (hn : 0 < n) : sz (.int i) ≤ n := by
  simp only [sz]
  by_cases h0 : i.natAbs = 0
  · rw [h0]; simp; omega
  · have := (Nat.log2_lt h0).2 h
    omega
theorem log2_lt_of {a n : Nat} (h : a < 2 ^ n) (hn : 0 < n) : a.log2 < n := by
  by_cases h0 : a = 0
  · rw [h0]; simpa using hn
  · exact (Nat.log2_lt h0).2 h
theorem sz_rat {r : Rat} {n : Nat} (h : r.num.natAbs < 2 ^ n) (h2 : r.den < 2 ^ n) (hn : 0 < n) : sz (.rat r) ≤ n := by
  simp only [sz]
  have := log2_lt_of h hn
  have := log2_lt_of h2 hn
  omega
theorem dvi_num_le {t b : Int} (ht : 0 ≤ t) (hb : 0 < b) : (Rat.divInt t b).num ≤ t ∧ 0 ≤ (Rat.divInt t b).num := by
  rw [low_num t b hb]
  exact ⟨Int.ediv_le_self _ ht, Int.ediv_nonneg ht (by omega)⟩
theorem dvi_den_le {t b : Int} (hb : 0 < b) : ((Rat.divInt t b).den : Int) ≤ b := by
  rw [low_den t b hb]
  exact Int.ediv_le_self _ (by omega)
theorem sz_dvi {t b : Int} {n : Nat} (ht : 0 ≤ t) (hb : 0 < b) (h1 : t < 2 ^ n) (h2 : b < 2 ^ n) (hn : 0 < n) : sz (.rat (Rat.divInt t b)) ≤ n := by
  have a := dvi_num_le ht hb
  have c := dvi_den_le (t := t) hb
  refine sz_rat ?_ ?_ hn
  · have : ((Rat.divInt t b).num.natAbs : Int) < ((2 ^ n : Nat) : Int) := by rw [Int.natCast_pow]; show _ < (2 : Int) ^ n; omega
    omega
  · have : ((Rat.divInt t b).den : Int) < ((2 ^ n : Nat) : Int) := by rw [Int.natCast_pow]; show _ < (2 : Int) ^ n; omega
    omega
theorem sz_law {k : Kd} (h : KOk k) (c : Int) : sz (lawW k c) ≤ 100 := by
  unfold lawW
  split
  · cases k <;> first | decide | (show sz (.int _) ≤ 100; decide)
  split
  · cases k <;> first | decide | (show sz (.int _) ≤ 100; decide)
  have hp : (10 : Int) ^ 30 < 2 ^ 100 := by decide
  have hp9 : (10 : Int) ^ 9 + 1 < 2 ^ 100 := by decide
  have hp2 : ((2 : Nat) ^ 100 : Nat) = (2 : Int) ^ 100 := by decide
  have ib : ∀ {i : Int}, -1 ≤ i → i < 2 ^ 100 → sz (.int i) ≤ 100 := fun h0 h1 => sz_int (by omega) (by decide)
  have lt30 : ∀ x : Int, x % 10 ^ 30 < 2 ^ 100 := fun x => Int.lt_trans (Int.emod_lt_of_pos _ (by decide)) hp
  have nn30 : ∀ x : Int, 0 ≤ x % 10 ^ 30 := fun x => Int.emod_nonneg _ (by decide)
  cases k with
  | few =>
    refine ib ?_ ?_
    · show -1 ≤ (if c % 6 < 5 then c / 6 % 20 else c / 6 % 10 ^ 30); have := nn30 (c / 6); split <;> omega
    · show (if c % 6 < 5 then c / 6 % 20 else c / 6 % 10 ^ 30) < 2 ^ 100; have := lt30 (c / 6); split <;> omega
  | wid =>
    refine ib ?_ ?_
    · show -1 ≤ (if c % 6 < 5 then c / 6 % 20 else c / 6 % (10 ^ 9 + 1)); split <;> omega
    · show (if c % 6 < 5 then c / 6 % 20 else c / 6 % (10 ^ 9 + 1)) < 2 ^ 100; split <;> omega
  | cnt =>
    refine ib ?_ ?_
    · show -1 ≤ (if c % 6 < 5 then c / 6 % 5 - 1 else c / 6 % 10 ^ 30); have := nn30 (c / 6); split <;> omega
    · show (if c % 6 < 5 then c / 6 % 5 - 1 else c / 6 % 10 ^ 30) < 2 ^ 100; have := lt30 (c / 6); split <;> omega
  | lik =>
    have hb0 : 0 ≤ c / 6 / 7 % 12 := Int.emod_nonneg _ (by decide)
    have hb1 : c / 6 / 7 % 12 < 12 := Int.emod_lt_of_pos _ (by decide)
    have h1 := Int.emod_nonneg (c / 6) (b := 1 + c / 6 / 7 % 12 + 1) (by omega)
    have h2 := Int.emod_lt_of_pos (c / 6) (b := 1 + c / 6 / 7 % 12 + 1) (by omega)
    have h16 : (2 : Int) ^ 4 = 16 := by decide
    exact Nat.le_trans (sz_dvi (n := 4) h1 (by omega) (by omega) (by omega) (by decide)) (by decide)
  | cha =>
    have hb0 : 0 ≤ c / 6 / 9 % 12 := Int.emod_nonneg _ (by decide)
    have hb1 : c / 6 / 9 % 12 < 12 := Int.emod_lt_of_pos _ (by decide)
    have h16 : (2 : Int) ^ 4 = 16 := by decide
    exact Nat.le_trans (sz_dvi (n := 4) (Int.emod_nonneg _ (by decide)) (by omega) (by omega) (by omega) (by decide)) (by decide)
  | mus =>
    refine ib ?_ ?_
    · show -1 ≤ (if c % 6 < 5 then c / 6 % 16 else c / 6 % 10 ^ 30); have := nn30 (c / 6); split <;> omega
    · show (if c % 6 < 5 then c / 6 % 16 else c / 6 % 10 ^ 30) < 2 ^ 100; have := lt30 (c / 6); split <;> omega
  | rst m =>
    have hm : (2 : Nat) ^ m ≤ 2 ^ 12 := Nat.pow_le_pow_right (by decide) h.2
    have hm' : (2 : Int) ^ m ≤ 2 ^ 12 := by exact_mod_cast hm
    have h0 : (0 : Int) < 2 ^ m := Int.pow_pos (by decide)
    have h1 := Int.emod_nonneg (c / 6) (b := 2 ^ m) (by omega)
    have h2 := Int.emod_lt_of_pos (c / 6) h0
    have h4 : (2 : Int) ^ 12 < 2 ^ 100 := by decide
    exact ib (show -1 ≤ c / 6 % 2 ^ m by omega) (show c / 6 % 2 ^ m < 2 ^ 100 by omega)
theorem fits_small {k : Kd} {a b : Wo} (ha : sz a ≤ 4000) (hb : sz b ≤ 4000) : Fits k a b := by cases k <;> first | trivial | (show sz a + sz b ≤ _; omega)
theorem fit1_small {k : Kd} {a : Wo} (ha : sz a ≤ 4000) : Fit1 k a := by cases k <;> first | trivial | (show sz a ≤ _; omega)
/-! ### M3: the deeds' laws (plain Lean) -/
def cntT (i j : Int) : Int := if i = -1 ∨ j = -1 then -1 else i + j
def cntB (i j : Int) : Int := if i = 0 ∨ j = 0 then 0 else if i = -1 ∨ j = -1 then -1 else i * j
def likT (r s : Rat) : Rat := if r < s then s else r
def minI (i j : Int) : Int := if j < i then j else i
def maxI (i j : Int) : Int := if j > i then j else i
theorem tog_few (i j : Int) : tog .few (.int i) (.int j) = .int (minI i j) := rfl
theorem tog_few_n (a : Wo) : tog .few .non a = a := by cases a <;> rfl
theorem tog_few_m (a : Wo) : tog .few a .non = a := by cases a <;> rfl
theorem tog_mus_n (a : Wo) : tog .mus .non a = a := by cases a <;> rfl
theorem tog_mus_m (a : Wo) : tog .mus a .non = a := by cases a <;> rfl
theorem tog_wid (i j : Int) : tog .wid (.int i) (.int j) = .int (maxI i j) := rfl
theorem beh_wid (i j : Int) : beh .wid (.int i) (.int j) = .int (minI i j) := rfl
theorem tog_cnt (i j : Int) : tog .cnt (.int i) (.int j) = .int (cntT i j) := by simp only [tog, cntT]; split <;> rfl
theorem beh_cnt (i j : Int) : beh .cnt (.int i) (.int j) = .int (cntB i j) := by
  simp only [beh, cntB]
  split
  · rfl
  split <;> rfl
theorem tog_lik (r s : Rat) : tog .lik (.rat r) (.rat s) = .rat (likT r s) := by simp only [tog, likT]; split <;> rfl
/-- the shape of a worth -/
theorem good_few {a : Wo} (h : Good .few a) : a = .non ∨ ∃ i, a = .int i ∧ 0 ≤ i := by
  cases a with
  | non => exact .inl rfl
  | int i => exact .inr ⟨i, rfl, h⟩
  | rat r => exact h.elim
theorem good_mus {a : Wo} (h : Good .mus a) : a = .non ∨ ∃ n : Nat, a = .int n := by
  cases a with
  | non => exact .inl rfl
  | int i => exact .inr ⟨i.toNat, by have h' : 0 ≤ i := h; rw [Int.toNat_of_nonneg h']⟩
  | rat r => exact h.elim
theorem good_wid {a : Wo} (h : Good .wid a) : ∃ i, a = .int i ∧ 0 ≤ i ∧ i ≤ 1000000000 := by
  cases a with
  | int i => exact ⟨i, rfl, h⟩
  | _ => exact h.elim
theorem good_cnt {a : Wo} (h : Good .cnt a) : ∃ i, a = .int i ∧ -1 ≤ i := by
  cases a with
  | int i => exact ⟨i, rfl, h⟩
  | _ => exact h.elim
theorem good_lik {a : Wo} (h : Good .lik a) : ∃ r, a = .rat r ∧ 0 ≤ r ∧ r ≤ 1 := by
  cases a with
  | rat i => exact ⟨i, rfl, h⟩
  | _ => exact h.elim
theorem good_cha {a : Wo} (h : Good .cha a) : ∃ r, a = .rat r ∧ 0 ≤ r := by
  cases a with
  | rat i => exact ⟨i, rfl, h⟩
  | _ => exact h.elim
theorem good_rst {m : Nat} {a : Wo} (h : Good (.rst m) a) : ∃ n : Nat, a = .int n ∧ n < 2 ^ m := by
  cases a with
  | int i => exact ⟨i.toNat, by rw [Int.toNat_of_nonneg h.1], by
      have h1 := h.1
      have : ((i.toNat : Nat) : Int) < ((2 ^ m : Nat) : Int) := by rw [Int.natCast_pow, Int.toNat_of_nonneg h1]; exact h.2
      omega⟩
  | _ => exact h.elim
theorem rst_good {m n : Nat} (h : n < 2 ^ m) : Good (.rst m) (.int n) := ⟨by omega, by exact_mod_cast h⟩
theorem beh_few (i j : Int) : beh .few (.int i) (.int j) = .int (i + j) := rfl
theorem beh_few_n (a : Wo) : beh .few .non a = .non := by cases a <;> rfl
theorem beh_few_m (a : Wo) : beh .few a .non = .non := by cases a <;> rfl
theorem beh_mus_n (a : Wo) : beh .mus .non a = .non := by cases a <;> rfl
theorem beh_mus_m (a : Wo) : beh .mus a .non = .non := by cases a <;> rfl
theorem tog_mus (i j : Nat) : tog .mus (.int i) (.int j) = .int ((i &&& j : Nat) : Int) := rfl
theorem beh_mus (i j : Nat) : beh .mus (.int i) (.int j) = .int ((i ||| j : Nat) : Int) := rfl
theorem tog_rst (m i j : Nat) : tog (.rst m) (.int i) (.int j) = .int ((i ||| j : Nat) : Int) := rfl
theorem beh_rst (m i j : Nat) : beh (.rst m) (.int i) (.int j) = .int ((rbeh m i j : Nat) : Int) := rfl
theorem tog_cha (r s : Rat) : tog .cha (.rat r) (.rat s) = .rat (r + s) := rfl
theorem beh_cha (r s : Rat) : beh .cha (.rat r) (.rat s) = .rat (r * s) := rfl
theorem beh_lik (r s : Rat) : beh .lik (.rat r) (.rat s) = .rat (r * s) := rfl
theorem mul_le_one {r s : Rat} (h0 : 0 ≤ r) (h1 : r ≤ 1) (g1 : s ≤ 1) : r * s ≤ 1 := by
  have := Rat.mul_le_mul_of_nonneg_left g1 h0
  grind
theorem good_tog {k : Kd} {a b : Wo} (ha : Good k a) (hb : Good k b) : Good k (tog k a b) := by
  cases k with
  | few =>
    rcases good_few ha with rfl | ⟨i, rfl, hi⟩
    · rw [tog_few_n]; exact hb
    rcases good_few hb with rfl | ⟨j, rfl, hj⟩
    · exact ha
    · rw [tog_few]; show 0 ≤ minI i j; unfold minI; split <;> omega
  | mus =>
    rcases good_mus ha with rfl | ⟨i, rfl⟩
    · rw [tog_mus_n]; exact hb
    rcases good_mus hb with rfl | ⟨j, rfl⟩
    · exact ha
    · rw [tog_mus]; show (0 : Int) ≤ _; omega
  | wid =>
    obtain ⟨i, rfl, hi⟩ := good_wid ha
    obtain ⟨j, rfl, hj⟩ := good_wid hb
    rw [tog_wid]; show 0 ≤ maxI i j ∧ maxI i j ≤ 1000000000; unfold maxI; split <;> omega
  | cnt =>
    obtain ⟨i, rfl, hi⟩ := good_cnt ha
    obtain ⟨j, rfl, hj⟩ := good_cnt hb
    rw [tog_cnt]; show -1 ≤ cntT i j; unfold cntT; split <;> omega
  | lik =>
    obtain ⟨r, rfl, hr⟩ := good_lik ha
    obtain ⟨s, rfl, hs⟩ := good_lik hb
    rw [tog_lik]; show 0 ≤ likT r s ∧ likT r s ≤ 1; unfold likT; split <;> assumption
  | cha =>
    obtain ⟨r, rfl, hr⟩ := good_cha ha
    obtain ⟨s, rfl, hs⟩ := good_cha hb
    exact Rat.add_nonneg hr hs
  | rst m =>
    obtain ⟨i, rfl, hi⟩ := good_rst ha
    obtain ⟨j, rfl, hj⟩ := good_rst hb
    rw [tog_rst]; exact rst_good (Nat.or_lt_two_pow hi hj)
theorem good_beh {k : Kd} {a b : Wo} (ha : Good k a) (hb : Good k b) : Good k (beh k a b) := by
  cases k with
  | few =>
    rcases good_few ha with rfl | ⟨i, rfl, hi⟩
    · rw [beh_few_n]; trivial
    rcases good_few hb with rfl | ⟨j, rfl, hj⟩
    · trivial
    · show 0 ≤ i + j; omega
  | mus =>
    rcases good_mus ha with rfl | ⟨i, rfl⟩
    · rw [beh_mus_n]; trivial
    rcases good_mus hb with rfl | ⟨j, rfl⟩
    · trivial
    · rw [beh_mus]; show (0 : Int) ≤ _; omega
  | wid =>
    obtain ⟨i, rfl, hi⟩ := good_wid ha
    obtain ⟨j, rfl, hj⟩ := good_wid hb
    rw [beh_wid]; show 0 ≤ minI i j ∧ minI i j ≤ 1000000000; unfold minI; split <;> omega
  | cnt =>
    obtain ⟨i, rfl, hi⟩ := good_cnt ha
    obtain ⟨j, rfl, hj⟩ := good_cnt hb
    rw [beh_cnt]; show -1 ≤ cntB i j; unfold cntB
    split
    · omega
    split
    · omega
    · have : 0 ≤ i * j := Int.mul_nonneg (by omega) (by omega)
      omega
  | lik =>
    obtain ⟨r, rfl, hr⟩ := good_lik ha
    obtain ⟨s, rfl, hs⟩ := good_lik hb
    exact ⟨Rat.mul_nonneg hr.1 hs.1, mul_le_one hr.1 hr.2 hs.2⟩
  | cha =>
    obtain ⟨r, rfl, hr⟩ := good_cha ha
    obtain ⟨s, rfl, hs⟩ := good_cha hb
    exact Rat.mul_nonneg hr hs
  | rst m =>
    obtain ⟨i, rfl, hi⟩ := good_rst ha
    obtain ⟨j, rfl, hj⟩ := good_rst hb
    rw [beh_rst]; exact rst_good (rbeh_lt _ _ _)
theorem rat_inv_nonneg {r : Rat} (h : r < 1) : 0 ≤ 1 / (1 - r) := by
  have h1 : 0 < 1 - r := by grind
  rw [Rat.div_def, Rat.one_mul]
  have h2 : 0 < (1 - r)⁻¹ := Rat.inv_pos.2 h1
  grind
theorem good_rnd {k : Kd} (hk : KOk k) {a s : Wo} (ha : Good k a) (h : rnd k a = some s) : Good k s := by
  cases k with
  | few => cases h; show (0 : Int) ≤ 0; decide
  | mus => cases h; show (0 : Int) ≤ 0; decide
  | wid => cases h; show (0 : Int) ≤ 1000000000 ∧ (1000000000 : Int) ≤ 1000000000; decide
  | lik => cases h; show (0 : Rat) ≤ 1 ∧ (1 : Rat) ≤ 1; decide
  | cnt =>
    obtain ⟨i, rfl, hi⟩ := good_cnt ha
    cases h; show -1 ≤ (if i = 0 then (1 : Int) else -1); split <;> omega
  | cha =>
    obtain ⟨r, rfl, hr⟩ := good_cha ha
    simp only [rnd] at h
    split at h
    · cases h; exact rat_inv_nonneg (by assumption)
    · cases h
  | rst m =>
    obtain ⟨i, rfl, hi⟩ := good_rst ha
    cases h; exact rst_good (rstar_lt hk.1 _)
/-! the laws -/
theorem minI_assoc (a b c : Int) : minI (minI a b) c = minI a (minI b c) := by unfold minI; grind
theorem maxI_assoc (a b c : Int) : maxI (maxI a b) c = maxI a (maxI b c) := by unfold maxI; grind
theorem minI_comm (a b : Int) : minI a b = minI b a := by unfold minI; split <;> split <;> omega
theorem maxI_comm (a b : Int) : maxI a b = maxI b a := by unfold maxI; split <;> split <;> omega
theorem cntT_assoc {a b c : Int} (ha : -1 ≤ a) (hb : -1 ≤ b) (hc : -1 ≤ c) : cntT (cntT a b) c = cntT a (cntT b c) := by
  unfold cntT; split <;> split <;> (repeat' split) <;> omega
theorem cntT_comm (a b : Int) : cntT a b = cntT b a := by unfold cntT; split <;> split <;> omega
theorem likT_assoc (a b c : Rat) : likT (likT a b) c = likT a (likT b c) := by unfold likT; grind
theorem likT_comm (a b : Rat) : likT a b = likT b a := by unfold likT; grind
theorem cntB_comm (a b : Int) : cntB a b = cntB b a := by
  unfold cntB; rw [Int.mul_comm]; split <;> split <;> (repeat' split) <;> omega
theorem mul_cases {a b : Int} (ha : -1 ≤ a) (hb : -1 ≤ b) (h0 : ¬ (a = 0 ∨ b = 0)) (h1 : ¬ (a = -1 ∨ b = -1)) : 1 ≤ a * b := by
  have := Int.mul_pos (show 0 < a by omega) (show 0 < b by omega)
  omega
theorem cntB_assoc {a b c : Int} (ha : -1 ≤ a) (hb : -1 ≤ b) (hc : -1 ≤ c) : cntB (cntB a b) c = cntB a (cntB b c) := by
  have fin : ∀ {x : Int}, -1 ≤ x → x = 0 ∨ x = -1 ∨ 1 ≤ x := fun h => by omega
  rcases fin ha with rfl | rfl | ha <;> rcases fin hb with rfl | rfl | hb <;> rcases fin hc with rfl | rfl | hc
  all_goals unfold cntB
  all_goals first
    | (have p1 := Int.mul_pos (show 0 < a by omega) (show 0 < b by omega); have p2 := Int.mul_pos (show 0 < b by omega) (show 0 < c by omega)
       rw [if_neg (show ¬ (a = 0 ∨ b = 0) by omega), if_neg (show ¬ (a = -1 ∨ b = -1) by omega), if_neg (show ¬ (b = 0 ∨ c = 0) by omega), if_neg (show ¬ (b = -1 ∨ c = -1) by omega),
        if_neg (show ¬ (a * b = 0 ∨ c = 0) by omega), if_neg (show ¬ (a * b = -1 ∨ c = -1) by omega), if_neg (show ¬ (a = 0 ∨ b * c = 0) by omega), if_neg (show ¬ (a = -1 ∨ b * c = -1) by omega), Int.mul_assoc])
    | (simp; done)
    | (simp; omega)
    | skip
  all_goals first
    | (have p1 := Int.mul_pos (show 0 < a by omega) (show 0 < b by omega); simp; omega)
    | (have p1 := Int.mul_pos (show 0 < b by omega) (show 0 < c by omega); simp; omega)
    | skip
theorem few_dist (i j l : Int) : i + minI j l = minI (i + j) (i + l) := by unfold minI; grind
theorem wid_dist (i j l : Int) : minI i (maxI j l) = maxI (minI i j) (minI i l) := by unfold minI maxI; grind
theorem lik_dist {r s t : Rat} (h : 0 ≤ r) : r * likT s t = likT (r * s) (r * t) := by
  unfold likT
  by_cases h1 : s < t
  · rw [if_pos h1]
    by_cases h2 : r * s < r * t
    · rw [if_pos h2]
    · rw [if_neg h2]
      have := Rat.mul_le_mul_of_nonneg_left (show s ≤ t by grind) h
      grind
  · rw [if_neg h1]
    have := Rat.mul_le_mul_of_nonneg_left (show t ≤ s by grind) h
    rw [if_neg (by grind)]
theorem cnt_dist {a b c : Int} (ha : -1 ≤ a) (hb : -1 ≤ b) (hc : -1 ≤ c) : cntB a (cntT b c) = cntT (cntB a b) (cntB a c) := by
  have fin : ∀ {x : Int}, -1 ≤ x → x = 0 ∨ x = -1 ∨ 1 ≤ x := fun h => by omega
  rcases fin ha with rfl | rfl | ha
  · simp [cntB, cntT]
  · rcases fin hb with rfl | rfl | hb <;> rcases fin hc with rfl | rfl | hc <;> simp [cntB, cntT] <;> (repeat' split) <;> omega
  · rcases fin hb with rfl | rfl | hb <;> rcases fin hc with rfl | rfl | hc
    all_goals simp only [cntB, cntT]
    all_goals first
      | (have p1 := Int.mul_pos (show 0 < a by omega) (show 0 < b by omega); have p2 := Int.mul_pos (show 0 < a by omega) (show 0 < c by omega); grind)
      | (have p1 := Int.mul_pos (show 0 < a by omega) (show 0 < b by omega); grind)
      | (have p2 := Int.mul_pos (show 0 < a by omega) (show 0 < c by omega); grind)
      | grind
theorem rbeh_comm (m a b : Nat) : rbeh m a b = rbeh m b a := by
  refine Nat.eq_of_testBit_eq fun r => ?_
  rw [Bool.eq_iff_iff, testBit_rbeh, testBit_rbeh]
  constructor
  · rintro ⟨h, i, j, hi, hj, ha, hb, e⟩; exact ⟨h, j, i, hj, hi, hb, ha, by rw [Nat.add_comm]; exact e⟩
  · rintro ⟨h, i, j, hi, hj, ha, hb, e⟩; exact ⟨h, j, i, hj, hi, hb, ha, by rw [Nat.add_comm]; exact e⟩
theorem rbeh_or (m a b c : Nat) : rbeh m a (b ||| c) = rbeh m a b ||| rbeh m a c := by
  refine Nat.eq_of_testBit_eq fun r => ?_
  rw [Bool.eq_iff_iff, Nat.testBit_or, Bool.or_eq_true, testBit_rbeh, testBit_rbeh, testBit_rbeh]
  constructor
  · rintro ⟨h, i, j, hi, hj, ha, hb, e⟩
    rw [Nat.testBit_or, Bool.or_eq_true] at hb
    rcases hb with hb | hb
    · exact .inl ⟨h, i, j, hi, hj, ha, hb, e⟩
    · exact .inr ⟨h, i, j, hi, hj, ha, hb, e⟩
  · rintro (⟨h, i, j, hi, hj, ha, hb, e⟩ | ⟨h, i, j, hi, hj, ha, hb, e⟩)
    · exact ⟨h, i, j, hi, hj, ha, by rw [Nat.testBit_or, hb, Bool.true_or], e⟩
    · exact ⟨h, i, j, hi, hj, ha, by rw [Nat.testBit_or, hb, Bool.or_true], e⟩
theorem rbeh_assoc (m a b c : Nat) : rbeh m (rbeh m a b) c = rbeh m a (rbeh m b c) := by
  refine Nat.eq_of_testBit_eq fun r => ?_
  rw [Bool.eq_iff_iff, testBit_rbeh, testBit_rbeh]
  constructor
  · rintro ⟨h, i, l, hi, hl, ha, hc, e⟩
    obtain ⟨_, i', j', h1, h2, h3, h4, h5⟩ := (testBit_rbeh m a b i).1 ha
    refine ⟨h, i', (j' + l) % m, h1, Nat.mod_lt _ (by omega), h3, (testBit_rbeh m b c _).2 ⟨Nat.mod_lt _ (by omega), j', l, h2, hl, h4, hc, rfl⟩, ?_⟩
    rw [← e, ← h5, Nat.add_mod_mod, Nat.mod_add_mod, Nat.add_assoc]
  · rintro ⟨h, i, l, hi, hl, ha, hc, e⟩
    obtain ⟨_, i', j', h1, h2, h3, h4, h5⟩ := (testBit_rbeh m b c l).1 hc
    refine ⟨h, (i + i') % m, j', Nat.mod_lt _ (by omega), h2, (testBit_rbeh m a b _).2 ⟨Nat.mod_lt _ (by omega), i, i', hi, h1, ha, h3, rfl⟩, h4, ?_⟩
    rw [← e, ← h5, Nat.add_mod_mod, Nat.mod_add_mod, Nat.add_assoc]
theorem rbeh_zero (m a : Nat) : rbeh m a 0 = 0 := by
  refine Nat.eq_of_testBit_eq fun r => ?_
  rw [Bool.eq_iff_iff, testBit_rbeh, Nat.zero_testBit]
  constructor
  · rintro ⟨h, i, j, hi, hj, ha, hb, e⟩; rw [Nat.zero_testBit] at hb; cases hb
  · intro z; cases z
theorem rbeh_one {m a : Nat} (ha : a < 2 ^ m) : rbeh m a 1 = a := by
  refine Nat.eq_of_testBit_eq fun r => ?_
  rw [Bool.eq_iff_iff, testBit_rbeh]
  constructor
  · rintro ⟨h, i, j, hi, hj, ha, hb, e⟩
    have hj0 : j = 0 := by
      rw [Nat.testBit_one_eq_true_iff_self_eq_zero] at hb; exact hb
    subst hj0
    rw [Nat.add_zero, Nat.mod_eq_of_lt hi] at e
    subst e; exact ha
  · intro h
    have hr : r < m := by
      refine Classical.byContradiction fun z => ?_
      rw [testBit_above ha (by omega)] at h; cases h
    exact ⟨hr, r, 0, hr, by omega, h, by simp, by rw [Nat.add_zero, Nat.mod_eq_of_lt hr]⟩
theorem tog_assoc {k : Kd} {a b c : Wo} (ha : Good k a) (hb : Good k b) (hc : Good k c) : tog k (tog k a b) c = tog k a (tog k b c) := by
  cases k with
  | few =>
    rcases good_few ha with rfl | ⟨i, rfl, _⟩
    · rw [tog_few_n, tog_few_n]
    rcases good_few hb with rfl | ⟨j, rfl, _⟩
    · rw [tog_few_m, tog_few_n]
    rcases good_few hc with rfl | ⟨l, rfl, _⟩
    · rw [tog_few_m, tog_few_m]
    rw [tog_few, tog_few, tog_few, tog_few, minI_assoc]
  | mus =>
    rcases good_mus ha with rfl | ⟨i, rfl⟩
    · rw [tog_mus_n, tog_mus_n]
    rcases good_mus hb with rfl | ⟨j, rfl⟩
    · rw [tog_mus_m, tog_mus_n]
    rcases good_mus hc with rfl | ⟨l, rfl⟩
    · rw [tog_mus_m, tog_mus_m]
    rw [tog_mus, tog_mus, tog_mus, tog_mus, Nat.and_assoc]
  | wid =>
    obtain ⟨i, rfl, _⟩ := good_wid ha
    obtain ⟨j, rfl, _⟩ := good_wid hb
    obtain ⟨l, rfl, _⟩ := good_wid hc
    rw [tog_wid, tog_wid, tog_wid, tog_wid, maxI_assoc]
  | cnt =>
    obtain ⟨i, rfl, hi⟩ := good_cnt ha
    obtain ⟨j, rfl, hj⟩ := good_cnt hb
    obtain ⟨l, rfl, hl⟩ := good_cnt hc
    rw [tog_cnt, tog_cnt, tog_cnt, tog_cnt, cntT_assoc hi hj hl]
  | lik =>
    obtain ⟨i, rfl, _⟩ := good_lik ha
    obtain ⟨j, rfl, _⟩ := good_lik hb
    obtain ⟨l, rfl, _⟩ := good_lik hc
    rw [tog_lik, tog_lik, tog_lik, tog_lik, likT_assoc]
  | cha =>
    obtain ⟨i, rfl, _⟩ := good_cha ha
    obtain ⟨j, rfl, _⟩ := good_cha hb
    obtain ⟨l, rfl, _⟩ := good_cha hc
    rw [tog_cha, tog_cha, tog_cha, tog_cha, Rat.add_assoc]
  | rst m =>
    obtain ⟨i, rfl, _⟩ := good_rst ha
    obtain ⟨j, rfl, _⟩ := good_rst hb
    obtain ⟨l, rfl, _⟩ := good_rst hc
    rw [tog_rst, tog_rst, tog_rst, tog_rst, Nat.or_assoc]
theorem tog_comm {k : Kd} {a b : Wo} (ha : Good k a) (hb : Good k b) : tog k a b = tog k b a := by
  cases k with
  | few =>
    rcases good_few ha with rfl | ⟨i, rfl, _⟩
    · rw [tog_few_n, tog_few_m]
    rcases good_few hb with rfl | ⟨j, rfl, _⟩
    · rw [tog_few_m, tog_few_n]
    rw [tog_few, tog_few, minI_comm]
  | mus =>
    rcases good_mus ha with rfl | ⟨i, rfl⟩
    · rw [tog_mus_n, tog_mus_m]
    rcases good_mus hb with rfl | ⟨j, rfl⟩
    · rw [tog_mus_m, tog_mus_n]
    rw [tog_mus, tog_mus, Nat.and_comm]
  | wid =>
    obtain ⟨i, rfl, _⟩ := good_wid ha
    obtain ⟨j, rfl, _⟩ := good_wid hb
    rw [tog_wid, tog_wid, maxI_comm]
  | cnt =>
    obtain ⟨i, rfl, hi⟩ := good_cnt ha
    obtain ⟨j, rfl, hj⟩ := good_cnt hb
    rw [tog_cnt, tog_cnt, cntT_comm]
  | lik =>
    obtain ⟨i, rfl, _⟩ := good_lik ha
    obtain ⟨j, rfl, _⟩ := good_lik hb
    rw [tog_lik, tog_lik, likT_comm]
  | cha =>
    obtain ⟨i, rfl, _⟩ := good_cha ha
    obtain ⟨j, rfl, _⟩ := good_cha hb
    rw [tog_cha, tog_cha, Rat.add_comm]
  | rst m =>
    obtain ⟨i, rfl, _⟩ := good_rst ha
    obtain ⟨j, rfl, _⟩ := good_rst hb
    rw [tog_rst, tog_rst, Nat.or_comm]
theorem beh_comm {k : Kd} {a b : Wo} (ha : Good k a) (hb : Good k b) : beh k a b = beh k b a := by
  cases k with
  | few =>
    rcases good_few ha with rfl | ⟨i, rfl, _⟩
    · rw [beh_few_n, beh_few_m]
    rcases good_few hb with rfl | ⟨j, rfl, _⟩
    · rw [beh_few_m, beh_few_n]
    rw [beh_few, beh_few, Int.add_comm]
  | mus =>
    rcases good_mus ha with rfl | ⟨i, rfl⟩
    · rw [beh_mus_n, beh_mus_m]
    rcases good_mus hb with rfl | ⟨j, rfl⟩
    · rw [beh_mus_m, beh_mus_n]
    rw [beh_mus, beh_mus, Nat.or_comm]
  | wid =>
    obtain ⟨i, rfl, _⟩ := good_wid ha
    obtain ⟨j, rfl, _⟩ := good_wid hb
    rw [beh_wid, beh_wid, minI_comm]
  | cnt =>
    obtain ⟨i, rfl, hi⟩ := good_cnt ha
    obtain ⟨j, rfl, hj⟩ := good_cnt hb
    rw [beh_cnt, beh_cnt, cntB_comm]
  | lik =>
    obtain ⟨i, rfl, _⟩ := good_lik ha
    obtain ⟨j, rfl, _⟩ := good_lik hb
    rw [beh_lik, beh_lik, Rat.mul_comm]
  | cha =>
    obtain ⟨i, rfl, _⟩ := good_cha ha
    obtain ⟨j, rfl, _⟩ := good_cha hb
    rw [beh_cha, beh_cha, Rat.mul_comm]
  | rst m =>
    obtain ⟨i, rfl, _⟩ := good_rst ha
    obtain ⟨j, rfl, _⟩ := good_rst hb
    rw [beh_rst, beh_rst, rbeh_comm]
theorem beh_assoc {k : Kd} {a b c : Wo} (ha : Good k a) (hb : Good k b) (hc : Good k c) : beh k (beh k a b) c = beh k a (beh k b c) := by
  cases k with
  | few =>
    rcases good_few ha with rfl | ⟨i, rfl, _⟩
    · rw [beh_few_n, beh_few_n, beh_few_n]
    rcases good_few hb with rfl | ⟨j, rfl, _⟩
    · rw [beh_few_m, beh_few_n, beh_few_m]
    rcases good_few hc with rfl | ⟨l, rfl, _⟩
    · rw [beh_few_m, beh_few_m, beh_few_m]
    rw [beh_few, beh_few, beh_few, beh_few, Int.add_assoc]
  | mus =>
    rcases good_mus ha with rfl | ⟨i, rfl⟩
    · rw [beh_mus_n, beh_mus_n, beh_mus_n]
    rcases good_mus hb with rfl | ⟨j, rfl⟩
    · rw [beh_mus_m, beh_mus_n, beh_mus_m]
    rcases good_mus hc with rfl | ⟨l, rfl⟩
    · rw [beh_mus_m, beh_mus_m, beh_mus_m]
    rw [beh_mus, beh_mus, beh_mus, beh_mus, Nat.or_assoc]
  | wid =>
    obtain ⟨i, rfl, _⟩ := good_wid ha
    obtain ⟨j, rfl, _⟩ := good_wid hb
    obtain ⟨l, rfl, _⟩ := good_wid hc
    rw [beh_wid, beh_wid, beh_wid, beh_wid, minI_assoc]
  | cnt =>
    obtain ⟨i, rfl, hi⟩ := good_cnt ha
    obtain ⟨j, rfl, hj⟩ := good_cnt hb
    obtain ⟨l, rfl, hl⟩ := good_cnt hc
    rw [beh_cnt, beh_cnt, beh_cnt, beh_cnt, cntB_assoc hi hj hl]
  | lik =>
    obtain ⟨i, rfl, _⟩ := good_lik ha
    obtain ⟨j, rfl, _⟩ := good_lik hb
    obtain ⟨l, rfl, _⟩ := good_lik hc
    rw [beh_lik, beh_lik, beh_lik, beh_lik, Rat.mul_assoc]
  | cha =>
    obtain ⟨i, rfl, _⟩ := good_cha ha
    obtain ⟨j, rfl, _⟩ := good_cha hb
    obtain ⟨l, rfl, _⟩ := good_cha hc
    rw [beh_cha, beh_cha, beh_cha, beh_cha, Rat.mul_assoc]
  | rst m =>
    obtain ⟨i, rfl, _⟩ := good_rst ha
    obtain ⟨j, rfl, _⟩ := good_rst hb
    obtain ⟨l, rfl, _⟩ := good_rst hc
    rw [beh_rst, beh_rst, beh_rst, beh_rst, rbeh_assoc]
theorem beh_dist {k : Kd} {a b c : Wo} (ha : Good k a) (hb : Good k b) (hc : Good k c) : beh k a (tog k b c) = tog k (beh k a b) (beh k a c) := by
  cases k with
  | few =>
    rcases good_few ha with rfl | ⟨i, rfl, _⟩
    · rw [beh_few_n, beh_few_n, beh_few_n, tog_few_n]
    rcases good_few hb with rfl | ⟨j, rfl, _⟩
    · rw [tog_few_n, beh_few_m, tog_few_n]
    rcases good_few hc with rfl | ⟨l, rfl, _⟩
    · rw [tog_few_m, beh_few_m, tog_few_m]
    rw [tog_few, beh_few, beh_few, beh_few, tog_few, few_dist]
  | mus =>
    rcases good_mus ha with rfl | ⟨i, rfl⟩
    · rw [beh_mus_n, beh_mus_n, beh_mus_n, tog_mus_n]
    rcases good_mus hb with rfl | ⟨j, rfl⟩
    · rw [tog_mus_n, beh_mus_m, tog_mus_n]
    rcases good_mus hc with rfl | ⟨l, rfl⟩
    · rw [tog_mus_m, beh_mus_m, tog_mus_m]
    rw [tog_mus, beh_mus, beh_mus, beh_mus, tog_mus, Nat.or_and_distrib_left]
  | wid =>
    obtain ⟨i, rfl, _⟩ := good_wid ha
    obtain ⟨j, rfl, _⟩ := good_wid hb
    obtain ⟨l, rfl, _⟩ := good_wid hc
    rw [tog_wid, beh_wid, beh_wid, beh_wid, tog_wid, wid_dist]
  | cnt =>
    obtain ⟨i, rfl, hi⟩ := good_cnt ha
    obtain ⟨j, rfl, hj⟩ := good_cnt hb
    obtain ⟨l, rfl, hl⟩ := good_cnt hc
    rw [tog_cnt, beh_cnt, beh_cnt, beh_cnt, tog_cnt, cnt_dist hi hj hl]
  | lik =>
    obtain ⟨i, rfl, hi⟩ := good_lik ha
    obtain ⟨j, rfl, _⟩ := good_lik hb
    obtain ⟨l, rfl, _⟩ := good_lik hc
    rw [tog_lik, beh_lik, beh_lik, beh_lik, tog_lik, lik_dist hi.1]
  | cha =>
    obtain ⟨i, rfl, _⟩ := good_cha ha
    obtain ⟨j, rfl, _⟩ := good_cha hb
    obtain ⟨l, rfl, _⟩ := good_cha hc
    rw [tog_cha, beh_cha, beh_cha, beh_cha, tog_cha, Rat.mul_add]
  | rst m =>
    obtain ⟨i, rfl, _⟩ := good_rst ha
    obtain ⟨j, rfl, _⟩ := good_rst hb
    obtain ⟨l, rfl, _⟩ := good_rst hc
    rw [tog_rst, beh_rst, beh_rst, beh_rst, tog_rst, rbeh_or]
theorem tog_none {k : Kd} {a : Wo} (ha : Good k a) : tog k a (noneW k) = a := by
  cases k with
  | few => exact tog_few_m a
  | mus => exact tog_mus_m a
  | wid =>
    obtain ⟨i, rfl, hi⟩ := good_wid ha
    show tog .wid (.int i) (.int 0) = _
    rw [tog_wid]; unfold maxI; rw [if_neg (by omega)]
  | cnt =>
    obtain ⟨i, rfl, hi⟩ := good_cnt ha
    show tog .cnt (.int i) (.int 0) = _
    rw [tog_cnt]; unfold cntT; congr 1; split <;> omega
  | lik =>
    obtain ⟨i, rfl, hi⟩ := good_lik ha
    show tog .lik (.rat i) (.rat 0) = _
    rw [tog_lik]; unfold likT; rw [if_neg (by grind)]
  | cha =>
    obtain ⟨i, rfl, hi⟩ := good_cha ha
    show tog .cha (.rat i) (.rat 0) = _
    rw [tog_cha, Rat.add_zero]
  | rst m =>
    obtain ⟨i, rfl, hi⟩ := good_rst ha
    show tog (.rst m) (.int i) (.int (0 : Nat)) = _
    rw [tog_rst, Nat.or_zero]
theorem beh_rest {k : Kd} {a : Wo} (ha : Good k a) : beh k a (restW k) = a := by
  cases k with
  | few =>
    rcases good_few ha with rfl | ⟨i, rfl, _⟩
    · rfl
    · show beh .few (.int i) (.int 0) = _; rw [beh_few, Int.add_zero]
  | mus =>
    rcases good_mus ha with rfl | ⟨i, rfl⟩
    · rfl
    · show beh .mus (.int i) (.int (0 : Nat)) = _; rw [beh_mus, Nat.or_zero]
  | wid =>
    obtain ⟨i, rfl, hi⟩ := good_wid ha
    show beh .wid (.int i) (.int 1000000000) = _
    rw [beh_wid]; unfold minI; rw [if_neg (by omega)]
  | cnt =>
    obtain ⟨i, rfl, hi⟩ := good_cnt ha
    show beh .cnt (.int i) (.int 1) = _
    rw [beh_cnt]; unfold cntB; congr 1
    split
    · omega
    split <;> omega
  | lik =>
    obtain ⟨i, rfl, hi⟩ := good_lik ha
    show beh .lik (.rat i) (.rat 1) = _
    rw [beh_lik, Rat.mul_one]
  | cha =>
    obtain ⟨i, rfl, hi⟩ := good_cha ha
    show beh .cha (.rat i) (.rat 1) = _
    rw [beh_cha, Rat.mul_one]
  | rst m =>
    obtain ⟨i, rfl, hi⟩ := good_rst ha
    show beh (.rst m) (.int i) (.int (1 : Nat)) = _
    rw [beh_rst, rbeh_one hi]
theorem beh_none {k : Kd} {a : Wo} (ha : Good k a) : beh k a (noneW k) = noneW k := by
  cases k with
  | few => exact beh_few_m a
  | mus => exact beh_mus_m a
  | wid =>
    obtain ⟨i, rfl, hi⟩ := good_wid ha
    show beh .wid (.int i) (.int 0) = .int 0
    rw [beh_wid]; unfold minI; congr 1; split <;> omega
  | cnt =>
    obtain ⟨i, rfl, hi⟩ := good_cnt ha
    show beh .cnt (.int i) (.int 0) = .int 0
    rw [beh_cnt]; unfold cntB; rw [if_pos (.inr rfl)]
  | lik =>
    obtain ⟨i, rfl, hi⟩ := good_lik ha
    show beh .lik (.rat i) (.rat 0) = .rat 0
    rw [beh_lik, Rat.mul_zero]
  | cha =>
    obtain ⟨i, rfl, hi⟩ := good_cha ha
    show beh .cha (.rat i) (.rat 0) = .rat 0
    rw [beh_cha, Rat.mul_zero]
  | rst m =>
    obtain ⟨i, rfl, hi⟩ := good_rst ha
    show beh (.rst m) (.int i) (.int (0 : Nat)) = .int (0 : Nat)
    rw [beh_rst, rbeh_zero]
/-! ### M4: rounds; an ordered structure with a least star (plain Lean) -/
theorem tog_idem {k : Kd} {a : Wo} (h : k ≠ .cnt ∧ k ≠ .cha) (ha : Good k a) : tog k a a = a := by
  cases k with
  | few =>
    rcases good_few ha with rfl | ⟨i, rfl, _⟩
    · rfl
    · rw [tog_few]; unfold minI; rw [if_neg (by omega)]
  | mus =>
    rcases good_mus ha with rfl | ⟨i, rfl⟩
    · rfl
    · rw [tog_mus, Nat.and_self]
  | wid =>
    obtain ⟨i, rfl, hi⟩ := good_wid ha
    rw [tog_wid]; unfold maxI; rw [if_neg (by omega)]
  | cnt => exact absurd rfl h.1
  | cha => exact absurd rfl h.2
  | lik =>
    obtain ⟨i, rfl, hi⟩ := good_lik ha
    rw [tog_lik]; unfold likT; rw [if_neg (by grind)]
  | rst m =>
    obtain ⟨i, rfl, hi⟩ := good_rst ha
    rw [tog_rst, Nat.or_self]
theorem anti_idem {k : Kd} {a b c d : Wo} (h : k ≠ .cnt ∧ k ≠ .cha) (ha : Good k a) (hb : Good k b) (hc : Good k c) (hd : Good k d) (e1 : tog k a c = b) (e2 : tog k b d = a) : a = b := by
  have h1 : tog k a b = b := by rw [← e1, ← tog_assoc ha ha hc, tog_idem h ha]
  have h2 : tog k b a = a := by rw [← e2, ← tog_assoc hb hb hd, tog_idem h hb]
  rw [tog_comm hb ha, h1] at h2
  exact h2.symm
theorem anti {k : Kd} {a b c d : Wo} (ha : Good k a) (hb : Good k b) (hc : Good k c) (hd : Good k d) (e1 : tog k a c = b) (e2 : tog k b d = a) : a = b := by
  cases k with
  | cnt =>
    obtain ⟨i, rfl, hi⟩ := good_cnt ha
    obtain ⟨j, rfl, hj⟩ := good_cnt hb
    obtain ⟨l, rfl, hl⟩ := good_cnt hc
    obtain ⟨m, rfl, hm⟩ := good_cnt hd
    rw [tog_cnt, Wo.int.injEq] at e1 e2
    unfold cntT at e1 e2
    rw [Wo.int.injEq]
    split at e1 <;> split at e2 <;> omega
  | cha =>
    obtain ⟨i, rfl, hi⟩ := good_cha ha
    obtain ⟨j, rfl, hj⟩ := good_cha hb
    obtain ⟨l, rfl, hl⟩ := good_cha hc
    obtain ⟨m, rfl, hm⟩ := good_cha hd
    rw [tog_cha, Wo.rat.injEq] at e1 e2
    rw [Wo.rat.injEq]
    grind
  | few => exact anti_idem (k := .few) ⟨by simp, by simp⟩ ha hb hc hd e1 e2
  | wid => exact anti_idem (k := .wid) ⟨by simp, by simp⟩ ha hb hc hd e1 e2
  | lik => exact anti_idem (k := .lik) ⟨by simp, by simp⟩ ha hb hc hd e1 e2
  | mus => exact anti_idem (k := .mus) ⟨by simp, by simp⟩ ha hb hc hd e1 e2
  | rst m => exact anti_idem (k := .rst m) ⟨by simp, by simp⟩ ha hb hc hd e1 e2
/-- kinds for which a ring is worth nothing -/
def flat : Kd → Bool
  | .few => true | .wid => true | .lik => true | .mus => true | _ => false
theorem flat_rnd {k : Kd} (h : flat k = true) (a : Wo) : rnd k a = some (restW k) := by cases k <;> first | rfl | cases h
theorem rest_top {k : Kd} {a : Wo} (h : flat k = true) (ha : Good k a) : tog k (restW k) a = restW k := by
  cases k <;> first | cases h | skip
  · rcases good_few ha with rfl | ⟨i, rfl, hi⟩
    · rfl
    · show tog .few (.int 0) (.int i) = .int 0; rw [tog_few]; unfold minI; rw [if_neg (by omega)]
  · obtain ⟨i, rfl, hi⟩ := good_wid ha
    show tog .wid (.int 1000000000) (.int i) = .int 1000000000; rw [tog_wid]; unfold maxI; rw [if_neg (by omega)]
  · obtain ⟨i, rfl, hi⟩ := good_lik ha
    show tog .lik (.rat 1) (.rat i) = .rat 1; rw [tog_lik]; unfold likT; rw [if_neg (by grind)]
  · rcases good_mus ha with rfl | ⟨i, rfl⟩
    · rfl
    · show tog .mus (.int (0 : Nat)) (.int i) = .int (0 : Nat); rw [tog_mus, Nat.zero_and]
theorem rnd_eq {k : Kd} (hk : KOk k) {a s : Wo} (ha : Good k a) (h : rnd k a = some s) : s = tog k (restW k) (beh k a s) := by
  by_cases hf : flat k = true
  · rw [flat_rnd hf] at h
    cases h
    rw [beh_rest ha, rest_top hf ha]
  cases k with
  | few => exact absurd rfl hf
  | wid => exact absurd rfl hf
  | lik => exact absurd rfl hf
  | mus => exact absurd rfl hf
  | cnt =>
    obtain ⟨i, rfl, hi⟩ := good_cnt ha
    cases h
    show Wo.int (if i = 0 then 1 else -1) = tog .cnt (.int 1) (beh .cnt (.int i) (.int (if i = 0 then 1 else -1)))
    rw [beh_cnt, tog_cnt, Wo.int.injEq]
    by_cases h0 : i = 0
    · subst h0; rfl
    · rw [if_neg h0]
      have e1 : cntB i (-1) = -1 := by unfold cntB; rw [if_neg (show ¬ (i = 0 ∨ (-1 : Int) = 0) by omega), if_pos (Or.inr rfl)]
      rw [e1]; rfl
  | cha =>
    obtain ⟨r, rfl, hr⟩ := good_cha ha
    simp only [rnd] at h
    split at h
    · cases h
      show Wo.rat _ = tog .cha (.rat 1) (beh .cha (.rat r) (.rat (1 / (1 - r))))
      rw [beh_cha, tog_cha, Wo.rat.injEq]
      grind
    · cases h
  | rst m =>
    obtain ⟨i, rfl, hi⟩ := good_rst ha
    cases h
    show Wo.int (rstar m i : Nat) = tog (.rst m) (.int (1 : Nat)) (beh (.rst m) (.int i) (.int (rstar m i : Nat)))
    rw [beh_rst, tog_rst, Wo.int.injEq, Int.natCast_inj]
    refine Nat.eq_of_testBit_eq fun r => ?_
    rw [Bool.eq_iff_iff, Nat.testBit_or, Bool.or_eq_true, rbeh_comm]
    have hfix := rstar_fix (a := i) hk.1
    constructor
    · intro hr
      -- by the turns: a bit is of one, or behind a bit
      have go : ∀ n, (riter m i n).testBit r = true → Nat.testBit 1 r = true ∨ (rbeh m (rstar m i) i).testBit r = true := by
        intro n
        induction n with
        | zero => intro h; exact .inl h
        | succ n ih =>
          intro h
          have h' : (riter m i n ||| rbeh m (riter m i n) i).testBit r = true := h
          rw [Nat.testBit_or, Bool.or_eq_true] at h'
          rcases h' with h' | h'
          · exact ih h'
          · obtain ⟨hr, a, b, h1, h2, h3, h4, h5⟩ := (testBit_rbeh _ _ _ _).1 h'
            refine .inr ((testBit_rbeh _ _ _ _).2 ⟨hr, a, b, h1, h2, ?_, h4, h5⟩)
            have mono : ∀ n q, (riter m i n).testBit q = true → (rstar m i).testBit q = true := by
              intro n q hq
              obtain ⟨j, hj, e⟩ := riter_stops (a := i) hk.1
              have up : ∀ d, (riter m i (n + d)).testBit q = true := by
                intro d
                induction d with
                | zero => exact hq
                | succ d ih => exact riter_sub m i (n + d) q ih
              have e1 := riter_still e (n + m - j)
              rw [show j + (n + m - j) = n + m by omega] at e1
              have e2 := riter_still e (m - j)
              rw [show j + (m - j) = m by omega] at e2
              have := up m
              rw [e1, ← e2] at this
              exact this
            exact mono n a h3
      exact go m hr
    · rintro (h | h)
      · have sub : ∀ n, (riter m i n).testBit r = true := by
          intro n
          induction n with
          | zero => exact h
          | succ n ih => exact riter_sub m i n r ih
        exact sub m
      · rw [← hfix, Nat.testBit_or, h, Bool.or_true]
theorem le_or {x y : Nat} : (∃ c, x ||| c = y) ↔ ∀ r, x.testBit r = true → y.testBit r = true := by
  constructor
  · rintro ⟨c, rfl⟩ r h; rw [Nat.testBit_or, h, Bool.true_or]
  · intro h
    refine ⟨y, Nat.eq_of_testBit_eq fun r => ?_⟩
    rw [Nat.testBit_or]
    cases e : x.testBit r with
    | true => rw [h r e]; rfl
    | false => rw [Bool.false_or]
theorem rnd_ind {k : Kd} (hk : KOk k) {a s x b c : Wo} (ha : Good k a) (hx : Good k x) (hb : Good k b) (hc : Good k c) (h : rnd k a = some s) (e : tog k (tog k (beh k a x) b) c = x) : ∃ d, Good k d ∧ tog k (beh k s b) d = x := by
  by_cases hf : flat k = true
  · rw [flat_rnd hf] at h
    cases h
    refine ⟨tog k (beh k a x) c, good_tog (good_beh ha hx) hc, ?_⟩
    rw [beh_comm (good_rest hk) hb, beh_rest hb, ← tog_assoc hb (good_beh ha hx) hc, tog_comm hb (good_beh ha hx)]
    exact e
  cases k with
  | few => exact absurd rfl hf
  | wid => exact absurd rfl hf
  | lik => exact absurd rfl hf
  | mus => exact absurd rfl hf
  | cnt =>
    obtain ⟨i, rfl, hi⟩ := good_cnt ha
    obtain ⟨x, rfl, hx⟩ := good_cnt hx
    obtain ⟨b, rfl, hb⟩ := good_cnt hb
    obtain ⟨c, rfl, hc⟩ := good_cnt hc
    cases h
    rw [beh_cnt, tog_cnt, tog_cnt, Wo.int.injEq] at e
    by_cases h0 : i = 0
    · subst h0
      refine ⟨.int c, hc, ?_⟩
      show tog .cnt (beh .cnt (.int 1) (.int b)) (.int c) = _
      rw [beh_cnt, tog_cnt, Wo.int.injEq, ← e]
      unfold cntB cntT
      by_cases hb0 : b = 0
      · subst hb0; rfl
      · by_cases hb1 : b = -1
        · subst hb1; rfl
        · simp [hb0, hb1]
    · refine ⟨.int x, hx, ?_⟩
      show tog .cnt (beh .cnt (.int (if i = 0 then 1 else -1)) (.int b)) (.int x) = _
      rw [if_neg h0, beh_cnt, tog_cnt, Wo.int.injEq]
      by_cases hb0 : b = 0
      · subst hb0; unfold cntB cntT; simp; omega
      · by_cases hx1 : x = -1
        · subst hx1; unfold cntT; simp
        · exfalso
          -- all is finite: x is at least x + b
          have hi1 : i ≠ -1 ∨ x = 0 := by
            rcases Classical.em (i = -1) with h | h
            · right
              refine Classical.byContradiction fun hx0 => hx1 ?_
              rw [← e]; subst h
              unfold cntB cntT; simp [hx0]
            · exact .inl h
          have hbn : b ≠ -1 := fun z => hx1 (by rw [← e, z]; unfold cntT; simp)
          have hcn : c ≠ -1 := fun z => hx1 (by rw [← e, z]; unfold cntT; simp)
          have hB : cntB i x ≠ -1 := fun z => hx1 (by rw [← e, z]; unfold cntT; simp)
          have e2 : cntB i x + b + c = x := by
            have hin : cntT (cntB i x) b = cntB i x + b := by unfold cntT; rw [if_neg (by omega)]
            have hB0 : 0 ≤ cntB i x := by
              have : Good .cnt (beh .cnt (.int i) (.int x)) := good_beh (k := .cnt) hi hx
              rw [beh_cnt] at this
              have : -1 ≤ cntB i x := this
              omega
            rw [hin] at e
            unfold cntT at e
            rw [if_neg (by omega)] at e
            exact e
          rcases hi1 with hi1 | hx0
          · by_cases hx0 : x = 0
            · subst hx0
              have : cntB i 0 = 0 := by unfold cntB; simp
              omega
            · have e3 : cntB i x = i * x := by unfold cntB; rw [if_neg (by omega), if_neg (by omega)]
              have : x ≤ i * x := by
                have := Int.mul_le_mul_of_nonneg_right (show 1 ≤ i by omega) (show 0 ≤ x by omega)
                omega
              omega
          · subst hx0
            have : cntB i 0 = 0 := by unfold cntB; simp
            omega
  | cha =>
    obtain ⟨r, rfl, hr⟩ := good_cha ha
    obtain ⟨x, rfl, hx⟩ := good_cha hx
    obtain ⟨b, rfl, hb⟩ := good_cha hb
    obtain ⟨c, rfl, hc⟩ := good_cha hc
    simp only [rnd] at h
    split at h
    · rename_i h1
      cases h
      refine ⟨.rat (1 / (1 - r) * c), Rat.mul_nonneg (rat_inv_nonneg h1) hc, ?_⟩
      rw [beh_cha, tog_cha, tog_cha, Wo.rat.injEq] at e
      rw [beh_cha, tog_cha, Wo.rat.injEq]
      grind
    · cases h
  | rst m =>
    obtain ⟨i, rfl, hi⟩ := good_rst ha
    obtain ⟨x, rfl, hx2⟩ := good_rst hx
    obtain ⟨b, rfl, hb2⟩ := good_rst hb
    obtain ⟨c, rfl, hc2⟩ := good_rst hc
    cases h
    rw [beh_rst, tog_rst, tog_rst, Wo.int.injEq, Int.natCast_inj] at e
    have hax : ∀ r, (rbeh m i x).testBit r = true → x.testBit r = true := fun r h => by rw [← e, Nat.testBit_or, Nat.testBit_or, h]; rfl
    have hbx : ∀ r, b.testBit r = true → x.testBit r = true := fun r h => by rw [← e, Nat.testBit_or, Nat.testBit_or, h, Bool.or_true]; rfl
    have go : ∀ n r, (rbeh m (riter m i n) b).testBit r = true → x.testBit r = true := by
      intro n
      induction n with
      | zero =>
        intro r h
        have h' : (rbeh m 1 b).testBit r = true := h
        rw [rbeh_comm, rbeh_one hb2] at h'
        exact hbx r h'
      | succ n ih =>
        intro r h
        have h' : (rbeh m (riter m i n ||| rbeh m (riter m i n) i) b).testBit r = true := h
        rw [rbeh_comm, rbeh_or, Nat.testBit_or, Bool.or_eq_true, rbeh_comm m b, rbeh_comm m b] at h'
        rcases h' with h' | h'
        · exact ih r h'
        · rw [rbeh_comm m (riter m i n) i, rbeh_assoc] at h'
          obtain ⟨hr, p, q, h1, h2, h3, h4, h5⟩ := (testBit_rbeh _ _ _ _).1 h'
          exact hax r ((testBit_rbeh _ _ _ _).2 ⟨hr, p, q, h1, h2, h3, ih q h4, h5⟩)
    obtain ⟨d, hd⟩ := le_or.2 (go m)
    refine ⟨.int x, rst_good hx2, ?_⟩
    rw [show (.int (rstar m ((i : Int)).toNat : Nat) : Wo) = .int (rstar m i : Nat) by rw [Int.toNat_natCast], beh_rst, tog_rst, Wo.int.injEq, Int.natCast_inj]
    refine Nat.eq_of_testBit_eq fun r => ?_
    rw [Nat.testBit_or]
    cases e2 : (rbeh m (rstar m i) b).testBit r with
    | true => rw [go m r e2]; rfl
    | false => rw [Bool.false_or]
/-- an ordered structure with a least star -/
structure SR (α : Type) where
  add : α → α → α
  mul : α → α → α
  zero : α
  one : α
  star : α → Option α
  add_assoc : ∀ a b c, add (add a b) c = add a (add b c)
  add_comm : ∀ a b, add a b = add b a
  add_zero : ∀ a, add a zero = a
  mul_assoc : ∀ a b c, mul (mul a b) c = mul a (mul b c)
  mul_comm : ∀ a b, mul a b = mul b a
  mul_one : ∀ a, mul a one = a
  mul_zero : ∀ a, mul a zero = zero
  dist : ∀ a b c, mul a (add b c) = add (mul a b) (mul a c)
  anti : ∀ a b c d, add a c = b → add b d = a → a = b
  star_eq : ∀ a s, star a = some s → s = add one (mul a s)
  star_ind : ∀ a s x b c, star a = some s → add (add (mul a x) b) c = x → ∃ d, add (mul s b) d = x
/-- the worths of a kind -/
abbrev Wk (k : Kd) := { a : Wo // Good k a }
def kSR (k : Kd) (hk : KOk k) : SR (Wk k) where
  add a b := ⟨tog k a.1 b.1, good_tog a.2 b.2⟩
  mul a b := ⟨beh k a.1 b.1, good_beh a.2 b.2⟩
  zero := ⟨noneW k, good_none k⟩
  one := ⟨restW k, good_rest hk⟩
  star a := (rnd k a.1).pmap (fun s hs => ⟨s, hs⟩) (fun _ hs => good_rnd hk a.2 hs)
  add_assoc a b c := Subtype.ext (tog_assoc a.2 b.2 c.2)
  add_comm a b := Subtype.ext (tog_comm a.2 b.2)
  add_zero a := Subtype.ext (tog_none a.2)
  mul_assoc a b c := Subtype.ext (beh_assoc a.2 b.2 c.2)
  mul_comm a b := Subtype.ext (beh_comm a.2 b.2)
  mul_one a := Subtype.ext (beh_rest a.2)
  mul_zero a := Subtype.ext (beh_none a.2)
  dist a b c := Subtype.ext (beh_dist a.2 b.2 c.2)
  anti a b c d e1 e2 := Subtype.ext (Ws.anti a.2 b.2 c.2 d.2 (congrArg Subtype.val e1) (congrArg Subtype.val e2))
  star_eq a s h := by
    obtain ⟨s', hs, h1, rfl⟩ := Option.pmap_eq_some_iff.1 h
    exact Subtype.ext (rnd_eq hk a.2 h1)
  star_ind a s x b c h e := by
    obtain ⟨s', hs, h1, rfl⟩ := Option.pmap_eq_some_iff.1 h
    obtain ⟨d, gd, e2⟩ := rnd_ind hk a.2 x.2 b.2 c.2 h1 (congrArg Subtype.val e)
    exact ⟨⟨d, gd⟩, Subtype.ext e2⟩
theorem kstar {k : Kd} {hk : KOk k} {a s : Wk k} : (kSR k hk).star a = some s ↔ rnd k a.1 = some s.1 := by
  show (rnd k a.1).pmap _ _ = some s ↔ _
  rw [Option.pmap_eq_some_iff]
  constructor
  · rintro ⟨s', hs, h1, rfl⟩; exact h1
  · intro h; exact ⟨s.1, s.2, h, rfl⟩
namespace SR
variable {α : Type} (S : SR α)
def le (a b : α) : Prop := ∃ c, S.add a c = b
variable {S}
theorem zero_add (a : α) : S.add S.zero a = a := by rw [S.add_comm, S.add_zero]
theorem one_mul (a : α) : S.mul S.one a = a := by rw [S.mul_comm, S.mul_one]
theorem zero_mul (a : α) : S.mul S.zero a = S.zero := by rw [S.mul_comm, S.mul_zero]
theorem dist_r (a b c : α) : S.mul (S.add a b) c = S.add (S.mul a c) (S.mul b c) := by rw [S.mul_comm, S.dist, S.mul_comm c, S.mul_comm c]
theorem add_left (a b c : α) : S.add a (S.add b c) = S.add b (S.add a c) := by rw [← S.add_assoc, S.add_comm a, S.add_assoc]
theorem add4 (a b c d : α) : S.add (S.add a b) (S.add c d) = S.add (S.add a c) (S.add b d) := by
  rw [S.add_assoc, S.add_assoc, add_left b]
theorem le_refl (a : α) : S.le a a := ⟨S.zero, S.add_zero a⟩
theorem le_of_eq {a b : α} (h : a = b) : S.le a b := by rw [h]; exact le_refl b
theorem le_trans {a b c : α} (h1 : S.le a b) (h2 : S.le b c) : S.le a c := by
  obtain ⟨x, rfl⟩ := h1; obtain ⟨y, rfl⟩ := h2; exact ⟨S.add x y, by rw [S.add_assoc]⟩
theorem le_antisymm {a b : α} (h1 : S.le a b) (h2 : S.le b a) : a = b := by
  obtain ⟨x, e1⟩ := h1; obtain ⟨y, e2⟩ := h2; exact S.anti a b x y e1 e2
theorem zero_le (a : α) : S.le S.zero a := ⟨a, zero_add a⟩
theorem le_add_left (a b : α) : S.le a (S.add b a) := ⟨b, S.add_comm a b⟩
theorem le_add_right (a b : α) : S.le a (S.add a b) := ⟨b, rfl⟩
theorem add_le_add {a b c d : α} (h1 : S.le a b) (h2 : S.le c d) : S.le (S.add a c) (S.add b d) := by
  obtain ⟨x, rfl⟩ := h1; obtain ⟨y, rfl⟩ := h2; exact ⟨S.add x y, by rw [add4]⟩
theorem mul_le_mul_left {a b : α} (c : α) (h : S.le a b) : S.le (S.mul c a) (S.mul c b) := by
  obtain ⟨x, rfl⟩ := h; exact ⟨S.mul c x, by rw [S.dist]⟩
theorem mul_le_mul_right {a b : α} (c : α) (h : S.le a b) : S.le (S.mul a c) (S.mul b c) := by
  rw [S.mul_comm a, S.mul_comm b]; exact mul_le_mul_left c h
theorem mul_le_mul {a b c d : α} (h1 : S.le a b) (h2 : S.le c d) : S.le (S.mul a c) (S.mul b d) := le_trans (mul_le_mul_left a h2) (mul_le_mul_right d h1)
theorem star_le {a s x b : α} (h : S.star a = some s) (e : S.le (S.add (S.mul a x) b) x) : S.le (S.mul s b) x := by
  obtain ⟨c, e⟩ := e; exact S.star_ind a s x b c h e
theorem star_comm {a s : α} (h : S.star a = some s) : s = S.add S.one (S.mul s a) := by
  conv => lhs; rw [S.star_eq a s h, S.mul_comm]
/-- rounds of two together -/
theorem star_add {a b s t u : α} (hs : S.star a = some s) (ht : S.star (S.add a b) = some t) (hu : S.star (S.mul s b) = some u) : t = S.mul u s := by
  obtain ⟨y, hy⟩ : ∃ y, y = S.add S.one (S.mul b (S.mul u s)) := ⟨_, rfl⟩
  have e : S.mul u s = S.mul s y := by
    have h1 : S.mul u s = S.mul (S.add S.one (S.mul (S.mul s b) u)) s := congrArg (fun z => S.mul z s) (S.star_eq _ _ hu)
    rw [h1, dist_r, one_mul, hy, S.dist, S.mul_one, S.mul_assoc, S.mul_assoc]
  have e3 : S.mul s y = S.add y (S.mul a (S.mul s y)) := by
    have h1 : S.mul s y = S.mul (S.add S.one (S.mul a s)) y := congrArg (fun z => S.mul z y) (S.star_eq _ _ hs)
    exact h1.trans (by rw [dist_r, one_mul, S.mul_assoc])
  have e2 : S.add (S.mul (S.add a b) (S.mul u s)) S.one = S.mul u s := by
    have h1 : S.mul u s = S.add y (S.mul a (S.mul u s)) := by rw [e, ← e3]
    conv => rhs; rw [h1, hy]
    rw [dist_r, S.add_comm S.one, S.add_assoc, S.add_assoc, S.add_comm S.one, add_left]
  apply le_antisymm
  · have := star_le (b := S.one) (x := S.mul u s) ht (le_of_eq e2)
    rwa [S.mul_one] at this
  · refine star_le hu ?_
    rw [S.mul_assoc]
    have h1 : S.add (S.mul s (S.mul b t)) s = S.mul s (S.add (S.mul b t) S.one) := by rw [S.dist, S.mul_one]
    rw [h1]
    refine star_le hs (le_of_eq ?_)
    have h2 := S.star_eq _ _ ht
    conv => rhs; rw [h2]
    rw [dist_r, S.add_comm S.one, S.add_assoc]
end SR
/-! ### M5: sizes of worths (plain Lean) -/
def bitK : Kd → Bool
  | .cnt => true | .lik => true | .cha => true | _ => false
theorem fits_of {k : Kd} {a b : Wo} (h : bitK k = true → sz a + sz b ≤ 8000) : Fits k a b := by
  cases k <;> first | trivial | skip
  · have := h rfl; show sz a + sz b ≤ 900000; omega
  · exact h rfl
  · exact h rfl
theorem fit1_of {k : Kd} {a : Wo} (h : bitK k = true → sz a ≤ 8000) : Fit1 k a := by cases k <;> first | trivial | exact h rfl
theorem sz_pos' (a : Wo) : 1 ≤ sz a := by cases a <;> simp only [sz] <;> omega
theorem lt_num (r : Rat) : r.num.natAbs < 2 ^ sz (.rat r) := Nat.lt_of_lt_of_le Nat.lt_log2_self (Nat.pow_le_pow_right (by decide) (by simp only [sz]; omega))
theorem lt_den (r : Rat) : r.den < 2 ^ sz (.rat r) := Nat.lt_of_lt_of_le Nat.lt_log2_self (Nat.pow_le_pow_right (by decide) (by simp only [sz]; omega))
theorem lt_int (i : Int) : i.natAbs < 2 ^ sz (.int i) := Nat.lt_log2_self
theorem mul_lt_pow {a b n m : Nat} (ha : a < 2 ^ n) (hb : b < 2 ^ m) : a * b < 2 ^ (n + m) := by
  rw [Nat.pow_add]
  by_cases h : b = 0
  · subst h; rw [Nat.mul_zero]; exact Nat.mul_pos (Nat.two_pow_pos _) (Nat.two_pow_pos _)
  · exact Nat.lt_of_lt_of_le (Nat.mul_lt_mul_of_pos_right ha (by omega)) (Nat.mul_le_mul_left _ (by omega))
theorem pow2_le {n m : Nat} (h : n ≤ m) : 2 ^ n ≤ 2 ^ m := Nat.pow_le_pow_right (by decide) h
theorem int_lt_pow {i : Int} {n : Nat} (h : 0 ≤ i) : i < 2 ^ n ↔ i.natAbs < 2 ^ n := by
  have e : ((2 ^ n : Nat) : Int) = (2 : Int) ^ n := Int.natCast_pow 2 n
  constructor
  · intro z; have : (i.natAbs : Int) < ((2 ^ n : Nat) : Int) := by rw [e]; omega
    omega
  · intro z; rw [← e]; omega
theorem sz_tog {k : Kd} {a b : Wo} (hb : bitK k = true) (ga : Good k a) (gb : Good k b) : sz (tog k a b) ≤ sz a + sz b + 1 := by
  have pa := sz_pos' a
  have pb := sz_pos' b
  cases k <;> first | cases hb | skip
  · obtain ⟨i, rfl, hi⟩ := good_cnt ga
    obtain ⟨j, rfl, hj⟩ := good_cnt gb
    rw [tog_cnt]
    have h1 := lt_int i
    have h2 := lt_int j
    have h3 := pow2_le (show sz (.int i) ≤ sz (.int i) + sz (.int j) by omega)
    have h4 := pow2_le (show sz (.int j) ≤ sz (.int i) + sz (.int j) by omega)
    have h5 : 2 ^ (sz (.int i) + sz (.int j) + 1) = 2 ^ (sz (.int i) + sz (.int j)) * 2 := Nat.pow_succ ..
    refine sz_int ?_ (by omega)
    unfold cntT
    split <;> omega
  · obtain ⟨r, rfl, hr⟩ := good_lik ga
    obtain ⟨s, rfl, hs⟩ := good_lik gb
    rw [tog_lik]; unfold likT; split <;> omega
  · obtain ⟨r, rfl, hr⟩ := good_cha ga
    obtain ⟨s, rfl, hs⟩ := good_cha gb
    rw [tog_cha, ← rat_add]
    have n0 := Rat.num_nonneg.2 hr
    have n1 := Rat.num_nonneg.2 hs
    have d0 := den_pos r
    have d1 := den_pos s
    have a1 := mul_lt_pow (lt_num r) (lt_den s)
    have a2 := mul_lt_pow (lt_num s) (lt_den r)
    have a3 := mul_lt_pow (lt_den r) (lt_den s)
    rw [Nat.add_comm] at a2
    have h5 : 2 ^ (sz (.rat r) + sz (.rat s) + 1) = 2 ^ (sz (.rat r) + sz (.rat s)) * 2 := Nat.pow_succ ..
    have m1 : 0 ≤ r.num * (s.den : Int) := Int.mul_nonneg n0 (by omega)
    have m2 : 0 ≤ s.num * (r.den : Int) := Int.mul_nonneg n1 (by omega)
    have m3 : 0 < (r.den : Int) * s.den := Int.mul_pos d0 d1
    refine sz_dvi (by omega) m3 ((int_lt_pow (by omega)).2 ?_) ((int_lt_pow (by omega)).2 ?_) (by omega)
    · have e1 : (r.num * (s.den : Int)).natAbs = r.num.natAbs * s.den := by rw [Int.natAbs_mul, Int.natAbs_natCast]
      have e2 : (s.num * (r.den : Int)).natAbs = s.num.natAbs * r.den := by rw [Int.natAbs_mul, Int.natAbs_natCast]
      omega
    · have e1 : ((r.den : Int) * s.den).natAbs = r.den * s.den := by rw [Int.natAbs_mul, Int.natAbs_natCast, Int.natAbs_natCast]
      omega
theorem sz_mulR {r s : Rat} (hr : 0 ≤ r) (hs : 0 ≤ s) : sz (.rat (r * s)) ≤ sz (.rat r) + sz (.rat s) := by
  have pa := sz_pos' (.rat r)
  have pb := sz_pos' (.rat s)
  rw [← rat_mul]
  have n0 := Rat.num_nonneg.2 hr
  have n1 := Rat.num_nonneg.2 hs
  have d0 := den_pos r
  have d1 := den_pos s
  have a1 := mul_lt_pow (lt_num r) (lt_num s)
  have a3 := mul_lt_pow (lt_den r) (lt_den s)
  have m1 : 0 ≤ r.num * s.num := Int.mul_nonneg n0 n1
  have m3 : 0 < (r.den : Int) * s.den := Int.mul_pos d0 d1
  refine sz_dvi m1 m3 ((int_lt_pow m1).2 ?_) ((int_lt_pow (by omega)).2 ?_) (by omega)
  · rw [Int.natAbs_mul]; exact a1
  · rw [Int.natAbs_mul, Int.natAbs_natCast, Int.natAbs_natCast]; exact a3
theorem sz_beh {k : Kd} {a b : Wo} (hb : bitK k = true) (ga : Good k a) (gb : Good k b) : sz (beh k a b) ≤ sz a + sz b := by
  have pa := sz_pos' a
  have pb := sz_pos' b
  cases k <;> first | cases hb | skip
  · obtain ⟨i, rfl, hi⟩ := good_cnt ga
    obtain ⟨j, rfl, hj⟩ := good_cnt gb
    rw [beh_cnt]
    have h2 : (1 : Nat) < 2 ^ (sz (.int i) + sz (.int j)) := Nat.one_lt_two_pow (by omega)
    refine sz_int ?_ (by omega)
    unfold cntB
    split
    · exact Nat.two_pow_pos _
    split
    · exact h2
    · rw [Int.natAbs_mul]; exact mul_lt_pow (lt_int i) (lt_int j)
  · obtain ⟨r, rfl, hr⟩ := good_lik ga
    obtain ⟨s, rfl, hs⟩ := good_lik gb
    exact sz_mulR hr.1 hs.1
  · obtain ⟨r, rfl, hr⟩ := good_cha ga
    obtain ⟨s, rfl, hs⟩ := good_cha gb
    exact sz_mulR hr hs
theorem sz_rnd {k : Kd} {a s : Wo} (hb : bitK k = true) (ga : Good k a) (h : rnd k a = some s) : sz s ≤ sz a := by
  have pa := sz_pos' a
  cases k <;> first | cases hb | skip
  · obtain ⟨i, rfl, hi⟩ := good_cnt ga
    cases h
    show sz (.int (if i = 0 then 1 else -1)) ≤ _
    have : sz (.int (if i = 0 then 1 else -1)) = 1 := by split <;> decide
    omega
  · cases h
    have : sz (restW .lik) = 1 := by decide
    have e : sz (.rat 1) = 1 := by decide
    omega
  · obtain ⟨r, rfl, hr⟩ := good_cha ga
    simp only [rnd] at h
    split at h
    · rename_i h1
      cases h
      rw [← rat_star r h1]
      have h2 := (rat_lt_one r).1 h1
      have n0 := Rat.num_nonneg.2 hr
      have d0 := den_pos r
      have l1 := lt_den r
      refine sz_dvi (by omega) (by omega) ((int_lt_pow (by omega)).2 ?_) ((int_lt_pow (by omega)).2 ?_) pa
      · rw [Int.natAbs_natCast]; exact l1
      · omega
    · cases h
theorem sz_rest (k : Kd) : sz (restW k) ≤ 31 := by cases k <;> first | decide | (show sz (.int _) ≤ 31; decide)
theorem sz_none (k : Kd) : sz (noneW k) ≤ 1 := by cases k <;> first | decide | (show sz (.int _) ≤ 1; decide)
/-! ### M6: drawn nets -/
/-- a road -/
structure Rw where
  s : Nat
  t : Nat
  w : Wo
/-- roads of the kind between n places -/
def RsOk (k : Kd) (n : Nat) (rs : List Rw) : Prop := ∀ r ∈ rs, Good k r.w ∧ r.s < n ∧ r.t < n
def wq : Wo → Rat
  | .rat r => r
  | _ => 0
/-- the shares of the roads from s, put together -/
def sumF (s : Nat) (a : Rat) (r : Rw) : Rat := if r.s = s then a + wq r.w else a
def sumW (s : Nat) (rs : List Rw) : Rat := rs.foldl (sumF s) 0
def thinOne (rs : List Rw) (r : Rw) : Rw := ⟨r.s, r.t, .rat (if 1 < sumW r.s rs then wq r.w / sumW r.s rs else wq r.w)⟩
def thin (rs : List Rw) : List Rw := rs.map (thinOne rs)
def drawR (ns : List Int) (o : Nat) (k : Kd) (n : Nat) (j : Nat) : Rw :=
  ⟨(cell ns (o + 1 + j) % n).toNat, (cell ns (o + 1 + j) / n % n).toNat, lawW k (cell ns (o + 1 + j) / (n * n))⟩
def drawN (ns : List Int) (o most : Nat) : Nat := (1 + cell ns o % most).toNat
def drawC (ns : List Int) (o most extra : Nat) : Nat := (cell ns o / most % (extra + 1)).toNat
def drawL0 (ns : List Int) (o : Nat) (k : Kd) (most extra : Nat) : List Rw := (List.range (drawC ns o most extra)).map (drawR ns o k (drawN ns o most))
def drawL (ns : List Int) (o : Nat) (k : Kd) (most extra : Nat) : List Rw := if k = .cha then thin (drawL0 ns o k most extra) else drawL0 ns o k most extra
/-- bits of a drawn road -/
def szB : Kd → Nat
  | .lik => 4 | .cnt => 100 | .cha => 24 | _ => 0
/-- what the laws rest on -/
structure NetD (k : Kd) (most extra n : Nat) (rs : List Rw) : Prop where
  n1 : 1 ≤ n
  nm : n ≤ most
  len : rs.length ≤ extra
  ok : RsOk k n rs
  sz : bitK k = true → ∀ r ∈ rs, sz r.w ≤ szB k
  cha : k = .cha → ∃ D : Nat → Nat, (∀ i, 1 ≤ D i ∧ D i < 2 ^ 23) ∧ (∀ r ∈ rs, ∃ a : Nat, wq r.w * (D r.s : Rat) = (a : Rat)) ∧ ∀ i, sumW i rs ≤ 1
theorem sumF_add (s : Nat) : ∀ (rs : List Rw) (a : Rat), rs.foldl (sumF s) a = a + sumW s rs
  | [], a => (Rat.add_zero a).symm
  | r :: rs, a => by
    show rs.foldl (sumF s) (sumF s a r) = a + rs.foldl (sumF s) (sumF s 0 r)
    rw [sumF_add s rs, sumF_add s rs]
    unfold sumF
    split
    · grind
    · grind
theorem sumW_cons (s : Nat) (r : Rw) (rs : List Rw) : sumW s (r :: rs) = (if r.s = s then wq r.w else 0) + sumW s rs := by
  show rs.foldl (sumF s) (sumF s 0 r) = _
  rw [sumF_add]
  unfold sumF
  split
  · grind
  · rfl
theorem wq_nonneg {a : Wo} (h : Good .cha a) : 0 ≤ wq a := by
  obtain ⟨r, rfl, h⟩ := good_cha h; exact h
theorem wq_eq {a : Wo} (h : Good .cha a) : a = .rat (wq a) := by
  obtain ⟨r, rfl, h⟩ := good_cha h; rfl
/-- drawn shares are of 27720 parts, and at most 8 -/
def P27 (q : Rat) : Prop := ∃ a : Nat, q * 27720 = (a : Rat) ∧ a ≤ 8 * 27720
theorem p27_div {t b : Int} (h0 : 0 ≤ t) (h8 : t ≤ 8) (b1 : 1 ≤ b) (b12 : b ≤ 12) : P27 (Rat.divInt t b) := by
  obtain ⟨n, rfl⟩ : ∃ n : Nat, t = n := ⟨t.toNat, by omega⟩
  have go : ∀ q : Nat, b * q = 27720 → P27 (Rat.divInt n b) := fun q hq => by
    refine ⟨n * q, ?_, ?_⟩
    · rw [Rat.divInt_eq_div]
      have hb : (b : Rat) ≠ 0 := by
        intro z
        have : b = 0 := by exact_mod_cast z
        omega
      have e : (b : Rat) * (q : Rat) = 27720 := by
        have := congrArg (fun z : Int => (z : Rat)) hq
        simpa only [Rat.intCast_mul, Rat.intCast_natCast, Rat.intCast_ofNat] using this
      rw [← e]
      have e2 : ((n * q : Nat) : Rat) = (n : Rat) * (q : Rat) := by norm_cast
      rw [e2, Rat.div_def]
      have e3 : ((n : Int) : Rat) = (n : Rat) := rfl
      rw [e3]
      have : (b : Rat)⁻¹ * b = 1 := Rat.inv_mul_cancel _ hb
      grind
    · have hn : n ≤ 8 := by omega
      have hq2 : q ≤ 27720 := by
        have : (1 : Int) * q ≤ b * q := Int.mul_le_mul_of_nonneg_right b1 (by omega)
        omega
      exact Nat.mul_le_mul hn hq2
  have hb : b = 1 ∨ b = 2 ∨ b = 3 ∨ b = 4 ∨ b = 5 ∨ b = 6 ∨ b = 7 ∨ b = 8 ∨ b = 9 ∨ b = 10 ∨ b = 11 ∨ b = 12 := by omega
  rcases hb with rfl | rfl | rfl | rfl | rfl | rfl | rfl | rfl | rfl | rfl | rfl | rfl
  · exact go 27720 (by decide)
  · exact go 13860 (by decide)
  · exact go 9240 (by decide)
  · exact go 6930 (by decide)
  · exact go 5544 (by decide)
  · exact go 4620 (by decide)
  · exact go 3960 (by decide)
  · exact go 3465 (by decide)
  · exact go 3080 (by decide)
  · exact go 2772 (by decide)
  · exact go 2520 (by decide)
  · exact go 2310 (by decide)
theorem p27_law (c : Int) : P27 (wq (lawW .cha c)) := by
  unfold lawW
  split
  · exact ⟨0, by show (0 : Rat) * 27720 = ((0 : Nat) : Rat); rw [Rat.zero_mul]; rfl, by decide⟩
  · split
    · exact ⟨27720, by show (1 : Rat) * 27720 = ((27720 : Nat) : Rat); rw [Rat.one_mul]; rfl, by decide⟩
    · show P27 (Rat.divInt (c / 6 % 9) (1 + c / 6 / 9 % 12))
      have h1 := Int.emod_nonneg (c / 6) (b := 9) (by omega)
      have h2 := Int.emod_lt_of_pos (c / 6) (b := 9) (by omega)
      have h3 := Int.emod_nonneg (c / 6 / 9) (b := 12) (by omega)
      have h4 := Int.emod_lt_of_pos (c / 6 / 9) (b := 12) (by omega)
      exact p27_div h1 (by omega) (by omega) (by omega)
theorem sum_p27 (s : Nat) : ∀ (rs : List Rw), (∀ r ∈ rs, P27 (wq r.w)) → ∃ a : Nat, sumW s rs * 27720 = (a : Rat) ∧ a ≤ rs.length * (8 * 27720)
  | [], _ => ⟨0, by show (0 : Rat) * 27720 = ((0 : Nat) : Rat); rw [Rat.zero_mul]; rfl, by decide⟩
  | r :: rs, h => by
    obtain ⟨a, ha, la⟩ := sum_p27 s rs fun x hx => h x (List.mem_cons_of_mem _ hx)
    obtain ⟨b, hb, lb⟩ := h r List.mem_cons_self
    rw [sumW_cons, List.length_cons]
    split
    · refine ⟨b + a, ?_, by omega⟩
      have e : ((b + a : Nat) : Rat) = (b : Rat) + (a : Rat) := by norm_cast
      rw [e, Rat.add_mul, ha, hb]
    · exact ⟨a, by rw [Rat.zero_add]; exact ha, Nat.le_trans la (Nat.mul_le_mul_right _ (Nat.le_succ _))⟩
theorem sum_thin (W : Rat) (f : Rw → Rw) (s : Nat) : ∀ (rs : List Rw), (∀ r ∈ rs, (f r).s = r.s ∧ (r.s = s → wq (f r).w = wq r.w / W)) → sumW s (rs.map f) = sumW s rs / W
  | [], _ => by show (0 : Rat) = 0 / W; rw [Rat.div_def, Rat.zero_mul]
  | r :: rs, h => by
    have ih := sum_thin W f s rs fun x hx => h x (List.mem_cons_of_mem _ hx)
    obtain ⟨h1, h2⟩ := h r List.mem_cons_self
    rw [List.map_cons, sumW_cons, sumW_cons, ih, h1]
    by_cases e : r.s = s
    · rw [if_pos e, if_pos e, h2 e, Rat.div_def, Rat.div_def, Rat.div_def, Rat.add_mul]
    · rw [if_neg e, if_neg e, Rat.zero_add, Rat.zero_add]
theorem nat_nonneg (a : Nat) : (0 : Rat) ≤ (a : Rat) := by exact_mod_cast Nat.zero_le a
/-- a share of D parts, at most 1, has at most as many bits as D -/
theorem sz_parts {q : Rat} {D a n : Nat} (hD : 1 ≤ D) (hn : D < 2 ^ n) (h : q * (D : Rat) = (a : Rat)) (h1 : q ≤ 1) (h0 : 0 ≤ q) : sz (.rat q) ≤ n := by
  have hD0 : (D : Rat) ≠ 0 := by
    intro z
    have : D = 0 := by exact_mod_cast z
    omega
  have e : q = Rat.divInt (a : Int) (D : Int) := by
    rw [Rat.divInt_eq_div, Rat.div_def]
    have e1 : ((D : Int) : Rat) = (D : Rat) := rfl
    have e2 : ((a : Int) : Rat) = (a : Rat) := rfl
    have := Rat.mul_inv_cancel _ hD0
    rw [e1, e2]
    grind
  have hden : q.den ≤ D := by
    have e3 := low_den (a : Int) (D : Int) (by omega)
    rw [← e] at e3
    have h4 := gcd_pos' (a : Int) (D : Int) (by omega)
    have : (D : Int) / (Int.gcd a D : Int) ≤ D := Int.ediv_le_self _ (by omega)
    omega
  have hnum := (rat_le_one q).1 h1
  have hnum0 := Rat.num_nonneg.2 h0
  have dp := q.den_pos
  have hl : ∀ m : Nat, m ≤ D → m.log2 + 1 ≤ n := fun m hm => by
    by_cases hm0 : m = 0
    · subst hm0
      have : n ≠ 0 := by rintro rfl; simp at hn; omega
      simp; omega
    · exact (Nat.log2_lt hm0).2 (Nat.lt_of_le_of_lt hm hn)
  have a1 := hl q.num.natAbs (by omega)
  have a2 := hl q.den hden
  simp only [sz]; omega
theorem thin_ok {rs : List Rw} {n : Nat} (h : RsOk .cha n rs) (hp : ∀ r ∈ rs, P27 (wq r.w)) (hl : rs.length ≤ 24) :
    RsOk .cha n (thin rs) ∧ (∃ D : Nat → Nat, (∀ i, 1 ≤ D i ∧ D i < 2 ^ 23) ∧ (∀ r ∈ thin rs, ∃ a : Nat, wq r.w * (D r.s : Rat) = (a : Rat)) ∧ ∀ i, sumW i (thin rs) ≤ 1) := by
  obtain ⟨T, hT⟩ : ∃ T : Nat → Nat, ∀ i, sumW i rs * 27720 = (T i : Rat) ∧ T i ≤ rs.length * (8 * 27720) := ⟨fun i => (sum_p27 i rs hp).choose, fun i => (sum_p27 i rs hp).choose_spec⟩
  have h27 : (27720 : Rat) = ((27720 : Nat) : Rat) := rfl
  have hlt : ∀ i, 1 < sumW i rs ↔ 27720 < T i := fun i => by
    have e := (hT i).1
    constructor
    · intro h1
      have : (27720 : Rat) < (T i : Rat) := by
        rw [← e]
        have := Rat.mul_lt_mul_of_pos_right h1 (show (0 : Rat) < 27720 by decide)
        rwa [Rat.one_mul] at this
      exact_mod_cast this
    · intro h1
      refine Rat.not_le.1 fun h2 => ?_
      have h3 := Rat.mul_le_mul_of_nonneg_right h2 (show (0 : Rat) ≤ 27720 by decide)
      rw [e, Rat.one_mul, h27] at h3
      have : T i ≤ 27720 := by exact_mod_cast h3
      omega
  have pos : ∀ i, 1 < sumW i rs → sumW i rs ≠ 0 := fun i h z => by
    rw [z] at h; exact absurd h (by decide)
  refine ⟨?_, fun i => if 27720 < T i then T i else 27720, fun i => ?_, ?_, fun i => ?_⟩
  · intro r hr
    obtain ⟨r0, h0, rfl⟩ := List.mem_map.1 hr
    obtain ⟨g, h1, h2⟩ := h r0 h0
    refine ⟨?_, h1, h2⟩
    show (0 : Rat) ≤ _
    split
    · rename_i hh
      rw [Rat.div_def]
      refine Rat.mul_nonneg (wq_nonneg g) (Rat.le_of_lt (Rat.inv_pos.2 ?_))
      have : (0 : Rat) < 1 := by decide
      grind
    · exact wq_nonneg g
  · have := (hT i).2
    have h3 : rs.length * (8 * 27720) ≤ 24 * (8 * 27720) := Nat.mul_le_mul_right _ hl
    dsimp only
    split <;> omega
  · intro r hr
    obtain ⟨r0, h0, rfl⟩ := List.mem_map.1 hr
    obtain ⟨a, ha, _⟩ := hp r0 h0
    refine ⟨a, ?_⟩
    show (if 1 < sumW r0.s rs then wq r0.w / sumW r0.s rs else wq r0.w) * (((if 27720 < T r0.s then T r0.s else 27720 : Nat)) : Rat) = (a : Rat)
    by_cases hh : 1 < sumW r0.s rs
    · rw [if_pos hh, if_pos ((hlt _).1 hh), ← (hT r0.s).1, Rat.div_def]
      have := Rat.inv_mul_cancel _ (pos _ hh)
      grind
    · rw [if_neg hh, if_neg fun z => hh ((hlt _).2 z)]
      exact ha
  · by_cases hh : 1 < sumW i rs
    · have := sum_thin (sumW i rs) (thinOne rs) i rs fun r _ => ⟨rfl, fun e => by
        show (if 1 < sumW r.s rs then wq r.w / sumW r.s rs else wq r.w) = _
        rw [e, if_pos hh]⟩
      show sumW i (rs.map (thinOne rs)) ≤ 1
      rw [this, Rat.div_def, Rat.mul_inv_cancel _ (pos _ hh)]
      exact Rat.le_refl
    · have := sum_thin 1 (thinOne rs) i rs fun r _ => ⟨rfl, fun e => by
        show (if 1 < sumW r.s rs then wq r.w / sumW r.s rs else wq r.w) = _
        rw [e, if_neg hh, Rat.div_def]; grind⟩
      show sumW i (rs.map (thinOne rs)) ≤ 1
      rw [this]
      have e1 : sumW i rs / 1 = sumW i rs := by rw [Rat.div_def]; grind
      rw [e1]
      exact Rat.not_lt.1 hh
theorem sumF_le (s : Nat) : ∀ (rs : List Rw), (∀ r ∈ rs, Good .cha r.w) → 0 ≤ sumW s rs ∧ ∀ r ∈ rs, r.s = s → wq r.w ≤ sumW s rs
  | [], _ => ⟨Rat.le_refl, fun r hr => absurd hr (by simp)⟩
  | x :: rs, h => by
    obtain ⟨h0, h1⟩ := sumF_le s rs fun r hr => h r (List.mem_cons_of_mem _ hr)
    have g := wq_nonneg (h x List.mem_cons_self)
    rw [sumW_cons]
    have hx : (0 : Rat) ≤ (if x.s = s then wq x.w else 0) := by split; exact g; exact Rat.le_refl
    refine ⟨Rat.add_nonneg hx h0, fun r hr e => ?_⟩
    rcases List.mem_cons.1 hr with rfl | hr
    · rw [if_pos e]; grind
    · have := h1 r hr e
      grind
theorem cha_sz {rs : List Rw} {n : Nat} (h : RsOk .cha n rs) {D : Nat → Nat} (hD : ∀ i, 1 ≤ D i ∧ D i < 2 ^ 23) (ha : ∀ r ∈ rs, ∃ a : Nat, wq r.w * (D r.s : Rat) = (a : Rat)) (h1 : ∀ i, sumW i rs ≤ 1) : ∀ r ∈ rs, sz r.w ≤ 24 := fun r hr => by
  obtain ⟨a, e⟩ := ha r hr
  obtain ⟨_, hs⟩ := sumF_le r.s rs fun x hx => (h x hx).1
  have g := (h r hr).1
  have := sz_parts (hD r.s).1 (hD r.s).2 e (Rat.le_trans (hs r hr rfl) (h1 r.s)) (wq_nonneg g)
  rw [wq_eq g]
  omega
theorem lik_sz (c : Int) : sz (lawW .lik c) ≤ 4 := by
  unfold lawW
  split
  · decide
  · split
    · decide
    · show sz (.rat (Rat.divInt (c / 6 % (1 + c / 6 / 7 % 12 + 1)) (1 + c / 6 / 7 % 12))) ≤ 4
      have hb0 : 0 ≤ c / 6 / 7 % 12 := Int.emod_nonneg _ (by decide)
      have hb1 : c / 6 / 7 % 12 < 12 := Int.emod_lt_of_pos _ (by decide)
      have h1 := Int.emod_nonneg (c / 6) (b := 1 + c / 6 / 7 % 12 + 1) (by omega)
      have h2 := Int.emod_lt_of_pos (c / 6) (b := 1 + c / 6 / 7 % 12 + 1) (by omega)
      have h16 : (2 : Int) ^ 4 = 16 := by decide
      exact Nat.le_trans (sz_dvi (n := 4) h1 (by omega) (by omega) (by omega) (by decide)) (by decide)
theorem netD_draw (ns : List Int) (o : Nat) {k : Kd} (hk : KOk k) {most extra : Nat} (hm : 1 ≤ most) (hx : k = .cha → extra ≤ 24) : NetD k most extra (drawN ns o most) (drawL ns o k most extra) := by
  have n0 : 0 ≤ cell ns o % (most : Int) := Int.emod_nonneg _ (by omega)
  have n1 : cell ns o % (most : Int) < most := Int.emod_lt_of_pos _ (by omega)
  have hn : 1 ≤ drawN ns o most ∧ drawN ns o most ≤ most := by unfold drawN; omega
  have c0 : 0 ≤ cell ns o / (most : Int) % ((extra : Int) + 1) := Int.emod_nonneg _ (by omega)
  have c1 : cell ns o / (most : Int) % ((extra : Int) + 1) < (extra : Int) + 1 := Int.emod_lt_of_pos _ (by omega)
  have hl0 : (drawL0 ns o k most extra).length ≤ extra := by
    unfold drawL0 drawC; rw [List.length_map, List.length_range]; omega
  have ok0 : RsOk k (drawN ns o most) (drawL0 ns o k most extra) := by
    intro r hr
    obtain ⟨j, _, rfl⟩ := List.mem_map.1 hr
    generalize drawN ns o most = n at hn
    have a0 := Int.emod_nonneg (cell ns (o + 1 + j)) (b := (n : Int)) (by omega)
    have a1 := Int.emod_lt_of_pos (cell ns (o + 1 + j)) (b := (n : Int)) (by omega)
    have b0 := Int.emod_nonneg (cell ns (o + 1 + j) / n) (b := (n : Int)) (by omega)
    have b1 := Int.emod_lt_of_pos (cell ns (o + 1 + j) / n) (b := (n : Int)) (by omega)
    refine ⟨good_law hk _, ?_, ?_⟩
    · show (cell ns (o + 1 + j) % (n : Int)).toNat < n; omega
    · show (cell ns (o + 1 + j) / (n : Int) % (n : Int)).toNat < n; omega
  by_cases hc : k = .cha
  · subst hc
    have hp : ∀ r ∈ drawL0 ns o .cha most extra, P27 (wq r.w) := by
      intro r hr
      obtain ⟨j, _, rfl⟩ := List.mem_map.1 hr
      exact p27_law _
    have hll := hx rfl
    obtain ⟨ok1, D, hD, ha, h1⟩ := thin_ok ok0 hp (by omega)
    have eL : drawL ns o .cha most extra = thin (drawL0 ns o .cha most extra) := by unfold drawL; rw [if_pos rfl]
    rw [eL]
    exact ⟨hn.1, hn.2, by unfold thin; rw [List.length_map]; exact hl0, ok1, fun _ => cha_sz ok1 hD ha h1, fun _ => ⟨D, hD, ha, h1⟩⟩
  · have eL : drawL ns o k most extra = drawL0 ns o k most extra := by unfold drawL; rw [if_neg hc]
    rw [eL]
    refine ⟨hn.1, hn.2, hl0, ok0, fun hb r hr => ?_, fun h => absurd h hc⟩
    obtain ⟨j, _, rfl⟩ := List.mem_map.1 hr
    cases k with
    | lik => exact lik_sz _
    | cnt => exact sz_law hk _
    | cha => exact absurd rfl hc
    | _ => cases hb
/-! ### M7: sums; ways by steps -/
namespace SR
variable {α : Type} {S : SR α} {β γ : Type}
/-- a sum over a list -/
def sig (S : SR α) : List β → (β → α) → α
  | [], _ => S.zero
  | x :: l, f => S.add (f x) (sig S l f)
theorem sig_congr {l : List β} {f g : β → α} (h : ∀ x ∈ l, f x = g x) : S.sig l f = S.sig l g := by
  induction l with
  | nil => rfl
  | cons x l ih =>
    show S.add (f x) _ = S.add (g x) _
    rw [h x List.mem_cons_self, ih fun y hy => h y (List.mem_cons_of_mem _ hy)]
theorem sig_zero (l : List β) : S.sig l (fun _ => S.zero) = S.zero := by
  induction l with
  | nil => rfl
  | cons x l ih => show S.add S.zero _ = _; rw [ih, S.add_zero]
theorem sig_add (l : List β) (f g : β → α) : S.sig l (fun x => S.add (f x) (g x)) = S.add (S.sig l f) (S.sig l g) := by
  induction l with
  | nil => exact (S.add_zero _).symm
  | cons x l ih => show S.add (S.add (f x) (g x)) _ = S.add (S.add (f x) _) (S.add (g x) _); rw [ih, add4]
theorem sig_mul_left (l : List β) (c : α) (f : β → α) : S.sig l (fun x => S.mul c (f x)) = S.mul c (S.sig l f) := by
  induction l with
  | nil => exact (S.mul_zero c).symm
  | cons x l ih => show S.add _ _ = S.mul c (S.add _ _); rw [S.dist, ih]
theorem sig_mul_right (l : List β) (c : α) (f : β → α) : S.sig l (fun x => S.mul (f x) c) = S.mul (S.sig l f) c := by
  rw [S.mul_comm, ← sig_mul_left]
  exact sig_congr fun x _ => S.mul_comm _ _
theorem sig_swap (l : List β) (m : List γ) (f : β → γ → α) : S.sig l (fun x => S.sig m (f x)) = S.sig m (fun y => S.sig l fun x => f x y) := by
  induction l with
  | nil => exact (sig_zero m).symm
  | cons x l ih =>
    show S.add (S.sig m (f x)) _ = S.sig m fun y => S.add (f x y) _
    rw [ih, sig_add]
theorem sig_append (l m : List β) (f : β → α) : S.sig (l ++ m) f = S.add (S.sig l f) (S.sig m f) := by
  induction l with
  | nil => exact (zero_add _).symm
  | cons x l ih => show S.add (f x) (S.sig (l ++ m) f) = S.add (S.add (f x) (S.sig l f)) _; rw [ih, S.add_assoc]
theorem sig_map (l : List γ) (g : γ → β) (f : β → α) : S.sig (l.map g) f = S.sig l (fun x => f (g x)) := by
  induction l with
  | nil => rfl
  | cons x l ih => show S.add _ _ = S.add _ _; rw [ih]
theorem sig_flatMap (l : List γ) (g : γ → List β) (f : β → α) : S.sig (l.flatMap g) f = S.sig l (fun x => S.sig (g x) f) := by
  induction l with
  | nil => rfl
  | cons x l ih => rw [List.flatMap_cons, sig_append, ih]; rfl
theorem sig_filter (l : List β) (p : β → Bool) (f : β → α) : S.sig (l.filter p) f = S.sig l (fun x => if p x = true then f x else S.zero) := by
  induction l with
  | nil => rfl
  | cons x l ih =>
    rw [List.filter_cons]
    by_cases h : p x = true
    · rw [if_pos h]
      show S.add _ _ = S.add (if p x = true then f x else S.zero) _
      rw [if_pos h, ih]
    · rw [if_neg h, ih]
      show _ = S.add (if p x = true then f x else S.zero) _
      rw [if_neg h, zero_add]
/-- by a running value -/
theorem foldl_sig (l : List β) (f : β → α) : ∀ a : α, l.foldl (fun a x => S.add a (f x)) a = S.add a (S.sig l f) := by
  induction l with
  | nil => intro a; exact (S.add_zero a).symm
  | cons x l ih => intro a; show l.foldl _ (S.add a (f x)) = S.add a (S.add (f x) _); rw [ih, S.add_assoc]
/-- one summand -/
theorem sig_range_one {n j : Nat} (hj : j < n) (f : Nat → α) : S.sig (List.range n) (fun i => if i = j then f i else S.zero) = f j := by
  induction n with
  | zero => omega
  | succ n ih =>
    rw [List.range_succ, sig_append]
    show S.add _ (S.add (if n = j then f n else S.zero) S.zero) = _
    rw [S.add_zero]
    by_cases h : n = j
    · subst h
      rw [if_pos rfl]
      have : S.sig (List.range n) (fun i => if i = n then f i else S.zero) = S.zero := by
        refine (sig_congr (g := fun _ => S.zero) fun i hi => if_neg ?_).trans (sig_zero _)
        rw [List.mem_range] at hi; omega
      rw [this, zero_add]
    · rw [if_neg h, S.add_zero, ih (by omega)]
theorem sig_le {l : List β} {f g : β → α} (h : ∀ x ∈ l, S.le (f x) (g x)) : S.le (S.sig l f) (S.sig l g) := by
  induction l with
  | nil => exact le_refl _
  | cons x l ih => exact add_le_add (h x List.mem_cons_self) (ih fun y hy => h y (List.mem_cons_of_mem _ hy))
end SR
/-- a road whose worth is of a structure -/
structure Rg (α : Type) where
  s : Nat
  t : Nat
  w : α
section
variable {α : Type} (S : SR α)
/-- by one road more -/
def stepG (rs : List (Rg α)) (row : Nat → α) (j : Nat) : α := S.sig rs fun r => if r.t = j then S.mul (row r.s) r.w else S.zero
def byG (rs : List (Rg α)) (p : Nat) : Nat → Nat → α
  | 0, j => if j = p then S.one else S.zero
  | s + 1, j => stepG S rs (byG rs p s) j
variable {S}
/-- steps and more steps -/
theorem byG_add {rs : List (Rg α)} {n : Nat} (ok : ∀ r ∈ rs, r.s < n) (p a : Nat) : ∀ (b q : Nat), q < n → byG S rs p (a + b) q = S.sig (List.range n) fun k => S.mul (byG S rs p a k) (byG S rs k b q)
  | 0, q, hq => by
    have : (S.sig (List.range n) fun k => S.mul (byG S rs p a k) (byG S rs k 0 q)) = S.sig (List.range n) fun k => if k = q then byG S rs p a k else S.zero := by
      refine SR.sig_congr fun k _ => ?_
      show S.mul _ (if q = k then S.one else S.zero) = _
      by_cases h : k = q
      · rw [if_pos h, if_pos h.symm, S.mul_one]
      · rw [if_neg h, if_neg (fun z => h z.symm), S.mul_zero]
    rw [this, SR.sig_range_one hq]; rfl
  | b + 1, q, hq => by
    have e : byG S rs p (a + (b + 1)) q = S.sig rs fun r => if r.t = q then S.mul (byG S rs p (a + b) r.s) r.w else S.zero := rfl
    rw [e]
    have e2 : (S.sig rs fun r => if r.t = q then S.mul (byG S rs p (a + b) r.s) r.w else S.zero) = S.sig rs fun r => S.sig (List.range n) fun k => S.mul (byG S rs p a k) (if r.t = q then S.mul (byG S rs k b r.s) r.w else S.zero) := by
      refine SR.sig_congr fun r hr => ?_
      by_cases h : r.t = q
      · simp only [if_pos h]
        rw [byG_add ok p a b r.s (ok r hr), ← SR.sig_mul_right]
        exact SR.sig_congr fun k _ => S.mul_assoc _ _ _
      · simp only [if_neg h, S.mul_zero]
        exact (SR.sig_zero _).symm
    rw [e2, SR.sig_swap]
    refine SR.sig_congr fun k _ => ?_
    rw [SR.sig_mul_left]; rfl
/-- the rows of roads gone through one by one: places and worths -/
def nextG (S : SR α) (rs : List (Rg α)) (rows : List (Nat × α)) : List (Nat × α) := rows.flatMap fun x => (rs.filter fun r => r.s == x.1).map fun r => (r.t, S.mul x.2 r.w)
def rowsG (S : SR α) (rs : List (Rg α)) (p : Nat) : Nat → List (Nat × α)
  | 0 => [(p, S.one)]
  | s + 1 => nextG S rs (rowsG S rs p s)
theorem rows_sum (rs : List (Rg α)) (p : Nat) : ∀ (s j : Nat), S.sig (rowsG S rs p s) (fun x => if x.1 = j then x.2 else S.zero) = byG S rs p s j
  | 0, j => by
    show S.add (if p = j then S.one else S.zero) S.zero = if j = p then S.one else S.zero
    rw [S.add_zero]
    by_cases h : p = j
    · rw [if_pos h, if_pos h.symm]
    · rw [if_neg h, if_neg fun z => h z.symm]
  | s + 1, j => by
    show S.sig (nextG S rs (rowsG S rs p s)) _ = S.sig rs _
    unfold nextG
    rw [SR.sig_flatMap]
    have e : ∀ x : Nat × α, S.sig ((rs.filter fun r => r.s == x.1).map fun r => (r.t, S.mul x.2 r.w)) (fun x => if x.1 = j then x.2 else S.zero) = S.sig rs fun r => if r.t = j then S.mul (if x.1 = r.s then x.2 else S.zero) r.w else S.zero := by
      intro x
      rw [SR.sig_map, SR.sig_filter]
      refine SR.sig_congr fun r _ => ?_
      by_cases h : r.s = x.1
      · rw [if_pos (by simpa using h), if_pos h.symm]
      · rw [if_neg (by simpa using h)]
        split
        · rw [if_neg fun z => h z.symm, SR.zero_mul]
        · rfl
    rw [SR.sig_congr (g := fun x => S.sig rs fun r => if r.t = j then S.mul (if x.1 = r.s then x.2 else S.zero) r.w else S.zero) fun x _ => e x, SR.sig_swap]
    refine SR.sig_congr fun r _ => ?_
    by_cases h : r.t = j
    · simp only [if_pos h]
      rw [SR.sig_mul_right, rows_sum rs p s r.s]
    · simp only [if_neg h]
      exact SR.sig_zero _
end
/-! as worths -/
/-- what one road more makes of the worth at j -/
def stepF (k : Kd) (row : Nat → Wo) (j : Nat) (a : Wo) (r : Rw) : Wo := if r.t = j then tog k a (beh k (row r.s) r.w) else a
def stepW (k : Kd) (rs : List Rw) (row : Nat → Wo) (j : Nat) : Wo := rs.foldl (stepF k row j) (noneW k)
def byW (k : Kd) (rs : List Rw) (p : Nat) : Nat → Nat → Wo
  | 0, j => if j = p then restW k else noneW k
  | s + 1, j => stepW k rs (byW k rs p s) j
/-- the roads with their worths' goodness -/
def toG (k : Kd) {n : Nat} : (rs : List Rw) → RsOk k n rs → List (Rg (Wk k))
  | [], _ => []
  | r :: rs, h => ⟨r.s, r.t, ⟨r.w, (h r List.mem_cons_self).1⟩⟩ :: toG k rs fun x hx => h x (List.mem_cons_of_mem _ hx)
theorem toG_ok {k : Kd} {n : Nat} : ∀ {rs : List Rw} (h : RsOk k n rs), ∀ g ∈ toG k rs h, g.s < n ∧ g.t < n
  | [], _, g, hg => by cases hg
  | r :: rs, h, g, hg => by
    rcases List.mem_cons.1 hg with rfl | hg
    · exact (h r List.mem_cons_self).2
    · exact toG_ok _ g hg
theorem step_fold {k : Kd} (hk : KOk k) {n : Nat} (row : Nat → Wk k) (j : Nat) : ∀ {rs : List Rw} (h : RsOk k n rs) (a : Wk k),
    rs.foldl (stepF k (fun i => (row i).1) j) a.1 = ((toG k rs h).foldl (fun a r => (kSR k hk).add a (if r.t = j then (kSR k hk).mul (row r.s) r.w else (kSR k hk).zero)) a).1
  | [], _, a => rfl
  | r :: rs, h, a => by
    show rs.foldl _ (stepF k _ j a.1 r) = ((toG k rs _).foldl _ ((kSR k hk).add a (if r.t = j then _ else _))).1
    have e : stepF k (fun i => (row i).1) j a.1 r = ((kSR k hk).add a (if r.t = j then (kSR k hk).mul (row r.s) ⟨r.w, (h r List.mem_cons_self).1⟩ else (kSR k hk).zero)).1 := by
      unfold stepF
      by_cases hj : r.t = j
      · rw [if_pos hj, if_pos hj]; rfl
      · rw [if_neg hj, if_neg hj, (kSR k hk).add_zero]
    rw [e]
    exact step_fold hk row j _ _
theorem byW_eq {k : Kd} (hk : KOk k) {n : Nat} {rs : List Rw} (h : RsOk k n rs) (p : Nat) : ∀ s j, byW k rs p s j = (byG (kSR k hk) (toG k rs h) p s j).1
  | 0, j => by
    show (if j = p then _ else _) = (if j = p then (kSR k hk).one else (kSR k hk).zero).1
    split <;> rfl
  | s + 1, j => by
    show stepW k rs (byW k rs p s) j = (stepG (kSR k hk) (toG k rs h) (byG (kSR k hk) (toG k rs h) p s) j).1
    have e : byW k rs p s = fun i => (byG (kSR k hk) (toG k rs h) p s i).1 := funext fun i => byW_eq hk h p s i
    unfold stepW
    rw [e]
    have := step_fold hk (byG (kSR k hk) (toG k rs h) p s) j h (kSR k hk).zero
    rw [SR.foldl_sig, SR.zero_add] at this
    exact this
theorem byW_good {k : Kd} (hk : KOk k) {n : Nat} {rs : List Rw} (h : RsOk k n rs) (p s j : Nat) : Good k (byW k rs p s j) := by
  rw [byW_eq hk h]; exact (byG (kSR k hk) (toG k rs h) p s j).2
/-- the worths put together where they are for j -/
def sumF2 (k : Kd) (j : Nat) (a : Wo) (x : Nat × Wo) : Wo := if x.1 = j then tog k a x.2 else a
/-- steps and more steps, as the law reckons -/
theorem byW_add {k : Kd} (hk : KOk k) {n : Nat} {rs : List Rw} (h : RsOk k n rs) (p a b : Nat) {q : Nat} (hq : q < n) :
    (List.range n).foldl (fun d i => tog k d (beh k (byW k rs p a i) (byW k rs i b q))) (noneW k) = byW k rs p (a + b) q := by
  rw [byW_eq hk h, byG_add (fun r hr => (toG_ok h r hr).1) p a b q hq]
  have : ∀ (l : List Nat) (d : Wk k), l.foldl (fun d i => tog k d (beh k (byW k rs p a i) (byW k rs i b q))) d.1 = (l.foldl (fun d i => (kSR k hk).add d ((kSR k hk).mul (byG (kSR k hk) (toG k rs h) p a i) (byG (kSR k hk) (toG k rs h) i b q))) d).1 := by
    intro l
    induction l with
    | nil => intro d; rfl
    | cons x l ih =>
      intro d
      show l.foldl _ (tog k d.1 _) = _
      rw [byW_eq hk h, byW_eq hk h]
      exact ih ((kSR k hk).add d ((kSR k hk).mul (byG (kSR k hk) (toG k rs h) p a x) (byG (kSR k hk) (toG k rs h) x b q)))
  have e := this (List.range n) (kSR k hk).zero
  rw [SR.foldl_sig, SR.zero_add] at e
  exact e
/-! ### M8: bounds that go along -/
/-- a worth of at most 2 ^ b over the denominator D -/
def Bd (k : Kd) (D b : Nat) (a : Wo) : Prop := match k with
  | .cnt => ∃ i : Int, a = .int i ∧ i < 2 ^ b
  | .cha => ∃ m : Nat, wq a * (D : Rat) = (m : Rat) ∧ m < 2 ^ b
  | .lik => sz a ≤ b
  | _ => True
theorem p2 (n : Nat) : (1 : Int) ≤ 2 ^ n := by have := Int.pow_pos (n := 2) (m := n) (by decide); omega
theorem p2_le {n m : Nat} (h : n ≤ m) : (2 : Int) ^ n ≤ 2 ^ m := by exact_mod_cast Nat.pow_le_pow_right (by decide) h
theorem Bd.mono {k : Kd} {D b b' : Nat} {a : Wo} (h : Bd k D b a) (e : b ≤ b') : Bd k D b' a := by
  cases k <;> first | trivial | skip
  case cnt => obtain ⟨i, h1, h2⟩ := h; exact ⟨i, h1, Int.lt_of_lt_of_le h2 (p2_le e)⟩
  case lik => exact Nat.le_trans h e
  case cha => obtain ⟨m, h1, h2⟩ := h; exact ⟨m, h1, Nat.lt_of_lt_of_le h2 (pow2_le e)⟩
theorem bd_tog {k : Kd} {D b b' : Nat} {a a' : Wo} (ga : Good k a) (ga' : Good k a') (h : Bd k D b a) (h' : Bd k D b' a') : Bd k D (max b b' + 1) (tog k a a') := by
  cases k <;> first | trivial | skip
  case cnt =>
    obtain ⟨i, rfl, h⟩ := h
    obtain ⟨j, rfl, h'⟩ := h'
    rw [tog_cnt]
    refine ⟨_, rfl, ?_⟩
    have e1 := p2_le (Nat.le_max_left b b')
    have e2 := p2_le (Nat.le_max_right b b')
    have e3 : (2 : Int) ^ (max b b' + 1) = 2 * 2 ^ (max b b') := by rw [Int.pow_succ]; omega
    have := p2 (max b b')
    unfold cntT
    split <;> omega
  case lik =>
    obtain ⟨r, rfl, _⟩ := good_lik ga
    obtain ⟨s, rfl, _⟩ := good_lik ga'
    have h : sz (.rat r) ≤ b := h
    have h' : sz (.rat s) ≤ b' := h'
    rw [tog_lik]
    show sz (.rat (likT r s)) ≤ _
    unfold likT
    split <;> omega
  case cha =>
    obtain ⟨r, rfl, _⟩ := good_cha ga
    obtain ⟨s, rfl, _⟩ := good_cha ga'
    obtain ⟨m, h1, h2⟩ := h
    obtain ⟨m', h1', h2'⟩ := h'
    rw [tog_cha]
    refine ⟨m + m', ?_, ?_⟩
    · have e : ((m + m' : Nat) : Rat) = (m : Rat) + (m' : Rat) := by norm_cast
      rw [e, ← h1, ← h1']
      show (r + s) * (D : Rat) = r * D + s * D
      rw [Rat.add_mul]
    · have e1 := pow2_le (Nat.le_max_left b b')
      have e2 := pow2_le (Nat.le_max_right b b')
      rw [Nat.pow_succ]; omega
theorem bd_beh {k : Kd} {D D' b b' : Nat} {a a' : Wo} (ga : Good k a) (ga' : Good k a') (h : Bd k D b a) (h' : Bd k D' b' a') : Bd k (D * D') (b + b') (beh k a a') := by
  cases k <;> first | trivial | skip
  case cnt =>
    obtain ⟨i, rfl, h⟩ := h
    obtain ⟨j, rfl, h'⟩ := h'
    rw [beh_cnt]
    refine ⟨_, rfl, ?_⟩
    have hi : -1 ≤ i := ga
    have hj : -1 ≤ j := ga'
    have := p2 (b + b')
    unfold cntB
    split
    · omega
    · split
      · omega
      · obtain ⟨n, rfl⟩ : ∃ n : Nat, i = n := ⟨i.toNat, by omega⟩
        obtain ⟨m, rfl⟩ : ∃ m : Nat, j = m := ⟨j.toNat, by omega⟩
        have h1 : n < 2 ^ b := by exact_mod_cast h
        have h2 : m < 2 ^ b' := by exact_mod_cast h'
        have := mul_lt_pow h1 h2
        exact_mod_cast this
  case lik =>
    have := sz_beh (k := .lik) rfl ga ga'
    have h : sz a ≤ b := h
    have h' : sz a' ≤ b' := h'
    show sz _ ≤ _
    omega
  case cha =>
    obtain ⟨r, rfl, _⟩ := good_cha ga
    obtain ⟨s, rfl, _⟩ := good_cha ga'
    obtain ⟨m, h1, h2⟩ := h
    obtain ⟨m', h1', h2'⟩ := h'
    rw [beh_cha]
    refine ⟨m * m', ?_, mul_lt_pow h2 h2'⟩
    have e : ((m * m' : Nat) : Rat) = (m : Rat) * (m' : Rat) := by norm_cast
    have e2 : ((D * D' : Nat) : Rat) = (D : Rat) * (D' : Rat) := by norm_cast
    rw [e, ← h1, ← h1', e2]
    show r * s * ((D : Rat) * D') = r * D * (s * D')
    grind
theorem bd_none (k : Kd) (D b : Nat) (h : 1 ≤ b) : Bd k D b (noneW k) := by
  cases k <;> first | trivial | skip
  case cnt => exact ⟨0, rfl, by have := p2 b; omega⟩
  case cha => exact ⟨0, by show (0 : Rat) * _ = ((0 : Nat) : Rat); rw [Rat.zero_mul]; rfl, Nat.two_pow_pos _⟩
theorem bd_rest (k : Kd) : Bd k 1 31 (restW k) := by
  cases k <;> first | trivial | skip
  case cnt => exact ⟨1, rfl, by decide⟩
  case lik => show sz (.rat 1) ≤ 31; decide
  case cha => exact ⟨1, by show (1 : Rat) * ((1 : Nat) : Rat) = ((1 : Nat) : Rat); rw [Rat.one_mul], by decide⟩
theorem log_le {m n : Nat} (h : m < 2 ^ n) : m.log2 + 1 ≤ max n 1 := by
  by_cases hm0 : m = 0
  · subst hm0; simp; omega
  · have := (Nat.log2_lt hm0).2 h
    omega
theorem bd_sz {k : Kd} {D b d : Nat} {a : Wo} (ga : Good k a) (hb : bitK k = true) (h : Bd k D b a) (hD : 1 ≤ D) (hd : D < 2 ^ d) : sz a ≤ max (max b d) 1 := by
  cases k <;> first | cases hb | skip
  case cnt =>
    obtain ⟨i, rfl, h⟩ := h
    have hi : -1 ≤ i := ga
    show i.natAbs.log2 + 1 ≤ _
    by_cases h1 : i = -1
    · subst h1
      have : ((-1 : Int).natAbs).log2 = 0 := by decide
      omega
    · obtain ⟨n, rfl⟩ : ∃ n : Nat, i = n := ⟨i.toNat, by omega⟩
      have h2 : n < 2 ^ b := by exact_mod_cast h
      have := log_le h2
      rw [Int.natAbs_natCast]; omega
  case lik => have h : sz a ≤ b := h; omega
  case cha =>
    obtain ⟨q, rfl, h0⟩ := good_cha ga
    obtain ⟨m, h1, h2⟩ := h
    have h1 : q * (D : Rat) = (m : Rat) := h1
    have hD0 : (D : Rat) ≠ 0 := by
      intro z
      have : D = 0 := by exact_mod_cast z
      omega
    have e : q = Rat.divInt (m : Int) (D : Int) := by
      rw [Rat.divInt_eq_div, Rat.div_def]
      have e1 : ((D : Int) : Rat) = (D : Rat) := rfl
      have e2 : ((m : Int) : Rat) = (m : Rat) := rfl
      have := Rat.mul_inv_cancel _ hD0
      rw [e1, e2]
      grind
    have hden : q.den ≤ D := by
      have e3 := low_den (m : Int) (D : Int) (by omega)
      rw [← e] at e3
      have h4 := gcd_pos' (m : Int) (D : Int) (by omega)
      have : (D : Int) / (Int.gcd m D : Int) ≤ D := Int.ediv_le_self _ (by omega)
      omega
    have hnum : q.num.natAbs ≤ m := by
      have e3 := low_num (m : Int) (D : Int) (by omega)
      rw [← e] at e3
      have h4 := gcd_pos' (m : Int) (D : Int) (by omega)
      have : (m : Int) / (Int.gcd m D : Int) ≤ m := Int.ediv_le_self _ (by omega)
      have := Rat.num_nonneg.2 h0
      omega
    have a1 := log_le (Nat.lt_of_le_of_lt hnum h2)
    have a2 := log_le (Nat.lt_of_le_of_lt hden hd)
    simp only [sz]; omega
/-- bounds for ways by steps -/
structure StepB (k : Kd) (rs : List Rw) (L c d s : Nat) : Prop where
  l1 : 1 ≤ L
  ld : L < 2 ^ d
  rd : ∀ r ∈ rs, Bd k L c r.w
  fit : bitK k = true → 31 + (s + 1) * (c + rs.length + d + 1) ≤ 3900
theorem StepB.le {k : Kd} {rs : List Rw} {L c d s s' : Nat} (h : StepB k rs L c d s) (e : s' ≤ s) : StepB k rs L c d s' :=
  ⟨h.l1, h.ld, h.rd, fun hb => by
    have := h.fit hb
    have : (s' + 1) * (c + rs.length + d + 1) ≤ (s + 1) * (c + rs.length + d + 1) := Nat.mul_le_mul_right _ (by omega)
    omega⟩
/-- the bits at s steps -/
def bS (c l s : Nat) : Nat := 31 + s * (c + l + 1)
theorem part_bd {k : Kd} {n : Nat} {row : Nat → Wo} {j L M c b : Nat} (hrow : ∀ i, Good k (row i) ∧ Bd k M b (row i)) (hb1 : 1 ≤ b) : ∀ (rs : List Rw), RsOk k n rs → (∀ r ∈ rs, Bd k L c r.w) →
    ∀ a x, Good k a → Bd k (M * L) (b + c + x) a → Good k (rs.foldl (stepF k row j) a) ∧ Bd k (M * L) (b + c + (x + rs.length)) (rs.foldl (stepF k row j) a)
  | [], _, _, a, x, ga, ba => ⟨ga, ba⟩
  | r :: rs, ok, hr, a, x, ga, ba => by
    have g := (ok r List.mem_cons_self).1
    obtain ⟨h1, h2⟩ := hrow r.s
    have gb := good_beh h1 g
    have e : Good k (stepF k row j a r) ∧ Bd k (M * L) (b + c + (x + 1)) (stepF k row j a r) := by
      unfold stepF
      split
      · exact ⟨good_tog ga gb, (bd_tog ga gb ba (bd_beh h1 g h2 (hr r List.mem_cons_self))).mono (by omega)⟩
      · exact ⟨ga, ba.mono (by omega)⟩
    have := part_bd (j := j) hrow hb1 rs (fun x hx => ok x (List.mem_cons_of_mem _ hx)) (fun x hx => hr x (List.mem_cons_of_mem _ hx)) _ (x + 1) e.1 e.2
    rw [List.length_cons]
    exact ⟨this.1, this.2.mono (by omega)⟩
theorem byW_bd {k : Kd} (hk : KOk k) {n : Nat} {rs : List Rw} (ok : RsOk k n rs) {L c : Nat} (hr : ∀ r ∈ rs, Bd k L c r.w) (p : Nat) : ∀ s j, Bd k (L ^ s) (bS c rs.length s) (byW k rs p s j)
  | 0, j => by
    show Bd k 1 (31 + 0 * _) (if j = p then restW k else noneW k)
    split
    · exact (bd_rest k).mono (by omega)
    · exact bd_none k 1 _ (by omega)
  | s + 1, j => by
    have h := part_bd (j := j) (L := L) (M := L ^ s) (c := c) (b := bS c rs.length s) (fun i => ⟨byW_good hk ok p s i, byW_bd hk ok hr p s i⟩) (by unfold bS; omega) rs ok hr (noneW k) 0 (good_none k) (bd_none k _ _ (by unfold bS; omega))
    rw [Nat.pow_succ]
    refine h.2.mono ?_
    unfold bS
    rw [Nat.succ_mul]; omega
theorem pow_lt_two {L d : Nat} (hd : L < 2 ^ d) : ∀ s, L ^ s < 2 ^ (s * d + 1)
  | 0 => by show 1 < 2 ^ (0 * d + 1); rw [Nat.zero_mul]; decide
  | s + 1 => by
    have := mul_lt_pow (pow_lt_two hd s) hd
    rw [Nat.pow_succ]
    have e : s * d + 1 + d = (s + 1) * d + 1 := by rw [Nat.succ_mul]; omega
    rw [← e]; exact this
theorem pow_pos1 {L : Nat} (h : 1 ≤ L) (s : Nat) : 1 ≤ L ^ s := Nat.one_le_iff_ne_zero.2 (Nat.pos_iff_ne_zero.1 (Nat.pow_pos h))
/-- the sizes at s steps -/
theorem byW_sz {k : Kd} (hk : KOk k) {n : Nat} {rs : List Rw} (ok : RsOk k n rs) {L c d s : Nat} (h : StepB k rs L c d s) (hb : bitK k = true) (p j : Nat) : sz (byW k rs p s j) ≤ 3900 := by
  have h1 := bd_sz (byW_good hk ok p s j) hb (byW_bd hk ok h.rd p s j) (pow_pos1 h.l1 s) (pow_lt_two h.ld s)
  have h2 := h.fit hb
  have e : (s + 1) * (c + rs.length + d + 1) = s * (c + rs.length + 1) + s * d + (c + rs.length + d + 1) := by
    rw [Nat.succ_mul, show c + rs.length + d + 1 = (c + rs.length + 1) + d by omega, Nat.mul_add]
  unfold bS at h1
  omega
theorem road_sz {k : Kd} {n : Nat} {rs : List Rw} (ok : RsOk k n rs) {L c d s : Nat} (h : StepB k rs L c d s) (hb : bitK k = true) {r : Rw} (hr : r ∈ rs) : sz r.w ≤ 3900 := by
  have h1 := bd_sz (ok r hr).1 hb (h.rd r hr) h.l1 h.ld
  have h2 := h.fit hb
  have : 1 * (c + rs.length + d + 1) ≤ (s + 1) * (c + rs.length + d + 1) := Nat.mul_le_mul_right _ (by omega)
  omega
/-- in the midst of a step -/
theorem mid_ok {k : Kd} (hk : KOk k) {n : Nat} {rs : List Rw} (ok : RsOk k n rs) {L c d s : Nat} (h : StepB k rs L c d (s + 1)) (p i j : Nat) :
    Good k ((rs.take i).foldl (stepF k (byW k rs p s) j) (noneW k)) ∧ (bitK k = true → sz ((rs.take i).foldl (stepF k (byW k rs p s) j) (noneW k)) ≤ 3900) := by
  have ok' : RsOk k n (rs.take i) := fun r hr => ok r (List.mem_of_mem_take hr)
  have hx := part_bd (j := j) (L := L) (M := L ^ s) (c := c) (b := bS c rs.length s) (fun i => ⟨byW_good hk ok p s i, byW_bd hk ok h.rd p s i⟩) (by unfold bS; omega) (rs.take i) ok' (fun r hr => h.rd r (List.mem_of_mem_take hr)) (noneW k) 0 (good_none k) (bd_none k _ _ (by unfold bS; omega))
  refine ⟨hx.1, fun hb => ?_⟩
  have hx2 := hx.2
  rw [← Nat.pow_succ] at hx2
  have h1 := bd_sz hx.1 hb hx2 (pow_pos1 h.l1 (s + 1)) (pow_lt_two h.ld (s + 1))
  have h2 := h.fit hb
  have hl : (rs.take i).length ≤ rs.length := by rw [List.length_take]; omega
  have e : (s + 1 + 1) * (c + rs.length + d + 1) = (s + 1) * (c + rs.length + 1) + (s + 1) * d + (c + rs.length + d + 1) := by
    rw [Nat.succ_mul, show c + rs.length + d + 1 = (c + rs.length + 1) + d by omega, Nat.mul_add]
  have e3 : (s + 1) * (c + rs.length + 1) = s * (c + rs.length + 1) + (c + rs.length + 1) := Nat.succ_mul _ _
  unfold bS at h1
  omega
theorem way_sz {k : Kd} (hk : KOk k) {n : Nat} {rs : List Rw} (ok : RsOk k n rs) {L c d s : Nat} (h : StepB k rs L c d (s + 1)) (hb : bitK k = true) (p j : Nat) {r : Rw} (hr : r ∈ rs) : sz (beh k (byW k rs p s j) r.w) ≤ 3900 := by
  have hx := bd_beh (byW_good hk ok p s j) (ok r hr).1 (byW_bd hk ok h.rd p s j) (h.rd r hr)
  rw [← Nat.pow_succ] at hx
  have h1 := bd_sz (good_beh (byW_good hk ok p s j) (ok r hr).1) hb hx (pow_pos1 h.l1 (s + 1)) (pow_lt_two h.ld (s + 1))
  have h2 := h.fit hb
  have e : (s + 1 + 1) * (c + rs.length + d + 1) = (s + 1) * (c + rs.length + 1) + (s + 1) * d + (c + rs.length + d + 1) := by
    rw [Nat.succ_mul, show c + rs.length + d + 1 = (c + rs.length + 1) + d by omega, Nat.mul_add]
  have e3 : (s + 1) * (c + rs.length + 1) = s * (c + rs.length + 1) + (c + rs.length + 1) := Nat.succ_mul _ _
  unfold bS at h1
  omega
/-! ### M9: bounds of drawn nets for ways by steps -/
/-- the product of the places' denominators -/
def prodD (D : Nat → Nat) : Nat → Nat
  | 0 => 1
  | n + 1 => prodD D n * D n
theorem prodD_pos {D : Nat → Nat} (h : ∀ i, 1 ≤ D i ∧ D i < 2 ^ 23) : ∀ n, 1 ≤ prodD D n ∧ prodD D n < 2 ^ (23 * n + 1)
  | 0 => ⟨Nat.le_refl 1, by show 1 < 2 ^ (23 * 0 + 1); decide⟩
  | n + 1 => by
    obtain ⟨h1, h2⟩ := prodD_pos h n
    obtain ⟨h3, h4⟩ := h n
    refine ⟨Nat.mul_le_mul h1 h3, ?_⟩
    have := mul_lt_pow h2 h4
    rw [show 23 * (n + 1) + 1 = 23 * n + 1 + 23 by omega]
    exact this
theorem prodD_dvd {D : Nat → Nat} : ∀ {n i : Nat}, i < n → D i ∣ prodD D n
  | n + 1, i, h => by
    by_cases e : i = n
    · subst e; exact Nat.dvd_mul_left _ _
    · exact Nat.dvd_trans (prodD_dvd (n := n) (by omega)) (Nat.dvd_mul_right _ _)
theorem nat_lt_of_rat {a b : Nat} (h : (a : Rat) ≤ (b : Rat)) : a ≤ b := by exact_mod_cast h
theorem bd_cha {q : Rat} {D a L n : Nat} (hD : D ∣ L) (h : q * (D : Rat) = (a : Rat)) (h1 : q ≤ 1) (hL : L < 2 ^ n) : Bd .cha L n (.rat q) := by
  obtain ⟨m, rfl⟩ := hD
  have e1 : ((D * m : Nat) : Rat) = (D : Rat) * (m : Rat) := by norm_cast
  have e2 : ((a * m : Nat) : Rat) = (a : Rat) * (m : Rat) := by norm_cast
  have e : q * ((D * m : Nat) : Rat) = ((a * m : Nat) : Rat) := by rw [e1, e2, ← h, Rat.mul_assoc]
  refine ⟨a * m, e, ?_⟩
  refine Nat.lt_of_le_of_lt (nat_lt_of_rat ?_) hL
  rw [← e]
  have := Rat.mul_le_mul_of_nonneg_right h1 (nat_nonneg (D * m))
  rwa [Rat.one_mul] at this
theorem stepB_of' {k : Kd} {most extra n s : Nat} {rs : List Rw} (N : NetD k most extra n rs) (hm : most ≤ 8) (hx : extra ≤ 24) (h40 : s ≤ 40) (hc : k = .cnt → s ≤ 12) (ha : k = .cha → s ≤ 6) : ∃ L c d, StepB k rs L c d s ∧ c ≤ 23 * n + 100 ∧ d ≤ 23 * n + 1 := by
  have hl := N.len
  have hn1 := N.n1
  have hn := N.nm
  cases k with
  | few => exact ⟨1, 0, 1, ⟨Nat.le_refl 1, by decide, fun _ _ => trivial, fun h => Bool.noConfusion h⟩, by omega, by omega⟩
  | wid => exact ⟨1, 0, 1, ⟨Nat.le_refl 1, by decide, fun _ _ => trivial, fun h => Bool.noConfusion h⟩, by omega, by omega⟩
  | mus => exact ⟨1, 0, 1, ⟨Nat.le_refl 1, by decide, fun _ _ => trivial, fun h => Bool.noConfusion h⟩, by omega, by omega⟩
  | rst m => exact ⟨1, 0, 1, ⟨Nat.le_refl 1, by decide, fun _ _ => trivial, fun h => Bool.noConfusion h⟩, by omega, by omega⟩
  | cnt =>
    refine ⟨1, 100, 1, ⟨Nat.le_refl 1, by decide, fun r hr => ?_, fun _ => ?_⟩, by omega, by omega⟩
    · obtain ⟨i, e, hi⟩ := good_cnt (N.ok r hr).1
      have hz := N.sz rfl r hr
      rw [e] at hz ⊢
      have hz : sz (.int i) ≤ 100 := hz
      refine ⟨i, rfl, ?_⟩
      have h1 := lt_int i
      have h2 : i.natAbs < 2 ^ 100 := Nat.lt_of_lt_of_le h1 (pow2_le hz)
      have h3 : (2 : Int) ^ 100 = ((2 ^ 100 : Nat) : Int) := by norm_cast
      rw [h3]; omega
    · have := hc rfl
      have h1 : (s + 1) * (100 + rs.length + 1 + 1) ≤ 13 * 126 := Nat.mul_le_mul (by omega) (by omega)
      omega
  | lik =>
    refine ⟨1, 4, 1, ⟨Nat.le_refl 1, by decide, fun r hr => N.sz rfl r hr, fun _ => ?_⟩, by omega, by omega⟩
    have h1 : (s + 1) * (4 + rs.length + 1 + 1) ≤ 41 * 30 := Nat.mul_le_mul (by omega) (by omega)
    omega
  | cha =>
    obtain ⟨D, hD, hr, h1⟩ := N.cha rfl
    obtain ⟨p1, p2⟩ := prodD_pos hD n
    refine ⟨prodD D n, 23 * n + 1, 23 * n + 1, ⟨p1, p2, fun r hrr => ?_, fun _ => ?_⟩, by omega, by omega⟩
    · obtain ⟨g, hs, _⟩ := N.ok r hrr
      obtain ⟨a, e⟩ := hr r hrr
      have hle := (sumF_le r.s rs fun x hx => (N.ok x hx).1).2 r hrr rfl
      have := bd_cha (prodD_dvd hs) e (Rat.le_trans hle (h1 r.s)) p2
      rw [← wq_eq g] at this
      exact this
    · have := ha rfl
      have h1 : (s + 1) * (23 * n + 1 + rs.length + (23 * n + 1) + 1) ≤ 7 * 395 := Nat.mul_le_mul (by omega) (by omega)
      omega
theorem stepB_of {k : Kd} {most extra n s : Nat} {rs : List Rw} (N : NetD k most extra n rs) (hm : most ≤ 8) (hx : extra ≤ 24) (h40 : s ≤ 40) (hc : k = .cnt → s ≤ 12) (ha : k = .cha → s ≤ 6) : ∃ L c d, StepB k rs L c d s := by
  obtain ⟨L, c, d, h, _⟩ := stepB_of' N hm hx h40 hc ha
  exact ⟨L, c, d, h⟩
/-- what the law puts together, up to the i-th place -/
def dueP (k : Kd) (rs : List Rw) (p a b q i : Nat) : Wo := (List.range i).foldl (fun d j => tog k d (beh k (byW k rs p a j) (byW k rs j b q))) (noneW k)
theorem dueP_succ (k : Kd) (rs : List Rw) (p a b q i : Nat) : dueP k rs p a b q (i + 1) = tog k (dueP k rs p a b q i) (beh k (byW k rs p a i) (byW k rs i b q)) := by
  unfold dueP
  rw [List.range_succ, List.foldl_append]; rfl
theorem dueP_bd {k : Kd} (hk : KOk k) {n : Nat} {rs : List Rw} (ok : RsOk k n rs) {L c : Nat} (hr : ∀ r ∈ rs, Bd k L c r.w) (p a b q : Nat) :
    ∀ i, Good k (dueP k rs p a b q i) ∧ Bd k (L ^ a * L ^ b) (bS c rs.length a + bS c rs.length b + i) (dueP k rs p a b q i)
  | 0 => ⟨good_none k, bd_none k _ _ (by unfold bS; omega)⟩
  | i + 1 => by
    obtain ⟨g, h⟩ := dueP_bd hk ok hr p a b q i
    rw [dueP_succ]
    have g1 := byW_good hk ok p a i
    have g2 := byW_good hk ok i b q
    exact ⟨good_tog g (good_beh g1 g2), (bd_tog g (good_beh g1 g2) h (bd_beh g1 g2 (byW_bd hk ok hr p a i) (byW_bd hk ok hr i b q))).mono (by omega)⟩
theorem mul_pow_lt {L d a b : Nat} (hd : L < 2 ^ d) : L ^ a * L ^ b < 2 ^ ((a + b) * d + 1) := by
  rw [← Nat.pow_add]; exact pow_lt_two hd _
theorem due_sz {k : Kd} (hk : KOk k) {n : Nat} {rs : List Rw} (ok : RsOk k n rs) {L c d p a b q : Nat} (h : StepB k rs L c d (a + b)) (hb : bitK k = true) {i : Nat} (hi : i ≤ 8) :
    sz (dueP k rs p a b q i) ≤ 3940 ∧ sz (beh k (byW k rs p a i) (byW k rs i b q)) ≤ 3940 := by
  obtain ⟨g, hx⟩ := dueP_bd hk ok h.rd p a b q i
  have g1 := byW_good hk ok p a i
  have g2 := byW_good hk ok i b q
  have hy := bd_beh g1 g2 (byW_bd hk ok h.rd p a i) (byW_bd hk ok h.rd i b q)
  have hp : 1 ≤ L ^ a * L ^ b := Nat.mul_le_mul (pow_pos1 h.l1 a) (pow_pos1 h.l1 b)
  have s1 := bd_sz g hb hx hp (mul_pow_lt h.ld)
  have s2 := bd_sz (good_beh g1 g2) hb hy hp (mul_pow_lt h.ld)
  have h2 := h.fit hb
  have e : (a + b + 1) * (c + rs.length + d + 1) = (a + b) * (c + rs.length + 1) + (a + b) * d + (c + rs.length + d + 1) := by
    rw [Nat.succ_mul, show c + rs.length + d + 1 = (c + rs.length + 1) + d by omega, Nat.mul_add]
  have e3 : (a + b) * (c + rs.length + 1) = a * (c + rs.length + 1) + b * (c + rs.length + 1) := Nat.add_mul _ _ _
  unfold bS at s1 s2
  omega
/-! ### M11: places taken out one by one -/
section
variable {α : Type} (S : SR α)
def thrG (F : Nat → Nat → α) (s : Nat) (st : α) (i j : Nat) : α := S.add (F i j) (S.mul (S.mul (F i s) st) (F s j))
def elimG (A : Nat → Nat → α) : Nat → Option (Nat → Nat → α)
  | 0 => some A
  | s + 1 => (elimG A s).bind fun F => (S.star (F s s)).bind fun st => some (thrG S F s st)
variable {S}
theorem elim_succ {A F' : Nat → Nat → α} {s : Nat} (h : elimG S A (s + 1) = some F') : ∃ F st, elimG S A s = some F ∧ S.star (F s s) = some st ∧ F' = thrG S F s st := by
  change (elimG S A s).bind _ = _ at h
  cases hF : elimG S A s with
  | none => rw [hF] at h; cases h
  | some F =>
    rw [hF] at h
    change (S.star (F s s)).bind _ = _ at h
    cases hs : S.star (F s s) with
    | none => rw [hs] at h; cases h
    | some st => rw [hs] at h; cases h; exact ⟨F, st, rfl, hs, rfl⟩
/-- the column and the row of the place taken out -/
theorem thr_col {F : Nat → Nat → α} {s : Nat} {st : α} (hs : S.star (F s s) = some st) (i : Nat) : thrG S F s st i s = S.mul (F i s) st := by
  have h := congrArg (S.mul (F i s)) (SR.star_comm hs)
  rw [S.dist, S.mul_one, ← S.mul_assoc] at h
  exact h.symm
theorem thr_row {F : Nat → Nat → α} {s : Nat} {st : α} (hs : S.star (F s s) = some st) (j : Nat) : thrG S F s st s j = S.mul st (F s j) := by
  have h : S.mul st (F s j) = S.mul (S.add S.one (S.mul (F s s) st)) (F s j) := congrArg (fun z => S.mul z (F s j)) (S.star_eq _ _ hs)
  rw [SR.dist_r, SR.one_mul] at h
  exact h.symm
theorem elim_right {A : Nat → Nat → α} : ∀ (s : Nat) (F : Nat → Nat → α), elimG S A s = some F → ∀ i j, F i j = S.add (A i j) (S.sig (List.range s) fun l => S.mul (F i l) (A l j))
  | 0, F, h, i, j => by cases h; exact (S.add_zero _).symm
  | s + 1, F', h, i, j => by
    obtain ⟨F, st, hF, hs, rfl⟩ := elim_succ h
    have ih := elim_right s F hF
    have e1 : S.sig (List.range s) (fun l => S.mul (thrG S F s st i l) (A l j)) = S.add (S.sig (List.range s) fun l => S.mul (F i l) (A l j)) (S.mul (S.mul (F i s) st) (S.sig (List.range s) fun l => S.mul (F s l) (A l j))) := by
      rw [← SR.sig_mul_left, ← SR.sig_add]
      refine SR.sig_congr fun l _ => ?_
      unfold thrG
      rw [SR.dist_r, S.mul_assoc (S.mul (F i s) st)]
    rw [List.range_succ, SR.sig_append, e1]
    show S.add (F i j) (S.mul (S.mul (F i s) st) (F s j)) = S.add (A i j) (S.add _ (S.add (S.mul (thrG S F s st i s) (A s j)) S.zero))
    rw [S.add_zero, thr_col hs]
    have h1 := ih i j
    have h2 := ih s j
    generalize S.sig (List.range s) (fun l => S.mul (F i l) (A l j)) = x at *
    generalize S.sig (List.range s) (fun l => S.mul (F s l) (A l j)) = y at *
    rw [h1, h2, S.dist, S.add_assoc, S.add_assoc, S.add_comm (S.mul (S.mul (F i s) st) (A s j))]
theorem elim_left {A : Nat → Nat → α} : ∀ (s : Nat) (F : Nat → Nat → α), elimG S A s = some F → ∀ i j, F i j = S.add (A i j) (S.sig (List.range s) fun l => S.mul (A i l) (F l j))
  | 0, F, h, i, j => by cases h; exact (S.add_zero _).symm
  | s + 1, F', h, i, j => by
    obtain ⟨F, st, hF, hs, rfl⟩ := elim_succ h
    have ih := elim_left s F hF
    have e1 : S.sig (List.range s) (fun l => S.mul (A i l) (thrG S F s st l j)) = S.add (S.sig (List.range s) fun l => S.mul (A i l) (F l j)) (S.mul (S.sig (List.range s) fun l => S.mul (A i l) (F l s)) (S.mul st (F s j))) := by
      rw [← SR.sig_mul_right, ← SR.sig_add]
      refine SR.sig_congr fun l _ => ?_
      unfold thrG
      rw [S.dist, S.mul_assoc (A i l), S.mul_assoc (F l s)]
    rw [List.range_succ, SR.sig_append, e1]
    show S.add (F i j) (S.mul (S.mul (F i s) st) (F s j)) = S.add (A i j) (S.add _ (S.add (S.mul (A i s) (thrG S F s st s j)) S.zero))
    rw [S.add_zero, thr_row hs, S.mul_assoc]
    have h1 := ih i j
    have h2 := ih i s
    generalize S.sig (List.range s) (fun l => S.mul (A i l) (F l j)) = x at *
    generalize S.sig (List.range s) (fun l => S.mul (A i l) (F l s)) = y at *
    rw [h1, h2, SR.dist_r, S.add_assoc, S.add_assoc, S.add_comm (S.mul (A i s) _)]
/-- a sum from s on: the first summand -/
theorem sig_from {n s : Nat} (hs : s < n) (f : Nat → α) : S.sig (List.range n) (fun j => if s ≤ j then f j else S.zero) = S.add (f s) (S.sig (List.range n) fun j => if s + 1 ≤ j then f j else S.zero) := by
  rw [← SR.sig_range_one hs f, ← SR.sig_add]
  refine SR.sig_congr fun j _ => ?_
  by_cases e : j = s
  · subst e
    rw [if_pos (Nat.le_refl _), if_pos rfl, if_neg (by omega), S.add_zero]
  · rw [if_neg e, SR.zero_add]
    by_cases h : s ≤ j
    · rw [if_pos h, if_pos (by omega)]
    · rw [if_neg h, if_neg (by omega)]
/-- what stands above stays above -/
theorem elim_least {A : Nat → Nat → α} {n : Nat} {x b : Nat → α} (hx : ∀ i, i < n → S.le (S.add (S.sig (List.range n) fun j => S.mul (A i j) (x j)) (b i)) (x i)) :
    ∀ (s : Nat) (F : Nat → Nat → α), s ≤ n → elimG S A s = some F → ∀ i, i < n → S.le (S.add (S.sig (List.range n) fun j => if s ≤ j then S.mul (F i j) (x j) else S.zero) (S.add (b i) (S.sig (List.range s) fun l => S.mul (F i l) (b l)))) (x i)
  | 0, F, _, h, i, hi => by
    cases h
    have e : (S.sig (List.range n) fun j => if 0 ≤ j then S.mul (A i j) (x j) else S.zero) = S.sig (List.range n) fun j => S.mul (A i j) (x j) := SR.sig_congr fun j _ => if_pos (Nat.zero_le j)
    rw [e]
    show S.le (S.add _ (S.add (b i) S.zero)) _
    rw [S.add_zero]
    exact hx i hi
  | s + 1, F', hs1, h, i, hi => by
    obtain ⟨F, st, hF, hs, rfl⟩ := elim_succ h
    have ih := elim_least hx s F (by omega) hF
    -- what stands beside the ring
    obtain ⟨R, hR⟩ : ∃ R : Nat → α, ∀ i, R i = S.add (S.sig (List.range n) fun j => if s + 1 ≤ j then S.mul (F i j) (x j) else S.zero) (S.add (b i) (S.sig (List.range s) fun l => S.mul (F i l) (b l))) := ⟨_, fun _ => rfl⟩
    have ih2 : ∀ i, i < n → S.le (S.add (S.mul (F i s) (x s)) (R i)) (x i) := fun i hi => by
      have := ih i hi
      rw [sig_from (by omega), S.add_assoc, ← hR] at this
      exact this
    have h1 : S.le (S.mul st (R s)) (x s) := SR.star_le hs (ih2 s (by omega))
    have h2 : S.le (S.add (S.mul (F i s) (S.mul st (R s))) (R i)) (x i) := SR.le_trans (SR.add_le_add (SR.mul_le_mul_left _ h1) (SR.le_refl _)) (ih2 i hi)
    have e1 : (S.sig (List.range n) fun j => if s + 1 ≤ j then S.mul (thrG S F s st i j) (x j) else S.zero) = S.add (S.sig (List.range n) fun j => if s + 1 ≤ j then S.mul (F i j) (x j) else S.zero) (S.mul (S.mul (F i s) st) (S.sig (List.range n) fun j => if s + 1 ≤ j then S.mul (F s j) (x j) else S.zero)) := by
      rw [← SR.sig_mul_left, ← SR.sig_add]
      refine SR.sig_congr fun j _ => ?_
      by_cases hj : s + 1 ≤ j
      · rw [if_pos hj, if_pos hj, if_pos hj]
        unfold thrG
        rw [SR.dist_r, S.mul_assoc (S.mul (F i s) st)]
      · rw [if_neg hj, if_neg hj, if_neg hj, S.mul_zero, S.add_zero]
    have e2 : (S.sig (List.range s) fun l => S.mul (thrG S F s st i l) (b l)) = S.add (S.sig (List.range s) fun l => S.mul (F i l) (b l)) (S.mul (S.mul (F i s) st) (S.sig (List.range s) fun l => S.mul (F s l) (b l))) := by
      rw [← SR.sig_mul_left, ← SR.sig_add]
      refine SR.sig_congr fun l _ => ?_
      unfold thrG
      rw [SR.dist_r, S.mul_assoc (S.mul (F i s) st)]
    rw [List.range_succ, SR.sig_append, e1, e2]
    show S.le (S.add (S.add _ _) (S.add (b i) (S.add (S.add _ _) (S.add (S.mul (thrG S F s st i s) (b s)) S.zero)))) (x i)
    rw [S.add_zero, thr_col hs]
    rw [← S.mul_assoc, hR s, hR i] at h2
    generalize (S.sig (List.range n) fun j => if s + 1 ≤ j then S.mul (F i j) (x j) else S.zero) = p at *
    generalize (S.sig (List.range n) fun j => if s + 1 ≤ j then S.mul (F s j) (x j) else S.zero) = q at *
    generalize (S.sig (List.range s) fun l => S.mul (F i l) (b l)) = u at *
    generalize (S.sig (List.range s) fun l => S.mul (F s l) (b l)) = v at *
    generalize S.mul (F i s) st = c at *
    rw [S.dist, S.dist] at h2
    have e3 : S.add (S.add p (S.mul c q)) (S.add (b i) (S.add (S.add u (S.mul c v)) (S.mul c (b s)))) = S.add (S.add (S.mul c q) (S.add (S.mul c (b s)) (S.mul c v))) (S.add p (S.add (b i) u)) := by
      generalize S.mul c q = cq
      generalize S.mul c v = cv
      generalize S.mul c (b s) = cb
      rw [S.add_comm p cq, S.add_assoc, S.add_assoc cq, S.add_comm (S.add cb cv), S.add_assoc p, S.add_assoc (b i), S.add_assoc u, S.add_comm cv]
    rw [e3]
    exact h2
/-- the table: rest where both places are one -/
def tabG (S : SR α) (F : Nat → Nat → α) (i j : Nat) : α := if i = j then S.add S.one (F i j) else F i j
theorem tab_sum {n i : Nat} (hi : i < n) (F : Nat → Nat → α) (b : Nat → α) : S.sig (List.range n) (fun l => S.mul (tabG S F i l) (b l)) = S.add (b i) (S.sig (List.range n) fun l => S.mul (F i l) (b l)) := by
  rw [← SR.sig_range_one hi b, ← SR.sig_add]
  refine SR.sig_congr fun l _ => ?_
  unfold tabG
  by_cases e : l = i
  · subst e
    rw [if_pos rfl, if_pos rfl, SR.dist_r, SR.one_mul]
  · rw [if_neg (fun z => e z.symm), if_neg e, SR.zero_add]
theorem tab_sumL {n j : Nat} (hj : j < n) (F : Nat → Nat → α) (b : Nat → α) : S.sig (List.range n) (fun l => S.mul (b l) (tabG S F l j)) = S.add (b j) (S.sig (List.range n) fun l => S.mul (b l) (F l j)) := by
  rw [← SR.sig_range_one hj b, ← SR.sig_add]
  refine SR.sig_congr fun l _ => ?_
  unfold tabG
  by_cases e : l = j
  · subst e
    rw [if_pos rfl, if_pos rfl, S.dist, S.mul_one]
  · rw [if_neg e, if_neg e, SR.zero_add]
/-- going on, coming from -/
theorem tab_on {A F : Nat → Nat → α} {n i j : Nat} (h : elimG S A n = some F) (hj : j < n) : tabG S F i j = S.add (if i = j then S.one else S.zero) (S.sig (List.range n) fun l => S.mul (A i l) (tabG S F l j)) := by
  rw [tab_sumL hj F (A i)]
  have := elim_left n F h i j
  unfold tabG
  by_cases e : i = j
  · rw [if_pos e, if_pos e, ← this]
  · rw [if_neg e, if_neg e, SR.zero_add]; exact this
theorem tab_from {A F : Nat → Nat → α} {n i j : Nat} (h : elimG S A n = some F) (hi : i < n) : tabG S F i j = S.add (if i = j then S.one else S.zero) (S.sig (List.range n) fun l => S.mul (tabG S F i l) (A l j)) := by
  rw [tab_sum hi F fun l => A l j]
  have := elim_right n F h i j
  unfold tabG
  by_cases e : i = j
  · rw [if_pos e, if_pos e, ← this]
  · rw [if_neg e, if_neg e, SR.zero_add]; exact this
/-- the least solution -/
theorem tab_least {A F : Nat → Nat → α} {n : Nat} (h : elimG S A n = some F) {x b : Nat → α} (hx : ∀ i, i < n → S.le (S.add (S.sig (List.range n) fun j => S.mul (A i j) (x j)) (b i)) (x i)) {i : Nat} (hi : i < n) :
    S.le (S.sig (List.range n) fun l => S.mul (tabG S F i l) (b l)) (x i) := by
  have := elim_least hx n F (Nat.le_refl n) h i hi
  have e : (S.sig (List.range n) fun j => if n ≤ j then S.mul (F i j) (x j) else S.zero) = S.zero := by
    refine (SR.sig_congr (g := fun _ => S.zero) fun j hj => if_neg ?_).trans (SR.sig_zero _)
    rw [List.mem_range] at hj; omega
  rw [e, SR.zero_add] at this
  rw [tab_sum hi]
  exact this
end
/-! ### M12: tables as worths -/
section
variable {α : Type} {S : SR α}
def strG (S : SR α) (rs : List (Rg α)) (i j : Nat) : α := S.sig rs fun r => if r.s = i ∧ r.t = j then r.w else S.zero
theorem str_on {rs : List (Rg α)} {n : Nat} (ok : ∀ r ∈ rs, r.t < n) (i : Nat) (x : Nat → α) : S.sig (List.range n) (fun l => S.mul (strG S rs i l) (x l)) = S.sig rs fun r => if r.s = i then S.mul r.w (x r.t) else S.zero := by
  have e : ∀ l, S.mul (strG S rs i l) (x l) = S.sig rs fun r => S.mul (if r.s = i ∧ r.t = l then r.w else S.zero) (x l) := fun l => (SR.sig_mul_right _ _ _).symm
  rw [SR.sig_congr (g := fun l => S.sig rs fun r => S.mul (if r.s = i ∧ r.t = l then r.w else S.zero) (x l)) fun l _ => e l, SR.sig_swap]
  refine SR.sig_congr fun r hr => ?_
  by_cases h : r.s = i
  · rw [if_pos h, ← SR.sig_range_one (ok r hr) fun l => S.mul r.w (x l)]
    refine SR.sig_congr fun l _ => ?_
    by_cases h2 : l = r.t
    · rw [if_pos ⟨h, h2.symm⟩, if_pos h2]
    · rw [if_neg fun z => h2 z.2.symm, if_neg h2, SR.zero_mul]
  · rw [if_neg h]
    refine (SR.sig_congr (g := fun _ => S.zero) fun l _ => ?_).trans (SR.sig_zero _)
    rw [if_neg fun z => h z.1, SR.zero_mul]
theorem str_from {rs : List (Rg α)} {n : Nat} (ok : ∀ r ∈ rs, r.s < n) (j : Nat) (x : Nat → α) : S.sig (List.range n) (fun l => S.mul (x l) (strG S rs l j)) = S.sig rs fun r => if r.t = j then S.mul (x r.s) r.w else S.zero := by
  have e : ∀ l, S.mul (x l) (strG S rs l j) = S.sig rs fun r => S.mul (x l) (if r.s = l ∧ r.t = j then r.w else S.zero) := fun l => (SR.sig_mul_left _ _ _).symm
  rw [SR.sig_congr (g := fun l => S.sig rs fun r => S.mul (x l) (if r.s = l ∧ r.t = j then r.w else S.zero)) fun l _ => e l, SR.sig_swap]
  refine SR.sig_congr fun r hr => ?_
  by_cases h : r.t = j
  · rw [if_pos h, ← SR.sig_range_one (ok r hr) fun l => S.mul (x l) r.w]
    refine SR.sig_congr fun l _ => ?_
    by_cases h2 : l = r.s
    · rw [if_pos ⟨h2.symm, h⟩, if_pos h2]
    · rw [if_neg fun z => h2 z.1.symm, if_neg h2, S.mul_zero]
  · rw [if_neg h]
    refine (SR.sig_congr (g := fun _ => S.zero) fun l _ => ?_).trans (SR.sig_zero _)
    rw [if_neg fun z => h z.2, S.mul_zero]
end
def strF (k : Kd) (i j : Nat) (a : Wo) (r : Rw) : Wo := if r.s = i ∧ r.t = j then tog k a r.w else a
def strW (k : Kd) (rs : List Rw) (i j : Nat) : Wo := rs.foldl (strF k i j) (noneW k)
def thrW (k : Kd) (F : Nat → Nat → Wo) (p : Nat) (st : Wo) (i j : Nat) : Wo := tog k (F i j) (beh k (beh k (F i p) st) (F p j))
def elimW (k : Kd) (F0 : Nat → Nat → Wo) : Nat → Option (Nat → Nat → Wo)
  | 0 => some F0
  | s + 1 => (elimW k F0 s).bind fun F => (rnd k (F s s)).bind fun st => some (thrW k F s st)
theorem elimW_none {k : Kd} {F0 : Nat → Nat → Wo} {s : Nat} (h : elimW k F0 s = none) : ∀ t, elimW k F0 (s + t) = none
  | 0 => h
  | t + 1 => by
    show (elimW k F0 (s + t)).bind _ = none
    rw [elimW_none h t]; rfl
def tabW (k : Kd) (F : Nat → Nat → Wo) (i j : Nat) : Wo := if i = j then tog k (restW k) (F i j) else F i j
/-- a matrix's worths -/
def valM {k : Kd} (G : Nat → Nat → Wk k) (i j : Nat) : Wo := (G i j).1
theorem str_fold {k : Kd} (hk : KOk k) {n : Nat} (i j : Nat) : ∀ {rs : List Rw} (h : RsOk k n rs) (a : Wk k),
    rs.foldl (strF k i j) a.1 = ((toG k rs h).foldl (fun a r => (kSR k hk).add a (if r.s = i ∧ r.t = j then r.w else (kSR k hk).zero)) a).1
  | [], _, a => rfl
  | r :: rs, h, a => by
    show rs.foldl _ (strF k i j a.1 r) = ((toG k rs _).foldl _ ((kSR k hk).add a (if r.s = i ∧ r.t = j then _ else _))).1
    have e : strF k i j a.1 r = ((kSR k hk).add a (if r.s = i ∧ r.t = j then ⟨r.w, (h r List.mem_cons_self).1⟩ else (kSR k hk).zero)).1 := by
      unfold strF
      by_cases hj : r.s = i ∧ r.t = j
      · rw [if_pos hj, if_pos hj]; rfl
      · rw [if_neg hj, if_neg hj, (kSR k hk).add_zero]
    rw [e]
    exact str_fold hk i j _ _
theorem strW_eq {k : Kd} (hk : KOk k) {n : Nat} {rs : List Rw} (h : RsOk k n rs) : strW k rs = valM (strG (kSR k hk) (toG k rs h)) := by
  funext i j
  have := str_fold hk i j h (kSR k hk).zero
  rw [SR.foldl_sig, SR.zero_add] at this
  exact this
theorem thrW_eq {k : Kd} (hk : KOk k) (G : Nat → Nat → Wk k) (p : Nat) (st : Wk k) : thrW k (valM G) p st.1 = valM (thrG (kSR k hk) G p st) := rfl
theorem elimW_eq {k : Kd} (hk : KOk k) (G0 : Nat → Nat → Wk k) : ∀ s, elimW k (valM G0) s = (elimG (kSR k hk) G0 s).map valM
  | 0 => rfl
  | s + 1 => by
    show (elimW k (valM G0) s).bind _ = ((elimG (kSR k hk) G0 s).bind _).map valM
    rw [elimW_eq hk G0 s]
    cases elimG (kSR k hk) G0 s with
    | none => rfl
    | some G =>
      show (rnd k (G s s).1).bind _ = (((kSR k hk).star (G s s)).bind _).map valM
      cases e : (kSR k hk).star (G s s) with
      | some st =>
        rw [kstar.1 e]; rfl
      | none =>
        cases e2 : rnd k (G s s).1 with
        | none => rfl
        | some st' =>
          have := (kstar (hk := hk) (a := G s s) (s := ⟨st', good_rnd hk (G s s).2 e2⟩)).2 e2
          rw [e] at this; cases this
theorem elimW_some {k : Kd} (hk : KOk k) {G0 : Nat → Nat → Wk k} {s : Nat} {F : Nat → Nat → Wo} (h : elimW k (valM G0) s = some F) : ∃ G, elimG (kSR k hk) G0 s = some G ∧ F = valM G := by
  rw [elimW_eq hk] at h
  obtain ⟨G, h1, h2⟩ := Option.map_eq_some_iff.1 h
  exact ⟨G, h1, h2.symm⟩
theorem tabW_eq {k : Kd} (hk : KOk k) (G : Nat → Nat → Wk k) (i j : Nat) : tabW k (valM G) i j = (tabG (kSR k hk) G i j).1 := by
  unfold tabW tabG
  split <;> rfl
/-! ### M13: bounds of tables -/
/-- bits of a table's worth after s places, of Counted and Likeliest -/
def bT (b s : Nat) : Nat := (b + 2) * 2 ^ s - 2
theorem bT_succ (b s : Nat) : bT b (s + 1) = 2 * bT b s + 2 := by
  unfold bT
  have : 1 ≤ 2 ^ s := Nat.one_le_iff_ne_zero.2 (Nat.pos_iff_ne_zero.1 (Nat.two_pow_pos s))
  have h : 1 * 1 ≤ (b + 2) * 2 ^ s := Nat.mul_le_mul (by omega) this
  have h2 : 2 * 1 ≤ (b + 2) * 2 ^ s := Nat.mul_le_mul (by omega) this
  rw [Nat.pow_succ, ← Nat.mul_assoc]
  omega
theorem str_bd {k : Kd} {n : Nat} {L c i j : Nat} : ∀ (rs : List Rw), RsOk k n rs → (∀ r ∈ rs, Bd k L c r.w) → ∀ a y, Good k a → Bd k L (c + y) a → Good k (rs.foldl (strF k i j) a) ∧ Bd k L (c + (y + rs.length)) (rs.foldl (strF k i j) a)
  | [], _, _, a, y, ga, ba => ⟨ga, ba⟩
  | r :: rs, ok, hr, a, y, ga, ba => by
    have g := (ok r List.mem_cons_self).1
    have e : Good k (strF k i j a r) ∧ Bd k L (c + (y + 1)) (strF k i j a r) := by
      unfold strF
      split
      · exact ⟨good_tog ga g, (bd_tog ga g ba (hr r List.mem_cons_self)).mono (by omega)⟩
      · exact ⟨ga, ba.mono (by omega)⟩
    have := str_bd (i := i) (j := j) rs (fun x hx => ok x (List.mem_cons_of_mem _ hx)) (fun x hx => hr x (List.mem_cons_of_mem _ hx)) _ (y + 1) e.1 e.2
    rw [List.length_cons]
    exact ⟨this.1, this.2.mono (by omega)⟩
theorem bd_ring {k : Kd} (h : k = .cnt ∨ k = .lik) {a s : Wo} (ga : Good k a) (hr : rnd k a = some s) : Bd k 1 1 s := by
  rcases h with rfl | rfl
  · obtain ⟨i, rfl, _⟩ := good_cnt ga
    cases hr
    by_cases e : i = 0
    · exact ⟨1, by rw [if_pos e], by decide⟩
    · exact ⟨-1, by rw [if_neg e], by decide⟩
  · obtain ⟨r, rfl, _⟩ := good_lik ga
    cases hr
    show sz (.rat 1) ≤ 1
    decide
theorem elim_bd {k : Kd} (hk : KOk k) (h : k = .cnt ∨ k = .lik) {G0 : Nat → Nat → Wk k} {b : Nat} (h0 : ∀ i j, Bd k 1 b (G0 i j).1) : ∀ s F, elimW k (valM G0) s = some F → ∀ i j, Good k (F i j) ∧ Bd k 1 (bT b s) (F i j)
  | 0, F, hF, i, j => by
    cases hF
    refine ⟨(G0 i j).2, ?_⟩
    have : bT b 0 = b := by unfold bT; simp
    rw [this]; exact h0 i j
  | s + 1, F', hF, i, j => by
    obtain ⟨G', hG, rfl⟩ := elimW_some hk hF
    obtain ⟨G, st, hG1, hs, rfl⟩ := elim_succ hG
    have hF1 : elimW k (valM G0) s = some (valM G) := by rw [elimW_eq hk, hG1]; rfl
    have ih := elim_bd hk h h0 s _ hF1
    have b1 := bd_ring h (G s s).2 (kstar.1 hs)
    refine ⟨(thrG (kSR k hk) G s st i j).2, ?_⟩
    have h2 := bd_beh (ih i s).1 st.2 (ih i s).2 b1
    have h3 := bd_beh (good_beh (ih i s).1 st.2) (ih s j).1 h2 (ih s j).2
    have h4 := bd_tog (ih i j).1 (good_beh (good_beh (ih i s).1 st.2) (ih s j).1) (ih i j).2 h3
    rw [bT_succ]
    exact h4.mono (by omega)
/-- a table of Chances after s places -/
def ChB (n : Nat) (D : Nat → Nat) (s : Nat) (F : Nat → Nat → Wo) : Prop := ∃ P : Nat, 1 ≤ P ∧ P < 2 ^ (24 * 2 ^ s - 23) ∧ ∀ i j, i < n → j < n → ∃ m : Nat, wq (F i j) * ((D i * P : Nat) : Rat) = (m : Rat) ∧ m < 2 ^ (25 * 2 ^ s - 1)
theorem two1 (s : Nat) : 1 ≤ 2 ^ s := Nat.one_le_iff_ne_zero.2 (Nat.pos_iff_ne_zero.1 (Nat.two_pow_pos s))
theorem ch_step {n : Nat} {D : Nat → Nat} (hD : ∀ i, 1 ≤ D i ∧ D i < 2 ^ 23) {s : Nat} (hs : s < n) {G : Nat → Nat → Wk .cha} {st : Wk .cha} {hk : KOk .cha} (h : ChB n D s (valM G)) (hst : (kSR .cha hk).star (G s s) = some st) : ChB n D (s + 1) (valM (thrG (kSR .cha hk) G s st)) := by
  obtain ⟨P, hP1, hP2, hm⟩ := h
  obtain ⟨m0, e0, l0⟩ := hm s s hs hs
  obtain ⟨r, er, hr0⟩ := good_cha (G s s).2
  have hrnd := kstar.1 hst
  rw [er] at hrnd
  have e0 : wq (G s s).1 * ((D s * P : Nat) : Rat) = (m0 : Rat) := e0
  rw [er] at e0
  have e0 : r * ((D s * P : Nat) : Rat) = (m0 : Rat) := e0
  simp only [rnd] at hrnd
  split at hrnd
  case isFalse => cases hrnd
  rename_i hr1
  have hst' : st.1 = .rat (1 / (1 - r)) := (Option.some.inj hrnd).symm
  have hDP : 1 ≤ D s * P := Nat.mul_le_mul (hD s).1 hP1
  have hlt : m0 < D s * P := by
    have h1 : (m0 : Rat) < ((D s * P : Nat) : Rat) := by
      rw [← e0]
      have := Rat.mul_lt_mul_of_pos_right hr1 (show (0 : Rat) < ((D s * P : Nat) : Rat) by exact_mod_cast hDP)
      rwa [Rat.one_mul] at this
    exact_mod_cast h1
  obtain ⟨Z, hZ⟩ : ∃ Z : Nat, D s * P = m0 + Z ∧ 1 ≤ Z := ⟨D s * P - m0, by omega, by omega⟩
  have hZr : ((D s * P : Nat) : Rat) = (m0 : Rat) + (Z : Rat) := by rw [hZ.1]; norm_cast
  have hZ1 : (1 - r) * ((D s * P : Nat) : Rat) = (Z : Rat) := by
    have : (1 - r) * ((D s * P : Nat) : Rat) = ((D s * P : Nat) : Rat) - r * ((D s * P : Nat) : Rat) := by grind
    rw [this, e0, hZr]; grind
  obtain ⟨u, hu⟩ : ∃ u : Rat, u = 1 / (1 - r) := ⟨_, rfl⟩
  have hne : (1 : Rat) - r ≠ 0 := by grind
  have huZ : u * (Z : Rat) = ((D s * P : Nat) : Rat) := by
    rw [← hZ1, hu, Rat.div_def, Rat.one_mul]
    have := Rat.inv_mul_cancel _ hne
    grind
  have hp := two1 s
  have e2 : (2 : Nat) ^ (s + 1) = 2 * 2 ^ s := by rw [Nat.pow_succ]; omega
  have hZlt : Z < 2 ^ (23 + (24 * 2 ^ s - 23)) := Nat.lt_of_le_of_lt (by omega) (mul_lt_pow (hD s).2 hP2)
  refine ⟨P * Z, Nat.mul_le_mul hP1 hZ.2, ?_, fun i j hi hj => ?_⟩
  · have := mul_lt_pow hP2 hZlt
    refine Nat.lt_of_lt_of_le this (pow2_le ?_)
    rw [e2]; omega
  obtain ⟨a, ea, la⟩ := hm i j hi hj
  obtain ⟨b, eb, lb⟩ := hm i s hi hs
  obtain ⟨c, ec, lc⟩ := hm s j hs hj
  refine ⟨a * Z + b * c, ?_, ?_⟩
  · have ew : valM (thrG (kSR .cha hk) G s st) i j = tog .cha (valM G i j) (beh .cha (beh .cha (valM G i s) st.1) (valM G s j)) := rfl
    obtain ⟨x, ex, _⟩ := good_cha (G i j).2
    obtain ⟨y, ey, _⟩ := good_cha (G i s).2
    obtain ⟨z, ez, _⟩ := good_cha (G s j).2
    have ex' : valM G i j = .rat x := ex
    have ey' : valM G i s = .rat y := ey
    have ez' : valM G s j = .rat z := ez
    rw [ew, hst', ← hu, ex', ey', ez', beh_cha, beh_cha, tog_cha]
    rw [ex'] at ea
    rw [ey'] at eb
    rw [ez'] at ec
    have ea : x * ((D i * P : Nat) : Rat) = (a : Rat) := ea
    have eb : y * ((D i * P : Nat) : Rat) = (b : Rat) := eb
    have ec : z * ((D s * P : Nat) : Rat) = (c : Rat) := ec
    have c1 : ((D i * (P * Z) : Nat) : Rat) = ((D i * P : Nat) : Rat) * (Z : Rat) := by rw [← Nat.mul_assoc]; norm_cast
    have c2 : ((a * Z + b * c : Nat) : Rat) = (a : Rat) * (Z : Rat) + (b : Rat) * (c : Rat) := by norm_cast
    show (x + y * u * z) * ((D i * (P * Z) : Nat) : Rat) = _
    rw [c1, c2, ← ea, ← eb, ← ec, ← huZ]
    generalize ((D i * P : Nat) : Rat) = q
    generalize (Z : Rat) = w
    grind
  · have h1 := mul_lt_pow la hZlt
    have h2 := mul_lt_pow lb lc
    have h3 : 2 ^ (25 * 2 ^ s - 1 + (23 + (24 * 2 ^ s - 23))) ≤ 2 ^ (50 * 2 ^ s - 2) := pow2_le (by omega)
    have h4 : 2 ^ (25 * 2 ^ s - 1 + (25 * 2 ^ s - 1)) ≤ 2 ^ (50 * 2 ^ s - 2) := pow2_le (by omega)
    have h5 : 2 ^ (25 * 2 ^ (s + 1) - 1) = 2 ^ (50 * 2 ^ s - 2) * 2 := by
      rw [← Nat.pow_succ]
      congr 1
      rw [e2]; omega
    rw [h5]; omega
/-- a share's bits by its parts -/
theorem ch_sz {n : Nat} {D : Nat → Nat} (hD : ∀ i, 1 ≤ D i ∧ D i < 2 ^ 23) {s : Nat} {F : Nat → Nat → Wo} (hg : ∀ i j, Good .cha (F i j)) (h : ChB n D s F) {i j : Nat} (hi : i < n) (hj : j < n) : sz (F i j) ≤ 25 * 2 ^ s := by
  obtain ⟨P, hP1, hP2, hm⟩ := h
  obtain ⟨m, e, l⟩ := hm i j hi hj
  have hp := two1 s
  have := bd_sz (hg i j) rfl (D := D i * P) (b := 25 * 2 ^ s - 1) (d := 23 + (24 * 2 ^ s - 23)) ⟨m, e, l⟩ (Nat.mul_le_mul (hD i).1 hP1) (mul_lt_pow (hD i).2 hP2)
  omega
theorem elim_cha {hk : KOk .cha} {n : Nat} {D : Nat → Nat} (hD : ∀ i, 1 ≤ D i ∧ D i < 2 ^ 23) {G0 : Nat → Nat → Wk .cha} (h0 : ChB n D 0 (valM G0)) : ∀ s G, s ≤ n → elimG (kSR .cha hk) G0 s = some G → ChB n D s (valM G)
  | 0, G, _, hG => by cases hG; exact h0
  | s + 1, G', hs, hG => by
    obtain ⟨G, st, hG1, hst, rfl⟩ := elim_succ hG
    exact ch_step hD (by omega) (elim_cha hD h0 s G (by omega) hG1) hst
/-- the straight table of a drawn net of Chances -/
theorem str_cha {n : Nat} {rs : List Rw} (ok : RsOk .cha n rs) {D : Nat → Nat} (ha : ∀ r ∈ rs, ∃ a : Nat, wq r.w * (D r.s : Rat) = (a : Rat)) (i j : Nat) : ∀ (l : List Rw), (∀ r ∈ l, r ∈ rs) → ∃ m : Nat, wq (l.foldl (strF .cha i j) (noneW .cha)) * (D i : Rat) = (m : Rat) ∧ wq (l.foldl (strF .cha i j) (noneW .cha)) ≤ sumW i l := by
  have go : ∀ (l : List Rw), (∀ r ∈ l, r ∈ rs) → ∀ q m0 : Rat, (∃ m : Nat, q * (D i : Rat) = (m : Rat)) → q ≤ m0 → 0 ≤ q → ∃ m : Nat, wq (l.foldl (strF .cha i j) (.rat q)) * (D i : Rat) = (m : Rat) ∧ wq (l.foldl (strF .cha i j) (.rat q)) ≤ l.foldl (sumF i) m0 := by
    intro l
    induction l with
    | nil => intro _ q m0 ⟨m, e⟩ h _; exact ⟨m, e, h⟩
    | cons r l ih =>
      intro hl q m0 ⟨m, e⟩ h h0
      have hr := hl r List.mem_cons_self
      have g := (ok r hr).1
      have w0 := wq_nonneg g
      show ∃ m : Nat, wq (l.foldl _ (strF .cha i j (.rat q) r)) * _ = _ ∧ wq (l.foldl _ (strF .cha i j (.rat q) r)) ≤ l.foldl _ (sumF i m0 r)
      unfold strF sumF
      by_cases c : r.s = i ∧ r.t = j
      · rw [if_pos c, if_pos c.1, wq_eq g, tog_cha]
        obtain ⟨a, ea⟩ := ha r hr
        refine ih (fun x hx => hl x (List.mem_cons_of_mem _ hx)) _ _ ⟨m + a, ?_⟩ (show q + wq r.w ≤ m0 + wq r.w from Rat.add_le_add_right.2 h) (Rat.add_nonneg h0 w0)
        have e2 : ((m + a : Nat) : Rat) = (m : Rat) + (a : Rat) := by norm_cast
        rw [e2, Rat.add_mul, e, ← ea, c.1]
      · rw [if_neg c]
        refine ih (fun x hx => hl x (List.mem_cons_of_mem _ hx)) _ _ ⟨m, e⟩ ?_ h0
        by_cases c2 : r.s = i
        · rw [if_pos c2]
          have := Rat.add_le_add_left (c := m0).2 w0
          rw [Rat.add_zero] at this
          exact Rat.le_trans h this
        · rw [if_neg c2]; exact h
  intro l hl
  exact go l hl 0 0 ⟨0, by rw [Rat.zero_mul]; rfl⟩ Rat.le_refl Rat.le_refl
/-- what the deeds ask there -/
def ThrOk (k : Kd) (n : Nat) (F : Nat → Nat → Wo) (p : Nat) : Prop := (∀ i j, i < n → j < n → Good k (F i j)) ∧ Fit1 k (F p p) ∧ ∀ st, rnd k (F p p) = some st → ∀ i j, i < n → j < n → Fits k (F i p) st ∧ Fits k (beh k (F i p) st) (F p j) ∧ Fits k (F i j) (beh k (beh k (F i p) st) (F p j))
/-- what the deeds ask of a whole table -/
structure TabOk (k : Kd) (n : Nat) (rs : List Rw) : Prop where
  str : ∀ m i j r, rs[m]? = some r → Good k ((rs.take m).foldl (strF k i j) (noneW k)) ∧ Fits k ((rs.take m).foldl (strF k i j) (noneW k)) r.w
  thr : ∀ s F, s < n → elimW k (strW k rs) s = some F → ThrOk k n F s
  fin : ∀ F, elimW k (strW k rs) n = some F → ∀ i j, i < n → j < n → Good k (F i j) ∧ Fits k (restW k) (F i j)
/-! ### M14: TabOk of drawn nets -/
theorem tabOk_plain {k : Kd} (hk : KOk k) (hb : bitK k = false) {n : Nat} {rs : List Rw} (ok : RsOk k n rs) : TabOk k n rs := by
  have ff : ∀ a b, Fits k a b := fun a b => fits_of fun h => by rw [hb] at h; cases h
  have gg : ∀ s F, elimW k (strW k rs) s = some F → ∀ i j, Good k (F i j) := fun s F h i j => by
    rw [strW_eq hk ok] at h
    obtain ⟨G, _, rfl⟩ := elimW_some hk h
    exact (G i j).2
  refine ⟨fun m i j r hr => ⟨?_, ff _ _⟩, fun s F hs h => ⟨fun i j _ _ => gg s F h i j, fit1_of (fun z => by rw [hb] at z; cases z), fun st _ i j _ _ => ⟨ff _ _, ff _ _, ff _ _⟩⟩, fun F h i j _ _ => ⟨gg n F h i j, ff _ _⟩⟩
  have ok' : RsOk k n (rs.take m) := fun r hr => ok r (List.mem_of_mem_take hr)
  have := strW_eq hk ok'
  show Good k (strW k (rs.take m) i j)
  rw [this]
  exact (strG (kSR k hk) (toG k (rs.take m) ok') i j).2
/-- what the kinds bear -/
def lim : Kd → Nat
  | .cnt => 900000 | _ => 8000
theorem fits_lim {k : Kd} {a b : Wo} (h : bitK k = true → sz a + sz b ≤ lim k) : Fits k a b := by
  cases k <;> first | trivial | exact h rfl
theorem fit1_lim {k : Kd} {a : Wo} (h : bitK k = true → sz a ≤ lim k) : Fit1 k a := by cases k <;> first | trivial | exact h rfl
theorem thrOk_of {k : Kd} (hk : KOk k) {n B : Nat} {F : Nat → Nat → Wo} {p : Nat} (hp : p < n) (hg : ∀ i j, i < n → j < n → Good k (F i j)) (hz : bitK k = true → ∀ i j, i < n → j < n → sz (F i j) ≤ B) (hB : bitK k = true → 4 * B ≤ lim k) : ThrOk k n F p := by
  refine ⟨hg, fit1_lim fun hb => ?_, fun st hst i j hi hj => ?_⟩
  · have := hz hb p p hp hp
    have := hB hb
    omega
  have gs := good_rnd hk (hg p p hp hp) hst
  have g1 := hg i p hi hp
  have g2 := hg p j hp hj
  have gb := good_beh g1 gs
  refine ⟨fits_lim fun hb => ?_, fits_lim fun hb => ?_, fits_lim fun hb => ?_⟩
  all_goals
    have z1 := hz hb i p hi hp
    have z2 := hz hb p j hp hj
    have z3 := hz hb i j hi hj
    have z4 := hz hb p p hp hp
    have z5 := sz_rnd hb (hg p p hp hp) hst
    have z6 := sz_beh hb g1 gs
    have z7 := sz_beh hb gb g2
    have := hB hb
    omega
/-- the straight table's bits -/
theorem str_good {k : Kd} (hk : KOk k) {n : Nat} {rs : List Rw} (ok : RsOk k n rs) (i j : Nat) : Good k (strW k rs i j) := by
  rw [strW_eq hk ok]; exact (strG (kSR k hk) (toG k rs ok) i j).2
theorem str_lik {n i j b : Nat} (hb : 1 ≤ b) : ∀ (rs : List Rw) (a : Wo), RsOk .lik n rs → Good .lik a → (∀ r ∈ rs, sz r.w ≤ b) → sz a ≤ b → sz (rs.foldl (strF .lik i j) a) ≤ b
  | [], a, _, _, _, h => h
  | r :: rs, a, ok, ga, hr, h => by
    have g := (ok r List.mem_cons_self).1
    refine str_lik hb rs (strF .lik i j a r) (fun x hx => ok x (List.mem_cons_of_mem _ hx)) ?_ (fun x hx => hr x (List.mem_cons_of_mem _ hx)) ?_
    · unfold strF; split
      · exact good_tog ga g
      · exact ga
    · unfold strF; split
      · obtain ⟨x, rfl, _⟩ := good_lik ga
        obtain ⟨y, ey, _⟩ := good_lik g
        have := hr r List.mem_cons_self
        rw [ey] at this ⊢
        rw [tog_lik]; unfold likT; split
        · exact this
        · exact h
      · exact h
/-- the bits of the straight table and of its parts -/
def szS : Kd → Nat
  | .cnt => 170 | .lik => 4 | _ => 25
theorem str_sz {k : Kd} {most extra n : Nat} {rs : List Rw} (N : NetD k most extra n rs) (hx : extra ≤ 64) (hb : bitK k = true) (m i j : Nat) : sz ((rs.take m).foldl (strF k i j) (noneW k)) ≤ szS k := by
  have ok' : RsOk k n (rs.take m) := fun r hr => N.ok r (List.mem_of_mem_take hr)
  have hl : (rs.take m).length ≤ 64 := by have := N.len; rw [List.length_take]; omega
  cases k with
  | cnt =>
    have hr : ∀ r ∈ rs.take m, Bd .cnt 1 100 r.w := fun r hr => by
      obtain ⟨x, e, hx⟩ := good_cnt (N.ok r (List.mem_of_mem_take hr)).1
      have hz := N.sz rfl r (List.mem_of_mem_take hr)
      rw [e] at hz ⊢
      have hz : sz (.int x) ≤ 100 := hz
      refine ⟨x, rfl, ?_⟩
      have h1 := lt_int x
      have h2 : x.natAbs < 2 ^ 100 := Nat.lt_of_lt_of_le h1 (pow2_le hz)
      have h3 : (2 : Int) ^ 100 = ((2 ^ 100 : Nat) : Int) := by norm_cast
      rw [h3]; omega
    obtain ⟨g, h⟩ := str_bd (i := i) (j := j) (rs.take m) ok' hr (noneW .cnt) 0 (good_none _) (bd_none _ _ _ (by omega))
    have := bd_sz (d := 1) g rfl h (Nat.le_refl 1) (by decide)
    show sz _ ≤ 170
    omega
  | lik => exact str_lik (b := 4) (by decide) (rs.take m) _ ok' (good_none _) (fun r hr => N.sz rfl r (List.mem_of_mem_take hr)) (by decide)
  | cha =>
    obtain ⟨D, hD, ha, h1⟩ := N.cha rfl
    obtain ⟨a, e, hle⟩ := str_cha N.ok ha i j (rs.take m) fun r hr => List.mem_of_mem_take hr
    have g : Good .cha ((rs.take m).foldl (strF .cha i j) (noneW .cha)) := str_good (k := .cha) trivial ok' i j
    have s1 : sumW i (rs.take m) ≤ 1 := by
      refine Rat.le_trans ?_ (h1 i)
      have e2 : rs = rs.take m ++ rs.drop m := (List.take_append_drop m rs).symm
      have e3 : sumW i rs = sumW i (rs.take m) + sumW i (rs.drop m) := by
        conv => lhs; rw [e2]
        unfold sumW
        rw [List.foldl_append, sumF_add]; rfl
      have := (sumF_le i (rs.drop m) fun r hr => (N.ok r (List.mem_of_mem_drop hr)).1).1
      rw [e3]
      grind
    have := sz_parts (hD i).1 (hD i).2 e (Rat.le_trans hle s1) (wq_nonneg g)
    rw [wq_eq g]
    show sz _ ≤ 25
    omega
  | _ => cases hb
/-- the bits after s places -/
def szT (k : Kd) (s : Nat) : Nat := match k with
  | .cnt => bT 170 s + 1 | .lik => bT 4 s + 1 | _ => 25 * 2 ^ s
theorem elim_sz {k : Kd} (hk : KOk k) {most extra n : Nat} {rs : List Rw} (N : NetD k most extra n rs) (hx : extra ≤ 64) (hb : bitK k = true) {s : Nat} (hs : s ≤ n) {F : Nat → Nat → Wo} (h : elimW k (strW k rs) s = some F) {i j : Nat} (hi : i < n) (hj : j < n) : sz (F i j) ≤ szT k s := by
  have e0 := strW_eq hk N.ok
  have s0 := fun i j => str_sz N hx hb rs.length i j
  rw [List.take_length] at s0
  cases k with
  | cnt =>
    have h0 : ∀ i j, Bd .cnt 1 170 (strG (kSR .cnt hk) (toG .cnt rs N.ok) i j).1 := fun i j => by
      have g := str_good hk N.ok i j
      have z : sz (strW .cnt rs i j) ≤ 170 := s0 i j
      have e : (strG (kSR .cnt hk) (toG .cnt rs N.ok) i j).1 = strW .cnt rs i j := by rw [e0]; rfl
      rw [e]
      obtain ⟨x, ex, hx⟩ := good_cnt g
      rw [ex] at z ⊢
      refine ⟨x, rfl, ?_⟩
      have h2 : x.natAbs < 2 ^ 170 := Nat.lt_of_lt_of_le (lt_int x) (pow2_le z)
      have h3 : (2 : Int) ^ 170 = ((2 ^ 170 : Nat) : Int) := by norm_cast
      rw [h3]; omega
    rw [e0] at h
    obtain ⟨g, hbd⟩ := elim_bd hk (.inl rfl) h0 s F h i j
    have := bd_sz (d := 1) g rfl hbd (Nat.le_refl 1) (by decide)
    show sz _ ≤ bT 170 s + 1
    omega
  | lik =>
    have h0 : ∀ i j, Bd .lik 1 4 (strG (kSR .lik hk) (toG .lik rs N.ok) i j).1 := fun i j => by
      have e : (strG (kSR .lik hk) (toG .lik rs N.ok) i j).1 = strW .lik rs i j := by rw [e0]; rfl
      rw [e]; exact s0 i j
    rw [e0] at h
    obtain ⟨g, hbd⟩ := elim_bd hk (.inr rfl) h0 s F h i j
    exact Nat.le_trans hbd (Nat.le_succ _)
  | cha =>
    obtain ⟨D, hD, ha, h1⟩ := N.cha rfl
    have h0 : ChB n D 0 (valM (strG (kSR .cha hk) (toG .cha rs N.ok))) := by
      rw [← e0]
      refine ⟨1, Nat.le_refl 1, by decide, fun i j hi hj => ?_⟩
      obtain ⟨a, e, hle⟩ := str_cha N.ok ha i j rs fun r hr => hr
      have e : wq (strW .cha rs i j) * (D i : Rat) = (a : Rat) := e
      have hle : wq (strW .cha rs i j) ≤ sumW i rs := hle
      refine ⟨a, by rw [Nat.mul_one]; exact e, ?_⟩
      have : (a : Rat) ≤ (D i : Rat) := by
        rw [← e]
        have := Rat.mul_le_mul_of_nonneg_right (Rat.le_trans hle (h1 i)) (nat_nonneg (D i))
        rwa [Rat.one_mul] at this
      have := nat_lt_of_rat this
      have h2 := (hD i).2
      have h3 : 2 ^ 23 ≤ 2 ^ (25 * 2 ^ 0 - 1) := pow2_le (by decide)
      omega
    rw [e0] at h
    obtain ⟨G, hG, rfl⟩ := elimW_some hk h
    exact ch_sz hD (fun i j => (G i j).2) (elim_cha hD h0 s G hs hG) hi hj
  | _ => cases hb
theorem pow8 {s : Nat} (h : s ≤ 8) : 2 ^ s ≤ 2 ^ 8 := pow2_le h
theorem tabOk_net {k : Kd} (hk : KOk k) {most extra n : Nat} {rs : List Rw} (N : NetD k most extra n rs) (hx : extra ≤ 64) (hn : n ≤ 8) (hc : k = .cha → n ≤ 7) : TabOk k n rs := by
  by_cases hb : bitK k = true
  case neg => exact tabOk_plain hk (by simpa using hb) N.ok
  have gg : ∀ s F, elimW k (strW k rs) s = some F → ∀ i j, Good k (F i j) := fun s F h i j => by
    rw [strW_eq hk N.ok] at h
    obtain ⟨G, _, rfl⟩ := elimW_some hk h
    exact (G i j).2
  refine ⟨fun m i j r hr => ⟨?_, fits_lim fun _ => ?_⟩, fun s F hs h => ?_, fun F h i j hi hj => ⟨gg n F h i j, fits_lim fun _ => ?_⟩⟩
  · exact str_good hk (fun r hr => N.ok r (List.mem_of_mem_take hr)) i j
  · have h1 := str_sz N hx hb m i j
    have h2 := N.sz hb r (List.mem_of_getElem? hr)
    have : szB k ≤ 100 := by cases k <;> simp [szB]
    have h3 : szS k ≤ 170 := by cases k <;> simp [szS]
    have h4 : 8000 ≤ lim k := by cases k <;> simp [lim]
    omega
  · refine thrOk_of hk hs (B := szT k s) (fun i j _ _ => gg s F h i j) (fun _ i j hi hj => elim_sz hk N hx hb (Nat.le_of_lt hs) h hi hj) fun _ => ?_
    have p8 : 2 ^ s ≤ 2 ^ 7 := pow2_le (by omega)
    cases k with
    | cnt => show 4 * (bT 170 s + 1) ≤ 900000; unfold bT; omega
    | lik => show 4 * (bT 4 s + 1) ≤ 8000; unfold bT; omega
    | cha =>
      have := hc rfl
      have p6 : 2 ^ s ≤ 2 ^ 6 := pow2_le (by omega)
      show 4 * (25 * 2 ^ s) ≤ 8000; omega
    | _ => cases hb
  · have z := elim_sz hk N hx hb (Nat.le_refl n) h hi hj
    have zr := sz_rest k
    have p8 : 2 ^ n ≤ 2 ^ 8 := pow2_le hn
    cases k with
    | cnt => change _ ≤ bT 170 n + 1 at z; unfold bT at z; show _ ≤ 900000; omega
    | lik => change _ ≤ bT 4 n + 1 at z; unfold bT at z; show _ ≤ 8000; omega
    | cha =>
      have p7 : 2 ^ n ≤ 2 ^ 7 := pow2_le (hc rfl)
      change _ ≤ 25 * 2 ^ n at z; show _ ≤ 8000; omega
    | _ => cases hb
/-! ### M15: going on and coming from, as worths -/
theorem tab_good {k : Kd} (hk : KOk k) {n : Nat} {rs : List Rw} (ok : RsOk k n rs) {s : Nat} {F : Nat → Nat → Wo} (h : elimW k (strW k rs) s = some F) (i j : Nat) : Good k (F i j) ∧ Good k (tabW k F i j) := by
  rw [strW_eq hk ok] at h
  obtain ⟨G, _, rfl⟩ := elimW_some hk h
  refine ⟨(G i j).2, ?_⟩
  rw [tabW_eq hk]; exact (tabG (kSR k hk) G i j).2
/-- rest over any denominator -/
theorem bd_restD (k : Kd) {D d : Nat} (hd : D < 2 ^ d) : Bd k D (max 31 d) (restW k) := by
  cases k <;> first | trivial | skip
  case cnt =>
    have h1 := p2_le (Nat.le_max_left 31 d)
    have h2 : (1 : Int) < 2 ^ 31 := by decide
    exact ⟨1, rfl, Int.lt_of_lt_of_le h2 h1⟩
  case lik =>
    have h1 : sz (.rat 1) ≤ 31 := by decide
    exact Nat.le_trans h1 (Nat.le_max_left 31 d)
  case cha => exact ⟨D, by show (1 : Rat) * (D : Rat) = (D : Rat); rw [Rat.one_mul], Nat.lt_of_lt_of_le hd (pow2_le (Nat.le_max_right 31 d))⟩
theorem bd_scale {D M b d : Nat} {a : Wo} (h : Bd .cha D b a) (hM : M < 2 ^ d) : Bd .cha (D * M) (b + d) a := by
  obtain ⟨m, e, l⟩ := h
  refine ⟨m * M, ?_, mul_lt_pow l hM⟩
  have e1 : ((D * M : Nat) : Rat) = (D : Rat) * (M : Rat) := by norm_cast
  have e2 : ((m * M : Nat) : Rat) = (m : Rat) * (M : Rat) := by norm_cast
  rw [e1, e2, ← e, Rat.mul_assoc]
/-- bits of a table -/
def tB (n : Nat) : Kd → Nat
  | .cnt => 44500 | .lik => 6 * 2 ^ n + 40 | _ => 25 * 2 ^ n + 23 * n + 40
theorem tab_bd {k : Kd} (hk : KOk k) {most extra n : Nat} {rs : List Rw} (N : NetD k most extra n rs) (hx : extra ≤ 64) (hn : n ≤ 8) {F : Nat → Nat → Wo} (h : elimW k (strW k rs) n = some F) :
    ∃ L c d, 1 ≤ L ∧ L < 2 ^ d ∧ (∀ i j, i < n → j < n → Bd k L c (tabW k F i j)) ∧ (bitK k = true → c ≤ tB n k ∧ d ≤ tB n k) := by
  have hp := two1 n
  by_cases hb : bitK k = true
  case neg => exact ⟨1, 0, 1, Nat.le_refl 1, by decide, fun i j _ _ => by cases k <;> first | trivial | exact absurd rfl hb, fun z => absurd z hb⟩
  have hg := fun i j => (tab_good hk N.ok h i j).1
  have p8 : 2 ^ n ≤ 2 ^ 8 := pow2_le hn
  cases k with
  | cnt =>
    refine ⟨1, 44100, 1, Nat.le_refl 1, by decide, fun i j hi hj => ?_, fun _ => ⟨by show 44100 ≤ 44500; omega, by show 1 ≤ 44500; omega⟩⟩
    have z := elim_sz hk N hx rfl (Nat.le_refl n) h hi hj
    have e : Bd .cnt 1 44040 (F i j) := by
      obtain ⟨x, ex, _⟩ := good_cnt (hg i j)
      rw [ex] at z ⊢
      change sz (.int x) ≤ bT 170 n + 1 at z
      unfold bT at z
      refine ⟨x, rfl, ?_⟩
      generalize hB : 44040 = B at *
      have h2 : x.natAbs < 2 ^ B := Nat.lt_of_lt_of_le (lt_int x) (pow2_le (by omega))
      have h3 : (2 : Int) ^ B = ((2 ^ B : Nat) : Int) := (Int.natCast_pow 2 B).symm
      rw [h3]; omega
    unfold tabW
    split
    · exact (bd_tog (good_rest hk) (hg i j) (bd_rest .cnt) e).mono (by omega)
    · exact e.mono (by omega)
  | lik =>
    refine ⟨1, 6 * 2 ^ n + 34, 1, Nat.le_refl 1, by decide, fun i j hi hj => ?_, fun _ => ⟨by show _ ≤ 6 * 2 ^ n + 40; omega, by show 1 ≤ 6 * 2 ^ n + 40; omega⟩⟩
    have z := elim_sz hk N hx rfl (Nat.le_refl n) h hi hj
    have e : Bd .lik 1 (6 * 2 ^ n) (F i j) := by
      change sz (F i j) ≤ bT 4 n + 1 at z
      unfold bT at z
      show sz (F i j) ≤ _; omega
    unfold tabW
    split
    · exact (bd_tog (good_rest hk) (hg i j) (bd_rest .lik) e).mono (by omega)
    · exact e.mono (by omega)
  | cha =>
    obtain ⟨D, hD, ha, h1⟩ := N.cha rfl
    have e0 := strW_eq hk N.ok
    have h0 : ChB n D 0 (valM (strG (kSR .cha hk) (toG .cha rs N.ok))) := by
      rw [← e0]
      refine ⟨1, Nat.le_refl 1, by decide, fun i j hi hj => ?_⟩
      obtain ⟨a, e, hle⟩ := str_cha N.ok ha i j rs fun r hr => hr
      have e : wq (strW .cha rs i j) * (D i : Rat) = (a : Rat) := e
      have hle : wq (strW .cha rs i j) ≤ sumW i rs := hle
      refine ⟨a, by rw [Nat.mul_one]; exact e, ?_⟩
      have : (a : Rat) ≤ (D i : Rat) := by
        rw [← e]
        have := Rat.mul_le_mul_of_nonneg_right (Rat.le_trans hle (h1 i)) (nat_nonneg (D i))
        rwa [Rat.one_mul] at this
      have := nat_lt_of_rat this
      have h2 := (hD i).2
      have h3 : 2 ^ 23 ≤ 2 ^ (25 * 2 ^ 0 - 1) := pow2_le (by decide)
      omega
    rw [e0] at h
    obtain ⟨G, hG, rfl⟩ := elimW_some hk h
    obtain ⟨P, hP1, hP2, hm⟩ := elim_cha hD h0 n G (Nat.le_refl n) hG
    obtain ⟨q1, q2⟩ := prodD_pos hD n
    have hLlt : prodD D n * P < 2 ^ (23 * n + 1 + (24 * 2 ^ n - 23)) := mul_lt_pow q2 hP2
    refine ⟨prodD D n * P, 25 * 2 ^ n + 23 * n + 33, 23 * n + 1 + (24 * 2 ^ n - 23), Nat.mul_le_mul q1 hP1, hLlt, fun i j hi hj => ?_, fun _ => ⟨by show _ ≤ 25 * 2 ^ n + 23 * n + 40; omega, by show _ ≤ 25 * 2 ^ n + 23 * n + 40; omega⟩⟩
    have e : Bd .cha (prodD D n * P) (25 * 2 ^ n - 1 + (23 * n + 1)) (valM G i j) := by
      obtain ⟨m, em, lm⟩ := hm i j hi hj
      obtain ⟨x, hx⟩ := prodD_dvd (D := D) hi
      have hx1 : x < 2 ^ (23 * n + 1) := by
        refine Nat.lt_of_le_of_lt ?_ q2
        rw [hx]
        exact Nat.le_mul_of_pos_left x (hD i).1
      have := bd_scale (D := D i * P) (b := 25 * 2 ^ n - 1) ⟨m, em, lm⟩ hx1
      rwa [show prodD D n * P = D i * P * x by rw [hx, Nat.mul_assoc, Nat.mul_assoc, Nat.mul_comm x]]
    unfold tabW
    split
    · exact (bd_tog (good_rest hk) (hg i j) (bd_restD .cha hLlt) e).mono (by omega)
    · exact e.mono (by omega)
  | _ => cases hb
/-- what the law reckons at i, j: going on (or coming from) -/
def dueS (k : Kd) (R : Nat → Nat → Wo) (i j : Nat) (fw : Bool) (a : Wo) (r : Rw) : Wo := if fw = true then (if r.s = i then tog k a (beh k r.w (R r.t j)) else a) else (if r.t = j then tog k a (beh k (R i r.s) r.w) else a)
def due0 (k : Kd) (i j : Nat) : Wo := if i = j then restW k else noneW k
theorem dueS_fold {k : Kd} (hk : KOk k) {n : Nat} (R : Nat → Nat → Wk k) (i j : Nat) (fw : Bool) : ∀ {rs : List Rw} (h : RsOk k n rs) (a : Wk k),
    rs.foldl (dueS k (valM R) i j fw) a.1 = ((toG k rs h).foldl (fun a r => (kSR k hk).add a (if fw = true then (if r.s = i then (kSR k hk).mul r.w (R r.t j) else (kSR k hk).zero) else (if r.t = j then (kSR k hk).mul (R i r.s) r.w else (kSR k hk).zero))) a).1
  | [], _, a => rfl
  | r :: rs, h, a => by
    show rs.foldl _ (dueS k (valM R) i j fw a.1 r) = ((toG k rs _).foldl _ ((kSR k hk).add a (if fw = true then (if r.s = i then _ else _) else (if r.t = j then _ else _)))).1
    have e : dueS k (valM R) i j fw a.1 r = ((kSR k hk).add a (if fw = true then (if r.s = i then (kSR k hk).mul ⟨r.w, (h r List.mem_cons_self).1⟩ (R r.t j) else (kSR k hk).zero) else (if r.t = j then (kSR k hk).mul (R i r.s) ⟨r.w, (h r List.mem_cons_self).1⟩ else (kSR k hk).zero))).1 := by
      unfold dueS
      cases fw with
      | true =>
        rw [if_pos rfl, if_pos rfl]
        by_cases hj : r.s = i
        · rw [if_pos hj, if_pos hj]; rfl
        · rw [if_neg hj, if_neg hj, (kSR k hk).add_zero]
      | false =>
        rw [if_neg Bool.false_ne_true, if_neg Bool.false_ne_true]
        by_cases hj : r.t = j
        · rw [if_pos hj, if_pos hj]; rfl
        · rw [if_neg hj, if_neg hj, (kSR k hk).add_zero]
    rw [e]
    exact dueS_fold hk R i j fw _ _
theorem due_tab {k : Kd} (hk : KOk k) {n : Nat} {rs : List Rw} (ok : RsOk k n rs) {F : Nat → Nat → Wo} (h : elimW k (strW k rs) n = some F) {i j : Nat} (hi : i < n) (hj : j < n) (fw : Bool) : rs.foldl (dueS k (tabW k F) i j fw) (due0 k i j) = tabW k F i j := by
  rw [strW_eq hk ok] at h
  obtain ⟨G, hG, rfl⟩ := elimW_some hk h
  have eT : tabW k (valM G) = valM (tabG (kSR k hk) G) := by funext i j; exact tabW_eq hk G i j
  have e0 : due0 k i j = (if i = j then (kSR k hk).one else (kSR k hk).zero).1 := by unfold due0; split <;> rfl
  rw [eT, e0, dueS_fold hk (tabG (kSR k hk) G) i j fw ok, SR.foldl_sig]
  have okG := toG_ok ok
  cases fw with
  | true =>
    have := tab_on hG (i := i) hj
    rw [str_on (fun r hr => (okG r hr).2) i fun l => tabG (kSR k hk) G l j] at this
    exact congrArg Subtype.val this.symm
  | false =>
    have := tab_from hG (j := j) hi
    rw [str_from (fun r hr => (okG r hr).1) j fun l => tabG (kSR k hk) G i l] at this
    exact congrArg Subtype.val this.symm
theorem due_bd {k : Kd} {n : Nat} {R : Nat → Nat → Wo} {L c L' c' i j : Nat} {fw : Bool} (hi : i < n) (hj : j < n) (hR : ∀ i j, i < n → j < n → Good k (R i j) ∧ Bd k L c (R i j)) : ∀ (rs : List Rw), RsOk k n rs → (∀ r ∈ rs, Bd k L' c' r.w) →
    ∀ a x, Good k a → Bd k (L' * L) (c' + c + x) a → Good k (rs.foldl (dueS k R i j fw) a) ∧ Bd k (L' * L) (c' + c + (x + rs.length)) (rs.foldl (dueS k R i j fw) a)
  | [], _, _, a, x, ga, ba => ⟨ga, ba⟩
  | r :: rs, ok, hr, a, x, ga, ba => by
    obtain ⟨g, rs1, rt1⟩ := ok r List.mem_cons_self
    have hw := hr r List.mem_cons_self
    have e : Good k (dueS k R i j fw a r) ∧ Bd k (L' * L) (c' + c + (x + 1)) (dueS k R i j fw a r) := by
      unfold dueS
      split
      · split
        · obtain ⟨h1, h2⟩ := hR r.t j rt1 hj
          exact ⟨good_tog ga (good_beh g h1), (bd_tog ga (good_beh g h1) ba (bd_beh g h1 hw h2)).mono (by omega)⟩
        · exact ⟨ga, ba.mono (by omega)⟩
      · split
        · obtain ⟨h1, h2⟩ := hR i r.s hi rs1
          have := bd_beh h1 g h2 hw
          rw [Nat.mul_comm L L'] at this
          exact ⟨good_tog ga (good_beh h1 g), (bd_tog ga (good_beh h1 g) ba this).mono (by omega)⟩
        · exact ⟨ga, ba.mono (by omega)⟩
    have := due_bd (fw := fw) hi hj hR rs (fun x hx => ok x (List.mem_cons_of_mem _ hx)) (fun x hx => hr x (List.mem_cons_of_mem _ hx)) _ (x + 1) e.1 e.2
    rw [List.length_cons]
    exact ⟨this.1, this.2.mono (by omega)⟩
/-- what the law's deeds ask -/
structure DueOk (k : Kd) (n : Nat) (rs : List Rw) (R : Nat → Nat → Wo) : Prop where
  good : ∀ i j, i < n → j < n → Good k (R i j)
  mid : ∀ i j, i < n → j < n → ∀ fw m, Good k ((rs.take m).foldl (dueS k R i j fw) (due0 k i j))
  fb : ∀ r ∈ rs, ∀ i j, i < n → j < n → Fits k r.w (R i j) ∧ Fits k (R i j) r.w
  ft : ∀ i j, i < n → j < n → ∀ fw m r, r ∈ rs → (fw = true → Fits k ((rs.take m).foldl (dueS k R i j fw) (due0 k i j)) (beh k r.w (R r.t j))) ∧ (fw = false → Fits k ((rs.take m).foldl (dueS k R i j fw) (due0 k i j)) (beh k (R i r.s) r.w))
theorem dueOk_of {k : Kd} (hk : KOk k) {most extra n : Nat} {rs : List Rw} (N : NetD k most extra n rs) (hm : most ≤ 8) (hx : extra ≤ 24) (hn6 : k = .cha → n ≤ 6) {F : Nat → Nat → Wo} (h : elimW k (strW k rs) n = some F) : DueOk k n rs (tabW k F) := by
  have ok := N.ok
  have hn8 : n ≤ 8 := Nat.le_trans N.nm hm
  have hl := N.len
  obtain ⟨L, c, d, l1, ld, hb, hcd⟩ := tab_bd hk N (by omega) hn8 h
  obtain ⟨L', c', d', B, hc', hd'⟩ := stepB_of' (s := 1) N hm hx (by decide) (fun _ => by decide) (fun _ => by decide)
  have hR : ∀ i j, i < n → j < n → Good k (tabW k F i j) ∧ Bd k L c (tabW k F i j) := fun i j hi hj => ⟨(tab_good hk ok h i j).2, hb i j hi hj⟩
  have LL1 : 1 ≤ L' * L := Nat.mul_le_mul B.l1 l1
  have LLd : L' * L < 2 ^ (d' + d) := mul_lt_pow B.ld ld
  have st : ∀ i j, Good k (due0 k i j) ∧ Bd k (L' * L) (c' + c + (31 + (d' + d - (c' + c)))) (due0 k i j) := fun i j => by
    unfold due0
    split
    · exact ⟨good_rest hk, (bd_restD k LLd).mono (by omega)⟩
    · exact ⟨good_none k, bd_none k _ _ (by omega)⟩
  have md : ∀ i j, i < n → j < n → ∀ fw m, Good k ((rs.take m).foldl (dueS k (tabW k F) i j fw) (due0 k i j)) ∧ Bd k (L' * L) (c' + c + (31 + (d' + d - (c' + c)) + rs.length)) ((rs.take m).foldl (dueS k (tabW k F) i j fw) (due0 k i j)) := fun i j hi hj fw m => by
    have := due_bd (fw := fw) hi hj hR (rs.take m) (fun r hr => ok r (List.mem_of_mem_take hr)) (fun r hr => B.rd r (List.mem_of_mem_take hr)) _ _ (st i j).1 (st i j).2
    have hlen : (rs.take m).length ≤ rs.length := by rw [List.length_take]; omega
    exact ⟨this.1, this.2.mono (by omega)⟩
  have big : bitK k = true → 2 * (c' + c + (31 + (d' + d - (c' + c)) + rs.length)) + 100 ≤ lim k := fun hbk => by
    obtain ⟨e1, e2⟩ := hcd hbk
    have p8 : 2 ^ n ≤ 2 ^ 8 := pow2_le hn8
    cases k with
    | cnt => change c ≤ 44500 at e1; change d ≤ 44500 at e2; show _ ≤ 900000; omega
    | lik => change c ≤ 6 * 2 ^ n + 40 at e1; change d ≤ 6 * 2 ^ n + 40 at e2; show _ ≤ 8000; omega
    | cha =>
      have h6 := hn6 rfl
      have p6 : 2 ^ n ≤ 2 ^ 6 := pow2_le h6
      change c ≤ 25 * 2 ^ n + 23 * n + 40 at e1; change d ≤ 25 * 2 ^ n + 23 * n + 40 at e2; show _ ≤ 8000; omega
    | _ => cases hbk
  have szR : bitK k = true → ∀ i j, i < n → j < n → sz (tabW k F i j) ≤ c + (d - c) + 1 := fun hbk i j hi hj => by
    have := bd_sz (hR i j hi hj).1 hbk (hR i j hi hj).2 l1 ld
    omega
  have szM : bitK k = true → ∀ i j, i < n → j < n → ∀ fw m, sz ((rs.take m).foldl (dueS k (tabW k F) i j fw) (due0 k i j)) ≤ c' + c + (31 + (d' + d - (c' + c)) + rs.length) := fun hbk i j hi hj fw m => by
    have := bd_sz (md i j hi hj fw m).1 hbk (md i j hi hj fw m).2 LL1 LLd
    omega
  have szr : bitK k = true → ∀ r ∈ rs, sz r.w ≤ 100 := fun hbk r hr => by
    have := N.sz hbk r hr
    have : szB k ≤ 100 := by cases k <;> simp [szB]
    omega
  refine ⟨fun i j hi hj => (hR i j hi hj).1, fun i j hi hj fw m => (md i j hi hj fw m).1, fun r hr i j hi hj => ⟨fits_lim fun hbk => ?_, fits_lim fun hbk => ?_⟩, fun i j hi hj fw m r hr => ⟨fun _ => fits_lim fun hbk => ?_, fun _ => fits_lim fun hbk => ?_⟩⟩
  · have := szr hbk r hr; have := szR hbk i j hi hj; have := big hbk; omega
  · have := szr hbk r hr; have := szR hbk i j hi hj; have := big hbk; omega
  · obtain ⟨g, _, ht⟩ := ok r hr
    have := szr hbk r hr; have := szR hbk r.t j ht hj; have := big hbk; have := szM hbk i j hi hj fw m
    have := sz_beh hbk g (hR r.t j ht hj).1
    omega
  · obtain ⟨g, hs, _⟩ := ok r hr
    have := szr hbk r hr; have := szR hbk i r.s hi hs; have := big hbk; have := szM hbk i j hi hj fw m
    have := sz_beh hbk (hR i r.s hi hs).1 g
    omega
/-! ### M16: when there is a table; places numbered otherwise -/
namespace SR
variable {α : Type} {S : SR α} {β : Type}
theorem sig_perm {l m : List β} (h : l.Perm m) (f : β → α) : S.sig l f = S.sig m f := by
  induction h with
  | nil => rfl
  | cons x _ ih => show S.add (f x) _ = S.add (f x) _; rw [ih]
  | swap x y l => show S.add (f y) (S.add (f x) _) = S.add (f x) (S.add (f y) _); rw [add_left]
  | trans _ _ h1 h2 => exact h1.trans h2
end SR
/-- what stands above itself by 1: then the places can be taken out -/
theorem elim_go {hk : KOk .cha} {A : Nat → Nat → Wk .cha} {n : Nat} {x : Nat → Wk .cha} (hx : ∀ i, i < n → (kSR .cha hk).le ((kSR .cha hk).add ((kSR .cha hk).sig (List.range n) fun j => (kSR .cha hk).mul (A i j) (x j)) (kSR .cha hk).one) (x i)) :
    ∀ s, s ≤ n → ∃ F, elimG (kSR .cha hk) A s = some F
  | 0, _ => ⟨A, rfl⟩
  | s + 1, hs => by
    obtain ⟨F, hF⟩ := elim_go hx s (by omega)
    have h := elim_least (b := fun _ => (kSR .cha hk).one) hx s F (by omega) hF s (by omega)
    rw [sig_from (by omega), (kSR .cha hk).add_assoc] at h
    obtain ⟨c, hc⟩ := h
    generalize (kSR .cha hk).sig (List.range n) (fun j => if s + 1 ≤ j then (kSR .cha hk).mul (F s j) (x j) else (kSR .cha hk).zero) = u at hc
    generalize (kSR .cha hk).sig (List.range s) (fun l => (kSR .cha hk).mul (F s l) (kSR .cha hk).one) = v at hc
    have hc := congrArg Subtype.val hc
    obtain ⟨r, er, hr⟩ := good_cha (F s s).2
    obtain ⟨y, ey, hy⟩ := good_cha (x s).2
    obtain ⟨u', eu, hu⟩ := good_cha u.2
    obtain ⟨v', ev, hv⟩ := good_cha v.2
    obtain ⟨c', ec, hc'⟩ := good_cha c.2
    change tog .cha (tog .cha (beh .cha (F s s).1 (x s).1) (tog .cha u.1 (tog .cha (.rat 1) v.1))) c.1 = (x s).1 at hc
    rw [er, ey, eu, ev, ec, beh_cha, tog_cha, tog_cha, tog_cha, tog_cha, Wo.rat.injEq] at hc
    have hlt : r < 1 := by
      refine Rat.not_le.1 fun h1 => ?_
      have := Rat.mul_le_mul_of_nonneg_right h1 hy
      grind
    obtain ⟨st, hst⟩ : ∃ st, (kSR .cha hk).star (F s s) = some st := by
      have e1 : rnd .cha (F s s).1 = some (.rat (1 / (1 - r))) := by rw [er]; simp only [rnd]; rw [if_pos hlt]
      exact ⟨⟨.rat (1 / (1 - r)), good_rnd hk (F s s).2 e1⟩, kstar.2 e1⟩
    refine ⟨thrG (kSR .cha hk) F s st, ?_⟩
    show (elimG (kSR .cha hk) A s).bind _ = _
    rw [hF]
    show ((kSR .cha hk).star (F s s)).bind _ = _
    rw [hst]; rfl
/-- a table stands so -/
theorem tab_over {α : Type} {S : SR α} {A F : Nat → Nat → α} {n : Nat} (h : elimG S A n = some F) {i : Nat} (hi : i < n) :
    S.add (S.sig (List.range n) fun j => S.mul (A i j) (S.sig (List.range n) fun l => tabG S F j l)) S.one = S.sig (List.range n) fun l => tabG S F i l := by
  have e : S.sig (List.range n) (fun l => tabG S F i l) = S.sig (List.range n) fun l => S.add (if i = l then S.one else S.zero) (S.sig (List.range n) fun j => S.mul (A i j) (tabG S F j l)) :=
    SR.sig_congr fun l hl => tab_on h (List.mem_range.1 hl)
  rw [e, SR.sig_add, SR.sig_swap]
  have e1 : S.sig (List.range n) (fun l => if i = l then S.one else S.zero) = S.one := by
    have := SR.sig_range_one hi (fun _ => S.one) (S := S)
    refine Eq.trans (SR.sig_congr fun l _ => ?_) this
    by_cases c : i = l
    · rw [if_pos c, if_pos c.symm]
    · rw [if_neg c, if_neg fun z => c z.symm]
  rw [e1, S.add_comm]
  congr 1
  exact SR.sig_congr fun j _ => (SR.sig_mul_left _ _ _).symm
theorem rnd_cha {k : Kd} {a : Wo} (h : rnd k a = none) : k = .cha := by
  cases k <;> cases a <;> simp [rnd] at h ⊢
theorem elimW_cha {k : Kd} {F0 : Nat → Nat → Wo} : ∀ {s : Nat}, elimW k F0 s = none → k = .cha
  | s + 1, h => by
    change (elimW k F0 s).bind _ = _ at h
    cases e : elimW k F0 s with
    | none => exact elimW_cha e
    | some F =>
      rw [e] at h
      change (rnd k (F s s)).bind _ = _ at h
      cases e2 : rnd k (F s s) with
      | none => exact rnd_cha e2
      | some st => rw [e2] at h; cases h
/-- the roads with other numbers -/
def Rw.re (g : Nat → Nat) (r : Rw) : Rw := ⟨g r.s, g r.t, r.w⟩
def Rg.re {α : Type} (g : Nat → Nat) (r : Rg α) : Rg α := ⟨g r.s, g r.t, r.w⟩
theorem toG_re {k : Kd} {n : Nat} (g : Nat → Nat) : ∀ {rs : List Rw} (h : RsOk k n rs) (h' : RsOk k n (rs.map (Rw.re g))), toG k (rs.map (Rw.re g)) h' = (toG k rs h).map (Rg.re g)
  | [], _, _ => rfl
  | r :: rs, h, h' => by
    show _ :: toG k (rs.map (Rw.re g)) _ = _ :: (toG k rs _).map _
    rw [toG_re g (fun x hx => h x (List.mem_cons_of_mem _ hx)) (fun x hx => h' x (List.mem_cons_of_mem _ hx))]; rfl
theorem toG_perm {k : Kd} {n : Nat} {rs rs' : List Rw} (p : rs.Perm rs') : ∀ (h : RsOk k n rs) (h' : RsOk k n rs'), (toG k rs h).Perm (toG k rs' h') := by
  induction p with
  | nil => intro h h'; exact List.Perm.nil
  | cons x _ ih => intro h h'; exact List.Perm.cons _ (ih _ _)
  | swap x y l => intro h h'; exact List.Perm.swap _ _ _
  | trans p1 p2 h1 h2 =>
    intro h h'
    have hm : RsOk k n _ := fun r hr => h r (p1.mem_iff.2 hr)
    exact (h1 h hm).trans (h2 hm h')
/-- one table's sums are at most the other's -/
theorem re_le {α : Type} {S : SR α} {gs gs' : List (Rg α)} {n : Nat} (ok : ∀ r ∈ gs, r.s < n ∧ r.t < n) (ok' : ∀ r ∈ gs', r.s < n ∧ r.t < n) {g : Nat → Nat} (gl : ∀ i, i < n → g i < n) (gi : ∀ i j, i < n → j < n → g i = g j → i = j) (p : gs'.Perm (gs.map (Rg.re g)))
    {F F' : Nat → Nat → α} (h : elimG S (strG S gs) n = some F) (h' : elimG S (strG S gs') n = some F') {i j : Nat} (hi : i < n) (hj : j < n) : S.le (tabG S F i j) (tabG S F' (g i) (g j)) := by
  have hx : ∀ i, i < n → S.le (S.add (S.sig (List.range n) fun l => S.mul (strG S gs i l) (tabG S F' (g l) (g j))) (if i = j then S.one else S.zero)) (tabG S F' (g i) (g j)) := fun i hi => by
    refine SR.le_of_eq ?_
    rw [tab_on h' (i := g i) (gl j hj), str_on (fun r hr => (ok' r hr).2) (g i) fun l => tabG S F' l (g j), SR.sig_perm p, SR.sig_map, str_on (fun r hr => (ok r hr).2) i fun l => tabG S F' (g l) (g j), S.add_comm]
    congr 1
    · by_cases e : i = j
      · rw [if_pos e, if_pos (by rw [e])]
      · rw [if_neg e, if_neg fun z => e (gi i j hi hj z)]
    · refine SR.sig_congr fun r hr => ?_
      show _ = if g r.s = g i then S.mul r.w (tabG S F' (g r.t) (g j)) else S.zero
      by_cases e : r.s = i
      · rw [if_pos e, if_pos (by rw [e])]
      · rw [if_neg e, if_neg fun z => e (gi _ _ (ok r hr).1 hi z)]
  have := tab_least h (b := fun i => if i = j then S.one else S.zero) hx hi
  refine SR.le_trans (SR.le_of_eq ?_) this
  rw [← SR.sig_range_one hj fun l => tabG S F i l]
  refine SR.sig_congr fun l _ => ?_
  by_cases e : l = j
  · rw [if_pos e, if_pos e, S.mul_one]
  · rw [if_neg e, if_neg e, S.mul_zero]
/-- where the one has a table, so has the other -/
theorem re_go {hk : KOk .cha} {gs gs' : List (Rg (Wk .cha))} {n : Nat} (ok : ∀ r ∈ gs, r.s < n ∧ r.t < n) (ok' : ∀ r ∈ gs', r.s < n ∧ r.t < n) {g : Nat → Nat} (gl : ∀ i, i < n → g i < n) (gi : ∀ i j, i < n → j < n → g i = g j → i = j) (p : gs'.Perm (gs.map (Rg.re g)))
    {F' : Nat → Nat → Wk .cha} (h' : elimG (kSR .cha hk) (strG (kSR .cha hk) gs') n = some F') : ∃ F, elimG (kSR .cha hk) (strG (kSR .cha hk) gs) n = some F := by
  refine elim_go (x := fun i => (kSR .cha hk).sig (List.range n) fun l => tabG (kSR .cha hk) F' (g i) l) (fun i hi => SR.le_of_eq ?_) n (Nat.le_refl n)
  rw [← tab_over h' (gl i hi), str_on (fun r hr => (ok' r hr).2) (g i) fun j => (kSR .cha hk).sig (List.range n) fun l => tabG (kSR .cha hk) F' j l, SR.sig_perm p, SR.sig_map, str_on (fun r hr => (ok r hr).2) i fun j => (kSR .cha hk).sig (List.range n) fun l => tabG (kSR .cha hk) F' (g j) l]
  congr 1
  refine SR.sig_congr fun r hr => ?_
  show _ = if g r.s = g i then (kSR .cha hk).mul r.w ((kSR .cha hk).sig (List.range n) fun l => tabG (kSR .cha hk) F' (g r.t) l) else (kSR .cha hk).zero
  by_cases e : r.s = i
  · rw [if_pos e, if_pos (by rw [e])]
  · rw [if_neg e, if_neg fun z => e (gi _ _ (ok r hr).1 hi z)]
/-- the way back of a numbering -/
theorem back_of {n : Nat} {g : Nat → Nat} (gl : ∀ i, i < n → g i < n) (gi : ∀ i j, i < n → j < n → g i = g j → i = j) : ∃ b : Nat → Nat, (∀ i, i < n → b i < n ∧ g (b i) = i) ∧ ∀ i, i < n → b (g i) = i := by
  have sur : ∀ n (g : Nat → Nat), (∀ i, i < n → g i < n) → (∀ i j, i < n → j < n → g i = g j → i = j) → ∀ t, t < n → ∃ i, i < n ∧ g i = t := by
    intro n
    induction n with
    | zero => intro g _ _ t ht; omega
    | succ n ih =>
      intro g gl gi t ht
      -- what goes to n is put where n goes
      by_cases e : g n = t
      · exact ⟨n, by omega, e⟩
      by_cases hn : g n = n
      · obtain ⟨i, hi, e2⟩ := ih g (fun i hi => by
          have := gl i (by omega)
          have : g i ≠ n := fun z => by have := gi i n (by omega) (by omega) (z.trans hn.symm); omega
          omega) (fun i j hi hj => gi i j (by omega) (by omega)) t (by omega)
        exact ⟨i, by omega, e2⟩
      · -- exchange g n and n among the targets
        obtain ⟨i, hi, e2⟩ := ih (fun i => if g i = n then g n else g i) (fun i hi => by
            have h1 := gl i (by omega)
            have h2 := gl n (by omega)
            show (if g i = n then g n else g i) < n
            split <;> omega) (fun i j hi hj => by
            show (if g i = n then g n else g i) = (if g j = n then g n else g j) → i = j
            intro z
            by_cases c1 : g i = n <;> by_cases c2 : g j = n
            · exact gi i j (by omega) (by omega) (c1.trans c2.symm)
            · rw [if_pos c1, if_neg c2] at z
              have := gi n j (by omega) (by omega) z; omega
            · rw [if_neg c1, if_pos c2] at z
              have := gi i n (by omega) (by omega) z; omega
            · rw [if_neg c1, if_neg c2] at z
              exact gi i j (by omega) (by omega) z) (if t = n then g n else t) (by
            have h2 := gl n (by omega)
            split <;> omega)
        change (if g i = n then g n else g i) = (if t = n then g n else t) at e2
        by_cases ct : t = n
        · rw [if_pos ct] at e2
          by_cases c1 : g i = n
          · exact ⟨i, by omega, c1.trans ct.symm⟩
          · rw [if_neg c1] at e2
            have := gi i n (by omega) (by omega) e2; omega
        · rw [if_neg ct] at e2
          by_cases c1 : g i = n
          · rw [if_pos c1] at e2
            exact absurd e2 e
          · rw [if_neg c1] at e2
            exact ⟨i, by omega, e2⟩
  have h := sur n g gl gi
  refine ⟨fun t => if ht : t < n then (h t ht).choose else 0, fun i hi => ?_, fun i hi => ?_⟩
  · show (if ht : i < n then (h i ht).choose else 0) < n ∧ g (if ht : i < n then (h i ht).choose else 0) = i
    rw [dif_pos hi]
    exact (h i hi).choose_spec
  · show (if ht : g i < n then (h (g i) ht).choose else 0) = i
    rw [dif_pos (gl i hi)]
    have := (h (g i) (gl i hi)).choose_spec
    exact gi _ _ this.1 hi this.2
/-- places numbered otherwise, roads in another order: the sums stay -/
theorem re_tab {k : Kd} (hk : KOk k) {n : Nat} {rs rs' : List Rw} (ok : RsOk k n rs) (ok' : RsOk k n rs') {g : Nat → Nat} (gl : ∀ i, i < n → g i < n) (gi : ∀ i j, i < n → j < n → g i = g j → i = j) (p : rs'.Perm (rs.map (Rw.re g))) :
    (elimW k (strW k rs) n = none ↔ elimW k (strW k rs') n = none) ∧ ∀ F F', elimW k (strW k rs) n = some F → elimW k (strW k rs') n = some F' → ∀ i j, i < n → j < n → tabW k F' (g i) (g j) = tabW k F i j := by
  obtain ⟨b, hb1, hb2⟩ := back_of gl gi
  have okm : RsOk k n (rs.map (Rw.re g)) := fun r hr => ok' r (p.mem_iff.2 hr)
  have p1 : (toG k rs' ok').Perm ((toG k rs ok).map (Rg.re g)) := by
    rw [← toG_re g ok okm]; exact toG_perm p _ _
  have p2 : (toG k rs ok).Perm ((toG k rs' ok').map (Rg.re b)) := by
    refine List.Perm.trans ?_ (p1.map (Rg.re b)).symm
    rw [List.map_map]
    have : (toG k rs ok).map (Rg.re b ∘ Rg.re g) = (toG k rs ok).map id := List.map_congr_left fun r hr => by
      obtain ⟨h1, h2⟩ := toG_ok ok r hr
      show Rg.mk (b (g r.s)) (b (g r.t)) r.w = r
      rw [hb2 _ h1, hb2 _ h2]
    rw [this, List.map_id]
  have o := toG_ok ok
  have o' := toG_ok ok'
  have bl : ∀ i, i < n → b i < n := fun i hi => (hb1 i hi).1
  have bi : ∀ i j, i < n → j < n → b i = b j → i = j := fun i j hi hj e => by
    have := congrArg g e
    rwa [(hb1 i hi).2, (hb1 j hj).2] at this
  rw [strW_eq hk ok, strW_eq hk ok']
  refine ⟨⟨fun h => ?_, fun h => ?_⟩, fun F F' h h' i j hi hj => ?_⟩
  · have ek := elimW_cha h
    subst ek
    cases e : elimW .cha (valM (strG (kSR .cha hk) (toG .cha rs' ok'))) n with
    | none => rfl
    | some F' =>
      obtain ⟨G', hG', _⟩ := elimW_some hk e
      obtain ⟨G, hG⟩ := re_go o o' gl gi p1 hG'
      rw [elimW_eq hk, hG] at h; cases h
  · have ek := elimW_cha h
    subst ek
    cases e : elimW .cha (valM (strG (kSR .cha hk) (toG .cha rs ok))) n with
    | none => rfl
    | some F' =>
      obtain ⟨G', hG', _⟩ := elimW_some hk e
      obtain ⟨G, hG⟩ := re_go o' o bl bi p2 hG'
      rw [elimW_eq hk, hG] at h; cases h
  · obtain ⟨G, hG, rfl⟩ := elimW_some hk h
    obtain ⟨G', hG', rfl⟩ := elimW_some hk h'
    rw [tabW_eq hk, tabW_eq hk]
    refine congrArg Subtype.val (SR.le_antisymm ?_ (re_le o o' gl gi p1 hG hG' hi hj))
    have := re_le o' o bl bi p2 hG' hG (gl i hi) (gl j hj)
    rwa [hb2 i hi, hb2 j hj] at this
/-! ### M17: drawn nets with other numbers -/
theorem sumW_perm {rs rs' : List Rw} (p : rs.Perm rs') (i : Nat) : sumW i rs = sumW i rs' := by
  induction p with
  | nil => rfl
  | cons x _ ih => rw [sumW_cons, sumW_cons, ih]
  | swap x y l => rw [sumW_cons, sumW_cons, sumW_cons, sumW_cons]; grind
  | trans _ _ h1 h2 => exact h1.trans h2
theorem sumW_re {n : Nat} {g : Nat → Nat} (gi : ∀ i j, i < n → j < n → g i = g j → i = j) {i : Nat} (hi : i < n) : ∀ (rs : List Rw), (∀ r ∈ rs, r.s < n) → sumW (g i) (rs.map (Rw.re g)) = sumW i rs
  | [], _ => rfl
  | r :: rs, h => by
    rw [List.map_cons, sumW_cons, sumW_cons, sumW_re gi hi rs fun x hx => h x (List.mem_cons_of_mem _ hx)]
    have hr := h r List.mem_cons_self
    congr 1
    show (if g r.s = g i then wq r.w else 0) = _
    by_cases e : r.s = i
    · rw [if_pos e, if_pos (by rw [e])]
    · rw [if_neg e, if_neg fun z => e (gi _ _ hr hi z)]
theorem sumW_out {n i : Nat} (hi : n ≤ i) : ∀ (rs : List Rw), (∀ r ∈ rs, r.s < n) → sumW i rs = 0
  | [], _ => rfl
  | r :: rs, h => by
    have hr := h r List.mem_cons_self
    rw [sumW_cons, sumW_out hi rs fun x hx => h x (List.mem_cons_of_mem _ hx), if_neg (by omega), Rat.add_zero]
theorem NetD.re {k : Kd} {most extra n : Nat} {rs rs' : List Rw} (N : NetD k most extra n rs) {g : Nat → Nat} (gl : ∀ i, i < n → g i < n) (gi : ∀ i j, i < n → j < n → g i = g j → i = j) (p : rs'.Perm (rs.map (Rw.re g))) : NetD k most extra n rs' := by
  have mem : ∀ r ∈ rs', ∃ r0 ∈ rs, r = Rw.re g r0 := fun r hr => by
    obtain ⟨r0, h0, e⟩ := List.mem_map.1 (p.mem_iff.1 hr); exact ⟨r0, h0, e.symm⟩
  obtain ⟨b, hb1, hb2⟩ := back_of gl gi
  refine ⟨N.n1, N.nm, by rw [p.length_eq, List.length_map]; exact N.len, fun r hr => ?_, fun hb r hr => ?_, fun hc => ?_⟩
  · obtain ⟨r0, h0, rfl⟩ := mem r hr
    obtain ⟨h1, h2, h3⟩ := N.ok r0 h0
    exact ⟨h1, gl _ h2, gl _ h3⟩
  · obtain ⟨r0, h0, rfl⟩ := mem r hr
    exact N.sz hb r0 h0
  · obtain ⟨D, hD, ha, h1⟩ := N.cha hc
    have hs : ∀ r ∈ rs, r.s < n := fun r hr => (N.ok r hr).2.1
    refine ⟨fun i => D (b i), fun i => hD _, fun r hr => ?_, fun i => ?_⟩
    · obtain ⟨r0, h0, rfl⟩ := mem r hr
      obtain ⟨a, e⟩ := ha r0 h0
      refine ⟨a, ?_⟩
      show wq r0.w * (D (b (g r0.s)) : Rat) = _
      rw [hb2 _ (hs r0 h0)]; exact e
    · rw [sumW_perm p]
      by_cases hi : i < n
      · have := sumW_re gi (hb1 i hi).1 rs hs
        rw [(hb1 i hi).2] at this
        rw [this]; exact h1 _
      · rw [sumW_out (n := n) (by omega)]
        · decide
        · intro r hr
          obtain ⟨r0, h0, rfl⟩ := List.mem_map.1 hr
          exact gl _ (hs r0 h0)
theorem turn_perm {α : Type} (l : List α) (t : Nat) : ((l.drop t).reverse ++ l.take t).Perm l :=
  ((List.reverse_perm (l.drop t)).append_right _).trans (List.perm_append_comm.trans (List.Perm.of_eq (List.take_append_drop t l)))
theorem eraseIdx_map {α β : Type} (f : α → β) : ∀ (l : List α) (k : Nat), (l.map f).eraseIdx k = (l.eraseIdx k).map f
  | [], _ => rfl
  | x :: l, 0 => rfl
  | x :: l, k + 1 => by rw [List.map_cons, List.eraseIdx_cons_succ, List.eraseIdx_cons_succ, List.map_cons, eraseIdx_map f l k]
theorem perm_erase {α : Type} : ∀ (l : List α) (k : Nat) (x : α), l[k]? = some x → (x :: l.eraseIdx k).Perm l
  | [], _, _, h => by simp at h
  | y :: l, 0, x, h => by cases h; exact List.Perm.refl _
  | y :: l, k + 1, x, h => by
    rw [List.eraseIdx_cons_succ]
    exact (List.Perm.swap _ _ _).trans ((perm_erase l k x h).cons y)
/-! ### M18: a place taken out -/
/-- the places left, and all places with the one taken out ahead -/
def lf (p i : Nat) : Nat := if i < p then i else i + 1
def gq (p x : Nat) : Nat := if x = p then 0 else if x < p then x + 1 else x
theorem lf_lt {n p i : Nat} (hi : i < n - 1) : lf p i < n := by unfold lf; split <;> omega
theorem lf_ne (p i : Nat) : lf p i ≠ p := by unfold lf; split <;> omega
theorem gq_lf (p i : Nat) : gq p (lf p i) = i + 1 := by
  unfold gq
  rw [if_neg (lf_ne p i)]
  unfold lf
  by_cases h : i < p
  · rw [if_pos h, if_pos h]
  · rw [if_neg h, if_neg (by omega)]
theorem gq_p (p : Nat) : gq p p = 0 := by unfold gq; rw [if_pos rfl]
theorem gq_lt {n p x : Nat} (hp : p < n) (hx : x < n) : gq p x < n := by unfold gq; split <;> (try split) <;> omega
theorem gq_inj {p x y : Nat} (h : gq p x = gq p y) : x = y := by
  unfold gq at h
  by_cases c1 : x = p <;> by_cases c2 : y = p
  · omega
  · rw [if_pos c1, if_neg c2] at h; split at h <;> omega
  · rw [if_neg c1, if_pos c2] at h; split at h <;> omega
  · rw [if_neg c1, if_neg c2] at h; split at h <;> split at h <;> omega
/-- the places left, as the comprehension finds them -/
def leftL (p t : Nat) : List Nat := (List.range t).filter fun i => decide (i ≠ p)
theorem leftL_succ (p t : Nat) : leftL p (t + 1) = if t = p then leftL p t else leftL p t ++ [t] := by
  unfold leftL
  rw [List.range_succ, List.filter_append]
  by_cases h : t = p
  · rw [if_pos h]; simp [h]
  · rw [if_neg h]; simp [h]
theorem leftL_low {p : Nat} : ∀ t, t ≤ p → leftL p t = (List.range t).map (lf p)
  | 0, _ => rfl
  | t + 1, h => by
    rw [leftL_succ, if_neg (by omega), leftL_low t (by omega), List.range_succ, List.map_append]
    show _ = _ ++ [lf p t]
    unfold lf; rw [if_pos (by omega)]
theorem leftL_high {p : Nat} : ∀ t, p < t → leftL p t = (List.range (t - 1)).map (lf p)
  | 0, h => by omega
  | t + 1, h => by
    rw [leftL_succ]
    by_cases e : t = p
    · rw [if_pos e, leftL_low t (by omega)]; rfl
    · rw [if_neg e, leftL_high t (by omega)]
      have : t + 1 - 1 = (t - 1) + 1 := by omega
      rw [this, List.range_succ, List.map_append]
      show _ = _ ++ [lf p (t - 1)]
      unfold lf; rw [if_neg (by omega), show t - 1 + 1 = t by omega]
/-- the roads of the smaller net -/
def oneR (k : Kd) (V : Nat → Nat → Wo) (i j : Nat) : List Rw := if V i j = noneW k then [] else [⟨i, j, V i j⟩]
def rowR (k : Kd) (V : Nat → Nat → Wo) (i j : Nat) : List Rw := (List.range j).flatMap (oneR k V i)
def outR (k : Kd) (V : Nat → Nat → Wo) (q i : Nat) : List Rw := (List.range i).flatMap fun a => rowR k V a q
theorem rowR_succ (k : Kd) (V : Nat → Nat → Wo) (i j : Nat) : rowR k V i (j + 1) = rowR k V i j ++ oneR k V i j := by
  unfold rowR; rw [List.range_succ, List.flatMap_append]; simp
theorem outR_succ (k : Kd) (V : Nat → Nat → Wo) (q i : Nat) : outR k V q (i + 1) = outR k V q i ++ rowR k V i q := by
  unfold outR; rw [List.range_succ, List.flatMap_append]; simp
theorem oneR_len (k : Kd) (V : Nat → Nat → Wo) (i j : Nat) : (oneR k V i j).length ≤ 1 := by unfold oneR; split <;> simp
theorem rowR_len (k : Kd) (V : Nat → Nat → Wo) (i : Nat) : ∀ j, (rowR k V i j).length ≤ j
  | 0 => Nat.le_refl 0
  | j + 1 => by rw [rowR_succ, List.length_append]; have := rowR_len k V i j; have := oneR_len k V i j; omega
theorem outR_len (k : Kd) (V : Nat → Nat → Wo) (q : Nat) : ∀ i, (outR k V q i).length ≤ i * q
  | 0 => by simp [outR]
  | i + 1 => by rw [outR_succ, List.length_append, Nat.succ_mul]; have := outR_len k V q i; have := rowR_len k V i q; omega
theorem mem_outR {k : Kd} {V : Nat → Nat → Wo} {q i : Nat} {r : Rw} (h : r ∈ outR k V q i) : ∃ a b, a < i ∧ b < q ∧ r = ⟨a, b, V a b⟩ := by
  obtain ⟨a, ha, h⟩ := List.mem_flatMap.1 h
  obtain ⟨b, hb, h⟩ := List.mem_flatMap.1 h
  refine ⟨a, b, List.mem_range.1 ha, List.mem_range.1 hb, ?_⟩
  unfold oneR at h
  split at h
  · cases h
  · exact List.mem_singleton.1 h
theorem one_fold {k : Kd} {V : Nat → Nat → Wo} {i j a b : Nat} {x : Wo} (gx : Good k x) : (oneR k V a b).foldl (strF k i j) x = if a = i ∧ b = j then tog k x (V i j) else x := by
  unfold oneR
  by_cases h : V a b = noneW k
  · rw [if_pos h]
    show x = _
    by_cases c : a = i ∧ b = j
    · rw [if_pos c, ← c.1, ← c.2, h, tog_none gx]
    · rw [if_neg c]
  · rw [if_neg h]
    show strF k i j x ⟨a, b, V a b⟩ = _
    unfold strF
    by_cases c : a = i ∧ b = j
    · rw [if_pos c, if_pos c, c.1, c.2]
    · rw [if_neg c, if_neg c]
theorem row_fold {k : Kd} {V : Nat → Nat → Wo} {i j a : Nat} {x : Wo} (gx : Good k x) (gv : Good k (V i j)) : ∀ b, (rowR k V a b).foldl (strF k i j) x = if a = i ∧ j < b then tog k x (V i j) else x
  | 0 => by rw [if_neg (by omega)]; rfl
  | b + 1 => by
    have g : Good k (if a = i ∧ j < b then tog k x (V i j) else x) := by split; exact good_tog gx gv; exact gx
    rw [rowR_succ, List.foldl_append, row_fold gx gv b, one_fold g]
    by_cases c : a = i
    · by_cases h1 : j < b
      · rw [if_neg (by omega : ¬ (a = i ∧ b = j)), if_pos ⟨c, h1⟩, if_pos ⟨c, by omega⟩]
      · rw [if_neg (by omega : ¬ (a = i ∧ j < b))]
        by_cases h2 : b = j
        · rw [if_pos ⟨c, h2⟩, if_pos ⟨c, by omega⟩]
        · rw [if_neg (by omega : ¬ (a = i ∧ b = j)), if_neg (by omega)]
    · rw [if_neg (by omega : ¬ (a = i ∧ b = j)), if_neg (by omega), if_neg (by omega)]
theorem out_fold {k : Kd} {V : Nat → Nat → Wo} {i j q : Nat} {x : Wo} (gx : Good k x) (gv : Good k (V i j)) : ∀ b, (outR k V q b).foldl (strF k i j) x = if i < b ∧ j < q then tog k x (V i j) else x
  | 0 => by rw [if_neg (by omega)]; rfl
  | b + 1 => by
    have g : Good k (if i < b ∧ j < q then tog k x (V i j) else x) := by split; exact good_tog gx gv; exact gx
    rw [outR_succ, List.foldl_append, out_fold gx gv b, row_fold g gv]
    by_cases c : j < q
    · by_cases h1 : i < b
      · rw [if_neg (by omega : ¬ (b = i ∧ j < q)), if_pos ⟨h1, c⟩, if_pos ⟨by omega, c⟩]
      · rw [if_neg (by omega : ¬ (i < b ∧ j < q))]
        by_cases h2 : b = i
        · rw [if_pos ⟨h2, c⟩, if_pos ⟨by omega, c⟩]
        · rw [if_neg (by omega : ¬ (b = i ∧ j < q)), if_neg (by omega)]
    · rw [if_neg (by omega : ¬ (b = i ∧ j < q)), if_neg (by omega), if_neg (by omega)]
theorem str_out {k : Kd} {V : Nat → Nat → Wo} {i j q : Nat} (hi : i < q) (hj : j < q) (gv : Good k (V i j)) : strW k (outR k V q q) i j = V i j := by
  unfold strW
  rw [out_fold (good_none k) gv q, if_pos ⟨hi, hj⟩, tog_comm (good_none k) gv, tog_none gv]
/-- sums of shares -/
def rS : Nat → (Nat → Rat) → Rat
  | 0, _ => 0
  | n + 1, f => rS n f + f n
theorem rS_congr {f g : Nat → Rat} : ∀ n, (∀ i, i < n → f i = g i) → rS n f = rS n g
  | 0, _ => rfl
  | n + 1, h => by show rS n f + f n = rS n g + g n; rw [rS_congr n fun i hi => h i (by omega), h n (by omega)]
theorem rS_add (f g : Nat → Rat) : ∀ n, rS n (fun i => f i + g i) = rS n f + rS n g
  | 0 => by show (0 : Rat) = 0 + 0; rw [Rat.add_zero]
  | n + 1 => by show rS n _ + (f n + g n) = rS n f + f n + (rS n g + g n); rw [rS_add f g n]; grind
theorem rS_mul (c : Rat) (f : Nat → Rat) : ∀ n, rS n (fun i => c * f i) = c * rS n f
  | 0 => by show (0 : Rat) = c * 0; rw [Rat.mul_zero]
  | n + 1 => by show rS n _ + c * f n = c * (rS n f + f n); rw [rS_mul c f n]; grind
theorem rS_zero : ∀ n, rS n (fun _ => 0) = 0
  | 0 => rfl
  | n + 1 => by show rS n _ + 0 = 0; rw [rS_zero n, Rat.add_zero]
theorem rS_out {p : Nat} (f : Nat → Rat) : ∀ n, p < n → rS n f = f p + rS (n - 1) (fun i => f (lf p i))
  | 0, h => by omega
  | n + 1, h => by
    show rS n f + f n = f p + rS n (fun i => f (lf p i))
    by_cases e : n = p
    · subst e
      rw [rS_congr (g := fun i => f (lf n i)) n fun i hi => by unfold lf; rw [if_pos hi], Rat.add_comm]
    · obtain ⟨m, rfl⟩ : ∃ m, n = m + 1 := ⟨n - 1, by omega⟩
      rw [rS_out (p := p) f (m + 1) (by omega)]
      show f p + rS m (fun i => f (lf p i)) + f (m + 1) = f p + (rS m (fun i => f (lf p i)) + f (lf p m))
      have : lf p m = m + 1 := by unfold lf; rw [if_neg (by omega)]
      rw [this, Rat.add_assoc]
theorem rS_one (n j : Nat) (c : Rat) : rS n (fun i => if j = i then c else 0) = if j < n then c else 0 := by
  induction n with
  | zero => rfl
  | succ n ih =>
    show rS n _ + (if j = n then c else 0) = _
    rw [ih]
    by_cases h : j = n
    · rw [if_neg (by omega), if_pos h, if_pos (by omega), Rat.zero_add]
    · rw [if_neg h, Rat.add_zero]
      by_cases h2 : j < n
      · rw [if_pos h2, if_pos (by omega)]
      · rw [if_neg h2, if_neg (by omega)]
theorem wq_tog {a b : Wo} (ga : Good .cha a) (gb : Good .cha b) : wq (tog .cha a b) = wq a + wq b := by
  obtain ⟨x, rfl, _⟩ := good_cha ga
  obtain ⟨y, rfl, _⟩ := good_cha gb
  rw [tog_cha]; rfl
theorem wq_beh {a b : Wo} (ga : Good .cha a) (gb : Good .cha b) : wq (beh .cha a b) = wq a * wq b := by
  obtain ⟨x, rfl, _⟩ := good_cha ga
  obtain ⟨y, rfl, _⟩ := good_cha gb
  rw [beh_cha]; rfl
theorem str_row {n i : Nat} : ∀ (rs : List Rw) (x : Nat → Wo), RsOk .cha n rs → (∀ j, Good .cha (x j)) → rS n (fun j => wq (rs.foldl (strF .cha i j) (x j))) = rS n (fun j => wq (x j)) + sumW i rs
  | [], x, _, _ => (Rat.add_zero _).symm
  | r :: rs, x, ok, gx => by
    obtain ⟨g, _, ht⟩ := ok r List.mem_cons_self
    have gs : ∀ j, Good .cha (strF .cha i j (x j) r) := fun j => by unfold strF; split; exact good_tog (gx j) g; exact gx j
    show rS n (fun j => wq (rs.foldl (strF .cha i j) (strF .cha i j (x j) r))) = _
    rw [str_row rs (fun j => strF .cha i j (x j) r) (fun y hy => ok y (List.mem_cons_of_mem _ hy)) gs, sumW_cons]
    have e : rS n (fun j => wq (strF .cha i j (x j) r)) = rS n (fun j => wq (x j)) + (if r.s = i then wq r.w else 0) := by
      have e1 : ∀ j, wq (strF .cha i j (x j) r) = wq (x j) + (if r.t = j then (if r.s = i then wq r.w else 0) else 0) := fun j => by
        unfold strF
        by_cases c1 : r.s = i <;> by_cases c2 : r.t = j
        · rw [if_pos ⟨c1, c2⟩, if_pos c2, if_pos c1, wq_tog (gx j) g]
        · rw [if_neg fun z => c2 z.2, if_neg c2, Rat.add_zero]
        · rw [if_neg fun z => c1 z.1, if_pos c2, if_neg c1, Rat.add_zero]
        · rw [if_neg fun z => c1 z.1, if_neg c2, Rat.add_zero]
      rw [rS_congr n fun j _ => e1 j, rS_add, rS_one, if_pos ht]
    rw [e, Rat.add_assoc]
theorem sum_str {n i : Nat} {rs : List Rw} (ok : RsOk .cha n rs) : rS n (fun j => wq (strW .cha rs i j)) = sumW i rs := by
  have := str_row (i := i) rs (fun _ => noneW .cha) ok fun _ => good_none _
  have e : rS n (fun _ => wq (noneW .cha)) = 0 := rS_zero n
  rw [e, Rat.zero_add] at this
  exact this
theorem sumW_append (i : Nat) (a b : List Rw) : sumW i (a ++ b) = sumW i a + sumW i b := by
  unfold sumW
  rw [List.foldl_append, sumF_add]; rfl
theorem sum_one (V : Nat → Nat → Wo) (i a b : Nat) : sumW i (oneR .cha V a b) = if a = i then wq (V a b) else 0 := by
  unfold oneR
  by_cases h : V a b = noneW .cha
  · rw [if_pos h, h]
    show (0 : Rat) = if a = i then (0 : Rat) else 0
    split <;> rfl
  · rw [if_neg h, sumW_cons]
    show (if a = i then wq (V a b) else 0) + 0 = _
    rw [Rat.add_zero]
theorem sum_row (V : Nat → Nat → Wo) (i a : Nat) : ∀ b, sumW i (rowR .cha V a b) = if a = i then rS b (fun j => wq (V a j)) else 0
  | 0 => by show (0 : Rat) = if a = i then (0 : Rat) else 0; split <;> rfl
  | b + 1 => by
    rw [rowR_succ, sumW_append, sum_row V i a b, sum_one]
    by_cases c : a = i
    · rw [if_pos c, if_pos c, if_pos c]; rfl
    · rw [if_neg c, if_neg c, if_neg c, Rat.add_zero]
theorem sum_out (V : Nat → Nat → Wo) (i q : Nat) : ∀ b, sumW i (outR .cha V q b) = if i < b then rS q (fun j => wq (V i j)) else 0
  | 0 => by rw [if_neg (by omega)]; rfl
  | b + 1 => by
    rw [outR_succ, sumW_append, sum_out V i q b, sum_row]
    by_cases c : b = i
    · subst c
      rw [if_neg (by omega), if_pos rfl, if_pos (by omega), Rat.zero_add]
    · rw [if_neg c, Rat.add_zero]
      by_cases h : i < b
      · rw [if_pos h, if_pos (by omega)]
      · rw [if_neg h, if_neg (by omega)]
/-- the smaller net's worths -/
def outV (k : Kd) (rs : List Rw) (p : Nat) (st : Wo) (i j : Nat) : Wo := thrW k (strW k rs) p st (lf p i) (lf p j)
theorem outV_good {k : Kd} (hk : KOk k) {n : Nat} {rs : List Rw} (ok : RsOk k n rs) {p : Nat} {st : Wo} (gs : Good k st) (i j : Nat) : Good k (outV k rs p st i j) :=
  good_tog (str_good hk ok _ _) (good_beh (good_beh (str_good hk ok _ _) gs) (str_good hk ok _ _))
theorem out_sum {n : Nat} {rs : List Rw} (ok : RsOk .cha n rs) (h1 : ∀ i, sumW i rs ≤ 1) {p : Nat} (hp : p < n) {st : Wo} (hst : rnd .cha (strW .cha rs p p) = some st) (i : Nat) : sumW i (outR .cha (outV .cha rs p st) (n - 1) (n - 1)) ≤ 1 := by
  rw [sum_out]
  split
  case isFalse => decide
  rename_i hi
  have hk : KOk .cha := trivial
  have g := fun a b => str_good hk ok a b
  have gs := good_rnd hk (g p p) hst
  have e : ∀ j, wq (outV .cha rs p st i j) = wq (strW .cha rs (lf p i) (lf p j)) + wq (strW .cha rs (lf p i) p) * wq st * wq (strW .cha rs p (lf p j)) := fun j => by
    unfold outV thrW
    rw [wq_tog (g _ _) (good_beh (good_beh (g _ _) gs) (g _ _)), wq_beh (good_beh (g _ _) gs) (g _ _), wq_beh (g _ _) gs]
  rw [rS_congr (n - 1) fun j _ => e j, rS_add, rS_mul]
  have s1 := sum_str (i := lf p i) ok
  have s2 := sum_str (i := p) ok
  rw [rS_out (p := p) _ n hp] at s1 s2
  have b1 := h1 (lf p i)
  have b2 := h1 p
  rw [← s1] at b1
  rw [← s2] at b2
  obtain ⟨r, er, hr⟩ := good_cha (g p p)
  rw [er] at hst
  simp only [rnd] at hst
  split at hst
  case isFalse => cases hst
  rename_i hlt
  have est : wq st = 1 / (1 - r) := by rw [← Option.some.inj hst]; rfl
  rw [er] at b2
  change r + _ ≤ 1 at b2
  have hx := wq_nonneg (g (lf p i) p)
  have hst0 : (1 - r) * wq st = 1 := by
    rw [est, Rat.div_def, Rat.one_mul]
    exact Rat.mul_inv_cancel _ (by grind)
  have hs0 : 0 ≤ wq st := wq_nonneg gs
  generalize rS (n - 1) (fun i_1 => wq (strW .cha rs (lf p i) (lf p i_1))) = A at *
  generalize rS (n - 1) (fun i => wq (strW .cha rs p (lf p i))) = B at *
  generalize wq (strW .cha rs (lf p i) p) = x at *
  generalize wq st = t at *
  have h3 : t * B ≤ t * (1 - r) := Rat.mul_le_mul_of_nonneg_left (by grind) hs0
  have h4 : t * (1 - r) = 1 := by rw [Rat.mul_comm]; exact hst0
  have h5 : x * (t * B) ≤ x * 1 := Rat.mul_le_mul_of_nonneg_left (by rw [← h4]; exact h3) hx
  rw [Rat.mul_one] at h5
  rw [Rat.mul_assoc]
  grind
/-- the table with the place taken out ahead -/
theorem str_re {k : Kd} (g : Nat → Nat) (gi : ∀ x y, g x = g y → x = y) : ∀ (rs : List Rw) (i j : Nat) (a : Wo), (rs.map (Rw.re g)).foldl (strF k (g i) (g j)) a = rs.foldl (strF k i j) a
  | [], _, _, _ => rfl
  | r :: rs, i, j, a => by
    show (rs.map (Rw.re g)).foldl _ (strF k (g i) (g j) a (Rw.re g r)) = rs.foldl _ (strF k i j a r)
    have e : strF k (g i) (g j) a (Rw.re g r) = strF k i j a r := by
      unfold strF
      by_cases c : r.s = i ∧ r.t = j
      · rw [if_pos c, if_pos ⟨by show g r.s = g i; rw [c.1], by show g r.t = g j; rw [c.2]⟩]; rfl
      · rw [if_neg c, if_neg fun z => c ⟨gi _ _ z.1, gi _ _ z.2⟩]
    rw [e]
    exact str_re g gi rs i j _
theorem shift {k : Kd} {A' A0 : Nat → Nat → Wo} {q : Nat} {F1 : Nat → Nat → Wo} (h1 : elimW k A0 1 = some F1) (h : ∀ i j, i < q → j < q → A' i j = F1 (i + 1) (j + 1)) : ∀ s, s ≤ q →
    (elimW k A' s = none ∧ elimW k A0 (s + 1) = none) ∨ ∃ F' F0, elimW k A' s = some F' ∧ elimW k A0 (s + 1) = some F0 ∧ ∀ i j, i < q → j < q → F' i j = F0 (i + 1) (j + 1)
  | 0, _ => .inr ⟨A', F1, rfl, h1, h⟩
  | s + 1, hs => by
    rcases shift h1 h s (by omega) with ⟨e1, e2⟩ | ⟨F', F0, e1, e2, e3⟩
    · refine .inl ⟨?_, ?_⟩
      · show (elimW k A' s).bind _ = _; rw [e1]; rfl
      · show (elimW k A0 (s + 1)).bind _ = _; rw [e2]; rfl
    · have es := e3 s s (by omega) (by omega)
      cases hr : rnd k (F' s s) with
      | none =>
        refine .inl ⟨?_, ?_⟩
        · show (elimW k A' s).bind _ = _; rw [e1]
          show (rnd k (F' s s)).bind _ = _; rw [hr]; rfl
        · show (elimW k A0 (s + 1)).bind _ = _; rw [e2]
          show (rnd k (F0 (s + 1) (s + 1))).bind _ = _; rw [← es, hr]; rfl
      | some st =>
        refine .inr ⟨thrW k F' s st, thrW k F0 (s + 1) st, ?_, ?_, fun i j hi hj => ?_⟩
        · show (elimW k A' s).bind _ = _; rw [e1]
          show (rnd k (F' s s)).bind _ = _; rw [hr]; rfl
        · show (elimW k A0 (s + 1)).bind _ = _; rw [e2]
          show (rnd k (F0 (s + 1) (s + 1))).bind _ = _; rw [← es, hr]; rfl
        · unfold thrW
          rw [e3 i j hi hj, e3 i s hi (by omega), e3 s j (by omega) hj]
theorem outR_get {k : Kd} {V : Nat → Nat → Wo} {q i : Nat} {m : Nat} {r : Rw} (h : (outR k V q i)[m]? = some r) : ∃ a b, a < i ∧ b < q ∧ r = ⟨a, b, V a b⟩ := mem_outR (List.mem_of_getElem? h)
/-- all about the net with a place taken out -/
theorem out_all {k : Kd} (hk : KOk k) {most extra n : Nat} {rs : List Rw} (N : NetD k most extra n rs) (hx : extra ≤ 64) (hn2 : 2 ≤ n) (hn7 : n ≤ 7) {p : Nat} (hp : p < n) {st : Wo} (hst : rnd k (strW k rs p p) = some st) :
    (RsOk k (n - 1) (outR k (outV k rs p st) (n - 1) (n - 1)) ∧ (outR k (outV k rs p st) (n - 1) (n - 1)).length ≤ 36 ∧ (k = .cha → (∀ i, sumW i (outR k (outV k rs p st) (n - 1) (n - 1)) ≤ 1) ∧ ∀ r ∈ outR k (outV k rs p st) (n - 1) (n - 1), sz r.w ≤ 100)) ∧ TabOk k (n - 1) (outR k (outV k rs p st) (n - 1) (n - 1)) ∧
    ∀ F, elimW k (strW k rs) n = some F → ∃ F', elimW k (strW k (outR k (outV k rs p st) (n - 1) (n - 1))) (n - 1) = some F' ∧ ∀ i j, i < n - 1 → j < n - 1 → tabW k F' i j = tabW k F (lf p i) (lf p j) := by
  have ok := N.ok
  have gs := good_rnd hk (str_good hk ok p p) hst
  have gl : ∀ i, i < n → gq p i < n := fun i hi => gq_lt hp hi
  have gi : ∀ i j, i < n → j < n → gq p i = gq p j → i = j := fun i j _ _ => gq_inj
  have N0 := N.re gl gi (List.Perm.refl _)
  have ok0 := N0.ok
  obtain ⟨ren, ret⟩ := re_tab hk ok ok0 gl gi (List.Perm.refl _)
  have estr : ∀ i j, strW k (rs.map (Rw.re (gq p))) (gq p i) (gq p j) = strW k rs i j := fun i j => str_re (gq p) (fun _ _ => gq_inj) rs i j _
  have h1 : elimW k (strW k (rs.map (Rw.re (gq p)))) 1 = some (thrW k (strW k (rs.map (Rw.re (gq p)))) 0 st) := by
    show (rnd k (strW k (rs.map (Rw.re (gq p))) 0 0)).bind _ = _
    have : strW k (rs.map (Rw.re (gq p))) 0 0 = strW k rs p p := by have := estr p p; rwa [gq_p] at this
    rw [this, hst]; rfl
  have e1 : ∀ i j, outV k rs p st i j = thrW k (strW k (rs.map (Rw.re (gq p)))) 0 st (i + 1) (j + 1) := fun i j => by
    have a1 := estr (lf p i) (lf p j)
    have a2 := estr (lf p i) p
    have a3 := estr p (lf p j)
    rw [gq_lf, gq_lf] at a1
    rw [gq_lf, gq_p] at a2
    rw [gq_lf, gq_p] at a3
    unfold outV thrW
    rw [a1, a2, a3]
  have gv := fun i j => outV_good hk ok (p := p) gs i j
  have hA : ∀ i j, i < n - 1 → j < n - 1 → strW k (outR k (outV k rs p st) (n - 1) (n - 1)) i j = thrW k (strW k (rs.map (Rw.re (gq p)))) 0 st (i + 1) (j + 1) := fun i j hi hj => by rw [str_out hi hj (gv i j), e1]
  have sh := shift h1 hA
  have hsz : bitK k = true → ∀ i j, i < n - 1 → j < n - 1 → sz (outV k rs p st i j) ≤ szT k 1 := fun hb i j hi hj => by
    rw [e1]; exact elim_sz hk N0 hx hb (by omega) h1 (by omega) (by omega)
  have okO : RsOk k (n - 1) (outR k (outV k rs p st) (n - 1) (n - 1)) := fun r hr => by
    obtain ⟨a, b, ha, hb, rfl⟩ := mem_outR hr
    exact ⟨gv a b, ha, hb⟩
  have len : (outR k (outV k rs p st) (n - 1) (n - 1)).length ≤ 36 := by
    have := outR_len k (outV k rs p st) (n - 1) (n - 1)
    have h2 : (n - 1) * (n - 1) ≤ 6 * 6 := Nat.mul_le_mul (by omega) (by omega)
    omega
  have T0 := tabOk_net hk N0 hx (by omega) (fun _ => hn7)
  refine ⟨⟨okO, len, fun hc => ⟨fun i => ?_, fun r hr => ?_⟩⟩, ⟨fun m i j r hr => ?_, fun s F' hs hF' => ?_, fun F' hF' i j hi hj => ?_⟩, fun F hF => ?_⟩
  · subst hc
    obtain ⟨D, _, _, hs1⟩ := N.cha rfl
    exact out_sum ok hs1 hp hst i
  · obtain ⟨a, b, ha, hb, rfl⟩ := mem_outR hr
    have := hsz (by rw [hc]; rfl) a b ha hb
    rw [hc] at this
    have e : szT .cha 1 = 50 := rfl
    rw [e] at this
    rw [hc]
    show sz (outV .cha rs p st a b) ≤ 100
    omega
  · have okm : RsOk k (n - 1) ((outR k (outV k rs p st) (n - 1) (n - 1)).take m) := fun r hr => okO r (List.mem_of_mem_take hr)
    refine ⟨str_good hk okm i j, fits_lim fun hb => ?_⟩
    -- each fold is none or one worth: by the list's own order
    have key : ∀ (l : List Rw) (a : Wo), (∀ r ∈ l, Good k r.w ∧ sz r.w ≤ szT k 1) → Good k a → sz (l.foldl (strF k i j) a) ≤ sz a + l.length * (szT k 1 + 1) := by
      intro l
      induction l with
      | nil => intro a _ _; simp
      | cons x l ih =>
        intro a hl ga
        obtain ⟨gx, zx⟩ := hl x List.mem_cons_self
        have e : Good k (strF k i j a x) ∧ sz (strF k i j a x) ≤ sz a + (szT k 1 + 1) := by
          unfold strF
          split
          · exact ⟨good_tog ga gx, by have := sz_tog hb ga gx; omega⟩
          · exact ⟨ga, by omega⟩
        have := ih (strF k i j a x) (fun y hy => hl y (List.mem_cons_of_mem _ hy)) e.1
        rw [List.length_cons, Nat.succ_mul]
        show sz (l.foldl _ (strF k i j a x)) ≤ _
        omega
    have hw : ∀ r ∈ outR k (outV k rs p st) (n - 1) (n - 1), Good k r.w ∧ sz r.w ≤ szT k 1 := fun r hr => by
      obtain ⟨a, b, ha, hb', rfl⟩ := mem_outR hr
      exact ⟨gv a b, hsz hb a b ha hb'⟩
    have h1 := key ((outR k (outV k rs p st) (n - 1) (n - 1)).take m) (noneW k) (fun r hr => hw r (List.mem_of_mem_take hr)) (good_none k)
    have h2 := (hw r (List.mem_of_getElem? hr)).2
    have h3 := sz_none k
    have hl2 : ((outR k (outV k rs p st) (n - 1) (n - 1)).take m).length ≤ 36 := by rw [List.length_take]; omega
    have h4 : ((outR k (outV k rs p st) (n - 1) (n - 1)).take m).length * (szT k 1 + 1) ≤ 36 * (szT k 1 + 1) := Nat.mul_le_mul_right _ hl2
    cases k with
    | cnt => have e : szT .cnt 1 = 343 := rfl
             show _ ≤ 900000; omega
    | lik => have e : szT .lik 1 = 11 := rfl
             show _ ≤ 8000; omega
    | cha => have e : szT .cha 1 = 50 := rfl
             show _ ≤ 8000; omega
    | _ => cases hb
  · rcases sh s (by omega) with ⟨z, _⟩ | ⟨F1', F0, z1, z2, z3⟩
    · rw [z] at hF'; cases hF'
    · rw [z1] at hF'
      cases hF'
      obtain ⟨t1, t2, t3⟩ := T0.thr (s + 1) F0 (by omega) z2
      have e := z3 s s hs hs
      refine ⟨fun i j hi hj => by rw [z3 i j hi hj]; exact t1 _ _ (by omega) (by omega), by rw [e]; exact t2, fun st' hst' i j hi hj => ?_⟩
      rw [e] at hst'
      rw [z3 i s hi hs, z3 s j hs hj, z3 i j hi hj]
      exact t3 st' hst' _ _ (by omega) (by omega)
  · rcases sh (n - 1) (Nat.le_refl _) with ⟨z, _⟩ | ⟨F1', F0, z1, z2, z3⟩
    · rw [z] at hF'; cases hF'
    · rw [z1] at hF'
      cases hF'
      rw [show n - 1 + 1 = n by omega] at z2
      rw [z3 i j hi hj]
      exact T0.fin F0 z2 _ _ (by omega) (by omega)
  · rcases sh (n - 1) (Nat.le_refl _) with ⟨_, z⟩ | ⟨F1', F0, z1, z2, z3⟩
    · rw [show n - 1 + 1 = n by omega] at z
      rw [ren.2 z] at hF; cases hF
    · rw [show n - 1 + 1 = n by omega] at z2
      refine ⟨F1', z1, fun i j hi hj => ?_⟩
      have := ret F F0 hF z2 (lf p i) (lf p j) (lf_lt hi) (lf_lt hj)
      rw [gq_lf, gq_lf] at this
      rw [← this]
      unfold tabW
      rw [z3 i j hi hj]
      by_cases c : i = j
      · rw [if_pos c, if_pos (by omega)]
      · rw [if_neg c, if_neg (by omega)]
/-! ### M19: a table is what the ways come to (kinds whose together of like is like) -/
namespace SR
variable {α : Type} {S : SR α} {β : Type}
theorem sig_mem_le {l : List β} {x : β} (h : x ∈ l) (f : β → α) : S.le (f x) (S.sig l f) := by
  induction l with
  | nil => cases h
  | cons y l ih =>
    rcases List.mem_cons.1 h with rfl | h
    · exact le_add_right _ _
    · exact le_trans (ih h) (le_add_left _ _)
theorem sig_below (idem : ∀ a, S.add a a = a) {l : List β} {f : β → α} {Y : α} (h : ∀ x ∈ l, S.le (f x) Y) : S.le (S.sig l f) Y := by
  induction l with
  | nil => exact zero_le Y
  | cons x l ih =>
    have h1 := add_le_add (h x List.mem_cons_self) (ih fun y hy => h y (List.mem_cons_of_mem _ hy))
    rw [idem] at h1
    exact h1
theorem sig_range_succ (n : Nat) (f : Nat → α) : S.sig (List.range (n + 1)) f = S.add (S.sig (List.range n) f) (f n) := by
  rw [List.range_succ, sig_append]
  show S.add _ (S.add (f n) S.zero) = _
  rw [S.add_zero]
theorem sig_range_first (n : Nat) (f : Nat → α) : S.sig (List.range (n + 1)) f = S.add (f 0) (S.sig (List.range n) fun i => f (i + 1)) := by
  rw [List.range_succ_eq_map]
  show S.add (f 0) (S.sig ((List.range n).map Nat.succ) f) = _
  rw [sig_map]
theorem le_idem (idem : ∀ a, S.add a a = a) {a b : α} (h : S.le a b) : S.add b a = b := by
  obtain ⟨c, rfl⟩ := h
  rw [S.add_comm, ← S.add_assoc, idem]
end SR
section
variable {α : Type} {S : SR α}
/-- the ways of fewer than N roads -/
def sumBy (S : SR α) (rs : List (Rg α)) (p q N : Nat) : α := S.sig (List.range N) fun c => byG S rs p c q
theorem by_one {rs : List (Rg α)} (i k : Nat) : byG S rs i 1 k = strG S rs i k := by
  show S.sig rs _ = S.sig rs _
  refine SR.sig_congr fun r _ => ?_
  by_cases h1 : r.t = k
  · rw [if_pos h1]
    show S.mul (if r.s = i then S.one else S.zero) r.w = _
    by_cases h2 : r.s = i
    · rw [if_pos h2, if_pos ⟨h2, h1⟩, SR.one_mul]
    · rw [if_neg h2, if_neg fun z => h2 z.1, SR.zero_mul]
  · rw [if_neg h1, if_neg fun z => h1 z.2]
theorem sum_le_tab {rs : List (Rg α)} {n : Nat} (ok : ∀ r ∈ rs, r.s < n ∧ r.t < n) {F : Nat → Nat → α} (h : elimG S (strG S rs) n = some F) {p : Nat} (hp : p < n) : ∀ N q, S.le (sumBy S rs p q N) (tabG S F p q)
  | 0, q => SR.zero_le _
  | N + 1, q => by
    have e : sumBy S rs p q (N + 1) = S.add (byG S rs p 0 q) (S.sig rs fun r => if r.t = q then S.mul (sumBy S rs p r.s N) r.w else S.zero) := by
      unfold sumBy
      rw [SR.sig_range_first]
      congr 1
      show S.sig (List.range N) (fun c => S.sig rs fun r => if r.t = q then S.mul (byG S rs p c r.s) r.w else S.zero) = _
      rw [SR.sig_swap]
      refine SR.sig_congr fun r _ => ?_
      by_cases c : r.t = q
      · simp only [if_pos c]
        exact SR.sig_mul_right _ _ _
      · simp only [if_neg c]
        exact SR.sig_zero _
    rw [e, tab_from h hp, str_from (fun r hr => (ok r hr).1) q fun l => tabG S F p l]
    refine SR.add_le_add (SR.le_of_eq ?_) (SR.sig_le fun r _ => ?_)
    · show (if q = p then S.one else S.zero) = _
      by_cases c : p = q
      · rw [if_pos c, if_pos c.symm]
      · rw [if_neg c, if_neg fun z => c z.symm]
    · split
      · exact SR.mul_le_mul_right _ (sum_le_tab ok h hp N r.s)
      · exact SR.le_refl _
theorem on_sum {rs : List (Rg α)} {n : Nat} (ok : ∀ r ∈ rs, r.s < n ∧ r.t < n) (i q : Nat) (hq : q < n) (N : Nat) : S.add (S.sig (List.range n) fun j => S.mul (strG S rs i j) (sumBy S rs j q N)) (if i = q then S.one else S.zero) = sumBy S rs i q (N + 1) := by
  have e : (S.sig (List.range n) fun j => S.mul (strG S rs i j) (sumBy S rs j q N)) = S.sig (List.range N) fun c => byG S rs i (c + 1) q := by
    have : ∀ c, byG S rs i (c + 1) q = S.sig (List.range n) fun j => S.mul (strG S rs i j) (byG S rs j c q) := fun c => by
      rw [Nat.add_comm c 1, byG_add (fun r hr => (ok r hr).1) i 1 c q hq]
      exact SR.sig_congr fun k _ => by rw [by_one]
    rw [SR.sig_congr (g := fun c => S.sig (List.range n) fun j => S.mul (strG S rs i j) (byG S rs j c q)) fun c _ => this c, SR.sig_swap]
    refine SR.sig_congr fun j _ => ?_
    unfold sumBy
    rw [SR.sig_mul_left]
  unfold sumBy
  rw [SR.sig_range_first]
  unfold sumBy at e
  rw [e, S.add_comm]
  congr 1
  show _ = if q = i then S.one else S.zero
  by_cases c : i = q
  · rw [if_pos c, if_pos c.symm]
  · rw [if_neg c, if_neg fun z => c z.symm]
/-- from N on nothing is added: the table -/
theorem tab_is_sum (idem : ∀ a, S.add a a = a) {rs : List (Rg α)} {n : Nat} (ok : ∀ r ∈ rs, r.s < n ∧ r.t < n) {F : Nat → Nat → α} (h : elimG S (strG S rs) n = some F) {N p q : Nat} (hp : p < n) (hq : q < n) (hN : ∀ i, i < n → S.le (byG S rs i N q) (sumBy S rs i q N)) : tabG S F p q = sumBy S rs p q N := by
  refine SR.le_antisymm ?_ (sum_le_tab ok h hp N q)
  have hx : ∀ i, i < n → S.le (S.add (S.sig (List.range n) fun j => S.mul (strG S rs i j) (sumBy S rs j q N)) (if i = q then S.one else S.zero)) (sumBy S rs i q N) := fun i hi => by
    rw [on_sum ok i q hq N]
    refine SR.le_of_eq ?_
    show S.sig (List.range (N + 1)) _ = _
    rw [SR.sig_range_succ]
    exact SR.le_idem idem (hN i hi)
  have := tab_least h (b := fun i => if i = q then S.one else S.zero) hx hp
  refine SR.le_trans (SR.le_of_eq ?_) this
  rw [← SR.sig_range_one hq fun l => tabG S F p l]
  refine SR.sig_congr fun l _ => ?_
  by_cases e : l = q
  · rw [if_pos e, if_pos e, S.mul_one]
  · rw [if_neg e, if_neg e, S.mul_zero]
/-- a way of c roads to q, of worth w -/
inductive WayG (S : SR α) (rs : List (Rg α)) (p : Nat) : Nat → Nat → α → Prop
  | nil : WayG S rs p 0 p S.one
  | snoc {c : Nat} {w : α} {r : Rg α} : WayG S rs p c r.s w → r ∈ rs → WayG S rs p (c + 1) r.t (S.mul w r.w)
theorem way_le {rs : List (Rg α)} {p c q : Nat} {w : α} (h : WayG S rs p c q w) : S.le w (byG S rs p c q) := by
  induction h with
  | nil => show S.le S.one (if p = p then _ else _); rw [if_pos rfl]; exact SR.le_refl _
  | snoc h hr ih =>
    rename_i c w r
    refine SR.le_trans (SR.mul_le_mul_right r.w ih) ?_
    have := SR.sig_mem_le (S := S) hr (fun x => if x.t = r.t then S.mul (byG S rs p c x.s) x.w else S.zero)
    rw [if_pos rfl] at this
    exact this
theorem by_below (idem : ∀ a, S.add a a = a) {rs : List (Rg α)} {p : Nat} {Y : α} : ∀ (c q : Nat) (a : α), (∀ w, WayG S rs p c q w → S.le (S.mul w a) Y) → S.le (S.mul (byG S rs p c q) a) Y
  | 0, q, a, h => by
    show S.le (S.mul (if q = p then S.one else S.zero) a) Y
    by_cases e : q = p
    · rw [if_pos e]; exact h _ (e ▸ .nil)
    · rw [if_neg e, SR.zero_mul]; exact SR.zero_le Y
  | c + 1, q, a, h => by
    show S.le (S.mul (S.sig rs fun r => if r.t = q then S.mul (byG S rs p c r.s) r.w else S.zero) a) Y
    rw [← SR.sig_mul_right]
    refine SR.sig_below idem fun r hr => ?_
    by_cases e : r.t = q
    · rw [if_pos e, S.mul_assoc]
      refine by_below idem c r.s (S.mul r.w a) fun w hw => ?_
      rw [← S.mul_assoc]
      exact h _ (e ▸ .snoc hw hr)
    · rw [if_neg e, SR.zero_mul]; exact SR.zero_le Y
/-- a way through no place twice: the places met (the last one first) -/
inductive SWay (S : SR α) (rs : List (Rg α)) (p : Nat) : List Nat → Nat → α → Prop
  | nil : SWay S rs p [p] p S.one
  | snoc {L : List Nat} {w : α} {r : Rg α} : SWay S rs p L r.s w → r ∈ rs → r.t ∉ L → SWay S rs p (r.t :: L) r.t (S.mul w r.w)
theorem sway_way {rs : List (Rg α)} {p q : Nat} {L : List Nat} {w : α} (h : SWay S rs p L q w) : ∃ c, L.length = c + 1 ∧ WayG S rs p c q w := by
  induction h with
  | nil => exact ⟨0, rfl, .nil⟩
  | snoc _ hr _ ih =>
    obtain ⟨c, e, h⟩ := ih
    exact ⟨c + 1, by rw [List.length_cons, e], .snoc h hr⟩
theorem sway_nd {rs : List (Rg α)} {n p q : Nat} (ok : ∀ r ∈ rs, r.s < n ∧ r.t < n) (hp : p < n) {L : List Nat} {w : α} (h : SWay S rs p L q w) : L.Nodup ∧ ∀ x ∈ L, x < n := by
  induction h with
  | nil => exact ⟨by simp, fun x hx => by rw [List.mem_singleton.1 hx]; exact hp⟩
  | snoc _ hr hn ih =>
    refine ⟨List.nodup_cons.2 ⟨hn, ih.1⟩, fun x hx => ?_⟩
    rcases List.mem_cons.1 hx with rfl | hx
    · exact (ok _ hr).2
    · exact ih.2 x hx
theorem mul_le_self (top : ∀ a, S.add S.one a = S.one) (a b : α) : S.le (S.mul a b) a := by
  have : S.le b S.one := ⟨S.one, by rw [S.add_comm]; exact top b⟩
  have := SR.mul_le_mul_left a this
  rwa [S.mul_one] at this
theorem sway_cut (top : ∀ a, S.add S.one a = S.one) {rs : List (Rg α)} {p q : Nat} {L : List Nat} {w : α} (h : SWay S rs p L q w) : ∀ x ∈ L, ∃ L' w', SWay S rs p L' x w' ∧ L'.length ≤ L.length ∧ S.le w w' := by
  induction h with
  | nil =>
    intro x hx
    rw [List.mem_singleton.1 hx]
    exact ⟨_, _, .nil, Nat.le_refl _, SR.le_refl _⟩
  | snoc h hr hn ih =>
    intro x hx
    rcases List.mem_cons.1 hx with rfl | hx
    · exact ⟨_, _, .snoc h hr hn, Nat.le_refl _, SR.le_refl _⟩
    · obtain ⟨L', w', h1, h2, h3⟩ := ih x hx
      exact ⟨L', w', h1, by rw [List.length_cons]; omega, SR.le_trans (mul_le_self top _ _) h3⟩
/-- rings left out -/
theorem way_short (top : ∀ a, S.add S.one a = S.one) {rs : List (Rg α)} {p c q : Nat} {w : α} (h : WayG S rs p c q w) : ∃ L w', SWay S rs p L q w' ∧ S.le w w' ∧ L.length ≤ c + 1 := by
  induction h with
  | nil => exact ⟨_, _, .nil, SR.le_refl _, Nat.le_refl _⟩
  | snoc h hr ih =>
    rename_i c w r
    obtain ⟨L, w', h1, h2, h3⟩ := ih
    by_cases hm : r.t ∈ L
    · obtain ⟨L', w'', g1, g2, g3⟩ := sway_cut top h1 _ hm
      exact ⟨L', w'', g1, SR.le_trans (mul_le_self top _ _) (SR.le_trans h2 g3), by omega⟩
    · exact ⟨_, _, .snoc h1 hr hm, SR.mul_le_mul_right _ h2, by rw [List.length_cons]; omega⟩
end
theorem nodup_le : ∀ (n : Nat) (L : List Nat), L.Nodup → (∀ x ∈ L, x < n) → L.length ≤ n
  | 0, L, _, h => by
    cases L with
    | nil => exact Nat.le_refl 0
    | cons x L => have := h x List.mem_cons_self; omega
  | n + 1, L, nd, h => by
    have h1 := nodup_le n (L.erase n) (nd.erase n) fun x hx => by
      have hx' := (List.Nodup.mem_erase_iff nd).1 hx
      have := h x hx'.2
      have := hx'.1
      omega
    by_cases hm : n ∈ L
    · rw [List.length_erase_of_mem hm] at h1; omega
    · rw [List.erase_of_not_mem hm] at h1; omega
section
variable {α : Type} {S : SR α}
/-- flat kinds: fewer roads than places do -/
theorem flat_close (idem : ∀ a, S.add a a = a) (top : ∀ a, S.add S.one a = S.one) {rs : List (Rg α)} {n : Nat} (ok : ∀ r ∈ rs, r.s < n ∧ r.t < n) {p : Nat} (hp : p < n) (c q : Nat) {N : Nat} (hN : n ≤ N) : S.le (byG S rs p c q) (sumBy S rs p q N) := by
  have := by_below idem (Y := sumBy S rs p q N) c q S.one fun w hw => by
    obtain ⟨L, w', h1, h2, _⟩ := way_short top hw
    obtain ⟨nd, hlt⟩ := sway_nd ok hp h1
    have hlen := nodup_le n L nd hlt
    obtain ⟨c', e, hw'⟩ := sway_way h1
    rw [S.mul_one]
    exact SR.le_trans h2 (SR.le_trans (way_le hw') (SR.sig_mem_le (S := S) (x := c') (List.mem_range.2 (by omega)) fun c => byG S rs p c q))
  rwa [S.mul_one] at this
end
theorem k_idem {k : Kd} {hk : KOk k} (h : k ≠ .cnt ∧ k ≠ .cha) (a : Wk k) : (kSR k hk).add a a = a := Subtype.ext (tog_idem h a.2)
theorem k_top {k : Kd} {hk : KOk k} (h : flat k = true) (a : Wk k) : (kSR k hk).add (kSR k hk).one a = (kSR k hk).one := Subtype.ext (rest_top h a.2)
theorem flat_ne {k : Kd} (h : flat k = true) : k ≠ .cnt ∧ k ≠ .cha := by cases k <;> simp [flat] at h ⊢
/-! Rests: places and rests -/
/-- reached by c turns -/
inductive Rch (R : Nat → Nat → Prop) (s : Nat) : Nat → Nat → Prop
  | nil : Rch R s 0 s
  | snoc {c t u : Nat} : Rch R s c t → R t u → Rch R s (c + 1) u
inductive SRch (R : Nat → Nat → Prop) (s : Nat) : List Nat → Nat → Prop
  | nil : SRch R s [s] s
  | snoc {L : List Nat} {t u : Nat} : SRch R s L t → R t u → u ∉ L → SRch R s (u :: L) u
theorem srch_cut {R : Nat → Nat → Prop} {s t : Nat} {L : List Nat} (h : SRch R s L t) : ∀ x ∈ L, ∃ L', SRch R s L' x := by
  induction h with
  | nil => intro x hx; rw [List.mem_singleton.1 hx]; exact ⟨_, .nil⟩
  | snoc h hr hn ih =>
    intro x hx
    rcases List.mem_cons.1 hx with rfl | hx
    · exact ⟨_, .snoc h hr hn⟩
    · exact ih x hx
theorem rch_short {R : Nat → Nat → Prop} {N s : Nat} (hs : s < N) (ok : ∀ t u, R t u → u < N) {c t : Nat} (h : Rch R s c t) : ∃ c', c' < N ∧ Rch R s c' t := by
  have h1 : ∃ L, SRch R s L t := by
    induction h with
    | nil => exact ⟨_, .nil⟩
    | snoc h hr ih =>
      rename_i c t u
      obtain ⟨L, h1⟩ := ih
      by_cases hm : u ∈ L
      · exact srch_cut h1 u hm
      · exact ⟨_, .snoc h1 hr hm⟩
  obtain ⟨L, h1⟩ := h1
  have h2 : L.Nodup ∧ (∀ x ∈ L, x < N) ∧ ∃ c', L.length = c' + 1 ∧ Rch R s c' t := by
    clear h
    induction h1 with
    | nil => exact ⟨by simp, fun x hx => by rw [List.mem_singleton.1 hx]; exact hs, 0, rfl, .nil⟩
    | snoc h hr hn ih =>
      obtain ⟨a, b, c', e, r⟩ := ih
      refine ⟨List.nodup_cons.2 ⟨hn, a⟩, fun x hx => ?_, c' + 1, by rw [List.length_cons, e], .snoc r hr⟩
      rcases List.mem_cons.1 hx with rfl | hx
      · exact ok _ _ hr
      · exact b x hx
  obtain ⟨nd, lt, c', e, r⟩ := h2
  have := nodup_le N L nd lt
  exact ⟨c', by omega, r⟩
/-- a place and a rest as one number; a road from one to another -/
def stR (m : Nat) (gs : List (Rg Nat)) (t u : Nat) : Prop := ∃ r ∈ gs, ∃ j, j < m ∧ r.w.testBit j = true ∧ t / m = r.s ∧ u = r.t * m + (t % m + j) % m
def bitN : Wo → Nat
  | .int i => i.toNat
  | _ => 0
/-- the rests of the ways -/
theorem by_bits {m n : Nat} (hk : KOk (.rst m)) {rs : List Rw} (ok : RsOk (.rst m) n rs) (p : Nat) : ∀ c q x, (bitN (byW (.rst m) rs p c q)).testBit x = true ↔ x < m ∧ Rch (stR m (rs.map fun r => ⟨r.s, r.t, bitN r.w⟩)) (p * m) c (q * m + x)
  | 0, q, x => by
    have hm := hk.1
    show (bitN (if q = p then restW (.rst m) else noneW (.rst m))).testBit x = true ↔ _
    constructor
    · intro h
      by_cases e : q = p
      · rw [if_pos e] at h
        have : x = 0 := by
          have h : Nat.testBit (2 ^ 0) x = true := h
          rw [Nat.testBit_two_pow] at h
          have := of_decide_eq_true h
          omega
        subst this
        exact ⟨hm, by rw [e]; exact .nil⟩
      · rw [if_neg e] at h
        have h : Nat.testBit 0 x = true := h
        simp at h
    · rintro ⟨hx, h⟩
      generalize hu : q * m + x = u at h
      cases h
      have e1 : q = p ∧ x = 0 := by
        have a1 : (q * m + x) / m = q := by rw [Nat.mul_comm, Nat.mul_add_div (by omega), Nat.div_eq_of_lt hx, Nat.add_zero]
        have a2 : (q * m + x) % m = x := by rw [Nat.mul_comm, Nat.mul_add_mod, Nat.mod_eq_of_lt hx]
        have a3 : (p * m) / m = p := Nat.mul_div_cancel p (by omega)
        have a4 : (p * m) % m = 0 := Nat.mul_mod_left p m
        rw [hu] at a1 a2
        exact ⟨a1.symm.trans a3, a2.symm.trans a4⟩
      rw [if_pos e1.1, e1.2]
      show Nat.testBit 1 0 = true
      decide
  | c + 1, q, x => by
    have hm := hk.1
    -- the fold's bits
    have key : ∀ (l : List Rw) (a : Wo), (∀ r ∈ l, r ∈ rs) → Good (.rst m) a → ((bitN (l.foldl (stepF (.rst m) (byW (.rst m) rs p c) q) a)).testBit x = true ↔ (bitN a).testBit x = true ∨ ∃ r ∈ l, r.t = q ∧ (rbeh m (bitN (byW (.rst m) rs p c r.s)) (bitN r.w)).testBit x = true) := by
      intro l
      induction l with
      | nil => intro a _ _; simp
      | cons r l ih =>
        intro a hl ga
        have hr := hl r List.mem_cons_self
        obtain ⟨y, ey, hy⟩ := good_rst (ok r hr).1
        obtain ⟨b, eb, hb⟩ := good_rst (byW_good hk ok p c r.s)
        obtain ⟨a', ea, ha⟩ := good_rst ga
        show (bitN (l.foldl _ (stepF (.rst m) (byW (.rst m) rs p c) q a r))).testBit x = true ↔ _
        have gs : Good (.rst m) (stepF (.rst m) (byW (.rst m) rs p c) q a r) := by
          unfold stepF; split
          · exact good_tog ga (good_beh (byW_good hk ok p c r.s) (ok r hr).1)
          · exact ga
        rw [ih _ (fun z hz => hl z (List.mem_cons_of_mem _ hz)) gs]
        have e1 : (bitN (stepF (.rst m) (byW (.rst m) rs p c) q a r)).testBit x = true ↔ (bitN a).testBit x = true ∨ (r.t = q ∧ (rbeh m (bitN (byW (.rst m) rs p c r.s)) (bitN r.w)).testBit x = true) := by
          unfold stepF
          by_cases hq : r.t = q
          · rw [if_pos hq, eb, ey, ea, beh_rst, tog_rst]
            show ((a' ||| rbeh m b y : Nat)).testBit x = true ↔ (a').testBit x = true ∨ (r.t = q ∧ (rbeh m b y).testBit x = true)
            rw [Nat.testBit_or, Bool.or_eq_true]
            simp [hq]
          · rw [if_neg hq]; simp [hq]
        rw [e1]
        constructor
        · rintro ((h | h) | ⟨z, hz, h⟩)
          · exact .inl h
          · exact .inr ⟨r, List.mem_cons_self, h⟩
          · exact .inr ⟨z, List.mem_cons_of_mem _ hz, h⟩
        · rintro (h | ⟨z, hz, h⟩)
          · exact .inl (.inl h)
          · rcases List.mem_cons.1 hz with rfl | hz
            · exact .inl (.inr h)
            · exact .inr ⟨z, hz, h⟩
    show (bitN (rs.foldl (stepF (.rst m) (byW (.rst m) rs p c) q) (noneW (.rst m)))).testBit x = true ↔ _
    rw [key rs _ (fun _ h => h) (good_none _)]
    have e0 : (bitN (noneW (.rst m))).testBit x = false := Nat.zero_testBit x
    rw [e0]
    constructor
    · rintro (h | ⟨r, hr, hq, h⟩)
      · cases h
      · obtain ⟨hx, i, j, hi, hj, b1, b2, e⟩ := (testBit_rbeh _ _ _ _).1 h
        refine ⟨hx, ?_⟩
        have ih := ((by_bits hk ok p c r.s i).1 b1).2
        refine .snoc ih ⟨⟨r.s, r.t, bitN r.w⟩, List.mem_map.2 ⟨r, hr, rfl⟩, j, hj, b2, ?_, ?_⟩
        · show (r.s * m + i) / m = r.s
          rw [Nat.mul_comm, Nat.mul_add_div (by omega), Nat.div_eq_of_lt hi, Nat.add_zero]
        · show q * m + x = r.t * m + ((r.s * m + i) % m + j) % m
          rw [Nat.mul_comm r.s m, Nat.mul_add_mod, Nat.mod_eq_of_lt hi, hq, e]
    · rintro ⟨hx, h⟩
      generalize hu : q * m + x = u at h
      cases h with
      | snoc h hr =>
        rename_i t
        obtain ⟨g, hg, j, hj, b2, e1, e2⟩ := hr
        obtain ⟨r, hr, rfl⟩ := List.mem_map.1 hg
        have hmod : (t % m + j) % m < m := Nat.mod_lt _ (by omega)
        have eq : q = r.t ∧ x = (t % m + j) % m := by
          have a1 : (q * m + x) / m = q := by rw [Nat.mul_comm, Nat.mul_add_div (by omega), Nat.div_eq_of_lt hx, Nat.add_zero]
          have a2 : (q * m + x) % m = x := by rw [Nat.mul_comm, Nat.mul_add_mod, Nat.mod_eq_of_lt hx]
          have a3 : (r.t * m + (t % m + j) % m) / m = r.t := by rw [Nat.mul_comm, Nat.mul_add_div (by omega), Nat.div_eq_of_lt hmod, Nat.add_zero]
          have a4 : (r.t * m + (t % m + j) % m) % m = (t % m + j) % m := by rw [Nat.mul_comm, Nat.mul_add_mod, Nat.mod_eq_of_lt hmod]
          rw [hu, e2] at a1 a2
          exact ⟨a1.symm.trans a3, a2.symm.trans a4⟩
        refine .inr ⟨r, hr, eq.1.symm, (testBit_rbeh _ _ _ _).2 ⟨hx, t % m, j, Nat.mod_lt _ (by omega), hj, ?_, b2, eq.2.symm⟩⟩
        refine (by_bits hk ok p c r.s (t % m)).2 ⟨Nat.mod_lt _ (by omega), ?_⟩
        have e1 : t / m = r.s := e1
        rw [← e1, Nat.mul_comm (t / m) m, Nat.div_add_mod]
        exact h
/-- the rests of few ways do -/
theorem rst_close {m n : Nat} (hk : KOk (.rst m)) {rs : List Rw} (ok : RsOk (.rst m) n rs) {p : Nat} (hp : p < n) (c q : Nat) {N : Nat} (hN : n * m ≤ N) : (kSR (.rst m) hk).le (byG (kSR (.rst m) hk) (toG (.rst m) rs ok) p c q) (sumBy (kSR (.rst m) hk) (toG (.rst m) rs ok) p q N) := by
  have hm := hk.1
  -- a bit of the one is a bit of the sum
  have bits : ∀ (a b : Wk (.rst m)), (∀ x, (bitN a.1).testBit x = true → (bitN b.1).testBit x = true) → (kSR (.rst m) hk).le a b := by
    rintro ⟨a, ga⟩ ⟨b, gb⟩ h
    obtain ⟨x, rfl, hx⟩ := good_rst ga
    obtain ⟨y, rfl, hy⟩ := good_rst gb
    refine ⟨⟨.int y, gb⟩, Subtype.ext ?_⟩
    show tog (.rst m) (.int x) (.int y) = .int y
    rw [tog_rst, Wo.int.injEq, Int.natCast_inj]
    refine Nat.eq_of_testBit_eq fun r => ?_
    rw [Nat.testBit_or]
    cases e : x.testBit r with
    | true => rw [show y.testBit r = true from h r e]; rfl
    | false => rw [Bool.false_or]
  have up : ∀ (a b : Wk (.rst m)), (kSR (.rst m) hk).le a b → ∀ x, (bitN a.1).testBit x = true → (bitN b.1).testBit x = true := by
    rintro ⟨a, ga⟩ ⟨b, gb⟩ ⟨⟨d, gd⟩, h⟩ x hx
    obtain ⟨a', rfl, _⟩ := good_rst ga
    obtain ⟨b', rfl, _⟩ := good_rst gb
    obtain ⟨d', rfl, _⟩ := good_rst gd
    have h := congrArg Subtype.val h
    change tog (.rst m) (.int a') (.int d') = .int b' at h
    rw [tog_rst, Wo.int.injEq, Int.natCast_inj] at h
    show b'.testBit x = true
    have hx : a'.testBit x = true := hx
    rw [← h, Nat.testBit_or, hx]; rfl
  refine bits _ _ fun x hx => ?_
  rw [← byW_eq hk ok] at hx
  obtain ⟨hxm, hr⟩ := (by_bits hk ok p c q x).1 hx
  have hpm : p * m < n * m := Nat.mul_lt_mul_of_pos_right hp (by omega)
  obtain ⟨c', hc', hr'⟩ := rch_short (N := n * m) hpm (fun t u ⟨g, hg, j, hj, _, _, e⟩ => by
    obtain ⟨r, hr, rfl⟩ := List.mem_map.1 hg
    have h1 := (ok r hr).2.2
    have h2 : (t % m + j) % m < m := Nat.mod_lt _ (by omega)
    have h3 : (r.t + 1) * m ≤ n * m := Nat.mul_le_mul_right m (by omega)
    rw [Nat.succ_mul] at h3
    rw [e]
    show r.t * m + (t % m + j) % m < n * m
    omega) hr
  have h1 := (by_bits hk ok p c' q x).2 ⟨hxm, hr'⟩
  rw [byW_eq hk ok] at h1
  exact up _ _ (SR.sig_mem_le (S := kSR (.rst m) hk) (x := c') (List.mem_range.2 (by omega)) fun c => byG (kSR (.rst m) hk) (toG (.rst m) rs ok) p c q) x h1
/-- all ways of up to s roads, as the law puts them together -/
def allW (k : Kd) (rs : List Rw) (p : Nat) : Nat → Nat → Wo
  | 0, q => byW k rs p 0 q
  | s + 1, q => tog k (allW k rs p s q) (byW k rs p (s + 1) q)
theorem allW_eq {k : Kd} (hk : KOk k) {n : Nat} {rs : List Rw} (ok : RsOk k n rs) (p : Nat) : ∀ s q, allW k rs p s q = (sumBy (kSR k hk) (toG k rs ok) p q (s + 1)).1
  | 0, q => by
    show byW k rs p 0 q = ((kSR k hk).add (byG (kSR k hk) (toG k rs ok) p 0 q) (kSR k hk).zero).1
    rw [(kSR k hk).add_zero, byW_eq hk ok]
  | s + 1, q => by
    show tog k (allW k rs p s q) (byW k rs p (s + 1) q) = _
    unfold sumBy
    rw [SR.sig_range_succ, allW_eq hk ok p s q, byW_eq hk ok]; rfl
theorem allW_good {k : Kd} (hk : KOk k) {n : Nat} {rs : List Rw} (ok : RsOk k n rs) (p s q : Nat) : Good k (allW k rs p s q) := by
  rw [allW_eq hk ok]; exact (sumBy (kSR k hk) (toG k rs ok) p q (s + 1)).2
/-- the table is all ways of up to s roads -/
theorem tab_all {k : Kd} (hk : KOk k) {n : Nat} {rs : List Rw} (ok : RsOk k n rs) {F : Nat → Nat → Wo} (h : elimW k (strW k rs) n = some F) {p q s : Nat} (hp : p < n) (hq : q < n) (hs : (flat k = true ∧ n ≤ s + 1) ∨ ∃ m, k = .rst m ∧ n * m ≤ s + 1) : tabW k F p q = allW k rs p s q := by
  rw [strW_eq hk ok] at h
  obtain ⟨G, hG, rfl⟩ := elimW_some hk h
  rw [tabW_eq hk, allW_eq hk ok]
  refine congrArg Subtype.val ?_
  rcases hs with ⟨hf, hs⟩ | ⟨m, rfl, hs⟩
  · exact tab_is_sum (k_idem (flat_ne hf)) (toG_ok ok) hG hp hq fun i hi => flat_close (k_idem (flat_ne hf)) (k_top hf) (toG_ok ok) hi _ q hs
  · exact tab_is_sum (k_idem ⟨by simp, by simp⟩) (toG_ok ok) hG hp hq fun i hi => rst_close hk ok hi _ q hs
/-! ### W1: worths as values; shares -/
/-- v is the worth a -/
def Wv (H : Hp) (v : V) : Wo → Prop
  | .non => v = .non
  | .int i => v = .int i
  | .rat r => ∃ t, v = .ref t ∧ H t = some (.tup [.int r.num, .int r.den])
theorem Wv.same {H H' : Hp} {v : V} {a : Wo} (h : Wv H v a) (e : Same H H') : Wv H' v a := by
  cases a with
  | non => exact h
  | int i => exact h
  | rat r => obtain ⟨t, h1, h2⟩ := h; exact ⟨t, h1, e _ _ h2⟩
theorem same_upd {H : Hp} {p : Addr} {o : HO} (h : H p = none) : Same H (upd H p o) := fun b u e => by rw [upd_ne (ne_of_none e h)]; exact e
theorem same_new {H : Hp} {x dx C : Addr} {fs : List (Str × V)} (hx : H x = none) (hd : H dx = none) : Same H (upd (upd H dx (.own x)) x (.ins C dx fs)) := fun b o e => by
  rw [upd_ne (ne_of_none e hx), upd_ne (ne_of_none e hd)]; exact e
theorem sizeLt {n : Nat} (h : n < 10000) : n < sizeLine := by rw [sizeLine_eq]; omega
theorem ixN_nat {n i : Nat} (h : i < n) : ixN n (i : Int) = some i := by
  unfold ixN
  rw [if_pos (by omega), if_pos (by omega), Int.toNat_natCast]
/-- a pair of whole numbers -/
def Pr (H : Hp) (v : V) (p q : Int) : Prop := ∃ t, v = .ref t ∧ H t = some (.tup [.int p, .int q])
theorem Pr.same {H H' : Hp} {v : V} {p q : Int} (h : Pr H v p q) (e : Same H H') : Pr H' v p q := by
  obtain ⟨t, h1, h2⟩ := h; exact ⟨t, h1, e _ _ h2⟩
theorem Wv.pr {H : Hp} {v : V} {r : Rat} : Wv H v (.rat r) ↔ Pr H v r.num r.den := Iff.rfl
theorem at0 {x y : V} : atI [x, y] 0 = some x := atI_nat (j := 0) rfl
theorem at1 {x y : V} : atI [x, y] 1 = some y := atI_nat (j := 1) rfl
theorem size2 : (2 : Nat) ≤ sizeLine := by rw [sizeLine_eq]; decide
/-- common(a, b) -/
def spCommon : Sp := fun vs H Q _ => ∃ a b : Int, vs = [.int a, .int b] ∧ 0 ≤ a ∧ 0 ≤ b ∧ Q (.int (Int.gcd a b : Int)) H
/-- lowest(t, b) -/
def spLowest : Sp := fun vs H Q _ => ∃ t b : Int, vs = [.int t, .int b] ∧ 0 ≤ t ∧ 0 < b ∧ b.natAbs.log2 < 9000 ∧
  ∀ p, H p = none → Q (.ref p) (upd H p (.tup [.int (Rat.divInt t b).num, .int (Rat.divInt t b).den]))
/-- a deed of two shares -/
def spShare (f : Rat → Rat → Rat) (n : Nat) : Sp := fun vs H Q _ => ∃ (x y : V) (r s : Rat), vs = [x, y] ∧ Wv H x (.rat r) ∧ Wv H y (.rat s) ∧ 0 ≤ r ∧ 0 ≤ s ∧ sz (.rat r) + sz (.rat s) ≤ n ∧
  ∀ p, H p = none → Q (.ref p) (upd H p (.tup [.int (f r s).num, .int (f r s).den]))
def spLess : Sp := fun vs H Q _ => ∃ (x y : V) (r s : Rat), vs = [x, y] ∧ Wv H x (.rat r) ∧ Wv H y (.rat s) ∧ sz (.rat r) + sz (.rat s) ≤ 8000 ∧ Q (.bl (decide (r < s))) H
theorem log2_mono {a b : Nat} (h : a ≤ b) : a.log2 ≤ b.log2 := by
  by_cases h0 : a = 0
  · subst h0; simp
  · have hb : b ≠ 0 := by omega
    exact (Nat.le_log2 hb).2 (Nat.le_trans (Nat.log2_self_le h0) h)
theorem lt_sz_num (r : Rat) : r.num.natAbs < 2 ^ sz (.rat r) := by
  refine Nat.lt_of_lt_of_le (Nat.lt_log2_self) (Nat.pow_le_pow_right (by decide) ?_)
  simp only [sz]; omega
theorem lt_sz_den (r : Rat) : (r.den : Int).natAbs < 2 ^ sz (.rat r) := by
  rw [Int.natAbs_natCast]
  refine Nat.lt_of_lt_of_le (Nat.lt_log2_self) (Nat.pow_le_pow_right (by decide) ?_)
  simp only [sz]; omega
theorem sz_pos (a : Wo) : 0 < sz a := by cases a <;> simp only [sz] <;> omega
theorem lt_sz_int (i : Int) : i.natAbs < 2 ^ sz (.int i) := Nat.lt_log2_self
theorem mul_fit {a b : Int} {n m k : Nat} (ha : a.natAbs < 2 ^ n) (hb : b.natAbs < 2 ^ m) (h0 : 0 < n) (h1 : 0 < m) (h : n + m ≤ k) (hk : k ≤ 1000000) : L2.CMulW a b := wide_mul ha hb h0 h1 (by omega)
theorem den_fit {r s : Rat} {n : Nat} (h : sz (.rat r) + sz (.rat s) ≤ n) (hn : n ≤ 8000) : ((r.den : Int) * s.den).natAbs.log2 < 9000 := by
  have := wide_lt (lt_sz_den r) (lt_sz_den s)
  have h2 := PySem.Flt.log2_lt_of (n := ((r.den : Int) * s.den).natAbs) (k := sz (.rat r) + sz (.rat s)) (by have := sz_pos (.rat r); omega) this
  omega
section
variable {P : Program} {w : World} {K : PySem.W.Frag} {mg : Str → Option Value} {base : Heap}
theorem fc_common {f : Addr} {fd : FuncData} (D : Dfn K mg "common" s_common ["one", "other"] f fd) : Fc CX0 P w K mg base 1 "common" spCommon := by
  have sc : FnScope ["one", "other", "kept"] ["one", "other"] (defScope s_common) := ⟨rfl, rfl, rfl, by decide +kernel, rfl, by decide +kernel, by decide +kernel⟩
  refine fc0 D sc (fun vs H Q E h => ?_) (fun cdv A outer s H vs Q E hr h => ?_)
  · obtain ⟨a, b, rfl, _⟩ := h; rfl
  · obtain ⟨a, b, rfl, ha, hb, k⟩ := h
    refine ⟨_, pss_cons (ps_while PassesOwn.never (pt_cmpR op_ne (pv 1) pe_int (nomark _)) (pss_cons (ps_set (i := 2) sc.nd rfl (.inl rfl) (pe_op op_mod (pv 0) (pv 1)))
      (pss_cons (ps_set (i := 0) sc.nd rfl (.inl rfl) (pv 1)) (pss_one (ps_set (i := 1) sc.nd rfl (.inl rfl) (pv 2)))))) (pss_one (ps_ret (pv 0))), ?_⟩
    refine while_by (fun σ H' => ∃ (x y : Int) (v : Option V), σ = [some (.int x), some (.int y), v] ∧ H' = H ∧ 0 ≤ x ∧ 0 ≤ y ∧ Int.gcd x y = Int.gcd a b)
      (fun σ _ => match σ with | [_, some (.int y), _] => y.toNat | _ => 0) ⟨a, b, none, rfl, rfl, ha, hb, rfl⟩ ?_ ?_
    · rintro σ H' ⟨x, y, v, rfl, rfl, hx, hy, hg⟩
      refine ⟨_, rfl, rfl, _, rfl, ?_⟩
      by_cases h0 : y = 0
      · subst h0
        refine ⟨_, rfl, ?_⟩
        rw [Int.gcd_zero_right, ← Int.natCast_inj] at hg
        have e : x = (Int.gcd a b : Int) := by rw [← hg]; omega
        rw [e]; exact k
      · have hd : (!decide (V.int y = V.int 0)) = true := by simp [h0]
        show if (!decide (V.int y = V.int 0)) = true then _ else _
        rw [if_pos hd]
        refine ⟨_, rfl, _, rfl, _, _, rfl, rfl, (by omega : 0 < y), ?_⟩
        refine ⟨_, rfl, _, rfl, ⟨y, x % y, _, rfl, rfl, hy, Int.emod_nonneg _ h0, by rw [gcd_step]; exact hg⟩, ?_⟩
        have := Int.emod_lt_of_pos x (show 0 < y by omega)
        have := Int.emod_nonneg x h0
        show (x % y).toNat < y.toNat
        omega
    · rintro σ H' R R' hm ⟨v, e, h1, b, e2, h2⟩
      exact ⟨v, e, h1, b, e2, hm _ _ h2⟩
theorem fc_lowest {f : Addr} {fd : FuncData} (D : Dfn K mg "lowest" s_lowest ["top", "below"] f fd) (C : Fc CX0 P w K mg base 1 "common" spCommon) : Fc CX0 P w K mg base 2 "lowest" spLowest := by
  have sc : FnScope ["top", "below", "part"] ["top", "below"] (defScope s_lowest) := ⟨rfl, rfl, rfl, by decide +kernel, rfl, by decide +kernel, by decide +kernel⟩
  refine fc0 D sc (fun vs H Q E h => ?_) (fun cdv A outer s H vs Q E hr h => ?_)
  · obtain ⟨a, b, rfl, _⟩ := h; rfl
  · obtain ⟨a, b, rfl, ha, hb, hl, k⟩ := h
    refine ⟨_, pss_cons (ps_set (i := 2) sc.nd rfl (.inl rfl) (pe_f C hr (by decide) pass0 rfl (pa_cons (pv 0) (pa_cons (pv 1) pa_nil))))
      (pss_one (ps_ret (pe_tup (pa_cons (pe_op op_fdivW (pv 0) (pv 2)) (pa_cons (pe_op op_fdivW (pv 1) (pv 2)) pa_nil))))), ?_⟩
    have hg := gcd_pos' a b hb
    have hle := gcd_le' a b hb
    have hw : ∀ i, L2.CDivW i (Int.gcd a b : Int) := fun i => ⟨hg, Nat.lt_of_le_of_lt (log2_mono (by omega)) hl⟩
    refine ⟨_, rfl, _, rfl, a, b, rfl, ha, by omega, ?_⟩
    refine ⟨_, rfl, _, rfl, _, _, rfl, rfl, hw _, _, rfl, _, rfl, _, _, rfl, rfl, hw _, size2, fun p hp => ?_⟩
    have := k p hp
    rw [low_num a b hb, low_den a b hb] at this
    exact this
theorem fc_added {f : Addr} {fd : FuncData} (D : Dfn K mg "added" s_added ["one", "other"] f fd) (C : Fc CX0 P w K mg base 2 "lowest" spLowest) : Fc CX0 P w K mg base 3 "added" (spShare (· + ·) 8000) := by
  have sc : FnScope ["one", "other"] ["one", "other"] (defScope s_added) := ⟨rfl, rfl, rfl, by decide +kernel, rfl, by decide +kernel, by decide +kernel⟩
  refine fc0 D sc (fun vs H Q E h => ?_) (fun cdv A outer s H vs Q E hr h => ?_)
  · obtain ⟨x, y, r, s, rfl, _⟩ := h; rfl
  · obtain ⟨x, y, r, s, rfl, ⟨t, rfl, ht⟩, ⟨u, rfl, hu⟩, hr0, hs0, hsz, k⟩ := h
    refine ⟨_, pss_one (ps_ret (pe_f C hr (by decide) pass0 rfl (pa_cons (pe_op op_add (pe_op op_mulW (pe_ix ix_tup (pv 0) pe_int (fun _ _ => rfl)) (pe_ix ix_tup (pv 1) pe_int (fun _ _ => rfl))) (pe_op op_mulW (pe_ix ix_tup (pv 1) pe_int (fun _ _ => rfl)) (pe_ix ix_tup (pv 0) pe_int (fun _ _ => rfl))))
      (pa_cons (pe_op op_mulW (pe_ix ix_tup (pv 0) pe_int (fun _ _ => rfl)) (pe_ix ix_tup (pv 1) pe_int (fun _ _ => rfl))) pa_nil)))), ?_⟩
    have n0 := Rat.num_nonneg.2 hr0
    have n1 := Rat.num_nonneg.2 hs0
    have d0 := den_pos r
    have d1 := den_pos s
    have p0 := sz_pos (.rat r)
    have p1 := sz_pos (.rat s)
    refine ⟨_, rfl, t, _, _, _, rfl, rfl, SqT.of ht, at0, _, rfl, u, _, _, _, rfl, rfl, SqT.of hu, at1, _, _, rfl, rfl, mul_fit (lt_sz_num r) (lt_sz_den s) p0 p1 hsz (by decide), ?_⟩
    refine ⟨_, rfl, u, _, _, _, rfl, rfl, SqT.of hu, at0, _, rfl, t, _, _, _, rfl, rfl, SqT.of ht, at1, _, _, rfl, rfl, mul_fit (lt_sz_num s) (lt_sz_den r) p1 p0 (by omega) (by decide : 8000 ≤ _), _, _, rfl, rfl, ?_⟩
    refine ⟨_, rfl, t, _, _, _, rfl, rfl, SqT.of ht, at1, _, rfl, u, _, _, _, rfl, rfl, SqT.of hu, at1, _, _, rfl, rfl, mul_fit (lt_sz_den r) (lt_sz_den s) p0 p1 hsz (by decide), ?_⟩
    refine ⟨_, _, rfl, Int.add_nonneg (Int.mul_nonneg n0 (by omega)) (Int.mul_nonneg n1 (by omega)), Int.mul_pos d0 d1, den_fit hsz (by decide), fun p hp => ?_⟩
    rw [rat_add]
    exact k p hp
theorem fc_taken {f : Addr} {fd : FuncData} (D : Dfn K mg "taken" s_taken ["one", "other"] f fd) (C : Fc CX0 P w K mg base 2 "lowest" spLowest) : Fc CX0 P w K mg base 3 "taken" (spShare (· * ·) 8000) := by
  have sc : FnScope ["one", "other"] ["one", "other"] (defScope s_taken) := ⟨rfl, rfl, rfl, by decide +kernel, rfl, by decide +kernel, by decide +kernel⟩
  refine fc0 D sc (fun vs H Q E h => ?_) (fun cdv A outer s H vs Q E hr h => ?_)
  · obtain ⟨x, y, r, s, rfl, _⟩ := h; rfl
  · obtain ⟨x, y, r, s, rfl, ⟨t, rfl, ht⟩, ⟨u, rfl, hu⟩, hr0, hs0, hsz, k⟩ := h
    refine ⟨_, pss_one (ps_ret (pe_f C hr (by decide) pass0 rfl (pa_cons (pe_op op_mulW (pe_ix ix_tup (pv 0) pe_int (fun _ _ => rfl)) (pe_ix ix_tup (pv 1) pe_int (fun _ _ => rfl)))
      (pa_cons (pe_op op_mulW (pe_ix ix_tup (pv 0) pe_int (fun _ _ => rfl)) (pe_ix ix_tup (pv 1) pe_int (fun _ _ => rfl))) pa_nil)))), ?_⟩
    have n0 := Rat.num_nonneg.2 hr0
    have n1 := Rat.num_nonneg.2 hs0
    have d0 := den_pos r
    have d1 := den_pos s
    have p0 := sz_pos (.rat r)
    have p1 := sz_pos (.rat s)
    refine ⟨_, rfl, t, _, _, _, rfl, rfl, SqT.of ht, at0, _, rfl, u, _, _, _, rfl, rfl, SqT.of hu, at0, _, _, rfl, rfl, mul_fit (lt_sz_num r) (lt_sz_num s) p0 p1 hsz (by decide), ?_⟩
    refine ⟨_, rfl, t, _, _, _, rfl, rfl, SqT.of ht, at1, _, rfl, u, _, _, _, rfl, rfl, SqT.of hu, at1, _, _, rfl, rfl, mul_fit (lt_sz_den r) (lt_sz_den s) p0 p1 hsz (by decide), ?_⟩
    refine ⟨_, _, rfl, Int.mul_nonneg n0 n1, Int.mul_pos d0 d1, den_fit hsz (by decide), fun p hp => ?_⟩
    rw [rat_mul]
    exact k p hp
theorem fc_less {f : Addr} {fd : FuncData} (D : Dfn K mg "less" s_less ["one", "other"] f fd) : Fc CX0 P w K mg base 1 "less" spLess := by
  have sc : FnScope ["one", "other"] ["one", "other"] (defScope s_less) := ⟨rfl, rfl, rfl, by decide +kernel, rfl, by decide +kernel, by decide +kernel⟩
  refine fc0 D sc (fun vs H Q E h => ?_) (fun cdv A outer s H vs Q E hr h => ?_)
  · obtain ⟨x, y, r, s, rfl, _⟩ := h; rfl
  · obtain ⟨x, y, r, s, rfl, ⟨t, rfl, ht⟩, ⟨u, rfl, hu⟩, hsz, k⟩ := h
    refine ⟨_, pss_one (ps_ret (pe_cmpR op_lt (pe_op op_mulW (pe_ix ix_tup (pv 0) pe_int (fun _ _ => rfl)) (pe_ix ix_tup (pv 1) pe_int (fun _ _ => rfl))) (pe_op op_mulW (pe_ix ix_tup (pv 1) pe_int (fun _ _ => rfl)) (pe_ix ix_tup (pv 0) pe_int (fun _ _ => rfl))) (nomark _))), ?_⟩
    have p0 := sz_pos (.rat r)
    have p1 := sz_pos (.rat s)
    refine ⟨_, rfl, t, _, _, _, rfl, rfl, SqT.of ht, at0, _, rfl, u, _, _, _, rfl, rfl, SqT.of hu, at1, _, _, rfl, rfl, mul_fit (lt_sz_num r) (lt_sz_den s) p0 p1 hsz (by decide), ?_⟩
    refine ⟨_, rfl, u, _, _, _, rfl, rfl, SqT.of hu, at0, _, rfl, t, _, _, _, rfl, rfl, SqT.of ht, at1, _, _, rfl, rfl, mul_fit (lt_sz_num s) (lt_sz_den r) p1 p0 (by omega) (by decide : 8000 ≤ _), _, _, rfl, rfl, ?_⟩
    have e : decide (r < s) = decide (r.num * s.den < s.num * r.den) := by rw [decide_eq_decide]; exact Rat.lt_iff r s
    rw [e] at k
    exact k
end
/-! ### W2: the kinds' methods -/
/-- attributes of a kind -/
def kfs : Kd → List (Str × V)
  | .rst m => putF "m" (.int m) []
  | _ => []
/-- the kind k stands at x -/
def KindAt (A : Ad) (H : Hp) (x : Addr) (k : Kd) : Prop := Av k.x = true ∧ KOk k ∧ ∃ dx, H x = some (.ins (A.C k.x) dx (kfs k))
theorem KindAt.same {A : Ad} {H H' : Hp} {x : Addr} {k : Kd} (h : KindAt A H x k) (e : Same H H') : KindAt A H' x k := by
  obtain ⟨h0, h2, dx, h1⟩ := h; exact ⟨h0, h2, dx, e _ _ h1⟩
theorem kfs_no (k : Kd) {m : Str} (h : ¬ m = "m") : (kfs k).lookup m = none := by
  cases k <;> first | rfl | skip
  unfold kfs
  rw [lookup_putF, if_neg h]
  rfl
theorem kfs_m (m : Nat) : (kfs (.rst m)).lookup ("m" : Str) = some (.int m) := by
  unfold kfs
  rw [lookup_putF, if_pos rfl]
/-- k.m(): a worth -/
def spK0 (A : Ad) (i : Kx) (f : Kd → Wo) : Sp := fun vs H Q _ => ∃ (x : Addr) (k : Kd), vs = [.ref x] ∧ KindAt A H x k ∧ k.x = i ∧ ∀ H' z, Same H H' → Wv H' z (f k) → Q z H'
/-- k.m(a, b): a worth -/
def spK2 (A : Ad) (i : Kx) (f : Kd → Wo → Wo → Wo) : Sp := fun vs H Q _ => ∃ (x : Addr) (k : Kd) (u v : V) (a b : Wo), vs = [.ref x, u, v] ∧ KindAt A H x k ∧ k.x = i ∧ Wv H u a ∧ Wv H v b ∧ Good k a ∧ Good k b ∧ Fits k a b ∧
  ∀ H' z, Same H H' → Wv H' z (f k a b) → Q z H'
/-- k.rounds(a) -/
def spRnd (A : Ad) (nos : Addr) (i : Kx) : Sp := fun vs H Q E => ∃ (x : Addr) (k : Kd) (u : V) (a : Wo), vs = [.ref x, u] ∧ KindAt A H x k ∧ k.x = i ∧ Wv H u a ∧ Good k a ∧ Fit1 k a ∧
  (∀ s, rnd k a = some s → ∀ H' z, Same H H' → Wv H' z s → Q z H') ∧ (rnd k a = none → E (.ref nos) none H)
/-- k.picks() -/
def spPick (A : Ad) (i : Kx) : Sp := fun vs H Q _ => ∃ (x : Addr) (k : Kd), vs = [.ref x] ∧ KindAt A H x k ∧ k.x = i ∧ Q (.bl (pick k)) H
theorem ifT {c : Bool} {A B : Prop} (h : c = true) (q : A) : if c = true then A else B := by rw [if_pos h]; exact q
theorem ifF {c : Bool} {A B : Prop} (h : c = false) (q : B) : if c = true then A else B := by rw [h, if_neg Bool.false_ne_true]; exact q
theorem wv_tup {H : Hp} {p : Addr} {r : Rat} {P Q : Int} (h1 : P = r.num) (h2 : Q = r.den) : Wv (upd H p (.tup [.int P, .int Q])) (.ref p) (.rat r) := ⟨p, rfl, by rw [upd_same, h1, h2]⟩
theorem nn (i : Int) (h : 0 ≤ i) : ∃ n : Nat, i = (n : Int) := ⟨i.toNat, by omega⟩
theorem fsc {N P : List Str} {sc : Scope} (h : C8.scC N P sc = true) : FnScope N P sc := C8.fnScope_by h
theorem bor (a b : Nat) : Builtin.bitOr (a : Int) (b : Int) = ((a ||| b : Nat) : Int) := by
  rw [bitOr_nn (by omega) (by omega), Int.toNat_natCast, Int.toNat_natCast]
theorem band (a b : Nat) : Builtin.bitAnd (a : Int) (b : Int) = ((a &&& b : Nat) : Int) := by
  unfold Builtin.bitAnd
  rw [decide_eq_true (show (0 : Int) ≤ (a : Int) by omega), decide_eq_true (show (0 : Int) ≤ (b : Int) by omega)]
  simp
section
variable {P : Program} {w : World} {K : PySem.W.Frag} {mg : Str → Option Value} {base : Heap} {A : Ad} {f : Addr} {fd : FuncData}
/-- a method that hands back a written whole number -/
theorem len0 {i : Kx} {g : Kd → Wo} : ∀ vs H Q E, spK0 A i g vs H Q E → vs.length = ["self"].length := fun vs H Q E h => by
  obtain ⟨x, k, rfl, _⟩ := h; rfl
theorem len2 {i : Kx} {g : Kd → Wo → Wo → Wo} : ∀ vs H Q E, spK2 A i g vs H Q E → vs.length = ["self", "one", "other"].length := fun vs H Q E h => by
  obtain ⟨x, k, u, v, a, b, rfl, _⟩ := h; rfl
theorem lenR {i : Kx} {n : Addr} : ∀ vs H Q E, spRnd A n i vs H Q E → vs.length = ["self", "one"].length := fun vs H Q E h => by
  obtain ⟨x, k, u, a, rfl, _⟩ := h; rfl
theorem lenP {i : Kx} : ∀ vs H Q E, spPick A i vs H Q E → vs.length = ["self"].length := fun vs H Q E h => by
  obtain ⟨x, k, rfl, _⟩ := h; rfl
theorem mc_Fewest_none (c : Cls K A.Fewest) (D : Mth K A.Fewest "none" "Fewest.none" s_Fewest_none ["self"] f fd) : Mc CX0 P w K mg base 1 A.Fewest "none" (spK0 A .few noneW) := by
  refine mc0 (N := ["self"]) c D (fsc (by decide +kernel)) len0 (fun cdv _ outer s H vs Q E hr h => ?_)
  obtain ⟨x, k, rfl, hk, e, q⟩ := h
  cases k <;> cases e
  exact ⟨_, pss_one (ps_ret pe_non), q _ _ (Same.refl _) rfl⟩
theorem mc_Musts_none (c : Cls K A.Musts) (D : Mth K A.Musts "none" "Musts.none" s_Musts_none ["self"] f fd) : Mc CX0 P w K mg base 1 A.Musts "none" (spK0 A .mus noneW) := by
  refine mc0 (N := ["self"]) c D (fsc (by decide +kernel)) len0 (fun cdv _ outer s H vs Q E hr h => ?_)
  obtain ⟨x, k, rfl, hk, e, q⟩ := h
  cases k <;> cases e
  exact ⟨_, pss_one (ps_ret pe_non), q _ _ (Same.refl _) rfl⟩
theorem mc_Widest_none (c : Cls K A.Widest) (D : Mth K A.Widest "none" "Widest.none" s_Widest_none ["self"] f fd) : Mc CX0 P w K mg base 1 A.Widest "none" (spK0 A .wid noneW) := by
  refine mc0 (N := ["self"]) c D (fsc (by decide +kernel)) len0 (fun cdv _ outer s H vs Q E hr h => ?_)
  obtain ⟨x, k, rfl, hk, e, q⟩ := h
  cases k <;> cases e
  exact ⟨_, pss_one (ps_ret pe_int), q _ _ (Same.refl _) rfl⟩
theorem mc_Counted_none (c : Cls K A.Counted) (D : Mth K A.Counted "none" "Counted.none" s_Counted_none ["self"] f fd) : Mc CX0 P w K mg base 1 A.Counted "none" (spK0 A .cnt noneW) := by
  refine mc0 (N := ["self"]) c D (fsc (by decide +kernel)) len0 (fun cdv _ outer s H vs Q E hr h => ?_)
  obtain ⟨x, k, rfl, hk, e, q⟩ := h
  cases k <;> cases e
  exact ⟨_, pss_one (ps_ret pe_int), q _ _ (Same.refl _) rfl⟩
theorem mc_Rests_none (c : Cls K A.Rests) (D : Mth K A.Rests "none" "Rests.none" s_Rests_none ["self"] f fd) : Mc CX0 P w K mg base 1 A.Rests "none" (spK0 A .rst noneW) := by
  refine mc0 (N := ["self"]) c D (fsc (by decide +kernel)) len0 (fun cdv _ outer s H vs Q E hr h => ?_)
  obtain ⟨x, k, rfl, hk, e, q⟩ := h
  cases k <;> cases e
  exact ⟨_, pss_one (ps_ret pe_int), q _ _ (Same.refl _) rfl⟩
theorem mc_Fewest_rest (c : Cls K A.Fewest) (D : Mth K A.Fewest "rest" "Fewest.rest" s_Fewest_rest ["self"] f fd) : Mc CX0 P w K mg base 1 A.Fewest "rest" (spK0 A .few restW) := by
  refine mc0 (N := ["self"]) c D (fsc (by decide +kernel)) len0 (fun cdv _ outer s H vs Q E hr h => ?_)
  obtain ⟨x, k, rfl, hk, e, q⟩ := h
  cases k <;> cases e
  exact ⟨_, pss_one (ps_ret pe_int), q _ _ (Same.refl _) rfl⟩
theorem mc_Counted_rest (c : Cls K A.Counted) (D : Mth K A.Counted "rest" "Counted.rest" s_Counted_rest ["self"] f fd) : Mc CX0 P w K mg base 1 A.Counted "rest" (spK0 A .cnt restW) := by
  refine mc0 (N := ["self"]) c D (fsc (by decide +kernel)) len0 (fun cdv _ outer s H vs Q E hr h => ?_)
  obtain ⟨x, k, rfl, hk, e, q⟩ := h
  cases k <;> cases e
  exact ⟨_, pss_one (ps_ret pe_int), q _ _ (Same.refl _) rfl⟩
theorem mc_Musts_rest (c : Cls K A.Musts) (D : Mth K A.Musts "rest" "Musts.rest" s_Musts_rest ["self"] f fd) : Mc CX0 P w K mg base 1 A.Musts "rest" (spK0 A .mus restW) := by
  refine mc0 (N := ["self"]) c D (fsc (by decide +kernel)) len0 (fun cdv _ outer s H vs Q E hr h => ?_)
  obtain ⟨x, k, rfl, hk, e, q⟩ := h
  cases k <;> cases e
  exact ⟨_, pss_one (ps_ret pe_int), q _ _ (Same.refl _) rfl⟩
theorem mc_Rests_rest (c : Cls K A.Rests) (D : Mth K A.Rests "rest" "Rests.rest" s_Rests_rest ["self"] f fd) : Mc CX0 P w K mg base 1 A.Rests "rest" (spK0 A .rst restW) := by
  refine mc0 (N := ["self"]) c D (fsc (by decide +kernel)) len0 (fun cdv _ outer s H vs Q E hr h => ?_)
  obtain ⟨x, k, rfl, hk, e, q⟩ := h
  cases k <;> cases e
  exact ⟨_, pss_one (ps_ret pe_int), q _ _ (Same.refl _) rfl⟩
theorem mc_Likeliest_none (c : Cls K A.Likeliest) (D : Mth K A.Likeliest "none" "Likeliest.none" s_Likeliest_none ["self"] f fd) : Mc CX0 P w K mg base 1 A.Likeliest "none" (spK0 A .lik noneW) := by
  refine mc0 (N := ["self"]) c D (fsc (by decide +kernel)) len0 (fun cdv _ outer s H vs Q E hr h => ?_)
  obtain ⟨x, k, rfl, hk, e, q⟩ := h
  cases k <;> cases e
  exact ⟨_, pss_one (ps_ret (pe_tup (pa_cons pe_int (pa_cons pe_int pa_nil)))), size2, fun p hp => q _ _ (same_upd hp) (wv_tup (by decide) (by decide))⟩
theorem mc_Likeliest_rest (c : Cls K A.Likeliest) (D : Mth K A.Likeliest "rest" "Likeliest.rest" s_Likeliest_rest ["self"] f fd) : Mc CX0 P w K mg base 1 A.Likeliest "rest" (spK0 A .lik restW) := by
  refine mc0 (N := ["self"]) c D (fsc (by decide +kernel)) len0 (fun cdv _ outer s H vs Q E hr h => ?_)
  obtain ⟨x, k, rfl, hk, e, q⟩ := h
  cases k <;> cases e
  exact ⟨_, pss_one (ps_ret (pe_tup (pa_cons pe_int (pa_cons pe_int pa_nil)))), size2, fun p hp => q _ _ (same_upd hp) (wv_tup (by decide) (by decide))⟩
theorem mc_Chances_none (c : Cls K A.Chances) (D : Mth K A.Chances "none" "Chances.none" s_Chances_none ["self"] f fd) : Mc CX0 P w K mg base 1 A.Chances "none" (spK0 A .cha noneW) := by
  refine mc0 (N := ["self"]) c D (fsc (by decide +kernel)) len0 (fun cdv _ outer s H vs Q E hr h => ?_)
  obtain ⟨x, k, rfl, hk, e, q⟩ := h
  cases k <;> cases e
  exact ⟨_, pss_one (ps_ret (pe_tup (pa_cons pe_int (pa_cons pe_int pa_nil)))), size2, fun p hp => q _ _ (same_upd hp) (wv_tup (by decide) (by decide))⟩
theorem mc_Chances_rest (c : Cls K A.Chances) (D : Mth K A.Chances "rest" "Chances.rest" s_Chances_rest ["self"] f fd) : Mc CX0 P w K mg base 1 A.Chances "rest" (spK0 A .cha restW) := by
  refine mc0 (N := ["self"]) c D (fsc (by decide +kernel)) len0 (fun cdv _ outer s H vs Q E hr h => ?_)
  obtain ⟨x, k, rfl, hk, e, q⟩ := h
  cases k <;> cases e
  exact ⟨_, pss_one (ps_ret (pe_tup (pa_cons pe_int (pa_cons pe_int pa_nil)))), size2, fun p hp => q _ _ (same_upd hp) (wv_tup (by decide) (by decide))⟩
theorem mc_Widest_rest (c : Cls K A.Widest) (g : ∃ u, mg "WIDEST" = some u ∧ RelV (.int 1000000000) u) (D : Mth K A.Widest "rest" "Widest.rest" s_Widest_rest ["self"] f fd) : Mc CX0 P w K mg base 1 A.Widest "rest" (spK0 A .wid restW) := by
  refine mc0 (N := ["self"]) c D (fsc (by decide +kernel)) len0 (fun cdv _ outer s H vs Q E hr h => ?_)
  obtain ⟨x, k, rfl, hk, e, q⟩ := h
  cases k <;> cases e
  exact ⟨_, pss_one (ps_ret (C8.pe_gc rfl g)), q _ _ (Same.refl _) rfl⟩
theorem mc_Fewest_picks (c : Cls K A.Fewest) (D : Mth K A.Fewest "picks" "Fewest.picks" s_Fewest_picks ["self"] f fd) : Mc CX0 P w K mg base 1 A.Fewest "picks" (spPick A .few) := by
  refine mc0 (N := ["self"]) c D (fsc (by decide +kernel)) lenP (fun cdv _ outer s H vs Q E hr h => ?_)
  obtain ⟨x, k, rfl, hk, e, q⟩ := h
  cases k <;> cases e
  exact ⟨_, pss_one (ps_ret pe_bl), q⟩
theorem mc_Widest_picks (c : Cls K A.Widest) (D : Mth K A.Widest "picks" "Widest.picks" s_Widest_picks ["self"] f fd) : Mc CX0 P w K mg base 1 A.Widest "picks" (spPick A .wid) := by
  refine mc0 (N := ["self"]) c D (fsc (by decide +kernel)) lenP (fun cdv _ outer s H vs Q E hr h => ?_)
  obtain ⟨x, k, rfl, hk, e, q⟩ := h
  cases k <;> cases e
  exact ⟨_, pss_one (ps_ret pe_bl), q⟩
theorem mc_Likeliest_picks (c : Cls K A.Likeliest) (D : Mth K A.Likeliest "picks" "Likeliest.picks" s_Likeliest_picks ["self"] f fd) : Mc CX0 P w K mg base 1 A.Likeliest "picks" (spPick A .lik) := by
  refine mc0 (N := ["self"]) c D (fsc (by decide +kernel)) lenP (fun cdv _ outer s H vs Q E hr h => ?_)
  obtain ⟨x, k, rfl, hk, e, q⟩ := h
  cases k <;> cases e
  exact ⟨_, pss_one (ps_ret pe_bl), q⟩
theorem mc_Fewest_together (c : Cls K A.Fewest) (hmin : mg "min" = none) (D : Mth K A.Fewest "together" "Fewest.together" s_Fewest_together ["self", "one", "other"] f fd) : Mc CX0 P w K mg base 1 A.Fewest "together" (spK2 A .few tog) := by
  refine mc0 (N := ["self", "one", "other"]) c D (fsc (by decide +kernel)) len2 (fun cdv _ outer s H vs Q E hr h => ?_)
  obtain ⟨x, k, u, v, a, b, rfl, hk, e, ha, hb, ga, gb, hf, q⟩ := h
  cases k <;> cases e
  refine ⟨_, pss_cons (ps_if (pt_cmpR op_isN (pv 1) pe_non (nomark _)) (pss_one (ps_ret (pv 2))) pss_nil) (pss_cons (ps_if (pt_cmpR op_isN (pv 2) pe_non (nomark _)) (pss_one (ps_ret (pv 1))) pss_nil)
    (pss_one (ps_ret (pe_callB (call_min2 rfl) (by rfl) hmin (by decide +kernel) (pa_cons (pv 1) (pa_cons (pv 2) pa_nil)))))), ?_⟩
  refine ⟨_, rfl, rfl, _, rfl, ?_⟩
  cases a with
  | non =>
    cases ha
    exact ifT rfl ⟨_, rfl, q _ _ (Same.refl _) (by cases b <;> exact hb)⟩
  | rat r => exact ga.elim
  | int i =>
    cases ha
    refine ifF rfl ⟨_, rfl, rfl, _, rfl, ?_⟩
    cases b with
    | non => cases hb; exact ifT rfl ⟨_, rfl, q _ _ (Same.refl _) rfl⟩
    | rat r => exact gb.elim
    | int j =>
      cases hb
      exact ifF rfl ⟨_, rfl, _, rfl, i, j, rfl, q _ _ (Same.refl _) rfl⟩
theorem mc_Musts_together (c : Cls K A.Musts) (D : Mth K A.Musts "together" "Musts.together" s_Musts_together ["self", "one", "other"] f fd) : Mc CX0 P w K mg base 1 A.Musts "together" (spK2 A .mus tog) := by
  refine mc0 (N := ["self", "one", "other"]) c D (fsc (by decide +kernel)) len2 (fun cdv _ outer s H vs Q E hr h => ?_)
  obtain ⟨x, k, u, v, a, b, rfl, hk, e, ha, hb, ga, gb, hf, q⟩ := h
  cases k <;> cases e
  refine ⟨_, pss_cons (ps_if (pt_cmpR op_isN (pv 1) pe_non (nomark _)) (pss_one (ps_ret (pv 2))) pss_nil) (pss_cons (ps_if (pt_cmpR op_isN (pv 2) pe_non (nomark _)) (pss_one (ps_ret (pv 1))) pss_nil)
    (pss_one (ps_ret (pe_op op_and (pv 1) (pv 2))))), ?_⟩
  refine ⟨_, rfl, rfl, _, rfl, ?_⟩
  cases a with
  | non =>
    cases ha
    exact ifT rfl ⟨_, rfl, q _ _ (Same.refl _) (by cases b <;> exact hb)⟩
  | rat r => exact ga.elim
  | int i =>
    cases ha
    refine ifF rfl ⟨_, rfl, rfl, _, rfl, ?_⟩
    cases b with
    | non => cases hb; exact ifT rfl ⟨_, rfl, q _ _ (Same.refl _) rfl⟩
    | rat r => exact gb.elim
    | int j =>
      cases hb
      obtain ⟨n, rfl⟩ := nn i ga
      obtain ⟨m, rfl⟩ := nn j gb
      refine ifF rfl ⟨_, rfl, _, rfl, _, _, rfl, rfl, q _ _ (Same.refl _) ?_⟩
      show Wv H (V.int (Builtin.bitAnd (n : Int) (m : Int))) _
      rw [band]; rfl
theorem mc_Fewest_behind (c : Cls K A.Fewest) (D : Mth K A.Fewest "behind" "Fewest.behind" s_Fewest_behind ["self", "one", "other"] f fd) : Mc CX0 P w K mg base 1 A.Fewest "behind" (spK2 A .few beh) := by
  refine mc0 (N := ["self", "one", "other"]) c D (fsc (by decide +kernel)) len2 (fun cdv _ outer s H vs Q E hr h => ?_)
  obtain ⟨x, k, u, v, a, b, rfl, hk, e, ha, hb, ga, gb, hf, q⟩ := h
  cases k <;> cases e
  refine ⟨_, pss_cons (ps_if (PW.pt (pw_or (pt_cmpR op_isN (pv 1) pe_non (nomark _)) (pw_or1 (pt_cmpR op_isN (pv 2) pe_non (nomark _))))) (pss_one (ps_ret pe_non)) pss_nil)
    (pss_one (ps_ret (pe_op op_add (pv 1) (pv 2)))), ?_⟩
  refine ⟨_, rfl, rfl, _, rfl, ?_⟩
  cases a with
  | non => cases ha; exact ifT rfl (ifT rfl (q _ _ (Same.refl _) rfl))
  | rat r => exact ga.elim
  | int i =>
    cases ha
    refine ifF rfl ⟨_, rfl, rfl, _, rfl, ?_⟩
    cases b with
    | non => cases hb; exact ifT rfl (q _ _ (Same.refl _) rfl)
    | rat r => exact gb.elim
    | int j => cases hb; exact ifF rfl ⟨_, rfl, _, rfl, _, _, rfl, rfl, q _ _ (Same.refl _) rfl⟩
theorem mc_Musts_behind (c : Cls K A.Musts) (D : Mth K A.Musts "behind" "Musts.behind" s_Musts_behind ["self", "one", "other"] f fd) : Mc CX0 P w K mg base 1 A.Musts "behind" (spK2 A .mus beh) := by
  refine mc0 (N := ["self", "one", "other"]) c D (fsc (by decide +kernel)) len2 (fun cdv _ outer s H vs Q E hr h => ?_)
  obtain ⟨x, k, u, v, a, b, rfl, hk, e, ha, hb, ga, gb, hf, q⟩ := h
  cases k <;> cases e
  refine ⟨_, pss_cons (ps_if (PW.pt (pw_or (pt_cmpR op_isN (pv 1) pe_non (nomark _)) (pw_or1 (pt_cmpR op_isN (pv 2) pe_non (nomark _))))) (pss_one (ps_ret pe_non)) pss_nil)
    (pss_one (ps_ret (pe_op op_or (pv 1) (pv 2)))), ?_⟩
  refine ⟨_, rfl, rfl, _, rfl, ?_⟩
  cases a with
  | non => cases ha; exact ifT rfl (ifT rfl (q _ _ (Same.refl _) rfl))
  | rat r => exact ga.elim
  | int i =>
    cases ha
    refine ifF rfl ⟨_, rfl, rfl, _, rfl, ?_⟩
    cases b with
    | non => cases hb; exact ifT rfl (q _ _ (Same.refl _) rfl)
    | rat r => exact gb.elim
    | int j =>
      cases hb
      obtain ⟨n, rfl⟩ := nn i ga
      obtain ⟨m, rfl⟩ := nn j gb
      refine ifF rfl ⟨_, rfl, _, rfl, _, _, rfl, rfl, q _ _ (Same.refl _) ?_⟩
      show Wv H (V.int (Builtin.bitOr (n : Int) (m : Int))) _
      rw [bor]; rfl
theorem mc_Widest_together (c : Cls K A.Widest) (hmax : mg "max" = none) (D : Mth K A.Widest "together" "Widest.together" s_Widest_together ["self", "one", "other"] f fd) : Mc CX0 P w K mg base 1 A.Widest "together" (spK2 A .wid tog) := by
  refine mc0 (N := ["self", "one", "other"]) c D (fsc (by decide +kernel)) len2 (fun cdv _ outer s H vs Q E hr h => ?_)
  obtain ⟨x, k, u, v, a, b, rfl, hk, e, ha, hb, ga, gb, hf, q⟩ := h
  cases k <;> cases e
  cases a <;> first | exact ga.elim | skip
  cases b <;> first | exact gb.elim | skip
  cases ha; cases hb
  exact ⟨_, pss_one (ps_ret (pe_callB (call_max2 rfl) (by rfl) hmax (by decide +kernel) (pa_cons (pv 1) (pa_cons (pv 2) pa_nil)))), _, rfl, _, rfl, _, _, rfl, q _ _ (Same.refl _) rfl⟩
theorem mc_Widest_behind (c : Cls K A.Widest) (hmin : mg "min" = none) (D : Mth K A.Widest "behind" "Widest.behind" s_Widest_behind ["self", "one", "other"] f fd) : Mc CX0 P w K mg base 1 A.Widest "behind" (spK2 A .wid beh) := by
  refine mc0 (N := ["self", "one", "other"]) c D (fsc (by decide +kernel)) len2 (fun cdv _ outer s H vs Q E hr h => ?_)
  obtain ⟨x, k, u, v, a, b, rfl, hk, e, ha, hb, ga, gb, hf, q⟩ := h
  cases k <;> cases e
  cases a <;> first | exact ga.elim | skip
  cases b <;> first | exact gb.elim | skip
  cases ha; cases hb
  exact ⟨_, pss_one (ps_ret (pe_callB (call_min2 rfl) (by rfl) hmin (by decide +kernel) (pa_cons (pv 1) (pa_cons (pv 2) pa_nil)))), _, rfl, _, rfl, _, _, rfl, q _ _ (Same.refl _) rfl⟩
theorem mc_Counted_together (c : Cls K A.Counted) (D : Mth K A.Counted "together" "Counted.together" s_Counted_together ["self", "one", "other"] f fd) : Mc CX0 P w K mg base 1 A.Counted "together" (spK2 A .cnt tog) := by
  refine mc0 (N := ["self", "one", "other"]) c D (fsc (by decide +kernel)) len2 (fun cdv _ outer s H vs Q E hr h => ?_)
  obtain ⟨x, k, u, v, a, b, rfl, hk, e, ha, hb, ga, gb, hf, q⟩ := h
  cases k <;> cases e
  cases a <;> first | exact ga.elim | skip
  cases b <;> first | exact gb.elim | skip
  cases ha; cases hb
  rename_i i j
  refine ⟨_, pss_cons (ps_if (PW.pt (pw_or (pt_cmpR op_eq (pv 1) (pe_un un_neg pe_int) (nomark _)) (pw_or1 (pt_cmpR op_eq (pv 2) (pe_un un_neg pe_int) (nomark _))))) (pss_one (ps_ret (pe_un un_neg pe_int))) pss_nil)
    (pss_one (ps_ret (pe_op op_add (pv 1) (pv 2)))), ?_⟩
  refine ⟨_, rfl, _, rfl, rfl, _, rfl, ?_⟩
  by_cases hi : i = -1
  · subst hi
    exact ifT rfl (ifT rfl ⟨_, rfl, q _ _ (Same.refl _) (by simp [tog, Wv])⟩)
  · refine ifF (decide_eq_false fun z => hi (V.int.inj z)) ⟨_, rfl, _, rfl, rfl, _, rfl, ?_⟩
    by_cases hj : j = -1
    · subst hj
      exact ifT rfl ⟨_, rfl, q _ _ (Same.refl _) (by simp [tog, Wv])⟩
    · exact ifF (decide_eq_false fun z => hj (V.int.inj z)) ⟨_, rfl, _, rfl, _, _, rfl, rfl, q _ _ (Same.refl _) (by simp [tog, Wv, hi, hj])⟩
theorem mc_Counted_behind (c : Cls K A.Counted) (D : Mth K A.Counted "behind" "Counted.behind" s_Counted_behind ["self", "one", "other"] f fd) : Mc CX0 P w K mg base 1 A.Counted "behind" (spK2 A .cnt beh) := by
  refine mc0 (N := ["self", "one", "other"]) c D (fsc (by decide +kernel)) len2 (fun cdv _ outer s H vs Q E hr h => ?_)
  obtain ⟨x, k, u, v, a, b, rfl, hk, e, ha, hb, ga, gb, hf, q⟩ := h
  cases k <;> cases e
  cases a <;> first | exact ga.elim | skip
  cases b <;> first | exact gb.elim | skip
  cases ha; cases hb
  rename_i i j
  refine ⟨_, pss_cons (ps_if (PW.pt (pw_or (pt_cmpR op_eq (pv 1) pe_int (nomark _)) (pw_or1 (pt_cmpR op_eq (pv 2) pe_int (nomark _))))) (pss_one (ps_ret pe_int)) pss_nil)
    (pss_cons (ps_if (PW.pt (pw_or (pt_cmpR op_eq (pv 1) (pe_un un_neg pe_int) (nomark _)) (pw_or1 (pt_cmpR op_eq (pv 2) (pe_un un_neg pe_int) (nomark _))))) (pss_one (ps_ret (pe_un un_neg pe_int))) pss_nil)
    (pss_one (ps_ret (pe_op op_mulW (pv 1) (pv 2))))), ?_⟩
  refine ⟨_, rfl, rfl, _, rfl, ?_⟩
  by_cases hi0 : i = 0
  · subst hi0
    exact ifT rfl (ifT rfl (q _ _ (Same.refl _) (by simp [beh, Wv])))
  · refine ifF (decide_eq_false fun z => hi0 (V.int.inj z)) ⟨_, rfl, rfl, _, rfl, ?_⟩
    by_cases hj0 : j = 0
    · subst hj0
      exact ifT rfl (q _ _ (Same.refl _) (by simp [beh, Wv]))
    · refine ifF (decide_eq_false fun z => hj0 (V.int.inj z)) ⟨_, rfl, _, rfl, rfl, _, rfl, ?_⟩
      by_cases hi : i = -1
      · subst hi
        exact ifT rfl (ifT rfl ⟨_, rfl, q _ _ (Same.refl _) (by simp [beh, Wv, hj0])⟩)
      · refine ifF (decide_eq_false fun z => hi (V.int.inj z)) ⟨_, rfl, _, rfl, rfl, _, rfl, ?_⟩
        by_cases hj : j = -1
        · subst hj
          exact ifT rfl ⟨_, rfl, q _ _ (Same.refl _) (by simp [beh, Wv, hi0])⟩
        · exact ifF (decide_eq_false fun z => hj (V.int.inj z)) ⟨_, rfl, _, rfl, _, _, rfl, rfl, mul_fit (lt_sz_int i) (lt_sz_int j) (sz_pos _) (sz_pos _) hf (by decide), q _ _ (Same.refl _) (by simp [beh, Wv, hi, hj, hi0, hj0])⟩
theorem mc_Likeliest_together (c : Cls K A.Likeliest) (L : Fc CX0 P w K mg base 1 "less" spLess) (D : Mth K A.Likeliest "together" "Likeliest.together" s_Likeliest_together ["self", "one", "other"] f fd) : Mc CX0 P w K mg base 2 A.Likeliest "together" (spK2 A .lik tog) := by
  refine mc0 (N := ["self", "one", "other"]) c D (fsc (by decide +kernel)) len2 (fun cdv _ outer s H vs Q E hr h => ?_)
  obtain ⟨x, k, u, v, a, b, rfl, hk, e, ha, hb, ga, gb, hf, q⟩ := h
  cases k <;> cases e
  cases a <;> first | exact ga.elim | skip
  cases b <;> first | exact gb.elim | skip
  rename_i r t
  refine ⟨_, pss_cons (ps_if (pt_val (pe_f L hr (by decide) pass0 rfl (pa_cons (pv 1) (pa_cons (pv 2) pa_nil)))) (pss_one (ps_ret (pv 2))) pss_nil) (pss_one (ps_ret (pv 1))), ?_⟩
  refine ⟨_, rfl, _, rfl, u, v, r, t, rfl, ha, hb, hf, _, rfl, ?_⟩
  by_cases h : r < t
  · exact ifT (decide_eq_true h) ⟨_, rfl, q _ _ (Same.refl _) (by simp only [tog, h, if_true]; exact hb)⟩
  · exact ifF (decide_eq_false h) ⟨_, rfl, q _ _ (Same.refl _) (by simp only [tog, h, if_false]; exact ha)⟩
theorem mc_Likeliest_behind (c : Cls K A.Likeliest) (L : Fc CX0 P w K mg base 3 "taken" (spShare (· * ·) 8000)) (D : Mth K A.Likeliest "behind" "Likeliest.behind" s_Likeliest_behind ["self", "one", "other"] f fd) : Mc CX0 P w K mg base 4 A.Likeliest "behind" (spK2 A .lik beh) := by
  refine mc0 (N := ["self", "one", "other"]) c D (fsc (by decide +kernel)) len2 (fun cdv _ outer s H vs Q E hr h => ?_)
  obtain ⟨x, k, u, v, a, b, rfl, hk, e, ha, hb, ga, gb, hf, q⟩ := h
  cases k <;> cases e
  cases a <;> first | exact ga.elim | skip
  cases b <;> first | exact gb.elim | skip
  rename_i r t
  refine ⟨_, pss_one (ps_ret (pe_f L hr (by decide) pass0 rfl (pa_cons (pv 1) (pa_cons (pv 2) pa_nil)))), ?_⟩
  exact ⟨_, rfl, _, rfl, u, v, r, t, rfl, ha, hb, ga.1, gb.1, hf, fun p hp => q _ _ (same_upd hp) (wv_tup rfl rfl)⟩
theorem mc_Chances_together (c : Cls K A.Chances) (L : Fc CX0 P w K mg base 3 "added" (spShare (· + ·) 8000)) (D : Mth K A.Chances "together" "Chances.together" s_Chances_together ["self", "one", "other"] f fd) : Mc CX0 P w K mg base 4 A.Chances "together" (spK2 A .cha tog) := by
  refine mc0 (N := ["self", "one", "other"]) c D (fsc (by decide +kernel)) len2 (fun cdv _ outer s H vs Q E hr h => ?_)
  obtain ⟨x, k, u, v, a, b, rfl, hk, e, ha, hb, ga, gb, hf, q⟩ := h
  cases k <;> cases e
  cases a <;> first | exact ga.elim | skip
  cases b <;> first | exact gb.elim | skip
  rename_i r t
  refine ⟨_, pss_one (ps_ret (pe_f L hr (by decide) pass0 rfl (pa_cons (pv 1) (pa_cons (pv 2) pa_nil)))), ?_⟩
  exact ⟨_, rfl, _, rfl, u, v, r, t, rfl, ha, hb, ga, gb, hf, fun p hp => q _ _ (same_upd hp) (wv_tup rfl rfl)⟩
theorem mc_Chances_behind (c : Cls K A.Chances) (L : Fc CX0 P w K mg base 3 "taken" (spShare (· * ·) 8000)) (D : Mth K A.Chances "behind" "Chances.behind" s_Chances_behind ["self", "one", "other"] f fd) : Mc CX0 P w K mg base 4 A.Chances "behind" (spK2 A .cha beh) := by
  refine mc0 (N := ["self", "one", "other"]) c D (fsc (by decide +kernel)) len2 (fun cdv _ outer s H vs Q E hr h => ?_)
  obtain ⟨x, k, u, v, a, b, rfl, hk, e, ha, hb, ga, gb, hf, q⟩ := h
  cases k <;> cases e
  cases a <;> first | exact ga.elim | skip
  cases b <;> first | exact gb.elim | skip
  rename_i r t
  refine ⟨_, pss_one (ps_ret (pe_f L hr (by decide) pass0 rfl (pa_cons (pv 1) (pa_cons (pv 2) pa_nil)))), ?_⟩
  exact ⟨_, rfl, _, rfl, u, v, r, t, rfl, ha, hb, ga, gb, hf, fun p hp => q _ _ (same_upd hp) (wv_tup rfl rfl)⟩
theorem mc_Rests_together (c : Cls K A.Rests) (D : Mth K A.Rests "together" "Rests.together" s_Rests_together ["self", "one", "other"] f fd) : Mc CX0 P w K mg base 1 A.Rests "together" (spK2 A .rst tog) := by
  refine mc0 (N := ["self", "one", "other"]) c D (fsc (by decide +kernel)) len2 (fun cdv _ outer s H vs Q E hr h => ?_)
  obtain ⟨x, k, u, v, a, b, rfl, hk, e, ha, hb, ga, gb, hf, q⟩ := h
  cases k <;> cases e
  cases a <;> first | exact ga.elim | skip
  cases b <;> first | exact gb.elim | skip
  cases ha; cases hb
  rename_i m i j
  obtain ⟨n, rfl⟩ := nn i ga.1
  obtain ⟨l, rfl⟩ := nn j gb.1
  exact ⟨_, pss_one (ps_ret (pe_op op_or (pv 1) (pv 2))), _, rfl, _, rfl, _, _, rfl, rfl, q _ _ (Same.refl _) (by show Wv H (V.int (Builtin.bitOr (n : Int) (l : Int))) _; rw [bor]; rfl)⟩
theorem mc_Counted_picks (c : Cls K A.Counted) (D : Mth K A.Counted "picks" "Kind.picks" s_Counted_picks ["self"] f fd) : Mc CX0 P w K mg base 1 A.Counted "picks" (spPick A .cnt) := by
  refine mc0 (N := ["self"]) c D (fsc (by decide +kernel)) lenP (fun cdv _ outer s H vs Q E hr h => ?_)
  obtain ⟨x, k, rfl, hk, e, q⟩ := h
  cases k <;> cases e
  exact ⟨_, pss_one (ps_ret pe_bl), q⟩
theorem mc_Chances_picks (c : Cls K A.Chances) (D : Mth K A.Chances "picks" "Kind.picks" s_Chances_picks ["self"] f fd) : Mc CX0 P w K mg base 1 A.Chances "picks" (spPick A .cha) := by
  refine mc0 (N := ["self"]) c D (fsc (by decide +kernel)) lenP (fun cdv _ outer s H vs Q E hr h => ?_)
  obtain ⟨x, k, rfl, hk, e, q⟩ := h
  cases k <;> cases e
  exact ⟨_, pss_one (ps_ret pe_bl), q⟩
theorem mc_Musts_picks (c : Cls K A.Musts) (D : Mth K A.Musts "picks" "Kind.picks" s_Musts_picks ["self"] f fd) : Mc CX0 P w K mg base 1 A.Musts "picks" (spPick A .mus) := by
  refine mc0 (N := ["self"]) c D (fsc (by decide +kernel)) lenP (fun cdv _ outer s H vs Q E hr h => ?_)
  obtain ⟨x, k, rfl, hk, e, q⟩ := h
  cases k <;> cases e
  exact ⟨_, pss_one (ps_ret pe_bl), q⟩
theorem mc_Rests_picks (c : Cls K A.Rests) (D : Mth K A.Rests "picks" "Kind.picks" s_Rests_picks ["self"] f fd) : Mc CX0 P w K mg base 1 A.Rests "picks" (spPick A .rst) := by
  refine mc0 (N := ["self"]) c D (fsc (by decide +kernel)) lenP (fun cdv _ outer s H vs Q E hr h => ?_)
  obtain ⟨x, k, rfl, hk, e, q⟩ := h
  cases k <;> cases e
  exact ⟨_, pss_one (ps_ret pe_bl), q⟩
end
/-! ### W3: rests behind one another; rounds; Rests(m) -/
theorem bit_test (a i : Nat) : decide (V.int (Builtin.bitAnd ((a : Int) / 2 ^ ((0 : Int) + (i : Nat)).toNat) 1) = V.int 1) = a.testBit i := by
  have e1 : ((0 : Int) + (i : Nat)).toNat = i := by omega
  have e2 : (a : Int) / 2 ^ i = ((a / 2 ^ i : Nat) : Int) := by
    rw [Int.natCast_ediv, Int.natCast_pow]; rfl
  rw [e1, e2, show (1 : Int) = ((1 : Nat) : Int) from rfl, band, Nat.and_one_is_mod]
  have h := Nat.testBit_eq_decide_div_mod_eq (x := a) (i := i)
  rw [h, decide_eq_decide, V.int.injEq]
  omega
theorem shl_one {i j m : Nat} : (1 : Int) * 2 ^ (((0 : Int) + (i : Nat) + ((0 : Int) + (j : Nat))) % (m : Int)).toNat = ((2 ^ ((i + j) % m) : Nat) : Int) := by
  have e : (((0 : Int) + (i : Nat) + ((0 : Int) + (j : Nat))) % (m : Int)).toNat = (i + j) % m := by
    have : ((0 : Int) + (i : Nat) + ((0 : Int) + (j : Nat))) = ((i + j : Nat) : Int) := by omega
    rw [this, ← Int.natCast_emod, Int.toNat_natCast]
  rw [e, Int.one_mul, Int.natCast_pow]; rfl
theorem shl_fit {x : Int} {m : Nat} (h0 : 0 < m) (hm : m ≤ 12) : L2.CPow 1 (x % (m : Int)) :=
  ⟨Int.emod_nonneg _ (by omega), by have := Int.emod_lt_of_pos x (show (0 : Int) < m by omega); omega, by decide⟩
section
variable {P : Program} {w : World} {K : PySem.W.Frag} {mg : Str → Option Value} {base : Heap} {A : Ad} {f : Addr} {fd : FuncData}
theorem mc_Rests_behind (c : Cls K A.Rests) (na : NoAttr K A.Rests "m") (hrg : mg "range" = none) (D : Mth K A.Rests "behind" "Rests.behind" s_Rests_behind ["self", "one", "other"] f fd) : Mc CX0 P w K mg base 1 A.Rests "behind" (spK2 A .rst beh) := by
  have sc : FnScope ["self", "one", "other", "found", "i", "j"] ["self", "one", "other"] (defScope s_Rests_behind) := fsc (by decide +kernel)
  refine mc0 c D sc len2 (fun cdv _ outer s H vs Q E hr h => ?_)
  obtain ⟨x, k, u, v, a, b, rfl, hk, e, ha, hb, ga, gb, hf, q⟩ := h
  cases k <;> cases e
  cases a <;> first | exact ga.elim | skip
  cases b <;> first | exact gb.elim | skip
  cases ha; cases hb
  rename_i m i j
  obtain ⟨a, rfl⟩ := nn i ga.1
  obtain ⟨b, rfl⟩ := nn j gb.1
  obtain ⟨_, ⟨hm1, hm12⟩, dx, hx⟩ := hk
  refine ⟨_, pss_cons (ps_set (i := 3) sc.nd rfl (.inl rfl) pe_int) (pss_cons (ps_for PassesOwn.never rfl (pi_range1 (by rfl) hrg (pa_cons (pe_fld (pv 0) rfl) pa_nil)) (pg_name (i := 4) sc.nd rfl (.inl rfl))
    (pss_one (ps_for PassesOwn.never rfl (pi_range1 (by rfl) hrg (pa_cons (pe_fld (pv 0) rfl) pa_nil)) (pg_name (i := 5) sc.nd rfl (.inl rfl))
      (pss_one (ps_if (PW.pt (pw_and (pt_cmpR op_eq (pe_op op_and (pe_op op_shr (pv 1) (pv 4)) pe_int) pe_int (nomark _)) (pw_and1 (pt_cmpR op_eq (pe_op op_and (pe_op op_shr (pv 2) (pv 5)) pe_int) pe_int (nomark _)))))
        (pss_one (ps_set (i := 3) sc.nd rfl (.inl rfl) (pe_op op_or (pv 3) (pe_op op_shl pe_int (pe_op op_mod (pe_op op_add (pv 4) (pv 5)) (pe_fld (pv 0) rfl)))))) pss_nil)))))
    (pss_one (ps_ret (pv 3)))), ?_⟩
  refine ⟨_, rfl, x, A.Rests, dx, _, _, rfl, hx, c, na, kfs_m m, (m : Int), rfl, by omega, by omega, for_range (lo := 0) (n := (m : Int).toNat)
    (fun i σ H' => ∃ (F : Nat) (v4 v5 : Option V), σ = [some (.ref x), some (.int (a : Int)), some (.int (b : Int)), some (.int (F : Int)), v4, v5] ∧ H' = H ∧
      ∀ r, F.testBit r = true ↔ r < m ∧ ∃ i' j', i' < i ∧ j' < m ∧ a.testBit i' = true ∧ b.testBit j' = true ∧ (i' + j') % m = r) ⟨0, none, none, rfl, rfl, fun r => ?_⟩ ?_ ?_⟩
  · rw [Nat.zero_testBit]
    constructor
    · intro z; cases z
    · rintro ⟨_, i', j', h, _⟩; omega
  · rintro i σ H' hi ⟨F, v4, v5, rfl, rfl, hF⟩
    rw [Int.toNat_natCast] at hi
    refine ⟨_, rfl, x, A.Rests, dx, _, _, rfl, hx, c, na, kfs_m m, (m : Int), rfl, by omega, by omega, for_range (lo := 0) (n := (m : Int).toNat)
      (fun j σ H2 => ∃ (F : Nat) (v5 : Option V), σ = [some (.ref x), some (.int (a : Int)), some (.int (b : Int)), some (.int (F : Int)), some (.int (0 + i)), v5] ∧ H2 = H' ∧
        ∀ r, F.testBit r = true ↔ r < m ∧ ∃ i' j', (i' < i ∧ j' < m ∨ i' = i ∧ j' < j) ∧ a.testBit i' = true ∧ b.testBit j' = true ∧ (i' + j') % m = r) ⟨F, v5, rfl, rfl, fun r => ?_⟩ ?_ ?_⟩
    · rw [hF]
      constructor
      · rintro ⟨h, i', j', h1, h2, h3⟩; exact ⟨h, i', j', .inl ⟨h1, h2⟩, h3⟩
      · rintro ⟨h, i', j', h1, h3⟩
        rcases h1 with h1 | h1
        · exact ⟨h, i', j', h1.1, h1.2, h3⟩
        · omega
    · rintro j σ H2 hj ⟨F, v5, rfl, rfl, hF⟩
      rw [Int.toNat_natCast] at hj
      have go : ∀ {F' : Nat}, (∀ r, F'.testBit r = true ↔ F.testBit r = true ∨ (a.testBit i = true ∧ b.testBit j = true ∧ (i + j) % m = r)) →
          ∀ r, F'.testBit r = true ↔ r < m ∧ ∃ i' j', (i' < i ∧ j' < m ∨ i' = i ∧ j' < j + 1) ∧ a.testBit i' = true ∧ b.testBit j' = true ∧ (i' + j') % m = r := by
        intro F' hh r
        rw [hh, hF]
        constructor
        · rintro (⟨h, i', j', h1, h3⟩ | ⟨h1, h2, h3⟩)
          · refine ⟨h, i', j', ?_, h3⟩
            rcases h1 with h1 | h1
            · exact .inl h1
            · exact .inr ⟨h1.1, by omega⟩
          · exact ⟨by rw [← h3]; exact Nat.mod_lt _ (by omega), i, j, .inr ⟨rfl, by omega⟩, h1, h2, h3⟩
        · rintro ⟨h, i', j', h1, h3⟩
          rcases h1 with h1 | ⟨rfl, h1⟩
          · exact .inl ⟨h, i', j', .inl h1, h3⟩
          · by_cases ej : j' = j
            · subst ej; exact .inr h3
            · exact .inl ⟨h, i', j', .inr ⟨rfl, by omega⟩, h3⟩
      refine ⟨_, rfl, _, rfl, _, _, rfl, rfl, (by omega : (0 : Int) ≤ 0 + (i : Nat)), _, _, rfl, rfl, rfl, _, rfl, ?_⟩
      cases e1 : a.testBit i with
      | false =>
        refine ifF ((bit_test a i).trans e1) (ifF rfl ⟨F, _, rfl, rfl, go fun r => ?_⟩)
        simp [e1]
      | true =>
        refine ifT ((bit_test a i).trans e1) ⟨_, rfl, _, rfl, _, _, rfl, rfl, (by omega : (0 : Int) ≤ 0 + (j : Nat)), _, _, rfl, rfl, rfl, _, rfl, ?_⟩
        cases e2 : b.testBit j with
        | false =>
          refine ifF ((bit_test b j).trans e2) ⟨F, _, rfl, rfl, go fun r => ?_⟩
          simp [e2]
        | true =>
          refine ifT ((bit_test b j).trans e2) ⟨_, rfl, _, rfl, _, rfl, _, _, rfl, rfl, _, rfl, x, A.Rests, dx, _, _, rfl, hx, c, na, kfs_m m, _, _, rfl, rfl, (by omega : (0 : Int) < (m : Int)), _, _, rfl, rfl, shl_fit (by omega) hm12, _, _, rfl, rfl, ?_⟩
          have eF : Builtin.bitOr (F : Int) (1 * 2 ^ (((0 : Int) + (i : Nat) + ((0 : Int) + (j : Nat))) % (m : Int)).toNat) = ((F ||| 2 ^ ((i + j) % m) : Nat) : Int) := by rw [shl_one, bor]
          refine ⟨F ||| 2 ^ ((i + j) % m), some (.int (0 + j)), congrArg (fun z => [some (V.ref x), some (.int (a : Int)), some (.int (b : Int)), some (.int z), some (.int (0 + i)), some (.int (0 + j))]) eF, rfl, go fun r => ?_⟩
          · rw [Nat.testBit_or, Nat.testBit_two_pow]
            simp [e1, e2]
    · rintro σ H2 ⟨F, v5, rfl, rfl, hF⟩
      refine ⟨F, _, v5, rfl, rfl, fun r => ?_⟩
      rw [hF]
      constructor
      · rintro ⟨h, i', j', h1, h3⟩
        rcases h1 with h1 | ⟨rfl, h1⟩
        · exact ⟨h, i', j', by omega, h1.2, h3⟩
        · exact ⟨h, i', j', by omega, by omega, h3⟩
      · rintro ⟨h, i', j', h1, h2, h3⟩
        refine ⟨h, i', j', ?_, h3⟩
        by_cases ei : i' = i
        · exact .inr ⟨ei, by omega⟩
        · exact .inl ⟨by omega, h2⟩
  · rintro σ H' ⟨F, v4, v5, rfl, rfl, hF⟩
    refine ⟨_, rfl, q _ _ (Same.refl _) ?_⟩
    have e : F = rbeh m a b := by
      refine Nat.eq_of_testBit_eq fun r => ?_
      rw [Bool.eq_iff_iff, hF, testBit_rbeh, Int.toNat_natCast]
    rw [e]; rfl
theorem mc_Rests_rounds {n : Addr} (c : Cls K A.Rests) (B : Mc CX0 P w K mg base 1 A.Rests "behind" (spK2 A .rst beh)) (D : Mth K A.Rests "rounds" "Rests.rounds" s_Rests_rounds ["self", "one"] f fd) : Mc CX0 P w K mg base 2 A.Rests "rounds" (spRnd A n .rst) := by
  have sc : FnScope ["self", "one", "found", "more"] ["self", "one"] (defScope s_Rests_rounds) := fsc (by decide +kernel)
  refine mc0 c D sc lenR (fun cdv _ outer s H vs Q E hr h => ?_)
  obtain ⟨x, k, u, a, rfl, hk, e, ha, ga, hf, q, qn⟩ := h
  cases k <;> cases e
  cases a <;> first | exact ga.elim | skip
  cases ha
  rename_i m i
  obtain ⟨a, rfl⟩ := nn i ga.1
  obtain ⟨hav, ⟨hm1, hm12⟩, dx, hx⟩ := id hk
  refine ⟨_, pss_cons (ps_set (i := 2) sc.nd rfl (.inl rfl) pe_int) (pss_cons (ps_set (i := 3) sc.nd rfl (.inl rfl) (pe_op op_or (pv 2) (pe_m B hr (by decide) pass0 (pv 0) (pa_cons (pv 2) (pa_cons (pv 1) pa_nil)))))
    (pss_cons (ps_while PassesOwn.never (pt_cmpR op_ne (pv 3) (pv 2) (nomark _)) (pss_cons (ps_set (i := 2) sc.nd rfl (.inl rfl) (pv 3)) (pss_one (ps_set (i := 3) sc.nd rfl (.inl rfl) (pe_op op_or (pv 2) (pe_m B hr (by decide) pass0 (pv 0) (pa_cons (pv 2) (pa_cons (pv 1) pa_nil))))))))
    (pss_one (ps_ret (pv 2))))), ?_⟩
  have good : ∀ n, Good (.rst m) (.int (riter m a n : Nat)) := fun n => by
    have := riter_lt hm1 a n
    exact ⟨by omega, by exact_mod_cast this⟩
  have more : ∀ n, Builtin.bitOr (riter m a n : Int) (rbeh m (riter m a n) a : Nat) = (riter m a (n + 1) : Nat) := fun n => by rw [bor]; rfl
  refine ⟨_, rfl, _, rfl, x, dx, _, rfl, hx, kfs_no _ (by decide +kernel), _, rfl, _, rfl, x, .rst m, _, _, .int (riter m a 0 : Nat), .int (a : Int), rfl, hk, rfl, rfl, rfl, good 0, ga, trivial, fun H1 z s1 hz => ?_⟩
  cases hz
  refine ⟨_, _, rfl, rfl, ?_⟩
  refine while_by (fun σ H' => ∃ n : Nat, σ = [some (.ref x), some (.int (a : Int)), some (.int (riter m a n : Nat)), some (.int (riter m a (n + 1) : Nat))] ∧ Same H H')
    (fun σ _ => match σ with | [_, _, some (.int y), _] => 2 ^ m - y.toNat | _ => 0) ⟨0, congrArg (fun z => [some (V.ref x), some (.int (a : Int)), some (.int 1), some (.int z)]) (more 0), s1⟩ ?_ ?_
  · rintro σ H' ⟨n, rfl, s2⟩
    refine ⟨_, rfl, _, rfl, rfl, _, rfl, ?_⟩
    by_cases h0 : riter m a (n + 1) = riter m a n
    · refine ifF (by rw [h0]; simp) ⟨_, rfl, ?_⟩
      refine q (.int (rstar m a : Nat)) rfl _ _ s2 ?_
      rw [riter_end hm1 h0]; rfl
    · refine ifT (by simp; omega) ⟨_, rfl, ?_⟩
      refine ⟨_, rfl, _, rfl, x, dx, _, rfl, s2 _ _ hx, kfs_no _ (by decide +kernel), _, rfl, _, rfl, x, .rst m, _, _, .int (riter m a (n + 1) : Nat), .int (a : Int), rfl, hk.same s2, rfl, rfl, rfl, good (n + 1), ga, trivial, fun H1 z s3 hz => ?_⟩
      cases hz
      refine ⟨_, _, rfl, rfl, ⟨n + 1, congrArg (fun z => [some (V.ref x), some (.int (a : Int)), some (.int (riter m a (n + 1) : Nat)), some (.int z)]) (more (n + 1)), s2.trans s3⟩, ?_⟩
      · show 2 ^ m - ((riter m a (n + 1) : Nat) : Int).toNat < 2 ^ m - ((riter m a n : Nat) : Int).toNat
        rw [Int.toNat_natCast, Int.toNat_natCast]
        have h1 := riter_lt hm1 a (n + 1)
        have h2 : riter m a n ≤ riter m a (n + 1) := Nat.left_le_or
        omega
  · rintro σ H' R R' hm ⟨v, e, v2, e3, h1, b, e2, h2⟩
    exact ⟨v, e, v2, e3, h1, b, e2, hm _ _ h2⟩
theorem mc_Fewest_rounds {n : Addr} (c : Cls K A.Fewest) (D : Mth K A.Fewest "rounds" "Fewest.rounds" s_Fewest_rounds ["self", "one"] f fd) : Mc CX0 P w K mg base 1 A.Fewest "rounds" (spRnd A n .few) := by
  refine mc0 (N := ["self", "one"]) c D (fsc (by decide +kernel)) lenR (fun cdv _ outer s H vs Q E hr h => ?_)
  obtain ⟨x, k, u, a, rfl, hk, e, ha, ga, hf, q, qn⟩ := h
  cases k <;> cases e
  exact ⟨_, pss_one (ps_ret pe_int), q (.int 0) rfl _ _ (Same.refl _) rfl⟩
theorem mc_Musts_rounds {n : Addr} (c : Cls K A.Musts) (D : Mth K A.Musts "rounds" "Musts.rounds" s_Musts_rounds ["self", "one"] f fd) : Mc CX0 P w K mg base 1 A.Musts "rounds" (spRnd A n .mus) := by
  refine mc0 (N := ["self", "one"]) c D (fsc (by decide +kernel)) lenR (fun cdv _ outer s H vs Q E hr h => ?_)
  obtain ⟨x, k, u, a, rfl, hk, e, ha, ga, hf, q, qn⟩ := h
  cases k <;> cases e
  exact ⟨_, pss_one (ps_ret pe_int), q (.int 0) rfl _ _ (Same.refl _) rfl⟩
theorem mc_Likeliest_rounds {n : Addr} (c : Cls K A.Likeliest) (D : Mth K A.Likeliest "rounds" "Likeliest.rounds" s_Likeliest_rounds ["self", "one"] f fd) : Mc CX0 P w K mg base 1 A.Likeliest "rounds" (spRnd A n .lik) := by
  refine mc0 (N := ["self", "one"]) c D (fsc (by decide +kernel)) lenR (fun cdv _ outer s H vs Q E hr h => ?_)
  obtain ⟨x, k, u, a, rfl, hk, e, ha, ga, hf, q, qn⟩ := h
  cases k <;> cases e
  exact ⟨_, pss_one (ps_ret (pe_tup (pa_cons pe_int (pa_cons pe_int pa_nil)))), size2, fun p hp => q (.rat 1) rfl _ _ (same_upd hp) (wv_tup (by decide) (by decide))⟩
theorem mc_Widest_rounds {n : Addr} (c : Cls K A.Widest) (g : ∃ u, mg "WIDEST" = some u ∧ RelV (.int 1000000000) u) (D : Mth K A.Widest "rounds" "Widest.rounds" s_Widest_rounds ["self", "one"] f fd) : Mc CX0 P w K mg base 1 A.Widest "rounds" (spRnd A n .wid) := by
  refine mc0 (N := ["self", "one"]) c D (fsc (by decide +kernel)) lenR (fun cdv _ outer s H vs Q E hr h => ?_)
  obtain ⟨x, k, u, a, rfl, hk, e, ha, ga, hf, q, qn⟩ := h
  cases k <;> cases e
  exact ⟨_, pss_one (ps_ret (C8.pe_gc rfl g)), q (.int 1000000000) rfl _ _ (Same.refl _) rfl⟩
theorem mc_Counted_rounds {n : Addr} (c : Cls K A.Counted) (D : Mth K A.Counted "rounds" "Counted.rounds" s_Counted_rounds ["self", "one"] f fd) : Mc CX0 P w K mg base 1 A.Counted "rounds" (spRnd A n .cnt) := by
  refine mc0 (N := ["self", "one"]) c D (fsc (by decide +kernel)) lenR (fun cdv _ outer s H vs Q E hr h => ?_)
  obtain ⟨x, k, u, a, rfl, hk, e, ha, ga, hf, q, qn⟩ := h
  cases k <;> cases e
  cases a <;> first | exact ga.elim | skip
  cases ha
  rename_i i
  refine ⟨_, pss_cons (ps_if (pt_cmpR op_eq (pv 1) pe_int (nomark _)) (pss_one (ps_ret pe_int)) pss_nil) (pss_one (ps_ret (pe_un un_neg pe_int))), _, rfl, rfl, _, rfl, ?_⟩
  by_cases h : i = 0
  · subst h
    exact ifT rfl (q (.int 1) rfl _ _ (Same.refl _) rfl)
  · refine ifF (decide_eq_false fun z => h (V.int.inj z)) ⟨_, rfl, q (.int (-1)) (by simp [rnd, h]) _ _ (Same.refl _) rfl⟩
theorem mc_Chances_rounds (c : Cls K A.Chances) (z : Exz K mg "NoSum" A.NoSum) (L : Fc CX0 P w K mg base 2 "lowest" spLowest) (D : Mth K A.Chances "rounds" "Chances.rounds" s_Chances_rounds ["self", "one"] f fd) : Mc (L2.CX P w) P w K mg base 3 A.Chances "rounds" (spRnd A A.NoSum .cha) := by
  refine mcX (N := ["self", "one"]) c D (fsc (by decide +kernel)) lenR (fun cdv _ outer s H vs Q E hr h => ?_)
  obtain ⟨x, k, u, a, rfl, hk, e, ha, ga, hf, q, qn⟩ := h
  cases k <;> cases e
  cases a <;> first | exact ga.elim | skip
  rename_i r
  obtain ⟨t, rfl, ht⟩ := ha
  refine ⟨_, pss_cons (ps_if (pt_cmpR op_ge (pe_ix ix_tup (pv 1) pe_int (fun _ _ => rfl)) (pe_ix ix_tup (pv 1) pe_int (fun _ _ => rfl)) (nomark _))
    (pss_one (ps_raise rfl (takes_of rfl rfl rfl rfl) (pmk_own PySem.F.excBase_ValueError z.ex z.g z.kp (raises_own z.bs z.ty) rfl))) pss_nil)
    (pss_one (ps_ret (pe_f L hr (by decide) pass0 rfl (pa_cons (pe_ix ix_tup (pv 1) pe_int (fun _ _ => rfl)) (pa_cons (pe_op op_sub (pe_ix ix_tup (pv 1) pe_int (fun _ _ => rfl)) (pe_ix ix_tup (pv 1) pe_int (fun _ _ => rfl))) pa_nil))))), ?_⟩
  refine ⟨_, rfl, t, _, _, _, rfl, rfl, SqT.of ht, at0, _, rfl, t, _, _, _, rfl, rfl, SqT.of ht, at1, _, _, rfl, rfl, _, rfl, ?_⟩
  by_cases h : r < 1
  · have h1 := (rat_lt_one r).1 h
    have h0 := Rat.num_nonneg.2 ga
    have hd := den_pos r
    refine ifF (decide_eq_false (by omega)) ?_
    refine ⟨_, rfl, t, _, _, _, rfl, rfl, SqT.of ht, at1, _, rfl, t, _, _, _, rfl, rfl, SqT.of ht, at1, _, rfl, t, _, _, _, rfl, rfl, SqT.of ht, at0, _, _, rfl, rfl, _, _, rfl, by omega, by omega, ?_, fun p hp => ?_⟩
    · have hs : sz (.rat r) ≤ 8000 := hf
      have : (r.den : Int).natAbs.log2 < 9000 := by rw [Int.natAbs_natCast]; simp only [sz] at hs; omega
      exact Nat.lt_of_le_of_lt (log2_mono (by omega)) this
    · exact q (.rat (1 / (1 - r))) (by simp [rnd, h]) _ _ (same_upd hp) (wv_tup (by rw [rat_star r h]) (by rw [rat_star r h]))
  · have h1 : ¬ r.num < r.den := fun y => h ((rat_lt_one r).2 y)
    exact ifT (decide_eq_true (by omega)) (qn (by simp [rnd, h]))
/-- Rests(m) -/
def spRests (A : Ad) : Sp := fun vs H Q E => ∃ (x dx : Addr) (m : Int), vs = [.ref x, .int m] ∧ H x = some (.ins A.Rests dx []) ∧
  ((1 ≤ m ∧ m ≤ 12) → Q .non (upd H x (.ins A.Rests dx (putF "m" (.int m) [])))) ∧ (¬ (1 ≤ m ∧ m ≤ 12) → E (.ref A.NoWorth) none H)
theorem nc_Rests (c : Clz K mg "Rests" A.Rests) (na : NoAttr K A.Rests "m") (z : Exz K mg "NoWorth" A.NoWorth) (D : Ini K A.Rests "Rests.__init__" s_Rests___init__ ["self", "m"] f fd) : Nc (L2.CX P w) P w K mg base 1 "Rests" A.Rests (spRests A) := by
  refine ⟨f, fd, _, D.F.okX (N := ["self", "m"]) (fsc (by decide +kernel)) (fun vs H Q E h => ?_) (fun cdv _ outer s H vs Q E hr h => ?_), D.M, c.g, D.b⟩
  · obtain ⟨x, dx, m, rfl, _⟩ := h; rfl
  · obtain ⟨x, dx, m, rfl, hx, q, qn⟩ := h
    refine ⟨_, pss_cons (ps_if (pt_not (pt_chain op_le op_le pe_int (pv 1) pe_int)) (pss_one (ps_raise rfl (takes_of rfl rfl rfl rfl) (pmk_own PySem.F.excBase_ValueError z.ex z.g z.kp (raises_own z.bs z.ty) rfl))) pss_nil)
      (pss_one (ps_fld (pv 0) (pv 1) rfl)), ?_⟩
    refine ⟨_, rfl, _, _, rfl, rfl, _, rfl, ?_⟩
    by_cases h1 : 1 ≤ m
    · refine ifT (decide_eq_true h1) ⟨_, _, rfl, rfl, _, rfl, ?_⟩
      by_cases h2 : m ≤ 12
      · exact ifF (by rw [decide_eq_true h2]; rfl) ⟨_, rfl, _, rfl, x, _, dx, [], rfl, hx, c.cl, na, (by show 0 < 1000; decide), q ⟨h1, h2⟩⟩
      · exact ifT (by rw [decide_eq_false h2]; rfl) (qn fun y => h2 y.2)
    · exact ifF (decide_eq_false h1) ⟨_, rfl, ifT rfl (qn fun y => h1 y.1)⟩
end
/-! k.m(e, ..) of any kind -/
section
variable {X : Cx} {CX : CXT} {j n : Nat} {A : Ad} {m : Str} {sp : Kx → Sp} {ES : L2.St → XK} {pos apos : Pos} {e o : Expr} {es : List Expr} {ta : TE} {t : TA}
def tKM (A : Ad) (sp : Kx → Sp) (ES : L2.St → XK) (ta : TE) (t : TA) : TE := fun σ H Q => ∃ k : Kd, Av k.x = true ∧ ta σ H fun x H1 => ∃ a, x = .ref a ∧ KindAt A H1 a k ∧ t σ H1 fun vs H2 => sp k.x (.ref a :: vs) H2 Q (ES σ)
theorem pe_km {pl : Sem Bool} (F : ∀ i, Av i = true → Mc CX X.prog X.w X.K X.mg X.base n (A.C i) m (sp i)) (hr : Room j X.A) (hk : n ≤ j) (hx : ∀ σ, PassesAt CX X σ (ES σ)) (ho : PE X o ta) (ha : PA X (e :: es) t) (hm : ¬ m = "m" := by decide +kernel)
    (hst : starEach (e :: es) X.env = (false, eval e X.env) :: starEach es X.env := by rfl) (hpl : (backTo pos (starEach es X.env)).any (·.1) = false := by rfl)
    (ht : eval (.Call (.Attribute o m apos) (e :: es) [] pos) X.env = (do
      let ov ← eval o X.env
      standAt apos.atName
      let (f, first) ← holding [ov] (getMethod ov m pl)
      callWith pos f first (backTo pos (starEach (e :: es) X.env)) (backToKw pos (keywordEach [] X.env))) := by rfl) :
    PE X (.Call (.Attribute o m apos) (e :: es) [] pos) (tKM A sp ES ta t) := by
  constructor
  rintro pins s σ H Q I ⟨k, hav, h⟩
  obtain ⟨f, fd, ps, G, c, hme, b⟩ := (F k.x hav).ex
  refine PySem.W.methodCall_KW (pl := pl) (thn (ho.run pins s σ H _ I h) ?_) ht
  rintro u s1 ⟨y, H1, I1, ry, a, rfl, ⟨_, _, dx, ea⟩, q⟩
  cases ry
  refine getmeth_ok I1 ea c hme (kfs_no k hm) ?_
  refine PySem.W.callWith_K (first := [.ref a]) (h₀ := X.base) I.ok.mod.kin hme.kp (thn (ha.run pos pins s1 σ H1 _ I1 q) ?_) hst hpl
  rintro us s2 ⟨vs, H2, I2, r, q2⟩
  exact ⟨I2.kIn, run_fnS (us := .ref a :: us) (vs := .ref a :: vs) G (hr.mono hk) b (hx σ) I2 (.cons rfl r) q2⟩
/-- k.m() -/
theorem pe_km0 {pl : Sem Bool} (F : ∀ i, Av i = true → Mc CX X.prog X.w X.K X.mg X.base n (A.C i) m (sp i)) (hr : Room j X.A) (hk : n ≤ j) (hx : ∀ σ, PassesAt CX X σ (ES σ)) (ho : PE X o ta) (hm : ¬ m = "m" := by decide +kernel)
    (ht : eval (.Call (.Attribute o m apos) [] [] pos) X.env = (do
      let ov ← eval o X.env
      standAt apos.atName
      let (f, first) ← holding [ov] (getMethod ov m pl)
      callWith pos f first (backTo pos (starEach [] X.env)) (backToKw pos (keywordEach [] X.env))) := by rfl) :
    PE X (.Call (.Attribute o m apos) [] [] pos) (tKM A sp ES ta tNil) := by
  constructor
  rintro pins s σ H Q I ⟨k, hav, h⟩
  obtain ⟨f, fd, ps, G, c, hme, b⟩ := (F k.x hav).ex
  refine PySem.W.methodCall_KW (pl := pl) (thn (ho.run pins s σ H _ I h) ?_) ht
  rintro u s1 ⟨y, H1, I1, ry, a, rfl, ⟨_, _, dx, ea⟩, q⟩
  cases ry
  refine getmeth_ok I1 ea c hme (kfs_no k hm) ?_
  exact PySem.W.callWith_K0 (first := [.ref a]) I1.kIn hme.kp (run_fnS (us := [.ref a]) (vs := [.ref a]) G (hr.mono hk) b (hx σ) I1 (.cons rfl .nil) q)
/-- nothing is raised -/
theorem passS {X : Cx} {E : L2.St → XK} : ∀ σ, PassesAt CX0 X σ (E σ) := fun _ _ _ _ _ _ _ h => h.elim
end
/-! ### W4: what is a worth -/
/-- what may be asked: nothing, a whole number, a pair of whole numbers -/
inductive Vx where
  | non | int (i : Int) | par (p q : Int)
def Wo.vx : Wo → Vx
  | .non => .non | .int i => .int i | .rat r => .par r.num r.den
def Vv (H : Hp) (v : V) : Vx → Prop
  | .non => v = .non
  | .int i => v = .int i
  | .par p q => Pr H v p q
theorem Vv.same {H H' : Hp} {v : V} {a : Vx} (h : Vv H v a) (e : Same H H') : Vv H' v a := by
  cases a with
  | non => exact h
  | int i => exact h
  | par p q => exact Pr.same h e
theorem Wv.vx {H : Hp} {v : V} {a : Wo} (h : Wv H v a) : Vv H v a.vx := by cases a <;> exact h
theorem vv_ty {K : PySem.W.Frag} {H : Hp} {v : V} {a : Vx} (h : Vv H v a) : ∃ t : String, TyX K H v (.type t) ∧ (a = .non ∧ t = "NoneType" ∨ (∃ i, a = .int i) ∧ t = "int" ∨ (∃ p q, a = .par p q) ∧ t = "tuple") := by
  cases a with
  | non => cases h; exact ⟨_, .base .non, .inl ⟨rfl, rfl⟩⟩
  | int i => cases h; exact ⟨_, .base (.int i), .inr (.inl ⟨⟨i, rfl⟩, rfl⟩)⟩
  | par p q => obtain ⟨t, rfl, ht⟩ := h; exact ⟨_, .base (.tup ht), .inr (.inr ⟨⟨p, q, rfl⟩, rfl⟩)⟩
/-- a pair in lowest terms -/
def shr (p q : Int) : Bool := if 0 ≤ p then if 0 < q then decide (Int.gcd p q = 1) else false else false
theorem shr_rat {r : Rat} (h : 0 ≤ r) : shr r.num r.den = true := by
  have h0 := Rat.num_nonneg.2 h
  have h1 := den_pos r
  unfold shr
  rw [if_pos h0, if_pos h1, decide_eq_true_eq]
  have := r.reduced
  rw [Int.gcd, Int.natAbs_natCast]
  exact this
theorem shr_of {p q : Int} (h : shr p q = true) : 0 ≤ p ∧ 0 < q ∧ Int.gcd p q = 1 := by
  unfold shr at h
  by_cases h0 : 0 ≤ p
  · rw [if_pos h0] at h
    by_cases h1 : 0 < q
    · rw [if_pos h1] at h; exact ⟨h0, h1, of_decide_eq_true h⟩
    · rw [if_neg h1] at h; cases h
  · rw [if_neg h0] at h; cases h
def isW : Kd → Vx → Bool
  | .few, .non => true
  | .few, .int i => decide (0 ≤ i)
  | .wid, .int i => if 0 ≤ i then decide (i ≤ 1000000000) else false
  | .cnt, .int i => decide (-1 ≤ i)
  | .lik, .par p q => if shr p q = true then decide (p ≤ q) else false
  | .cha, .par p q => shr p q
  | .mus, .non => true
  | .mus, .int i => decide (0 ≤ i)
  | .rst m, .int i => if 0 ≤ i then decide (i < 2 ^ m) else false
  | _, _ => false
theorem isW_good {k : Kd} {a : Wo} (g : Good k a) : isW k a.vx = true := by
  cases k <;> cases a <;> first | exact g.elim | skip
  case few.non => rfl
  case few.int => exact decide_eq_true g
  case wid.int => show (if _ then _ else _) = true; rw [if_pos g.1]; exact decide_eq_true g.2
  case cnt.int => exact decide_eq_true g
  case lik.rat => show (if _ then _ else _) = true; rw [if_pos (shr_rat g.1)]; exact decide_eq_true ((rat_le_one _).1 g.2)
  case cha.rat => exact shr_rat g
  case mus.non => rfl
  case mus.int => exact decide_eq_true g
  case rst.int => show (if _ then _ else _) = true; rw [if_pos g.1]; exact decide_eq_true g.2
/-- k.is_worth(some) -/
def spIs (A : Ad) (i : Kx) : Sp := fun vs H Q _ => ∃ (x : Addr) (k : Kd) (v : V) (a : Vx), vs = [.ref x, v] ∧ KindAt A H x k ∧ k.x = i ∧ Vv H v a ∧ Q (.bl (isW k a)) H
/-- is_share(some) -/
def shrV : Vx → Bool
  | .par p q => shr p q
  | _ => false
def spIsShare : Sp := fun vs H Q _ => ∃ (v : V) (a : Vx), vs = [v] ∧ Vv H v a ∧ Q (.bl (shrV a)) H
theorem lenI {A : Ad} {i : Kx} : ∀ vs H Q E, spIs A i vs H Q E → vs.length = ["self", "some"].length := fun vs H Q E h => by
  obtain ⟨x, k, v, a, rfl, _⟩ := h; rfl
section
variable {P : Program} {w : World} {K : PySem.W.Frag} {mg : Str → Option Value} {base : Heap} {A : Ad} {f : Addr} {fd : FuncData}
theorem fc_is_share (T : Tx K mg A) (C : Fc CX0 P w K mg base 1 "common" spCommon) (D : Dfn K mg "is_share" s_is_share ["some"] f fd) : Fc CX0 P w K mg base 2 "is_share" spIsShare := by
  refine fc0 (N := ["some"]) D (fsc (by decide +kernel)) (fun vs H Q E h => ?_) (fun cdv _ outer s H vs Q E hr h => ?_)
  · obtain ⟨v, a, rfl, _⟩ := h; rfl
  · obtain ⟨v, a, rfl, ha, q⟩ := h
    refine ⟨_, (pss_cons (ps_if (PW.pt (pw_or (pt_not (pt_val (pe_callB call_isi (by rfl) T.n_isinstance (by decide +kernel) (pa_cons (pv 0) (pa_cons (pe_bltn (v := .ty "tuple") (by rfl) T.n_tuple (by decide +kernel) rfl) pa_nil))))) (pw_or1 (pt_cmpR op_ne (pe_callB call_len_seq (by rfl) T.n_len PySem.boot_len (pa_cons (pv 0) pa_nil)) pe_int (nomark _))))) (pss_one (ps_ret pe_bl)) pss_nil) (pss_one (ps_ret (pe_and (pe_cmpR op_ge (pe_ix ix_tup (pv 0) pe_int (fun _ _ => rfl)) pe_int (nomark _)) (pe_and (pe_cmpR op_gt (pe_ix ix_tup (pv 0) pe_int (fun _ _ => rfl)) pe_int (nomark _)) (pe_one (pe_cmpR op_eq (pe_f C hr (by decide) pass0 rfl (pa_cons (pe_ix ix_tup (pv 0) pe_int (fun _ _ => rfl)) (pa_cons (pe_ix ix_tup (pv 0) pe_int (fun _ _ => rfl)) pa_nil))) pe_int (nomark _)))))))), ?_⟩
    cases a with
    | non => cases ha; exact ⟨_, rfl, _, _, _, _, false, rfl, .ty "tuple", .base .non, kit_ty (by decide +kernel), false, rfl, ifT rfl (ifT rfl q)⟩
    | int i => cases ha; exact ⟨_, rfl, _, _, _, _, false, rfl, .ty "tuple", .base (.int i), kit_ty (by decide +kernel), false, rfl, ifT rfl (ifT rfl q)⟩
    | par p r =>
      obtain ⟨pa, rfl, hpa⟩ := ha
      refine ⟨_, rfl, _, _, _, _, true, rfl, .ty "tuple", .base (.tup hpa), kit_ty (by decide +kernel), true, rfl, ifF rfl ⟨_, rfl, pa, _, rfl, .inr (SqT.of hpa), rfl, _, rfl, ifF rfl ?_⟩⟩
      have q' : Q (.bl (shr p r)) H := q
      unfold shr at q'
      refine ⟨_, rfl, pa, _, _, _, rfl, rfl, SqT.of hpa, at0, _, _, rfl, rfl, _, rfl, ?_⟩
      by_cases h0 : 0 ≤ p
      · rw [if_pos h0] at q'
        refine ifT (decide_eq_true h0) ⟨_, rfl, pa, _, _, _, rfl, rfl, SqT.of hpa, at1, _, _, rfl, rfl, _, rfl, ?_⟩
        by_cases h1 : 0 < r
        · rw [if_pos h1] at q'
          refine ifT (decide_eq_true h1) ⟨_, rfl, pa, _, _, _, rfl, rfl, SqT.of hpa, at0, _, rfl, pa, _, _, _, rfl, rfl, SqT.of hpa, at1, _, _, rfl, h0, Int.le_of_lt h1, rfl, ?_⟩
          have e : decide (V.int (Int.gcd p r : Int) = V.int 1) = decide (Int.gcd p r = 1) := by rw [decide_eq_decide, V.int.injEq]; omega
          rw [← e] at q'
          exact q'
        · rw [if_neg h1] at q'
          exact ifF (decide_eq_false h1) q'
      · rw [if_neg h0] at q'
        exact ifF (decide_eq_false h0) q'
theorem mc_Fewest_is_worth (T : Tx K mg A) (D : Mth K A.Fewest "is_worth" "Fewest.is_worth" s_Fewest_is_worth ["self", "some"] f fd) : Mc CX0 P w K mg base 1 A.Fewest "is_worth" (spIs A .few) := by
  refine mc0 (N := ["self", "some"]) T.c_Fewest.cl D (fsc (by decide +kernel)) lenI (fun cdv _ outer s H vs Q E hr h => ?_)
  obtain ⟨x, k, v, a, rfl, hk, e, ha, q⟩ := h
  cases k <;> cases e
  refine ⟨_, pss_one (ps_ret (pe_or (pe_cmpR op_isN (pv 1) pe_non (nomark _)) (pe_one (pe_and (pe_callB call_isi (by rfl) T.n_isinstance (by decide +kernel) (pa_cons (pv 1) (pa_cons (pe_bltn (v := .ty "int") (by rfl) T.n_int (by decide +kernel) rfl) pa_nil))) (pe_one (pe_cmpR op_ge (pv 1) pe_int (nomark _))))))), ?_⟩
  refine ⟨_, rfl, rfl, _, rfl, ?_⟩
  cases a with
  | non => cases ha; exact ifT rfl q
  | int i => cases ha; exact ifF rfl ⟨_, rfl, _, _, _, _, true, rfl, .ty "int", .base (.int i), kit_ty (by decide +kernel), true, rfl, ifT rfl ⟨_, rfl, _, _, rfl, rfl, q⟩⟩
  | par p r => obtain ⟨pa, rfl, hpa⟩ := ha; exact ifF rfl ⟨_, rfl, _, _, _, _, false, rfl, .ty "int", .base (.tup hpa), kit_ty (by decide +kernel), false, rfl, ifF rfl q⟩
theorem mc_Musts_is_worth (T : Tx K mg A) (D : Mth K A.Musts "is_worth" "Musts.is_worth" s_Musts_is_worth ["self", "some"] f fd) : Mc CX0 P w K mg base 1 A.Musts "is_worth" (spIs A .mus) := by
  refine mc0 (N := ["self", "some"]) T.c_Musts.cl D (fsc (by decide +kernel)) lenI (fun cdv _ outer s H vs Q E hr h => ?_)
  obtain ⟨x, k, v, a, rfl, hk, e, ha, q⟩ := h
  cases k <;> cases e
  refine ⟨_, pss_one (ps_ret (pe_or (pe_cmpR op_isN (pv 1) pe_non (nomark _)) (pe_one (pe_and (pe_callB call_isi (by rfl) T.n_isinstance (by decide +kernel) (pa_cons (pv 1) (pa_cons (pe_bltn (v := .ty "int") (by rfl) T.n_int (by decide +kernel) rfl) pa_nil))) (pe_one (pe_cmpR op_ge (pv 1) pe_int (nomark _))))))), ?_⟩
  refine ⟨_, rfl, rfl, _, rfl, ?_⟩
  cases a with
  | non => cases ha; exact ifT rfl q
  | int i => cases ha; exact ifF rfl ⟨_, rfl, _, _, _, _, true, rfl, .ty "int", .base (.int i), kit_ty (by decide +kernel), true, rfl, ifT rfl ⟨_, rfl, _, _, rfl, rfl, q⟩⟩
  | par p r => obtain ⟨pa, rfl, hpa⟩ := ha; exact ifF rfl ⟨_, rfl, _, _, _, _, false, rfl, .ty "int", .base (.tup hpa), kit_ty (by decide +kernel), false, rfl, ifF rfl q⟩
theorem mc_Counted_is_worth (T : Tx K mg A) (D : Mth K A.Counted "is_worth" "Counted.is_worth" s_Counted_is_worth ["self", "some"] f fd) : Mc CX0 P w K mg base 1 A.Counted "is_worth" (spIs A .cnt) := by
  refine mc0 (N := ["self", "some"]) T.c_Counted.cl D (fsc (by decide +kernel)) lenI (fun cdv _ outer s H vs Q E hr h => ?_)
  obtain ⟨x, k, v, a, rfl, hk, e, ha, q⟩ := h
  cases k <;> cases e
  refine ⟨_, pss_one (ps_ret (pe_and (pe_callB call_isi (by rfl) T.n_isinstance (by decide +kernel) (pa_cons (pv 1) (pa_cons (pe_bltn (v := .ty "int") (by rfl) T.n_int (by decide +kernel) rfl) pa_nil))) (pe_one (pe_cmpR op_ge (pv 1) (pe_un un_neg pe_int) (nomark _))))), ?_⟩
  cases a with
  | non => cases ha; exact ⟨_, rfl, _, _, _, _, false, rfl, .ty "int", .base .non, kit_ty (by decide +kernel), false, rfl, ifF rfl q⟩
  | int i => cases ha; exact ⟨_, rfl, _, _, _, _, true, rfl, .ty "int", .base (.int i), kit_ty (by decide +kernel), true, rfl, ifT rfl ⟨_, rfl, _, rfl, _, _, rfl, rfl, q⟩⟩
  | par p r => obtain ⟨pa, rfl, hpa⟩ := ha; exact ⟨_, rfl, _, _, _, _, false, rfl, .ty "int", .base (.tup hpa), kit_ty (by decide +kernel), false, rfl, ifF rfl q⟩
theorem mc_Widest_is_worth (T : Tx K mg A) (D : Mth K A.Widest "is_worth" "Widest.is_worth" s_Widest_is_worth ["self", "some"] f fd) : Mc CX0 P w K mg base 1 A.Widest "is_worth" (spIs A .wid) := by
  refine mc0 (N := ["self", "some"]) T.c_Widest.cl D (fsc (by decide +kernel)) lenI (fun cdv _ outer s H vs Q E hr h => ?_)
  obtain ⟨x, k, v, a, rfl, hk, e, ha, q⟩ := h
  cases k <;> cases e
  refine ⟨_, pss_one (ps_ret (pe_and (pe_callB call_isi (by rfl) T.n_isinstance (by decide +kernel) (pa_cons (pv 1) (pa_cons (pe_bltn (v := .ty "int") (by rfl) T.n_int (by decide +kernel) rfl) pa_nil))) (pe_one (pe_chain op_le op_le pe_int (pv 1) (C8.pe_gc rfl T.g_WIDEST))))), ?_⟩
  cases a with
  | non => cases ha; exact ⟨_, rfl, _, _, _, _, false, rfl, .ty "int", .base .non, kit_ty (by decide +kernel), false, rfl, ifF rfl q⟩
  | int i =>
    cases ha
    refine ⟨_, rfl, _, _, _, _, true, rfl, .ty "int", .base (.int i), kit_ty (by decide +kernel), true, rfl, ifT rfl ⟨_, rfl, _, _, rfl, rfl, _, rfl, ?_⟩⟩
    have q' : Q (.bl (if 0 ≤ i then decide (i ≤ 1000000000) else false)) H := q
    by_cases h : 0 ≤ i
    · rw [if_pos h] at q'; exact ifT (decide_eq_true h) ⟨_, _, rfl, rfl, q'⟩
    · rw [if_neg h] at q'; exact ifF (decide_eq_false h) q'
  | par p r => obtain ⟨pa, rfl, hpa⟩ := ha; exact ⟨_, rfl, _, _, _, _, false, rfl, .ty "int", .base (.tup hpa), kit_ty (by decide +kernel), false, rfl, ifF rfl q⟩
theorem mc_Rests_is_worth (T : Tx K mg A) (D : Mth K A.Rests "is_worth" "Rests.is_worth" s_Rests_is_worth ["self", "some"] f fd) : Mc CX0 P w K mg base 1 A.Rests "is_worth" (spIs A .rst) := by
  refine mc0 (N := ["self", "some"]) T.c_Rests.cl D (fsc (by decide +kernel)) lenI (fun cdv _ outer s H vs Q E hr h => ?_)
  obtain ⟨x, k, v, a, rfl, hk, e, ha, q⟩ := h
  cases k <;> cases e
  rename_i m
  obtain ⟨_, ⟨hm1, hm12⟩, dx, hx⟩ := hk
  refine ⟨_, pss_one (ps_ret (pe_and (pe_callB call_isi (by rfl) T.n_isinstance (by decide +kernel) (pa_cons (pv 1) (pa_cons (pe_bltn (v := .ty "int") (by rfl) T.n_int (by decide +kernel) rfl) pa_nil))) (pe_one (pe_chain op_le op_lt pe_int (pv 1) (pe_op op_shl pe_int (pe_fld (pv 0) rfl)))))), ?_⟩
  cases a with
  | non => cases ha; exact ⟨_, rfl, _, _, _, _, false, rfl, .ty "int", .base .non, kit_ty (by decide +kernel), false, rfl, ifF rfl q⟩
  | int i =>
    cases ha
    refine ⟨_, rfl, _, _, _, _, true, rfl, .ty "int", .base (.int i), kit_ty (by decide +kernel), true, rfl, ifT rfl ⟨_, rfl, _, _, rfl, rfl, _, rfl, ?_⟩⟩
    have q' : Q (.bl (if 0 ≤ i then decide (i < 2 ^ m) else false)) H := q
    by_cases h : 0 ≤ i
    · rw [if_pos h] at q'
      refine ifT (decide_eq_true h) ⟨_, rfl, x, A.Rests, dx, _, _, rfl, hx, T.c_Rests.cl, T.a_Rests_m, kfs_m m, _, _, rfl, rfl, ⟨by omega, by omega, by decide⟩, _, _, rfl, rfl, ?_⟩
      rw [Int.toNat_natCast, Int.one_mul]; exact q'
    · rw [if_neg h] at q'; exact ifF (decide_eq_false h) q'
  | par p r => obtain ⟨pa, rfl, hpa⟩ := ha; exact ⟨_, rfl, _, _, _, _, false, rfl, .ty "int", .base (.tup hpa), kit_ty (by decide +kernel), false, rfl, ifF rfl q⟩
theorem mc_Chances_is_worth (T : Tx K mg A) (C : Fc CX0 P w K mg base 2 "is_share" spIsShare) (D : Mth K A.Chances "is_worth" "Chances.is_worth" s_Chances_is_worth ["self", "some"] f fd) : Mc CX0 P w K mg base 3 A.Chances "is_worth" (spIs A .cha) := by
  refine mc0 (N := ["self", "some"]) T.c_Chances.cl D (fsc (by decide +kernel)) lenI (fun cdv _ outer s H vs Q E hr h => ?_)
  obtain ⟨x, k, v, a, rfl, hk, e, ha, q⟩ := h
  cases k <;> cases e
  refine ⟨_, pss_one (ps_ret (pe_f C hr (by decide) pass0 rfl (pa_cons (pv 1) pa_nil))), ?_⟩
  refine ⟨_, rfl, v, a, rfl, ha, ?_⟩
  cases a <;> exact q
theorem mc_Likeliest_is_worth (T : Tx K mg A) (C : Fc CX0 P w K mg base 2 "is_share" spIsShare) (D : Mth K A.Likeliest "is_worth" "Likeliest.is_worth" s_Likeliest_is_worth ["self", "some"] f fd) : Mc CX0 P w K mg base 3 A.Likeliest "is_worth" (spIs A .lik) := by
  refine mc0 (N := ["self", "some"]) T.c_Likeliest.cl D (fsc (by decide +kernel)) lenI (fun cdv _ outer s H vs Q E hr h => ?_)
  obtain ⟨x, k, v, a, rfl, hk, e, ha, q⟩ := h
  cases k <;> cases e
  refine ⟨_, pss_one (ps_ret (pe_and (pe_f C hr (by decide) pass0 rfl (pa_cons (pv 1) pa_nil)) (pe_one (pe_cmpR op_le (pe_ix ix_tup (pv 1) pe_int (fun _ _ => rfl)) (pe_ix ix_tup (pv 1) pe_int (fun _ _ => rfl)) (nomark _))))), ?_⟩
  refine ⟨_, rfl, v, a, rfl, ha, ?_⟩
  cases a with
  | non => exact ⟨_, rfl, ifF rfl q⟩
  | int i => exact ⟨_, rfl, ifF rfl q⟩
  | par p r =>
    obtain ⟨pa, rfl, hpa⟩ := ha
    have q' : Q (.bl (if shr p r = true then decide (p ≤ r) else false)) H := q
    refine ⟨_, rfl, ?_⟩
    by_cases h : shr p r = true
    · rw [if_pos h] at q'
      exact ifT h ⟨_, rfl, pa, _, _, _, rfl, rfl, SqT.of hpa, at0, _, rfl, pa, _, _, _, rfl, rfl, SqT.of hpa, at1, _, _, rfl, rfl, q'⟩
    · rw [if_neg h] at q'
      exact ifF (Bool.eq_false_iff.2 h) q'
end
section
variable {P : Program} {w : World} {K : PySem.W.Frag} {mg : Str → Option Value} {base : Heap} {A : Ad}
theorem th_common (T : Tx K mg A) : Fc CX0 P w K mg base 1 "common" spCommon := by
  obtain ⟨f, fd, D⟩ := T.d_common
  exact fc_common D
theorem th_lowest (T : Tx K mg A) : Fc CX0 P w K mg base 2 "lowest" spLowest := by
  obtain ⟨f, fd, D⟩ := T.d_lowest
  exact fc_lowest D (th_common T)
theorem th_added (T : Tx K mg A) : Fc CX0 P w K mg base 3 "added" (spShare (· + ·) 8000) := by
  obtain ⟨f, fd, D⟩ := T.d_added
  exact fc_added D (th_lowest T)
theorem th_taken (T : Tx K mg A) : Fc CX0 P w K mg base 3 "taken" (spShare (· * ·) 8000) := by
  obtain ⟨f, fd, D⟩ := T.d_taken
  exact fc_taken D (th_lowest T)
theorem th_less (T : Tx K mg A) : Fc CX0 P w K mg base 1 "less" spLess := by
  obtain ⟨f, fd, D⟩ := T.d_less
  exact fc_less D
theorem all_none (T : Tx K mg A) : ∀ i, Av i = true → Mc CX0 P w K mg base 4 (A.C i) "none" (spK0 A i noneW) := fun i hi => by
  cases i
  case few => obtain ⟨f, fd, D⟩ := T.m_Fewest_none; exact (mc_Fewest_none T.c_Fewest.cl  D).mono (by decide)
  case wid => obtain ⟨f, fd, D⟩ := T.m_Widest_none; exact (mc_Widest_none T.c_Widest.cl  D).mono (by decide)
  case cnt => obtain ⟨f, fd, D⟩ := T.m_Counted_none; exact (mc_Counted_none T.c_Counted.cl  D).mono (by decide)
  case lik => obtain ⟨f, fd, D⟩ := T.m_Likeliest_none; exact (mc_Likeliest_none T.c_Likeliest.cl  D).mono (by decide)
  case cha => obtain ⟨f, fd, D⟩ := T.m_Chances_none; exact (mc_Chances_none T.c_Chances.cl  D).mono (by decide)
  case mus => obtain ⟨f, fd, D⟩ := T.m_Musts_none; exact (mc_Musts_none T.c_Musts.cl  D).mono (by decide)
  case rst => obtain ⟨f, fd, D⟩ := T.m_Rests_none; exact (mc_Rests_none T.c_Rests.cl  D).mono (by decide)
theorem all_rest (T : Tx K mg A) : ∀ i, Av i = true → Mc CX0 P w K mg base 4 (A.C i) "rest" (spK0 A i restW) := fun i hi => by
  cases i
  case few => obtain ⟨f, fd, D⟩ := T.m_Fewest_rest; exact (mc_Fewest_rest T.c_Fewest.cl  D).mono (by decide)
  case wid => obtain ⟨f, fd, D⟩ := T.m_Widest_rest; exact (mc_Widest_rest T.c_Widest.cl T.g_WIDEST D).mono (by decide)
  case cnt => obtain ⟨f, fd, D⟩ := T.m_Counted_rest; exact (mc_Counted_rest T.c_Counted.cl  D).mono (by decide)
  case lik => obtain ⟨f, fd, D⟩ := T.m_Likeliest_rest; exact (mc_Likeliest_rest T.c_Likeliest.cl  D).mono (by decide)
  case cha => obtain ⟨f, fd, D⟩ := T.m_Chances_rest; exact (mc_Chances_rest T.c_Chances.cl  D).mono (by decide)
  case mus => obtain ⟨f, fd, D⟩ := T.m_Musts_rest; exact (mc_Musts_rest T.c_Musts.cl  D).mono (by decide)
  case rst => obtain ⟨f, fd, D⟩ := T.m_Rests_rest; exact (mc_Rests_rest T.c_Rests.cl  D).mono (by decide)
theorem all_tog (T : Tx K mg A) : ∀ i, Av i = true → Mc CX0 P w K mg base 4 (A.C i) "together" (spK2 A i tog) := fun i hi => by
  cases i
  case few => obtain ⟨f, fd, D⟩ := T.m_Fewest_together; exact (mc_Fewest_together T.c_Fewest.cl T.n_min D).mono (by decide)
  case wid => obtain ⟨f, fd, D⟩ := T.m_Widest_together; exact (mc_Widest_together T.c_Widest.cl T.n_max D).mono (by decide)
  case cnt => obtain ⟨f, fd, D⟩ := T.m_Counted_together; exact (mc_Counted_together T.c_Counted.cl  D).mono (by decide)
  case lik => obtain ⟨f, fd, D⟩ := T.m_Likeliest_together; exact (mc_Likeliest_together T.c_Likeliest.cl (th_less T) D).mono (by decide)
  case cha => obtain ⟨f, fd, D⟩ := T.m_Chances_together; exact (mc_Chances_together T.c_Chances.cl (th_added T) D).mono (by decide)
  case mus => obtain ⟨f, fd, D⟩ := T.m_Musts_together; exact (mc_Musts_together T.c_Musts.cl  D).mono (by decide)
  case rst => obtain ⟨f, fd, D⟩ := T.m_Rests_together; exact (mc_Rests_together T.c_Rests.cl  D).mono (by decide)
theorem all_beh (T : Tx K mg A) : ∀ i, Av i = true → Mc CX0 P w K mg base 4 (A.C i) "behind" (spK2 A i beh) := fun i hi => by
  cases i
  case few => obtain ⟨f, fd, D⟩ := T.m_Fewest_behind; exact (mc_Fewest_behind T.c_Fewest.cl  D).mono (by decide)
  case wid => obtain ⟨f, fd, D⟩ := T.m_Widest_behind; exact (mc_Widest_behind T.c_Widest.cl T.n_min D).mono (by decide)
  case cnt => obtain ⟨f, fd, D⟩ := T.m_Counted_behind; exact (mc_Counted_behind T.c_Counted.cl  D).mono (by decide)
  case lik => obtain ⟨f, fd, D⟩ := T.m_Likeliest_behind; exact (mc_Likeliest_behind T.c_Likeliest.cl (th_taken T) D).mono (by decide)
  case cha => obtain ⟨f, fd, D⟩ := T.m_Chances_behind; exact (mc_Chances_behind T.c_Chances.cl (th_taken T) D).mono (by decide)
  case mus => obtain ⟨f, fd, D⟩ := T.m_Musts_behind; exact (mc_Musts_behind T.c_Musts.cl  D).mono (by decide)
  case rst => obtain ⟨f, fd, D⟩ := T.m_Rests_behind; exact (mc_Rests_behind T.c_Rests.cl T.a_Rests_m T.n_range D).mono (by decide)
theorem all_pick (T : Tx K mg A) : ∀ i, Av i = true → Mc CX0 P w K mg base 4 (A.C i) "picks" (spPick A i) := fun i hi => by
  cases i
  case few => obtain ⟨f, fd, D⟩ := T.m_Fewest_picks; exact (mc_Fewest_picks T.c_Fewest.cl  D).mono (by decide)
  case wid => obtain ⟨f, fd, D⟩ := T.m_Widest_picks; exact (mc_Widest_picks T.c_Widest.cl  D).mono (by decide)
  case cnt => obtain ⟨f, fd, D⟩ := T.m_Counted_picks; exact (mc_Counted_picks T.c_Counted.cl  D).mono (by decide)
  case lik => obtain ⟨f, fd, D⟩ := T.m_Likeliest_picks; exact (mc_Likeliest_picks T.c_Likeliest.cl  D).mono (by decide)
  case cha => obtain ⟨f, fd, D⟩ := T.m_Chances_picks; exact (mc_Chances_picks T.c_Chances.cl  D).mono (by decide)
  case mus => obtain ⟨f, fd, D⟩ := T.m_Musts_picks; exact (mc_Musts_picks T.c_Musts.cl  D).mono (by decide)
  case rst => obtain ⟨f, fd, D⟩ := T.m_Rests_picks; exact (mc_Rests_picks T.c_Rests.cl  D).mono (by decide)
theorem th_is_share (T : Tx K mg A) : Fc CX0 P w K mg base 2 "is_share" spIsShare := by
  obtain ⟨f, fd, D⟩ := T.d_is_share
  exact fc_is_share T (th_common T) D
theorem all_is (T : Tx K mg A) : ∀ i, Av i = true → Mc CX0 P w K mg base 4 (A.C i) "is_worth" (spIs A i) := fun i hi => by
  cases i
  case few => obtain ⟨f, fd, D⟩ := T.m_Fewest_is_worth; exact (mc_Fewest_is_worth T D).mono (by decide)
  case wid => obtain ⟨f, fd, D⟩ := T.m_Widest_is_worth; exact (mc_Widest_is_worth T D).mono (by decide)
  case cnt => obtain ⟨f, fd, D⟩ := T.m_Counted_is_worth; exact (mc_Counted_is_worth T D).mono (by decide)
  case lik => obtain ⟨f, fd, D⟩ := T.m_Likeliest_is_worth; exact (mc_Likeliest_is_worth T (th_is_share T) D).mono (by decide)
  case cha => obtain ⟨f, fd, D⟩ := T.m_Chances_is_worth; exact (mc_Chances_is_worth T (th_is_share T) D).mono (by decide)
  case mus => obtain ⟨f, fd, D⟩ := T.m_Musts_is_worth; exact (mc_Musts_is_worth T D).mono (by decide)
  case rst => obtain ⟨f, fd, D⟩ := T.m_Rests_is_worth; exact (mc_Rests_is_worth T D).mono (by decide)
theorem all_rnd (T : Tx K mg A) : ∀ i, Av i = true → Mc (L2.CX P w) P w K mg base 4 (A.C i) "rounds" (spRnd A A.NoSum i) := fun i hi => by
  cases i
  case few => obtain ⟨f, fd, D⟩ := T.m_Fewest_rounds; exact (mc_Fewest_rounds T.c_Fewest.cl  D).any.mono (by decide)
  case wid => obtain ⟨f, fd, D⟩ := T.m_Widest_rounds; exact (mc_Widest_rounds T.c_Widest.cl T.g_WIDEST D).any.mono (by decide)
  case cnt => obtain ⟨f, fd, D⟩ := T.m_Counted_rounds; exact (mc_Counted_rounds T.c_Counted.cl  D).any.mono (by decide)
  case lik => obtain ⟨f, fd, D⟩ := T.m_Likeliest_rounds; exact (mc_Likeliest_rounds T.c_Likeliest.cl  D).any.mono (by decide)
  case cha => obtain ⟨f, fd, D⟩ := T.m_Chances_rounds; exact (mc_Chances_rounds T.c_Chances.cl T.x_NoSum (th_lowest T) D).mono (by decide)
  case mus => obtain ⟨f, fd, D⟩ := T.m_Musts_rounds; exact (mc_Musts_rounds T.c_Musts.cl  D).any.mono (by decide)
  case rst => obtain ⟨f, fd, D⟩ := T.m_Rests_rounds; have BB : Mc CX0 P w K mg base 1 A.Rests "behind" (spK2 A .rst beh) := (by obtain ⟨f, fd, D⟩ := T.m_Rests_behind; exact mc_Rests_behind T.c_Rests.cl T.a_Rests_m T.n_range D); exact (mc_Rests_rounds T.c_Rests.cl BB D).any.mono (by decide)
theorem cl_all (T : Tx K mg A) : ∀ i, Av i = true → ∃ x, Clz K mg x (A.C i) := by
  intro i hi
  cases i
  case few => exact ⟨_, T.c_Fewest⟩
  case wid => exact ⟨_, T.c_Widest⟩
  case cnt => exact ⟨_, T.c_Counted⟩
  case lik => exact ⟨_, T.c_Likeliest⟩
  case cha => exact ⟨_, T.c_Chances⟩
  case mus => exact ⟨_, T.c_Musts⟩
  case rst => exact ⟨_, T.c_Rests⟩
theorem kit_cha (T : Tx K mg A) : ∀ i, Av i = true → PySem.W.kitOne K (.ref (A.C i)) (.ref A.Chances) = some (decide (i = .cha)) := by
  intro i hi
  cases i
  case few => exact T.k_Fewest_Chances
  case wid => exact T.k_Widest_Chances
  case cnt => exact T.k_Counted_Chances
  case lik => exact T.k_Likeliest_Chances
  case cha => exact T.k_Chances_Chances
  case mus => exact T.k_Musts_Chances
  case rst => exact T.k_Rests_Chances
end
/-! ### W5: nets -/
/-- a road as it may be asked for -/
structure Rd where
  s : Int
  t : Int
  w : Vx
def Rw.rd (r : Rw) : Rd := ⟨r.s, r.t, r.w.vx⟩
def RdAt (H : Hp) (v : V) (r : Rd) : Prop := ∃ p y, v = .ref p ∧ H p = some (.tup [.int r.s, .int r.t, y]) ∧ Vv H y r.w
def RwAt (H : Hp) (v : V) (r : Rw) : Prop := ∃ p y, v = .ref p ∧ H p = some (.tup [.int r.s, .int r.t, y]) ∧ Wv H y r.w
theorem RdAt.same {H H' : Hp} {v : V} {r : Rd} (h : RdAt H v r) (e : Same H H') : RdAt H' v r := by
  obtain ⟨p, y, h1, h2, h3⟩ := h; exact ⟨p, y, h1, e _ _ h2, h3.same e⟩
theorem RwAt.same {H H' : Hp} {v : V} {r : Rw} (h : RwAt H v r) (e : Same H H') : RwAt H' v r := by
  obtain ⟨p, y, h1, h2, h3⟩ := h; exact ⟨p, y, h1, e _ _ h2, h3.same e⟩
theorem RwAt.rd {H : Hp} {v : V} {r : Rw} (h : RwAt H v r) : RdAt H v r.rd := by
  obtain ⟨p, y, h1, h2, h3⟩ := h; exact ⟨p, y, h1, h2, h3.vx⟩
theorem Al.same {H H' : Hp} {vs : List V} {rs : List Rw} (h : Al (RwAt H) vs rs) (e : Same H H') : Al (RwAt H') vs rs := h.imp fun _ _ z => z.same e
theorem Al.sameD {H H' : Hp} {vs : List V} {rs : List Rd} (h : Al (RdAt H) vs rs) (e : Same H H') : Al (RdAt H') vs rs := h.imp fun _ _ z => z.same e
theorem Al.rd {H : Hp} {vs : List V} {rs : List Rw} (h : Al (RwAt H) vs rs) : Al (RdAt H) vs (rs.map Rw.rd) := by
  refine ⟨by rw [h.1, List.length_map], fun i v r e1 e2 => ?_⟩
  rw [List.getElem?_map] at e2
  obtain ⟨r', h1, h2⟩ := h.get e1
  rw [h1] at e2
  cases e2
  exact h2.rd
/-- all tuples stand -/
def SameT (H H' : Hp) : Prop := ∀ b xs, H b = some (.tup xs) → H' b = some (.tup xs)
theorem SameT.trans {H H1 H2 : Hp} (a : SameT H H1) (b : SameT H1 H2) : SameT H H2 := fun c xs h => b c xs (a c xs h)
theorem same_t {H H' : Hp} (h : Same H H') : SameT H H' := fun b xs e => h b _ e
theorem sameT_lst {H : Hp} {l : Addr} {xs : List V} {o : HO} (h : H l = some (.lst xs)) : SameT H (upd H l o) := fun b ys e => by
  have ne : b ≠ l := by rintro rfl; rw [h] at e; cases e
  rw [upd_ne ne]; exact e
theorem same_at {H H' : Hp} {l : Addr} {o : HO} (s : Same H H') (h : H l = none) : Same H (upd H' l o) := fun b u e => by
  rw [upd_ne (ne_of_none e h)]; exact s _ _ e
theorem Wv.sameT {H H' : Hp} {v : V} {a : Wo} (h : Wv H v a) (e : SameT H H') : Wv H' v a := by
  cases a with
  | non => exact h
  | int i => exact h
  | rat r => obtain ⟨t, h1, h2⟩ := h; exact ⟨t, h1, e _ _ h2⟩
theorem RwAt.sameT {H H' : Hp} {v : V} {r : Rw} (h : RwAt H v r) (e : SameT H H') : RwAt H' v r := by
  obtain ⟨p, y, h1, h2, h3⟩ := h; exact ⟨p, y, h1, e _ _ h2, h3.sameT e⟩
theorem Al.sameT {H H' : Hp} {vs : List V} {rs : List Rw} (h : Al (RwAt H) vs rs) (e : SameT H H') : Al (RwAt H') vs rs := h.imp fun _ _ z => z.sameT e
theorem ix0 {x y z : V} : atI [x, y, z] 0 = some x := atI_nat (j := 0) rfl
theorem ix1 {x y z : V} : atI [x, y, z] 1 = some y := atI_nat (j := 1) rfl
theorem ix2 {x y z : V} : atI [x, y, z] 2 = some z := atI_nat (j := 2) rfl
/-- a share's number -/
def vr : Vx → Rat
  | .par p q => Rat.divInt p q
  | _ => 0
/-- the share of a road for the place p -/
def shOne (p : Int) (r : Rd) : Rat := if r.s = p ∧ isW .cha r.w = true then vr r.w else 0
def szOne (p : Int) (r : Rd) : Nat := if r.s = p ∧ isW .cha r.w = true then sz (.rat (vr r.w)) + 1 else 0
def shs (p : Int) (rs : List Rd) : Rat := rs.foldl (fun a r => a + shOne p r) 0
def shz (p : Int) (rs : List Rd) : Nat := rs.foldl (fun a r => a + szOne p r) 1
theorem low_same {p q : Int} (hq : 0 < q) : ((Rat.divInt p q).num = p ∧ ((Rat.divInt p q).den : Int) = q) ↔ Int.gcd p q = 1 := by
  rw [low_num p q hq, low_den p q hq]
  constructor
  · rintro ⟨_, h2⟩
    have h3 : (Int.gcd p q : Int) * (q / (Int.gcd p q : Int)) = q := Int.mul_ediv_cancel' (Int.gcd_dvd_right p q)
    rw [h2] at h3
    have h4 : ((Int.gcd p q : Int) - 1) * q = 0 := by grind
    rcases Int.mul_eq_zero.1 h4 with h | h <;> omega
  · intro h
    rw [h]; simp
/-- a share's value as the worth -/
theorem Vv.cha {H : Hp} {v : V} {a : Vx} (h : Vv H v a) (g : isW .cha a = true) : Wv H v (.rat (vr a)) ∧ 0 ≤ vr a := by
  cases a with
  | non => cases g
  | int i => cases g
  | par p q =>
    obtain ⟨h0, h1, h2⟩ := shr_of g
    obtain ⟨e1, e2⟩ := (low_same h1).2 h2
    refine ⟨?_, rat_dvi h0 h1⟩
    show Pr H v (Rat.divInt p q).num (Rat.divInt p q).den
    rw [e1, e2]
    exact h
/-- what is told of places and roads; some false: NoNet, some true: NoWorth -/
def inN (n : Int) (r : Rd) : Bool := if 0 ≤ r.s then if r.s < n then if 0 ≤ r.t then decide (r.t < n) else false else false else false
def overN (n : Int) (rs : List Rd) : Bool := (List.range n.toNat).any fun p => decide (1 < shs p rs)
def netR (k : Kd) (n : Int) (rs : List Rd) : Option Bool :=
  if ¬ (1 ≤ n ∧ n ≤ 8) ∨ 64 < rs.length then some false
  else if rs.all (inN n) = false then some false
  else if k = .cha ∧ overN n rs = true then some false
  else if rs.all (fun r => isW k r.w) = true then none else some true
/-- a net's attributes -/
def nfs (kx : Addr) (n : Int) (l : Addr) : List (Str × V) := putF "rows" (.ref l) (putF "many" (.int n) (putF "sort_of" (.ref kx) []))
/-- a net stands at x -/
def NetAt (A : Ad) (H : Hp) (x : Addr) (k : Kd) (n : Nat) (rs : List Rw) : Prop := RsOk k n rs ∧ ∃ dx kx l ys, H x = some (.ins A.Net dx (nfs kx n l)) ∧ KindAt A H kx k ∧ H l = some (.lst ys) ∧ Al (RwAt H) ys rs
theorem NetAt.same {A : Ad} {H H' : Hp} {x : Addr} {k : Kd} {n : Nat} {rs : List Rw} (h : NetAt A H x k n rs) (e : Same H H') : NetAt A H' x k n rs := by
  obtain ⟨h0, dx, kx, l, ys, h1, h2, h3, h4⟩ := h; exact ⟨h0, dx, kx, l, ys, e _ _ h1, h2.same e, e _ _ h3, h4.same e⟩
theorem nfs_sort (kx : Addr) (n : Int) (l : Addr) : (nfs kx n l).lookup ("sort_of" : Str) = some (.ref kx) := by
  unfold nfs
  rw [lookup_putF, if_neg (by decide +kernel), lookup_putF, if_neg (by decide +kernel), lookup_putF, if_pos rfl]
theorem nfs_many (kx : Addr) (n : Int) (l : Addr) : (nfs kx n l).lookup ("many" : Str) = some (.int n) := by
  unfold nfs
  rw [lookup_putF, if_neg (by decide +kernel), lookup_putF, if_pos rfl]
theorem nfs_rows (kx : Addr) (n : Int) (l : Addr) : (nfs kx n l).lookup ("rows" : Str) = some (.ref l) := by
  unfold nfs
  rw [lookup_putF, if_pos rfl]
theorem nfs_no (kx : Addr) (n : Int) (l : Addr) {m : Str} (h1 : ¬ m = "rows") (h2 : ¬ m = "many") (h3 : ¬ m = "sort_of") : (nfs kx n l).lookup m = none := by
  unfold nfs
  rw [lookup_putF, if_neg h1, lookup_putF, if_neg h2, lookup_putF, if_neg h3]; rfl
/-- what comes behind a statement that keeps the slots -/
theorem seq_split {t rest : TS} {D : Ends} {σ : L2.St} {H : Hp} (P : Prop) (cont : ∀ H1, Same H H1 → P → rest D σ H1) (h : ∀ R : TS, (∀ H1, Same H H1 → P → R D σ H1) → tSeq t R D σ H) : tSeq t rest D σ H := h rest cont
theorem upd_upd {H : Hp} {x : Addr} {o o' : HO} : upd (upd H x o) x o' = upd H x o' := by
  funext b
  by_cases h : b = x
  · subst h; rw [upd_same, upd_same]
  · rw [upd_ne h, upd_ne h, upd_ne h]
/-- all stands but x -/
def SameX (x : Addr) (H H' : Hp) : Prop := ∀ b o, b ≠ x → H b = some o → H' b = some o
/-- net.kind(), net.places(), net.roads(), net.ask(i) -/
def spNkind (A : Ad) : Sp := fun vs H Q _ => ∃ (x : Addr) (k : Kd) (n : Nat) (rs : List Rw), vs = [.ref x] ∧ NetAt A H x k n rs ∧ ∀ kx, KindAt A H kx k → Q (.ref kx) H
def spNplaces (A : Ad) : Sp := fun vs H Q _ => ∃ (x : Addr) (k : Kd) (n : Nat) (rs : List Rw), vs = [.ref x] ∧ NetAt A H x k n rs ∧ Q (.int n) H
def spNroads (A : Ad) : Sp := fun vs H Q _ => ∃ (x : Addr) (k : Kd) (n : Nat) (rs : List Rw), vs = [.ref x] ∧ NetAt A H x k n rs ∧ ∀ p ys, H p = none → Al (RwAt H) ys rs → Q (.ref p) (upd H p (.lst ys))
def spNask (A : Ad) (np : Addr) : Sp := fun vs H Q E => ∃ (x : Addr) (k : Kd) (n : Nat) (rs : List Rw) (i : Int), vs = [.ref x, .int i] ∧ NetAt A H x k n rs ∧ ((0 ≤ i ∧ i < n) → Q .non H) ∧ (¬ (0 ≤ i ∧ i < n) → E (.ref np) none H)
/-- self.ask_shares(kind, places, roads) -/
def spAskSh (A : Ad) (K : PySem.W.Frag) (no : Addr) : Sp := fun vs H Q E => ∃ (x kx la : Addr) (n : Nat) (ys : List V) (rs : List Rd), vs = [.ref x, .ref kx, .int n, .ref la] ∧ n ≤ 8 ∧ KindAt A H kx .cha ∧ SqL K H la ys ∧ Al (RdAt H) ys rs ∧ (∀ p, shz p rs ≤ 7000) ∧
  (overN n rs = false → ∀ H', Same H H' → Q .non H') ∧ (overN n rs = true → ∀ H', Same H H' → E (.ref no) none H')
/-- Net(kind, places, roads) -/
def spNet (A : Ad) (no nw : Addr) : Sp := fun vs H Q E => ∃ (x dx kx la : Addr) (k : Kd) (n : Int) (ys : List V) (rs : List Rd), vs = [.ref x, .ref kx, .int n, .ref la] ∧ H x = some (.ins A.Net dx []) ∧ KindAt A H kx k ∧ H la = some (.lst ys) ∧ Al (RdAt H) ys rs ∧ (k = .cha → ∀ p, shz p rs ≤ 7000) ∧
  (netR k n rs = none → ∀ H' l, SameX x H H' → H l = none → H' x = some (.ins A.Net dx (nfs kx n l)) → H' l = some (.lst ys) → Q .non H') ∧
  (netR k n rs = some false → ∀ H', Same H H' → E (.ref no) none H') ∧ (netR k n rs = some true → ∀ H', Same H H' → E (.ref nw) none H')
section
variable {P : Program} {w : World} {K : PySem.W.Frag} {mg : Str → Option Value} {base : Heap} {A : Ad} {f : Addr} {fd : FuncData}
theorem mc_Net_kind (T : Tx K mg A) (D : Mth K A.Net "kind" "Net.kind" s_Net_kind ["self"] f fd) : Mc CX0 P w K mg base 1 A.Net "kind" (spNkind A) := by
  refine mc0 (N := ["self"]) T.c_Net.cl D (fsc (by decide +kernel)) (fun vs H Q E h => ?_) (fun cdv _ outer s H vs Q E hr h => ?_)
  · obtain ⟨x, k, n, rs, rfl, _⟩ := h; rfl
  · obtain ⟨x, k, n, rs, rfl, ⟨_, dx, kx, l, ys, h1, h2, h3, h4⟩, q⟩ := h
    exact ⟨_, pss_one (ps_ret (pe_fld (pv 0) rfl)), _, rfl, x, A.Net, dx, _, _, rfl, h1, T.c_Net.cl, T.a_Net_sort_of, nfs_sort _ _ _, q kx h2⟩
theorem mc_Net_places (T : Tx K mg A) (D : Mth K A.Net "places" "Net.places" s_Net_places ["self"] f fd) : Mc CX0 P w K mg base 1 A.Net "places" (spNplaces A) := by
  refine mc0 (N := ["self"]) T.c_Net.cl D (fsc (by decide +kernel)) (fun vs H Q E h => ?_) (fun cdv _ outer s H vs Q E hr h => ?_)
  · obtain ⟨x, k, n, rs, rfl, _⟩ := h; rfl
  · obtain ⟨x, k, n, rs, rfl, ⟨_, dx, kx, l, ys, h1, h2, h3, h4⟩, q⟩ := h
    exact ⟨_, pss_one (ps_ret (pe_fld (pv 0) rfl)), _, rfl, x, A.Net, dx, _, _, rfl, h1, T.c_Net.cl, T.a_Net_many, nfs_many _ _ _, q⟩
theorem mc_Net_roads (T : Tx K mg A) (D : Mth K A.Net "roads" "Net.roads" s_Net_roads ["self"] f fd) : Mc CX0 P w K mg base 1 A.Net "roads" (spNroads A) := by
  refine mc0 (N := ["self"]) T.c_Net.cl D (fsc (by decide +kernel)) (fun vs H Q E h => ?_) (fun cdv _ outer s H vs Q E hr h => ?_)
  · obtain ⟨x, k, n, rs, rfl, _⟩ := h; rfl
  · obtain ⟨x, k, n, rs, rfl, ⟨_, dx, kx, l, ys, h1, h2, h3, h4⟩, q⟩ := h
    refine ⟨_, pss_one (ps_ret (pe_callTy call_list_of (by rfl) T.n_list (by decide +kernel) (pa_cons (pe_fld (pv 0) rfl) pa_nil))), ?_⟩
    exact ⟨_, rfl, x, A.Net, dx, _, _, rfl, h1, T.c_Net.cl, T.a_Net_rows, nfs_rows _ _ _, l, ys, rfl, .inl (SqL.of h3), fun p hp => q p ys hp h4⟩
theorem mc_Net_ask (T : Tx K mg A) (D : Mth K A.Net "ask" "Net.ask" s_Net_ask ["self", "place"] f fd) : Mc (L2.CX P w) P w K mg base 1 A.Net "ask" (spNask A A.NoPlace) := by
  refine mcX (N := ["self", "place"]) T.c_Net.cl D (fsc (by decide +kernel)) (fun vs H Q E h => ?_) (fun cdv _ outer s H vs Q E hr h => ?_)
  · obtain ⟨x, k, n, rs, i, rfl, _⟩ := h; rfl
  · obtain ⟨x, k, n, rs, i, rfl, ⟨_, dx, kx, l, ys, h1, h2, h3, h4⟩, q, qn⟩ := h
    have z := T.x_NoPlace
    refine ⟨_, pss_one (ps_if (pt_not (pt_chain op_le op_lt pe_int (pv 1) (pe_fld (pv 0) rfl))) (pss_one (ps_raise rfl (takes_of rfl rfl rfl rfl) (pmk_own PySem.F.excBase_ValueError z.ex z.g z.kp (raises_own z.bs z.ty) rfl))) pss_nil), ?_⟩
    refine ⟨_, rfl, _, _, rfl, rfl, _, rfl, ?_⟩
    by_cases h0 : 0 ≤ i
    · refine ifT (decide_eq_true h0) ⟨_, rfl, x, A.Net, dx, _, _, rfl, h1, T.c_Net.cl, T.a_Net_many, nfs_many _ _ _, _, _, rfl, rfl, _, rfl, ?_⟩
      by_cases h5 : i < n
      · exact ifF (by rw [decide_eq_true h5]; rfl) (q ⟨h0, h5⟩)
      · exact ifT (by rw [decide_eq_false h5]; rfl) (qn fun y => h5 y.2)
    · exact ifF (decide_eq_false h0) ⟨_, rfl, ifT rfl (qn fun y => h0 y.1)⟩
theorem foldl_snoc {α β : Type} (g : β → α → β) (b : β) (l : List α) (i : Nat) {x : α} (h : l[i]? = some x) : (l.take (i + 1)).foldl g b = g ((l.take i).foldl g b) x := by
  have hi : i < l.length := (List.getElem?_eq_some_iff.1 h).1
  have e : l.take (i + 1) = l.take i ++ [x] := by
    rw [List.take_succ, h]; rfl
  rw [e, List.foldl_append]; rfl
theorem shs_nonneg (p : Int) : ∀ (rs : List Rd), 0 ≤ shs p rs := by
  intro rs
  have : ∀ (rs : List Rd) (a : Rat), 0 ≤ a → 0 ≤ rs.foldl (fun a r => a + shOne p r) a := by
    intro rs
    induction rs with
    | nil => intro a h; exact h
    | cons r rs ih =>
      intro a h
      refine ih _ (Rat.add_nonneg h ?_)
      unfold shOne
      split
      · rename_i hh
        cases hw : r.w with
        | non => exact Rat.le_refl
        | int i => exact Rat.le_refl
        | par s t =>
          have hg := hh.2
          rw [hw] at hg
          obtain ⟨h0, h1, _⟩ := shr_of hg
          exact rat_dvi h0 h1
      · exact Rat.le_refl
  exact this rs 0 Rat.le_refl
theorem shz_le (p : Int) (rs : List Rd) (i : Nat) : (rs.take i).foldl (fun a r => a + szOne p r) 1 ≤ shz p rs := by
  have : ∀ (rs : List Rd) (a : Nat), a ≤ rs.foldl (fun a r => a + szOne p r) a := by
    intro rs
    induction rs with
    | nil => intro a; exact Nat.le_refl _
    | cons r rs ih => intro a; exact Nat.le_trans (Nat.le_add_right a _) (ih _)
  unfold shz
  conv => rhs; rw [← List.take_append_drop i rs, List.foldl_append]
  exact this _ _
theorem mc_Net_ask_shares (T : Tx K mg A) (IS : ∀ i, Av i = true → Mc CX0 P w K mg base 4 (A.C i) "is_worth" (spIs A i)) (AD : Fc CX0 P w K mg base 3 "added" (spShare (· + ·) 8000)) (LE : Fc CX0 P w K mg base 1 "less" spLess)
    (D : Mth K A.Net "ask_shares" "Net.ask_shares" s_Net_ask_shares ["self", "kind", "places", "roads"] f fd) : Mc (L2.CX P w) P w K mg base 5 A.Net "ask_shares" (spAskSh A K A.NoNet) := by
  have sc : FnScope ["self", "kind", "places", "roads", "place", "whole", "road"] ["self", "kind", "places", "roads"] (defScope s_Net_ask_shares) := fsc (by decide +kernel)
  refine mcX T.c_Net.cl D sc (fun vs H Q E h => ?_) (fun cdv _ outer s H vs Q E hr h => ?_)
  · obtain ⟨x, kx, la, n, ys, rs, rfl, _⟩ := h; rfl
  · obtain ⟨x, kx, la, n, ys, rs, rfl, hn8, hk, hS, hR, hz, q, qn⟩ := h
    have z := T.x_NoNet
    refine ⟨_, pss_one (ps_for (passes_of rfl) rfl (pi_range1 (by rfl) T.n_range (pa_cons (pv 2) pa_nil)) (pg_name (i := 4) sc.nd rfl (.inl rfl)) (pss_cons (ps_set (i := 5) sc.nd rfl (.inl rfl) (pe_tup (pa_cons pe_int (pa_cons pe_int pa_nil)))) (pss_cons (ps_for (passes_of rfl) rfl (pi_list (pv 3)) (pg_name (i := 6) sc.nd rfl (.inl rfl)) (pss_one (ps_if (PW.pt (pw_and (pt_cmpR op_eq (pe_ix ix_tup (pv 6) pe_int (fun _ _ => rfl)) (pv 4) (nomark _)) (pw_and1 (pt_val (pe_km (ES := fun _ => E0) IS hr (by decide) passS (pv 1) (pa_cons (pe_ix ix_tup (pv 6) pe_int (fun _ _ => rfl)) pa_nil)))))) (pss_one (ps_set (i := 5) sc.nd rfl (.inl rfl) (pe_f AD hr (by decide) pass0 rfl (pa_cons (pv 5) (pa_cons (pe_ix ix_tup (pv 6) pe_int (fun _ _ => rfl)) pa_nil))))) pss_nil))) (pss_one (ps_if (pt_val (pe_f LE hr (by decide) pass0 rfl (pa_cons (pe_tup (pa_cons pe_int (pa_cons pe_int pa_nil))) (pa_cons (pv 5) pa_nil)))) (pss_one (ps_raise rfl (takes_of rfl rfl rfl rfl) (pmk_own PySem.F.excBase_ValueError z.ex z.g z.kp (raises_own z.bs z.ty) rfl))) pss_nil))))), ?_⟩
    refine ⟨_, rfl, (n : Int), rfl, by omega, by omega, for_range (lo := 0) (n := (n : Int).toNat)
      (fun i σ H' => ∃ v4 v5 v6 : Option V, σ = [some (.ref x), some (.ref kx), some (.int n), some (.ref la), v4, v5, v6] ∧ Same H H' ∧ ∀ p, p < i → ¬ 1 < shs (p : Int) rs) ⟨none, none, none, rfl, Same.refl _, fun p h => by omega⟩ ?_ ?_⟩
    · rintro i σ H' hi ⟨v4, v5, v6, rfl, s1, hp⟩
      rw [Int.toNat_natCast] at hi
      refine ⟨size2, fun t ht => ?_⟩
      have s2 := s1.trans (same_upd (o := HO.tup [.int 0, .int 1]) ht)
      have h5 : Wv (upd H' t (HO.tup [.int 0, .int 1])) (.ref t) (.rat 0) := wv_tup (by decide) (by decide)
      generalize upd H' t (HO.tup [.int 0, .int 1]) = H2 at s2 h5
      refine ⟨_, rfl, la, rfl, ⟨_, s2.seq hS⟩, for_list (K := K) (a := la) (xs := ys) (fun j σ H3 => ∃ (v5 : V) (v6 : Option V), σ = [some (.ref x), some (.ref kx), some (.int n), some (.ref la), some (.int (0 + i)), some v5, v6] ∧ Same H H3 ∧
          Wv H3 v5 (.rat ((rs.take j).foldl (fun a r => a + shOne (0 + i) r) 0)) ∧ sz (.rat ((rs.take j).foldl (fun a r => a + shOne (0 + i) r) 0)) ≤ (rs.take j).foldl (fun a r => a + szOne (0 + i) r) 1 ∧ 0 ≤ (rs.take j).foldl (fun a r => a + shOne (0 + i) r) 0)
        ⟨.ref t, v6, rfl, s2, by simpa using h5, (by show sz (.rat 0) ≤ 1; decide), by simp⟩ (fun _ _ _ _ ⟨_, _, _, s3, _⟩ => s3.seq hS) ?_ ?_⟩
      · rintro j y σ H3 hj ⟨v5, v6, rfl, s3, hv5, hz5, h05⟩
        obtain ⟨r, hrj, hR1⟩ := hR.get hj
        obtain ⟨p, yw, rfl, hp3, hw⟩ := hR1.same s3
        rw [foldl_snoc _ _ _ _ hrj, foldl_snoc _ _ _ _ hrj]
        have zle := shz_le (0 + i) rs j
        have zle2 := shz_le (0 + i) rs (j + 1)
        rw [foldl_snoc _ _ _ _ hrj] at zle2
        have hz1 := hz (0 + i)
        refine ⟨_, rfl, p, _, _, _, rfl, rfl, SqT.of hp3, ix0, _, rfl, rfl, _, rfl, ?_⟩
        by_cases hs : r.s = 0 + i
        · refine ifT (decide_eq_true (congrArg V.int hs)) ⟨.cha, hk.1, _, rfl, kx, rfl, hk.same s3, _, rfl, p, _, _, _, rfl, rfl, SqT.of hp3, ix2, kx, .cha, _, r.w, rfl, hk.same s3, rfl, hw, _, rfl, ?_⟩
          by_cases hg : isW .cha r.w = true
          · refine ifT hg ⟨_, rfl, _, rfl, p, _, _, _, rfl, rfl, SqT.of hp3, ix2, ?_⟩
            obtain ⟨hwr, h0⟩ := hw.cha hg
            have eo : shOne (0 + i) r = vr r.w := if_pos ⟨hs, hg⟩
            have ez : szOne (0 + i) r = sz (.rat (vr r.w)) + 1 := if_pos ⟨hs, hg⟩
            rw [eo, ez]
            rw [ez] at zle2
            generalize (rs.take j).foldl (fun a r => a + shOne (0 + i) r) 0 = S at hv5 hz5 h05
            generalize (rs.take j).foldl (fun a r => a + szOne (0 + i) r) 1 = Z at hz5 zle zle2
            refine ⟨_, _, S, vr r.w, rfl, hv5, hwr, h05, h0, by omega, fun p' hp' => ⟨_, _, rfl, s3.trans (same_upd hp'), wv_tup rfl rfl, ?_, Rat.add_nonneg h05 h0⟩⟩
            have := sz_tog (k := .cha) rfl (a := .rat S) (b := .rat (vr r.w)) h05 h0
            rw [tog_cha] at this
            omega
          · have eo : shOne (0 + i) r = 0 := if_neg fun y => hg y.2
            have ez : szOne (0 + i) r = 0 := if_neg fun y => hg y.2
            rw [eo, ez, Rat.add_zero, Nat.add_zero]
            exact ifF (Bool.eq_false_iff.2 hg) ⟨v5, _, rfl, s3, hv5, hz5, h05⟩
        · have eo : shOne (0 + i) r = 0 := if_neg fun y => hs y.1
          have ez : szOne (0 + i) r = 0 := if_neg fun y => hs y.1
          rw [eo, ez, Rat.add_zero, Nat.add_zero]
          exact ifF (decide_eq_false fun y => hs (V.int.inj y)) ⟨v5, _, rfl, s3, hv5, hz5, h05⟩
      · rintro σ H3 ⟨v5, v6, rfl, s3, hv5, hz5, h05⟩
        rw [show ys.length = rs.length from hR.1, List.take_length] at hv5 hz5 h05
        change Wv H3 v5 (.rat (shs (0 + i) rs)) at hv5
        have hz1 := hz (0 + i)
        have hz5' : sz (.rat (shs (0 + i) rs)) ≤ shz (0 + i) rs := hz5
        refine ⟨size2, fun t2 ht2 => ⟨_, rfl, _, _, 1, shs (0 + i) rs, rfl, wv_tup (by decide) (by decide), hv5.same (same_upd ht2), ?_, _, rfl, ?_⟩⟩
        · have : sz (.rat 1) ≤ 1 := by decide
          omega
        · have s4 := s3.trans (same_upd (o := HO.tup [.int 1, .int 1]) ht2)
          by_cases ho : 1 < shs (0 + i) rs
          · refine ifT (decide_eq_true ho) (qn ?_ _ s4)
            unfold overN
            rw [List.any_eq_true]
            refine ⟨i, by rw [List.mem_range, Int.toNat_natCast]; exact hi, ?_⟩
            rw [Int.zero_add] at ho
            exact decide_eq_true ho
          · refine ifF (decide_eq_false ho) ⟨_, _, _, rfl, s4, fun p hp' => ?_⟩
            by_cases e : p = i
            · subst e; rw [Int.zero_add] at ho; exact ho
            · exact hp p (by omega)
    · rintro σ H' ⟨v4, v5, v6, rfl, s1, hp⟩
      refine q ?_ _ s1
      unfold overN
      rw [List.any_eq_false]
      intro p hp'
      rw [List.mem_range, Int.toNat_natCast] at hp'
      rw [decide_eq_true_eq]
      exact hp p (by rw [Int.toNat_natCast]; exact hp')
theorem nc_Net (T : Tx K mg A) (IS : ∀ i, Av i = true → Mc CX0 P w K mg base 4 (A.C i) "is_worth" (spIs A i)) (AS : Mc (L2.CX P w) P w K mg base 5 A.Net "ask_shares" (spAskSh A K A.NoNet))
    (D : Ini K A.Net "Net.__init__" s_Net___init__ ["self", "kind", "places", "roads"] f fd) : Nc (L2.CX P w) P w K mg base 6 "Net" A.Net (spNet A A.NoNet A.NoWorth) := by
  have sc : FnScope ["self", "kind", "places", "roads", "road"] ["self", "kind", "places", "roads"] (defScope s_Net___init__) := fsc (by decide +kernel)
  have zn := T.x_NoNet
  have zw := T.x_NoWorth
  refine ⟨f, fd, _, D.F.okX (N := ["self", "kind", "places", "roads", "road"]) sc (fun vs H Q E h => ?_) (fun cdv _ outer s H vs Q E hr h => ?_), D.M, T.c_Net.g, D.b⟩
  · obtain ⟨x, dx, kx, la, k, n, ys, rs, rfl, _⟩ := h; rfl
  · obtain ⟨x, dx, kx, la, k, n, ys, rs, rfl, hx, hk, hS, hR, hz, q, qn, qw⟩ := h
    refine ⟨_, (pss_cons (ps_if (PW.pt (pw_or (pt_not (pt_chain op_le op_le pe_int (pv 2) (C8.pe_gc rfl T.g_MOST_PLACES))) (pw_or1 (pt_cmpR op_gt (pe_callB call_len_seq (by rfl) T.n_len PySem.boot_len (pa_cons (pv 3) pa_nil)) (C8.pe_gc rfl T.g_MOST_ROADS) (nomark _))))) (pss_one (ps_raise rfl (takes_of rfl rfl rfl rfl) (pmk_own PySem.F.excBase_ValueError zn.ex zn.g zn.kp (raises_own zn.bs zn.ty) rfl))) pss_nil) (pss_cons (ps_for (passes_of rfl) rfl (pi_list (pv 3)) (pg_name (i := 4) sc.nd rfl (.inl rfl)) (pss_one (ps_if (PW.pt (pw_or (pt_not (pt_chain op_le op_lt pe_int (pe_ix ix_tup (pv 4) pe_int (fun _ _ => rfl)) (pv 2))) (pw_or1 (pt_not (pt_chain op_le op_lt pe_int (pe_ix ix_tup (pv 4) pe_int (fun _ _ => rfl)) (pv 2)))))) (pss_one (ps_raise rfl (takes_of rfl rfl rfl rfl) (pmk_own PySem.F.excBase_ValueError zn.ex zn.g zn.kp (raises_own zn.bs zn.ty) rfl))) pss_nil))) (pss_cons (ps_if (pt_val (pe_callB call_isi (by rfl) T.n_isinstance (by decide +kernel) (pa_cons (pv 1) (pa_cons (pe_glob (v := .ref A.Chances) rfl T.c_Chances.g rfl) pa_nil)))) (pss_one (ps_expr (pe_m AS hr (by decide) passE (pv 0) (pa_cons (pv 1) (pa_cons (pv 2) (pa_cons (pv 3) pa_nil)))))) pss_nil) (pss_cons (ps_for (passes_of rfl) rfl (pi_list (pv 3)) (pg_name (i := 4) sc.nd rfl (.inl rfl)) (pss_one (ps_if (pt_not (pt_val (pe_km (ES := fun _ => E0) IS hr (by decide) passS (pv 1) (pa_cons (pe_ix ix_tup (pv 4) pe_int (fun _ _ => rfl)) pa_nil)))) (pss_one (ps_raise rfl (takes_of rfl rfl rfl rfl) (pmk_own PySem.F.excBase_ValueError zw.ex zw.g zw.kp (raises_own zw.bs zw.ty) rfl))) pss_nil))) (pss_cons (ps_fld (pv 0) (pv 1) rfl) (pss_cons (ps_fld (pv 0) (pv 2) rfl) (pss_one (ps_fld (pv 0) (pe_callTy call_list_of (by rfl) T.n_list (by decide +kernel) (pa_cons (pv 3) pa_nil)) rfl)))))))), ?_⟩
    have hin : ∀ {r : Rd}, inN n r = true ↔ ((0 ≤ r.s ∧ r.s < n) ∧ 0 ≤ r.t ∧ r.t < n) := fun {r} => by
      unfold inN
      by_cases a : 0 ≤ r.s <;> by_cases b : r.s < n <;> by_cases c : 0 ≤ r.t <;> by_cases d : r.t < n <;> simp [a, b, c, d]
    have bad1 : (¬ (1 ≤ n ∧ n ≤ 8) ∨ 64 < rs.length) → E (.ref A.NoNet) none H := fun h => qn (by unfold netR; rw [if_pos h]) H (Same.refl H)
    have hlen : ys.length = rs.length := hR.1
    by_cases hn : 1 ≤ n ∧ n ≤ 8
    case neg =>
      refine ⟨_, rfl, _, _, rfl, rfl, _, rfl, ?_⟩
      by_cases h1 : 1 ≤ n
      · refine ifT (decide_eq_true h1) ⟨_, _, rfl, rfl, _, rfl, ifT ?_ (ifT rfl (bad1 (.inl hn)))⟩
        rw [decide_eq_false fun y => hn ⟨h1, y⟩]; rfl
      · exact ifF (decide_eq_false h1) ⟨_, rfl, ifT rfl (ifT rfl (bad1 (.inl hn)))⟩
    by_cases hl : 64 < rs.length
    · refine ⟨_, rfl, _, _, rfl, rfl, _, rfl, ifT (decide_eq_true hn.1) ⟨_, _, rfl, rfl, _, rfl, ifF (by rw [decide_eq_true hn.2]; rfl) ?_⟩⟩
      exact ⟨_, rfl, la, _, rfl, .inl (SqL.of hS), _, _, rfl, rfl, _, rfl, ifT (decide_eq_true (by rw [hlen]; omega)) (bad1 (.inr hl))⟩
    refine ⟨_, rfl, _, _, rfl, rfl, _, rfl, ifT (decide_eq_true hn.1) ⟨_, _, rfl, rfl, _, rfl, ifF (by rw [decide_eq_true hn.2]; rfl) ?_⟩⟩
    refine ⟨_, rfl, la, _, rfl, .inl (SqL.of hS), _, _, rfl, rfl, _, rfl, ifF (decide_eq_false (by rw [hlen]; omega)) ?_⟩
    have e1 : ¬ (¬ (1 ≤ n ∧ n ≤ 8) ∨ 64 < rs.length) := fun h => h.elim (fun z => z hn) hl
    -- the ends
    refine ⟨_, rfl, la, rfl, ⟨_, SqL.of hS⟩, for_list (K := K) (a := la) (xs := ys) (fun j σ H' => ∃ v4 : Option V, σ = [some (.ref x), some (.ref kx), some (.int n), some (.ref la), v4] ∧ H' = H ∧ ∀ (j' : Nat) (r : Rd), j' < j → rs[j']? = some r → inN n r = true)
      ⟨none, rfl, rfl, fun _ _ h => by omega⟩ (fun _ _ _ _ ⟨_, _, e, _⟩ => by rw [e]; exact SqL.of hS) ?_ ?_⟩
    · rintro j y σ H' hj ⟨v4, rfl, rfl, hp⟩
      obtain ⟨r, hrj, p, yw, rfl, hpp, hw⟩ := hR.get hj
      have bad : inN n r = false → E (.ref A.NoNet) none H' := fun h => qn (by
        unfold netR
        rw [if_neg e1, if_pos]
        rw [List.all_eq_false]
        exact ⟨r, List.mem_of_getElem? hrj, by rw [h]; exact Bool.false_ne_true⟩) H' (Same.refl H')
      have notin : ¬ ((0 ≤ r.s ∧ r.s < n) ∧ 0 ≤ r.t ∧ r.t < n) → inN n r = false := fun h => Bool.eq_false_iff.2 fun z => h (hin.1 z)
      refine ⟨_, rfl, p, _, _, _, rfl, rfl, SqT.of hpp, ix0, _, _, rfl, rfl, _, rfl, ?_⟩
      by_cases a : 0 ≤ r.s
      · refine ifT (decide_eq_true a) ⟨_, rfl, _, _, rfl, rfl, _, rfl, ?_⟩
        by_cases b : r.s < n
        · refine ifF (by rw [decide_eq_true b]; rfl) ⟨_, rfl, p, _, _, _, rfl, rfl, SqT.of hpp, ix1, _, _, rfl, rfl, _, rfl, ?_⟩
          by_cases c : 0 ≤ r.t
          · refine ifT (decide_eq_true c) ⟨_, rfl, _, _, rfl, rfl, _, rfl, ?_⟩
            by_cases d : r.t < n
            · refine ifF (by rw [decide_eq_true d]; rfl) ⟨_, rfl, rfl, fun j' r' hj' hr' => ?_⟩
              by_cases e : j' = j
              · subst e; rw [hrj] at hr'; cases hr'; exact hin.2 ⟨⟨a, b⟩, c, d⟩
              · exact hp j' r' (by omega) hr'
            · exact ifT (by rw [decide_eq_false d]; rfl) (bad (notin fun h => d h.2.2))
          · exact ifF (decide_eq_false c) ⟨_, rfl, ifT rfl (bad (notin fun h => c h.2.1))⟩
        · exact ifT (by rw [decide_eq_false b]; rfl) (ifT rfl (bad (notin fun h => b h.1.2)))
      · exact ifF (decide_eq_false a) ⟨_, rfl, ifT rfl (ifT rfl (bad (notin fun h => a h.1.1)))⟩
    rintro σ H' ⟨v4, rfl, rfl, hp⟩
    have e2 : ¬ rs.all (inN n) = false := by
      rw [Bool.not_eq_false, List.all_eq_true]
      intro r hr
      obtain ⟨j, hj⟩ := List.getElem?_of_mem hr
      exact hp j r (by rw [hlen]; exact (List.getElem?_eq_some_iff.1 hj).1) hj
    -- the shares
    obtain ⟨hav, hko, dk, hxk⟩ := id hk
    obtain ⟨xn, cl⟩ := cl_all T k.x hav
    dsimp only
    refine seq_split (¬ (k = .cha ∧ overN n rs = true)) (fun H1 s1 e3 => ?_) (fun R cont => ?_)
    rotate_left
    · refine ⟨_, rfl, _, _, _, _, _, rfl, .own A.Chances, .base (.ins hxk cl.cl cl.ha T.hn T.ht cl.hm), kit_cha T k.x hav, _, rfl, ?_⟩
      by_cases hc : k = .cha
      · subst hc
        obtain ⟨m, rfl⟩ := nn n (by omega)
        refine ifT (decide_eq_true rfl) ⟨_, rfl, x, dx, _, rfl, hx, rfl, _, rfl, _, rfl, _, rfl, x, kx, la, m, ys, rs, rfl, by omega, hk, SqL.of hS, hR, hz rfl, fun ho H1 s1 => cont H1 s1 (fun z => by rw [ho] at z; exact Bool.noConfusion z.2), fun ho H1 s1 => qn ?_ H1 s1⟩
        unfold netR
        rw [if_neg e1, if_neg e2, if_pos ⟨rfl, ho⟩]
      · exact ifF (decide_eq_false fun z => hc (by cases k <;> first | rfl | cases z)) (cont _ (Same.refl _) fun z => hc z.1)
    have hk1 := hk.same s1
    have hR1 := hR.sameD s1
    have hS1 := s1 _ _ hS
    -- the worths
    refine ⟨_, rfl, la, rfl, ⟨_, SqL.of hS1⟩, for_list (K := K) (a := la) (xs := ys) (fun j σ H' => ∃ v4 : Option V, σ = [some (.ref x), some (.ref kx), some (.int n), some (.ref la), v4] ∧ H' = H1 ∧ ∀ (j' : Nat) (r : Rd), j' < j → rs[j']? = some r → isW k r.w = true)
      ⟨v4, rfl, rfl, fun _ _ h => by omega⟩ (fun _ _ _ _ ⟨_, _, e, _⟩ => by rw [e]; exact SqL.of hS1) ?_ ?_⟩
    · rintro j y σ H2 hj ⟨v4, rfl, rfl, hp⟩
      obtain ⟨r, hrj, p, yw, rfl, hpp, hw⟩ := hR1.get hj
      refine ⟨k, hav, _, rfl, kx, rfl, hk1, _, rfl, p, _, _, _, rfl, rfl, SqT.of hpp, ix2, kx, k, _, r.w, rfl, hk1, rfl, hw, _, rfl, ?_⟩
      by_cases hg : isW k r.w = true
      · refine ifF (by rw [hg]; rfl) ⟨_, rfl, rfl, fun j' r' hj' hr' => ?_⟩
        by_cases e : j' = j
        · subst e; rw [hrj] at hr'; cases hr'; exact hg
        · exact hp j' r' (by omega) hr'
      · refine ifT (by rw [Bool.eq_false_iff.2 hg]; rfl) (qw ?_ _ s1)
        unfold netR
        rw [if_neg e1, if_neg e2, if_neg e3, if_neg]
        intro z
        rw [List.all_eq_true] at z
        exact hg (z r (List.mem_of_getElem? hrj))
    rintro σ H2 ⟨v4, rfl, rfl, hp⟩
    have e4 : rs.all (fun r => isW k r.w) = true := by
      rw [List.all_eq_true]
      intro r hr
      obtain ⟨j, hj⟩ := List.getElem?_of_mem hr
      exact hp j r (by rw [hlen]; exact (List.getElem?_eq_some_iff.1 hj).1) hj
    have hx1 := s1 _ _ hx
    have ne : la ≠ x := by
      rintro rfl
      rw [hx1] at hS1; cases hS1
    refine ⟨_, rfl, _, rfl, x, _, dx, [], rfl, hx1, T.c_Net.cl, T.a_Net_sort_of, (by show 0 < 1000; decide), ?_⟩
    refine ⟨_, rfl, _, rfl, x, _, dx, _, rfl, upd_same, T.c_Net.cl, T.a_Net_many, (by show 1 < 1000; decide), ?_⟩
    rw [upd_upd]
    refine ⟨_, rfl, la, ys, rfl, .inl (SqL.of (by rw [upd_ne ne]; exact hS1)), fun l hl => ?_⟩
    have nl : l ≠ x := by
      rintro rfl
      rw [upd_same] at hl; cases hl
    rw [upd_ne nl] at hl
    refine ⟨_, rfl, x, _, dx, _, rfl, by rw [upd_ne (fun z => nl z.symm)]; exact upd_same, T.c_Net.cl, T.a_Net_rows, (by show 2 < 1000; decide), ?_⟩
    refine q ?_ _ l (fun b o hb e => ?_) (s1.free hl) ?_ ?_
    · unfold netR
      rw [if_neg e1, if_neg e2, if_neg e3, if_pos e4]
    · rw [upd_ne hb, upd_ne (ne_of_none (s1 _ _ e) hl), upd_ne hb]
      exact s1 _ _ e
    · exact upd_same
    · rw [upd_ne nl, upd_same]
theorem th_Nkind (T : Tx K mg A) : Mc CX0 P w K mg base 1 A.Net "kind" (spNkind A) := by
  obtain ⟨f, fd, D⟩ := T.m_Net_kind
  exact mc_Net_kind T D
theorem th_Nplaces (T : Tx K mg A) : Mc CX0 P w K mg base 1 A.Net "places" (spNplaces A) := by
  obtain ⟨f, fd, D⟩ := T.m_Net_places
  exact mc_Net_places T D
theorem th_Nroads (T : Tx K mg A) : Mc CX0 P w K mg base 1 A.Net "roads" (spNroads A) := by
  obtain ⟨f, fd, D⟩ := T.m_Net_roads
  exact mc_Net_roads T D
theorem th_Nask (T : Tx K mg A) : Mc (L2.CX P w) P w K mg base 1 A.Net "ask" (spNask A A.NoPlace) := by
  obtain ⟨f, fd, D⟩ := T.m_Net_ask
  exact mc_Net_ask T D
theorem th_Net (T : Tx K mg A) : Nc (L2.CX P w) P w K mg base 6 "Net" A.Net (spNet A A.NoNet A.NoWorth) := by
  obtain ⟨f, fd, D⟩ := T.m_Net_ask_shares
  obtain ⟨f2, fd2, D2⟩ := T.m_Net___init__
  exact nc_Net T (all_is T) (mc_Net_ask_shares T (all_is T) (th_added T) (th_less T) D) D2
end
/-- net.m(..) -/
theorem tm_net {A : Ad} {σ : L2.St} {H : Hp} {Q : VK} {E : XK} {i : Nat} {m : Str} {sp : Sp} {t : TA} {x : Addr} {k : Kd} {n : Nat} {rs : List Rw} (hi : σ[i]? = some (some (.ref x))) (h : NetAt A H x k n rs)
    (q : t σ H fun vs H2 => sp (.ref x :: vs ++ []) H2 Q E) (h1 : ¬ m = "rows" := by decide +kernel) (h2 : ¬ m = "many" := by decide +kernel) (h3 : ¬ m = "sort_of" := by decide +kernel) : tMeth A.Net m sp [] E (tVar i) t σ H Q := by
  obtain ⟨_, dx, kx, l, ys, e, _⟩ := h
  exact ⟨_, hi, x, dx, _, rfl, e, nfs_no _ _ _ h1 h2 h3, q⟩
/-! ### W6: ways walked -/
/-- a row of roads walked on -/
def wkW (k : Kd) (rs : List Rw) : Int → Wo → List Int → Option (Int × Wo)
  | p, w, [] => some (p, w)
  | p, w, j :: js => if 0 ≤ j then (match rs[j.toNat]? with
    | some r => if (r.s : Int) = p then wkW k rs r.t (beh k w r.w) js else none
    | none => none) else none
/-- what a net that is made stands for -/
structure NetF (k : Kd) (n : Nat) (rs : List Rw) : Prop where
  n1 : 1 ≤ n
  n8 : n ≤ 8
  len : rs.length ≤ 64
  ok : RsOk k n rs
  cha : k = .cha → (∀ i, sumW i rs ≤ 1) ∧ ∀ r ∈ rs, sz r.w ≤ 100
theorem NetD.f {k : Kd} {most extra n : Nat} {rs : List Rw} (h : NetD k most extra n rs) (hm : most ≤ 8) (hx : extra ≤ 40) : NetF k n rs :=
  ⟨h.n1, Nat.le_trans h.nm hm, by have := h.len; omega, h.ok, fun hc => by
    obtain ⟨D, h1, h2, h3⟩ := h.cha hc
    refine ⟨h3, fun r hr => ?_⟩
    have := h.sz (by rw [hc]; rfl) r hr
    rw [hc] at this
    exact Nat.le_trans this (by decide)⟩
theorem vr_vx {w : Wo} (h : Good .cha w) : vr w.vx = wq w := by
  obtain ⟨q, rfl, h0⟩ := good_cha h
  exact Rat.num_divInt_den q
theorem shs_eq (s : Nat) : ∀ (rs : List Rw) (a : Rat), (∀ r ∈ rs, Good .cha r.w) → (rs.map Rw.rd).foldl (fun a r => a + shOne s r) a = rs.foldl (sumF s) a
  | [], a, _ => rfl
  | r :: rs, a, h => by
    have g := h r List.mem_cons_self
    have e : a + shOne s r.rd = sumF s a r := by
      unfold shOne sumF
      by_cases hs : r.s = s
      · rw [if_pos ⟨by show (r.s : Int) = s; omega, isW_good g⟩, if_pos hs]
        show a + vr r.w.vx = _
        rw [vr_vx g]
      · rw [if_neg fun z => hs (by have : (r.s : Int) = s := z.1; omega), if_neg hs, Rat.add_zero]
    show (rs.map Rw.rd).foldl _ (a + shOne s r.rd) = rs.foldl (sumF s) (sumF s a r)
    rw [e]
    exact shs_eq s rs _ fun x hx => h x (List.mem_cons_of_mem _ hx)
theorem shz_bound (p : Int) : ∀ (rs : List Rw) (a : Nat), (∀ r ∈ rs, Good .cha r.w ∧ sz r.w ≤ 100) → (rs.map Rw.rd).foldl (fun a r => a + szOne p r) a ≤ a + 101 * rs.length
  | [], a, _ => Nat.le_refl _
  | r :: rs, a, h => by
    obtain ⟨g, z⟩ := h r List.mem_cons_self
    have e : szOne p r.rd ≤ 101 := by
      unfold szOne
      split
      · show sz (.rat (vr r.w.vx)) + 1 ≤ 101
        rw [vr_vx g, ← wq_eq g]; omega
      · omega
    have := shz_bound p rs (a + szOne p r.rd) fun x hx => h x (List.mem_cons_of_mem _ hx)
    rw [List.length_cons]
    show (rs.map Rw.rd).foldl _ (a + szOne p r.rd) ≤ _
    omega
theorem netR_ok {k : Kd} {n : Nat} {rs : List Rw} (h : NetF k n rs) : netR k n (rs.map Rw.rd) = none := by
  have h1 := h.n1
  have h8 := h.n8
  have hl := h.len
  unfold netR
  rw [if_neg (by rw [List.length_map]; omega), if_neg, if_neg, if_pos]
  · rw [List.all_eq_true]
    intro r hr
    obtain ⟨r0, h0, rfl⟩ := List.mem_map.1 hr
    exact isW_good (h.ok r0 h0).1
  · rintro ⟨hc, ho⟩
    unfold overN at ho
    rw [List.any_eq_true] at ho
    obtain ⟨p, hp, hlt⟩ := ho
    have hlt := of_decide_eq_true hlt
    have e : shs (p : Int) (rs.map Rw.rd) = sumW p rs := shs_eq p rs 0 fun r hr => by rw [← hc]; exact (h.ok r hr).1
    rw [e] at hlt
    exact Rat.not_le.2 hlt ((h.cha hc).1 p)
  · rw [Bool.not_eq_false, List.all_eq_true]
    intro r hr
    obtain ⟨r0, h0, rfl⟩ := List.mem_map.1 hr
    obtain ⟨_, hs, ht⟩ := h.ok r0 h0
    show inN n r0.rd = true
    unfold inN
    rw [if_pos (show (0 : Int) ≤ r0.rd.s from Int.natCast_nonneg r0.s), if_pos (show r0.rd.s < (n : Int) from Int.ofNat_lt.2 hs), if_pos (show (0 : Int) ≤ r0.rd.t from Int.natCast_nonneg r0.t)]
    exact decide_eq_true (show r0.rd.t < (n : Int) from Int.ofNat_lt.2 ht)
/-- Net(kind, places, roads) of what is a net -/
theorem mkNet {A : Ad} {no nw : Addr} {H : Hp} {QQ : Hp → Prop} {E : XK} {kx la x dx : Addr} {k : Kd} {n : Nat} {ys : List V} {rs : List Rw} (hF : NetF k n rs) (hk : KindAt A H kx k) (hS : H la = some (.lst ys)) (hR : Al (RwAt H) ys rs)
    (hx : H x = none) (hdx : H dx = none) (q : ∀ H', Same H H' → NetAt A H' x k n rs → QQ H') :
    spNet A no nw (.ref x :: ([.ref kx, .int n, .ref la] ++ [])) (upd (upd H dx (.own x)) x (.ins A.Net dx [])) (fun v H2 => v = .non ∧ QQ H2) E := by
  have s1 : Same H (upd (upd H dx (.own x)) x (.ins A.Net dx [])) := same_new hx hdx
  refine ⟨x, dx, kx, la, k, n, ys, rs.map Rw.rd, rfl, upd_same, hk.same s1, s1 _ _ hS, (hR.same s1).rd, fun hc p => ?_, fun _ H' l sx hl hx' hl' => ⟨rfl, ?_⟩, fun z => ?_, fun z => ?_⟩
  · have := shz_bound p rs 1 fun r hr => ⟨by rw [← hc]; exact (hF.ok r hr).1, (hF.cha hc).2 r hr⟩
    have hl := hF.len
    show (rs.map Rw.rd).foldl _ 1 ≤ 7000
    omega
  · have s2 : Same H H' := fun b o e => sx b o (ne_of_none e hx) (s1 _ _ e)
    exact q H' s2 ⟨hF.ok, dx, kx, l, ys, hx', hk.same s2, hl', hR.same s2⟩
  · rw [netR_ok hF] at z; cases z
  · rw [netR_ok hF] at z; cases z
/-- worth_of(net, place, row) -/
def spWorthOf (A : Ad) (K : PySem.W.Frag) (np nr : Addr) : Sp := fun vs H Q E => ∃ (x la : Addr) (k : Kd) (n : Nat) (rs : List Rw) (p : Int) (js : List Int) (B : Nat), vs = [.ref x, .int p, .ref la] ∧ NetAt A H x k n rs ∧ SqL K H la (js.map V.int) ∧ KOk k ∧
  rs.length ≤ 64 ∧ js.length ≤ 1000 ∧ (bitK k = true → (∀ r ∈ rs, sz r.w ≤ B) ∧ 31 + js.length * B + B ≤ 8000) ∧
  ((0 ≤ p ∧ p < n) → ∀ t wt, wkW k rs p (restW k) js = some (t, wt) → ∀ H' a z, Same H H' → H' a = some (.tup [.int t, z]) → Wv H' z wt → Q (.ref a) H') ∧
  ((0 ≤ p ∧ p < n) → wkW k rs p (restW k) js = none → ∀ H', Same H H' → E (.ref nr) none H') ∧ (¬ (0 ≤ p ∧ p < n) → E (.ref np) none H)
section
variable {P : Program} {w : World} {K : PySem.W.Frag} {mg : Str → Option Value} {base : Heap} {A : Ad} {f : Addr} {fd : FuncData}
theorem fc_worth_of (T : Tx K mg A) (D : Dfn K mg "worth_of" s_worth_of ["net", "place", "row"] f fd) : Fc (L2.CX P w) P w K mg base 5 "worth_of" (spWorthOf A K A.NoPlace A.NoRoad) := by
  have sc : FnScope ["net", "place", "row", "roads", "kind", "worth", "k"] ["net", "place", "row"] (defScope s_worth_of) := fsc (by decide +kernel)
  have z := T.x_NoRoad
  refine fcX D sc (fun vs H Q E h => ?_) (fun cdv _ outer s H vs Q E hr h => ?_)
  · obtain ⟨x, la, k, n, rs, p, js, B, rfl, _⟩ := h; rfl
  · obtain ⟨x, la, k, n, rs, p, js, B, rfl, hN, hS, hko, hl64, hj1000, hB, q, qr, qp⟩ := h
    refine ⟨_, (pss_cons (ps_expr (pe_m (th_Nask T) hr (by decide) passE (pv 0) (pa_cons (pv 1) pa_nil))) (pss_cons (ps_set (i := 3) sc.nd rfl (.inl rfl) (pe_m0 (th_Nroads T) hr (by decide) pass0 (pv 0))) (pss_cons (ps_set (i := 4) sc.nd rfl (.inl rfl) (pe_m0 (th_Nkind T) hr (by decide) pass0 (pv 0))) (pss_cons (ps_set (i := 5) sc.nd rfl (.inl rfl) (pe_km0 (ES := fun _ => E0) (all_rest T) hr (by decide) passS (pv 4))) (pss_cons (ps_for (passes_of rfl) rfl (pi_list (pv 2)) (pg_name (i := 6) sc.nd rfl (.inl rfl)) (pss_cons (ps_if (PW.pt (pw_or (pt_not (pt_chain op_le op_lt pe_int (pv 6) (pe_callB call_len_seq (by rfl) T.n_len PySem.boot_len (pa_cons (pv 3) pa_nil)))) (pw_or1 (pt_cmpR op_ne (pe_ix ix_tup (pe_ix ix_list (pv 3) (pv 6) (fun _ _ => rfl)) pe_int (fun _ _ => rfl)) (pv 1) (nomark _))))) (pss_one (ps_raise rfl (takes_of rfl rfl rfl rfl) (pmk_own PySem.F.excBase_ValueError z.ex z.g z.kp (raises_own z.bs z.ty) rfl))) pss_nil) (pss_cons (ps_set (i := 5) sc.nd rfl (.inl rfl) (pe_km (ES := fun _ => E0) (all_beh T) hr (by decide) passS (pv 4) (pa_cons (pv 5) (pa_cons (pe_ix ix_tup (pe_ix ix_list (pv 3) (pv 6) (fun _ _ => rfl)) pe_int (fun _ _ => rfl)) pa_nil)))) (pss_one (ps_set (i := 1) sc.nd rfl (.inl rfl) (pe_ix ix_tup (pe_ix ix_list (pv 3) (pv 6) (fun _ _ => rfl)) pe_int (fun _ _ => rfl))))))) (pss_one (ps_ret (pe_tup (pa_cons (pv 1) (pa_cons (pv 5) pa_nil)))))))))), ?_⟩
    refine tm_net rfl hN ⟨_, rfl, x, k, n, rs, p, rfl, hN, fun hp => ?_, fun hp => qp hp⟩
    refine tm_net rfl hN ⟨x, k, n, rs, rfl, hN, fun l ys hl hR => ?_⟩
    have s1 := same_upd (o := HO.lst ys) hl
    have hL : (upd H l (HO.lst ys)) l = some (.lst ys) := upd_same
    generalize upd H l (HO.lst ys) = H1 at s1 hL
    refine tm_net rfl (hN.same s1) ⟨x, k, n, rs, rfl, hN.same s1, fun kx hk => ?_⟩
    refine ⟨k, hk.1, _, rfl, kx, rfl, hk, kx, k, rfl, hk, rfl, fun H2 z0 s2 hz0 => ?_⟩
    have s12 := s1.trans s2
    have hylen : ys.length = rs.length := hR.1
    refine ⟨_, rfl, la, rfl, ⟨_, s12.seq hS⟩, for_list (K := K) (a := la) (xs := js.map V.int) (fun i σ H' => ∃ (p' : Int) (v5 : V) (v6 : Option V) (wt : Wo), σ = [some (.ref x), some (.int p'), some (.ref la), some (.ref l), some (.ref kx), some v5, v6] ∧ Same H2 H' ∧
        Wv H' v5 wt ∧ Good k wt ∧ (bitK k = true → sz wt ≤ 31 + i * B) ∧ wkW k rs p (restW k) js = wkW k rs p' wt (js.drop i))
      ⟨p, z0, none, restW k, rfl, Same.refl _, hz0, good_rest hko, fun _ => by have := sz_rest k; omega, rfl⟩ (fun _ _ _ _ ⟨_, _, _, _, _, e, _⟩ => (s12.trans e).seq hS) ?_ ?_⟩
    · rintro i y σ H' hi ⟨p', v5, v6, wt, rfl, s3, h5, g5, z5, ew⟩
      rw [List.getElem?_map] at hi
      obtain ⟨j, hj, rfl⟩ := Option.map_eq_some_iff.1 hi
      have hil : i < js.length := (List.getElem?_eq_some_iff.1 hj).1
      have ed : js.drop i = j :: js.drop (i + 1) := by
        rw [List.drop_eq_getElem_cons hil]
        have := (List.getElem?_eq_some_iff.1 hj).2
        rw [this]
      rw [ed] at ew
      have hL' := s3 _ _ (s2 _ _ hL)
      have sH := s12.trans s3
      have bad : wkW k rs p' wt (j :: js.drop (i + 1)) = none → E (.ref A.NoRoad) none H' := fun h => qr hp (ew.trans h) H' sH
      refine ⟨_, rfl, _, _, rfl, rfl, _, rfl, ?_⟩
      by_cases h0 : 0 ≤ j
      · refine ifT (decide_eq_true h0) ⟨_, rfl, l, _, rfl, .inl (SqL.of hL'), _, _, rfl, rfl, _, rfl, ?_⟩
        by_cases h1 : j < (ys.length : Nat)
        · have hjn : j.toNat < rs.length := by omega
          obtain ⟨r, hr1⟩ : ∃ r, rs[j.toNat]? = some r := ⟨_, List.getElem?_eq_getElem hjn⟩
          obtain ⟨v, hv1, pp, wv, rfl, hpp, hww⟩ := (hR.same sH).getR hr1
          have hat : atI ys j = some (.ref pp) := by
            obtain ⟨jn, rfl⟩ := nn j h0
            exact atI_nat (by rw [Int.toNat_natCast] at hv1; exact hv1)
          obtain ⟨g1, hs1, ht1⟩ := hN.1 r (List.mem_of_getElem? hr1)
          have estep : wkW k rs p' wt (j :: js.drop (i + 1)) = if (r.s : Int) = p' then wkW k rs r.t (beh k wt r.w) (js.drop (i + 1)) else none := by
            show (if 0 ≤ j then _ else none) = _
            rw [if_pos h0, hr1]
          refine ifF (by rw [decide_eq_true h1]; rfl) ⟨_, rfl, _, rfl, l, _, _, _, rfl, rfl, SqL.of hL', hat, pp, _, _, _, rfl, rfl, SqT.of hpp, ix0, _, rfl, rfl, _, rfl, ?_⟩
          by_cases h2 : (r.s : Int) = p'
          · refine ifF (by rw [h2]; simp) ?_
            rw [if_pos h2] at estep
            have hk' := hk.same (s2.trans s3)
            refine ⟨k, hk.1, _, rfl, kx, rfl, hk', _, rfl, _, rfl, _, rfl, l, _, _, _, rfl, rfl, SqL.of hL', hat, pp, _, _, _, rfl, rfl, SqT.of hpp, ix2, kx, k, _, _, wt, r.w, rfl, hk', rfl, h5, hww, g5, g1, fits_of (fun hb => ?_), fun H4 z4 s4 hz4 => ?_⟩
            · have := z5 hb
              have hB2 := hB hb
              have := hB2.1 r (List.mem_of_getElem? hr1)
              have : i * B ≤ js.length * B := Nat.mul_le_mul_right _ (by omega)
              omega
            · refine ⟨_, rfl, _, rfl, l, _, _, _, rfl, rfl, SqL.of (s4 _ _ hL'), hat, pp, _, _, _, rfl, rfl, SqT.of (s4 _ _ hpp), ix1, ?_⟩
              refine ⟨r.t, z4, _, beh k wt r.w, rfl, s3.trans s4, hz4, good_beh g5 g1, fun hb => ?_, ew.trans estep⟩
              have := sz_beh hb g5 g1
              have := z5 hb
              have := (hB hb).1 r (List.mem_of_getElem? hr1)
              have e2 : (i + 1) * B = i * B + B := Nat.succ_mul i B
              omega
          · refine ifT (by simp [h2]) (bad ?_)
            rw [estep, if_neg h2]
        · refine ifT (by rw [decide_eq_false h1]; rfl) (ifT rfl (bad ?_))
          show (if 0 ≤ j then _ else none) = none
          rw [if_pos h0, List.getElem?_eq_none (by omega)]
      · refine ifF (decide_eq_false h0) ⟨_, rfl, ifT rfl (ifT rfl (bad ?_))⟩
        show (if 0 ≤ j then _ else none) = none
        rw [if_neg h0]
    · rintro σ H' ⟨p', v5, v6, wt, rfl, s3, h5, g5, z5, ew⟩
      rw [List.length_map, List.drop_eq_nil_of_le (Nat.le_refl _)] at ew
      refine ⟨_, rfl, _, rfl, size2, fun a ha => ?_⟩
      exact q hp p' wt ew _ a v5 ((s12.trans s3).trans (same_upd ha)) upd_same (h5.same (same_upd ha))
end
/-! ### W7: ways by steps -/
/-- the list a of n worths, the i-th is f i -/
def RowAt (H : Hp) (a : Addr) (n : Nat) (f : Nat → Wo) : Prop := ∃ vs : List V, H a = some (.lst vs) ∧ vs.length = n ∧ ∀ i v, vs[i]? = some v → Wv H v (f i)
theorem RowAt.same {H H' : Hp} {a : Addr} {n : Nat} {f : Nat → Wo} (h : RowAt H a n f) (e : Same H H') : RowAt H' a n f := by
  obtain ⟨vs, h1, h2, h3⟩ := h; exact ⟨vs, e _ _ h1, h2, fun i v hi => (h3 i v hi).same e⟩
theorem RowAt.at {H : Hp} {a : Addr} {n : Nat} {f : Nat → Wo} (h : RowAt H a n f) {i : Nat} (hi : i < n) : ∃ vs v, H a = some (.lst vs) ∧ atI vs (i : Int) = some v ∧ Wv H v (f i) := by
  obtain ⟨vs, h1, h2, h3⟩ := h
  have hv : vs[i]? = some vs[i] := List.getElem?_eq_getElem (by omega)
  exact ⟨vs, vs[i], h1, atI_nat hv, h3 i _ hv⟩
/-- a[i] = z -/
theorem RowAt.put {H H' : Hp} {a : Addr} {n i : Nat} {f : Nat → Wo} {z : V} {w : Wo} {vs : List V} (h : ∀ j v, vs[j]? = some v → Wv H v (f j)) (hl : vs.length = n) (e : SameT H H') (hz : Wv H z w) (ha : H' a = some (.lst (vs.set i z))) :
    RowAt H' a n (fun j => if j = i then w else f j) := by
  refine ⟨_, ha, by rw [List.length_set]; exact hl, fun j v hj => ?_⟩
  show Wv H' v (if j = i then w else f j)
  rw [List.getElem?_set] at hj
  by_cases hij : i = j
  · rw [if_pos hij.symm]
    rw [if_pos hij] at hj
    split at hj
    · cases hj; exact hz.sameT e
    · cases hj
  · rw [if_neg fun z => hij z.symm]
    rw [if_neg hij] at hj
    exact (h j v hj).sameT e
theorem RowAt.congr {H : Hp} {a : Addr} {n : Nat} {f g : Nat → Wo} (h : RowAt H a n f) (e : ∀ i, i < n → f i = g i) : RowAt H a n g := by
  obtain ⟨vs, h1, h2, h3⟩ := h
  refine ⟨vs, h1, h2, fun i v hi => ?_⟩
  have : i < vs.length := (List.getElem?_eq_some_iff.1 hi).1
  rw [← e i (by omega)]; exact h3 i v hi
/-- a row that grows -/
theorem RowAt.snoc {H H' : Hp} {a : Addr} {n : Nat} {f : Nat → Wo} {z : V} {vs : List V} (h : ∀ j v, vs[j]? = some v → Wv H v (f j)) (hl : vs.length = n) (e : SameT H H') (hz : Wv H z (f n)) (ha : H' a = some (.lst (vs ++ [z]))) : RowAt H' a (n + 1) f := by
  refine ⟨_, ha, by rw [List.length_append, hl]; rfl, fun j v hj => ?_⟩
  by_cases hn : j < n
  · rw [List.getElem?_append_left (by omega)] at hj
    exact (h j v hj).sameT e
  · rw [List.getElem?_append_right (by omega)] at hj
    have h0 : j - vs.length = 0 := by
      have := (List.getElem?_eq_some_iff.1 hj).1
      simp at this; omega
    rw [h0] at hj
    cases hj
    have : j = n := by omega
    rw [this]; exact hz.sameT e
/-- by_steps(net, place, other, steps) -/
def spBySteps (A : Ad) (np ns' : Addr) : Sp := fun vs H Q E => ∃ (x : Addr) (k : Kd) (n : Nat) (rs : List Rw) (p q s : Int), vs = [.ref x, .int p, .int q, .int s] ∧ NetAt A H x k n rs ∧ KOk k ∧ n ≤ 8 ∧ rs.length ≤ 64 ∧
  ((0 ≤ p ∧ p < n) → (0 ≤ q ∧ q < n) → (0 ≤ s ∧ s ≤ 40) → (∃ L c d, StepB k rs L c d s.toNat) ∧ ∀ H' z, Same H H' → Wv H' z (byW k rs p.toNat s.toNat q.toNat) → Q z H') ∧
  ((0 ≤ p ∧ p < n) → (0 ≤ q ∧ q < n) → ¬ (0 ≤ s ∧ s ≤ 40) → E (.ref ns') none H) ∧ (¬ ((0 ≤ p ∧ p < n) ∧ (0 ≤ q ∧ q < n)) → E (.ref np) none H)
section
variable {P : Program} {w : World} {K : PySem.W.Frag} {mg : Str → Option Value} {base : Heap} {A : Ad} {f : Addr} {fd : FuncData}
theorem fc_by_steps (T : Tx K mg A) (D : Dfn K mg "by_steps" s_by_steps ["net", "place", "other", "steps"] f fd) : Fc (L2.CX P w) P w K mg base 5 "by_steps" (spBySteps A A.NoPlace A.NoSteps) := by
  have sc : FnScope ["net", "place", "other", "steps", "kind", "row", "step", "fresh", "road", "k"] ["net", "place", "other", "steps"] (defScope s_by_steps) := fsc (by decide +kernel)
  have z := T.x_NoSteps
  refine fcX D sc (fun vs H Q E h => ?_) (fun cdv _ outer s H vs Q E hr h => ?_)
  · obtain ⟨x, k, n, rs, p, q, s, rfl, _⟩ := h; rfl
  · obtain ⟨x, k, n, rs, p, q, st, rfl, hN, hko, hn8, hl64, qq, qs, qp⟩ := h
    refine ⟨_, (pss_cons (ps_expr (pe_m (th_Nask T) hr (by decide) passE (pv 0) (pa_cons (pv 1) pa_nil))) (pss_cons (ps_expr (pe_m (th_Nask T) hr (by decide) passE (pv 0) (pa_cons (pv 2) pa_nil))) (pss_cons (ps_if (pt_not (pt_chain op_le op_le pe_int (pv 3) (C8.pe_gc rfl T.g_MOST_STEPS))) (pss_one (ps_raise rfl (takes_of rfl rfl rfl rfl) (pmk_own PySem.F.excBase_ValueError z.ex z.g z.kp (raises_own z.bs z.ty) rfl))) pss_nil) (pss_cons (ps_set (i := 4) sc.nd rfl (.inr rfl) (pe_m0 (th_Nkind T) hr (by decide) pass0 (pv 0))) (pss_cons (ps_setLc (i := 5) (own := [("k", 9)]) (g := gName 9) (by rfl) sc.nd rfl rfl (sw_true rfl rfl rfl (by decide +kernel)) (tt := tYes) (pi_range1 (by rfl) T.n_range (pa_cons (pe_m0 (th_Nplaces T) hr (by decide) pass0 (pv 0)) pa_nil)) (blkOk_by (N := ["net", "place", "other", "steps", "kind", "row", "step", "fresh", "road", "k"]) (own := [("k", 9)]) (sc := (defScope s_by_steps)) (by decide +kernel)) (fun _ _ _ _ _ => pg_name (i := 9) sc.nd rfl (Or.inl rfl)) (fun _ _ _ _ _ => pts_nil) (fun _ _ _ _ _ => (pe_km0 (ES := fun _ => E0) (all_none T) hr (by decide) passS (pv 4)))) (pss_cons (ps_asg (pe_km0 (ES := fun _ => E0) (all_rest T) hr (by decide) passS (pv 4)) (pg_sub (pv 5) (pv 1) set_list)) (pss_cons (ps_for (passes_of rfl) rfl (pi_range1 (by rfl) T.n_range (pa_cons (pv 3) pa_nil)) (pg_name (i := 6) sc.nd rfl (.inl rfl)) (pss_cons (ps_setLc (i := 7) (own := [("k", 9)]) (g := gName 9) (by rfl) sc.nd rfl rfl (sw_true rfl rfl rfl (by decide +kernel)) (tt := tYes) (pi_range1 (by rfl) T.n_range (pa_cons (pe_m0 (th_Nplaces T) hr (by decide) pass0 (pv 0)) pa_nil)) (blkOk_by (N := ["net", "place", "other", "steps", "kind", "row", "step", "fresh", "road", "k"]) (own := [("k", 9)]) (sc := (defScope s_by_steps)) (by decide +kernel)) (fun _ _ _ _ _ => pg_name (i := 9) sc.nd rfl (Or.inl rfl)) (fun _ _ _ _ _ => pts_nil) (fun _ _ _ _ _ => (pe_km0 (ES := fun _ => E0) (all_none T) hr (by decide) passS (pv 4)))) (pss_cons (ps_for (passes_of rfl) rfl (pi_list (pe_m0 (th_Nroads T) hr (by decide) pass0 (pv 0))) (pg_name (i := 8) sc.nd rfl (.inl rfl)) (pss_one (ps_asg (pe_km (ES := fun _ => E0) (all_tog T) hr (by decide) passS (pv 4) (pa_cons (pe_ix ix_list (pv 7) (pe_ix ix_tup (pv 8) pe_int (fun _ _ => rfl)) (fun _ _ => rfl)) (pa_cons (pe_km (ES := fun _ => E0) (all_beh T) hr (by decide) passS (pv 4) (pa_cons (pe_ix ix_list (pv 5) (pe_ix ix_tup (pv 8) pe_int (fun _ _ => rfl)) (fun _ _ => rfl)) (pa_cons (pe_ix ix_tup (pv 8) pe_int (fun _ _ => rfl)) pa_nil))) pa_nil))) (pg_sub (pv 7) (pe_ix ix_tup (pv 8) pe_int (fun _ _ => rfl)) set_list)))) (pss_one (ps_set (i := 5) sc.nd rfl (.inl rfl) (pv 7)))))) (pss_one (ps_ret (pe_ix ix_list (pv 5) (pv 2) (fun _ _ => rfl))))))))))), ?_⟩
    refine tm_net rfl hN ⟨_, rfl, x, k, n, rs, p, rfl, hN, fun hp => ?_, fun hp => qp fun h => hp h.1⟩
    refine tm_net rfl hN ⟨_, rfl, x, k, n, rs, q, rfl, hN, fun hq => ?_, fun hq => qp fun h => hq h.2⟩
    refine ⟨_, rfl, _, _, rfl, rfl, _, rfl, ?_⟩
    by_cases h0 : 0 ≤ st
    case neg => exact ifF (decide_eq_false h0) ⟨_, rfl, ifT rfl (qs hp hq fun y => h0 y.1)⟩
    refine ifT (decide_eq_true h0) ⟨_, _, rfl, rfl, _, rfl, ?_⟩
    by_cases h1 : st ≤ 40
    case neg => exact ifT (by rw [decide_eq_false h1]; rfl) (qs hp hq fun y => h1 y.2)
    refine ifF (by rw [decide_eq_true h1]; rfl) ?_
    obtain ⟨⟨L, c, d, hB⟩, qq⟩ := qq hp hq ⟨h0, h1⟩
    obtain ⟨p, rfl⟩ := nn p hp.1
    obtain ⟨q, rfl⟩ := nn q hq.1
    obtain ⟨st, rfl⟩ := nn st h0
    simp only [Int.toNat_natCast] at qq hB
    have ok := hN.1
    refine tm_net rfl hN ⟨x, k, n, rs, rfl, hN, fun kx hkx => ?_⟩
    -- a row of none
    refine tm_net rfl hN ⟨x, k, n, rs, rfl, hN, _, rfl, by omega, by omega, fun D hD => lc_range (lo := 0) (n := ((n : Nat) : Int).toNat) (fun i H' => Same H H' ∧ RowAt H' D i fun _ => noneW k) ⟨same_upd hD, [], upd_same, rfl, by simp⟩ ?_ ?_⟩
    · rintro i H' hi ⟨s1, vs, hv1, hv2, hv3⟩
      rw [Int.toNat_natCast] at hi
      refine ⟨rfl, k, hkx.1, _, rfl, kx, rfl, hkx.same s1, kx, k, rfl, hkx.same s1, rfl, fun H2 z s2 hz => ⟨vs, s2 _ _ hv1, sizeLt (by omega), same_at (s1.trans s2) hD, ?_⟩⟩
      exact RowAt.snoc (H := H2) (fun j v hj => (hv3 j v hj).same s2) hv2 (sameT_lst (s2 _ _ hv1)) hz upd_same
    rintro H1 ⟨s1, hrow⟩
    rw [Int.toNat_natCast] at hrow
    -- row[place] = rest
    refine ⟨k, hkx.1, _, rfl, kx, rfl, hkx.same s1, kx, k, rfl, hkx.same s1, rfl, fun H2 z s2 hz => ?_⟩
    obtain ⟨vs, hv1, hv2, hv3⟩ := hrow.same s2
    refine ⟨_, rfl, _, rfl, D, _, _, p, rfl, rfl, hv1, ixN_nat (by omega), ?_⟩
    have row0 : RowAt (upd H2 D (.lst (vs.set p z))) D n (byW k rs p 0) := RowAt.put hv3 hv2 (sameT_lst hv1) hz upd_same
    have t2 : Same H (upd H2 D (.lst (vs.set p z))) := same_at (s1.trans s2) hD
    refine ⟨_, rfl, (st : Int), rfl, by omega, by omega, for_range (lo := 0) (n := (st : Int).toNat) (fun i σ H' => ∃ (r : Addr) (v6 v7 v8 v9 : Option V), σ = [some (.ref x), some (.int p), some (.int q), some (.int st), some (.ref kx), some (.ref r), v6, v7, v8, v9] ∧ Same H H' ∧ H r = none ∧ RowAt H' r n (byW k rs p i))
      ⟨D, none, none, none, none, rfl, t2, hD, row0⟩ ?_ ?_⟩
    · rintro i σ H' hi ⟨r, v6, v7, v8, v9, rfl, t3, hr0, hrow⟩
      rw [Int.toNat_natCast] at hi
      have hN3 := hN.same t3
      have hk3 := hkx.same t3
      have hB1 := hB.le (s' := i + 1) (by omega)
      refine tm_net rfl hN3 ⟨x, k, n, rs, rfl, hN3, _, rfl, by omega, by omega, fun D2 hD2 => lc_range (lo := 0) (n := ((n : Nat) : Int).toNat) (fun i H'' => Same H' H'' ∧ RowAt H'' D2 i fun _ => noneW k) ⟨same_upd hD2, [], upd_same, rfl, by simp⟩ ?_ ?_⟩
      · rintro i H3 hi ⟨s1, vs, hv1, hv2, hv3⟩
        rw [Int.toNat_natCast] at hi
        refine ⟨rfl, k, hkx.1, _, rfl, kx, rfl, hk3.same s1, kx, k, rfl, hk3.same s1, rfl, fun H2 z s2 hz => ⟨vs, s2 _ _ hv1, sizeLt (by omega), same_at (s1.trans s2) hD2, ?_⟩⟩
        exact RowAt.snoc (H := H2) (fun j v hj => (hv3 j v hj).same s2) hv2 (sameT_lst (s2 _ _ hv1)) hz upd_same
      rintro H3 ⟨s3, hfr⟩
      rw [Int.toNat_natCast] at hfr
      refine tm_net rfl (hN3.same s3) ⟨x, k, n, rs, rfl, hN3.same s3, fun la ys hla hR => ?_⟩
      have s4 := same_upd (o := HO.lst ys) hla
      have hL4 : (upd H3 la (.lst ys)) la = some (.lst ys) := upd_same
      have nla : la ≠ D2 := by rintro rfl; obtain ⟨_, e, _⟩ := hfr; rw [e] at hla; cases hla
      have hfr4 := hfr.same s4
      have hR4 := hR.same s4
      have s34 := s3.trans s4
      generalize upd H3 la (.lst ys) = H4 at s4 hL4 hfr4 hR4 s34
      have ylen : ys.length = rs.length := hR.1
      refine ⟨la, rfl, ⟨_, SqL.of hL4⟩, for_list (K := K) (a := la) (xs := ys) (fun j σ H5 => ∃ (v8 v9 : Option V), σ = [some (.ref x), some (.int p), some (.int q), some (.int st), some (.ref kx), some (.ref r), some (.int (0 + i)), some (.ref D2), v8, v9] ∧ Same H' H5 ∧ SameT H4 H5 ∧ H5 la = some (.lst ys) ∧
          RowAt H5 D2 n (fun t => (rs.take j).foldl (stepF k (byW k rs p i) t) (noneW k)))
        ⟨_, _, rfl, s34, fun _ _ h => h, hL4, hfr4⟩ (fun _ _ _ _ ⟨_, _, _, _, _, e, _⟩ => SqL.of e) ?_ ?_⟩
      · rintro j y σ H5 hj ⟨v8, v9, rfl, t5, T5, hL5, hfr5⟩
        obtain ⟨rd, hrd, hR1⟩ := hR4.get hj
        obtain ⟨pp, wv, rfl, hpp, hww⟩ := hR1.sameT T5
        have hmem := List.mem_of_getElem? hrd
        obtain ⟨gr, rs1, rt1⟩ := ok rd hmem
        have hk5 := hk3.same t5
        have hrow5 := hrow.same t5
        obtain ⟨fs, vf, hf1, hf2, hf3⟩ := hfr5.at rt1
        obtain ⟨os, vo, ho1, ho2, ho3⟩ := hrow5.at rs1
        obtain ⟨gm, zm⟩ := mid_ok hko ok hB1 p j rd.t
        have gby := byW_good hko ok p i rd.s
        have fb : Fits k (byW k rs p i rd.s) rd.w := fits_of fun hb => by
          have := byW_sz hko ok (hB1.le (s' := i) (by omega)) hb p rd.s
          have := road_sz ok hB1 hb hmem
          omega
        have mj := mid_ok hko ok hB1 p (j + 1) rd.t
        refine ⟨k, hkx.1, _, rfl, kx, rfl, hk5, _, rfl, _, rfl, pp, _, _, _, rfl, rfl, SqT.of hpp, ix1, D2, _, _, _, rfl, rfl, SqL.of hf1, hf2, k, hkx.1, _, rfl, kx, rfl, hk5, _, rfl, _, rfl, pp, _, _, _, rfl, rfl, SqT.of hpp, ix0, r, _, _, _, rfl, rfl, SqL.of ho1, ho2, _, rfl, pp, _, _, _, rfl, rfl, SqT.of hpp, ix2,
          kx, k, _, _, _, _, rfl, hk5, rfl, ho3, hww, gby, gr, fb, fun H6 z6 s6 hz6 => ?_⟩
        refine ⟨kx, k, _, _, _, _, rfl, hk5.same s6, rfl, hf3.same s6, hz6, gm, good_beh gby gr, fits_of (fun hb => ?_), fun H7 z7 s7 hz7 => ?_⟩
        · have := zm hb
          have := way_sz hko ok hB1 hb p rd.s hmem
          omega
        have s67 := s6.trans s7
        obtain ⟨fs', hf1', hf2', hf3'⟩ := hfr5.same s67
        refine ⟨_, rfl, _, rfl, pp, _, _, _, rfl, rfl, SqT.of (s67 _ _ hpp), ix1, D2, _, _, rd.t, rfl, rfl, hf1', ixN_nat (by omega), ?_⟩
        have sT := sameT_lst (o := .lst (fs'.set rd.t z7)) hf1'
        refine ⟨_, _, rfl, same_at (t5.trans s67) hD2, (T5.trans (same_t s67)).trans sT, by rw [upd_ne nla]; exact s67 _ _ hL5, ?_⟩
        refine (RowAt.put (H := H7) (w := stepF k (byW k rs p i) rd.t ((rs.take j).foldl (stepF k (byW k rs p i) rd.t) (noneW k)) rd) hf3' hf2' sT ?_ upd_same).congr fun t ht => ?_
        · unfold stepF
          rw [if_pos rfl]; exact hz7
        · rw [foldl_snoc _ _ _ _ hrd]
          by_cases e : t = rd.t
          · subst e; rw [if_pos rfl]
          · rw [if_neg e]
            show _ = stepF k (byW k rs p i) t _ rd
            unfold stepF
            rw [if_neg fun z => e z.symm]
      · rintro σ H5 ⟨v8, v9, rfl, t5, T5, hL5, hfr5⟩
        rw [ylen, List.take_length] at hfr5
        exact ⟨_, rfl, D2, _, _, _, _, rfl, t3.trans t5, t3.free hD2, hfr5⟩
    · rintro σ H' ⟨r, v6, v7, v8, v9, rfl, t3, hr0, hrow⟩
      rw [Int.toNat_natCast] at hrow
      obtain ⟨os, vo, ho1, ho2, ho3⟩ := hrow.at (i := q) (by omega)
      exact ⟨_, rfl, _, rfl, r, _, _, _, rfl, rfl, SqL.of ho1, ho2, qq H' _ t3 ho3⟩
end
/-! ### W8: tables -/
/-- the list a of n rows, no row twice, the i-th row F i -/
def MatAt (H : Hp) (a : Addr) (n : Nat) (F : Nat → Nat → Wo) : Prop := ∃ rv : List Addr, H a = some (.lst (rv.map V.ref)) ∧ rv.length = n ∧ rv.Nodup ∧ a ∉ rv ∧ ∀ i r, rv[i]? = some r → RowAt H r n (F i)
theorem MatAt.same {H H' : Hp} {a : Addr} {n : Nat} {F : Nat → Nat → Wo} (h : MatAt H a n F) (e : Same H H') : MatAt H' a n F := by
  obtain ⟨rv, h1, h2, h3, h4, h5⟩ := h; exact ⟨rv, e _ _ h1, h2, h3, h4, fun i r hi => (h5 i r hi).same e⟩
theorem RowAt.upd {H : Hp} {r l : Addr} {n : Nat} {f : Nat → Wo} {xs : List V} {o : HO} (h : RowAt H r n f) (ne : r ≠ l) (hl : H l = some (.lst xs)) : RowAt (upd H l o) r n f := by
  obtain ⟨vs, h1, h2, h3⟩ := h
  exact ⟨vs, by rw [upd_ne ne]; exact h1, h2, fun i v hi => (h3 i v hi).sameT (sameT_lst hl)⟩
theorem RowAt.some {H : Hp} {r : Addr} {n : Nat} {f : Nat → Wo} (h : RowAt H r n f) : H r ≠ none := by
  obtain ⟨vs, h1, _⟩ := h; rw [h1]; exact fun z => nomatch z
/-- the rows made so far: all new since H0 -/
def MatN (H0 H : Hp) (a : Addr) (m n : Nat) (F : Nat → Nat → Wo) (rv : List Addr) : Prop := H a = some (.lst (rv.map V.ref)) ∧ rv.length = m ∧ rv.Nodup ∧ a ∉ rv ∧ (∀ r ∈ rv, H0 r = none) ∧ ∀ i r, rv[i]? = some r → RowAt H r n (F i)
theorem MatN.same {H0 H H' : Hp} {a : Addr} {m n : Nat} {F : Nat → Nat → Wo} {rv : List Addr} (h : MatN H0 H a m n F rv) (e : Same H H') : MatN H0 H' a m n F rv := by
  obtain ⟨h1, h2, h3, h4, h5, h6⟩ := h; exact ⟨e _ _ h1, h2, h3, h4, h5, fun i r hi => (h6 i r hi).same e⟩
theorem MatN.mat {H0 H : Hp} {a : Addr} {n : Nat} {F : Nat → Nat → Wo} {rv : List Addr} (h : MatN H0 H a n n F rv) : MatAt H a n F := ⟨rv, h.1, h.2.1, h.2.2.1, h.2.2.2.1, h.2.2.2.2.2⟩
/-- one row more -/
theorem MatN.snoc {H0 H : Hp} {a r : Addr} {m n : Nat} {F : Nat → Nat → Wo} {rv : List Addr} (h : MatN H0 H a m n F rv) (hr : RowAt H r n (F m)) (h0 : H0 r = none) (hn : r ∉ rv) (ha : r ≠ a) : MatN H0 (upd H a (.lst (rv.map V.ref ++ [V.ref r]))) a (m + 1) n F (rv ++ [r]) := by
  obtain ⟨h1, h2, h3, h4, h5, h6⟩ := h
  refine ⟨by rw [upd_same, List.map_append]; rfl, by rw [List.length_append, h2]; rfl, ?_, ?_, ?_, ?_⟩
  · rw [List.nodup_append]
    exact ⟨h3, by simp, fun x hx y hy => by rw [List.mem_singleton] at hy; subst hy; rintro rfl; exact hn hx⟩
  · intro z
    rcases List.mem_append.1 z with z | z
    · exact h4 z
    · rw [List.mem_singleton] at z; exact ha z.symm
  · intro x hx
    rcases List.mem_append.1 hx with z | z
    · exact h5 x z
    · rw [List.mem_singleton] at z; subst z; exact h0
  · intro i x hi
    by_cases hm : i < rv.length
    · rw [List.getElem?_append_left hm] at hi
      refine (h6 i x hi).upd ?_ h1
      rintro rfl; exact h4 (List.mem_of_getElem? hi)
    · rw [List.getElem?_append_right (by omega)] at hi
      have e0 : i - rv.length = 0 := by
        have := (List.getElem?_eq_some_iff.1 hi).1
        simp at this; omega
      rw [e0] at hi
      cases hi
      have e : i = m := by omega
      subst e
      exact hr.upd ha h1
/-- one worth of it is written -/
theorem MatN.put {H0 H : Hp} {a r : Addr} {n i j : Nat} {F : Nat → Nat → Wo} {rv : List Addr} {vs : List V} {z : V} {w : Wo} (h : MatN H0 H a n n F rv) (hi : rv[i]? = some r) (hvs : H r = some (.lst vs)) (hz : Wv H z w) :
    MatN H0 (upd H r (.lst (vs.set j z))) a n n (fun i' j' => if i' = i ∧ j' = j then w else F i' j') rv := by
  obtain ⟨h1, h2, h3, h4, h5, h6⟩ := h
  have hil : i < rv.length := (List.getElem?_eq_some_iff.1 hi).1
  refine ⟨by rw [upd_ne (fun e => h4 (by rw [e]; exact List.mem_of_getElem? hi))]; exact h1, h2, h3, h4, h5, fun i' r' hi' => ?_⟩
  by_cases e : i' = i
  · subst e
    rw [hi] at hi'
    cases hi'
    obtain ⟨vs', e1, e2, e3⟩ := h6 _ _ hi
    rw [hvs] at e1
    cases e1
    refine (RowAt.put e3 e2 (sameT_lst hvs) hz upd_same).congr fun t ht => ?_
    show _ = (if i' = i' ∧ t = j then w else F i' t)
    by_cases et : t = j
    · rw [if_pos et, if_pos ⟨rfl, et⟩]
    · rw [if_neg et, if_neg fun z => et z.2]
  · have ne : r' ≠ r := by
      rintro rfl
      exact e ((List.getElem?_inj hil h3).1 (hi.trans hi'.symm)).symm
    refine ((h6 i' r' hi').upd ne hvs).congr fun t ht => ?_
    show _ = (if i' = i ∧ t = j then w else F i' t)
    rw [if_neg fun z => e z.1]
theorem MatN.congr {H0 H : Hp} {a : Addr} {m n : Nat} {F G : Nat → Nat → Wo} {rv : List Addr} (h : MatN H0 H a m n F rv) (e : ∀ i j, i < m → j < n → F i j = G i j) : MatN H0 H a m n G rv := by
  obtain ⟨h1, h2, h3, h4, h5, h6⟩ := h
  refine ⟨h1, h2, h3, h4, h5, fun i r hi => (h6 i r hi).congr fun j hj => e i j ?_ hj⟩
  have := (List.getElem?_eq_some_iff.1 hi).1
  omega
/-- reading it -/
theorem MatN.at {H0 H : Hp} {a : Addr} {n i j : Nat} {F : Nat → Nat → Wo} {rv : List Addr} (h : MatN H0 H a n n F rv) (hi : i < n) (hj : j < n) : ∃ r vs v, rv[i]? = some r ∧ H a = some (.lst (rv.map V.ref)) ∧ atI (rv.map V.ref) (i : Int) = some (.ref r) ∧ H r = some (.lst vs) ∧ atI vs (j : Int) = some v ∧ Wv H v (F i j) := by
  obtain ⟨h1, h2, h3, h4, h5, h6⟩ := h
  have hv : rv[i]? = some rv[i] := List.getElem?_eq_getElem (by omega)
  obtain ⟨vs, v, e1, e2, e3⟩ := (h6 i _ hv).at hj
  exact ⟨rv[i], vs, v, hv, h1, atI_nat (by rw [List.getElem?_map, hv]; rfl), e1, e2, e3⟩
theorem MatN.base {H0 H1 H : Hp} {a : Addr} {m n : Nat} {F : Nat → Nat → Wo} {rv : List Addr} (h : MatN H1 H a m n F rv) (s : Same H0 H1) : MatN H0 H a m n F rv :=
  ⟨h.1, h.2.1, h.2.2.1, h.2.2.2.1, fun r hr => s.free (h.2.2.2.2.1 r hr), h.2.2.2.2.2⟩
def spThrough (A : Ad) (nos : Addr) : Sp := fun vs H Q E => ∃ (kx a : Addr) (k : Kd) (n : Nat) (F : Nat → Nat → Wo) (p : Nat), vs = [.ref kx, .ref a, .int p] ∧ KindAt A H kx k ∧ MatAt H a n F ∧ p < n ∧ n ≤ 8 ∧ ThrOk k n F p ∧
  (∀ st, rnd k (F p p) = some st → ∀ H' b rv, Same H H' → H b = none → MatN H H' b n n (thrW k F p st) rv → Q (.ref b) H') ∧ (rnd k (F p p) = none → E (.ref nos) none H)
def spStraight (A : Ad) : Sp := fun vs H Q _ => ∃ (x : Addr) (k : Kd) (n : Nat) (rs : List Rw), vs = [.ref x] ∧ NetAt A H x k n rs ∧ KOk k ∧ n ≤ 8 ∧ rs.length ≤ 64 ∧
  (∀ m i j r, rs[m]? = some r → Good k ((rs.take m).foldl (strF k i j) (noneW k)) ∧ Fits k ((rs.take m).foldl (strF k i j) (noneW k)) r.w) ∧ ∀ H' a rv, Same H H' → H a = none → MatN H H' a n n (strW k rs) rv → Q (.ref a) H'
section
variable {P : Program} {w : World} {K : PySem.W.Frag} {mg : Str → Option Value} {base : Heap} {A : Ad} {f : Addr} {fd : FuncData}
abbrev scRow : Scope := relS { kind := .function, names := [(".0", .local), ("j", .local), ("range", .globalImplicit), ("kind", .free), ("many", .free)], isGenerator := false, isCoroutine := false } (defScope s_straight)
theorem fc_straight (T : Tx K mg A) (D : Dfn K mg "straight" s_straight ["net"] f fd) : Fc CX0 P w K mg base 5 "straight" (spStraight A) := by
  have sc : FnScope ["net", "kind", "many", "rows", "road", "j", "k"] ["net"] (defScope s_straight) := fsc (by decide +kernel)
  refine fc0 D sc (fun vs H Q E h => ?_) (fun cdv _ outer s H vs Q E hr h => ?_)
  · obtain ⟨x, k, n, rs, rfl, _⟩ := h; rfl
  · obtain ⟨x, k, n, rs, rfl, hN, hko, hn8, hl64, hf, q⟩ := h
    refine ⟨_, (pss_cons (ps_set (i := 1) sc.nd rfl (.inr rfl) (pe_m0 (th_Nkind T) hr (by decide) pass0 (pv 0))) (pss_cons (ps_set (i := 2) sc.nd rfl (.inr rfl) (pe_m0 (th_Nplaces T) hr (by decide) pass0 (pv 0))) (pss_cons (ps_setLc (i := 3) (own := [("j", 5)]) (g := gName 5) (by rfl) sc.nd rfl rfl (sw_true rfl rfl rfl (by decide +kernel)) (tt := tYes) (pi_range1 (by rfl) T.n_range (pa_cons (pv 2) pa_nil)) (blkOk_by (N := ["net", "kind", "many", "rows", "road", "j", "k"]) (own := [("j", 5)]) (sc := (defScope s_straight)) (by decide +kernel)) (fun _ _ _ _ _ => pg_name (i := 5) sc.nd rfl (Or.inl rfl)) (fun _ _ _ _ _ => pts_nil)
        (fun _ _ _ _ _ => (pe_lc (own := [("k", 6)]) (g := gName 6) (by rfl) sc.nd (tt := tYes) (pi_range1 (by rfl) T.n_range (pa_cons (pv 2) pa_nil)) (blkOk_by (N := ["net", "kind", "many", "rows", "road", "j", "k"]) (own := [("k", 6)]) (sc := scRow) (by decide +kernel)) (fun _ _ _ _ _ => pg_name (i := 6) sc.nd rfl (Or.inl rfl)) (fun _ _ _ _ _ => pts_nil) (fun _ _ _ _ _ => (pe_km0 (ES := fun _ => E0) (all_none T) hr (by decide) passS (pv 1)))))) (pss_cons (ps_for PassesOwn.never rfl (pi_list (pe_m0 (th_Nroads T) hr (by decide) pass0 (pv 0))) (pg_name (i := 4) sc.nd rfl (.inl rfl)) (pss_one (ps_asg (pe_km (ES := fun _ => E0) (all_tog T) hr (by decide) passS (pv 1) (pa_cons (pe_ix ix_list (pe_ix ix_list (pv 3) (pe_ix ix_tup (pv 4) pe_int (fun _ _ => rfl)) (fun _ _ => rfl)) (pe_ix ix_tup (pv 4) pe_int (fun _ _ => rfl)) (fun _ _ => rfl)) (pa_cons (pe_ix ix_tup (pv 4) pe_int (fun _ _ => rfl)) pa_nil))) (pg_sub (pe_ix ix_list (pv 3) (pe_ix ix_tup (pv 4) pe_int (fun _ _ => rfl)) (fun _ _ => rfl)) (pe_ix ix_tup (pv 4) pe_int (fun _ _ => rfl)) set_list)))) (pss_one (ps_ret (pv 3))))))), ?_⟩
    have ok := hN.1
    refine tm_net rfl hN ⟨x, k, n, rs, rfl, hN, fun kx hkx => ?_⟩
    refine tm_net rfl hN ⟨x, k, n, rs, rfl, hN, ?_⟩
    refine ⟨_, rfl, (n : Int), rfl, by omega, by omega, fun D hD => lc_range (lo := 0) (n := ((n : Nat) : Int).toNat) (fun i H' => Same H H' ∧ ∃ rv, MatN H H' D i n (fun _ _ => noneW k) rv) ⟨same_upd hD, [], upd_same, rfl, List.nodup_nil, by simp, by simp, by simp⟩ ?_ ?_⟩
    · rintro i H1 hi ⟨s1, rv, hM⟩
      rw [Int.toNat_natCast] at hi
      refine ⟨rfl, _, rfl, (n : Int), rfl, by omega, by omega, fun D2 hD2 => lc_range (lo := 0) (n := ((n : Nat) : Int).toNat) (fun i' H2 => Same H1 H2 ∧ RowAt H2 D2 i' fun _ => noneW k) ⟨same_upd hD2, [], upd_same, rfl, by simp⟩ ?_ ?_⟩
      · rintro i' H2 hi' ⟨s2, vs, hv1, hv2, hv3⟩
        rw [Int.toNat_natCast] at hi'
        have hk2 := hkx.same (s1.trans s2)
        refine ⟨rfl, k, hkx.1, _, rfl, kx, rfl, hk2, kx, k, rfl, hk2, rfl, fun H3 z s3 hz => ⟨vs, s3 _ _ hv1, sizeLt (by omega), same_at (s2.trans s3) hD2, ?_⟩⟩
        exact RowAt.snoc (H := H3) (fun j v hj => (hv3 j v hj).same s3) hv2 (sameT_lst (s3 _ _ hv1)) hz upd_same
      rintro H2 ⟨s2, hrow⟩
      rw [Int.toNat_natCast] at hrow
      have hM2 := hM.same s2
      have hDr : D2 ∉ rv := fun z => by
        obtain ⟨i0, hi0⟩ := List.getElem?_of_mem z
        exact (hM.2.2.2.2.2 i0 D2 hi0).some hD2
      have hDD : D2 ≠ D := by rintro rfl; rw [hM.1] at hD2; cases hD2
      refine ⟨_, hM2.1, sizeLt (by rw [List.length_map, hM.2.1]; omega), same_at (s1.trans s2) hD, rv ++ [D2], hM2.snoc hrow (s1.free hD2) hDr hDD⟩
    rintro H1 ⟨s1, rv, hM⟩
    rw [Int.toNat_natCast] at hM
    refine tm_net rfl (hN.same s1) ⟨x, k, n, rs, rfl, hN.same s1, fun la ys hla hR => ?_⟩
    have s2 := same_upd (o := HO.lst ys) hla
    have hL2 : (upd H1 la (.lst ys)) la = some (.lst ys) := upd_same
    have nla : la ∉ rv := fun z => by
      obtain ⟨i0, hi0⟩ := List.getElem?_of_mem z
      exact (hM.2.2.2.2.2 i0 la hi0).some hla
    have hM2 := hM.same s2
    have hR2 := hR.same s2
    have s12 := s1.trans s2
    generalize upd H1 la (.lst ys) = H2 at s2 hL2 hM2 hR2 s12
    have ylen : ys.length = rs.length := hR.1
    refine ⟨la, rfl, ⟨_, SqL.of hL2⟩, for_list (K := K) (a := la) (xs := ys) (fun j σ H5 => ∃ (v4 v5 v6 : Option V), σ = [some (.ref x), some (.ref kx), some (.int n), some (.ref D), v4, v5, v6] ∧ Same H H5 ∧ SameT H2 H5 ∧ H5 la = some (.lst ys) ∧ MatN H H5 D n n (fun i t => (rs.take j).foldl (strF k i t) (noneW k)) rv)
      ⟨_, _, _, rfl, s12, fun _ _ h => h, hL2, hM2⟩ (fun _ _ _ _ ⟨_, _, _, _, _, _, e, _⟩ => SqL.of e) ?_ ?_⟩
    · rintro j y σ H5 hj ⟨v4, v5, v6, rfl, t5, T5, hL5, hM5⟩
      obtain ⟨rd, hrd, hR1⟩ := hR2.get hj
      obtain ⟨pp, wv, rfl, hpp, hww⟩ := hR1.sameT T5
      obtain ⟨gr, rs1, rt1⟩ := ok rd (List.mem_of_getElem? hrd)
      have hk5 := hkx.same t5
      obtain ⟨r, vs, v, hri, hD5, hat1, hr5, hat2, hv5⟩ := hM5.at rs1 rt1
      obtain ⟨gm, fm⟩ := hf j rd.s rd.t rd hrd
      refine ⟨k, hkx.1, _, rfl, kx, rfl, hk5, _, rfl, _, rfl, pp, _, _, _, rfl, rfl, SqT.of hpp, ix0, D, _, _, _, rfl, rfl, SqL.of hD5, hat1, _, rfl, pp, _, _, _, rfl, rfl, SqT.of hpp, ix1, r, _, _, _, rfl, rfl, SqL.of hr5, hat2, _, rfl, pp, _, _, _, rfl, rfl, SqT.of hpp, ix2,
        kx, k, _, _, _, _, rfl, hk5, rfl, hv5, hww, gm, gr, fm, fun H6 z6 s6 hz6 => ?_⟩
      have hM6 := hM5.same s6
      have hpp6 := s6 _ _ hpp
      have hr6 := s6 _ _ hr5
      refine ⟨_, rfl, _, rfl, pp, _, _, _, rfl, rfl, SqT.of hpp6, ix0, D, _, _, _, rfl, rfl, SqL.of (s6 _ _ hD5), hat1, _, rfl, pp, _, _, _, rfl, rfl, SqT.of hpp6, ix1, r, _, _, rd.t, rfl, rfl, hr6, ixN_nat ?_, ?_⟩
      · obtain ⟨vs', e1, e2, _⟩ := hM6.2.2.2.2.2 rd.s r hri
        rw [hr6] at e1
        cases e1
        omega
      have nlr : la ≠ r := by rintro rfl; exact nla (List.mem_of_getElem? hri)
      refine ⟨_, _, _, rfl, same_at (t5.trans s6) (hM5.2.2.2.2.1 r (List.mem_of_getElem? hri)), (T5.trans (same_t s6)).trans (sameT_lst hr6), by rw [upd_ne nlr]; exact s6 _ _ hL5, ?_⟩
      refine (hM6.put hri hr6 hz6).congr fun i t _ _ => ?_
      rw [foldl_snoc _ _ _ _ hrd]
      show _ = strF k i t _ rd
      unfold strF
      by_cases e : i = rd.s ∧ t = rd.t
      · rw [if_pos e, if_pos ⟨e.1.symm, e.2.symm⟩, e.1, e.2]
      · rw [if_neg e, if_neg fun z => e ⟨z.1.symm, z.2.symm⟩]
    · rintro σ H5 ⟨v4, v5, v6, rfl, t5, T5, hL5, hM5⟩
      rw [ylen, List.take_length] at hM5
      exact ⟨_, rfl, q H5 D rv t5 hD hM5⟩
theorem fc_through (T : Tx K mg A) (D : Dfn K mg "through" s_through ["kind", "rows", "place"] f fd) : Fc (L2.CX P w) P w K mg base 5 "through" (spThrough A A.NoSum) := by
  have sc : FnScope ["kind", "rows", "place", "ring", "found", "row", "lead", "k"] ["kind", "rows", "place"] (defScope s_through) := fsc (by decide +kernel)
  refine fcX D sc (fun vs H Q E h => ?_) (fun cdv _ outer s H vs Q E hr h => ?_)
  · obtain ⟨kx, a, k, n, F, p, rfl, _⟩ := h; rfl
  · obtain ⟨kx, a, k, n, F, p, rfl, hkx, hM, hp, hn8, ⟨hg, hf1, hf⟩, q, qn⟩ := h
    refine ⟨_, (pss_cons (ps_set (i := 3) sc.nd rfl (.inl rfl) (pe_km (ES := fun _ => E) (all_rnd T) hr (by decide) (fun σ => passEAt σ) (pv 0) (pa_cons (pe_ix ix_list (pe_ix ix_list (pv 1) (pv 2) (fun _ _ => rfl)) (pv 2) (fun _ _ => rfl)) pa_nil))) (pss_cons (ps_set (i := 4) sc.nd rfl (.inl rfl) (pe_lst pa_nil)) (pss_cons (ps_for (passes_of rfl) rfl (pi_list (pv 1)) (pg_name (i := 5) sc.nd rfl (.inr rfl)) (pss_cons (ps_set (i := 6) sc.nd rfl (.inr rfl) (pe_km (ES := fun _ => E0) (all_beh T) hr (by decide) passS (pv 0) (pa_cons (pe_ix ix_list (pv 5) (pv 2) (fun _ _ => rfl)) (pa_cons (pv 3) pa_nil)))) (pss_one (ps_expr (pe_bm PySem.F.plainAttrs_list PySem.F.slot_list_append PySem.F.type_list_append mt_append (pv 4) (pa_cons (pe_lc (own := [("k", 7)]) (g := gName 7) (by rfl) sc.nd (tt := tYes) (te := tKM A (fun i => spK2 A i tog) (fun _ => E0) (tVar 0) (tCons (tOp (rIxL K) (tVar 5) (tVar 7)) (tCons (tKM A (fun i => spK2 A i beh) (fun _ => E0) (tVar 0) (tCons (tVar 6) (tCons (tOp (rIxL K) (tOp (rIxL K) (tVar 1) (tVar 2)) (tVar 7)) tNil))) tNil))) (pi_range1 (by rfl) T.n_range (pa_cons (pe_callB call_len_seq (by rfl) T.n_len PySem.boot_len (pa_cons (pv 5) pa_nil)) pa_nil)) (blkOk_by (N := ["kind", "rows", "place", "ring", "found", "row", "lead", "k"]) (own := [("k", 7)]) (sc := (defScope s_through)) (by decide +kernel)) (fun _ _ _ _ _ => pg_name (i := 7) sc.nd rfl (Or.inl rfl)) (fun _ _ _ _ _ => pts_nil) (fun _ _ _ _ _ => (pe_km (ES := fun _ => E0) (all_tog T) hr (by decide) passS (pv 0) (pa_cons (pe_ix ix_list (pv 5) (pv 7) (fun _ _ => rfl)) (pa_cons (pe_km (ES := fun _ => E0) (all_beh T) hr (by decide) passS (pv 0) (pa_cons (pv 6) (pa_cons (pe_ix ix_list (pe_ix ix_list (pv 1) (pv 2) (fun _ _ => rfl)) (pv 7) (fun _ _ => rfl)) pa_nil))) pa_nil))))) pa_nil)))))) (pss_one (ps_ret (pv 4)))))), ?_⟩
    obtain ⟨rv, h1, h2, h3, h4, h5⟩ := id hM
    have rd : ∀ i j, i < n → j < n → ∃ r vs v, rv[i]? = some r ∧ atI (rv.map V.ref) (i : Int) = some (.ref r) ∧ H r = some (.lst vs) ∧ vs.length = n ∧ atI vs (j : Int) = some v ∧ Wv H v (F i j) := fun i j hi hj => by
      have hv : rv[i]? = some rv[i] := List.getElem?_eq_getElem (by omega)
      obtain ⟨vs, e1, e2, e3⟩ := h5 i _ hv
      have hw : vs[j]? = some vs[j] := List.getElem?_eq_getElem (by omega)
      exact ⟨rv[i], vs, vs[j], hv, atI_nat (by rw [List.getElem?_map, hv]; rfl), e1, e2, atI_nat hw, e3 j _ hw⟩
    obtain ⟨r0, vs0, v0, e0, a0, b0, l0, c0, d0⟩ := rd p p hp hp
    refine ⟨k, hkx.1, _, rfl, kx, rfl, hkx, _, rfl, _, rfl, a, _, _, _, rfl, rfl, SqL.of h1, a0, _, rfl, r0, _, _, _, rfl, rfl, SqL.of b0, c0, kx, k, v0, F p p, rfl, hkx, rfl, d0, hg p p hp hp, hf1, fun st hst H1 z s1 hz => ?_, fun hn => qn hn⟩
    have gst := good_rnd hkx.2.1 (hg p p hp hp) hst
    refine ⟨(by show 0 ≤ sizeLine; exact Nat.zero_le _), fun D hD => ?_⟩
    have hD0 := s1.free hD
    have sD := same_upd (o := HO.lst []) hD
    refine ⟨_, rfl, a, rfl, ⟨_, SqL.of (sD _ _ (s1 _ _ h1))⟩, for_list (K := K) (a := a) (xs := rv.map V.ref) (fun i σ H' => ∃ (v5 v6 v7 : Option V) (fv : List Addr), σ = [some (.ref kx), some (.ref a), some (.int p), some z, some (.ref D), v5, v6, v7] ∧ Same H H' ∧ Wv H' z st ∧ MatN H H' D i n (thrW k F p st) fv)
      ⟨_, _, _, [], rfl, s1.trans sD, hz.same sD, upd_same, rfl, List.nodup_nil, by simp, by simp, by simp⟩ (fun _ _ _ _ ⟨_, _, _, _, _, e, _⟩ => SqL.of (e _ _ h1)) ?_ ?_⟩
    · rintro i y σ H' hi ⟨v5, v6, v7, fv, rfl, s2, hz2, hN⟩
      rw [List.getElem?_map] at hi
      obtain ⟨r, hri, rfl⟩ := Option.map_eq_some_iff.1 hi
      have hin : i < n := by have := (List.getElem?_eq_some_iff.1 hri).1; omega
      obtain ⟨r', vs, v, e1, a1, b1, l1, c1, d1⟩ := rd i p hin hp
      rw [hri] at e1
      cases e1
      have hk2 := hkx.same s2
      obtain ⟨f1, f2, f3⟩ := hf st hst i p hin hp
      refine ⟨k, hkx.1, _, rfl, kx, rfl, hk2, _, rfl, _, rfl, r, _, _, _, rfl, rfl, SqL.of (s2 _ _ b1), c1, _, rfl, kx, k, _, _, F i p, st, rfl, hk2, rfl, d1.same s2, hz2, hg i p hin hp, gst, f1, fun H3 z3 s3 hz3 => ?_⟩
      have s23 := s2.trans s3
      have gl := good_beh (hg i p hin hp) gst
      refine ⟨_, rfl, .inl ⟨rfl, _, SqL.of (s3 _ _ hN.1)⟩, _, rfl, r, vs, rfl, .inl (SqL.of (s23 _ _ b1)), _, rfl, by omega, by omega, fun D2 hD2 => lc_range (lo := 0) (n := ((vs.length : Nat) : Int).toNat) (fun i' H4 => Same H3 H4 ∧ RowAt H4 D2 i' (thrW k F p st i)) ⟨same_upd hD2, [], upd_same, rfl, by simp⟩ ?_ ?_⟩
      · rintro j H4 hj ⟨s4, us, hu1, hu2, hu3⟩
        rw [Int.toNat_natCast, l1] at hj
        have s24 := s23.trans s4
        have hk4 := hkx.same s24
        obtain ⟨_, f2, f3⟩ := hf st hst i j hin hj
        obtain ⟨r2, vs2, v2, e2, a2, b2, l2, c2, d2⟩ := rd i j hin hj
        rw [hri] at e2
        cases e2
        rw [b1] at b2
        cases b2
        obtain ⟨rp, vsp, vp, e3, a3, b3, l3, c3, d3⟩ := rd p j hp hj
        have z0 : (0 : Int) + (j : Int) = (j : Int) := Int.zero_add _
        refine ⟨rfl, k, hkx.1, _, rfl, kx, rfl, hk4, _, rfl, _, rfl, r, _, _, _, rfl, rfl, SqL.of (s24 _ _ b1), (by rw [z0]; exact c2), k, hkx.1, _, rfl, kx, rfl, hk4, _, rfl, _, rfl, _, rfl, a, _, _, _, rfl, rfl, SqL.of (s24 _ _ h1), a3, _, rfl, rp, _, _, _, rfl, rfl, SqL.of (s24 _ _ b3), (by rw [z0]; exact c3),
          kx, k, _, _, beh k (F i p) st, F p j, rfl, hk4, rfl, hz3.same s4, d3.same s24, gl, hg p j hp hj, f2, fun H5 z5 s5 hz5 => ?_⟩
        refine ⟨kx, k, _, _, F i j, _, rfl, hk4.same s5, rfl, d2.same (s24.trans s5), hz5, hg i j hin hj, good_beh gl (hg p j hp hj), f3, fun H6 z6 s6 hz6 => ?_⟩
        have s56 := s5.trans s6
        refine ⟨us, s56 _ _ hu1, sizeLt (by omega), same_at (s4.trans s56) hD2, ?_⟩
        refine RowAt.snoc (H := H6) (fun t v hj => (hu3 t v hj).same s56) hu2 (sameT_lst (s56 _ _ hu1)) ?_ upd_same
        exact hz6
      rintro H4 ⟨s4, hrow⟩
      rw [Int.toNat_natCast, l1] at hrow
      have hN4 := (hN.same s3).same s4
      have hDr : D2 ∉ fv := fun zz => by
        obtain ⟨i0, hi0⟩ := List.getElem?_of_mem zz
        exact ((hN.same s3).2.2.2.2.2 i0 D2 hi0).some hD2
      have hDD : D2 ≠ D := by rintro rfl; rw [(hN.same s3).1] at hD2; cases hD2
      refine ⟨D, _, _, rfl, rfl, hN4.1, sizeLt (by rw [List.length_map, hN4.2.1]; omega), ?_⟩
      exact ⟨_, _, _, fv ++ [D2], rfl, same_at (s23.trans s4) hD0, ((hz2.same s3).same s4).sameT (sameT_lst hN4.1), hN4.snoc hrow (s23.free hD2) hDr hDD⟩
    · rintro σ H' ⟨v5, v6, v7, fv, rfl, s2, hz2, hN⟩
      rw [List.length_map, h2] at hN
      exact ⟨_, rfl, q st hst H' D fv s2 hD0 hN⟩
end
/-! ### W9: the whole table; a sum asked alone -/
def spTable (A : Ad) (nos : Addr) : Sp := fun vs H Q E => ∃ (x : Addr) (k : Kd) (n : Nat) (rs : List Rw), vs = [.ref x] ∧ NetAt A H x k n rs ∧ KOk k ∧ n ≤ 8 ∧ rs.length ≤ 64 ∧ TabOk k n rs ∧
  (∀ F, elimW k (strW k rs) n = some F → ∀ H' a rv, Same H H' → H a = none → MatN H H' a n n (tabW k F) rv → Q (.ref a) H') ∧ (elimW k (strW k rs) n = none → ∀ H', Same H H' → E (.ref nos) none H')
/-- total(net, place, other) -/
def spTotal (A : Ad) (np nos : Addr) : Sp := fun vs H Q E => ∃ (x : Addr) (k : Kd) (n : Nat) (rs : List Rw) (p q : Int), vs = [.ref x, .int p, .int q] ∧ NetAt A H x k n rs ∧ KOk k ∧ n ≤ 8 ∧ rs.length ≤ 64 ∧
  ((0 ≤ p ∧ p < n) → (0 ≤ q ∧ q < n) → TabOk k n rs ∧ (∀ F, elimW k (strW k rs) n = some F → ∀ H' z, Same H H' → Wv H' z (tabW k F p.toNat q.toNat) → Q z H') ∧ (elimW k (strW k rs) n = none → ∀ H', Same H H' → E (.ref nos) none H')) ∧
  (¬ ((0 ≤ p ∧ p < n) ∧ (0 ≤ q ∧ q < n)) → E (.ref np) none H)
section
variable {P : Program} {w : World} {K : PySem.W.Frag} {mg : Str → Option Value} {base : Heap} {A : Ad} {f : Addr} {fd : FuncData}
theorem fc_table (T : Tx K mg A) (ST : Fc CX0 P w K mg base 5 "straight" (spStraight A)) (TH : Fc (L2.CX P w) P w K mg base 5 "through" (spThrough A A.NoSum)) (D : Dfn K mg "table" s_table ["net"] f fd) : Fc (L2.CX P w) P w K mg base 6 "table" (spTable A A.NoSum) := by
  have sc : FnScope ["net", "kind", "rows", "place"] ["net"] (defScope s_table) := fsc (by decide +kernel)
  refine fcX D sc (fun vs H Q E h => ?_) (fun cdv _ outer s H vs Q E hr h => ?_)
  · obtain ⟨x, k, n, rs, rfl, _⟩ := h; rfl
  · obtain ⟨x, k, n, rs, rfl, hN, hko, hn8, hl64, hT, q, qn⟩ := h
    refine ⟨_, (pss_cons (ps_set (i := 1) sc.nd rfl (.inl rfl) (pe_m0 (th_Nkind T) hr (by decide) pass0 (pv 0))) (pss_cons (ps_set (i := 2) sc.nd rfl (.inl rfl) (pe_f ST hr (by decide) pass0 rfl (pa_cons (pv 0) pa_nil))) (pss_cons (ps_for (passes_of rfl) rfl (pi_range1 (by rfl) T.n_range (pa_cons (pe_m0 (th_Nplaces T) hr (by decide) pass0 (pv 0)) pa_nil)) (pg_name (i := 3) sc.nd rfl (.inl rfl)) (pss_one (ps_set (i := 2) sc.nd rfl (.inl rfl) (pe_f TH hr (by decide) passE rfl (pa_cons (pv 1) (pa_cons (pv 2) (pa_cons (pv 3) pa_nil))))))) (pss_cons (ps_for (passes_of rfl) rfl (pi_range1 (by rfl) T.n_range (pa_cons (pe_m0 (th_Nplaces T) hr (by decide) pass0 (pv 0)) pa_nil)) (pg_name (i := 3) sc.nd rfl (.inl rfl)) (pss_one (ps_asg (pe_km (ES := fun _ => E0) (all_tog T) hr (by decide) passS (pv 1) (pa_cons (pe_km0 (ES := fun _ => E0) (all_rest T) hr (by decide) passS (pv 1)) (pa_cons (pe_ix ix_list (pe_ix ix_list (pv 2) (pv 3) (fun _ _ => rfl)) (pv 3) (fun _ _ => rfl)) pa_nil))) (pg_sub (pe_ix ix_list (pv 2) (pv 3) (fun _ _ => rfl)) (pv 3) set_list)))) (pss_one (ps_ret (pv 2))))))), ?_⟩
    refine tm_net rfl hN ⟨x, k, n, rs, rfl, hN, fun kx hkx => ?_⟩
    refine ⟨_, rfl, x, k, n, rs, rfl, hN, hko, hn8, hl64, hT.str, fun H1 a0 rv0 s1 ha0 hM0 => ?_⟩
    refine tm_net rfl (hN.same s1) ⟨x, k, n, rs, rfl, hN.same s1, _, rfl, by omega, by omega, for_range (lo := 0) (n := ((n : Nat) : Int).toNat) (fun i σ H' => ∃ (a : Addr) (rv : List Addr) (F : Nat → Nat → Wo) (v3 : Option V), σ = [some (.ref x), some (.ref kx), some (.ref a), v3] ∧ Same H H' ∧ H a = none ∧ elimW k (strW k rs) i = some F ∧ MatN H H' a n n F rv)
      ⟨a0, rv0, _, none, rfl, s1, ha0, rfl, hM0⟩ ?_ ?_⟩
    · rintro i σ H' hi ⟨a, rv, F, v3, rfl, s2, ha, hF, hM⟩
      rw [Int.toNat_natCast] at hi
      refine ⟨_, rfl, _, rfl, _, rfl, kx, a, k, n, F, i, congrArg (fun z => [V.ref kx, V.ref a, V.int z]) (Int.zero_add _), hkx.same s2, hM.mat, hi, hn8, hT.thr i F hi hF, fun st hst H2 b rv2 s3 hb hM2 => ?_, fun hn => qn ?_ _ s2⟩
      · refine ⟨b, rv2, _, _, rfl, s2.trans s3, s2.free hb, ?_, hM2.base s2⟩
        show (elimW k (strW k rs) i).bind _ = _
        rw [hF]
        show (rnd k (F i i)).bind _ = _
        rw [hst]; rfl
      · have e : elimW k (strW k rs) (i + 1) = none := by
          show (elimW k (strW k rs) i).bind _ = _
          rw [hF]
          show (rnd k (F i i)).bind _ = _
          rw [hn]; rfl
        have := elimW_none e (n - (i + 1))
        rwa [show i + 1 + (n - (i + 1)) = n by omega] at this
    rintro σ H1 ⟨a, rv, F, v3, rfl, s2, ha, hF, hM⟩
    rw [Int.toNat_natCast] at hF
    refine tm_net rfl (hN.same s2) ⟨x, k, n, rs, rfl, hN.same s2, _, rfl, by omega, by omega, for_range (lo := 0) (n := ((n : Nat) : Int).toNat) (fun i σ H' => ∃ (v3 : Option V), σ = [some (.ref x), some (.ref kx), some (.ref a), v3] ∧ Same H H' ∧ MatN H H' a n n (fun i' j' => if i' = j' ∧ i' < i then tog k (restW k) (F i' j') else F i' j') rv)
      ⟨_, rfl, s2, hM.congr fun i j _ _ => by rw [if_neg (by omega)]⟩ ?_ ?_⟩
    · rintro i σ H' hi ⟨v3, rfl, s3, hM3⟩
      rw [Int.toNat_natCast] at hi
      have hk3 := hkx.same s3
      obtain ⟨g, fr⟩ := hT.fin F hF i i hi hi
      have z0 : (0 : Int) + (i : Int) = (i : Int) := Int.zero_add _
      refine ⟨k, hkx.1, _, rfl, kx, rfl, hk3, k, hkx.1, _, rfl, kx, rfl, hk3, kx, k, rfl, hk3, rfl, fun H4 z4 s4 hz4 => ?_⟩
      obtain ⟨r, vs, v, hri, hD5, hat1, hr5, hat2, hv5⟩ := (hM3.same s4).at hi hi
      rw [if_neg (by omega)] at hv5
      refine ⟨_, rfl, _, rfl, a, _, _, _, rfl, rfl, SqL.of hD5, (by rw [z0]; exact hat1), _, rfl, r, _, _, _, rfl, rfl, SqL.of hr5, (by rw [z0]; exact hat2), kx, k, _, _, restW k, F i i, rfl, hk3.same s4, rfl, hz4, hv5, good_rest hko, g, fr, fun H6 z6 s6 hz6 => ?_⟩
      have hM6 := (hM3.same s4).same s6
      have hr6 := s6 _ _ hr5
      have hix : ixN vs.length ((0 : Int) + (i : Int)) = some i := by
        obtain ⟨vs', e1, e2, _⟩ := hM6.2.2.2.2.2 i r hri
        rw [hr6] at e1
        cases e1
        rw [z0]
        exact ixN_nat (by omega)
      refine ⟨_, rfl, _, rfl, a, _, _, _, rfl, rfl, SqL.of (s6 _ _ hD5), (by rw [z0]; exact hat1), _, rfl, r, _, _, i, rfl, rfl, hr6, hix, ?_⟩
      refine ⟨_, rfl, same_at ((s3.trans s4).trans s6) (hM6.2.2.2.2.1 r (List.mem_of_getElem? hri)), (hM6.put hri hr6 hz6).congr fun i' j' _ _ => ?_⟩
      by_cases e : i' = i ∧ j' = i
      · obtain ⟨rfl, rfl⟩ := e
        rw [if_pos ⟨rfl, rfl⟩, if_pos ⟨rfl, by omega⟩]
      · rw [if_neg e]
        by_cases e2 : i' = j' ∧ i' < i
        · rw [if_pos e2, if_pos ⟨e2.1, by omega⟩]
        · rw [if_neg e2, if_neg (by omega)]
    · rintro σ H' ⟨v3, rfl, s3, hM3⟩
      rw [Int.toNat_natCast] at hM3
      refine ⟨_, rfl, q F hF H' a rv s3 ha (hM3.congr fun i j hi hj => ?_)⟩
      unfold tabW
      by_cases e : i = j
      · rw [if_pos ⟨e, hi⟩, if_pos e]
      · rw [if_neg fun z => e z.1, if_neg e]
theorem fc_total (T : Tx K mg A) (TA : Fc (L2.CX P w) P w K mg base 6 "table" (spTable A A.NoSum)) (D : Dfn K mg "total" s_total ["net", "place", "other"] f fd) : Fc (L2.CX P w) P w K mg base 7 "total" (spTotal A A.NoPlace A.NoSum) := by
  have sc : FnScope ["net", "place", "other"] ["net", "place", "other"] (defScope s_total) := fsc (by decide +kernel)
  refine fcX D sc (fun vs H Q E h => ?_) (fun cdv _ outer s H vs Q E hr h => ?_)
  · obtain ⟨x, k, n, rs, p, q, rfl, _⟩ := h; rfl
  · obtain ⟨x, k, n, rs, p, q, rfl, hN, hko, hn8, hl64, qq, qp⟩ := h
    refine ⟨_, (pss_cons (ps_expr (pe_m (th_Nask T) hr (by decide) passE (pv 0) (pa_cons (pv 1) pa_nil))) (pss_cons (ps_expr (pe_m (th_Nask T) hr (by decide) passE (pv 0) (pa_cons (pv 2) pa_nil))) (pss_one (ps_ret (pe_ix ix_list (pe_ix ix_list (pe_f TA hr (by decide) passE rfl (pa_cons (pv 0) pa_nil)) (pv 1) (fun _ _ => rfl)) (pv 2) (fun _ _ => rfl)))))), ?_⟩
    refine tm_net rfl hN ⟨_, rfl, x, k, n, rs, p, rfl, hN, fun hp => ?_, fun hp => qp fun h => hp h.1⟩
    refine tm_net rfl hN ⟨_, rfl, x, k, n, rs, q, rfl, hN, fun hq => ?_, fun hq => qp fun h => hq h.2⟩
    obtain ⟨hT, qq, qn⟩ := qq hp hq
    obtain ⟨p, rfl⟩ := nn p hp.1
    obtain ⟨q, rfl⟩ := nn q hq.1
    simp only [Int.toNat_natCast] at qq
    refine ⟨_, rfl, x, k, n, rs, rfl, hN, hko, hn8, hl64, hT, fun F hF H1 a rv s1 ha hM => ?_, qn⟩
    obtain ⟨r, vs, v, hri, hD5, hat1, hr5, hat2, hv5⟩ := hM.at (i := p) (j := q) (by omega) (by omega)
    exact ⟨_, rfl, a, _, _, _, rfl, rfl, SqL.of hD5, hat1, _, rfl, r, _, _, _, rfl, rfl, SqL.of hr5, hat2, qq F hF H1 v s1 hv5⟩
end
/-! ### L1: what the laws' own helpers answer -/
theorem size7 : (7 : Nat) ≤ sizeLine := by rw [sizeLine_eq]; decide
theorem passL0 {X : Cx} : ∀ σ : L2.St, PassesAt (L2.CX X.prog X.w) X σ E0 := fun σ pins H s e s' I h => passL pins σ H s e s' I h
/-- _law_cell_at(script, i) -/
def spCell (K : PySem.W.Frag) : Sp := fun vs H Q _ => ∃ (a : Addr) (ns : List Int) (i : Nat), vs = [.ref a, .int i] ∧ SqL K H a (ns.map V.int) ∧ ns.length ≤ 63 ∧ Q (.int (cell ns i)) H
/-- _law_whole(found) -/
def spWhole (K : PySem.W.Frag) : Sp := fun vs H Q _ => ∃ (v : V) (t : String) (b : Bool), vs = [v] ∧ TyX K H v (.type t) ∧ (t = "int" ∧ b = true ∨ t = "NoneType" ∧ b = false ∨ t = "tuple" ∧ b = false ∨ t = "bool" ∧ b = false ∨ t = "list" ∧ b = false) ∧ Q (.bl b) H
/-- _law_kind(which, m) -/
def spKindL (A : Ad) : Sp := fun vs H Q _ => ∃ (k : Kd) (m : Int), vs = [.int (wh k), .int m] ∧ KOk k ∧ Av k.x = true ∧ (∀ m' : Nat, k = .rst m' → m = m') ∧ ∀ H' x, Same H H' → KindAt A H' x k → Q (.ref x) H'
/-- _law_none(which), _law_rest(which) -/
def spLaw0 (g : Kd → Wo) : Sp := fun vs H Q _ => ∃ k : Kd, vs = [.int (wh k)] ∧ ∀ H' z, Same H H' → Wv H' z (g k) → Q z H'
def spTogL : Sp := fun vs H Q _ => ∃ (k : Kd) (u v : V) (a b : Wo), vs = [.int (wh k), u, v] ∧ Wv H u a ∧ Wv H v b ∧ Good k a ∧ Good k b ∧ Fits k a b ∧ ∀ H' z, Same H H' → Wv H' z (tog k a b) → Q z H'
def spBehL : Sp := fun vs H Q _ => ∃ (k : Kd) (m : Int) (u v : V) (a b : Wo), vs = [.int (wh k), .int m, u, v] ∧ KOk k ∧ (∀ m' : Nat, k = .rst m' → m = m') ∧ Wv H u a ∧ Wv H v b ∧ Good k a ∧ Good k b ∧ Fits k a b ∧ ∀ H' z, Same H H' → Wv H' z (beh k a b) → Q z H'
def spWorthL : Sp := fun vs H Q _ => ∃ (k : Kd) (m c : Int), vs = [.int (wh k), .int m, .int c] ∧ KOk k ∧ (∀ m' : Nat, k = .rst m' → m = m') ∧ ∀ H' z, Same H H' → Wv H' z (lawW k c) → Q z H'
def spIsL : Sp := fun vs H Q _ => ∃ (u v : V) (a b : Wo), vs = [u, v] ∧ Wv H u a ∧ Wv H v b ∧ Q (.bl (decide (a = b))) H
def spRndL : Sp := fun vs H Q _ => ∃ (k : Kd) (m : Int) (u : V) (a : Wo), vs = [.int (wh k), .int m, u] ∧ KOk k ∧ (∀ m' : Nat, k = .rst m' → m = m') ∧ Wv H u a ∧ Good k a ∧ Fit1 k a ∧ ∀ H' z, Same H H' → Wv H' z ((rnd k a).getD .non) → Q z H'
theorem kd_dec {i j : Int} : decide (V.int i = V.int j) = decide (i = j) := by rw [decide_eq_decide, V.int.injEq]
/-- the type of a worth's value -/
theorem wv_ty {K : PySem.W.Frag} {H : Hp} {v : V} {a : Wo} (h : Wv H v a) : ∃ t : String, TyX K H v (.type t) ∧ (a = .non ∧ t = "NoneType" ∨ (∃ i, a = .int i) ∧ t = "int" ∨ (∃ r, a = .rat r) ∧ t = "tuple") := by
  cases a with
  | non => cases h; exact ⟨_, .base .non, .inl ⟨rfl, rfl⟩⟩
  | int i => cases h; exact ⟨_, .base (.int i), .inr (.inl ⟨⟨i, rfl⟩, rfl⟩)⟩
  | rat r => obtain ⟨t, rfl, ht⟩ := h; exact ⟨_, .base (.tup ht), .inr (.inr ⟨⟨r, rfl⟩, rfl⟩)⟩
section
variable {P : Program} {w : World} {K : PySem.W.Frag} {mg : Str → Option Value} {base : Heap} {A : Ad} {f : Addr} {fd : FuncData}
theorem fc_cell (hl : mg "len" = none) (D : Dfn K mg "_law_cell_at" s__law_cell_at ["script", "k"] f fd) : Fc CX0 P w K mg base 1 "_law_cell_at" (spCell K) := by
  refine fc0 (N := ["script", "k"]) D (fsc (by decide +kernel)) (fun vs H Q E h => ?_) (fun cdv _ outer s H vs Q E hr h => ?_)
  · obtain ⟨a, ns, i, rfl, _⟩ := h; rfl
  · obtain ⟨a, ns, i, rfl, hS, hn, q⟩ := h
    refine ⟨_, pss_cons (ps_if (pt_cmpR op_lt (pv 1) (pe_callB call_len_seq (by rfl) hl PySem.boot_len (pa_cons (pv 0) pa_nil)) (nomark _)) (pss_one (ps_ret (pe_ix ix_list (pv 0) (pv 1) (fun _ _ => rfl)))) pss_nil) (pss_one (ps_ret pe_int)), ?_⟩
    refine ⟨_, rfl, _, rfl, a, _, rfl, .inl hS, _, _, rfl, rfl, _, rfl, ?_⟩
    by_cases h : i < ns.length
    · refine ifT (decide_eq_true (by rw [List.length_map]; omega)) ⟨_, rfl, _, rfl, a, _, _, _, rfl, rfl, hS, atI_nat (j := i) (v := .int (cell ns i)) ?_, q⟩
      rw [List.getElem?_map, List.getElem?_eq_getElem h]
      simp [cell, List.getD, List.getElem?_eq_getElem h]
    · refine ifF (decide_eq_false (by rw [List.length_map]; omega)) ?_
      have e : cell ns i = 0 := by simp [cell, List.getD, List.getElem?_eq_none (Nat.le_of_not_lt h)]
      rw [e] at q; exact q
end
/-! ### L2: the laws' own together, behind, worth, is, rounds -/
section
variable {X : Cx}
/-- a name == a written number -/
theorem ptE (i : Nat) {x : Str} {p q pos : Pos} {n : Int} {j : Nat} (hN : X.N[i]? = some x := by rfl) (hv : Vis X.env.scope x := by first | exact Or.inl rfl | exact Or.inr (Or.inl rfl)) (hd : (x == ("__debug__" : Str)) = false := by decide)
    (hc : (x == ("__classdict__" : Str)) = false := by decide) : PT X (.Compare (.Name x p) [.Eq] [.Constant (.int n) j q] pos) (tTest (tOp rEq (tVar i) (tC (.int n)))) := pt_cmpR op_eq (pe_var hN hv hd hc) pe_int (nomark _)
/-- a name is None -/
theorem ptN (i : Nat) {x : Str} {p q pos : Pos} {j : Nat} (hN : X.N[i]? = some x := by rfl) (hv : Vis X.env.scope x := by first | exact Or.inl rfl | exact Or.inr (Or.inl rfl)) (hd : (x == ("__debug__" : Str)) = false := by decide)
    (hc : (x == ("__classdict__" : Str)) = false := by decide) : PT X (.Compare (.Name x p) [.Is] [.Constant .none j q] pos) (tTest (tOp (fun x y H Q => y = .non ∧ Q (.bl (decide (x = .non))) H) (tVar i) (tC .non))) := pt_cmpR op_isN (pe_var hN hv hd hc) pe_non (nomark _)
end
theorem skE {σ : L2.St} {H : Hp} {D : Ends} {t rest : TS} {i : Nat} {m n : Int} (hi : σ[i]? = some (some (.int m))) (hne : decide (V.int m = V.int n) = false) (q : rest D σ H) : tSeq (tIfS (tTest (tOp rEq (tVar i) (tC (.int n)))) t tNext) rest D σ H :=
  ⟨_, hi, rfl, _, rfl, ifF hne q⟩
theorem hitE {σ : L2.St} {H : Hp} {D : Ends} {t rest : TS} {i : Nat} {m n : Int} (hi : σ[i]? = some (some (.int m))) (he : decide (V.int m = V.int n) = true) (q : t { D with nx := rest D } σ H) : tSeq (tIfS (tTest (tOp rEq (tVar i) (tC (.int n)))) t tNext) rest D σ H :=
  ⟨_, hi, rfl, _, rfl, ifT he q⟩
/-- turned about -/
theorem rot_bits {m b i : Nat} (hb : b < 2 ^ m) (hi : i < m) (r : Nat) : ((b * 2 ^ i % 2 ^ m) ||| (b * 2 ^ i / 2 ^ m)).testBit r = true ↔ r < m ∧ ∃ j, j < m ∧ b.testBit j = true ∧ (i + j) % m = r := by
  rw [Nat.testBit_or, Nat.testBit_mod_two_pow, Nat.testBit_div_two_pow, Nat.mul_comm b, Nat.testBit_two_pow_mul, Nat.testBit_two_pow_mul]
  simp only [Bool.or_eq_true, Bool.and_eq_true, decide_eq_true_eq]
  constructor
  · rintro (⟨h1, h2, h3⟩ | ⟨h2, h3⟩)
    · refine ⟨h1, r - i, by omega, h3, ?_⟩
      rw [show i + (r - i) = r by omega, Nat.mod_eq_of_lt h1]
    · have hj : r + m - i < m := by
        refine Classical.byContradiction fun z => ?_
        rw [testBit_above hb (by omega)] at h3
        cases h3
      refine ⟨by omega, r + m - i, hj, h3, ?_⟩
      rw [show i + (r + m - i) = r + m by omega, Nat.add_mod_right, Nat.mod_eq_of_lt (by omega)]
  · rintro ⟨h1, j, hj, h2, h3⟩
    by_cases h : i + j < m
    · rw [Nat.mod_eq_of_lt h] at h3
      exact .inl ⟨h1, by omega, by rw [show r - i = j by omega]; exact h2⟩
    · have e : (i + j) % m = i + j - m := by
        rw [Nat.mod_eq_sub_mod (by omega), Nat.mod_eq_of_lt (by omega)]
      exact .inr ⟨by omega, by rw [show r + m - i = j by omega]; exact h2⟩
section
variable {P : Program} {w : World} {K : PySem.W.Frag} {mg : Str → Option Value} {base : Heap} {A : Ad} {f : Addr} {fd : FuncData}
end
/-! ### L3: isinstance of a caught exception; the families for the laws' helpers -/
section
variable {X : Cx} {a : Addr} {oe : Obj} {pn : List (Addr × Obj)} {cls : Value} {d : Option Addr}
theorem call_isX (hz : Zc cls d oe) (hf : ∃ vs, oe.data = .fields vs) : CallR (X.suite a ((a, oe) :: pn)) (.builtin "isinstance") (fun xs H Q => ∃ D, cls = .ref D ∧ d = none ∧ ExcC X.K D ∧ rIsE X.K D a xs H Q) := by
  intro pins s σ H xs us Q I r h
  obtain ⟨D, rfl, rfl, hc, q⟩ := h
  exact call_isE hc hz hf pins s σ H xs us Q I r q
end
theorem cv_ref {C : Addr} : ∀ u, RelV (.ref C) u → u = .ref C := fun _ h => h
theorem cv_ty {n : String} : ∀ u, RelV (.ty n) u → u = .type n := fun _ h => h
/-! ### L4: the laws' drawn nets -/
/-- _law_thinned(many, roads) -/
def spThin : Sp := fun vs H Q _ => ∃ (many : Int) (la : Addr) (ys : List V) (rs : List Rw), vs = [.int many, .ref la] ∧ H la = some (.lst ys) ∧ Al (RwAt H) ys rs ∧ (∀ r ∈ rs, Good .cha r.w ∧ sz r.w ≤ 100) ∧ rs.length ≤ 40 ∧
  ∀ H' l zs, Same H H' → H l = none → H' l = some (.lst zs) → Al (RwAt H') zs (thin rs) → Q (.ref l) H'
/-- _law_net(script, at, which, m, most, extra) -/
def spNetL (K : PySem.W.Frag) : Sp := fun vs H Q _ => ∃ (a : Addr) (ns : List Int) (o : Nat) (k : Kd) (m : Int) (most extra : Nat), vs = [.ref a, .int o, .int (wh k), .int m, .int most, .int extra] ∧ SqL K H a (ns.map V.int) ∧ ns.length ≤ 63 ∧ KOk k ∧ (∀ m' : Nat, k = .rst m' → m = m') ∧
  1 ≤ most ∧ most ≤ 8 ∧ extra ≤ 40 ∧ ∀ H' p l ys, Same H H' → H l = none → H' p = some (.tup [.int (drawN ns o most), .ref l]) → H' l = some (.lst ys) → Al (RwAt H') ys (drawL ns o k most extra) → Q (.ref p) H'
theorem rat_quot {r s : Rat} (h : 0 < s) : Rat.divInt (r.num * s.den) (r.den * s.num) = r / s := by
  have hs : 0 < s.num := by
    rw [Rat.lt_iff] at h
    have h : (0 : Int) * s.den < s.num * 1 := h
    omega
  rw [Rat.div_def, Rat.inv_def, ← Rat.divInt_mul_divInt]
  · rw [Rat.num_divInt_den]
  all_goals first | omega | exact Int.ne_of_gt hs | (have := den_pos r; omega)
theorem size3' : (3 : Nat) ≤ sizeLine := by rw [sizeLine_eq]; decide
section
variable {P : Program} {w : World} {K : PySem.W.Frag} {mg : Str → Option Value} {base : Heap} {A : Ad} {f : Addr} {fd : FuncData}
end
/-! ### E1: what a reading evaluates to, where nothing that stands is turned -/
/-- a worth's data -/
def dw : Wo → PyData
  | .non => .none
  | .int i => .int i
  | .rat r => .tuple [.int r.num, .int r.den]
theorem dp_w {K : PySem.W.Frag} {H : Hp} {v : V} {a : Wo} (h : Wv H v a) : Dp K H v (dw a) := by
  cases a with
  | non => cases h; exact .non
  | int i => cases h; exact .int i
  | rat r => obtain ⟨t, rfl, ht⟩ := h; exact .tup (SqT.of ht) (.cons (.int _) (.cons (.int _) .nil))
theorem shaped_w (a : Wo) : SeqAt.shaped (dw a) = true := by
  cases a <;> simp [dw, SeqAt.shaped, PyData.canLay0, PyData.canLayAll0, PyData.depth, PyData.depthAll]
theorem eqv_w (a b : Wo) : PyData.eqv (dw a) (dw b) = decide (a = b) := by
  cases a <;> cases b <;> simp only [dw, PyData.eqv, PyData.eqvAll, Bool.and_true]
  all_goals first | (symm; exact decide_eq_false (fun z => nomatch z)) | skip
  · simp
  · rw [Bool.eq_iff_iff, beq_iff_eq, decide_eq_true_eq, Wo.int.injEq]
  · rw [Bool.eq_iff_iff, Bool.and_eq_true, beq_iff_eq, beq_iff_eq, decide_eq_true_eq, Wo.rat.injEq]
    constructor
    · rintro ⟨h1, h2⟩; exact Rat.ext h1 (by omega)
    · rintro rfl; exact ⟨rfl, rfl⟩
theorem eqD_w {K : PySem.W.Frag} {H : Hp} {u v : V} {a b : Wo} {Q : VK} (ha : Wv H u a) (hb : Wv H v b) (q : Q (.bl (decide (a = b))) H) : rEqD K u v H Q :=
  ⟨_, _, dp_w ha, dp_w hb, shaped_w a, shaped_w b, by rw [eqv_w]; exact q⟩
theorem neD_w {K : PySem.W.Frag} {H : Hp} {u v : V} {a b : Wo} {Q : VK} (ha : Wv H u a) (hb : Wv H v b) (q : Q (.bl (!decide (a = b))) H) : rNeD K u v H Q :=
  ⟨_, _, dp_w ha, dp_w hb, shaped_w a, shaped_w b, by rw [eqv_w]; exact q⟩
/-- from H0 on the reading gives the worth a -/
def EvW (te : TE) (σ : L2.St) (H0 : Hp) (a : Wo) : Prop := ∀ (H : Hp) (Q : VK), Same H0 H → (∀ H' z, Same H H' → Wv H' z a → Q z H') → te σ H Q
theorem EvW.more {te : TE} {σ : L2.St} {H0 H1 : Hp} {a : Wo} (h : EvW te σ H0 a) (s : Same H0 H1) : EvW te σ H1 a := fun H Q s1 q => h H Q (s.trans s1) q
theorem ev_var {σ : L2.St} {H0 : Hp} {i : Nat} {v : V} {a : Wo} (hi : σ[i]? = some (some v)) (h : Wv H0 v a) : EvW (tVar i) σ H0 a := fun H Q s q => ⟨v, hi, q H v (Same.refl _) (h.same s)⟩
section
variable {A : Ad} {σ : L2.St} {H0 : Hp} {i : Nat} {x : Addr} {k : Kd} {ES : L2.St → XK}
theorem ev_k0 {g : Kd → Wo} (hi : σ[i]? = some (some (.ref x))) (hk : KindAt A H0 x k) : EvW (tKM A (fun i => spK0 A i g) ES (tVar i) tNil) σ H0 (g k) := fun H Q s q =>
  ⟨k, hk.1, _, hi, x, rfl, hk.same s, x, k, rfl, hk.same s, rfl, q⟩
theorem ev_k2 {g : Kd → Wo → Wo → Wo} {te1 te2 : TE} {a b : Wo} (hi : σ[i]? = some (some (.ref x))) (hk : KindAt A H0 x k) (h1 : EvW te1 σ H0 a) (h2 : EvW te2 σ H0 b) (ga : Good k a) (gb : Good k b) (hf : Fits k a b) :
    EvW (tKM A (fun i => spK2 A i g) ES (tVar i) (tCons te1 (tCons te2 tNil))) σ H0 (g k a b) := fun H Q s q =>
  ⟨k, hk.1, _, hi, x, rfl, hk.same s, h1 H _ s fun H1 z1 s1 w1 => h2 H1 _ (s.trans s1) fun H2 z2 s2 w2 =>
    ⟨x, k, z1, z2, a, b, rfl, hk.same ((s.trans s1).trans s2), rfl, w1.same s2, w2, ga, gb, hf, fun H3 z3 s3 w3 => q H3 z3 ((s1.trans s2).trans s3) w3⟩⟩
/-- if X != Y: .. -/
theorem ev_ne {K : PySem.W.Frag} {te1 te2 : TE} {a b : Wo} {Q : Bool → Hp → Prop} {H : Hp} (s : Same H0 H) (h1 : EvW te1 σ H0 a) (h2 : EvW te2 σ H0 b) (q : ∀ H', Same H H' → Q (!decide (a = b)) H') : tTest (tOp (rNeD K) te1 te2) σ H Q :=
  h1 H _ s fun H1 z1 s1 w1 => h2 H1 _ (s.trans s1) fun H2 z2 s2 w2 => neD_w (w1.same s2) w2 ⟨_, rfl, q H2 (s1.trans s2)⟩
theorem sk_ne {K : PySem.W.Frag} {te1 te2 : TE} {a b : Wo} {D : Ends} {t rest : TS} {H : Hp} (s : Same H0 H) (h1 : EvW te1 σ H0 a) (h2 : EvW te2 σ H0 b) (e : a = b) (q : ∀ H', Same H H' → rest D σ H') :
    tSeq (tIfS (tTest (tOp (rNeD K) te1 te2)) t tNext) rest D σ H := ev_ne s h1 h2 fun H' s' => ifF (by rw [decide_eq_true e]; rfl) (q H' s')
end
/-! ### E2: lists of whole numbers; tuples of truths; parts of lists -/
theorem atI_in {l : List V} {j : Int} (h0 : 0 ≤ j) (h1 : j < (l.length : Nat)) : ∃ v, v ∈ l ∧ atI l j = some v := by
  obtain ⟨n, rfl⟩ := nn j h0
  have hn : n < l.length := by omega
  exact ⟨l[n], List.getElem_mem hn, atI_nat (List.getElem?_eq_getElem hn)⟩
theorem atI_ints {l : List Int} {j : Int} (h0 : 0 ≤ j) (h1 : j < (l.length : Nat)) : ∃ b, b ∈ l ∧ atI (l.map V.int) j = some (.int b) := by
  obtain ⟨v, hv, e⟩ := atI_in (l := l.map V.int) h0 (by rw [List.length_map]; exact h1)
  obtain ⟨b, hb, rfl⟩ := List.mem_map.1 hv
  exact ⟨b, hb, e⟩
theorem atI_end {l : List Int} {b : Int} : atI ((l ++ [b]).map V.int) (-1) = some (.int b) := by
  rw [List.map_append]; exact atI_last _ _
theorem atI_intsN {l : List Int} {t : Nat} {b : Int} (h : l[t]? = some b) : atI (l.map V.int) (t : Int) = some (.int b) := atI_nat (by rw [List.getElem?_map, h]; rfl)
theorem cut_take {xs : List V} {t : Nat} (h : t ≤ xs.length) : cutV xs none (some (t : Int)) = xs.take t := by
  unfold cutV
  rw [HT.sIx_none, HT.sIx_nat, List.drop_zero, Nat.sub_zero, Nat.min_eq_left h]
theorem cut_drop {xs : List V} {t : Nat} (h : t ≤ xs.length) : cutV xs (some (t : Int)) none = xs.drop t := by
  unfold cutV
  rw [HT.sIx_none, HT.sIx_nat, Nat.min_eq_left h, List.take_of_length_le]
  rw [List.length_drop]; omega
section
variable {K : PySem.W.Frag} {H : Hp}
theorem dpAll_ints : ∀ js : List Int, DpAll K H (js.map V.int) (js.map PyData.int)
  | [] => .nil
  | j :: js => .cons (.int j) (dpAll_ints js)
theorem dp_ints {a : Addr} {js : List Int} (h : H a = some (.lst (js.map V.int))) : Dp K H (.ref a) (.list (js.map .int)) := .lst (SqL.of h) (dpAll_ints js)
theorem dp_b3 {a : Addr} {x y z : Bool} (h : H a = some (.tup [.bl x, .bl y, .bl z])) : Dp K H (.ref a) (.tuple [.bool x, .bool y, .bool z]) := .tup (SqT.of h) (.cons (.bl _) (.cons (.bl _) (.cons (.bl _) .nil)))
end
theorem eqv_ints : ∀ js : List Int, PyData.eqvAll (js.map PyData.int) (js.map PyData.int) = true
  | [] => rfl
  | j :: js => by
    rw [List.map_cons]
    simp only [PyData.eqvAll, PyData.eqv, beq_self_eq_true, Bool.true_and]
    exact eqv_ints js
theorem lay_ints : ∀ js : List Int, PyData.canLayAll0 (js.map PyData.int) = true ∧ PyData.depthAll (js.map PyData.int) ≤ 1
  | [] => by simp [PyData.canLayAll0, PyData.depthAll]
  | j :: js => by
    have := lay_ints js
    rw [List.map_cons]
    simp only [PyData.canLayAll0, PyData.canLay0, PyData.depthAll, PyData.depth, Bool.true_and]
    exact ⟨this.1, Nat.max_le.2 ⟨Nat.zero_le _, this.2⟩⟩
theorem shaped_ints (js : List Int) : SeqAt.shaped (.list (js.map .int)) = true := by
  have h := lay_ints js
  have h2 : PyData.depthAll (js.map PyData.int) + 1 ≤ 64 := by have := h.2; omega
  have e1 : PyData.canLay0 (.list (js.map PyData.int)) = true := by simp only [PyData.canLay0]; exact h.1
  have e2 : PyData.depth (.list (js.map PyData.int)) ≤ 64 := by simp only [PyData.depth]; exact h2
  unfold SeqAt.shaped
  rw [e1, decide_eq_true e2]; rfl
theorem shaped_b3 (x y z : Bool) : SeqAt.shaped (.tuple [.bool x, .bool y, .bool z]) = true := by
  simp [SeqAt.shaped, PyData.canLay0, PyData.canLayAll0, PyData.depth, PyData.depthAll]
theorem eqv_b3 (x y z : Bool) : PyData.eqv (.tuple [.bool x, .bool y, .bool z]) (.tuple [.bool x, .bool y, .bool z]) = true := by
  simp [PyData.eqv, PyData.eqvAll]
/-- an int list grows -/
theorem map_snoc {js : List Int} {b : Int} : js.map V.int ++ [V.int b] = (js ++ [b]).map V.int := by rw [List.map_append]; rfl
theorem wkW_append {k : Kd} {rs : List Rw} : ∀ (js : List Int) (p : Int) (w : Wo) (ls : List Int), wkW k rs p w (js ++ ls) = (wkW k rs p w js).bind fun z => wkW k rs z.1 z.2 ls
  | [], p, w, ls => rfl
  | j :: js, p, w, ls => by
    show (if 0 ≤ j then _ else none) = Option.bind (if 0 ≤ j then _ else none) _
    by_cases h : 0 ≤ j
    · rw [if_pos h, if_pos h]
      cases rs[j.toNat]? with
      | none => rfl
      | some r =>
        show (if (r.s : Int) = p then _ else none) = Option.bind (if (r.s : Int) = p then _ else none) _
        by_cases h2 : (r.s : Int) = p
        · rw [if_pos h2, if_pos h2]; exact wkW_append js _ _ ls
        · rw [if_neg h2, if_neg h2]; rfl
    · rw [if_neg h, if_neg h]; rfl
theorem wkW_good {k : Kd} {n : Nat} {rs : List Rw} (ok : RsOk k n rs) : ∀ (js : List Int) (p : Int) (w : Wo), Good k w → ∀ t wt, wkW k rs p w js = some (t, wt) → Good k wt
  | [], p, w, g, t, wt, h => by cases h; exact g
  | j :: js, p, w, g, t, wt, h => by
    change (if 0 ≤ j then _ else none) = _ at h
    by_cases h0 : 0 ≤ j
    · rw [if_pos h0] at h
      cases e : rs[j.toNat]? with
      | none => rw [e] at h; cases h
      | some r =>
        rw [e] at h
        change (if (r.s : Int) = p then _ else none) = _ at h
        by_cases h2 : (r.s : Int) = p
        · rw [if_pos h2] at h
          exact wkW_good ok js _ _ (good_beh g (ok r (List.mem_of_getElem? e)).1) t wt h
        · rw [if_neg h2] at h; cases h
    · rw [if_neg h0] at h; cases h
theorem wkW_sz {k : Kd} {n : Nat} {rs : List Rw} (ok : RsOk k n rs) (hb : bitK k = true) {B : Nat} (hB : ∀ r ∈ rs, sz r.w ≤ B) : ∀ (js : List Int) (p : Int) (w : Wo), Good k w → ∀ t wt, wkW k rs p w js = some (t, wt) → sz wt ≤ sz w + js.length * B
  | [], p, w, g, t, wt, h => by cases h; simp
  | j :: js, p, w, g, t, wt, h => by
    change (if 0 ≤ j then _ else none) = _ at h
    by_cases h0 : 0 ≤ j
    · rw [if_pos h0] at h
      cases e : rs[j.toNat]? with
      | none => rw [e] at h; cases h
      | some r =>
        rw [e] at h
        change (if (r.s : Int) = p then _ else none) = _ at h
        by_cases h2 : (r.s : Int) = p
        · rw [if_pos h2] at h
          have gr := (ok r (List.mem_of_getElem? e)).1
          have := wkW_sz ok hb hB js _ _ (good_beh g gr) t wt h
          have := sz_beh hb g gr
          have := hB r (List.mem_of_getElem? e)
          rw [List.length_cons, Nat.succ_mul]
          omega
        · rw [if_neg h2] at h; cases h
    · rw [if_neg h0] at h; cases h
theorem szB_le (k : Kd) : szB k ≤ 100 := by cases k <;> simp [szB]
/-! ### E3: data that are like themselves: rows, tables -/
/-- data of at most c levels, like itself -/
structure Nice (c : Nat) (d : PyData) : Prop where
  eq : PyData.eqv d d = true
  lay : PyData.canLay0 d = true
  dep : PyData.depth d ≤ c
theorem Nice.sh {c : Nat} {d : PyData} (h : Nice c d) (hc : c ≤ 64) : SeqAt.shaped d = true := by
  unfold SeqAt.shaped
  rw [h.lay, decide_eq_true (Nat.le_trans h.dep hc)]; rfl
theorem nice_all {c : Nat} : ∀ {ds : List PyData}, (∀ d ∈ ds, Nice c d) → PyData.eqvAll ds ds = true ∧ PyData.canLayAll0 ds = true ∧ PyData.depthAll ds ≤ c
  | [], _ => by simp [PyData.eqvAll, PyData.canLayAll0, PyData.depthAll]
  | d :: ds, h => by
    have h1 := h d List.mem_cons_self
    obtain ⟨a, b, e⟩ := nice_all fun x hx => h x (List.mem_cons_of_mem _ hx)
    simp only [PyData.eqvAll, PyData.canLayAll0, PyData.depthAll, h1.eq, h1.lay, a, b, Bool.true_and, true_and]
    exact Nat.max_le.2 ⟨h1.dep, e⟩
theorem nice_lst {c : Nat} {ds : List PyData} (h : ∀ d ∈ ds, Nice c d) : Nice (c + 1) (.list ds) := by
  obtain ⟨a, b, e⟩ := nice_all h
  exact ⟨by simp only [PyData.eqv]; exact a, by simp only [PyData.canLay0]; exact b, by simp only [PyData.depth]; omega⟩
theorem nice_tup {c : Nat} {ds : List PyData} (h : ∀ d ∈ ds, Nice c d) : Nice (c + 1) (.tuple ds) := by
  obtain ⟨a, b, e⟩ := nice_all h
  exact ⟨by simp only [PyData.eqv]; exact a, by simp only [PyData.canLay0]; exact b, by simp only [PyData.depth]; omega⟩
theorem nice_int (i : Int) : Nice 0 (.int i) := ⟨by simp [PyData.eqv], by simp [PyData.canLay0], by simp [PyData.depth]⟩
theorem nice_w (a : Wo) : Nice 1 (dw a) := by
  refine ⟨by rw [eqv_w]; exact decide_eq_true rfl, ?_, ?_⟩
  · cases a <;> simp [dw, PyData.canLay0, PyData.canLayAll0]
  · cases a <;> simp [dw, PyData.depth, PyData.depthAll]
/-- a row's data, a table's -/
def dRow (n : Nat) (f : Nat → Wo) : PyData := .list ((List.range n).map fun i => dw (f i))
def dMat (m n : Nat) (F : Nat → Nat → Wo) : PyData := .list ((List.range m).map fun i => dRow n (F i))
theorem nice_row (n : Nat) (f : Nat → Wo) : Nice 2 (dRow n f) := nice_lst fun d hd => by
  obtain ⟨i, _, rfl⟩ := List.mem_map.1 hd; exact nice_w _
theorem nice_mat (m n : Nat) (F : Nat → Nat → Wo) : Nice 3 (dMat m n F) := nice_lst fun d hd => by
  obtain ⟨i, _, rfl⟩ := List.mem_map.1 hd; exact nice_row _ _
section
variable {K : PySem.W.Frag} {H : Hp}
theorem dpAll_by {vs : List V} {n : Nat} {g : Nat → PyData} (hl : vs.length = n) (h : ∀ i v, vs[i]? = some v → Dp K H v (g i)) : DpAll K H vs ((List.range n).map g) := by
  induction vs generalizing n g with
  | nil => cases hl; exact .nil
  | cons v vs ih =>
    cases n with
    | zero => cases hl
    | succ n =>
      rw [List.range_succ_eq_map, List.map_cons, List.map_map]
      exact .cons (h 0 v rfl) (ih (Nat.succ.inj hl) fun i u hu => h (i + 1) u hu)
theorem eqD_nice {c : Nat} {u v : V} {d : PyData} {Q : VK} (hc : c ≤ 64) (n : Nice c d) (ha : Dp K H u d) (hb : Dp K H v d) (q : Q (.bl true) H) : rEqD K u v H Q :=
  ⟨_, _, ha, hb, n.sh hc, n.sh hc, by rw [n.eq]; exact q⟩
theorem neD_nice {c : Nat} {u v : V} {d : PyData} {Q : VK} (hc : c ≤ 64) (n : Nice c d) (ha : Dp K H u d) (hb : Dp K H v d) (q : Q (.bl false) H) : rNeD K u v H Q :=
  ⟨_, _, ha, hb, n.sh hc, n.sh hc, by rw [n.eq]; exact q⟩
end
/-! ### L7: more words of walks -/
def rListOf (K : PySem.W.Frag) : List V → Hp → VK → Prop := fun xs H Q => ∃ p ys, xs = [.ref p] ∧ (SqL K H p ys ∨ SqT K H p ys) ∧ ∀ l, H l = none → Q (.ref l) (upd H l (.lst ys))
theorem call_listOf {X : Cx} : CallR X (.type "list") (rListOf X.K) := call_list_of
theorem seq_splitS {t rest : TS} {D : Ends} {σ : L2.St} {H : Hp} (i : Nat) (PM : V → Hp → Prop) (cont : ∀ z H', PM z H' → rest D (σ.set i (some z)) H') (h : ∀ R : TS, (∀ z H', PM z H' → R D (σ.set i (some z)) H') → tSeq t R D σ H) : tSeq t rest D σ H := h rest cont
section
variable {α : Type} {R : V → α → Prop} {vs ws : List V} {rs qs : List α}
theorem Al.append (h : Al R vs rs) (h2 : Al R ws qs) : Al R (vs ++ ws) (rs ++ qs) := by
  refine ⟨by rw [List.length_append, List.length_append, h.1, h2.1], fun i v r e1 e2 => ?_⟩
  by_cases hi : i < vs.length
  · rw [List.getElem?_append_left hi] at e1
    rw [List.getElem?_append_left (by rw [← h.1]; exact hi)] at e2
    exact h.2 i v r e1 e2
  · rw [List.getElem?_append_right (by omega)] at e1
    rw [List.getElem?_append_right (by rw [← h.1]; omega)] at e2
    rw [h.1] at e1
    exact h2.2 _ v r e1 e2
theorem Al.take (h : Al R vs rs) (t : Nat) : Al R (vs.take t) (rs.take t) := by
  refine ⟨by rw [List.length_take, List.length_take, h.1], fun i v r e1 e2 => ?_⟩
  have hi : i < t := by
    have := (List.getElem?_eq_some_iff.1 e1).1
    rw [List.length_take] at this; omega
  rw [List.getElem?_take_of_lt hi] at e1 e2
  exact h.2 i v r e1 e2
theorem Al.drop (h : Al R vs rs) (t : Nat) : Al R (vs.drop t) (rs.drop t) := by
  refine ⟨by rw [List.length_drop, List.length_drop, h.1], fun i v r e1 e2 => ?_⟩
  rw [List.getElem?_drop] at e1 e2
  exact h.2 _ v r e1 e2
theorem Al.reverse (h : Al R vs rs) : Al R vs.reverse rs.reverse := by
  refine ⟨by rw [List.length_reverse, List.length_reverse, h.1], fun i v r e1 e2 => ?_⟩
  have hi : i < vs.length := by
    have := (List.getElem?_eq_some_iff.1 e1).1
    rwa [List.length_reverse] at this
  rw [List.getElem?_reverse hi] at e1
  rw [List.getElem?_reverse (by rw [← h.1]; exact hi), ← h.1] at e2
  exact h.2 _ v r e1 e2
end
theorem add_z (i : Nat) : (0 : Int) + (i : Int) = (i : Int) := Int.zero_add _
theorem atI_mapN {α : Type} {f : α → V} {l : List α} {t : Nat} {b : α} (h : l[t]? = some b) : atI (l.map f) (t : Int) = some (f b) := atI_nat (by rw [List.getElem?_map, h]; rfl)
/-! ### L6: cells of tables, data of tables -/
theorem MatAt.at {H : Hp} {a : Addr} {n i j : Nat} {F : Nat → Nat → Wo} (h : MatAt H a n F) (hi : i < n) (hj : j < n) : ∃ rs r vs v, H a = some (.lst rs) ∧ atI rs (i : Int) = some (.ref r) ∧ H r = some (.lst vs) ∧ atI vs (j : Int) = some v ∧ Wv H v (F i j) := by
  obtain ⟨rv, h1, h2, h3, h4, h5⟩ := h
  have hv : rv[i]? = some rv[i] := List.getElem?_eq_getElem (by omega)
  obtain ⟨vs, v, e1, e2, e3⟩ := (h5 i _ hv).at hj
  exact ⟨_, rv[i], vs, v, h1, atI_nat (by rw [List.getElem?_map, hv]; rfl), e1, e2, e3⟩
section
variable {K : PySem.W.Frag} {H : Hp}
theorem dp_row {a : Addr} {n : Nat} {f : Nat → Wo} (h : RowAt H a n f) : Dp K H (.ref a) (dRow n f) := by
  obtain ⟨vs, h1, h2, h3⟩ := h
  exact .lst (SqL.of h1) (dpAll_by h2 fun i v hi => dp_w (h3 i v hi))
theorem dp_rows {a : Addr} {rv : List Addr} {m n : Nat} {F : Nat → Nat → Wo} (h1 : H a = some (.lst (rv.map V.ref))) (hm : rv.length = m) (h : ∀ i r, rv[i]? = some r → RowAt H r n (F i)) : Dp K H (.ref a) (dMat m n F) := by
  refine .lst (SqL.of h1) (dpAll_by (by rw [List.length_map]; exact hm) fun i v hi => ?_)
  rw [List.getElem?_map] at hi
  obtain ⟨r, hr, rfl⟩ := Option.map_eq_some_iff.1 hi
  exact dp_row (h i r hr)
end
/-! ### K2: a def that is called in an except suite with the exception that the suite holds -/
section
open L2H
/-- such a def: it promises by the exception's class -/
abbrev SpE := Value → Option Addr → Hp → VK → Prop
structure FnE (P : Program) (w : World) (K : PySem.W.Frag) (mg : Str → Option Value) (base : Heap) (k : Nat) (f : Addr) (fd : FuncData) (x : Str) (sp : SpE) : Prop where
  run : ∀ (A : Around) (outer : List Env) (s : Shared) (H : Hp) (args : Args) (a : Addr) (oe : Obj) (cls : Value) (d : Option Addr) (Q : VK), RoomH k A → Zc cls d oe → (∃ vs, oe.data = .fields vs) → PinOk outer H s (a, oe) → Env0 P w K mg base A outer s H → BindsTo s fd args ([x].zip [.ref a]) → sp cls d H Q →
    codeAny (model P w) A (.call (.ref f) args) (CR CX0 outer P w H s Q E0) s
theorem call_isP {X : Cx} {a : Addr} {oe : Obj} {cls : Value} {d : Option Addr} (hp : (a, oe) ∈ X.pn) (hz : Zc cls d oe) (hf : ∃ vs, oe.data = .fields vs) : CallR X (.builtin "isinstance") (fun xs H Q => ∃ D, cls = .ref D ∧ d = none ∧ ExcC X.K D ∧ rIsE X.K D a xs H Q) := by
  intro pins s σ H xs us Q I r h
  obtain ⟨D, rfl, rfl, C, c, cv, b, rfl, hcv, e, q⟩ := h
  cases r with
  | cons rx rr =>
    cases rr with
    | cons rt rr =>
      cases rr
      cases rx
      have ec := hcv _ rt
      subst ec
      obtain ⟨hget, _⟩ := I.pin (a, oe) (List.mem_append.mpr (.inl hp))
      obtain ⟨vs, hv⟩ := hf
      have J : PySem.W.InstAt s.heap a oe D none := by
        obtain ⟨oc, od, oda, osl⟩ := oe
        obtain ⟨h1, h2⟩ := hz
        dsimp only at h1 h2 hv
        subst h1 h2 hv
        exact ⟨hget, rfl, rfl, trivial⟩
      exact PySem.W.kia_one (PySem.W.handS_kitx_exc C.hg C.hk C.hs C.hd C.ha C.hn C.ht C.hm) I.kIn J e (fun z => nomatch z) fun tk => ⟨.bl b, H, I.kept (t' := tk) fun _ _ z => z, rfl, q⟩
theorem fn_ofE {P : Program} {w : World} {K : PySem.W.Frag} {mg : Str → Option Value} {base : Heap} {k : Nat} {f : Addr} {fd : FuncData} {x y : Str} {st : Stmt} {N : List Str} {sp : SpE} (D : Dfn K mg x st [y] f fd) (S : FnScope N [y] (defScope st))
    (hbody : ∀ (cdv : Value) (A : Around) (outer : List Env) (s : Shared) (H : Hp) (a : Addr) (oe : Obj) (cls : Value) (d : Option Addr) (Q : VK), Zc cls d oe → (∃ vs, oe.data = .fields vs) → RoomH k (A.deeper (envOfC x (defScope st) s.heap.objs.size f cdv)) → sp cls d H Q →
      ∃ t, PSs (cxH CX0 P w K mg base N x (defScope st) f cdv A outer s H E0 (a, oe)) (defBody st) t ∧ t { nx := fun _ H' => Q .non H', rt := Q } (L2.start N [.ref a]) H) : FnE P w K mg base (k + 1) f fd y sp := by
  obtain ⟨oc, od, kV, doc, pm, an, cdv, ct, osl, rfl, lk, hcd⟩ := D.F.ex
  refine ⟨fun A outer s H args a oe cls d Q hr hz hf hpin e0 hb hsp => ?_⟩
  have r : Vals [V.ref a] [Value.ref a] := .cons rfl .nil
  have KX : K.In s.heap := e0.mod.kin.keeps fun b o e => (e0.bs b o e).1
  have lim : s.heap.NoLimit := e0.mod.nolimit.keeps fun b o e => (e0.bs b o e).1
  have hkind : ∀ z ∈ [y].zip [Value.ref a], (defScope st).names.lookup z.1 = some .local ∨ ((defScope st).names.lookup z.1 = some .cell ∧ ((cellsFrom (s.heap.objs.size + 1) (defScope st).names []).lookup z.1).isSome = true) := fun ⟨n, v⟩ hy => by
    rcases S.par n (List.of_mem_zip hy).1 with q | q
    · exact .inl q
    · exact .inr ⟨q, PySem.W.cellsFrom_some _ _ _ (.inl q)⟩
  refine codeAny_call_function hr.depth (KX _ _ lk) rfl S.co S.gen rfl (PySem.W.codeRec_of KX hcd) (hb _ _ _ _ ?_)
  refine wpAny_newFunctionEnv_cells S.kind hkind fun env he s1 x1 => ?_
  subst he
  refine ⟨lim.keeps x1.toInCall.keep, codeAny_func ?_⟩
  obtain ⟨t, ht, hq⟩ := hbody cdv A outer s H a oe cls d Q hz hf (hr.deeper _) hsp
  have I : Inv (cxH CX0 P w K mg base N x (defScope st) f cdv A outer s H E0 (a, oe)) [] (L2.start N [.ref a]) H s1 := inv_startH S hpin e0 rfl r x1
  refine wpAny_mono (ht.run [] s1 (L2.start N [.ref a]) H _ I hq) (fun fl s' hs => ?_) fun e s' hs => hs
  have fin : ∀ {σ' : L2.St} {H' : Hp} {v : V} {u : Value}, Inv (cxH CX0 P w K mg base N x (defScope st) f cdv A outer s H E0 (a, oe)) [] σ' H' s' → RelV v u → Q v H' → CE outer P w H s Q u s' :=
    fun {σ' H' v u} J rv q => ⟨v, H', J.os, J.bare, J.base, J.hok, rv, q⟩
  cases fl with
  | ret u =>
    obtain ⟨v, σ', H', J, rv, q⟩ := hs
    exact fin J rv q
  | next =>
    obtain ⟨σ', H', J, q⟩ := hs
    exact fin (v := V.non) (u := Value.none) J rfl q
  | brk =>
    obtain ⟨_, _, _, q⟩ := hs
    exact False.elim q
  | cont =>
    obtain ⟨_, _, _, q⟩ := hs
    exact False.elim q
/-- what may be called so by the name x -/
structure FcE (P : Program) (w : World) (K : PySem.W.Frag) (mg : Str → Option Value) (base : Heap) (k : Nat) (x : Str) (sp : SpE) : Prop where
  ex : ∃ (f : Addr) (fd : FuncData) (y : Str), FnE P w K mg base k f fd y sp ∧ mg x = some (.ref f) ∧ PySem.W.keepIn K (.ref f) = true ∧ Binds K fd [y] []
variable {X : Cx} {k j : Nat} {x : Str} {sp : SpE} {p pos : Pos} {e : Expr} {te : TE} {a : Addr} {oe : Obj} {cls : Value} {d : Option Addr}
def tCallE (cls : Value) (d : Option Addr) (a : Addr) (sp : SpE) (te : TE) : TE := fun σ H Q => te σ H fun v H1 => [v] = [V.ref a] ∧ sp cls d H1 Q
theorem roomS {A : Around} (r : Room j A) (h : k ≤ j) (v : Option Value) : RoomH k (A.mark v) := ⟨by have := (r.mono h).dp; exact this, by have := (r.mono h).un; exact this⟩
theorem pe_fE (F : FcE X.prog X.w X.K X.mg X.base k x sp) (hr : RoomH k X.A) (hp : (a, oe) ∈ X.pn) (hz : Zc cls d oe) (hf : ∃ vs, oe.data = .fields vs) (hg : Gl X x) (ha : PE X e te)
    (hdb : (x == ("__debug__" : Str)) = false := by decide) (he : starEach [e] X.env = (false, eval e X.env) :: starEach [] X.env := by rfl) (hpl : (backTo pos (starEach [] X.env)).any (·.1) = false := by rfl) :
    PE X (.Call (.Name x p) [e] [] pos) (tCallE cls d a sp te) := by
  obtain ⟨f, fd, y, G, hm, hk, hb⟩ := F.ex
  refine ⟨fun pins s σ H Q I h => ?_⟩
  have hA : PA X [e] (tCons te tNil) := pa_cons ha pa_nil (hs := he)
  refine wpAny_Call_Name_kw (ld_glob I hg hm ?_ hdb)
  refine PySem.W.callWith_K (h₀ := X.base) I.ok.mod.kin hk (thn (hA.run pos pins s σ H (fun vs H1 => vs = [.ref a] ∧ sp cls d H1 Q) I ?_) fun us s1 ⟨vs, H1, I1, r, q⟩ => ⟨I1.kIn, ?_⟩) he hpl
  · exact h
  · obtain ⟨rfl, q⟩ := q
    cases r with
    | cons r0 rr =>
    cases rr
    cases r0
    have b := hb s1 [.ref a] I1.kIn rfl
    rw [List.append_nil] at b
    have P1 := I1.pin (a, oe) (List.mem_append_left _ hp)
    have hpin : PinOk X.stack H1 s1 (a, oe) := ⟨P1.1, P1.2.1, fun hm => (List.mem_cons.mp (I1.stkSub a hm)).elim P1.2.2.1 P1.2.2.2.1, P1.2.2.2.2⟩
    refine wpAny_call (codeAny_mono (G.run X.A X.stack s1 H1 ⟨[.ref a], []⟩ a oe cls d Q hr hz hf hpin I1.env0 b q) fun r s' hq => ?_)
    cases r with
    | error e => exact hq.elim
    | ok fl =>
      cases fl with
      | ret u => exact I1.after hq
      | next => exact False.elim hq
      | brk => exact False.elim hq
      | cont => exact False.elim hq
end
/-! ### W10: a place taken out -/
def iV (i : Nat) : V := .int i
/-- without(net, place) -/
def spWithout (A : Ad) (nn np nos : Addr) : Sp := fun vs H Q E => ∃ (x : Addr) (k : Kd) (n : Nat) (rs : List Rw) (p : Int), vs = [.ref x, .int p] ∧ NetAt A H x k n rs ∧ KOk k ∧ n ≤ 8 ∧ rs.length ≤ 64 ∧ (n = 1 → E (.ref nn) none H) ∧ (¬ n = 1 → ¬ (0 ≤ p ∧ p < n) → E (.ref np) none H) ∧
  (¬ n = 1 → (0 ≤ p ∧ p < n) → (∀ m i j r, rs[m]? = some r → Good k ((rs.take m).foldl (strF k i j) (noneW k)) ∧ Fits k ((rs.take m).foldl (strF k i j) (noneW k)) r.w) ∧ ThrOk k n (strW k rs) p.toNat ∧
    (∀ st, rnd k (strW k rs p.toNat p.toNat) = some st → NetF k (n - 1) (outR k (outV k rs p.toNat st) (n - 1) (n - 1)) ∧ ∀ H' x', Same H H' → NetAt A H' x' k (n - 1) (outR k (outV k rs p.toNat st) (n - 1) (n - 1)) → Q (.ref x') H') ∧
    (rnd k (strW k rs p.toNat p.toNat) = none → ∀ H', Same H H' → E (.ref nos) none H'))
section
variable {P : Program} {w : World} {K : PySem.W.Frag} {mg : Str → Option Value} {base : Heap} {A : Ad} {f : Addr} {fd : FuncData}
theorem fc_without (T : Tx K mg A) (ST : Fc CX0 P w K mg base 5 "straight" (spStraight A)) (TH : Fc (L2.CX P w) P w K mg base 5 "through" (spThrough A A.NoSum)) (D : Dfn K mg "without" s_without ["net", "place"] f fd) : Fc (L2.CX P w) P w K mg base 8 "without" (spWithout A A.NoNet A.NoPlace A.NoSum) := by
  have sc : FnScope ["net", "place", "kind", "rows", "left", "roads", "i", "j", "worth", "k"] ["net", "place"] (defScope s_without) := fsc (by decide +kernel)
  have NN : Nc (L2.CX P w) P w K mg base 6 "Net" A.Net (spNet A A.NoNet A.NoWorth) := th_Net T
  have z := T.x_NoNet
  refine fcX D sc (fun vs H Q E h => ?_) (fun cdv _ outer s H vs Q E hr h => ?_)
  · obtain ⟨x, k, n, rs, p, rfl, _⟩ := h; rfl
  · obtain ⟨x, k, n, rs, p, rfl, hN, hko, hn8, hl64, q1, qp, qq⟩ := h
    refine ⟨_, (pss_cons (ps_if (pt_cmpR op_eq (pe_m0 (th_Nplaces T) hr (by decide) pass0 (pv 0)) pe_int (nomark _)) (pss_one (ps_raise rfl (takes_of rfl rfl rfl rfl) (pmk_own PySem.F.excBase_ValueError z.ex z.g z.kp (raises_own z.bs z.ty) rfl))) pss_nil) (pss_cons (ps_expr (pe_m (th_Nask T) hr (by decide) passE (pv 0) (pa_cons (pv 1) pa_nil))) (pss_cons (ps_set (i := 2) sc.nd rfl (.inl rfl) (pe_m0 (th_Nkind T) hr (by decide) pass0 (pv 0))) (pss_cons (ps_set (i := 3) sc.nd rfl (.inl rfl) (pe_f TH hr (by decide) passE rfl (pa_cons (pv 2) (pa_cons (pe_f ST hr (by decide) pass0 rfl (pa_cons (pv 0) pa_nil)) (pa_cons (pv 1) pa_nil))))) (pss_cons (ps_setLc (i := 4) (own := [("k", 9)]) (g := gName 9) (by rfl) sc.nd rfl rfl (sw_true rfl rfl rfl (by decide +kernel)) (tt := tTest (tOp rNe (tVar 9) (tVar 1))) (pi_range1 (by rfl) T.n_range (pa_cons (pe_m0 (th_Nplaces T) hr (by decide) pass0 (pv 0)) pa_nil)) (blkOk_by (N := ["net", "place", "kind", "rows", "left", "roads", "i", "j", "worth", "k"]) (own := [("k", 9)]) (sc := (defScope s_without)) (by decide +kernel)) (fun _ _ _ _ _ => pg_name (i := 9) sc.nd rfl (Or.inl rfl)) (fun _ _ _ _ _ => pts_one (pt_cmpR op_ne (pv 9) (pv 1) (nomark _))) (fun _ _ _ _ _ => (pv 9))) (pss_cons (ps_set (i := 5) sc.nd rfl (.inl rfl) (pe_lst pa_nil)) (pss_cons (ps_for (passes_of rfl) rfl (pi_range1 (by rfl) T.n_range (pa_cons (pe_callB call_len_seq (by rfl) T.n_len PySem.boot_len (pa_cons (pv 4) pa_nil)) pa_nil)) (pg_name (i := 6) sc.nd rfl (.inl rfl)) (pss_one (ps_for (passes_of rfl) rfl (pi_range1 (by rfl) T.n_range (pa_cons (pe_callB call_len_seq (by rfl) T.n_len PySem.boot_len (pa_cons (pv 4) pa_nil)) pa_nil)) (pg_name (i := 7) sc.nd rfl (.inl rfl)) (pss_cons (ps_set (i := 8) sc.nd rfl (.inl rfl) (pe_ix ix_list (pe_ix ix_list (pv 3) (pe_ix ix_list (pv 4) (pv 6) (fun _ _ => rfl)) (fun _ _ => rfl)) (pe_ix ix_list (pv 4) (pv 7) (fun _ _ => rfl)) (fun _ _ => rfl))) (pss_one (ps_if (pt_cmpR (op_neD hr.units) (pv 8) (pe_km0 (ES := fun _ => E0) (all_none T) hr (by decide) passS (pv 2)) (nomark _)) (pss_one (ps_expr (pe_bm PySem.F.plainAttrs_list PySem.F.slot_list_append PySem.F.type_list_append mt_append (pv 5) (pa_cons (pe_tup (pa_cons (pv 6) (pa_cons (pv 7) (pa_cons (pv 8) pa_nil)))) pa_nil)))) pss_nil)))))) (pss_one (ps_ret (pe_nc NN hr (by decide) passE rfl (pa_cons (pv 2) (pa_cons (pe_callB call_len_seq (by rfl) T.n_len PySem.boot_len (pa_cons (pv 4) pa_nil)) (pa_cons (pv 5) pa_nil))))))))))))), ?_⟩
    have ok := hN.1
    refine tm_net rfl hN ⟨x, k, n, rs, rfl, hN, rfl, _, rfl, ?_⟩
    by_cases h1 : n = 1
    · exact ifT (decide_eq_true (by rw [h1]; rfl)) (q1 h1)
    refine ifF (decide_eq_false fun e => h1 (by have := V.int.inj e; omega)) ?_
    refine tm_net rfl hN ⟨_, rfl, x, k, n, rs, p, rfl, hN, fun hp => ?_, fun hp => qp h1 hp⟩
    obtain ⟨hstr, hthr, qs, qn⟩ := qq h1 hp
    obtain ⟨p, rfl⟩ := nn p hp.1
    simp only [Int.toNat_natCast] at hthr qs qn
    have hpn : p < n := by omega
    refine tm_net rfl hN ⟨x, k, n, rs, rfl, hN, fun kx hkx => ?_⟩
    refine ⟨_, rfl, _, rfl, x, k, n, rs, rfl, hN, hko, hn8, hl64, hstr, fun H1 a rv s1 ha hM => ⟨_, rfl, kx, a, k, n, strW k rs, p, rfl, hkx.same s1, hM.mat, hpn, hn8, hthr, fun st hst H2 b rv2 s2 hb hM2 => ?_, fun hn => qn hn H1 s1⟩⟩
    obtain ⟨hF, q⟩ := qs st hst
    have s12 := s1.trans s2
    have hMb := hM2.mat
    have gv := fun i j => outV_good hko ok (p := p) (good_rnd hko (str_good hko ok p p) hst) i j
    obtain ⟨V0, hV⟩ : ∃ V0, V0 = outV k rs p st := ⟨_, rfl⟩
    rw [← hV] at hF q gv
    have hVe : ∀ i j, thrW k (strW k rs) p st (lf p i) (lf p j) = V0 i j := fun i j => by rw [hV]; rfl
    clear hV hM2 hM
    -- the places left
    have hN2 := hN.same s12
    refine tm_net rfl hN2 ⟨x, k, n, rs, rfl, hN2, _, rfl, by omega, by omega, fun ll hll => lc_range (lo := 0) (n := ((n : Nat) : Int).toNat) (fun t H' => Same H2 H' ∧ H' ll = some (.lst ((leftL p t).map iV))) ⟨same_upd hll, upd_same⟩ ?_ ?_⟩
    · rintro t H3 ht ⟨s3, h3⟩
      rw [Int.toNat_natCast] at ht
      refine ⟨rfl, _, rfl, _, rfl, rfl, _, rfl, ?_⟩
      by_cases e : t = p
      · refine ifF (by rw [e]; simp) ⟨s3, ?_⟩
        rw [leftL_succ, if_pos e]; exact h3
      · refine ifT (by simp; omega) ⟨_, rfl, _, h3, ?_, same_at s3 hll, ?_⟩
        · refine sizeLt ?_
          rw [List.length_map]
          have : (leftL p t).length ≤ t := by
            unfold leftL
            exact Nat.le_trans (List.length_filter_le _ _) (by rw [List.length_range]; exact Nat.le_refl t)
          omega
        · rw [upd_same, leftL_succ, if_neg e, List.map_append]
          show some (HO.lst ((leftL p t).map iV ++ [V.int (0 + (t : Int))])) = _
          rw [Int.zero_add]; rfl
    rintro H3 ⟨s3, h3⟩
    rw [Int.toNat_natCast, leftL_high n hpn, List.map_map] at h3
    have llen : ((List.range (n - 1)).map (iV ∘ lf p)).length = n - 1 := by rw [List.length_map, List.length_range]
    have atl : ∀ i, i < n - 1 → atI ((List.range (n - 1)).map (iV ∘ lf p)) (0 + (i : Int)) = some (.int (lf p i)) := fun i hi => by
      rw [Int.zero_add]
      exact atI_nat (by rw [List.getElem?_map, List.getElem?_range hi]; rfl)
    generalize (List.range (n - 1)).map (iV ∘ lf p) = L at h3 llen atl
    have s13 := s12.trans s3
    have hk3 := hkx.same s13
    have hM3 := hMb.same s3
    refine ⟨(by show 0 ≤ sizeLine; exact Nat.zero_le _), fun lr hlr => ?_⟩
    have s4 := same_upd (o := HO.lst []) hlr
    refine ⟨_, rfl, ll, _, rfl, .inl (SqL.of (s4 _ _ h3)), _, rfl, by omega, by omega, for_range (lo := 0) (n := ((L.length : Nat) : Int).toNat) (fun i σ H' => ∃ (v6 v7 v8 : Option V) (zs : List V), σ = [some (.ref x), some (.int p), some (.ref kx), some (.ref b), some (.ref ll), some (.ref lr), v6, v7, v8, none] ∧ Same H3 H' ∧ H' lr = some (.lst zs) ∧ Al (RwAt H') zs (outR k V0 (n - 1) i))
      ⟨none, none, none, [], rfl, s4, upd_same, Al.nil⟩ ?_ ?_⟩
    · rintro i σ H5 hi ⟨v6, v7, v8, zs, rfl, s5, hz5, hA5⟩
      rw [Int.toNat_natCast, llen] at hi
      refine ⟨_, rfl, ll, _, rfl, .inl (SqL.of (s5 _ _ h3)), _, rfl, by omega, by omega, for_range (lo := 0) (n := ((L.length : Nat) : Int).toNat) (fun j σ H' => ∃ (v7 v8 : Option V) (zs : List V), σ = [some (.ref x), some (.int p), some (.ref kx), some (.ref b), some (.ref ll), some (.ref lr), some (.int (0 + i)), v7, v8, none] ∧ Same H3 H' ∧ H' lr = some (.lst zs) ∧ Al (RwAt H') zs (outR k V0 (n - 1) i ++ rowR k V0 i j))
        ⟨v7, v8, zs, rfl, s5, hz5, by rw [show rowR k V0 i 0 = [] from rfl, List.append_nil]; exact hA5⟩ ?_ ?_⟩
      · rintro j σ H6 hj ⟨v7, v8, zs, rfl, s6, hz6, hA6⟩
        rw [Int.toNat_natCast, llen] at hj
        obtain ⟨q1, r1, vs1, y1, a1, a2, a3, a4, a5⟩ := (hM3.same s6).at (lf_lt (p := p) hi) (lf_lt (p := p) hj)
        rw [hVe] at a5
        have h36 := s6 _ _ h3
        have hk6 := hk3.same s6
        refine ⟨_, rfl, _, rfl, _, rfl, ll, _, _, _, rfl, rfl, SqL.of h36, atl i hi, b, _, _, _, rfl, rfl, SqL.of a1, a2, _, rfl, _, rfl, ll, _, _, _, rfl, rfl, SqL.of h36, atl j hj, r1, _, _, _, rfl, rfl, SqL.of a3, a4, ?_⟩
        refine ⟨_, rfl, k, hkx.1, _, rfl, kx, rfl, hk6, kx, k, rfl, hk6, rfl, fun H7 z7 s7 hz7 => neD_w (a5.same s7) hz7 ⟨_, rfl, ?_⟩⟩
        have s37 := s6.trans s7
        have hz7' := s7 _ _ hz6
        by_cases e : V0 i j = noneW k
        · refine ifF (by rw [decide_eq_true e]; rfl) ⟨_, _, zs, rfl, s37, hz7', ?_⟩
          have : oneR k V0 i j = [] := by unfold oneR; rw [if_pos e]
          rw [rowR_succ, this, List.append_nil]
          exact hA6.same s7
        · have hlz : zs.length ≤ 100 := by
            rw [hA6.1, List.length_append]
            have := outR_len k V0 (n - 1) i
            have := rowR_len k V0 i j
            have : i * (n - 1) ≤ 7 * 7 := Nat.mul_le_mul (by omega) (by omega)
            omega
          refine ifT (by rw [decide_eq_false e]; rfl) ⟨_, rfl, .inl ⟨rfl, _, SqL.of hz7'⟩, _, rfl, _, rfl, _, rfl, size3', fun tp htp => ⟨lr, _, _, rfl, rfl, same_upd htp _ _ hz7', sizeLt (by omega), ?_⟩⟩
          have s8 := same_upd (o := HO.tup [.int (0 + (i : Int)), .int (0 + (j : Int)), y1]) htp
          have sT := sameT_lst (o := .lst (zs ++ [.ref tp])) (s8 _ _ hz7')
          refine ⟨_, _, zs ++ [.ref tp], rfl, same_at (s37.trans s8) hlr, upd_same, ?_⟩
          have e1 : oneR k V0 i j = [⟨i, j, V0 i j⟩] := by unfold oneR; rw [if_neg e]
          rw [rowR_succ, e1, ← List.append_assoc]
          refine (((hA6.same s7).same s8).sameT sT).snoc ⟨tp, y1, rfl, sT _ _ ?_, ((a5.same s7).same s8).sameT sT⟩
          rw [upd_same]
          show some (HO.tup [V.int (0 + (i : Int)), V.int (0 + (j : Int)), y1]) = some (HO.tup [V.int (i : Int), V.int (j : Int), y1])
          rw [Int.zero_add, Int.zero_add]
      · rintro σ H6 ⟨v7, v8, zs, rfl, s6, hz6, hA6⟩
        rw [Int.toNat_natCast, llen, ← outR_succ] at hA6
        exact ⟨_, _, _, zs, rfl, s6, hz6, hA6⟩
    rintro σ H5 ⟨v6, v7, v8, zs, rfl, s5, hz5, hA5⟩
    rw [Int.toNat_natCast, llen] at hA5
    refine ⟨_, rfl, _, rfl, ll, _, rfl, .inl (SqL.of (s5 _ _ h3)), _, rfl, fun x' dx hxn hdxn _ => ?_⟩
    have en : ((L.length : Nat) : Int) = ((n - 1 : Nat) : Int) := by rw [llen]
    have := mkNet (A := A) (no := A.NoNet) (nw := A.NoWorth) (QQ := fun H' => Q (.ref x') H') (E := E) (n := n - 1) hF (hk3.same s5) hz5 hA5 hxn hdxn fun H6 s6 hN6 => q H6 x' ((s13.trans s5).trans s6) hN6
    rw [← en] at this
    exact this
end
/-! ### M20: picked ways -/
theorem pick_flat {k : Kd} (h : pick k = true) : flat k = true := by cases k <;> simp [pick, flat] at h ⊢
theorem pick_or {k : Kd} (h : pick k = true) {a b : Wo} (ga : Good k a) (gb : Good k b) : tog k a b = a ∨ tog k a b = b := by
  cases k with
  | few =>
    rcases good_few ga with rfl | ⟨i, rfl, _⟩
    · exact .inr rfl
    · rcases good_few gb with rfl | ⟨j, rfl, _⟩
      · exact .inl rfl
      · rw [tog_few]; unfold minI; split
        · exact .inr rfl
        · exact .inl rfl
  | wid =>
    obtain ⟨i, rfl, _⟩ := good_wid ga
    obtain ⟨j, rfl, _⟩ := good_wid gb
    rw [tog_wid]; unfold maxI; split
    · exact .inr rfl
    · exact .inl rfl
  | lik =>
    obtain ⟨i, rfl, _⟩ := good_lik ga
    obtain ⟨j, rfl, _⟩ := good_lik gb
    rw [tog_lik]; unfold likT; split
    · exact .inr rfl
    · exact .inl rfl
  | cnt => cases h
  | cha => cases h
  | mus => cases h
  | rst m => cases h
theorem allW_pick {k : Kd} (hk : KOk k) (h : pick k = true) {n : Nat} {rs : List Rw} (ok : RsOk k n rs) (p q : Nat) : ∀ s, ∃ c, c ≤ s ∧ allW k rs p s q = byW k rs p c q
  | 0 => ⟨0, Nat.le_refl 0, rfl⟩
  | s + 1 => by
    obtain ⟨c, hc, e⟩ := allW_pick hk h ok p q s
    rcases pick_or h (allW_good hk ok p s q) (byW_good hk ok p (s + 1) q) with h1 | h1
    · exact ⟨c, by omega, h1.trans e⟩
    · exact ⟨s + 1, Nat.le_refl _, h1⟩
section
variable {α : Type} {S : SR α}
/-- a way with the places met, the last one first -/
inductive PWay (S : SR α) (rs : List (Rg α)) (p : Nat) : List Nat → Nat → α → Prop
  | nil : PWay S rs p [p] p S.one
  | snoc {P : List Nat} {w : α} {r : Rg α} : PWay S rs p P r.s w → r ∈ rs → PWay S rs p (r.t :: P) r.t (S.mul w r.w)
theorem pway_way {rs : List (Rg α)} {p q : Nat} {P : List Nat} {w : α} (h : PWay S rs p P q w) : ∃ c, P.length = c + 1 ∧ WayG S rs p c q w := by
  induction h with
  | nil => exact ⟨0, rfl, .nil⟩
  | snoc _ hr ih =>
    obtain ⟨c, e, h⟩ := ih
    exact ⟨c + 1, by rw [List.length_cons, e], .snoc h hr⟩
theorem pway_cut (top : ∀ a, S.add S.one a = S.one) {rs : List (Rg α)} {p q : Nat} {P : List Nat} {w : α} (h : PWay S rs p P q w) : ∀ x ∈ P, ∃ c w', c + 1 ≤ P.length ∧ WayG S rs p c x w' ∧ S.le w w' := by
  induction h with
  | nil =>
    intro x hx
    rw [List.mem_singleton.1 hx]
    exact ⟨0, _, Nat.le_refl _, .nil, SR.le_refl _⟩
  | snoc h hr ih =>
    intro x hx
    rcases List.mem_cons.1 hx with rfl | hx
    · obtain ⟨c, e, h1⟩ := pway_way (.snoc h hr)
      exact ⟨c, _, by omega, h1, SR.le_refl _⟩
    · obtain ⟨c, w', h1, h2, h3⟩ := ih x hx
      exact ⟨c, w', by rw [List.length_cons]; omega, h2, SR.le_trans (mul_le_self top _ _) h3⟩
theorem pway_nd (top : ∀ a, S.add S.one a = S.one) {rs : List (Rg α)} {p q : Nat} {P : List Nat} {w : α} (h : PWay S rs p P q w) : P.Nodup ∨ ∃ c w', c + 1 < P.length ∧ WayG S rs p c q w' ∧ S.le w w' := by
  induction h with
  | nil => exact .inl (by simp)
  | snoc h hr ih =>
    rename_i P w r
    rcases ih with nd | ⟨c, w', h1, h2, h3⟩
    · by_cases hm : r.t ∈ P
      · obtain ⟨c, w', h1, h2, h3⟩ := pway_cut top h _ hm
        exact .inr ⟨c, w', by rw [List.length_cons]; omega, h2, SR.le_trans (mul_le_self top _ _) h3⟩
      · exact .inl (List.nodup_cons.2 ⟨hm, nd⟩)
    · exact .inr ⟨c + 1, _, by rw [List.length_cons]; omega, .snoc h2 hr, SR.mul_le_mul_right _ h3⟩
end
theorem toG_mem {k : Kd} {n : Nat} : ∀ {rs : List Rw} (h : RsOk k n rs) (r : Rw), r ∈ rs → ∃ g : Rg (Wk k), g ∈ toG k rs h ∧ g.s = r.s ∧ g.t = r.t ∧ g.w.1 = r.w
  | [], _, r, hr => by cases hr
  | x :: rs, h, r, hr => by
    rcases List.mem_cons.1 hr with rfl | hr
    · exact ⟨_, List.mem_cons_self, rfl, rfl, rfl⟩
    · obtain ⟨g, hg, e⟩ := toG_mem (fun y hy => h y (List.mem_cons_of_mem _ hy)) r hr
      exact ⟨g, List.mem_cons_of_mem _ hg, e⟩
/-- where the roads of a row lead -/
def ledTo (rs : List Rw) (j : Int) : Nat := match rs[j.toNat]? with
  | some r => r.t
  | none => 0
theorem wk_pway {k : Kd} (hk : KOk k) {n : Nat} {rs : List Rw} (ok : RsOk k n rs) {p : Nat} : ∀ (js : List Int) (x : Int) (y : Nat) (w : Wk k) (P : List Nat), x = y → PWay (kSR k hk) (toG k rs ok) p P y w → ∀ t wt, wkW k rs x w.1 js = some (t, wt) →
    ∃ (q : Nat) (wq : Wk k), t = q ∧ wt = wq.1 ∧ PWay (kSR k hk) (toG k rs ok) p ((js.map (ledTo rs)).reverse ++ P) q wq
  | [], x, y, w, P, e, h, t, wt, hw => by
    cases hw
    exact ⟨y, w, e, rfl, h⟩
  | j :: js, x, y, w, P, e, h, t, wt, hw => by
    change (if 0 ≤ j then _ else none) = _ at hw
    by_cases h0 : 0 ≤ j
    · rw [if_pos h0] at hw
      cases er : rs[j.toNat]? with
      | none => rw [er] at hw; cases hw
      | some r =>
        rw [er] at hw
        change (if (r.s : Int) = x then _ else none) = _ at hw
        by_cases h2 : (r.s : Int) = x
        · rw [if_pos h2] at hw
          obtain ⟨g, hg, e1, e2, e3⟩ := toG_mem ok r (List.mem_of_getElem? er)
          have h' : PWay (kSR k hk) (toG k rs ok) p P g.s w := by
            have : g.s = y := by omega
            rw [this]; exact h
          have hs := PWay.snoc h' hg
          have hw' : wkW k rs (r.t : Int) ((kSR k hk).mul w g.w).1 js = some (t, wt) := by
            show wkW k rs (r.t : Int) (beh k w.1 g.w.1) js = _
            rw [e3]; exact hw
          obtain ⟨q, wq, a1, a2, a3⟩ := wk_pway hk ok js (r.t : Int) g.t _ _ (by rw [e2]) hs t wt hw'
          refine ⟨q, wq, a1, a2, ?_⟩
          have el : ledTo rs j = g.t := by unfold ledTo; rw [er, e2]
          rw [List.map_cons, List.reverse_cons, el, List.append_assoc]
          exact a3
        · rw [if_neg h2] at hw; cases hw
    · rw [if_neg h0] at hw; cases hw
/-- the shortest of the ways of the sum's worth meets no place twice -/
theorem way_nodup {k : Kd} (hk : KOk k) (hp : pick k = true) {n : Nat} {rs : List Rw} (ok : RsOk k n rs) {F : Nat → Nat → Wo} (h : elimW k (strW k rs) n = some F) {p q : Nat} (hpn : p < n) (hqn : q < n) {js : List Int} (hw : wkW k rs p (restW k) js = some ((q : Int), tabW k F p q))
    (hmin : ∀ c, c < js.length → byW k rs p c q ≠ tabW k F p q) : (p :: js.map (ledTo rs)).Nodup := by
  have hf := pick_flat hp
  have idem := fun a => k_idem (hk := hk) (flat_ne hf) a
  have top := fun a => k_top (hk := hk) hf a
  obtain ⟨q', wq, e1, e2, h1⟩ := wk_pway hk ok (p := p) js (p : Int) p (kSR k hk).one [p] rfl .nil _ _ hw
  have e1 : q = q' := by omega
  subst e1
  have nd : ((js.map (ledTo rs)).reverse ++ [p]).Nodup := by
    rcases pway_nd top h1 with nd | ⟨c, w', g1, g2, g3⟩
    · exact nd
    · exfalso
      rw [List.length_append, List.length_reverse, List.length_map] at g1
      have hc : c < js.length := by simp at g1; omega
      refine hmin c hc ?_
      have hs := tab_all hk ok h hpn hqn (s := n + c) (.inl ⟨hf, by omega⟩)
      rw [allW_eq hk ok] at hs
      rw [byW_eq hk ok, hs]
      refine congrArg Subtype.val (SR.le_antisymm (SR.sig_mem_le (S := kSR k hk) (x := c) (List.mem_range.2 (by omega)) fun c => byG (kSR k hk) (toG k rs ok) p c q) ?_)
      have : sumBy (kSR k hk) (toG k rs ok) p q (n + c + 1) = wq := Subtype.ext (hs.symm.trans e2)
      rw [this]
      exact SR.le_trans g3 (way_le g2)
  have : ((js.map (ledTo rs)).reverse ++ [p]).reverse.Nodup := (List.reverse_perm _).nodup_iff.2 nd
  rw [List.reverse_append, List.reverse_reverse] at this
  exact this
/-- a number of steps, the first one, that gives the sum -/
theorem first_step {k : Kd} (hk : KOk k) (hp : pick k = true) {n : Nat} {rs : List Rw} (ok : RsOk k n rs) {F : Nat → Nat → Wo} (h : elimW k (strW k rs) n = some F) {p q : Nat} (hpn : p < n) (hqn : q < n) : ∃ s, s < n ∧ byW k rs p s q = tabW k F p q ∧ ∀ c, c < s → byW k rs p c q ≠ tabW k F p q := by
  obtain ⟨c, hc, e⟩ := allW_pick hk hp ok p q (n - 1)
  have ht := tab_all hk ok h hpn hqn (s := n - 1) (.inl ⟨pick_flat hp, by omega⟩)
  have key : ∀ m, (∃ c, c < m ∧ byW k rs p c q = tabW k F p q) → ∃ s, s < m ∧ byW k rs p s q = tabW k F p q ∧ ∀ c, c < s → byW k rs p c q ≠ tabW k F p q := by
    intro m
    induction m with
    | zero => rintro ⟨c, hc, _⟩; omega
    | succ m ih =>
      rintro ⟨c, hc, e⟩
      by_cases hx : ∃ c, c < m ∧ byW k rs p c q = tabW k F p q
      · obtain ⟨s, h1, h2, h3⟩ := ih hx
        exact ⟨s, by omega, h2, h3⟩
      · have : c = m := by
          by_cases h' : c < m
          · exact absurd ⟨c, h', e⟩ hx
          · omega
        subst this
        exact ⟨c, by omega, e, fun c' hc' e' => hx ⟨c', hc', e'⟩⟩
  obtain ⟨s, h1, h2, h3⟩ := key n ⟨c, by omega, (ht.trans e).symm⟩
  exact ⟨s, h1, h2, h3⟩
/-- bounds of ways by few steps, of picking kinds -/
theorem stepB_pick {k : Kd} (hp : pick k = true) {most extra n s : Nat} {rs : List Rw} (N : NetD k most extra n rs) (hx : extra ≤ 64) (hs : s ≤ 9) : ∃ L c d, StepB k rs L c d s := by
  have hl := N.len
  cases k with
  | few => exact ⟨1, 0, 1, ⟨Nat.le_refl 1, by decide, fun _ _ => trivial, fun h => Bool.noConfusion h⟩⟩
  | wid => exact ⟨1, 0, 1, ⟨Nat.le_refl 1, by decide, fun _ _ => trivial, fun h => Bool.noConfusion h⟩⟩
  | lik =>
    refine ⟨1, 4, 1, ⟨Nat.le_refl 1, by decide, fun r hr => N.sz rfl r hr, fun _ => ?_⟩⟩
    have h1 : (s + 1) * (4 + rs.length + 1 + 1) ≤ 10 * 70 := Nat.mul_le_mul (by omega) (by omega)
    omega
  | cnt => cases hp
  | cha => cases hp
  | mus => cases hp
  | rst m => cases hp
/-! ### W11: ways that bear the sum -/
/-- the roads that bear the worths of one step more -/
def BearAt (k : Kd) (n : Nat) (rs : List Rw) (p s : Nat) (ls : List V) : Prop := ls.length = n ∧ ∀ t, t < n → byW k rs p (s + 1) t = noneW k ∨ ∃ (j : Nat) (r : Rw), ls[t]? = some (.int j) ∧ rs[j]? = some r ∧ r.t = t ∧ byW k rs p (s + 1) t = beh k (byW k rs p s r.s) r.w
/-- spread(net, row) -/
def spSpread (A : Ad) : Sp := fun vs H Q _ => ∃ (x ra : Addr) (k : Kd) (n : Nat) (rs : List Rw) (p s : Nat), vs = [.ref x, .ref ra] ∧ NetAt A H x k n rs ∧ KOk k ∧ pick k = true ∧ n ≤ 8 ∧ rs.length ≤ 64 ∧ RowAt H ra n (byW k rs p s) ∧ (∃ L c d, StepB k rs L c d (s + 1)) ∧
  ∀ H' b r1 r2 ls, Same H H' → H r1 = none → H r2 = none → H' b = some (.tup [.ref r1, .ref r2]) → RowAt H' r1 n (byW k rs p (s + 1)) → H' r2 = some (.lst ls) → BearAt k n rs p s ls → Q (.ref b) H'
/-- way_for(net, place, other) -/
def spWayFor (A : Ad) (np npk nw : Addr) : Sp := fun vs H Q E => ∃ (x : Addr) (k : Kd) (n : Nat) (rs : List Rw) (p q : Int), vs = [.ref x, .int p, .int q] ∧ NetAt A H x k n rs ∧ KOk k ∧ n ≤ 8 ∧ rs.length ≤ 64 ∧ (¬ ((0 ≤ p ∧ p < n) ∧ (0 ≤ q ∧ q < n)) → E (.ref np) none H) ∧
  ((0 ≤ p ∧ p < n) → (0 ≤ q ∧ q < n) → pick k = false → E (.ref npk) none H) ∧
  ((0 ≤ p ∧ p < n) → (0 ≤ q ∧ q < n) → pick k = true → TabOk k n rs ∧ (∃ L c d, StepB k rs L c d 9) ∧ ∀ F, elimW k (strW k rs) n = some F →
    (tabW k F p.toNat q.toNat = noneW k → ∀ H', Same H H' → E (.ref nw) none H') ∧
    (tabW k F p.toNat q.toNat ≠ noneW k → ∀ H' b (js : List Int), Same H H' → H b = none → H' b = some (.lst (js.map V.int)) → js.length ≤ 8 → wkW k rs p (restW k) js = some (q, tabW k F p.toNat q.toNat) → (p.toNat :: js.map (ledTo rs)).Nodup → Q (.ref b) H'))
section
variable {P : Program} {w : World} {K : PySem.W.Frag} {mg : Str → Option Value} {base : Heap} {A : Ad} {f : Addr} {fd : FuncData}
theorem fc_spread (T : Tx K mg A) (D : Dfn K mg "spread" s_spread ["net", "row"] f fd) : Fc CX0 P w K mg base 5 "spread" (spSpread A) := by
  have sc : FnScope ["net", "row", "kind", "roads", "worths", "last", "k", "worth"] ["net", "row"] (defScope s_spread) := fsc (by decide +kernel)
  refine fc0 D sc (fun vs H Q E h => ?_) (fun cdv _ outer s H vs Q E hr h => ?_)
  · obtain ⟨x, ra, k, n, rs, p, s, rfl, _⟩ := h; rfl
  · obtain ⟨x, ra, k, n, rs, p, st, rfl, hN, hko, hpk, hn8, hl64, hrow, ⟨L, c, d, hB⟩, q⟩ := h
    refine ⟨_, (pss_cons (ps_set (i := 2) sc.nd rfl (.inr rfl) (pe_m0 (th_Nkind T) hr (by decide) pass0 (pv 0))) (pss_cons (ps_set (i := 3) sc.nd rfl (.inl rfl) (pe_m0 (th_Nroads T) hr (by decide) pass0 (pv 0))) (pss_cons (ps_setLc (i := 4) (own := [("k", 6)]) (g := gName 6) (by rfl) sc.nd rfl rfl (sw_true rfl rfl rfl (by decide +kernel)) (tt := tYes) (pi_range1 (by rfl) T.n_range (pa_cons (pe_m0 (th_Nplaces T) hr (by decide) pass0 (pv 0)) pa_nil)) (blkOk_by (N := ["net", "row", "kind", "roads", "worths", "last", "k", "worth"]) (own := [("k", 6)]) (sc := (defScope s_spread)) (by decide +kernel)) (fun _ _ _ _ _ => pg_name (i := 6) sc.nd rfl (Or.inl rfl)) (fun _ _ _ _ _ => pts_nil) (fun _ _ _ _ _ => (pe_km0 (ES := fun _ => E0) (all_none T) hr (by decide) passS (pv 2)))) (pss_cons (ps_setLc (i := 5) (own := [("k", 6)]) (g := gName 6) (by rfl) sc.nd rfl rfl (sw_true rfl rfl rfl (by decide +kernel)) (tt := tYes) (pi_range1 (by rfl) T.n_range (pa_cons (pe_m0 (th_Nplaces T) hr (by decide) pass0 (pv 0)) pa_nil)) (blkOk_by (N := ["net", "row", "kind", "roads", "worths", "last", "k", "worth"]) (own := [("k", 6)]) (sc := (defScope s_spread)) (by decide +kernel)) (fun _ _ _ _ _ => pg_name (i := 6) sc.nd rfl (Or.inl rfl)) (fun _ _ _ _ _ => pts_nil) (fun _ _ _ _ _ => pe_non)) (pss_cons (ps_for PassesOwn.never rfl (pi_range1 (by rfl) T.n_range (pa_cons (pe_callB call_len_seq (by rfl) T.n_len PySem.boot_len (pa_cons (pv 3) pa_nil)) pa_nil)) (pg_name (i := 6) sc.nd rfl (.inl rfl)) (pss_cons (ps_set (i := 7) sc.nd rfl (.inl rfl) (pe_km (ES := fun _ => E0) (all_beh T) hr (by decide) passS (pv 2) (pa_cons (pe_ix ix_list (pv 1) (pe_ix ix_tup (pe_ix ix_list (pv 3) (pv 6) (fun _ _ => rfl)) pe_int (fun _ _ => rfl)) (fun _ _ => rfl)) (pa_cons (pe_ix ix_tup (pe_ix ix_list (pv 3) (pv 6) (fun _ _ => rfl)) pe_int (fun _ _ => rfl)) pa_nil)))) (pss_one (ps_if (pt_cmpR (op_neD hr.units) (pe_km (ES := fun _ => E0) (all_tog T) hr (by decide) passS (pv 2) (pa_cons (pe_ix ix_list (pv 4) (pe_ix ix_tup (pe_ix ix_list (pv 3) (pv 6) (fun _ _ => rfl)) pe_int (fun _ _ => rfl)) (fun _ _ => rfl)) (pa_cons (pv 7) pa_nil))) (pe_ix ix_list (pv 4) (pe_ix ix_tup (pe_ix ix_list (pv 3) (pv 6) (fun _ _ => rfl)) pe_int (fun _ _ => rfl)) (fun _ _ => rfl)) (nomark _)) (pss_cons (ps_asg (pv 7) (pg_sub (pv 4) (pe_ix ix_tup (pe_ix ix_list (pv 3) (pv 6) (fun _ _ => rfl)) pe_int (fun _ _ => rfl)) set_list)) (pss_one (ps_asg (pv 6) (pg_sub (pv 5) (pe_ix ix_tup (pe_ix ix_list (pv 3) (pv 6) (fun _ _ => rfl)) pe_int (fun _ _ => rfl)) set_list)))) pss_nil)))) (pss_one (ps_ret (pe_tup (pa_cons (pv 4) (pa_cons (pv 5) pa_nil)))))))))), ?_⟩
    have ok := hN.1
    refine tm_net rfl hN ⟨x, k, n, rs, rfl, hN, fun kx hkx => ?_⟩
    refine tm_net rfl hN ⟨x, k, n, rs, rfl, hN, fun la ys hla hR => ?_⟩
    have s1 := same_upd (o := HO.lst ys) hla
    have hL1 : (upd H la (.lst ys)) la = some (.lst ys) := upd_same
    have hR1 := hR.same s1
    generalize upd H la (.lst ys) = H1 at s1 hL1 hR1
    have hN1 := hN.same s1
    have hk1 := hkx.same s1
    have hrow1 := hrow.same s1
    have ylen : ys.length = rs.length := hR.1
    refine tm_net rfl hN1 ⟨x, k, n, rs, rfl, hN1, _, rfl, by omega, by omega, fun wa hwa => lc_range (lo := 0) (n := ((n : Nat) : Int).toNat) (fun i H' => Same H1 H' ∧ RowAt H' wa i fun _ => noneW k) ⟨same_upd hwa, [], upd_same, rfl, by simp⟩ ?_ ?_⟩
    · rintro i H' hi ⟨s2, vs, hv1, hv2, hv3⟩
      rw [Int.toNat_natCast] at hi
      refine ⟨rfl, k, hkx.1, _, rfl, kx, rfl, hk1.same s2, kx, k, rfl, hk1.same s2, rfl, fun H2 z s3 hz => ⟨vs, s3 _ _ hv1, sizeLt (by omega), same_at (s2.trans s3) hwa, ?_⟩⟩
      exact RowAt.snoc (H := H2) (fun j v hj => (hv3 j v hj).same s3) hv2 (sameT_lst (s3 _ _ hv1)) hz upd_same
    rintro H2 ⟨s2, hw2⟩
    rw [Int.toNat_natCast] at hw2
    refine tm_net rfl (hN1.same s2) ⟨x, k, n, rs, rfl, hN1.same s2, _, rfl, by omega, by omega, fun lsa hlsa => lc_range (lo := 0) (n := ((n : Nat) : Int).toNat) (fun i H' => Same H2 H' ∧ ∃ ls : List V, H' lsa = some (.lst ls) ∧ ls.length = i) ⟨same_upd hlsa, [], upd_same, rfl⟩ ?_ ?_⟩
    · rintro i H' hi ⟨s3, ls, h1, h2⟩
      rw [Int.toNat_natCast] at hi
      exact ⟨rfl, ls, h1, sizeLt (by omega), same_at s3 hlsa, ls ++ [.non], upd_same, by rw [List.length_append, h2]; rfl⟩
    rintro H3 ⟨s3, ls0, hls0, hlen0⟩
    rw [Int.toNat_natCast] at hlen0
    have s13 := s2.trans s3
    have hlsa1 := s2.free hlsa
    have nwl : wa ≠ lsa := by rintro rfl; obtain ⟨_, e, _⟩ := hw2; rw [e] at hlsa; cases hlsa
    refine ⟨_, rfl, la, _, rfl, .inl (SqL.of (s13 _ _ hL1)), _, rfl, by omega, by omega, for_range (lo := 0) (n := ((ys.length : Nat) : Int).toNat) (fun j σ H' => ∃ (v6 v7 : Option V) (ls : List V), σ = [some (.ref x), some (.ref ra), some (.ref kx), some (.ref la), some (.ref wa), some (.ref lsa), v6, v7] ∧ Same H1 H' ∧ RowAt H' wa n (fun t => (rs.take j).foldl (stepF k (byW k rs p st) t) (noneW k)) ∧
        H' lsa = some (.lst ls) ∧ ls.length = n ∧ ∀ t, t < n → (rs.take j).foldl (stepF k (byW k rs p st) t) (noneW k) = noneW k ∨ ∃ (i : Nat) (r : Rw), ls[t]? = some (.int i) ∧ rs[i]? = some r ∧ r.t = t ∧ (rs.take j).foldl (stepF k (byW k rs p st) t) (noneW k) = beh k (byW k rs p st r.s) r.w)
      ⟨none, none, ls0, rfl, s13, hw2.same s3, hls0, hlen0, fun t _ => .inl rfl⟩ ?_ ?_⟩
    · rintro j σ H' hj ⟨v6, v7, ls, rfl, s4, hw4, hls4, hlen4, hbear⟩
      rw [Int.toNat_natCast, ylen] at hj
      obtain ⟨r, hrj⟩ : ∃ r, rs[j]? = some r := ⟨_, List.getElem?_eq_getElem hj⟩
      obtain ⟨v, hvj, pp, wv, rfl, hpp, hww⟩ := (hR1.same s4).getR hrj
      have hmem := List.mem_of_getElem? hrj
      obtain ⟨gr, rs1, rt1⟩ := ok r hmem
      have hk4 := hk1.same s4
      have hL4 := s4 _ _ hL1
      have aty : atI ys (0 + (j : Int)) = some (.ref pp) := by rw [add_z]; exact atI_nat hvj
      obtain ⟨os, vo, ho1, ho2, ho3⟩ := (hrow1.same s4).at rs1
      have gby := byW_good hko ok p st r.s
      have gb := good_beh gby gr
      have fb : Fits k (byW k rs p st r.s) r.w := fits_of fun hb => by
        have := byW_sz hko ok (hB.le (s' := st) (by omega)) hb p r.s
        have := road_sz ok hB hb hmem
        omega
      refine ⟨k, hkx.1, _, rfl, kx, rfl, hk4, _, rfl, _, rfl, _, rfl, la, _, _, _, rfl, rfl, SqL.of hL4, aty, pp, _, _, _, rfl, rfl, SqT.of hpp, ix0, ra, _, _, _, rfl, rfl, SqL.of ho1, ho2, _, rfl, _, rfl, la, _, _, _, rfl, rfl, SqL.of hL4, aty, pp, _, _, _, rfl, rfl, SqT.of hpp, ix2,
        kx, k, _, _, _, _, rfl, hk4, rfl, ho3, hww, gby, gr, fb, fun H5 z5 s5 hz5 => ?_⟩
      have s45 := s4.trans s5
      have hk5 := hk1.same s45
      have hL5 := s45 _ _ hL1
      have hpp5 := s5 _ _ hpp
      obtain ⟨gm, zm⟩ := mid_ok hko ok hB p j r.t
      have hw5 := hw4.same s5
      obtain ⟨ws, vw, hw1, hw2', hw3⟩ := hw5.at rt1
      have step : ∀ t, (rs.take (j + 1)).foldl (stepF k (byW k rs p st) t) (noneW k) = if r.t = t then tog k ((rs.take j).foldl (stepF k (byW k rs p st) t) (noneW k)) (beh k (byW k rs p st r.s) r.w) else (rs.take j).foldl (stepF k (byW k rs p st) t) (noneW k) := fun t => by
        rw [foldl_snoc _ _ _ _ hrj]; rfl
      refine ⟨k, hkx.1, _, rfl, kx, rfl, hk5, _, rfl, _, rfl, _, rfl, la, _, _, _, rfl, rfl, SqL.of hL5, aty, pp, _, _, _, rfl, rfl, SqT.of hpp5, ix1, wa, _, _, _, rfl, rfl, SqL.of hw1, hw2', _, rfl, kx, k, _, _, _, _, rfl, hk5, rfl, hw3, hz5, gm, gb, fits_of (fun hb => ?_), fun H6 z6 s6 hz6 => ?_⟩
      · have := zm hb
        have := way_sz hko ok hB hb p r.s hmem
        omega
      have s46 := s45.trans s6
      have hL6 := s46 _ _ hL1
      have hpp6 := s6 _ _ hpp5
      have hw6 := hw5.same s6
      obtain ⟨ws6, vw6, h61, h62, h63⟩ := hw6.at rt1
      refine ⟨_, rfl, _, rfl, _, rfl, la, _, _, _, rfl, rfl, SqL.of hL6, aty, pp, _, _, _, rfl, rfl, SqT.of hpp6, ix1, wa, _, _, _, rfl, rfl, SqL.of h61, h62, neD_w hz6 h63 ⟨_, rfl, ?_⟩⟩
      have hls6 := s6 _ _ (s5 _ _ hls4)
      by_cases e : tog k ((rs.take j).foldl (stepF k (byW k rs p st) r.t) (noneW k)) (beh k (byW k rs p st r.s) r.w) = (rs.take j).foldl (stepF k (byW k rs p st) r.t) (noneW k)
      · refine ifF (by rw [decide_eq_true e]; rfl) ⟨_, _, ls, rfl, s46, ?_, hls6, hlen4, fun t ht => ?_⟩
        · refine hw6.congr fun t ht => ?_
          rw [step t]
          by_cases c : r.t = t
          · rw [if_pos c, ← c, e]
          · rw [if_neg c]
        · rw [step t]
          by_cases c : r.t = t
          · rw [if_pos c]
            have := hbear t ht
            rw [← c] at this ⊢
            rwa [e]
          · rw [if_neg c]; exact hbear t ht
      · have e2 : tog k ((rs.take j).foldl (stepF k (byW k rs p st) r.t) (noneW k)) (beh k (byW k rs p st r.s) r.w) = beh k (byW k rs p st r.s) r.w := (pick_or hpk gm gb).resolve_left e
        refine ifT (by rw [decide_eq_false e]; rfl) ?_
        obtain ⟨us, hu1, hu2, hu3⟩ := hw6
        refine ⟨_, rfl, _, rfl, _, rfl, _, rfl, la, _, _, _, rfl, rfl, SqL.of hL6, aty, pp, _, _, _, rfl, rfl, SqT.of hpp6, ix1, wa, _, _, r.t, rfl, rfl, hu1, ixN_nat (by omega), ?_⟩
        have sT := sameT_lst (o := .lst (us.set r.t z5)) hu1
        have nla : la ≠ wa := by rintro rfl; rw [hL1] at hwa; cases hwa
        have nll : la ≠ lsa := by rintro rfl; rw [hL1] at hlsa1; cases hlsa1
        have hL7 : (upd H6 wa (.lst (us.set r.t z5))) la = some (.lst ys) := by rw [upd_ne nla]; exact hL6
        have hpp7 := sT _ _ hpp6
        have hls7 : (upd H6 wa (.lst (us.set r.t z5))) lsa = some (.lst ls) := by rw [upd_ne (Ne.symm nwl)]; exact hls6
        refine ⟨_, rfl, _, rfl, _, rfl, _, rfl, la, _, _, _, rfl, rfl, SqL.of hL7, aty, pp, _, _, _, rfl, rfl, SqT.of hpp7, ix1, lsa, _, _, r.t, rfl, rfl, hls7, ixN_nat (by omega), ?_⟩
        refine ⟨_, _, ls.set r.t (.int (0 + (j : Int))), rfl, same_at (same_at s46 hwa) hlsa1, ?_, upd_same, by rw [List.length_set]; exact hlen4, fun t ht => ?_⟩
        · have hrow7 : RowAt (upd H6 wa (.lst (us.set r.t z5))) wa n _ := RowAt.put hu3 hu2 sT (hz5.same s6) upd_same
          refine (hrow7.upd nwl hls7).congr fun t ht => ?_
          rw [step t]
          by_cases c : r.t = t
          · rw [if_pos c.symm, if_pos c, ← c, e2]
          · rw [if_neg (fun z => c z.symm), if_neg c]
        · rw [step t]
          by_cases c : r.t = t
          · rw [if_pos c, ← c, e2]
            refine .inr ⟨j, r, ?_, hrj, rfl, rfl⟩
            rw [List.getElem?_set_self (by omega), Int.zero_add]
          · rw [if_neg c, List.getElem?_set_ne c]
            exact hbear t ht
    · rintro σ H' ⟨v6, v7, ls, rfl, s4, hw4, hls4, hlen4, hbear⟩
      rw [Int.toNat_natCast, ylen, List.take_length] at hw4 hbear
      refine ⟨_, rfl, _, rfl, size2, fun b hb => ?_⟩
      have s5 := same_upd (o := HO.tup [.ref wa, .ref lsa]) hb
      exact q _ b wa lsa ls (s1.trans (s4.trans s5)) (s1.free hwa) (s1.free hlsa1) upd_same (hw4.same s5) (s5 _ _ hls4) ⟨hlen4, hbear⟩
theorem beh_none_l {k : Kd} {a : Wo} (ha : Good k a) : beh k (noneW k) a = noneW k := by rw [beh_comm (good_none k) ha, beh_none ha]
theorem fc_way_for (T : Tx K mg A) (TO : Fc (L2.CX P w) P w K mg base 7 "total" (spTotal A A.NoPlace A.NoSum)) (SP : Fc CX0 P w K mg base 5 "spread" (spSpread A)) (D : Dfn K mg "way_for" s_way_for ["net", "place", "other"] f fd) : Fc (L2.CX P w) P w K mg base 8 "way_for" (spWayFor A A.NoPlace A.NoPick A.NoWay) := by
  have sc : FnScope ["net", "place", "other", "kind", "due", "row", "lasts", "found", "way", "at", "last", "k"] ["net", "place", "other"] (defScope s_way_for) := fsc (by decide +kernel)
  have z1 := T.x_NoPick
  have z2 := T.x_NoWay
  refine fcX D sc (fun vs H Q E h => ?_) (fun cdv _ outer s H vs Q E hr h => ?_)
  · obtain ⟨x, k, n, rs, p, q, rfl, _⟩ := h; rfl
  · obtain ⟨x, k, n, rs, p, q, rfl, hN, hko, hn8, hl64, qp, qk, qq⟩ := h
    refine ⟨_, (pss_cons (ps_expr (pe_m (th_Nask T) hr (by decide) passE (pv 0) (pa_cons (pv 1) pa_nil))) (pss_cons (ps_expr (pe_m (th_Nask T) hr (by decide) passE (pv 0) (pa_cons (pv 2) pa_nil))) (pss_cons (ps_set (i := 3) sc.nd rfl (.inr rfl) (pe_m0 (th_Nkind T) hr (by decide) pass0 (pv 0))) (pss_cons (ps_if (pt_not (pt_val (pe_km0 (ES := fun _ => E0) (all_pick T) hr (by decide) passS (pv 3)))) (pss_one (ps_raise rfl (takes_of rfl rfl rfl rfl) (pmk_own PySem.F.excBase_ValueError z1.ex z1.g z1.kp (raises_own z1.bs z1.ty) rfl))) pss_nil) (pss_cons (ps_set (i := 4) sc.nd rfl (.inl rfl) (pe_f TO hr (by decide) passE rfl (pa_cons (pv 0) (pa_cons (pv 1) (pa_cons (pv 2) pa_nil))))) (pss_cons (ps_if (pt_cmpR (op_eqD hr.units) (pv 4) (pe_km0 (ES := fun _ => E0) (all_none T) hr (by decide) passS (pv 3)) (nomark _)) (pss_one (ps_raise rfl (takes_of rfl rfl rfl rfl) (pmk_own PySem.F.excBase_ValueError z2.ex z2.g z2.kp (raises_own z2.bs z2.ty) rfl))) pss_nil) (pss_cons (ps_setLc (i := 5) (own := [("k", 11)]) (g := gName 11) (by rfl) sc.nd rfl rfl (sw_true rfl rfl rfl (by decide +kernel)) (tt := tYes) (pi_range1 (by rfl) T.n_range (pa_cons (pe_m0 (th_Nplaces T) hr (by decide) pass0 (pv 0)) pa_nil)) (blkOk_by (N := ["net", "place", "other", "kind", "due", "row", "lasts", "found", "way", "at", "last", "k"]) (own := [("k", 11)]) (sc := (defScope s_way_for)) (by decide +kernel)) (fun _ _ _ _ _ => pg_name (i := 11) sc.nd rfl (Or.inl rfl)) (fun _ _ _ _ _ => pts_nil) (fun _ _ _ _ _ => (pe_km0 (ES := fun _ => E0) (all_none T) hr (by decide) passS (pv 3)))) (pss_cons (ps_asg (pe_km0 (ES := fun _ => E0) (all_rest T) hr (by decide) passS (pv 3)) (pg_sub (pv 5) (pv 1) set_list)) (pss_cons (ps_set (i := 6) sc.nd rfl (.inl rfl) (pe_lst pa_nil)) (pss_cons (ps_while (passes_of rfl) (pt_cmpR (op_neD hr.units) (pe_ix ix_list (pv 5) (pv 2) (fun _ _ => rfl)) (pv 4) (nomark _)) (pss_cons (ps_set (i := 7) sc.nd rfl (.inl rfl) (pe_f SP hr (by decide) pass0 rfl (pa_cons (pv 0) (pa_cons (pv 5) pa_nil)))) (pss_cons (ps_set (i := 5) sc.nd rfl (.inl rfl) (pe_ix ix_tup (pv 7) pe_int (fun _ _ => rfl))) (pss_one (ps_expr (pe_bm PySem.F.plainAttrs_list PySem.F.slot_list_append PySem.F.type_list_append mt_append (pv 6) (pa_cons (pe_ix ix_tup (pv 7) pe_int (fun _ _ => rfl)) pa_nil))))))) (pss_cons (ps_set (i := 8) sc.nd rfl (.inl rfl) (pe_lst pa_nil)) (pss_cons (ps_set (i := 9) sc.nd rfl (.inl rfl) (pv 2)) (pss_cons (ps_for (passes_of rfl) rfl (pi_reversed (by rfl) T.n_reversed (pa_cons (pv 6) pa_nil)) (pg_name (i := 10) sc.nd rfl (.inl rfl)) (pss_cons (ps_expr (pe_bm PySem.F.plainAttrs_list PySem.F.slot_list_insert PySem.F.type_list_insert mt_insert (pv 8) (pa_cons pe_int (pa_cons (pe_ix ix_list (pv 10) (pv 9) (fun _ _ => rfl)) pa_nil)))) (pss_one (ps_set (i := 9) sc.nd rfl (.inl rfl) (pe_ix ix_tup (pe_ix ix_list (pe_m0 (th_Nroads T) hr (by decide) pass0 (pv 0)) (pe_ix ix_list (pv 10) (pv 9) (fun _ _ => rfl)) (fun _ _ => rfl)) pe_int (fun _ _ => rfl)))))) (pss_one (ps_ret (pv 8)))))))))))))))), ?_⟩
    have ok := hN.1
    refine tm_net rfl hN ⟨_, rfl, x, k, n, rs, p, rfl, hN, fun hp => ?_, fun hp => qp fun h => hp h.1⟩
    refine tm_net rfl hN ⟨_, rfl, x, k, n, rs, q, rfl, hN, fun hq => ?_, fun hq => qp fun h => hq h.2⟩
    refine tm_net rfl hN ⟨x, k, n, rs, rfl, hN, fun kx hkx => ?_⟩
    refine ⟨k, hkx.1, _, rfl, kx, rfl, hkx, kx, k, rfl, hkx, rfl, _, rfl, ?_⟩
    cases hpk : pick k with
    | false => exact ifT rfl (qk hp hq hpk)
    | true =>
    refine ifF rfl ?_
    obtain ⟨hT, ⟨L, c, d, hB⟩, qq⟩ := qq hp hq hpk
    have hne := flat_ne (pick_flat hpk)
    obtain ⟨p, rfl⟩ := nn p hp.1
    obtain ⟨q, rfl⟩ := nn q hq.1
    simp only [Int.toNat_natCast] at qq
    have hpn : p < n := by omega
    have hqn : q < n := by omega
    refine ⟨_, rfl, _, rfl, _, rfl, x, k, n, rs, p, q, rfl, hN, hko, hn8, hl64, fun _ _ => ⟨hT, fun F hF H1 z s1 hz => ?_, fun hn => absurd (elimW_cha hn) hne.2⟩, fun h => absurd ⟨hp, hq⟩ h⟩
    rw [Int.toNat_natCast, Int.toNat_natCast] at hz
    obtain ⟨qn, qy⟩ := qq F hF
    have hk1 := hkx.same s1
    refine ⟨_, rfl, k, hkx.1, _, rfl, kx, rfl, hk1, kx, k, rfl, hk1, rfl, fun H2 y s2 hy => eqD_w (hz.same s2) hy ⟨_, rfl, ?_⟩⟩
    have s12 := s1.trans s2
    by_cases e0 : tabW k F p q = noneW k
    · exact ifT (decide_eq_true e0) (qn e0 _ s12)
    refine ifF (decide_eq_false e0) ?_
    have qy := qy e0
    have hz2 := hz.same s2
    have hN2 := hN.same s12
    have hk2 := hkx.same s12
    obtain ⟨s0, hs0, es0, hmin⟩ := first_step hko hpk ok hF hpn hqn
    -- a row of none, then rest at the place
    refine tm_net rfl hN2 ⟨x, k, n, rs, rfl, hN2, _, rfl, by omega, by omega, fun D hD => lc_range (lo := 0) (n := ((n : Nat) : Int).toNat) (fun i H' => Same H2 H' ∧ RowAt H' D i fun _ => noneW k) ⟨same_upd hD, [], upd_same, rfl, by simp⟩ ?_ ?_⟩
    · rintro i H' hi ⟨s3, vs, hv1, hv2, hv3⟩
      rw [Int.toNat_natCast] at hi
      refine ⟨rfl, k, hkx.1, _, rfl, kx, rfl, hk2.same s3, kx, k, rfl, hk2.same s3, rfl, fun H3 z3 s4 hz3 => ⟨vs, s4 _ _ hv1, sizeLt (by omega), same_at (s3.trans s4) hD, ?_⟩⟩
      exact RowAt.snoc (H := H3) (fun j v hj => (hv3 j v hj).same s4) hv2 (sameT_lst (s4 _ _ hv1)) hz3 upd_same
    rintro H3 ⟨s3, hrow⟩
    rw [Int.toNat_natCast] at hrow
    refine ⟨k, hkx.1, _, rfl, kx, rfl, hk2.same s3, kx, k, rfl, hk2.same s3, rfl, fun H4 z4 s4 hz4 => ?_⟩
    obtain ⟨vs, hv1, hv2, hv3⟩ := hrow.same s4
    refine ⟨_, rfl, _, rfl, D, _, _, p, rfl, rfl, hv1, ixN_nat (by omega), ?_⟩
    have row0 : RowAt (upd H4 D (.lst (vs.set p z4))) D n (byW k rs p 0) := RowAt.put hv3 hv2 (sameT_lst hv1) hz4 upd_same
    have t2 : Same H2 (upd H4 D (.lst (vs.set p z4))) := same_at (s3.trans s4) hD
    generalize upd H4 D (.lst (vs.set p z4)) = H5 at row0 t2
    refine ⟨(by show 0 ≤ sizeLine; exact Nat.zero_le _), fun lra hlra => ?_⟩
    have u0 := same_upd (o := HO.lst []) hlra
    have hlr2 := t2.free hlra
    -- the rounds
    refine ⟨fun m σ H' => ∃ (s : Nat) (ra : Addr) (v7 : Option V) (lv : List V), m = s0 - s ∧ s ≤ s0 ∧ σ = [some (.ref x), some (.int p), some (.int q), some (.ref kx), some z, some (.ref ra), some (.ref lra), v7, none, none, none, none] ∧ Same H2 H' ∧ ra ≠ lra ∧ RowAt H' ra n (byW k rs p s) ∧
        H' lra = some (.lst lv) ∧ lv.length = s ∧ ∀ i, i < s → ∃ l ls, lv[i]? = some (.ref l) ∧ l ≠ lra ∧ H' l = some (.lst ls) ∧ BearAt k n rs p i ls,
      ⟨s0, 0, D, none, [], rfl, Nat.zero_le _, rfl, t2.trans u0, ?_, row0.same u0, upd_same, rfl, fun i hi => absurd hi (by omega)⟩, ?_⟩
    · rintro rfl; obtain ⟨_, e, _⟩ := row0; rw [e] at hlra; cases hlra
    rintro m σ H6 ⟨s, ra, v7, lv, rfl, hss, rfl, t6, nra, hrow6, hlv6, hlen6, hall6⟩
    obtain ⟨os, vo, ho1, ho2, ho3⟩ := hrow6.at hqn
    refine ⟨_, rfl, _, rfl, ra, _, _, _, rfl, rfl, SqL.of ho1, ho2, _, rfl, neD_w ho3 (hz2.same t6) ⟨_, rfl, ?_⟩⟩
    have hN6 := hN2.same t6
    by_cases es : byW k rs p s q = tabW k F p q
    · -- the end of the rounds
      refine ifF (by rw [decide_eq_true es]; rfl) ?_
      have ess : s = s0 := by
        by_cases h : s < s0
        · exact absurd es (hmin s h)
        · omega
      subst ess
      refine ⟨(by show 0 ≤ sizeLine; exact Nat.zero_le _), fun wy hwy => ⟨_, rfl, ?_⟩⟩
      have u7 := same_upd (o := HO.lst []) hwy
      have hin : ∀ {H' : Hp}, Same H6 H' → SqL K H' lra lv := fun s => SqL.of (s _ _ hlv6)
      refine ⟨_, rfl, lra, lv, rfl, hin u7, RT.for_Itv (K := K) (a := lra) (xs := lv) (fun i σ H' => ∃ (a : Nat) (v10 : Option V) (js : List Int), σ = [some (.ref x), some (.int p), some (.int q), some (.ref kx), some z, some (.ref ra), some (.ref lra), v7, some (.ref wy), some (.int a), v10, none] ∧ Same H6 H' ∧ H' wy = some (.lst (js.map V.int)) ∧ js.length = i ∧ i ≤ s ∧ a < n ∧
          wkW k rs (a : Int) (byW k rs p (s - i) a) js = some ((q : Int), tabW k F p q) ∧ byW k rs p (s - i) a ≠ noneW k)
        ⟨q, none, [], rfl, u7, upd_same, rfl, Nat.zero_le _, hqn, by rw [Nat.sub_zero, es]; rfl, by rw [Nat.sub_zero, es]; exact e0⟩ (fun _ _ _ ⟨_, _, _, _, e, _⟩ => hin e) ?_ ?_⟩
      · rintro i y σ H7 hi hy ⟨a, v10, js, rfl, t7, hw7, hjl, his, han, hwk, hne0⟩
        rw [hlen6] at hi hy
        obtain ⟨l, ls, hl1, hl2, hl3, hl4⟩ := hall6 (s - 1 - i) (by omega)
        rw [hl1] at hy
        cases hy
        have eS : s - 1 - i + 1 = s - i := by omega
        obtain ⟨j, r, hj1, hj2, hj3, hj4⟩ : ∃ (j : Nat) (r : Rw), ls[a]? = some (.int j) ∧ rs[j]? = some r ∧ r.t = a ∧ byW k rs p (s - i) a = beh k (byW k rs p (s - 1 - i) r.s) r.w := by
          rcases hl4.2 a han with h | h
          · rw [eS] at h; exact absurd h hne0
          · rw [eS] at h; exact h
        have hl7 := t7 _ _ hl3
        refine ⟨_, rfl, .inl ⟨rfl, _, SqL.of hw7⟩, _, rfl, _, rfl, l, _, _, _, rfl, rfl, SqL.of hl7, atI_nat hj1, wy, _, 0, .int j, rfl, rfl, hw7, sizeLt (by rw [List.length_map]; omega), by decide, by decide, ?_⟩
        have e8 : (js.map V.int).take (0 : Int).toNat ++ [V.int (j : Int)] ++ (js.map V.int).drop (0 : Int).toNat = (((j : Int) :: js).map V.int) := by simp
        have t8 : Same H6 (upd H7 wy (.lst ((js.map V.int).take (0 : Int).toNat ++ [V.int (j : Int)] ++ (js.map V.int).drop (0 : Int).toNat))) := same_at t7 hwy
        have hw8 : (upd H7 wy (.lst ((js.map V.int).take (0 : Int).toNat ++ [V.int (j : Int)] ++ (js.map V.int).drop (0 : Int).toNat))) wy = _ := upd_same
        generalize upd H7 wy (.lst ((js.map V.int).take (0 : Int).toNat ++ [V.int (j : Int)] ++ (js.map V.int).drop (0 : Int).toNat)) = H8 at t8 hw8 ⊢
        rw [e8] at hw8
        refine tm_net rfl (hN6.same t8) ⟨x, k, n, rs, rfl, hN6.same t8, fun la ys hla hR => ?_⟩
        have u9 := same_upd (o := HO.lst ys) hla
        obtain ⟨v, hv, pp, wv, rfl, hpp, hww⟩ := (hR.same u9).getR hj2
        refine ⟨_, rfl, _, rfl, l, _, _, _, rfl, rfl, SqL.of (u9 _ _ (t8 _ _ hl3)), atI_nat hj1, la, _, _, _, rfl, rfl, SqL.of upd_same, atI_nat hv, pp, _, _, _, rfl, rfl, SqT.of hpp, ix0, ?_⟩
        obtain ⟨gr, rs1, rt1⟩ := ok r (List.mem_of_getElem? hj2)
        refine ⟨r.s, _, (j : Int) :: js, rfl, t8.trans u9, u9 _ _ hw8, by rw [List.length_cons, hjl], by omega, rs1, ?_, ?_⟩
        · have e9 : s - (i + 1) = s - 1 - i := by omega
          show (if 0 ≤ (j : Int) then _ else none) = _
          rw [if_pos (by omega), Int.toNat_natCast, hj2]
          show (if (r.s : Int) = r.s then _ else none) = _
          rw [if_pos rfl, e9, ← hj4, hj3]
          exact hwk
        · have e9 : s - (i + 1) = s - 1 - i := by omega
          rw [e9]
          intro h
          rw [h, beh_none_l gr] at hj4
          exact hne0 hj4
      · rintro σ H7 ⟨a, v10, js, rfl, t7, hw7, hjl, his, han, hwk, hne0⟩
        rw [hlen6] at hjl
        rw [hlen6, Nat.sub_self] at hwk hne0
        have ea : a = p := by
          by_cases h : a = p
          · exact h
          · exact absurd (if_neg h) hne0
        subst ea
        have e1 : byW k rs a 0 a = restW k := if_pos rfl
        rw [e1] at hwk
        exact ⟨_, rfl, qy H7 wy js ((s12.trans t6).trans t7) ((s12.trans t6).free hwy) hw7 (by omega) hwk (way_nodup hko hpk ok hF hpn hqn hwk (by rw [hjl]; exact hmin))⟩
    · -- one round more
      have hlt : s < s0 := by
        by_cases h : s = s0
        · subst h; exact absurd es0 es
        · omega
      refine ifT (by rw [decide_eq_false es]; rfl) ⟨fun σ' H' => ∃ (ra : Addr) (v7 : Option V) (lv : List V), σ' = [some (.ref x), some (.int p), some (.int q), some (.ref kx), some z, some (.ref ra), some (.ref lra), v7, none, none, none, none] ∧ Same H2 H' ∧ ra ≠ lra ∧ RowAt H' ra n (byW k rs p (s + 1)) ∧
        H' lra = some (.lst lv) ∧ lv.length = s + 1 ∧ ∀ i, i < s + 1 → ∃ l ls, lv[i]? = some (.ref l) ∧ l ≠ lra ∧ H' l = some (.lst ls) ∧ BearAt k n rs p i ls, fun σ' H' ⟨ra, v7, lv, h⟩ => ⟨s0 - (s + 1), by omega, s + 1, ra, v7, lv, rfl, by omega, h⟩, ?_⟩
      refine ⟨_, rfl, _, rfl, x, ra, k, n, rs, p, s, rfl, hN6, hko, hpk, hn8, hl64, hrow6, ⟨L, c, d, hB.le (by omega)⟩, fun H7 b r1 r2 ls s7 hr1n hr2n hb hrow7 hls hbear => ?_⟩
      refine ⟨_, rfl, b, _, _, _, rfl, rfl, SqT.of hb, at0, ?_⟩
      have hlv7 := s7 _ _ hlv6
      have n1 : r1 ≠ lra := by rintro rfl; rw [hlv6] at hr1n; cases hr1n
      have n2 : r2 ≠ lra := by rintro rfl; rw [hlv6] at hr2n; cases hr2n
      refine ⟨_, rfl, .inl ⟨rfl, _, SqL.of hlv7⟩, _, rfl, b, _, _, _, rfl, rfl, SqT.of hb, at1, lra, _, _, rfl, rfl, hlv7, sizeLt (by omega), ?_⟩
      refine ⟨r1, _, lv ++ [.ref r2], rfl, same_at (t6.trans s7) hlr2, n1, hrow7.upd n1 hlv7, upd_same, by rw [List.length_append, hlen6]; rfl, fun i hi => ?_⟩
      by_cases h : i < s
      · obtain ⟨l, ls', a1, a2, a3, a4⟩ := hall6 i h
        exact ⟨l, ls', by rw [List.getElem?_append_left (by omega)]; exact a1, a2, by rw [upd_ne a2]; exact s7 _ _ a3, a4⟩
      · have : i = s := by omega
        subst this
        exact ⟨r2, ls, by rw [List.getElem?_append_right (by omega), hlen6, Nat.sub_self]; rfl, n2, by rw [upd_ne n2]; exact hls, hbear⟩
end
/-! ### the law -/
def spLaw (K : PySem.W.Frag) : Sp := fun vs H Q _ => ∃ (a : Addr) (ns : List Int), vs = [.ref a] ∧ SqL K H a (ns.map V.int) ∧ ns.length ≤ 63 ∧ ∀ H', Q (.bl true) H'
/-! what is no net -/
theorem netR_no {k : Kd} {n : Int} {rs : List Rd} (h : ¬ (1 ≤ n ∧ n ≤ 8) ∨ 64 < rs.length) : netR k n rs = some false := by unfold netR; rw [if_pos h]
theorem netR_off {k : Kd} {n : Int} {rs : List Rd} {r : Rd} (hr : r ∈ rs) (h : inN n r = false) : netR k n rs = some false := by
  unfold netR
  split
  · rfl
  · rw [if_pos (List.all_eq_false.2 ⟨r, hr, by rw [h]; exact Bool.false_ne_true⟩)]
theorem netR_over {n : Int} {rs : List Rd} (h : overN n rs = true) : netR .cha n rs = some false := by
  unfold netR
  split
  · rfl
  · split
    · rfl
    · rw [if_pos ⟨rfl, h⟩]
theorem shs_app (p : Int) (l1 l2 : List Rd) : ∀ a, (l1 ++ l2).foldl (fun a r => a + shOne p r) a = l2.foldl (fun a r => a + shOne p r) (l1.foldl (fun a r => a + shOne p r) a) := fun a => List.foldl_append
theorem shs_ins {p : Int} {l1 l2 : List Rd} {b : Rd} (h : isW .cha b.w = false) : shs p (l1 ++ b :: l2) = shs p (l1 ++ l2) := by
  unfold shs
  rw [shs_app, shs_app]
  have : shOne p b = 0 := by unfold shOne; rw [if_neg fun z => by rw [h] at z; exact Bool.false_ne_true z.2]
  show l2.foldl _ (_ + shOne p b) = _
  rw [this, Rat.add_zero]
theorem netR_bad {k : Kd} {n : Int} {l1 l2 : List Rd} {b : Rd} (h : netR k n (l1 ++ l2) = none) (hl : (l1 ++ l2).length ≤ 63) (hi : inN n b = true) (hw : isW k b.w = false) : netR k n (l1 ++ b :: l2) = some true := by
  unfold netR at h
  split at h
  · cases h
  rename_i c1
  split at h
  · cases h
  rename_i c2
  split at h
  · cases h
  rename_i c3
  rw [Bool.not_eq_false, List.all_append, Bool.and_eq_true] at c2
  unfold netR
  rw [if_neg, if_neg, if_neg, if_neg]
  · rw [Bool.not_eq_true, List.all_eq_false]
    exact ⟨b, by simp, by rw [hw]; exact Bool.false_ne_true⟩
  · rintro ⟨rfl, ho⟩
    refine c3 ⟨rfl, ?_⟩
    rw [← ho]
    unfold overN
    congr 1
    funext p
    rw [shs_ins hw]
  · rw [Bool.not_eq_false, List.all_append, List.all_cons, c2.1, hi, c2.2]; rfl
  · rintro (z | z)
    · exact c1 (.inl z)
    · rw [List.length_append, List.length_cons] at z
      rw [List.length_append] at hl
      omega
theorem shz_cap (p : Int) : ∀ (rs : List Rd) (a : Nat), (∀ r ∈ rs, szOne p r ≤ 101) → rs.foldl (fun a r => a + szOne p r) a ≤ a + 101 * rs.length
  | [], a, _ => Nat.le_refl _
  | r :: rs, a, h => by
    have e := h r List.mem_cons_self
    have := shz_cap p rs (a + szOne p r) fun x hx => h x (List.mem_cons_of_mem _ hx)
    rw [List.length_cons]
    show rs.foldl _ (a + szOne p r) ≤ _
    omega
theorem shz_65 {rs : List Rd} (h : ∀ p, ∀ r ∈ rs, szOne p r ≤ 101) (hl : rs.length ≤ 65) (p : Int) : shz p rs ≤ 7000 := by
  have := shz_cap p rs 1 (h p)
  have : 101 * rs.length ≤ 101 * 65 := Nat.mul_le_mul_left _ hl
  show rs.foldl _ 1 ≤ _
  omega
theorem szOne_bad {p : Int} {r : Rd} (h : isW .cha r.w = false) : szOne p r ≤ 101 := by
  unfold szOne; rw [if_neg fun z => by rw [h] at z; exact Bool.false_ne_true z.2]; omega
theorem szOne_rw {p : Int} {r : Rw} (g : Good .cha r.w) (h : sz r.w ≤ 100) : szOne p r.rd ≤ 101 := by
  unfold szOne
  split
  · show sz (.rat (vr r.w.vx)) + 1 ≤ 101
    rw [vr_vx g, ← wq_eq g]; omega
  · omega
theorem inN_s {n e : Int} (h : e < 0 ∨ n ≤ e) (t : Int) (x : Vx) : inN n ⟨e, t, x⟩ = false := by
  unfold inN
  show (if 0 ≤ e then _ else false) = false
  by_cases h0 : 0 ≤ e
  · rw [if_pos h0, if_neg (show ¬ e < n by omega)]
  · rw [if_neg h0]
theorem inN_t {n e : Int} (h : e < 0 ∨ n ≤ e) (s : Int) (x : Vx) : inN n ⟨s, e, x⟩ = false := by
  unfold inN
  show (if 0 ≤ s then if s < n then if 0 ≤ e then decide (e < n) else false else false else false) = false
  split
  · split
    · by_cases h0 : 0 ≤ e
      · rw [if_pos h0]; exact decide_eq_false (by omega)
      · rw [if_neg h0]
    · rfl
  · rfl
theorem seq_splitT {t rest : TS} {D : Ends} {σ : L2.St} {H : Hp} (PM : L2.St → Hp → Prop) (cont : ∀ σ' H', PM σ' H' → rest D σ' H') (h : ∀ R : TS, (∀ σ' H', PM σ' H' → R D σ' H') → tSeq t R D σ H) : tSeq t rest D σ H := h rest cont
/-! the nets of this law -/
abbrev rsPlain : List Rw := [⟨0, 1, .int 5⟩, ⟨1, 0, .int 2⟩, ⟨2, 2, .int 0⟩]
abbrev rsShared : List Rw := [⟨0, 1, .rat 1⟩, ⟨1, 0, .rat (1 / 2)⟩, ⟨1, 1, .rat (1 / 2)⟩, ⟨2, 0, .rat (1 / 9)⟩]
abbrev rsRing : List Rw := [⟨0, 0, .rat (1 / 3)⟩, ⟨0, 0, .rat (2 / 3)⟩, ⟨1, 0, .rat 1⟩]
abbrev rsOne : List Rw := [⟨0, 0, .int 1⟩]
abbrev rsWid : List Rw := [⟨0, 1, .int 0⟩]
theorem ndPlain : NetD .few 3 4 3 rsPlain := by
  refine ⟨by decide, by decide, by decide, fun r hr => ?_, (fun h => by cases h), (fun h => by cases h)⟩
  simp only [rsPlain, List.mem_cons, List.not_mem_nil, or_false] at hr
  rcases hr with rfl | rfl | rfl <;> exact ⟨by simp [Good], by decide, by decide⟩
theorem ndOne : NetD .cnt 1 4 1 rsOne := by
  refine ⟨by decide, by decide, by decide, fun r hr => ?_, fun _ r hr => ?_, fun h => by cases h⟩
  · rw [List.mem_singleton.1 hr]; exact ⟨by simp [Good], by decide, by decide⟩
  · rw [List.mem_singleton.1 hr]; decide +kernel
theorem ndWid : NetD .wid 2 4 2 rsWid := by
  refine ⟨by decide, by decide, by decide, fun r hr => ?_, (fun h => by cases h), (fun h => by cases h)⟩
  rw [List.mem_singleton.1 hr]; exact ⟨by simp [Good], by decide, by decide⟩
theorem ndShared : NetD .cha 3 4 3 rsShared := by
  refine ⟨by decide, by decide, by decide, fun r hr => ?_, fun _ r hr => ?_, fun _ => ⟨fun _ => 18, fun _ => ⟨by show 1 ≤ 18; decide, by show 18 < 2 ^ 23; decide⟩, fun r hr => ?_, fun i => ?_⟩⟩
  · simp only [rsShared, List.mem_cons, List.not_mem_nil, or_false] at hr
    rcases hr with rfl | rfl | rfl | rfl <;> exact ⟨by show (0 : Rat) ≤ _; decide +kernel, by decide, by decide⟩
  · simp only [rsShared, List.mem_cons, List.not_mem_nil, or_false] at hr
    rcases hr with rfl | rfl | rfl | rfl <;> decide +kernel
  · simp only [rsShared, List.mem_cons, List.not_mem_nil, or_false] at hr
    rcases hr with rfl | rfl | rfl | rfl
    · exact ⟨18, by decide +kernel⟩
    · exact ⟨9, by decide +kernel⟩
    · exact ⟨9, by decide +kernel⟩
    · exact ⟨2, by decide +kernel⟩
  · match i with
    | 0 => decide +kernel
    | 1 => decide +kernel
    | 2 => decide +kernel
    | i + 3 => simp [sumW, sumF, rsShared]; decide
theorem ndRing : NetD .cha 2 4 2 rsRing := by
  refine ⟨by decide, by decide, by decide, fun r hr => ?_, fun _ r hr => ?_, fun _ => ⟨fun _ => 3, fun _ => ⟨by show 1 ≤ 3; decide, by show 3 < 2 ^ 23; decide⟩, fun r hr => ?_, fun i => ?_⟩⟩
  · simp only [rsRing, List.mem_cons, List.not_mem_nil, or_false] at hr
    rcases hr with rfl | rfl | rfl <;> exact ⟨by show (0 : Rat) ≤ _; decide +kernel, by decide, by decide⟩
  · simp only [rsRing, List.mem_cons, List.not_mem_nil, or_false] at hr
    rcases hr with rfl | rfl | rfl <;> decide +kernel
  · simp only [rsRing, List.mem_cons, List.not_mem_nil, or_false] at hr
    rcases hr with rfl | rfl | rfl
    · exact ⟨1, by decide +kernel⟩
    · exact ⟨2, by decide +kernel⟩
    · exact ⟨3, by decide +kernel⟩
  · match i with
    | 0 => decide +kernel
    | 1 => decide +kernel
    | i + 2 => simp [sumW, sumF, rsRing]; decide
theorem ndNil {k : Kd} : NetD k 2 4 2 [] :=
  ⟨by decide, by decide, by decide, fun r hr => (by cases hr), fun _ r hr => (by cases hr), fun _ => ⟨fun _ => 1, fun _ => ⟨by show 1 ≤ 1; decide, by show 1 < 2 ^ 23; decide⟩, fun r hr => (by cases hr), fun i => by show (0 : Rat) ≤ 1; decide⟩⟩
theorem none_of {α : Type} {o : Option α} (h : o.isNone = true) : o = none := by cases o with
  | none => rfl
  | some a => cases h
theorem noShared : elimW .cha (strW .cha rsShared) 3 = none := none_of (by decide +kernel)
theorem noRing : rnd .cha (strW .cha rsRing 0 0) = none := none_of (by decide +kernel)
theorem tabPlain : ∃ F, elimW .few (strW .few rsPlain) 3 = some F ∧ tabW .few F 0 2 = noneW .few := by
  cases e : elimW .few (strW .few rsPlain) 3 with
  | none =>
    have : (elimW .few (strW .few rsPlain) 3).isNone = false := by decide +kernel
    rw [e] at this; cases this
  | some F =>
    refine ⟨F, rfl, ?_⟩
    have : (elimW .few (strW .few rsPlain) 3).map (fun F => tabW .few F 0 2) = some (noneW .few) := by decide +kernel
    rw [e] at this
    exact Option.some.inj this
theorem tabWid : ∃ F, elimW .wid (strW .wid rsWid) 2 = some F ∧ tabW .wid F 0 1 = noneW .wid := by
  cases e : elimW .wid (strW .wid rsWid) 2 with
  | none =>
    have : (elimW .wid (strW .wid rsWid) 2).isNone = false := by decide +kernel
    rw [e] at this; cases this
  | some F =>
    refine ⟨F, rfl, ?_⟩
    have : (elimW .wid (strW .wid rsWid) 2).map (fun F => tabW .wid F 0 1) = some (noneW .wid) := by decide +kernel
    rw [e] at this
    exact Option.some.inj this
def spWhich (K : PySem.W.Frag) (A : Ad) : SpE := fun cls d H Q => ∃ (D : Addr) (b0 b1 b2 b3 b4 b5 b6 b7 : Bool), cls = .ref D ∧ d = none ∧ ExcC K D ∧ PySem.W.kitOne K (.ref D) (.ref A.NoNet) = some b0 ∧ PySem.W.kitOne K (.ref D) (.ref A.NoWorth) = some b1 ∧ PySem.W.kitOne K (.ref D) (.ref A.NoPlace) = some b2 ∧ PySem.W.kitOne K (.ref D) (.ref A.NoRoad) = some b3 ∧ PySem.W.kitOne K (.ref D) (.ref A.NoSteps) = some b4 ∧ PySem.W.kitOne K (.ref D) (.ref A.NoPick) = some b5 ∧ PySem.W.kitOne K (.ref D) (.ref A.NoSum) = some b6 ∧ PySem.W.kitOne K (.ref D) (.ref A.NoWay) = some b7 ∧ PySem.W.kitOne K (.ref D) (.type "ValueError") = some true ∧
  ∀ H' p, Same H H' → H' p = some (.lst [.bl b0, .bl b1, .bl b2, .bl b3, .bl b4, .bl b5, .bl b6, .bl b7, .bl true]) → Q (.ref p) H'
def dueL (wy : Nat) : List V := (List.range 9).map fun j => V.bl (decide (j = wy ∨ j = 8))
def dueD (wy : Nat) : PyData := .list ((List.range 9).map fun j => .bool (decide (j = wy ∨ j = 8)))
theorem nice_due (wy : Nat) : Nice 1 (dueD wy) := nice_lst fun d hd => by
  obtain ⟨j, _, rfl⟩ := List.mem_map.1 hd
  exact ⟨by simp [PyData.eqv], by simp [PyData.canLay0], by simp [PyData.depth]⟩
theorem dp_due {K : PySem.W.Frag} {H : Hp} {p : Addr} {wy : Nat} (h : H p = some (.lst (dueL wy))) : Dp K H (.ref p) (dueD wy) := .lst (SqL.of h) (dpAll_by (by simp [dueL]) fun i v hi => by
  unfold dueL at hi
  rw [List.getElem?_map] at hi
  obtain ⟨j, hj, rfl⟩ := Option.map_eq_some_iff.1 hi
  have hl := (List.getElem?_eq_some_iff.1 hj).1
  rw [List.length_range] at hl
  rw [List.getElem?_range hl] at hj
  cases hj
  exact .bl _)
theorem wk_far {far : Int} (h : 0 ≤ far) : wkW .few rsPlain 0 (restW .few) [3 + far] = none := by
  show (if 0 ≤ 3 + far then (match rsPlain[(3 + far).toNat]? with | some r => if (r.s : Int) = 0 then wkW .few rsPlain r.t (beh .few (restW .few) r.w) [] else none | none => none) else none) = none
  rw [if_pos (by omega), List.getElem?_eq_none (by show 3 ≤ _; omega)]
theorem wk_neg {far : Int} (h : 0 ≤ far) : wkW .few rsPlain 0 (restW .few) [0, -1 - far, 0] = none := by
  show (if 0 ≤ -1 - far then _ else none) = none
  rw [if_neg (by omega)]
def A8 (A : Ad) : Nat → Addr
  | 0 => A.NoNet | 1 => A.NoWorth | 2 => A.NoPlace | 3 => A.NoRoad | 4 => A.NoSteps | 5 => A.NoPick | 6 => A.NoSum | _ => A.NoWay
def spDone (A : Ad) : Sp := fun vs H Q E => ∃ (wy : Nat) (c far : Int), vs = [.int wy, .int c, .int far] ∧ wy < 8 ∧ 0 ≤ far ∧ ∀ H', Same H H' → E (.ref (A8 A wy)) none H'
theorem wvR {H : Hp} {t : Addr} {q : Rat} {a b : Int} (h : H t = some (.tup [.int a, .int b])) (hn : a = q.num) (hd : b = q.den) : Wv H (.ref t) (.rat q) := ⟨t, rfl, by rw [h, hn, hd]⟩
def spSm (A : Ad) : Sp := fun vs H Q E => ∃ (x : Addr) (c : Int), vs = [.ref x, .int c] ∧ NetAt A H x .cha 3 rsShared ∧ ∀ H', Same H H' → E (.ref A.NoSum) none H'
theorem strThr {k : Kd} (hk : KOk k) {most extra n : Nat} {rs : List Rw} (N : NetD k most extra n rs) (hx : extra ≤ 64) {p : Nat} (hp : p < n) : ThrOk k n (strW k rs) p := by
  refine thrOk_of hk hp (B := 170) (fun i j _ _ => str_good hk N.ok i j) (fun hb i j _ _ => ?_) fun hb => ?_
  · have := str_sz N hx hb rs.length i j
    rw [List.take_length] at this
    have h3 : szS k ≤ 170 := by cases k <;> simp [szS]
    exact Nat.le_trans this h3
  · have h4 : 8000 ≤ lim k := by cases k <;> simp [lim]
    omega
def spPl (A : Ad) : Sp := fun vs H Q E => ∃ (x : Addr) (k : Kd) (rs : List Rw) (c far : Int), vs = [.ref x, .int c, .int far] ∧ 0 ≤ far ∧ NetAt A H x k 3 rs ∧ KOk k ∧ rs.length ≤ 64 ∧ (bitK k = true → ∀ r ∈ rs, sz r.w ≤ 100) ∧ ∀ H', Same H H' → E (.ref A.NoPlace) none H'
theorem restsSame {A : Ad} {H : Hp} {x dx : Addr} {m : Int} (h1 : H x = none) (h2 : H dx = none) : Same H (upd (upd (upd H dx (.own x)) x (.ins A.Rests dx [])) x (.ins A.Rests dx (putF "m" (.int m) []))) := same_at (same_new h1 h2) h1
theorem restsNew {A : Ad} {H : Hp} {x dx : Addr} {m : Nat} (h : 1 ≤ m ∧ m ≤ 12) : KindAt A (upd (upd (upd H dx (.own x)) x (.ins A.Rests dx [])) x (.ins A.Rests dx (putF "m" (.int (m : Int)) []))) x (.rst m) := ⟨rfl, h, dx, upd_same⟩
theorem kindNew {A : Ad} {H : Hp} {x dx : Addr} (k : Kd) (ha : Av k.x = true) (hk : KOk k) (e : kfs k = []) : KindAt A (upd (upd H dx (.own x)) x (.ins (A.C k.x) dx [])) x k := ⟨ha, hk, dx, by rw [e]; exact upd_same⟩
def spRef (C : Addr) : Sp := fun vs H Q E => ∃ c far : Int, vs = [.int c, .int far] ∧ 0 ≤ far ∧ ∀ H', Same H H' → E (.ref C) none H'
section
variable {P : Program} {w : World} {K : PySem.W.Frag} {mg : Str → Option Value} {base : Heap} {A : Ad} {f : Addr} {fd : FuncData}
theorem fe_which (T : Tx K mg A) (D : Dfn K mg "_law_which" s__law_which ["e"] f fd) : FcE P w K mg base 1 "_law_which" (spWhich K A) := by
  have sc : FnScope ["e", "first"] ["e"] (defScope s__law_which) := fsc (by decide +kernel)
  refine ⟨f, fd, "e", fn_ofE D sc fun cdv _ outer s H a oe cls d Q hz hf hr h => ?_, D.g, D.F.kp, D.b⟩
  obtain ⟨D, b0, b1, b2, b3, b4, b5, b6, b7, rfl, rfl, hC, h0, h1, h2, h3, h4, h5, h6, h7, hv, q⟩ := h
  refine ⟨_, (pss_cons (ps_set (i := 1) sc.nd rfl (.inl rfl) (pe_lst (pa_cons (pe_callB (call_isP List.mem_cons_self hz hf) (by rfl) T.n_isinstance (by decide +kernel) (pa_cons (pv 0) (pa_cons (pe_glob (v := .ref A.NoNet) rfl T.x_NoNet.g rfl) pa_nil))) (pa_cons (pe_callB (call_isP List.mem_cons_self hz hf) (by rfl) T.n_isinstance (by decide +kernel) (pa_cons (pv 0) (pa_cons (pe_glob (v := .ref A.NoWorth) rfl T.x_NoWorth.g rfl) pa_nil))) (pa_cons (pe_callB (call_isP List.mem_cons_self hz hf) (by rfl) T.n_isinstance (by decide +kernel) (pa_cons (pv 0) (pa_cons (pe_glob (v := .ref A.NoPlace) rfl T.x_NoPlace.g rfl) pa_nil))) (pa_cons (pe_callB (call_isP List.mem_cons_self hz hf) (by rfl) T.n_isinstance (by decide +kernel) (pa_cons (pv 0) (pa_cons (pe_glob (v := .ref A.NoRoad) rfl T.x_NoRoad.g rfl) pa_nil))) pa_nil)))))) (pss_cons (ps_set (i := 1) sc.nd rfl (.inl rfl) (pe_op op_cat (pv 1) (pe_lst (pa_cons (pe_callB (call_isP List.mem_cons_self hz hf) (by rfl) T.n_isinstance (by decide +kernel) (pa_cons (pv 0) (pa_cons (pe_glob (v := .ref A.NoSteps) rfl T.x_NoSteps.g rfl) pa_nil))) (pa_cons (pe_callB (call_isP List.mem_cons_self hz hf) (by rfl) T.n_isinstance (by decide +kernel) (pa_cons (pv 0) (pa_cons (pe_glob (v := .ref A.NoPick) rfl T.x_NoPick.g rfl) pa_nil))) (pa_cons (pe_callB (call_isP List.mem_cons_self hz hf) (by rfl) T.n_isinstance (by decide +kernel) (pa_cons (pv 0) (pa_cons (pe_glob (v := .ref A.NoSum) rfl T.x_NoSum.g rfl) pa_nil))) (pa_cons (pe_callB (call_isP List.mem_cons_self hz hf) (by rfl) T.n_isinstance (by decide +kernel) (pa_cons (pv 0) (pa_cons (pe_glob (v := .ref A.NoWay) rfl T.x_NoWay.g rfl) pa_nil))) pa_nil))))))) (pss_one (ps_ret (pe_op op_cat (pv 1) (pe_lst (pa_cons (pe_callB (call_isP List.mem_cons_self hz hf) (by rfl) T.n_isinstance (by decide +kernel) (pa_cons (pv 0) (pa_cons (pe_bltn (v := .ty "ValueError") (by rfl) T.n_ValueError (by decide +kernel) rfl) pa_nil))) pa_nil))))))), ?_⟩
  refine ⟨_, rfl, D, rfl, rfl, hC, _, _, _, rfl, cv_ref, h0, ?_⟩
  refine ⟨_, rfl, D, rfl, rfl, hC, _, _, _, rfl, cv_ref, h1, ?_⟩
  refine ⟨_, rfl, D, rfl, rfl, hC, _, _, _, rfl, cv_ref, h2, ?_⟩
  refine ⟨_, rfl, D, rfl, rfl, hC, _, _, _, rfl, cv_ref, h3, ?_⟩
  refine ⟨Nat.le_of_lt (sizeLt (n := 4) (by decide)), fun l1 hl1 => ⟨_, rfl, ?_⟩⟩
  refine ⟨_, rfl, D, rfl, rfl, hC, _, _, _, rfl, cv_ref, h4, ?_⟩
  refine ⟨_, rfl, D, rfl, rfl, hC, _, _, _, rfl, cv_ref, h5, ?_⟩
  refine ⟨_, rfl, D, rfl, rfl, hC, _, _, _, rfl, cv_ref, h6, ?_⟩
  refine ⟨_, rfl, D, rfl, rfl, hC, _, _, _, rfl, cv_ref, h7, ?_⟩
  have u1 := same_upd (o := HO.lst [.bl b0, .bl b1, .bl b2, .bl b3]) hl1
  refine ⟨Nat.le_of_lt (sizeLt (n := 4) (by decide)), fun l2 hl2 => ?_⟩
  have u2 := same_upd (o := HO.lst [.bl b4, .bl b5, .bl b6, .bl b7]) hl2
  refine ⟨l1, l2, _, _, rfl, rfl, u2 _ _ upd_same, upd_same, Nat.le_of_lt (sizeLt (n := 8) (by decide)), fun l3 hl3 => ?_⟩
  have u3 := same_upd (o := HO.lst ([.bl b0, .bl b1, .bl b2, .bl b3] ++ [.bl b4, .bl b5, .bl b6, .bl b7])) hl3
  refine ⟨_, rfl, _, rfl, D, rfl, rfl, hC, _, _, _, rfl, cv_ty, hv, Nat.le_of_lt (sizeLt (n := 1) (by decide)), fun l4 hl4 => ?_⟩
  have u4 := same_upd (o := HO.lst [.bl true]) hl4
  refine ⟨l3, l4, _, _, rfl, rfl, u4 _ _ upd_same, upd_same, Nat.le_of_lt (sizeLt (n := 9) (by decide)), fun l5 hl5 => ?_⟩
  exact q _ l5 ((((u1.trans u2).trans u3).trans u4).trans (same_upd hl5)) upd_same
theorem fc_no_net (T : Tx K mg A) (WT : Fc (L2.CX P w) P w K mg base 8 "without" (spWithout A A.NoNet A.NoPlace A.NoSum)) (D : Dfn K mg "_law_no_net" s__law_no_net ["cell", "far"] f fd) : Fc (L2.CX P w) P w K mg base 9 "_law_no_net" (spRef A.NoNet) := by
  have sc : FnScope ["cell", "far", "way"] ["cell", "far"] (defScope s__law_no_net) := fsc (by decide +kernel)
  have NN : Nc (L2.CX P w) P w K mg base 6 "Net" A.Net (spNet A A.NoNet A.NoWorth) := th_Net T
  refine fcX D sc (fun vs H Q E h => ?_) (fun cdv _ outer s H vs Q E hr h => ?_)
  · obtain ⟨c, far, rfl, _⟩ := h; rfl
  · obtain ⟨c, far, rfl, f0, q⟩ := h
    refine ⟨_, (pss_cons (ps_set (i := 2) sc.nd rfl (.inl rfl) (pe_op op_mod (pv 0) pe_int)) (pss_one (ps_if (ptE 2) (pss_one (ps_expr (pe_nc NN hr (by decide) passE rfl (pa_cons (pe_new0 T.c_Fewest T.b_Fewest rfl) (pa_cons (pe_ix ix_list (pe_lst (pa_cons pe_int (pa_cons (pe_op op_add pe_int (pv 1)) pa_nil))) (pe_op op_mod (pe_op op_fdiv (pv 0) pe_int) pe_int) (fun _ _ => rfl)) (pa_cons (pe_lst (pa_cons (pe_tup (pa_cons pe_int (pa_cons pe_int (pa_cons (pe_un un_neg pe_int) pa_nil)))) pa_nil)) pa_nil)))))) (pss_one (ps_if (ptE 2) (pss_one (ps_expr (pe_nc NN hr (by decide) passE rfl (pa_cons (pe_new0 T.c_Widest T.b_Widest rfl) (pa_cons pe_int (pa_cons (pe_lst (pa_cons (pe_tup (pa_cons pe_int (pa_cons pe_int (pa_cons (pe_un un_neg pe_int) pa_nil)))) (pa_cons (pe_tup (pa_cons pe_int (pa_cons (pe_op op_add pe_int (pv 1)) (pa_cons pe_int pa_nil)))) pa_nil))) pa_nil)))))) (pss_one (ps_if (ptE 2) (pss_one (ps_expr (pe_nc NN hr (by decide) passE rfl (pa_cons (pe_new0 T.c_Chances T.b_Chances rfl) (pa_cons pe_int (pa_cons (pe_lst (pa_cons (pe_tup (pa_cons pe_int (pa_cons pe_int (pa_cons (pe_tup (pa_cons pe_int (pa_cons pe_int pa_nil))) pa_nil)))) (pa_cons (pe_tup (pa_cons pe_int (pa_cons pe_int (pa_cons (pe_un un_neg pe_int) pa_nil)))) (pa_cons (pe_tup (pa_cons pe_int (pa_cons pe_int (pa_cons (pe_tup (pa_cons pe_int (pa_cons pe_int pa_nil))) pa_nil)))) pa_nil)))) pa_nil)))))) (pss_one (ps_expr (pe_f WT hr (by decide) passE rfl (pa_cons (pe_nc NN hr (by decide) passE rfl (pa_cons (pe_new0 T.c_Counted T.b_Counted rfl) (pa_cons pe_int (pa_cons (pe_lst (pa_cons (pe_tup (pa_cons pe_int (pa_cons pe_int (pa_cons pe_int pa_nil)))) pa_nil)) pa_nil)))) (pa_cons (pe_ix ix_list (pe_lst (pa_cons pe_int (pa_cons (pe_op op_add pe_int (pv 1)) pa_nil))) (pe_op op_mod (pe_op op_fdiv (pv 0) pe_int) pe_int) (fun _ _ => rfl)) pa_nil)))))))))))), ?_⟩
    have w0 := Int.emod_nonneg c (show (4 : Int) ≠ 0 by decide)
    have w4 := Int.emod_lt_of_pos c (show (0 : Int) < 4 by decide)
    try dsimp only [tAsg, gName]
    refine seq_splitT (fun σ' H' => H' = H ∧ ∃ wy, 0 ≤ wy ∧ wy < 4 ∧ σ' = [some (.int c), some (.int far), some (.int wy)]) (fun σ H4 h4 => ?_) (fun R cont => ⟨_, rfl, _, _, rfl, rfl, (by show (0 : Int) < 4; decide), cont _ _ ⟨rfl, c % 4, w0, w4, rfl⟩⟩)
    obtain ⟨rfl, wy, w0, w4, rfl⟩ := h4
    have wc : wy = 0 ∨ wy = 1 ∨ wy = 2 ∨ wy = 3 := by omega
    rcases wc with rfl | rfl | rfl | rfl
    · refine ⟨_, rfl, rfl, _, rfl, ifT (decide_eq_true rfl) ?_⟩
      refine fun kx1 kdx1 hkx1 hkdx1 hkn1 => ?_
      have u1 := same_new (C := A.Fewest) (fs := []) hkx1 hkdx1
      refine ⟨_, rfl, _, _, rfl, rfl, Nat.le_of_lt (sizeLt (n := 2) (by decide)), fun a2 ha2 => ?_⟩
      have u2 := same_upd (o := HO.lst [V.int 0, V.int (9 + far)]) ha2
      obtain ⟨y, hy, ey⟩ := atI_in (l := [V.int 0, V.int (9 + far)]) (Int.emod_nonneg (c / 4) (show (2 : Int) ≠ 0 by decide)) (Int.emod_lt_of_pos _ (by decide))
      obtain ⟨i, rfl, hi⟩ : ∃ i : Int, y = .int i ∧ ¬ (1 ≤ i ∧ i ≤ 8) := by
        simp only [List.mem_cons, List.not_mem_nil, or_false] at hy
        rcases hy with h | h <;> exact ⟨_, h, by first | trivial | omega⟩
      refine ⟨_, rfl, _, _, rfl, rfl, ⟨by decide, by decide⟩, _, _, rfl, rfl, (by show (0 : Int) < 2; decide), a2, _, _, _, rfl, rfl, SqL.of upd_same, ey, ?_⟩
      refine ⟨_, rfl, size3', fun a3 ha3 => ?_⟩
      have u3 := same_upd (o := HO.tup [V.int 0, V.int 0, V.int (-1)]) ha3
      refine ⟨Nat.le_of_lt (sizeLt (n := 1) (by decide)), fun a4 ha4 => ?_⟩
      have u4 := same_upd (o := HO.lst [V.ref a3]) ha4
      refine fun x dx hxn hdxn _ => ?_
      have un := same_new (C := A.Net) (fs := []) hxn hdxn
      have r0 : RdAt _ (.ref a3) (⟨0, 0, .int (-1)⟩ : Rd) := ⟨a3, V.int (-1), rfl, (un _ _ (u4 _ _ upd_same)), rfl⟩
      have al : Al (RdAt _) [V.ref a3] [(⟨0, 0, .int (-1)⟩ : Rd)] := (Al.nil.snoc r0)
      have he : netR .few i [⟨0, 0, .int (-1)⟩] = some false := netR_no (.inl hi)
      exact ⟨x, dx, kx1, a4, .few, i, _, _, rfl, upd_same, (((((kindNew .few rfl trivial rfl : KindAt A _ kx1 .few).same u2).same u3).same u4).same un), (un _ _ upd_same), al, (fun hc => by cases hc), (fun hn => absurd (he.symm.trans hn) (by simp)), (fun _ H9 s9 => q H9 (((((u1.trans u2).trans u3).trans u4).trans un).trans s9)), (fun hn => absurd (he.symm.trans hn) (by simp))⟩
    · refine ⟨_, rfl, rfl, _, rfl, ifF (decide_eq_false (by simp)) ?_⟩
      refine ⟨_, rfl, rfl, _, rfl, ifT (decide_eq_true rfl) ?_⟩
      refine fun kx1 kdx1 hkx1 hkdx1 hkn1 => ?_
      have u1 := same_new (C := A.Widest) (fs := []) hkx1 hkdx1
      refine ⟨_, rfl, size3', fun a2 ha2 => ?_⟩
      have u2 := same_upd (o := HO.tup [V.int 0, V.int 1, V.int (-1)]) ha2
      refine ⟨_, rfl, _, _, rfl, rfl, size3', fun a3 ha3 => ?_⟩
      have u3 := same_upd (o := HO.tup [V.int 0, V.int (2 + far), V.int 5]) ha3
      refine ⟨Nat.le_of_lt (sizeLt (n := 2) (by decide)), fun a4 ha4 => ?_⟩
      have u4 := same_upd (o := HO.lst [V.ref a2, V.ref a3]) ha4
      refine fun x dx hxn hdxn _ => ?_
      have un := same_new (C := A.Net) (fs := []) hxn hdxn
      have r0 : RdAt _ (.ref a2) (⟨0, 1, .int (-1)⟩ : Rd) := ⟨a2, V.int (-1), rfl, (un _ _ (u4 _ _ (u3 _ _ upd_same))), rfl⟩
      have r1 : RdAt _ (.ref a3) (⟨0, (2 + far), .int 5⟩ : Rd) := ⟨a3, V.int 5, rfl, (un _ _ (u4 _ _ upd_same)), rfl⟩
      have al : Al (RdAt _) [V.ref a2, V.ref a3] [(⟨0, 1, .int (-1)⟩ : Rd), (⟨0, (2 + far), .int 5⟩ : Rd)] := ((Al.nil.snoc r0).snoc r1)
      have he : netR .wid 2 [⟨0, 1, .int (-1)⟩, ⟨0, (2 + far), .int 5⟩] = some false := netR_off (r := ⟨0, 2 + far, .int 5⟩) (by simp) (inN_t (by omega) _ _)
      exact ⟨x, dx, kx1, a4, .wid, 2, _, _, rfl, upd_same, (((((kindNew .wid rfl trivial rfl : KindAt A _ kx1 .wid).same u2).same u3).same u4).same un), (un _ _ upd_same), al, (fun hc => by cases hc), (fun hn => absurd (he.symm.trans hn) (by simp)), (fun _ H9 s9 => q H9 (((((u1.trans u2).trans u3).trans u4).trans un).trans s9)), (fun hn => absurd (he.symm.trans hn) (by simp))⟩
    · refine ⟨_, rfl, rfl, _, rfl, ifF (decide_eq_false (by simp)) ?_⟩
      refine ⟨_, rfl, rfl, _, rfl, ifF (decide_eq_false (by simp)) ?_⟩
      refine ⟨_, rfl, rfl, _, rfl, ifT (decide_eq_true rfl) ?_⟩
      refine fun kx1 kdx1 hkx1 hkdx1 hkn1 => ?_
      have u1 := same_new (C := A.Chances) (fs := []) hkx1 hkdx1
      refine ⟨size2, fun a2 ha2 => ?_⟩
      have u2 := same_upd (o := HO.tup [V.int 1, V.int 2]) ha2
      refine ⟨size3', fun a3 ha3 => ?_⟩
      have u3 := same_upd (o := HO.tup [V.int 0, V.int 1, .ref a2]) ha3
      refine ⟨_, rfl, size3', fun a4 ha4 => ?_⟩
      have u4 := same_upd (o := HO.tup [V.int 1, V.int 0, V.int (-1)]) ha4
      refine ⟨size2, fun a5 ha5 => ?_⟩
      have u5 := same_upd (o := HO.tup [V.int 2, V.int 3]) ha5
      refine ⟨size3', fun a6 ha6 => ?_⟩
      have u6 := same_upd (o := HO.tup [V.int 0, V.int 0, .ref a5]) ha6
      refine ⟨Nat.le_of_lt (sizeLt (n := 3) (by decide)), fun a7 ha7 => ?_⟩
      have u7 := same_upd (o := HO.lst [V.ref a3, V.ref a4, V.ref a6]) ha7
      refine fun x dx hxn hdxn _ => ?_
      have un := same_new (C := A.Net) (fs := []) hxn hdxn
      have r0 : RdAt _ (.ref a3) (⟨0, 1, .par 1 2⟩ : Rd) := ⟨a3, .ref a2, rfl, (un _ _ (u7 _ _ (u6 _ _ (u5 _ _ (u4 _ _ upd_same))))), ⟨a2, rfl, (un _ _ (u7 _ _ (u6 _ _ (u5 _ _ (u4 _ _ (u3 _ _ upd_same))))))⟩⟩
      have r1 : RdAt _ (.ref a4) (⟨1, 0, .int (-1)⟩ : Rd) := ⟨a4, V.int (-1), rfl, (un _ _ (u7 _ _ (u6 _ _ (u5 _ _ upd_same)))), rfl⟩
      have r2 : RdAt _ (.ref a6) (⟨0, 0, .par 2 3⟩ : Rd) := ⟨a6, .ref a5, rfl, (un _ _ (u7 _ _ upd_same)), ⟨a5, rfl, (un _ _ (u7 _ _ (u6 _ _ upd_same)))⟩⟩
      have al : Al (RdAt _) [V.ref a3, V.ref a4, V.ref a6] [(⟨0, 1, .par 1 2⟩ : Rd), (⟨1, 0, .int (-1)⟩ : Rd), (⟨0, 0, .par 2 3⟩ : Rd)] := (((Al.nil.snoc r0).snoc r1).snoc r2)
      have he : netR .cha 2 [⟨0, 1, .par 1 2⟩, ⟨1, 0, .int (-1)⟩, ⟨0, 0, .par 2 3⟩] = some false := by decide +kernel
      exact ⟨x, dx, kx1, a7, .cha, 2, _, _, rfl, upd_same, ((((((((kindNew .cha rfl trivial rfl : KindAt A _ kx1 .cha).same u2).same u3).same u4).same u5).same u6).same u7).same un), (un _ _ upd_same), al, (fun _ => shz_65 (fun p r hr => by simp only [List.mem_cons, List.not_mem_nil, or_false] at hr; rcases hr with rfl | rfl | rfl <;> (unfold szOne; split <;> first | decide +kernel | omega)) (by decide)), (fun hn => absurd (he.symm.trans hn) (by simp)), (fun _ H9 s9 => q H9 ((((((((u1.trans u2).trans u3).trans u4).trans u5).trans u6).trans u7).trans un).trans s9)), (fun hn => absurd (he.symm.trans hn) (by simp))⟩
    · refine ⟨_, rfl, rfl, _, rfl, ifF (decide_eq_false (by simp)) ?_⟩
      refine ⟨_, rfl, rfl, _, rfl, ifF (decide_eq_false (by simp)) ?_⟩
      refine ⟨_, rfl, rfl, _, rfl, ifF (decide_eq_false (by simp)) ?_⟩
      refine fun kx1 kdx1 hkx1 hkdx1 hkn1 => ?_
      have u1 := same_new (C := A.Counted) (fs := []) hkx1 hkdx1
      refine ⟨size3', fun a2 ha2 => ?_⟩
      have u2 := same_upd (o := HO.tup [V.int 0, V.int 0, V.int 1]) ha2
      refine ⟨Nat.le_of_lt (sizeLt (n := 1) (by decide)), fun a3 ha3 => ?_⟩
      have u3 := same_upd (o := HO.lst [V.ref a2]) ha3
      have rwx0 : RwAt _ (.ref a2) (⟨0, 0, .int 1⟩ : Rw) := ⟨a2, V.int 1, rfl, (u3 _ _ upd_same), rfl⟩
      have alx : Al (RwAt _) [V.ref a2] rsOne := (Al.nil.snoc rwx0)
      refine fun x dx hxx hdx _ => ?_
      refine mkNet (ndOne.f (by decide) (by decide)) (((kindNew .cnt rfl trivial rfl : KindAt A _ kx1 .cnt).same u2).same u3) upd_same alx hxx hdx fun Hx sx hN => ?_
      refine ⟨_, rfl, _, _, rfl, rfl, Nat.le_of_lt (sizeLt (n := 2) (by decide)), fun a4 ha4 => ?_⟩
      have u4 := same_upd (o := HO.lst [V.int 0, V.int (1 + far)]) ha4
      obtain ⟨y, hy, ey⟩ := atI_in (l := [V.int 0, V.int (1 + far)]) (Int.emod_nonneg (c / 4) (show (2 : Int) ≠ 0 by decide)) (Int.emod_lt_of_pos _ (by decide))
      obtain ⟨i, rfl, hi⟩ : ∃ i : Int, y = .int i ∧ True := by
        simp only [List.mem_cons, List.not_mem_nil, or_false] at hy
        rcases hy with h | h <;> exact ⟨_, h, by first | trivial | omega⟩
      refine ⟨_, rfl, _, _, rfl, rfl, ⟨by decide, by decide⟩, _, _, rfl, rfl, (by show (0 : Int) < 2; decide), a4, _, _, _, rfl, rfl, SqL.of upd_same, ey, ?_⟩
      exact ⟨x, .cnt, 1, rsOne, i, rfl, hN.same u4, trivial, by decide, by decide, fun _ => q _ ((((u1.trans u2).trans u3).trans sx).trans u4), fun h => absurd rfl h, fun h => absurd rfl h⟩
theorem fc_no_worth (T : Tx K mg A) (D : Dfn K mg "_law_no_worth" s__law_no_worth ["cell", "far"] f fd) : Fc (L2.CX P w) P w K mg base 9 "_law_no_worth" (spRef A.NoWorth) := by
  have sc : FnScope ["cell", "far", "way"] ["cell", "far"] (defScope s__law_no_worth) := fsc (by decide +kernel)
  have NN : Nc (L2.CX P w) P w K mg base 6 "Net" A.Net (spNet A A.NoNet A.NoWorth) := th_Net T
  have R : Nc (L2.CX P w) P w K mg base 1 "Rests" A.Rests (spRests A) := by
    obtain ⟨f, fd, D⟩ := T.m_Rests___init__
    exact nc_Rests T.c_Rests T.a_Rests_m T.x_NoWorth D
  refine fcX D sc (fun vs H Q E h => ?_) (fun cdv _ outer s H vs Q E hr h => ?_)
  · obtain ⟨c, far, rfl, _⟩ := h; rfl
  · obtain ⟨c, far, rfl, f0, q⟩ := h
    refine ⟨_, (pss_cons (ps_set (i := 2) sc.nd rfl (.inl rfl) (pe_op op_mod (pv 0) pe_int)) (pss_one (ps_if (ptE 2) (pss_one (ps_expr (pe_nc R hr (by decide) passE rfl (pa_cons (pe_ix ix_list (pe_lst (pa_cons pe_int (pa_cons (pe_op op_add pe_int (pv 1)) pa_nil))) (pe_op op_mod (pe_op op_fdiv (pv 0) pe_int) pe_int) (fun _ _ => rfl)) pa_nil)))) (pss_one (ps_if (ptE 2) (pss_one (ps_expr (pe_nc NN hr (by decide) passE rfl (pa_cons (pe_nc R hr (by decide) passE rfl (pa_cons pe_int pa_nil)) (pa_cons pe_int (pa_cons (pe_lst (pa_cons (pe_tup (pa_cons pe_int (pa_cons pe_int (pa_cons pe_int pa_nil)))) (pa_cons (pe_tup (pa_cons pe_int (pa_cons pe_int (pa_cons pe_int pa_nil)))) pa_nil))) pa_nil)))))) (pss_one (ps_if (ptE 2) (pss_one (ps_expr (pe_nc NN hr (by decide) passE rfl (pa_cons (pe_new0 T.c_Likeliest T.b_Likeliest rfl) (pa_cons pe_int (pa_cons (pe_lst (pa_cons (pe_tup (pa_cons pe_int (pa_cons pe_int (pa_cons (pe_tup (pa_cons pe_int (pa_cons pe_int pa_nil))) pa_nil)))) (pa_cons (pe_tup (pa_cons pe_int (pa_cons pe_int (pa_cons (pe_tup (pa_cons pe_int (pa_cons pe_int pa_nil))) pa_nil)))) pa_nil))) pa_nil)))))) (pss_one (ps_expr (pe_nc NN hr (by decide) passE rfl (pa_cons (pe_new0 T.c_Musts T.b_Musts rfl) (pa_cons pe_int (pa_cons (pe_lst (pa_cons (pe_tup (pa_cons pe_int (pa_cons pe_int (pa_cons pe_int pa_nil)))) (pa_cons (pe_tup (pa_cons pe_int (pa_cons pe_int (pa_cons (pe_op op_sub (pe_un un_neg pe_int) (pv 1)) pa_nil)))) pa_nil))) pa_nil))))))))))))), ?_⟩
    have w0 := Int.emod_nonneg c (show (4 : Int) ≠ 0 by decide)
    have w4 := Int.emod_lt_of_pos c (show (0 : Int) < 4 by decide)
    try dsimp only [tAsg, gName]
    refine seq_splitT (fun σ' H' => H' = H ∧ ∃ wy, 0 ≤ wy ∧ wy < 4 ∧ σ' = [some (.int c), some (.int far), some (.int wy)]) (fun σ H4 h4 => ?_) (fun R cont => ⟨_, rfl, _, _, rfl, rfl, (by show (0 : Int) < 4; decide), cont _ _ ⟨rfl, c % 4, w0, w4, rfl⟩⟩)
    obtain ⟨rfl, wy, w0, w4, rfl⟩ := h4
    have wc : wy = 0 ∨ wy = 1 ∨ wy = 2 ∨ wy = 3 := by omega
    rcases wc with rfl | rfl | rfl | rfl
    · refine ⟨_, rfl, rfl, _, rfl, ifT (decide_eq_true rfl) ?_⟩
      refine ⟨_, rfl, _, _, rfl, rfl, Nat.le_of_lt (sizeLt (n := 2) (by decide)), fun a1 ha1 => ?_⟩
      have u1 := same_upd (o := HO.lst [V.int 0, V.int (13 + far)]) ha1
      obtain ⟨y, hy, ey⟩ := atI_in (l := [V.int 0, V.int (13 + far)]) (Int.emod_nonneg (c / 4) (show (2 : Int) ≠ 0 by decide)) (Int.emod_lt_of_pos _ (by decide))
      obtain ⟨i, rfl, hi⟩ : ∃ i : Int, y = .int i ∧ ¬ (1 ≤ i ∧ i ≤ 12) := by
        simp only [List.mem_cons, List.not_mem_nil, or_false] at hy
        rcases hy with h | h <;> exact ⟨_, h, by first | trivial | omega⟩
      refine ⟨_, rfl, _, _, rfl, rfl, ⟨by decide, by decide⟩, _, _, rfl, rfl, (by show (0 : Int) < 2; decide), a1, _, _, _, rfl, rfl, SqL.of upd_same, ey, ?_⟩
      exact fun x dx hx hdx _ => ⟨x, dx, i, rfl, upd_same, fun h => absurd h hi, fun _ => q _ (u1.trans (same_new hx hdx))⟩
    · refine ⟨_, rfl, rfl, _, rfl, ifF (decide_eq_false (by simp)) ?_⟩
      refine ⟨_, rfl, rfl, _, rfl, ifT (decide_eq_true rfl) ?_⟩
      refine fun kx1 kdx1 hkx1 hkdx1 hkn1 => ⟨kx1, kdx1, 3, rfl, upd_same, fun _ => ⟨rfl, ?_⟩, fun h => absurd ⟨by decide, by decide⟩ h⟩
      have u1 := restsSame (A := A) (m := 3) hkx1 hkdx1
      refine ⟨size3', fun a2 ha2 => ?_⟩
      have u2 := same_upd (o := HO.tup [V.int 0, V.int 0, V.int 1]) ha2
      refine ⟨size3', fun a3 ha3 => ?_⟩
      have u3 := same_upd (o := HO.tup [V.int 0, V.int 0, V.int 8]) ha3
      refine ⟨Nat.le_of_lt (sizeLt (n := 2) (by decide)), fun a4 ha4 => ?_⟩
      have u4 := same_upd (o := HO.lst [V.ref a2, V.ref a3]) ha4
      refine fun x dx hxn hdxn _ => ?_
      have un := same_new (C := A.Net) (fs := []) hxn hdxn
      have r0 : RdAt _ (.ref a2) (⟨0, 0, .int 1⟩ : Rd) := ⟨a2, V.int 1, rfl, (un _ _ (u4 _ _ (u3 _ _ upd_same))), rfl⟩
      have r1 : RdAt _ (.ref a3) (⟨0, 0, .int 8⟩ : Rd) := ⟨a3, V.int 8, rfl, (un _ _ (u4 _ _ upd_same)), rfl⟩
      have al : Al (RdAt _) [V.ref a2, V.ref a3] [(⟨0, 0, .int 1⟩ : Rd), (⟨0, 0, .int 8⟩ : Rd)] := ((Al.nil.snoc r0).snoc r1)
      have he : netR (.rst 3) 1 [⟨0, 0, .int 1⟩, ⟨0, 0, .int 8⟩] = some true := by decide +kernel
      exact ⟨x, dx, kx1, a4, (.rst 3), 1, _, _, rfl, upd_same, (((((restsNew (by decide) : KindAt A _ kx1 (.rst 3)).same u2).same u3).same u4).same un), (un _ _ upd_same), al, (fun hc => by cases hc), (fun hn => absurd (he.symm.trans hn) (by simp)), (fun hn => absurd (he.symm.trans hn) (by simp)), (fun _ H9 s9 => q H9 (((((u1.trans u2).trans u3).trans u4).trans un).trans s9))⟩
    · refine ⟨_, rfl, rfl, _, rfl, ifF (decide_eq_false (by simp)) ?_⟩
      refine ⟨_, rfl, rfl, _, rfl, ifF (decide_eq_false (by simp)) ?_⟩
      refine ⟨_, rfl, rfl, _, rfl, ifT (decide_eq_true rfl) ?_⟩
      refine fun kx1 kdx1 hkx1 hkdx1 hkn1 => ?_
      have u1 := same_new (C := A.Likeliest) (fs := []) hkx1 hkdx1
      refine ⟨size2, fun a2 ha2 => ?_⟩
      have u2 := same_upd (o := HO.tup [V.int 3, V.int 2]) ha2
      refine ⟨size3', fun a3 ha3 => ?_⟩
      have u3 := same_upd (o := HO.tup [V.int 0, V.int 0, .ref a2]) ha3
      refine ⟨size2, fun a4 ha4 => ?_⟩
      have u4 := same_upd (o := HO.tup [V.int 1, V.int 1]) ha4
      refine ⟨size3', fun a5 ha5 => ?_⟩
      have u5 := same_upd (o := HO.tup [V.int 0, V.int 0, .ref a4]) ha5
      refine ⟨Nat.le_of_lt (sizeLt (n := 2) (by decide)), fun a6 ha6 => ?_⟩
      have u6 := same_upd (o := HO.lst [V.ref a3, V.ref a5]) ha6
      refine fun x dx hxn hdxn _ => ?_
      have un := same_new (C := A.Net) (fs := []) hxn hdxn
      have r0 : RdAt _ (.ref a3) (⟨0, 0, .par 3 2⟩ : Rd) := ⟨a3, .ref a2, rfl, (un _ _ (u6 _ _ (u5 _ _ (u4 _ _ upd_same)))), ⟨a2, rfl, (un _ _ (u6 _ _ (u5 _ _ (u4 _ _ (u3 _ _ upd_same)))))⟩⟩
      have r1 : RdAt _ (.ref a5) (⟨0, 0, .par 1 1⟩ : Rd) := ⟨a5, .ref a4, rfl, (un _ _ (u6 _ _ upd_same)), ⟨a4, rfl, (un _ _ (u6 _ _ (u5 _ _ upd_same)))⟩⟩
      have al : Al (RdAt _) [V.ref a3, V.ref a5] [(⟨0, 0, .par 3 2⟩ : Rd), (⟨0, 0, .par 1 1⟩ : Rd)] := ((Al.nil.snoc r0).snoc r1)
      have he : netR .lik 1 [⟨0, 0, .par 3 2⟩, ⟨0, 0, .par 1 1⟩] = some true := by decide +kernel
      exact ⟨x, dx, kx1, a6, .lik, 1, _, _, rfl, upd_same, (((((((kindNew .lik rfl trivial rfl : KindAt A _ kx1 .lik).same u2).same u3).same u4).same u5).same u6).same un), (un _ _ upd_same), al, (fun hc => by cases hc), (fun hn => absurd (he.symm.trans hn) (by simp)), (fun hn => absurd (he.symm.trans hn) (by simp)), (fun _ H9 s9 => q H9 (((((((u1.trans u2).trans u3).trans u4).trans u5).trans u6).trans un).trans s9))⟩
    · refine ⟨_, rfl, rfl, _, rfl, ifF (decide_eq_false (by simp)) ?_⟩
      refine ⟨_, rfl, rfl, _, rfl, ifF (decide_eq_false (by simp)) ?_⟩
      refine ⟨_, rfl, rfl, _, rfl, ifF (decide_eq_false (by simp)) ?_⟩
      refine fun kx1 kdx1 hkx1 hkdx1 hkn1 => ?_
      have u1 := same_new (C := A.Musts) (fs := []) hkx1 hkdx1
      refine ⟨size3', fun a2 ha2 => ?_⟩
      have u2 := same_upd (o := HO.tup [V.int 0, V.int 1, V.int 3]) ha2
      refine ⟨_, rfl, _, rfl, _, _, rfl, rfl, size3', fun a3 ha3 => ?_⟩
      have u3 := same_upd (o := HO.tup [V.int 1, V.int 1, V.int (-1 - far)]) ha3
      refine ⟨Nat.le_of_lt (sizeLt (n := 2) (by decide)), fun a4 ha4 => ?_⟩
      have u4 := same_upd (o := HO.lst [V.ref a2, V.ref a3]) ha4
      refine fun x dx hxn hdxn _ => ?_
      have un := same_new (C := A.Net) (fs := []) hxn hdxn
      have r0 : RdAt _ (.ref a2) (⟨0, 1, .int 3⟩ : Rd) := ⟨a2, V.int 3, rfl, (un _ _ (u4 _ _ (u3 _ _ upd_same))), rfl⟩
      have r1 : RdAt _ (.ref a3) (⟨1, 1, .int (-1 - far)⟩ : Rd) := ⟨a3, V.int (-1 - far), rfl, (un _ _ (u4 _ _ upd_same)), rfl⟩
      have al : Al (RdAt _) [V.ref a2, V.ref a3] [(⟨0, 1, .int 3⟩ : Rd), (⟨1, 1, .int (-1 - far)⟩ : Rd)] := ((Al.nil.snoc r0).snoc r1)
      have he : netR .mus 2 [⟨0, 1, .int 3⟩, ⟨1, 1, .int (-1 - far)⟩] = some true := netR_bad (l1 := [⟨0, 1, .int 3⟩]) (l2 := []) (b := ⟨1, 1, .int (-1 - far)⟩) (by decide +kernel) (by decide) rfl (by simp [isW]; omega)
      exact ⟨x, dx, kx1, a4, .mus, 2, _, _, rfl, upd_same, (((((kindNew .mus rfl trivial rfl : KindAt A _ kx1 .mus).same u2).same u3).same u4).same un), (un _ _ upd_same), al, (fun hc => by cases hc), (fun hn => absurd (he.symm.trans hn) (by simp)), (fun hn => absurd (he.symm.trans hn) (by simp)), (fun _ H9 s9 => q H9 (((((u1.trans u2).trans u3).trans u4).trans un).trans s9))⟩
theorem fc_no_place (T : Tx K mg A) (WO : Fc (L2.CX P w) P w K mg base 5 "worth_of" (spWorthOf A K A.NoPlace A.NoRoad)) (BS : Fc (L2.CX P w) P w K mg base 5 "by_steps" (spBySteps A A.NoPlace A.NoSteps)) (TO : Fc (L2.CX P w) P w K mg base 7 "total" (spTotal A A.NoPlace A.NoSum)) (WT : Fc (L2.CX P w) P w K mg base 8 "without" (spWithout A A.NoNet A.NoPlace A.NoSum)) (WF : Fc (L2.CX P w) P w K mg base 8 "way_for" (spWayFor A A.NoPlace A.NoPick A.NoWay)) (D : Dfn K mg "_law_no_place" s__law_no_place ["net", "cell", "far"] f fd) : Fc (L2.CX P w) P w K mg base 9 "_law_no_place" (spPl A) := by
  have sc : FnScope ["net", "cell", "far", "place", "way"] ["net", "cell", "far"] (defScope s__law_no_place) := fsc (by decide +kernel)
  refine fcX D sc (fun vs H Q E h => ?_) (fun cdv _ outer s H vs Q E hr h => ?_)
  · obtain ⟨x, k, rs, c, far, rfl, _⟩ := h; rfl
  · obtain ⟨x, k, rs, c, far, rfl, f0, hN0, hko, hl64, hz, q⟩ := h
    refine ⟨_, (pss_cons (ps_set (i := 3) sc.nd rfl (.inl rfl) (pe_ix ix_list (pe_lst (pa_cons (pe_op op_sub (pe_un un_neg pe_int) (pv 2)) (pa_cons pe_int (pa_cons (pe_op op_add pe_int (pv 2)) pa_nil)))) (pe_op op_mod (pv 1) pe_int) (fun _ _ => rfl))) (pss_cons (ps_set (i := 4) sc.nd rfl (.inl rfl) (pe_op op_mod (pe_op op_fdiv (pv 1) pe_int) pe_int)) (pss_one (ps_if (ptE 4) (pss_one (ps_expr (pe_f WO hr (by decide) passE rfl (pa_cons (pv 0) (pa_cons (pv 3) (pa_cons (pe_lst (pa_cons pe_int pa_nil)) pa_nil)))))) (pss_one (ps_if (ptE 4) (pss_one (ps_expr (pe_f BS hr (by decide) passE rfl (pa_cons (pv 0) (pa_cons (pv 3) (pa_cons pe_int (pa_cons pe_int pa_nil))))))) (pss_one (ps_if (ptE 4) (pss_one (ps_expr (pe_f BS hr (by decide) passE rfl (pa_cons (pv 0) (pa_cons pe_int (pa_cons (pv 3) (pa_cons (pe_un un_neg pe_int) pa_nil))))))) (pss_one (ps_if (ptE 4) (pss_one (ps_expr (pe_f TO hr (by decide) passE rfl (pa_cons (pv 0) (pa_cons (pv 3) (pa_cons pe_int pa_nil)))))) (pss_one (ps_if (ptE 4) (pss_one (ps_expr (pe_f TO hr (by decide) passE rfl (pa_cons (pv 0) (pa_cons pe_int (pa_cons (pv 3) pa_nil)))))) (pss_one (ps_if (ptE 4) (pss_one (ps_expr (pe_f WT hr (by decide) passE rfl (pa_cons (pv 0) (pa_cons (pv 3) pa_nil))))) (pss_one (ps_if (ptE 4) (pss_one (ps_expr (pe_f WF hr (by decide) passE rfl (pa_cons (pv 0) (pa_cons (pv 3) (pa_cons pe_int pa_nil)))))) (pss_one (ps_expr (pe_f WF hr (by decide) passE rfl (pa_cons (pv 0) (pa_cons pe_int (pa_cons (pv 3) pa_nil)))))))))))))))))))))), ?_⟩
    refine seq_splitT (fun σ' H' => Same H H' ∧ ∃ pl : Int, ¬ (0 ≤ pl ∧ pl < ((3 : Nat) : Int)) ∧ σ' = [some (.ref x), some (.int c), some (.int far), some (.int pl), none]) (fun σ H1 h1 => ?_) (fun R cont => ?_)
    rotate_left
    · refine ⟨_, rfl, _, rfl, _, _, rfl, rfl, _, rfl, _, _, rfl, rfl, Nat.le_of_lt (sizeLt (n := 3) (by decide)), fun l hl => ?_⟩
      obtain ⟨y, hy, ey⟩ := atI_in (l := [.int (-1 - far), .int 3, .int (3 + far)]) (Int.emod_nonneg c (show (3 : Int) ≠ 0 by decide)) (Int.emod_lt_of_pos _ (by decide))
      obtain ⟨i, rfl, hi⟩ : ∃ i : Int, y = .int i ∧ ¬ (0 ≤ i ∧ i < ((3 : Nat) : Int)) := by
        simp only [List.mem_cons, List.not_mem_nil, or_false] at hy
        rcases hy with h | h | h <;> exact ⟨_, h, by omega⟩
      refine ⟨_, rfl, _, _, rfl, rfl, (by show (0 : Int) < 3; decide), l, _, _, _, rfl, rfl, SqL.of upd_same, ey, ?_⟩
      exact cont _ _ ⟨same_upd hl, i, hi, rfl⟩
    obtain ⟨s1, pl, hpl, rfl⟩ := h1
    have w0 := Int.emod_nonneg (c / 3) (show (8 : Int) ≠ 0 by decide)
    have w8 := Int.emod_lt_of_pos (c / 3) (show (0 : Int) < 8 by decide)
    refine seq_splitT (fun σ' H' => H' = H1 ∧ ∃ wy, 0 ≤ wy ∧ wy < 8 ∧ σ' = [some (.ref x), some (.int c), some (.int far), some (.int pl), some (.int wy)]) (fun σ H4 h4 => ?_) (fun R cont => ⟨_, rfl, _, _, rfl, rfl, ⟨by decide, by decide⟩, _, _, rfl, rfl, (by show (0 : Int) < 8; decide), cont _ _ ⟨rfl, c / 3 % 8, w0, w8, rfl⟩⟩)
    obtain ⟨rfl, wy, w0, w8, rfl⟩ := h4
    have hN := hN0.same s1
    have wc : wy = 0 ∨ wy = 1 ∨ wy = 2 ∨ wy = 3 ∨ wy = 4 ∨ wy = 5 ∨ wy = 6 ∨ wy = 7 := by omega
    rcases wc with rfl | rfl | rfl | rfl | rfl | rfl | rfl | rfl
    · refine ⟨_, rfl, rfl, _, rfl, ifT (decide_eq_true rfl) ?_⟩
      refine ⟨_, rfl, _, rfl, Nat.le_of_lt (sizeLt (n := 1) (by decide)), fun l hl => ?_⟩
      have u := same_upd (o := HO.lst [.int 99]) hl
      exact ⟨x, l, k, 3, rs, pl, [99], 100, rfl, hN.same u, SqL.of upd_same, hko, hl64, by decide, fun hb => ⟨hz hb, by decide⟩, fun h => absurd h hpl, fun h => absurd h hpl, fun _ => q _ (s1.trans u)⟩
    · refine ⟨_, rfl, rfl, _, rfl, ifF (decide_eq_false (by simp)) ?_⟩
      refine ⟨_, rfl, rfl, _, rfl, ifT (decide_eq_true rfl) ?_⟩
      exact ⟨_, rfl, _, rfl, x, k, 3, rs, pl, 0, 41, rfl, hN, hko, by decide, hl64, fun h => absurd h hpl, fun h => absurd h hpl, fun _ => q _ s1⟩
    · refine ⟨_, rfl, rfl, _, rfl, ifF (decide_eq_false (by simp)) ?_⟩
      refine ⟨_, rfl, rfl, _, rfl, ifF (decide_eq_false (by simp)) ?_⟩
      refine ⟨_, rfl, rfl, _, rfl, ifT (decide_eq_true rfl) ?_⟩
      exact ⟨_, rfl, _, rfl, _, rfl, x, k, 3, rs, 0, pl, -1, rfl, hN, hko, by decide, hl64, fun _ h => absurd h hpl, fun _ h => absurd h hpl, fun _ => q _ s1⟩
    · refine ⟨_, rfl, rfl, _, rfl, ifF (decide_eq_false (by simp)) ?_⟩
      refine ⟨_, rfl, rfl, _, rfl, ifF (decide_eq_false (by simp)) ?_⟩
      refine ⟨_, rfl, rfl, _, rfl, ifF (decide_eq_false (by simp)) ?_⟩
      refine ⟨_, rfl, rfl, _, rfl, ifT (decide_eq_true rfl) ?_⟩
      exact ⟨_, rfl, _, rfl, x, k, 3, rs, pl, 0, rfl, hN, hko, by decide, hl64, fun h => absurd h hpl, fun _ => q _ s1⟩
    · refine ⟨_, rfl, rfl, _, rfl, ifF (decide_eq_false (by simp)) ?_⟩
      refine ⟨_, rfl, rfl, _, rfl, ifF (decide_eq_false (by simp)) ?_⟩
      refine ⟨_, rfl, rfl, _, rfl, ifF (decide_eq_false (by simp)) ?_⟩
      refine ⟨_, rfl, rfl, _, rfl, ifF (decide_eq_false (by simp)) ?_⟩
      refine ⟨_, rfl, rfl, _, rfl, ifT (decide_eq_true rfl) ?_⟩
      exact ⟨_, rfl, _, rfl, x, k, 3, rs, 0, pl, rfl, hN, hko, by decide, hl64, fun _ h => absurd h hpl, fun _ => q _ s1⟩
    · refine ⟨_, rfl, rfl, _, rfl, ifF (decide_eq_false (by simp)) ?_⟩
      refine ⟨_, rfl, rfl, _, rfl, ifF (decide_eq_false (by simp)) ?_⟩
      refine ⟨_, rfl, rfl, _, rfl, ifF (decide_eq_false (by simp)) ?_⟩
      refine ⟨_, rfl, rfl, _, rfl, ifF (decide_eq_false (by simp)) ?_⟩
      refine ⟨_, rfl, rfl, _, rfl, ifF (decide_eq_false (by simp)) ?_⟩
      refine ⟨_, rfl, rfl, _, rfl, ifT (decide_eq_true rfl) ?_⟩
      exact ⟨_, rfl, _, rfl, x, k, 3, rs, pl, rfl, hN, hko, by decide, hl64, fun h => absurd h (by decide), fun _ _ => q _ s1, fun _ h => absurd h hpl⟩
    · refine ⟨_, rfl, rfl, _, rfl, ifF (decide_eq_false (by simp)) ?_⟩
      refine ⟨_, rfl, rfl, _, rfl, ifF (decide_eq_false (by simp)) ?_⟩
      refine ⟨_, rfl, rfl, _, rfl, ifF (decide_eq_false (by simp)) ?_⟩
      refine ⟨_, rfl, rfl, _, rfl, ifF (decide_eq_false (by simp)) ?_⟩
      refine ⟨_, rfl, rfl, _, rfl, ifF (decide_eq_false (by simp)) ?_⟩
      refine ⟨_, rfl, rfl, _, rfl, ifF (decide_eq_false (by simp)) ?_⟩
      refine ⟨_, rfl, rfl, _, rfl, ifT (decide_eq_true rfl) ?_⟩
      exact ⟨_, rfl, _, rfl, x, k, 3, rs, pl, 0, rfl, hN, hko, by decide, hl64, fun _ => q _ s1, fun h => absurd h hpl, fun h => absurd h hpl⟩
    · refine ⟨_, rfl, rfl, _, rfl, ifF (decide_eq_false (by simp)) ?_⟩
      refine ⟨_, rfl, rfl, _, rfl, ifF (decide_eq_false (by simp)) ?_⟩
      refine ⟨_, rfl, rfl, _, rfl, ifF (decide_eq_false (by simp)) ?_⟩
      refine ⟨_, rfl, rfl, _, rfl, ifF (decide_eq_false (by simp)) ?_⟩
      refine ⟨_, rfl, rfl, _, rfl, ifF (decide_eq_false (by simp)) ?_⟩
      refine ⟨_, rfl, rfl, _, rfl, ifF (decide_eq_false (by simp)) ?_⟩
      refine ⟨_, rfl, rfl, _, rfl, ifF (decide_eq_false (by simp)) ?_⟩
      exact ⟨_, rfl, _, rfl, x, k, 3, rs, 0, pl, rfl, hN, hko, by decide, hl64, fun _ => q _ s1, fun _ h => absurd h hpl, fun _ h => absurd h hpl⟩
theorem fc_no_sum (T : Tx K mg A) (TA : Fc (L2.CX P w) P w K mg base 6 "table" (spTable A A.NoSum)) (TO : Fc (L2.CX P w) P w K mg base 7 "total" (spTotal A A.NoPlace A.NoSum)) (WT : Fc (L2.CX P w) P w K mg base 8 "without" (spWithout A A.NoNet A.NoPlace A.NoSum)) (D : Dfn K mg "_law_no_sum" s__law_no_sum ["net", "cell"] f fd) : Fc (L2.CX P w) P w K mg base 9 "_law_no_sum" (spSm A) := by
  have sc : FnScope ["net", "cell", "way"] ["net", "cell"] (defScope s__law_no_sum) := fsc (by decide +kernel)
  have NN : Nc (L2.CX P w) P w K mg base 6 "Net" A.Net (spNet A A.NoNet A.NoWorth) := th_Net T
  have hT := tabOk_net (k := .cha) trivial ndShared (by decide) (by decide) (fun _ => by decide)
  have hR := tabOk_net (k := .cha) trivial ndRing (by decide) (by decide) (fun _ => by decide)
  have noS : ∀ {α : Prop} F, elimW .cha (strW .cha rsShared) 3 = some F → α := fun F hF => absurd (noShared.symm.trans hF) (by simp)
  refine fcX D sc (fun vs H Q E h => ?_) (fun cdv _ outer s H vs Q E hr h => ?_)
  · obtain ⟨x, c, rfl, _⟩ := h; rfl
  · obtain ⟨x, c, rfl, hN0, q⟩ := h
    refine ⟨_, (pss_cons (ps_set (i := 2) sc.nd rfl (.inl rfl) (pe_op op_mod (pv 1) pe_int)) (pss_one (ps_if (ptE 2) (pss_one (ps_expr (pe_f TA hr (by decide) passE rfl (pa_cons (pv 0) pa_nil)))) (pss_one (ps_if (ptE 2) (pss_one (ps_expr (pe_f TO hr (by decide) passE rfl (pa_cons (pv 0) (pa_cons pe_int (pa_cons (pe_ix ix_list (pe_lst (pa_cons pe_int (pa_cons pe_int (pa_cons pe_int pa_nil)))) (pe_op op_mod (pe_op op_fdiv (pv 1) pe_int) pe_int) (fun _ _ => rfl)) pa_nil)))))) (pss_one (ps_expr (pe_f WT hr (by decide) passE rfl (pa_cons (pe_nc NN hr (by decide) passE rfl (pa_cons (pe_new0 T.c_Chances T.b_Chances rfl) (pa_cons pe_int (pa_cons (pe_lst (pa_cons (pe_tup (pa_cons pe_int (pa_cons pe_int (pa_cons (pe_tup (pa_cons pe_int (pa_cons pe_int pa_nil))) pa_nil)))) (pa_cons (pe_tup (pa_cons pe_int (pa_cons pe_int (pa_cons (pe_tup (pa_cons pe_int (pa_cons pe_int pa_nil))) pa_nil)))) (pa_cons (pe_tup (pa_cons pe_int (pa_cons pe_int (pa_cons (pe_tup (pa_cons pe_int (pa_cons pe_int pa_nil))) pa_nil)))) pa_nil)))) pa_nil)))) (pa_cons pe_int pa_nil)))))))))), ?_⟩
    have w0 := Int.emod_nonneg c (show (3 : Int) ≠ 0 by decide)
    have w4 := Int.emod_lt_of_pos c (show (0 : Int) < 3 by decide)
    try dsimp only [tAsg, gName]
    refine seq_splitT (fun σ' H' => H' = H ∧ ∃ wy, 0 ≤ wy ∧ wy < 3 ∧ σ' = [some (.ref x), some (.int c), some (.int wy)]) (fun σ H4 h4 => ?_) (fun R cont => ⟨_, rfl, _, _, rfl, rfl, (by show (0 : Int) < 3; decide), cont _ _ ⟨rfl, c % 3, w0, w4, rfl⟩⟩)
    obtain ⟨rfl, wy, w0, w4, rfl⟩ := h4
    have wc : wy = 0 ∨ wy = 1 ∨ wy = 2 := by omega
    rcases wc with rfl | rfl | rfl
    · refine ⟨_, rfl, rfl, _, rfl, ifT (decide_eq_true rfl) ?_⟩
      exact ⟨_, rfl, x, .cha, 3, rsShared, rfl, hN0, trivial, by decide, by decide, hT, fun F hF => noS F hF, fun _ H' s => q H' s⟩
    · refine ⟨_, rfl, rfl, _, rfl, ifF (decide_eq_false (by simp)) ?_⟩
      refine ⟨_, rfl, rfl, _, rfl, ifT (decide_eq_true rfl) ?_⟩
      refine ⟨_, rfl, Nat.le_of_lt (sizeLt (n := 3) (by decide)), fun a1 ha1 => ?_⟩
      have u1 := same_upd (o := HO.lst [V.int 0, V.int 1, V.int 2]) ha1
      obtain ⟨y, hy, ey⟩ := atI_in (l := [V.int 0, V.int 1, V.int 2]) (Int.emod_nonneg (c / 3) (show (3 : Int) ≠ 0 by decide)) (Int.emod_lt_of_pos _ (by decide))
      obtain ⟨i, rfl, hi⟩ : ∃ i : Int, y = .int i ∧ 0 ≤ i ∧ i < ((3 : Nat) : Int) := by
        simp only [List.mem_cons, List.not_mem_nil, or_false] at hy
        rcases hy with h | h | h <;> exact ⟨_, h, by first | trivial | omega⟩
      refine ⟨_, rfl, _, _, rfl, rfl, ⟨by decide, by decide⟩, _, _, rfl, rfl, (by show (0 : Int) < 3; decide), a1, _, _, _, rfl, rfl, SqL.of upd_same, ey, ?_⟩
      exact ⟨x, .cha, 3, rsShared, 0, i, rfl, hN0.same u1, trivial, by decide, by decide, fun _ _ => ⟨hT, fun F hF => noS F hF, fun _ H' s => q H' (u1.trans s)⟩, fun h => absurd ⟨⟨by decide, by decide⟩, hi⟩ h⟩
    · refine ⟨_, rfl, rfl, _, rfl, ifF (decide_eq_false (by simp)) ?_⟩
      refine ⟨_, rfl, rfl, _, rfl, ifF (decide_eq_false (by simp)) ?_⟩
      refine fun kx1 kdx1 hkx1 hkdx1 hkn1 => ?_
      have u1 := same_new (C := A.Chances) (fs := []) hkx1 hkdx1
      refine ⟨size2, fun a2 ha2 => ?_⟩
      have u2 := same_upd (o := HO.tup [V.int 1, V.int 3]) ha2
      refine ⟨size3', fun a3 ha3 => ?_⟩
      have u3 := same_upd (o := HO.tup [V.int 0, V.int 0, .ref a2]) ha3
      refine ⟨size2, fun a4 ha4 => ?_⟩
      have u4 := same_upd (o := HO.tup [V.int 2, V.int 3]) ha4
      refine ⟨size3', fun a5 ha5 => ?_⟩
      have u5 := same_upd (o := HO.tup [V.int 0, V.int 0, .ref a4]) ha5
      refine ⟨size2, fun a6 ha6 => ?_⟩
      have u6 := same_upd (o := HO.tup [V.int 1, V.int 1]) ha6
      refine ⟨size3', fun a7 ha7 => ?_⟩
      have u7 := same_upd (o := HO.tup [V.int 1, V.int 0, .ref a6]) ha7
      refine ⟨Nat.le_of_lt (sizeLt (n := 3) (by decide)), fun a8 ha8 => ?_⟩
      have u8 := same_upd (o := HO.lst [V.ref a3, V.ref a5, V.ref a7]) ha8
      have rwz0 : RwAt _ (.ref a3) (⟨0, 0, .rat (1 / 3)⟩ : Rw) := ⟨a3, .ref a2, rfl, (u8 _ _ (u7 _ _ (u6 _ _ (u5 _ _ (u4 _ _ upd_same))))), wvR (u8 _ _ (u7 _ _ (u6 _ _ (u5 _ _ (u4 _ _ (u3 _ _ upd_same)))))) (by decide +kernel) (by decide +kernel)⟩
      have rwz1 : RwAt _ (.ref a5) (⟨0, 0, .rat (2 / 3)⟩ : Rw) := ⟨a5, .ref a4, rfl, (u8 _ _ (u7 _ _ (u6 _ _ upd_same))), wvR (u8 _ _ (u7 _ _ (u6 _ _ (u5 _ _ upd_same)))) (by decide +kernel) (by decide +kernel)⟩
      have rwz2 : RwAt _ (.ref a7) (⟨1, 0, .rat 1⟩ : Rw) := ⟨a7, .ref a6, rfl, (u8 _ _ upd_same), wvR (u8 _ _ (u7 _ _ upd_same)) (by decide +kernel) (by decide +kernel)⟩
      have alz : Al (RwAt _) [V.ref a3, V.ref a5, V.ref a7] rsRing := (((Al.nil.snoc rwz0).snoc rwz1).snoc rwz2)
      refine fun z dz hxz hdz _ => ?_
      refine mkNet (ndRing.f (by decide) (by decide)) ((((((((kindNew .cha rfl trivial rfl : KindAt A _ kx1 .cha).same u2).same u3).same u4).same u5).same u6).same u7).same u8) upd_same alz hxz hdz fun Hz sz hN => ?_
      exact ⟨z, .cha, 2, rsRing, 0, rfl, hN, trivial, by decide, by decide, fun h => absurd h (by decide), fun _ h => absurd ⟨by decide, by decide⟩ h, fun _ _ => ⟨hR.str, strThr (k := .cha) trivial ndRing (by decide) (by decide), fun st hst => absurd (noRing.symm.trans hst) (by simp), fun _ H' s => q H' (((((((((u1.trans u2).trans u3).trans u4).trans u5).trans u6).trans u7).trans u8).trans sz).trans s)⟩⟩
theorem fc_done (T : Tx K mg A) (WO : Fc (L2.CX P w) P w K mg base 5 "worth_of" (spWorthOf A K A.NoPlace A.NoRoad)) (BS : Fc (L2.CX P w) P w K mg base 5 "by_steps" (spBySteps A A.NoPlace A.NoSteps)) (WF : Fc (L2.CX P w) P w K mg base 8 "way_for" (spWayFor A A.NoPlace A.NoPick A.NoWay)) (QN : Fc (L2.CX P w) P w K mg base 9 "_law_no_net" (spRef A.NoNet)) (QW : Fc (L2.CX P w) P w K mg base 9 "_law_no_worth" (spRef A.NoWorth)) (QP : Fc (L2.CX P w) P w K mg base 9 "_law_no_place" (spPl A)) (QS : Fc (L2.CX P w) P w K mg base 9 "_law_no_sum" (spSm A)) (D : Dfn K mg "_law_done" s__law_done ["way", "cell", "far"] f fd) : Fc (L2.CX P w) P w K mg base 10 "_law_done" (spDone A) := by
  have sc : FnScope ["way", "cell", "far", "plain", "shared", "other"] ["way", "cell", "far"] (defScope s__law_done) := fsc (by decide +kernel)
  have NN : Nc (L2.CX P w) P w K mg base 6 "Net" A.Net (spNet A A.NoNet A.NoWorth) := th_Net T
  have R : Nc (L2.CX P w) P w K mg base 1 "Rests" A.Rests (spRests A) := by
    obtain ⟨f, fd, D⟩ := T.m_Rests___init__
    exact nc_Rests T.c_Rests T.a_Rests_m T.x_NoWorth D
  refine fcX D sc (fun vs H Q E h => ?_) (fun cdv _ outer s H vs Q E hr h => ?_)
  · obtain ⟨wy, c, far, rfl, _⟩ := h; rfl
  · obtain ⟨wy, c, far, rfl, w8, f0, q⟩ := h
    refine ⟨_, (pss_cons (ps_set (i := 3) sc.nd rfl (.inl rfl) (pe_nc NN hr (by decide) passE rfl (pa_cons (pe_new0 T.c_Fewest T.b_Fewest rfl) (pa_cons pe_int (pa_cons (pe_lst (pa_cons (pe_tup (pa_cons pe_int (pa_cons pe_int (pa_cons pe_int pa_nil)))) (pa_cons (pe_tup (pa_cons pe_int (pa_cons pe_int (pa_cons pe_int pa_nil)))) (pa_cons (pe_tup (pa_cons pe_int (pa_cons pe_int (pa_cons pe_int pa_nil)))) pa_nil)))) pa_nil))))) (pss_cons (ps_set (i := 4) sc.nd rfl (.inl rfl) (pe_nc NN hr (by decide) passE rfl (pa_cons (pe_new0 T.c_Chances T.b_Chances rfl) (pa_cons pe_int (pa_cons (pe_lst (pa_cons (pe_tup (pa_cons pe_int (pa_cons pe_int (pa_cons (pe_tup (pa_cons pe_int (pa_cons pe_int pa_nil))) pa_nil)))) (pa_cons (pe_tup (pa_cons pe_int (pa_cons pe_int (pa_cons (pe_tup (pa_cons pe_int (pa_cons pe_int pa_nil))) pa_nil)))) (pa_cons (pe_tup (pa_cons pe_int (pa_cons pe_int (pa_cons (pe_tup (pa_cons pe_int (pa_cons pe_int pa_nil))) pa_nil)))) (pa_cons (pe_tup (pa_cons pe_int (pa_cons pe_int (pa_cons (pe_tup (pa_cons pe_int (pa_cons pe_int pa_nil))) pa_nil)))) pa_nil))))) pa_nil))))) (pss_one (ps_if (ptE 0) (pss_one (ps_expr (pe_f QN hr (by decide) passE rfl (pa_cons (pv 1) (pa_cons (pv 2) pa_nil))))) (pss_one (ps_if (ptE 0) (pss_one (ps_expr (pe_f QW hr (by decide) passE rfl (pa_cons (pv 1) (pa_cons (pv 2) pa_nil))))) (pss_one (ps_if (ptE 0) (pss_one (ps_expr (pe_f QP hr (by decide) passE rfl (pa_cons (pe_ix ix_list (pe_lst (pa_cons (pv 3) (pa_cons (pv 4) pa_nil))) (pe_op op_mod (pe_op op_fdiv (pv 1) pe_int) pe_int) (fun _ _ => rfl)) (pa_cons (pv 1) (pa_cons (pv 2) pa_nil)))))) (pss_one (ps_if (ptE 0) (pss_one (ps_expr (pe_f WO hr (by decide) passE rfl (pa_cons (pv 3) (pa_cons pe_int (pa_cons (pe_ix ix_list (pe_lst (pa_cons (pe_lst (pa_cons pe_int pa_nil)) (pa_cons (pe_lst (pa_cons pe_int (pa_cons pe_int pa_nil))) (pa_cons (pe_lst (pa_cons pe_int (pa_cons pe_int (pa_cons pe_int pa_nil)))) (pa_cons (pe_lst (pa_cons (pe_op op_add pe_int (pv 2)) pa_nil)) (pa_cons (pe_lst (pa_cons pe_int (pa_cons (pe_op op_sub (pe_un un_neg pe_int) (pv 2)) (pa_cons pe_int pa_nil)))) pa_nil)))))) (pe_op op_mod (pv 1) pe_int) (fun _ _ => rfl)) pa_nil)))))) (pss_one (ps_if (ptE 0) (pss_one (ps_expr (pe_f BS hr (by decide) passE rfl (pa_cons (pv 3) (pa_cons pe_int (pa_cons pe_int (pa_cons (pe_ix ix_list (pe_lst (pa_cons (pe_op op_sub (pe_un un_neg pe_int) (pv 2)) (pa_cons pe_int (pa_cons (pe_op op_add pe_int (pv 2)) pa_nil)))) (pe_op op_mod (pv 1) pe_int) (fun _ _ => rfl)) pa_nil))))))) (pss_one (ps_if (ptE 0) (pss_cons (ps_set (i := 5) sc.nd rfl (.inl rfl) (pe_ix ix_list (pe_lst (pa_cons (pe_new0 T.c_Counted T.b_Counted rfl) (pa_cons (pe_new0 T.c_Musts T.b_Musts rfl) (pa_cons (pe_nc R hr (by decide) passE rfl (pa_cons pe_int pa_nil)) pa_nil)))) (pe_op op_mod (pv 1) pe_int) (fun _ _ => rfl))) (pss_one (ps_expr (pe_f WF hr (by decide) passE rfl (pa_cons (pe_ix ix_list (pe_lst (pa_cons (pe_nc NN hr (by decide) passE rfl (pa_cons (pv 5) (pa_cons pe_int (pa_cons (pe_lst pa_nil) pa_nil)))) (pa_cons (pv 4) pa_nil))) (pe_op op_mod (pe_op op_fdiv (pv 1) pe_int) pe_int) (fun _ _ => rfl)) (pa_cons pe_int (pa_cons pe_int pa_nil))))))) (pss_one (ps_if (ptE 0) (pss_one (ps_expr (pe_f QS hr (by decide) passE rfl (pa_cons (pv 4) (pa_cons (pv 1) pa_nil))))) (pss_one (ps_expr (pe_f WF hr (by decide) passE rfl (pa_cons (pe_ix ix_list (pe_lst (pa_cons (pv 3) (pa_cons (pe_nc NN hr (by decide) passE rfl (pa_cons (pe_new0 T.c_Widest T.b_Widest rfl) (pa_cons pe_int (pa_cons (pe_lst (pa_cons (pe_tup (pa_cons pe_int (pa_cons pe_int (pa_cons pe_int pa_nil)))) pa_nil)) pa_nil)))) pa_nil))) (pe_op op_mod (pv 1) pe_int) (fun _ _ => rfl)) (pa_cons pe_int (pa_cons (pe_ix ix_list (pe_lst (pa_cons pe_int (pa_cons pe_int pa_nil))) (pe_op op_mod (pv 1) pe_int) (fun _ _ => rfl)) pa_nil)))))))))))))))))))))), ?_⟩
    try dsimp only [tAsg, gName]
    refine seq_splitT (fun σ' H' => Same H H' ∧ ∃ xp, NetAt A H' xp .few 3 rsPlain ∧ σ' = [some (.int (wy : Nat)), some (.int c), some (.int far), some (.ref xp), none, none]) (fun σ H1 h1 => ?_) (fun R cont => ?_)
    rotate_left
    · refine fun kx1 kdx1 hkx1 hkdx1 hkn1 => ?_
      have u1 := same_new (C := A.Fewest) (fs := []) hkx1 hkdx1
      refine ⟨size3', fun a2 ha2 => ?_⟩
      have u2 := same_upd (o := HO.tup [V.int 0, V.int 1, V.int 5]) ha2
      refine ⟨size3', fun a3 ha3 => ?_⟩
      have u3 := same_upd (o := HO.tup [V.int 1, V.int 0, V.int 2]) ha3
      refine ⟨size3', fun a4 ha4 => ?_⟩
      have u4 := same_upd (o := HO.tup [V.int 2, V.int 2, V.int 0]) ha4
      refine ⟨Nat.le_of_lt (sizeLt (n := 3) (by decide)), fun a5 ha5 => ?_⟩
      have u5 := same_upd (o := HO.lst [V.ref a2, V.ref a3, V.ref a4]) ha5
      have rwx0 : RwAt _ (.ref a2) (⟨0, 1, .int 5⟩ : Rw) := ⟨a2, V.int 5, rfl, (u5 _ _ (u4 _ _ (u3 _ _ upd_same))), rfl⟩
      have rwx1 : RwAt _ (.ref a3) (⟨1, 0, .int 2⟩ : Rw) := ⟨a3, V.int 2, rfl, (u5 _ _ (u4 _ _ upd_same)), rfl⟩
      have rwx2 : RwAt _ (.ref a4) (⟨2, 2, .int 0⟩ : Rw) := ⟨a4, V.int 0, rfl, (u5 _ _ upd_same), rfl⟩
      have alx : Al (RwAt _) [V.ref a2, V.ref a3, V.ref a4] rsPlain := (((Al.nil.snoc rwx0).snoc rwx1).snoc rwx2)
      refine fun x dx hxx hdx _ => ?_
      refine mkNet (ndPlain.f (by decide) (by decide)) (((((kindNew .few rfl trivial rfl : KindAt A _ kx1 .few).same u2).same u3).same u4).same u5) upd_same alx hxx hdx fun Hx sx hN => ?_
      exact cont _ _ ⟨(((((u1.trans u2).trans u3).trans u4).trans u5).trans sx), x, hN, rfl⟩
    obtain ⟨s1, xp, hp1, rfl⟩ := h1
    refine seq_splitT (fun σ' H' => Same H1 H' ∧ ∃ xs, NetAt A H' xs .cha 3 rsShared ∧ σ' = [some (.int (wy : Nat)), some (.int c), some (.int far), some (.ref xp), some (.ref xs), none]) (fun σ H2 h2 => ?_) (fun R cont => ?_)
    rotate_left
    · refine fun kx1 kdx1 hkx1 hkdx1 hkn1 => ?_
      have u1 := same_new (C := A.Chances) (fs := []) hkx1 hkdx1
      refine ⟨size2, fun a2 ha2 => ?_⟩
      have u2 := same_upd (o := HO.tup [V.int 1, V.int 1]) ha2
      refine ⟨size3', fun a3 ha3 => ?_⟩
      have u3 := same_upd (o := HO.tup [V.int 0, V.int 1, .ref a2]) ha3
      refine ⟨size2, fun a4 ha4 => ?_⟩
      have u4 := same_upd (o := HO.tup [V.int 1, V.int 2]) ha4
      refine ⟨size3', fun a5 ha5 => ?_⟩
      have u5 := same_upd (o := HO.tup [V.int 1, V.int 0, .ref a4]) ha5
      refine ⟨size2, fun a6 ha6 => ?_⟩
      have u6 := same_upd (o := HO.tup [V.int 1, V.int 2]) ha6
      refine ⟨size3', fun a7 ha7 => ?_⟩
      have u7 := same_upd (o := HO.tup [V.int 1, V.int 1, .ref a6]) ha7
      refine ⟨size2, fun a8 ha8 => ?_⟩
      have u8 := same_upd (o := HO.tup [V.int 1, V.int 9]) ha8
      refine ⟨size3', fun a9 ha9 => ?_⟩
      have u9 := same_upd (o := HO.tup [V.int 2, V.int 0, .ref a8]) ha9
      refine ⟨Nat.le_of_lt (sizeLt (n := 4) (by decide)), fun a10 ha10 => ?_⟩
      have u10 := same_upd (o := HO.lst [V.ref a3, V.ref a5, V.ref a7, V.ref a9]) ha10
      have rwx0 : RwAt _ (.ref a3) (⟨0, 1, .rat 1⟩ : Rw) := ⟨a3, .ref a2, rfl, (u10 _ _ (u9 _ _ (u8 _ _ (u7 _ _ (u6 _ _ (u5 _ _ (u4 _ _ upd_same))))))), wvR (u10 _ _ (u9 _ _ (u8 _ _ (u7 _ _ (u6 _ _ (u5 _ _ (u4 _ _ (u3 _ _ upd_same)))))))) (by decide +kernel) (by decide +kernel)⟩
      have rwx1 : RwAt _ (.ref a5) (⟨1, 0, .rat (1 / 2)⟩ : Rw) := ⟨a5, .ref a4, rfl, (u10 _ _ (u9 _ _ (u8 _ _ (u7 _ _ (u6 _ _ upd_same))))), wvR (u10 _ _ (u9 _ _ (u8 _ _ (u7 _ _ (u6 _ _ (u5 _ _ upd_same)))))) (by decide +kernel) (by decide +kernel)⟩
      have rwx2 : RwAt _ (.ref a7) (⟨1, 1, .rat (1 / 2)⟩ : Rw) := ⟨a7, .ref a6, rfl, (u10 _ _ (u9 _ _ (u8 _ _ upd_same))), wvR (u10 _ _ (u9 _ _ (u8 _ _ (u7 _ _ upd_same)))) (by decide +kernel) (by decide +kernel)⟩
      have rwx3 : RwAt _ (.ref a9) (⟨2, 0, .rat (1 / 9)⟩ : Rw) := ⟨a9, .ref a8, rfl, (u10 _ _ upd_same), wvR (u10 _ _ (u9 _ _ upd_same)) (by decide +kernel) (by decide +kernel)⟩
      have alx : Al (RwAt _) [V.ref a3, V.ref a5, V.ref a7, V.ref a9] rsShared := ((((Al.nil.snoc rwx0).snoc rwx1).snoc rwx2).snoc rwx3)
      refine fun x dx hxx hdx _ => ?_
      refine mkNet (ndShared.f (by decide) (by decide)) ((((((((((kindNew .cha rfl trivial rfl : KindAt A _ kx1 .cha).same u2).same u3).same u4).same u5).same u6).same u7).same u8).same u9).same u10) upd_same alx hxx hdx fun Hx sx hN => ?_
      exact cont _ _ ⟨((((((((((u1.trans u2).trans u3).trans u4).trans u5).trans u6).trans u7).trans u8).trans u9).trans u10).trans sx), x, hN, rfl⟩
    obtain ⟨s2, xs, hs2, rfl⟩ := h2
    have hp2 := hp1.same s2
    have s12 := s1.trans s2
    have q2 : ∀ H', Same H2 H' → E (.ref (A8 A wy)) none H' := fun H' s => q H' (s12.trans s)
    have wc : wy = 0 ∨ wy = 1 ∨ wy = 2 ∨ wy = 3 ∨ wy = 4 ∨ wy = 5 ∨ wy = 6 ∨ wy = 7 := by omega
    rcases wc with rfl | rfl | rfl | rfl | rfl | rfl | rfl | rfl
    · refine ⟨_, rfl, rfl, _, rfl, ifT (decide_eq_true rfl) ?_⟩
      exact ⟨_, rfl, _, rfl, c, far, rfl, f0, q2⟩
    · refine ⟨_, rfl, rfl, _, rfl, ifF (decide_eq_false (by simp)) ?_⟩
      refine ⟨_, rfl, rfl, _, rfl, ifT (decide_eq_true rfl) ?_⟩
      exact ⟨_, rfl, _, rfl, c, far, rfl, f0, q2⟩
    · refine ⟨_, rfl, rfl, _, rfl, ifF (decide_eq_false (by simp)) ?_⟩
      refine ⟨_, rfl, rfl, _, rfl, ifF (decide_eq_false (by simp)) ?_⟩
      refine ⟨_, rfl, rfl, _, rfl, ifT (decide_eq_true rfl) ?_⟩
      refine ⟨_, rfl, _, rfl, Nat.le_of_lt (sizeLt (n := 2) (by decide)), fun l hl => ?_⟩
      have u := same_upd (o := HO.lst [V.ref xp, .ref xs]) hl
      obtain ⟨y, hy, ey⟩ := atI_in (l := [V.ref xp, .ref xs]) (Int.emod_nonneg (c / 24) (show (2 : Int) ≠ 0 by decide)) (Int.emod_lt_of_pos _ (by decide))
      refine ⟨_, rfl, _, _, rfl, rfl, ⟨by decide, by decide⟩, _, _, rfl, rfl, (by show (0 : Int) < 2; decide), l, _, _, _, rfl, rfl, SqL.of upd_same, ey, _, rfl, _, rfl, ?_⟩
      simp only [List.mem_cons, List.not_mem_nil, or_false] at hy
      rcases hy with rfl | rfl
      · exact ⟨xp, .few, rsPlain, c, far, rfl, f0, hp2.same u, trivial, by decide, (fun h => by cases h), fun H' s => q2 H' (u.trans s)⟩
      · exact ⟨xs, .cha, rsShared, c, far, rfl, f0, hs2.same u, trivial, by decide, fun _ r hr => Nat.le_trans (ndShared.sz rfl r hr) (by decide), fun H' s => q2 H' (u.trans s)⟩
    · refine ⟨_, rfl, rfl, _, rfl, ifF (decide_eq_false (by simp)) ?_⟩
      refine ⟨_, rfl, rfl, _, rfl, ifF (decide_eq_false (by simp)) ?_⟩
      refine ⟨_, rfl, rfl, _, rfl, ifF (decide_eq_false (by simp)) ?_⟩
      refine ⟨_, rfl, rfl, _, rfl, ifT (decide_eq_true rfl) ?_⟩
      refine ⟨_, rfl, Nat.le_of_lt (sizeLt (n := 1) (by decide)), fun l1 hl1 => ⟨Nat.le_of_lt (sizeLt (n := 2) (by decide)), fun l2 hl2 => ⟨Nat.le_of_lt (sizeLt (n := 3) (by decide)), fun l3 hl3 => ?_⟩⟩⟩
      have u1 := same_upd (o := HO.lst [V.int 1]) hl1
      have u2 := same_upd (o := HO.lst [V.int 0, .int 0]) hl2
      have u3 := same_upd (o := HO.lst [V.int 0, .int 1, .int 2]) hl3
      refine ⟨_, rfl, _, _, rfl, rfl, Nat.le_of_lt (sizeLt (n := 1) (by decide)), fun l4 hl4 => ?_⟩
      have u4 := same_upd (o := HO.lst [V.int (3 + far)]) hl4
      refine ⟨_, rfl, _, rfl, _, _, rfl, rfl, Nat.le_of_lt (sizeLt (n := 3) (by decide)), fun l5 hl5 => ?_⟩
      have u5 := same_upd (o := HO.lst [V.int 0, .int (-1 - far), .int 0]) hl5
      refine ⟨Nat.le_of_lt (sizeLt (n := 5) (by decide)), fun l hl => ?_⟩
      have u6 := same_upd (o := HO.lst [V.ref l1, .ref l2, .ref l3, .ref l4, .ref l5]) hl
      have u := ((((u1.trans u2).trans u3).trans u4).trans u5).trans u6
      have e1 := u6 _ _ (u5 _ _ (u4 _ _ (u3 _ _ (u2 _ _ upd_same))))
      have e2 := u6 _ _ (u5 _ _ (u4 _ _ (u3 _ _ upd_same)))
      have e3 := u6 _ _ (u5 _ _ (u4 _ _ upd_same))
      have e4 := u6 _ _ (u5 _ _ upd_same)
      have e5 := u6 _ _ upd_same
      obtain ⟨y, hy, ey⟩ := atI_in (l := [V.ref l1, .ref l2, .ref l3, .ref l4, .ref l5]) (Int.emod_nonneg c (show (5 : Int) ≠ 0 by decide)) (Int.emod_lt_of_pos _ (by decide))
      refine ⟨_, rfl, _, _, rfl, rfl, (by show (0 : Int) < 5; decide), l, _, _, _, rfl, rfl, SqL.of upd_same, ey, ?_⟩
      have fin : ∀ lj js, js.length ≤ 1000 → wkW .few rsPlain 0 (restW .few) js = none → y = .ref lj → (upd (upd (upd (upd (upd (upd H2 l1 (HO.lst [V.int 1])) l2 (HO.lst [V.int 0, .int 0])) l3 (HO.lst [V.int 0, .int 1, .int 2])) l4 (HO.lst [V.int (3 + far)])) l5 (HO.lst [V.int 0, .int (-1 - far), .int 0])) l (HO.lst [V.ref l1, .ref l2, .ref l3, .ref l4, .ref l5])) lj = some (.lst (js.map V.int)) →
          spWorthOf A K A.NoPlace A.NoRoad ([.ref xp, .int 0, y] ++ []) (upd (upd (upd (upd (upd (upd H2 l1 (HO.lst [V.int 1])) l2 (HO.lst [V.int 0, .int 0])) l3 (HO.lst [V.int 0, .int 1, .int 2])) l4 (HO.lst [V.int (3 + far)])) l5 (HO.lst [V.int 0, .int (-1 - far), .int 0])) l (HO.lst [V.ref l1, .ref l2, .ref l3, .ref l4, .ref l5])) (fun x H1 => Q .non H1) E := by
        rintro lj js hjl hw rfl hlj
        exact ⟨xp, lj, .few, 3, rsPlain, 0, js, 0, rfl, hp2.same u, SqL.of hlj, trivial, by decide, hjl, (fun h => by cases h), fun _ t wt h => absurd (hw.symm.trans h) (by simp), fun _ _ H' s => q2 H' (u.trans s), fun h => absurd ⟨by decide, by decide⟩ h⟩
      simp only [List.mem_cons, List.not_mem_nil, or_false] at hy
      rcases hy with h | h | h | h | h
      · exact fin l1 [1] (by decide) (by decide +kernel) h e1
      · exact fin l2 [0, 0] (by decide) (by decide +kernel) h e2
      · exact fin l3 [0, 1, 2] (by decide) (by decide +kernel) h e3
      · exact fin l4 [3 + far] (by simp) (wk_far f0) h e4
      · exact fin l5 [0, -1 - far, 0] (by simp) (wk_neg f0) h e5
    · refine ⟨_, rfl, rfl, _, rfl, ifF (decide_eq_false (by simp)) ?_⟩
      refine ⟨_, rfl, rfl, _, rfl, ifF (decide_eq_false (by simp)) ?_⟩
      refine ⟨_, rfl, rfl, _, rfl, ifF (decide_eq_false (by simp)) ?_⟩
      refine ⟨_, rfl, rfl, _, rfl, ifF (decide_eq_false (by simp)) ?_⟩
      refine ⟨_, rfl, rfl, _, rfl, ifT (decide_eq_true rfl) ?_⟩
      refine ⟨_, rfl, _, rfl, _, rfl, _, _, rfl, rfl, _, rfl, _, _, rfl, rfl, Nat.le_of_lt (sizeLt (n := 3) (by decide)), fun l hl => ?_⟩
      have u := same_upd (o := HO.lst [V.int (-1 - far), .int 41, .int (41 + far)]) hl
      obtain ⟨y, hy, ey⟩ := atI_in (l := [V.int (-1 - far), .int 41, .int (41 + far)]) (Int.emod_nonneg c (show (3 : Int) ≠ 0 by decide)) (Int.emod_lt_of_pos _ (by decide))
      obtain ⟨i, rfl, hi⟩ : ∃ i : Int, y = .int i ∧ ¬ (0 ≤ i ∧ i ≤ 40) := by
        simp only [List.mem_cons, List.not_mem_nil, or_false] at hy
        rcases hy with h | h | h <;> exact ⟨_, h, by omega⟩
      refine ⟨_, rfl, _, _, rfl, rfl, (by show (0 : Int) < 3; decide), l, _, _, _, rfl, rfl, SqL.of upd_same, ey, ?_⟩
      exact ⟨xp, .few, 3, rsPlain, 0, 2, i, rfl, hp2.same u, trivial, by decide, by decide, fun _ _ h => absurd h hi, fun _ _ _ => q2 _ u, fun h => absurd ⟨⟨by decide, by decide⟩, by decide, by decide⟩ h⟩
    · refine ⟨_, rfl, rfl, _, rfl, ifF (decide_eq_false (by simp)) ?_⟩
      refine ⟨_, rfl, rfl, _, rfl, ifF (decide_eq_false (by simp)) ?_⟩
      refine ⟨_, rfl, rfl, _, rfl, ifF (decide_eq_false (by simp)) ?_⟩
      refine ⟨_, rfl, rfl, _, rfl, ifF (decide_eq_false (by simp)) ?_⟩
      refine ⟨_, rfl, rfl, _, rfl, ifF (decide_eq_false (by simp)) ?_⟩
      refine ⟨_, rfl, rfl, _, rfl, ifT (decide_eq_true rfl) ?_⟩
      refine seq_splitT (fun σ' H' => Same H2 H' ∧ ∃ kx k, KindAt A H' kx k ∧ pick k = false ∧ σ' = [some (.int (5 : Nat)), some (.int c), some (.int far), some (.ref xp), some (.ref xs), some (.ref kx)]) (fun σ H3 h3 => ?_) (fun R cont => ?_)
      rotate_left
      · refine fun kx1 kdx1 hkx1 hkdx1 hkn1 => ?_
        have u1 := same_new (C := A.Counted) (fs := []) hkx1 hkdx1
        refine fun kx2 kdx2 hkx2 hkdx2 hkn2 => ?_
        have u2 := same_new (C := A.Musts) (fs := []) hkx2 hkdx2
        refine fun kx3 kdx3 hkx3 hkdx3 hkn3 => ⟨kx3, kdx3, 2, rfl, upd_same, fun _ => ⟨rfl, ?_⟩, fun h => absurd ⟨by decide, by decide⟩ h⟩
        have u3 := restsSame (A := A) (m := 2) hkx3 hkdx3
        refine ⟨Nat.le_of_lt (sizeLt (n := 3) (by decide)), fun a4 ha4 => ?_⟩
        have u4 := same_upd (o := HO.lst [V.ref kx1, .ref kx2, .ref kx3]) ha4
        obtain ⟨y, hy, ey⟩ := atI_in (l := [V.ref kx1, .ref kx2, .ref kx3]) (Int.emod_nonneg c (show (3 : Int) ≠ 0 by decide)) (Int.emod_lt_of_pos _ (by decide))
        refine ⟨_, rfl, _, _, rfl, rfl, (by show (0 : Int) < 3; decide), a4, _, _, _, rfl, rfl, SqL.of upd_same, ey, ?_⟩
        simp only [List.mem_cons, List.not_mem_nil, or_false] at hy
        rcases hy with rfl | rfl | rfl
        · exact cont _ _ ⟨(((u1.trans u2).trans u3).trans u4), kx1, _, ((((kindNew .cnt rfl trivial rfl : KindAt A _ kx1 .cnt).same u2).same u3).same u4), rfl, rfl⟩
        · exact cont _ _ ⟨(((u1.trans u2).trans u3).trans u4), kx2, _, (((kindNew .mus rfl trivial rfl : KindAt A _ kx2 .mus).same u3).same u4), rfl, rfl⟩
        · exact cont _ _ ⟨(((u1.trans u2).trans u3).trans u4), kx3, _, ((restsNew (m := 2) (by decide) : KindAt A _ kx3 (.rst 2)).same u4), rfl, rfl⟩
      obtain ⟨s3, kx, k, hk, hpk, rfl⟩ := h3
      refine ⟨_, rfl, Nat.zero_le _, fun l hl x dx hx hdx _ => ?_⟩
      have v1 := same_upd (o := HO.lst []) hl
      refine mkNet (ndNil.f (by decide) (by decide)) (hk.same v1) upd_same Al.nil hx hdx fun H6 s6 hN6 => ?_
      refine ⟨_, rfl, Nat.le_of_lt (sizeLt (n := 2) (by decide)), fun l7 hl7 => ?_⟩
      have v2 := same_upd (o := HO.lst [V.ref x, .ref xs]) hl7
      have v := ((s3.trans v1).trans s6).trans v2
      obtain ⟨y, hy, ey⟩ := atI_in (l := [V.ref x, .ref xs]) (Int.emod_nonneg (c / 3) (show (2 : Int) ≠ 0 by decide)) (Int.emod_lt_of_pos _ (by decide))
      refine ⟨_, rfl, _, _, rfl, rfl, ⟨by decide, by decide⟩, _, _, rfl, rfl, (by show (0 : Int) < 2; decide), l7, _, _, _, rfl, rfl, SqL.of upd_same, ey, ?_⟩
      simp only [List.mem_cons, List.not_mem_nil, or_false] at hy
      rcases hy with rfl | rfl
      · exact ⟨x, k, 2, [], 0, 1, rfl, hN6.same v2, hk.2.1, by decide, by decide, fun h => absurd ⟨⟨by decide, by decide⟩, by decide, by decide⟩ h, fun _ _ _ => q2 _ v, fun _ _ hp => by rw [hpk] at hp; cases hp⟩
      · exact ⟨xs, .cha, 3, rsShared, 0, 1, rfl, hs2.same v, trivial, by decide, by decide, fun h => absurd ⟨⟨by decide, by decide⟩, by decide, by decide⟩ h, fun _ _ _ => q2 _ v, fun _ _ hp => by cases hp⟩
    · refine ⟨_, rfl, rfl, _, rfl, ifF (decide_eq_false (by simp)) ?_⟩
      refine ⟨_, rfl, rfl, _, rfl, ifF (decide_eq_false (by simp)) ?_⟩
      refine ⟨_, rfl, rfl, _, rfl, ifF (decide_eq_false (by simp)) ?_⟩
      refine ⟨_, rfl, rfl, _, rfl, ifF (decide_eq_false (by simp)) ?_⟩
      refine ⟨_, rfl, rfl, _, rfl, ifF (decide_eq_false (by simp)) ?_⟩
      refine ⟨_, rfl, rfl, _, rfl, ifF (decide_eq_false (by simp)) ?_⟩
      refine ⟨_, rfl, rfl, _, rfl, ifT (decide_eq_true rfl) ?_⟩
      exact ⟨_, rfl, _, rfl, xs, c, rfl, hs2, q2⟩
    · refine ⟨_, rfl, rfl, _, rfl, ifF (decide_eq_false (by simp)) ?_⟩
      refine ⟨_, rfl, rfl, _, rfl, ifF (decide_eq_false (by simp)) ?_⟩
      refine ⟨_, rfl, rfl, _, rfl, ifF (decide_eq_false (by simp)) ?_⟩
      refine ⟨_, rfl, rfl, _, rfl, ifF (decide_eq_false (by simp)) ?_⟩
      refine ⟨_, rfl, rfl, _, rfl, ifF (decide_eq_false (by simp)) ?_⟩
      refine ⟨_, rfl, rfl, _, rfl, ifF (decide_eq_false (by simp)) ?_⟩
      refine ⟨_, rfl, rfl, _, rfl, ifF (decide_eq_false (by simp)) ?_⟩
      refine ⟨_, rfl, ?_⟩
      refine fun kx1 kdx1 hkx1 hkdx1 hkn1 => ?_
      have u1 := same_new (C := A.Widest) (fs := []) hkx1 hkdx1
      refine ⟨size3', fun a2 ha2 => ?_⟩
      have u2 := same_upd (o := HO.tup [V.int 0, V.int 1, V.int 0]) ha2
      refine ⟨Nat.le_of_lt (sizeLt (n := 1) (by decide)), fun a3 ha3 => ?_⟩
      have u3 := same_upd (o := HO.lst [V.ref a2]) ha3
      have rwx0 : RwAt _ (.ref a2) (⟨0, 1, .int 0⟩ : Rw) := ⟨a2, V.int 0, rfl, (u3 _ _ upd_same), rfl⟩
      have alx : Al (RwAt _) [V.ref a2] rsWid := (Al.nil.snoc rwx0)
      refine fun x dx hxx hdx _ => ?_
      refine mkNet (ndWid.f (by decide) (by decide)) (((kindNew .wid rfl trivial rfl : KindAt A _ kx1 .wid).same u2).same u3) upd_same alx hxx hdx fun Hx sx hN => ?_
      refine ⟨Nat.le_of_lt (sizeLt (n := 2) (by decide)), fun a4 ha4 => ?_⟩
      have u4 := same_upd (o := HO.lst [V.ref xp, .ref x]) ha4
      have hc : c % 2 = 0 ∨ c % 2 = 1 := by omega
      rcases hc with hc | hc
      · have ey : atI [V.ref xp, .ref x] (c % 2) = some (.ref xp) := by rw [hc]; exact atI_nat (j := 0) rfl
        have ez : atI [V.int 2, .int 1] (c % 2) = some (.int 2) := by rw [hc]; exact atI_nat (j := 0) rfl
        refine ⟨_, rfl, _, _, rfl, rfl, (by show (0 : Int) < 2; decide), a4, _, _, _, rfl, rfl, SqL.of upd_same, ey, Nat.le_of_lt (sizeLt (n := 2) (by decide)), fun lz hlz => ?_⟩
        have uz := same_upd (o := HO.lst [V.int 2, .int 1]) hlz
        obtain ⟨F, hF, h0⟩ := tabPlain
        obtain ⟨L, cc, dd, B⟩ := stepB_of (s := 9) ndPlain (by decide) (by decide) (by decide) (fun h => by cases h) (fun h => by cases h)
        have hT := tabOk_net (k := .few) trivial ndPlain (by decide) (by decide) (fun h => by cases h)
        refine ⟨_, rfl, _, _, rfl, rfl, (by show (0 : Int) < 2; decide), lz, _, _, _, rfl, rfl, SqL.of upd_same, ez, ?_⟩
        exact ⟨xp, .few, 3, rsPlain, 0, 2, rfl, (hp2.same ((((u1.trans u2).trans u3).trans sx).trans u4)).same uz, trivial, by decide, by decide, fun h => absurd ⟨⟨by decide, by decide⟩, by decide, by decide⟩ h, (fun _ _ h => by cases h), fun _ _ _ => ⟨hT, ⟨L, cc, dd, B⟩, fun F2 hF2 => ⟨fun _ H' s => q2 H' ((((((u1.trans u2).trans u3).trans sx).trans u4).trans uz).trans s), fun hne => absurd (by rw [Option.some.inj (hF2.symm.trans hF)]; exact h0) hne⟩⟩⟩
      · have ey : atI [V.ref xp, .ref x] (c % 2) = some (.ref x) := by rw [hc]; exact atI_nat (j := 1) rfl
        have ez : atI [V.int 2, .int 1] (c % 2) = some (.int 1) := by rw [hc]; exact atI_nat (j := 1) rfl
        refine ⟨_, rfl, _, _, rfl, rfl, (by show (0 : Int) < 2; decide), a4, _, _, _, rfl, rfl, SqL.of upd_same, ey, Nat.le_of_lt (sizeLt (n := 2) (by decide)), fun lz hlz => ?_⟩
        have uz := same_upd (o := HO.lst [V.int 2, .int 1]) hlz
        obtain ⟨F, hF, h0⟩ := tabWid
        obtain ⟨L, cc, dd, B⟩ := stepB_of (s := 9) ndWid (by decide) (by decide) (by decide) (fun h => by cases h) (fun h => by cases h)
        have hT := tabOk_net (k := .wid) trivial ndWid (by decide) (by decide) (fun h => by cases h)
        refine ⟨_, rfl, _, _, rfl, rfl, (by show (0 : Int) < 2; decide), lz, _, _, _, rfl, rfl, SqL.of upd_same, ez, ?_⟩
        exact ⟨x, .wid, 2, rsWid, 0, 1, rfl, (hN.same u4).same uz, trivial, by decide, by decide, fun h => absurd ⟨⟨by decide, by decide⟩, by decide, by decide⟩ h, (fun _ _ h => by cases h), fun _ _ _ => ⟨hT, ⟨L, cc, dd, B⟩, fun F2 hF2 => ⟨fun _ H' s => q2 H' ((((((u1.trans u2).trans u3).trans sx).trans u4).trans uz).trans s), fun hne => absurd (by rw [Option.some.inj (hF2.symm.trans hF)]; exact h0) hne⟩⟩⟩
theorem ok_law (T : Tx K mg A) (F : Fun K "law" "law" s_law f fd) : FnOk P w K mg base CX0 20 f fd ["script"] (spLaw K) := by
  obtain ⟨_, _, D1⟩ := T.d__law_cell_at
  obtain ⟨_, _, D2⟩ := T.d__law_which
  obtain ⟨_, _, D3⟩ := T.d__law_no_net
  obtain ⟨_, _, D4⟩ := T.d__law_no_worth
  obtain ⟨_, _, D5⟩ := T.d__law_no_place
  obtain ⟨_, _, D6⟩ := T.d__law_no_sum
  obtain ⟨_, _, D7⟩ := T.d__law_done
  obtain ⟨_, _, D13⟩ := T.d_straight
  obtain ⟨_, _, D14⟩ := T.d_through
  obtain ⟨_, _, D15⟩ := T.d_table
  obtain ⟨_, _, D16⟩ := T.d_total
  obtain ⟨_, _, D17⟩ := T.d_spread
  obtain ⟨_, _, D18⟩ := T.d_way_for
  obtain ⟨_, _, D19⟩ := T.d_without
  obtain ⟨_, _, D20⟩ := T.d_by_steps
  obtain ⟨_, _, D21⟩ := T.d_worth_of
  have CE : Fc CX0 P w K mg base 1 "_law_cell_at" (spCell K) := fc_cell T.n_len D1
  have WH : FcE P w K mg base 1 "_law_which" (spWhich K A) := fe_which T D2
  have SS : Fc CX0 P w K mg base 5 "straight" (spStraight A) := fc_straight T D13
  have TR : Fc (L2.CX P w) P w K mg base 5 "through" (spThrough A A.NoSum) := fc_through T D14
  have TA : Fc (L2.CX P w) P w K mg base 6 "table" (spTable A A.NoSum) := fc_table T SS TR D15
  have TO : Fc (L2.CX P w) P w K mg base 7 "total" (spTotal A A.NoPlace A.NoSum) := fc_total T TA D16
  have SP : Fc CX0 P w K mg base 5 "spread" (spSpread A) := fc_spread T D17
  have WF : Fc (L2.CX P w) P w K mg base 8 "way_for" (spWayFor A A.NoPlace A.NoPick A.NoWay) := fc_way_for T TO SP D18
  have WT : Fc (L2.CX P w) P w K mg base 8 "without" (spWithout A A.NoNet A.NoPlace A.NoSum) := fc_without T SS TR D19
  have BS : Fc (L2.CX P w) P w K mg base 5 "by_steps" (spBySteps A A.NoPlace A.NoSteps) := fc_by_steps T D20
  have WO : Fc (L2.CX P w) P w K mg base 5 "worth_of" (spWorthOf A K A.NoPlace A.NoRoad) := fc_worth_of T D21
  have QN : Fc (L2.CX P w) P w K mg base 9 "_law_no_net" (spRef A.NoNet) := fc_no_net T WT D3
  have QW : Fc (L2.CX P w) P w K mg base 9 "_law_no_worth" (spRef A.NoWorth) := fc_no_worth T D4
  have QP : Fc (L2.CX P w) P w K mg base 9 "_law_no_place" (spPl A) := fc_no_place T WO BS TO WT WF D5
  have QS : Fc (L2.CX P w) P w K mg base 9 "_law_no_sum" (spSm A) := fc_no_sum T TA TO WT D6
  have DN : Fc (L2.CX P w) P w K mg base 10 "_law_done" (spDone A) := fc_done T WO BS WF QN QW QP QS D7
  have sc : FnScope ["script", "way", "far", "told", "e", "k"] ["script"] (defScope s_law) := fsc (by decide +kernel)
  refine F.ok (k := 19) sc (fun vs H Q E h => ?_) (fun cdv _ outer s H vs Q E hr h => ?_)
  · obtain ⟨a, ns, rfl, _⟩ := h; rfl
  · obtain ⟨a, ns, rfl, hS, hlen, q⟩ := h
    refine ⟨_, (pss_cons (ps_set (i := 1) sc.nd rfl (.inr rfl) (pe_op op_mod (pe_f CE hr (by decide) pass0 rfl (pa_cons (pv 0) (pa_cons pe_int pa_nil))) pe_int)) (pss_cons (ps_set (i := 2) sc.nd rfl (.inl rfl) (pe_op op_mod (pe_f CE hr (by decide) pass0 rfl (pa_cons (pv 0) (pa_cons pe_int pa_nil))) (pe_op op_pow pe_int pe_int))) (pss_cons (ps_set (i := 3) sc.nd rfl (.inl rfl) (pe_lst pa_nil)) (pss_cons (ps_try_as (i := 4) (tb := fun W => tDrop (tCallS (spDone A) (WE W) (tCons (tVar 1) (tCons (tCall (spCell K) [] E0 (tCons (tVar 0) (tCons (tC (.int 1)) tNil))) (tCons (tVar 2) tNil))))) (Wout := fun _ _ _ _ => False) rfl rfl sc.nd rfl rfl ⟨rfl, by decide, .inl T.x_SumError.g⟩ takes0
        (fun W pn xe tk _ => pss_one (ps_expr (by exact (pe_fS DN hr (by decide) (fun σ => passAt tk σ) rfl (pa_cons (pv 1) (pa_cons (pe_f CE hr (by decide) pass0 rfl (pa_cons (pv 0) (pa_cons pe_int pa_nil))) (pa_cons (pv 2) pa_nil)))))))
        (fun a oe cls d pn hz hf => pss_one (ps_set (i := 3) sc.nd rfl (.inl rfl) (pe_fE WH (roomS hr (by decide) _) List.mem_cons_self hz hf rfl (pv 4))))) (pss_one (ps_ret (pe_cmpR (op_eqD hr.units) (pv 3) (pe_lc (own := [("k", 5)]) (g := gName 5) (by rfl) sc.nd (tt := tYes) (te := tOrV (tOp rEq (tVar 5) (tVar 1)) (tOp rEq (tVar 5) (tC (.int 8)))) (pi_range1 (by rfl) T.n_range (pa_cons pe_int pa_nil)) (blkOk_by (N := ["script", "way", "far", "told", "e", "k"]) (own := [("k", 5)]) (sc := (defScope s_law)) (by decide +kernel)) (fun _ _ _ _ _ => pg_name (i := 5) sc.nd rfl (Or.inl rfl)) (fun _ _ _ _ _ => pts_nil) (fun _ _ _ _ _ => (pe_or (pe_cmpR op_eq (pv 5) (pv 1) (nomark _)) (pe_one (pe_cmpR op_eq (pv 5) pe_int (nomark _)))))) (nomark _)))))))), ?_⟩
    have w0 : 0 ≤ cell ns 0 % 8 := Int.emod_nonneg _ (by decide)
    have w8 : cell ns 0 % 8 < 8 := Int.emod_lt_of_pos _ (by decide)
    have f0 : 0 ≤ cell ns 2 % 10 ^ (59 : Int).toNat := Int.emod_nonneg _ (by decide)
    try dsimp only [tAsg, gName]
    refine seq_splitT (fun σ' H' => H' = H ∧ ∃ wy : Nat, wy < 8 ∧ σ' = [some (.ref a), some (.int (wy : Nat)), none, none, none, none]) (fun σ H4 h4 => ?_) (fun R cont => ?_)
    rotate_left
    · refine ⟨_, rfl, a, ns, 0, rfl, hS, hlen, _, _, rfl, rfl, (by show (0 : Int) < 8; decide), ?_⟩
      obtain ⟨wy, hwy⟩ := nn _ w0
      refine cont _ _ ⟨rfl, wy, by omega, ?_⟩
      rw [← hwy]; rfl
    obtain ⟨rfl, wy, hw8, rfl⟩ := h4
    refine seq_splitT (fun σ' H' => H' = H4 ∧ ∃ far, 0 ≤ far ∧ σ' = [some (.ref a), some (.int (wy : Nat)), some (.int far), none, none, none]) (fun σ H6 h6 => ?_) (fun R cont => ?_)
    rotate_left
    · refine ⟨_, rfl, a, ns, 2, rfl, hS, hlen, _, _, rfl, rfl, ⟨by decide, by decide, by decide⟩, _, _, rfl, rfl, (by show (0 : Int) < 10 ^ 59; decide), ?_⟩
      exact cont _ _ ⟨rfl, cell ns 2 % 10 ^ (59 : Int).toNat, f0, rfl⟩
    obtain ⟨rfl, far, f0, rfl⟩ := h6
    refine ⟨Nat.zero_le _, fun l hl => ?_⟩
    have s1 := same_upd (o := HO.lst []) hl
    generalize upd H6 l (HO.lst []) = H1 at s1 ⊢
    try dsimp only [tAsg, gName]
    refine seq_splitT (fun σ' H' => ∃ pw, H' pw = some (.lst (dueL wy)) ∧ σ' = [some (.ref a), some (.int (wy : Nat)), some (.int far), some (.ref pw), none, none]) (fun σ H2 h2 => ?_) (fun R cont => ?_)
    rotate_left
    · refine ⟨_, rfl, _, rfl, a, ns, 1, rfl, s1.seq hS, hlen, _, rfl, wy, cell ns 1, far, rfl, hw8, f0, fun H' s => ?_⟩
      have wc : wy = 0 ∨ wy = 1 ∨ wy = 2 ∨ wy = 3 ∨ wy = 4 ∨ wy = 5 ∨ wy = 6 ∨ wy = 7 := by omega
      rcases wc with rfl | rfl | rfl | rfl | rfl | rfl | rfl | rfl
      · refine ⟨true, T.e_NoNet_SumError, fun _ a0 _ => ?_, fun z => Bool.noConfusion z⟩
        refine ⟨_, rfl, rfl, A.NoNet, true, false, false, false, false, false, false, false, rfl, rfl, T.x_NoNet.ec, T.k_NoNet_NoNet, T.k_NoNet_NoWorth, T.k_NoNet_NoPlace, T.k_NoNet_NoRoad, T.k_NoNet_NoSteps, T.k_NoNet_NoPick, T.k_NoNet_NoSum, T.k_NoNet_NoWay, T.v_NoNet, fun H8 pw s8 hpw => ?_⟩
        exact cont _ _ ⟨pw, hpw, rfl⟩
      · refine ⟨true, T.e_NoWorth_SumError, fun _ a0 _ => ?_, fun z => Bool.noConfusion z⟩
        refine ⟨_, rfl, rfl, A.NoWorth, false, true, false, false, false, false, false, false, rfl, rfl, T.x_NoWorth.ec, T.k_NoWorth_NoNet, T.k_NoWorth_NoWorth, T.k_NoWorth_NoPlace, T.k_NoWorth_NoRoad, T.k_NoWorth_NoSteps, T.k_NoWorth_NoPick, T.k_NoWorth_NoSum, T.k_NoWorth_NoWay, T.v_NoWorth, fun H8 pw s8 hpw => ?_⟩
        exact cont _ _ ⟨pw, hpw, rfl⟩
      · refine ⟨true, T.e_NoPlace_SumError, fun _ a0 _ => ?_, fun z => Bool.noConfusion z⟩
        refine ⟨_, rfl, rfl, A.NoPlace, false, false, true, false, false, false, false, false, rfl, rfl, T.x_NoPlace.ec, T.k_NoPlace_NoNet, T.k_NoPlace_NoWorth, T.k_NoPlace_NoPlace, T.k_NoPlace_NoRoad, T.k_NoPlace_NoSteps, T.k_NoPlace_NoPick, T.k_NoPlace_NoSum, T.k_NoPlace_NoWay, T.v_NoPlace, fun H8 pw s8 hpw => ?_⟩
        exact cont _ _ ⟨pw, hpw, rfl⟩
      · refine ⟨true, T.e_NoRoad_SumError, fun _ a0 _ => ?_, fun z => Bool.noConfusion z⟩
        refine ⟨_, rfl, rfl, A.NoRoad, false, false, false, true, false, false, false, false, rfl, rfl, T.x_NoRoad.ec, T.k_NoRoad_NoNet, T.k_NoRoad_NoWorth, T.k_NoRoad_NoPlace, T.k_NoRoad_NoRoad, T.k_NoRoad_NoSteps, T.k_NoRoad_NoPick, T.k_NoRoad_NoSum, T.k_NoRoad_NoWay, T.v_NoRoad, fun H8 pw s8 hpw => ?_⟩
        exact cont _ _ ⟨pw, hpw, rfl⟩
      · refine ⟨true, T.e_NoSteps_SumError, fun _ a0 _ => ?_, fun z => Bool.noConfusion z⟩
        refine ⟨_, rfl, rfl, A.NoSteps, false, false, false, false, true, false, false, false, rfl, rfl, T.x_NoSteps.ec, T.k_NoSteps_NoNet, T.k_NoSteps_NoWorth, T.k_NoSteps_NoPlace, T.k_NoSteps_NoRoad, T.k_NoSteps_NoSteps, T.k_NoSteps_NoPick, T.k_NoSteps_NoSum, T.k_NoSteps_NoWay, T.v_NoSteps, fun H8 pw s8 hpw => ?_⟩
        exact cont _ _ ⟨pw, hpw, rfl⟩
      · refine ⟨true, T.e_NoPick_SumError, fun _ a0 _ => ?_, fun z => Bool.noConfusion z⟩
        refine ⟨_, rfl, rfl, A.NoPick, false, false, false, false, false, true, false, false, rfl, rfl, T.x_NoPick.ec, T.k_NoPick_NoNet, T.k_NoPick_NoWorth, T.k_NoPick_NoPlace, T.k_NoPick_NoRoad, T.k_NoPick_NoSteps, T.k_NoPick_NoPick, T.k_NoPick_NoSum, T.k_NoPick_NoWay, T.v_NoPick, fun H8 pw s8 hpw => ?_⟩
        exact cont _ _ ⟨pw, hpw, rfl⟩
      · refine ⟨true, T.e_NoSum_SumError, fun _ a0 _ => ?_, fun z => Bool.noConfusion z⟩
        refine ⟨_, rfl, rfl, A.NoSum, false, false, false, false, false, false, true, false, rfl, rfl, T.x_NoSum.ec, T.k_NoSum_NoNet, T.k_NoSum_NoWorth, T.k_NoSum_NoPlace, T.k_NoSum_NoRoad, T.k_NoSum_NoSteps, T.k_NoSum_NoPick, T.k_NoSum_NoSum, T.k_NoSum_NoWay, T.v_NoSum, fun H8 pw s8 hpw => ?_⟩
        exact cont _ _ ⟨pw, hpw, rfl⟩
      · refine ⟨true, T.e_NoWay_SumError, fun _ a0 _ => ?_, fun z => Bool.noConfusion z⟩
        refine ⟨_, rfl, rfl, A.NoWay, false, false, false, false, false, false, false, true, rfl, rfl, T.x_NoWay.ec, T.k_NoWay_NoNet, T.k_NoWay_NoWorth, T.k_NoWay_NoPlace, T.k_NoWay_NoRoad, T.k_NoWay_NoSteps, T.k_NoWay_NoPick, T.k_NoWay_NoSum, T.k_NoWay_NoWay, T.v_NoWay, fun H8 pw s8 hpw => ?_⟩
        exact cont _ _ ⟨pw, hpw, rfl⟩
    obtain ⟨pw, hpw, rfl⟩ := h2
    refine ⟨_, rfl, _, rfl, by decide, by decide, fun D hD => lc_range (lo := 0) (n := (9 : Int).toNat) (fun i H' => Same H2 H' ∧ H' D = some (.lst ((List.range i).map fun j => V.bl (decide (j = wy ∨ j = 8))))) ⟨same_upd hD, upd_same⟩ ?_ ?_⟩
    · rintro i H3 hi ⟨s3, h3⟩
      have hi9 : i < 9 := hi
      have nxt : ∀ b : Bool, b = decide (i = wy ∨ i = 8) → ∃ acc, H3 D = some (.lst acc) ∧ acc.length < sizeLine ∧ Same H2 (upd H3 D (.lst (acc ++ [V.bl b]))) ∧ (upd H3 D (.lst (acc ++ [V.bl b]))) D = some (.lst ((List.range (i + 1)).map fun j => V.bl (decide (j = wy ∨ j = 8)))) := fun b hb => by
        refine ⟨_, h3, sizeLt (by rw [List.length_map, List.length_range]; omega), same_at s3 hD, ?_⟩
        rw [upd_same, List.range_succ, List.map_append, hb]; rfl
      refine ⟨rfl, _, rfl, _, rfl, rfl, ?_⟩
      by_cases e : i = wy
      · refine ⟨true, by rw [e]; simp, iteT ?_⟩
        exact nxt true (by rw [e]; simp)
      · refine ⟨false, by simp; omega, ?_⟩
        refine ⟨_, rfl, rfl, ?_⟩
        refine nxt _ ?_
        rw [decide_eq_decide, V.int.injEq]; omega
    rintro H3 ⟨s3, h3⟩
    exact eqD_nice (by decide) (nice_due wy) (dp_due (s3 _ _ hpw)) (dp_due h3) (q _)
end
theorem fin {l : PySem.W.OpenLaw} {w : World} {K : PySem.W.Frag} {h : Heap} {mg : Str → Option Value} {fa : Addr} (X : K.In h) (G : h.Ns mainGlobals mg) (hfa : mg "law" = some (.ref fa))
  {zSumError zNoNet zNoWorth zNoPlace zNoRoad zNoSteps zNoPick zNoSum zNoWay zKind zFewest zWidest zCounted zLikeliest zChances zMusts zRests zNet : Addr}
  {f_common : Addr} {od_common an_common : Option Addr} {sl_common : Array (Option Value)} {oc_common kV_common dc_common pm_common cd_common ct_common : Value}
  {f_lowest : Addr} {od_lowest an_lowest : Option Addr} {sl_lowest : Array (Option Value)} {oc_lowest kV_lowest dc_lowest pm_lowest cd_lowest ct_lowest : Value}
  {f_is_share : Addr} {od_is_share an_is_share : Option Addr} {sl_is_share : Array (Option Value)} {oc_is_share kV_is_share dc_is_share pm_is_share cd_is_share ct_is_share : Value}
  {f_added : Addr} {od_added an_added : Option Addr} {sl_added : Array (Option Value)} {oc_added kV_added dc_added pm_added cd_added ct_added : Value}
  {f_taken : Addr} {od_taken an_taken : Option Addr} {sl_taken : Array (Option Value)} {oc_taken kV_taken dc_taken pm_taken cd_taken ct_taken : Value}
  {f_less : Addr} {od_less an_less : Option Addr} {sl_less : Array (Option Value)} {oc_less kV_less dc_less pm_less cd_less ct_less : Value}
  {f_worth_of : Addr} {od_worth_of an_worth_of : Option Addr} {sl_worth_of : Array (Option Value)} {oc_worth_of kV_worth_of dc_worth_of pm_worth_of cd_worth_of ct_worth_of : Value}
  {f_by_steps : Addr} {od_by_steps an_by_steps : Option Addr} {sl_by_steps : Array (Option Value)} {oc_by_steps kV_by_steps dc_by_steps pm_by_steps cd_by_steps ct_by_steps : Value}
  {f_straight : Addr} {od_straight an_straight : Option Addr} {sl_straight : Array (Option Value)} {oc_straight kV_straight dc_straight pm_straight cd_straight ct_straight : Value}
  {f_through : Addr} {od_through an_through : Option Addr} {sl_through : Array (Option Value)} {oc_through kV_through dc_through pm_through cd_through ct_through : Value}
  {f_table : Addr} {od_table an_table : Option Addr} {sl_table : Array (Option Value)} {oc_table kV_table dc_table pm_table cd_table ct_table : Value}
  {f_total : Addr} {od_total an_total : Option Addr} {sl_total : Array (Option Value)} {oc_total kV_total dc_total pm_total cd_total ct_total : Value}
  {f_without : Addr} {od_without an_without : Option Addr} {sl_without : Array (Option Value)} {oc_without kV_without dc_without pm_without cd_without ct_without : Value}
  {f_spread : Addr} {od_spread an_spread : Option Addr} {sl_spread : Array (Option Value)} {oc_spread kV_spread dc_spread pm_spread cd_spread ct_spread : Value}
  {f_way_for : Addr} {od_way_for an_way_for : Option Addr} {sl_way_for : Array (Option Value)} {oc_way_for kV_way_for dc_way_for pm_way_for cd_way_for ct_way_for : Value}
  {f__law_cell_at : Addr} {od__law_cell_at an__law_cell_at : Option Addr} {sl__law_cell_at : Array (Option Value)} {oc__law_cell_at kV__law_cell_at dc__law_cell_at pm__law_cell_at cd__law_cell_at ct__law_cell_at : Value}
  {f__law_which : Addr} {od__law_which an__law_which : Option Addr} {sl__law_which : Array (Option Value)} {oc__law_which kV__law_which dc__law_which pm__law_which cd__law_which ct__law_which : Value}
  {f__law_no_net : Addr} {od__law_no_net an__law_no_net : Option Addr} {sl__law_no_net : Array (Option Value)} {oc__law_no_net kV__law_no_net dc__law_no_net pm__law_no_net cd__law_no_net ct__law_no_net : Value}
  {f__law_no_worth : Addr} {od__law_no_worth an__law_no_worth : Option Addr} {sl__law_no_worth : Array (Option Value)} {oc__law_no_worth kV__law_no_worth dc__law_no_worth pm__law_no_worth cd__law_no_worth ct__law_no_worth : Value}
  {f__law_no_place : Addr} {od__law_no_place an__law_no_place : Option Addr} {sl__law_no_place : Array (Option Value)} {oc__law_no_place kV__law_no_place dc__law_no_place pm__law_no_place cd__law_no_place ct__law_no_place : Value}
  {f__law_no_sum : Addr} {od__law_no_sum an__law_no_sum : Option Addr} {sl__law_no_sum : Array (Option Value)} {oc__law_no_sum kV__law_no_sum dc__law_no_sum pm__law_no_sum cd__law_no_sum ct__law_no_sum : Value}
  {f__law_done : Addr} {od__law_done an__law_done : Option Addr} {sl__law_done : Array (Option Value)} {oc__law_done kV__law_done dc__law_done pm__law_done cd__law_done ct__law_done : Value}
  {f_law : Addr} {od_law an_law : Option Addr} {sl_law : Array (Option Value)} {oc_law kV_law dc_law pm_law cd_law ct_law : Value}
  {f_Kind_picks : Addr} {od_Kind_picks an_Kind_picks : Option Addr} {sl_Kind_picks : Array (Option Value)} {oc_Kind_picks kV_Kind_picks dc_Kind_picks pm_Kind_picks cd_Kind_picks ct_Kind_picks : Value}
  {f_Fewest_picks : Addr} {od_Fewest_picks an_Fewest_picks : Option Addr} {sl_Fewest_picks : Array (Option Value)} {oc_Fewest_picks kV_Fewest_picks dc_Fewest_picks pm_Fewest_picks cd_Fewest_picks ct_Fewest_picks : Value}
  {f_Fewest_none : Addr} {od_Fewest_none an_Fewest_none : Option Addr} {sl_Fewest_none : Array (Option Value)} {oc_Fewest_none kV_Fewest_none dc_Fewest_none pm_Fewest_none cd_Fewest_none ct_Fewest_none : Value}
  {f_Fewest_rest : Addr} {od_Fewest_rest an_Fewest_rest : Option Addr} {sl_Fewest_rest : Array (Option Value)} {oc_Fewest_rest kV_Fewest_rest dc_Fewest_rest pm_Fewest_rest cd_Fewest_rest ct_Fewest_rest : Value}
  {f_Fewest_is_worth : Addr} {od_Fewest_is_worth an_Fewest_is_worth : Option Addr} {sl_Fewest_is_worth : Array (Option Value)} {oc_Fewest_is_worth kV_Fewest_is_worth dc_Fewest_is_worth pm_Fewest_is_worth cd_Fewest_is_worth ct_Fewest_is_worth : Value}
  {f_Fewest_together : Addr} {od_Fewest_together an_Fewest_together : Option Addr} {sl_Fewest_together : Array (Option Value)} {oc_Fewest_together kV_Fewest_together dc_Fewest_together pm_Fewest_together cd_Fewest_together ct_Fewest_together : Value}
  {f_Fewest_behind : Addr} {od_Fewest_behind an_Fewest_behind : Option Addr} {sl_Fewest_behind : Array (Option Value)} {oc_Fewest_behind kV_Fewest_behind dc_Fewest_behind pm_Fewest_behind cd_Fewest_behind ct_Fewest_behind : Value}
  {f_Fewest_rounds : Addr} {od_Fewest_rounds an_Fewest_rounds : Option Addr} {sl_Fewest_rounds : Array (Option Value)} {oc_Fewest_rounds kV_Fewest_rounds dc_Fewest_rounds pm_Fewest_rounds cd_Fewest_rounds ct_Fewest_rounds : Value}
  {f_Widest_picks : Addr} {od_Widest_picks an_Widest_picks : Option Addr} {sl_Widest_picks : Array (Option Value)} {oc_Widest_picks kV_Widest_picks dc_Widest_picks pm_Widest_picks cd_Widest_picks ct_Widest_picks : Value}
  {f_Widest_none : Addr} {od_Widest_none an_Widest_none : Option Addr} {sl_Widest_none : Array (Option Value)} {oc_Widest_none kV_Widest_none dc_Widest_none pm_Widest_none cd_Widest_none ct_Widest_none : Value}
  {f_Widest_rest : Addr} {od_Widest_rest an_Widest_rest : Option Addr} {sl_Widest_rest : Array (Option Value)} {oc_Widest_rest kV_Widest_rest dc_Widest_rest pm_Widest_rest cd_Widest_rest ct_Widest_rest : Value}
  {f_Widest_is_worth : Addr} {od_Widest_is_worth an_Widest_is_worth : Option Addr} {sl_Widest_is_worth : Array (Option Value)} {oc_Widest_is_worth kV_Widest_is_worth dc_Widest_is_worth pm_Widest_is_worth cd_Widest_is_worth ct_Widest_is_worth : Value}
  {f_Widest_together : Addr} {od_Widest_together an_Widest_together : Option Addr} {sl_Widest_together : Array (Option Value)} {oc_Widest_together kV_Widest_together dc_Widest_together pm_Widest_together cd_Widest_together ct_Widest_together : Value}
  {f_Widest_behind : Addr} {od_Widest_behind an_Widest_behind : Option Addr} {sl_Widest_behind : Array (Option Value)} {oc_Widest_behind kV_Widest_behind dc_Widest_behind pm_Widest_behind cd_Widest_behind ct_Widest_behind : Value}
  {f_Widest_rounds : Addr} {od_Widest_rounds an_Widest_rounds : Option Addr} {sl_Widest_rounds : Array (Option Value)} {oc_Widest_rounds kV_Widest_rounds dc_Widest_rounds pm_Widest_rounds cd_Widest_rounds ct_Widest_rounds : Value}
  {f_Counted_none : Addr} {od_Counted_none an_Counted_none : Option Addr} {sl_Counted_none : Array (Option Value)} {oc_Counted_none kV_Counted_none dc_Counted_none pm_Counted_none cd_Counted_none ct_Counted_none : Value}
  {f_Counted_rest : Addr} {od_Counted_rest an_Counted_rest : Option Addr} {sl_Counted_rest : Array (Option Value)} {oc_Counted_rest kV_Counted_rest dc_Counted_rest pm_Counted_rest cd_Counted_rest ct_Counted_rest : Value}
  {f_Counted_is_worth : Addr} {od_Counted_is_worth an_Counted_is_worth : Option Addr} {sl_Counted_is_worth : Array (Option Value)} {oc_Counted_is_worth kV_Counted_is_worth dc_Counted_is_worth pm_Counted_is_worth cd_Counted_is_worth ct_Counted_is_worth : Value}
  {f_Counted_together : Addr} {od_Counted_together an_Counted_together : Option Addr} {sl_Counted_together : Array (Option Value)} {oc_Counted_together kV_Counted_together dc_Counted_together pm_Counted_together cd_Counted_together ct_Counted_together : Value}
  {f_Counted_behind : Addr} {od_Counted_behind an_Counted_behind : Option Addr} {sl_Counted_behind : Array (Option Value)} {oc_Counted_behind kV_Counted_behind dc_Counted_behind pm_Counted_behind cd_Counted_behind ct_Counted_behind : Value}
  {f_Counted_rounds : Addr} {od_Counted_rounds an_Counted_rounds : Option Addr} {sl_Counted_rounds : Array (Option Value)} {oc_Counted_rounds kV_Counted_rounds dc_Counted_rounds pm_Counted_rounds cd_Counted_rounds ct_Counted_rounds : Value}
  {f_Likeliest_picks : Addr} {od_Likeliest_picks an_Likeliest_picks : Option Addr} {sl_Likeliest_picks : Array (Option Value)} {oc_Likeliest_picks kV_Likeliest_picks dc_Likeliest_picks pm_Likeliest_picks cd_Likeliest_picks ct_Likeliest_picks : Value}
  {f_Likeliest_none : Addr} {od_Likeliest_none an_Likeliest_none : Option Addr} {sl_Likeliest_none : Array (Option Value)} {oc_Likeliest_none kV_Likeliest_none dc_Likeliest_none pm_Likeliest_none cd_Likeliest_none ct_Likeliest_none : Value}
  {f_Likeliest_rest : Addr} {od_Likeliest_rest an_Likeliest_rest : Option Addr} {sl_Likeliest_rest : Array (Option Value)} {oc_Likeliest_rest kV_Likeliest_rest dc_Likeliest_rest pm_Likeliest_rest cd_Likeliest_rest ct_Likeliest_rest : Value}
  {f_Likeliest_is_worth : Addr} {od_Likeliest_is_worth an_Likeliest_is_worth : Option Addr} {sl_Likeliest_is_worth : Array (Option Value)} {oc_Likeliest_is_worth kV_Likeliest_is_worth dc_Likeliest_is_worth pm_Likeliest_is_worth cd_Likeliest_is_worth ct_Likeliest_is_worth : Value}
  {f_Likeliest_together : Addr} {od_Likeliest_together an_Likeliest_together : Option Addr} {sl_Likeliest_together : Array (Option Value)} {oc_Likeliest_together kV_Likeliest_together dc_Likeliest_together pm_Likeliest_together cd_Likeliest_together ct_Likeliest_together : Value}
  {f_Likeliest_behind : Addr} {od_Likeliest_behind an_Likeliest_behind : Option Addr} {sl_Likeliest_behind : Array (Option Value)} {oc_Likeliest_behind kV_Likeliest_behind dc_Likeliest_behind pm_Likeliest_behind cd_Likeliest_behind ct_Likeliest_behind : Value}
  {f_Likeliest_rounds : Addr} {od_Likeliest_rounds an_Likeliest_rounds : Option Addr} {sl_Likeliest_rounds : Array (Option Value)} {oc_Likeliest_rounds kV_Likeliest_rounds dc_Likeliest_rounds pm_Likeliest_rounds cd_Likeliest_rounds ct_Likeliest_rounds : Value}
  {f_Chances_none : Addr} {od_Chances_none an_Chances_none : Option Addr} {sl_Chances_none : Array (Option Value)} {oc_Chances_none kV_Chances_none dc_Chances_none pm_Chances_none cd_Chances_none ct_Chances_none : Value}
  {f_Chances_rest : Addr} {od_Chances_rest an_Chances_rest : Option Addr} {sl_Chances_rest : Array (Option Value)} {oc_Chances_rest kV_Chances_rest dc_Chances_rest pm_Chances_rest cd_Chances_rest ct_Chances_rest : Value}
  {f_Chances_is_worth : Addr} {od_Chances_is_worth an_Chances_is_worth : Option Addr} {sl_Chances_is_worth : Array (Option Value)} {oc_Chances_is_worth kV_Chances_is_worth dc_Chances_is_worth pm_Chances_is_worth cd_Chances_is_worth ct_Chances_is_worth : Value}
  {f_Chances_together : Addr} {od_Chances_together an_Chances_together : Option Addr} {sl_Chances_together : Array (Option Value)} {oc_Chances_together kV_Chances_together dc_Chances_together pm_Chances_together cd_Chances_together ct_Chances_together : Value}
  {f_Chances_behind : Addr} {od_Chances_behind an_Chances_behind : Option Addr} {sl_Chances_behind : Array (Option Value)} {oc_Chances_behind kV_Chances_behind dc_Chances_behind pm_Chances_behind cd_Chances_behind ct_Chances_behind : Value}
  {f_Chances_rounds : Addr} {od_Chances_rounds an_Chances_rounds : Option Addr} {sl_Chances_rounds : Array (Option Value)} {oc_Chances_rounds kV_Chances_rounds dc_Chances_rounds pm_Chances_rounds cd_Chances_rounds ct_Chances_rounds : Value}
  {f_Musts_none : Addr} {od_Musts_none an_Musts_none : Option Addr} {sl_Musts_none : Array (Option Value)} {oc_Musts_none kV_Musts_none dc_Musts_none pm_Musts_none cd_Musts_none ct_Musts_none : Value}
  {f_Musts_rest : Addr} {od_Musts_rest an_Musts_rest : Option Addr} {sl_Musts_rest : Array (Option Value)} {oc_Musts_rest kV_Musts_rest dc_Musts_rest pm_Musts_rest cd_Musts_rest ct_Musts_rest : Value}
  {f_Musts_is_worth : Addr} {od_Musts_is_worth an_Musts_is_worth : Option Addr} {sl_Musts_is_worth : Array (Option Value)} {oc_Musts_is_worth kV_Musts_is_worth dc_Musts_is_worth pm_Musts_is_worth cd_Musts_is_worth ct_Musts_is_worth : Value}
  {f_Musts_together : Addr} {od_Musts_together an_Musts_together : Option Addr} {sl_Musts_together : Array (Option Value)} {oc_Musts_together kV_Musts_together dc_Musts_together pm_Musts_together cd_Musts_together ct_Musts_together : Value}
  {f_Musts_behind : Addr} {od_Musts_behind an_Musts_behind : Option Addr} {sl_Musts_behind : Array (Option Value)} {oc_Musts_behind kV_Musts_behind dc_Musts_behind pm_Musts_behind cd_Musts_behind ct_Musts_behind : Value}
  {f_Musts_rounds : Addr} {od_Musts_rounds an_Musts_rounds : Option Addr} {sl_Musts_rounds : Array (Option Value)} {oc_Musts_rounds kV_Musts_rounds dc_Musts_rounds pm_Musts_rounds cd_Musts_rounds ct_Musts_rounds : Value}
  {f_Rests___init__ : Addr} {od_Rests___init__ an_Rests___init__ : Option Addr} {sl_Rests___init__ : Array (Option Value)} {oc_Rests___init__ kV_Rests___init__ dc_Rests___init__ pm_Rests___init__ cd_Rests___init__ ct_Rests___init__ : Value}
  {f_Rests_none : Addr} {od_Rests_none an_Rests_none : Option Addr} {sl_Rests_none : Array (Option Value)} {oc_Rests_none kV_Rests_none dc_Rests_none pm_Rests_none cd_Rests_none ct_Rests_none : Value}
  {f_Rests_rest : Addr} {od_Rests_rest an_Rests_rest : Option Addr} {sl_Rests_rest : Array (Option Value)} {oc_Rests_rest kV_Rests_rest dc_Rests_rest pm_Rests_rest cd_Rests_rest ct_Rests_rest : Value}
  {f_Rests_is_worth : Addr} {od_Rests_is_worth an_Rests_is_worth : Option Addr} {sl_Rests_is_worth : Array (Option Value)} {oc_Rests_is_worth kV_Rests_is_worth dc_Rests_is_worth pm_Rests_is_worth cd_Rests_is_worth ct_Rests_is_worth : Value}
  {f_Rests_together : Addr} {od_Rests_together an_Rests_together : Option Addr} {sl_Rests_together : Array (Option Value)} {oc_Rests_together kV_Rests_together dc_Rests_together pm_Rests_together cd_Rests_together ct_Rests_together : Value}
  {f_Rests_behind : Addr} {od_Rests_behind an_Rests_behind : Option Addr} {sl_Rests_behind : Array (Option Value)} {oc_Rests_behind kV_Rests_behind dc_Rests_behind pm_Rests_behind cd_Rests_behind ct_Rests_behind : Value}
  {f_Rests_rounds : Addr} {od_Rests_rounds an_Rests_rounds : Option Addr} {sl_Rests_rounds : Array (Option Value)} {oc_Rests_rounds kV_Rests_rounds dc_Rests_rounds pm_Rests_rounds cd_Rests_rounds ct_Rests_rounds : Value}
  {f_Net___init__ : Addr} {od_Net___init__ an_Net___init__ : Option Addr} {sl_Net___init__ : Array (Option Value)} {oc_Net___init__ kV_Net___init__ dc_Net___init__ pm_Net___init__ cd_Net___init__ ct_Net___init__ : Value}
  {f_Net_ask_shares : Addr} {od_Net_ask_shares an_Net_ask_shares : Option Addr} {sl_Net_ask_shares : Array (Option Value)} {oc_Net_ask_shares kV_Net_ask_shares dc_Net_ask_shares pm_Net_ask_shares cd_Net_ask_shares ct_Net_ask_shares : Value}
  {f_Net_ask : Addr} {od_Net_ask an_Net_ask : Option Addr} {sl_Net_ask : Array (Option Value)} {oc_Net_ask kV_Net_ask dc_Net_ask pm_Net_ask cd_Net_ask ct_Net_ask : Value}
  {f_Net_kind : Addr} {od_Net_kind an_Net_kind : Option Addr} {sl_Net_kind : Array (Option Value)} {oc_Net_kind kV_Net_kind dc_Net_kind pm_Net_kind cd_Net_kind ct_Net_kind : Value}
  {f_Net_places : Addr} {od_Net_places an_Net_places : Option Addr} {sl_Net_places : Array (Option Value)} {oc_Net_places kV_Net_places dc_Net_places pm_Net_places cd_Net_places ct_Net_places : Value}
  {f_Net_roads : Addr} {od_Net_roads an_Net_roads : Option Addr} {sl_Net_roads : Array (Option Value)} {oc_Net_roads kV_Net_roads dc_Net_roads pm_Net_roads cd_Net_roads ct_Net_roads : Value}
  {f_Counted_picks : Addr} {od_Counted_picks an_Counted_picks : Option Addr} {sl_Counted_picks : Array (Option Value)} {oc_Counted_picks kV_Counted_picks dc_Counted_picks pm_Counted_picks cd_Counted_picks ct_Counted_picks : Value}
  {f_Chances_picks : Addr} {od_Chances_picks an_Chances_picks : Option Addr} {sl_Chances_picks : Array (Option Value)} {oc_Chances_picks kV_Chances_picks dc_Chances_picks pm_Chances_picks cd_Chances_picks ct_Chances_picks : Value}
  {f_Musts_picks : Addr} {od_Musts_picks an_Musts_picks : Option Addr} {sl_Musts_picks : Array (Option Value)} {oc_Musts_picks kV_Musts_picks dc_Musts_picks pm_Musts_picks cd_Musts_picks ct_Musts_picks : Value}
  {f_Rests_picks : Addr} {od_Rests_picks an_Rests_picks : Option Addr} {sl_Rests_picks : Array (Option Value)} {oc_Rests_picks kV_Rests_picks dc_Rests_picks pm_Rests_picks cd_Rests_picks ct_Rests_picks : Value}
  {tkWIDEST : Tok}
  {tkMOST_PLACES : Tok}
  {tkMOST_ROADS : Tok}
  {tkMOST_STEPS : Tok}
  (g_SumError : PySem.W.nsIn K mainGlobals "SumError" = some (some (.ref zSumError)))
  (g_NoNet : PySem.W.nsIn K mainGlobals "NoNet" = some (some (.ref zNoNet)))
  (g_NoWorth : PySem.W.nsIn K mainGlobals "NoWorth" = some (some (.ref zNoWorth)))
  (g_NoPlace : PySem.W.nsIn K mainGlobals "NoPlace" = some (some (.ref zNoPlace)))
  (g_NoRoad : PySem.W.nsIn K mainGlobals "NoRoad" = some (some (.ref zNoRoad)))
  (g_NoSteps : PySem.W.nsIn K mainGlobals "NoSteps" = some (some (.ref zNoSteps)))
  (g_NoPick : PySem.W.nsIn K mainGlobals "NoPick" = some (some (.ref zNoPick)))
  (g_NoSum : PySem.W.nsIn K mainGlobals "NoSum" = some (some (.ref zNoSum)))
  (g_NoWay : PySem.W.nsIn K mainGlobals "NoWay" = some (some (.ref zNoWay)))
  (g_Kind : PySem.W.nsIn K mainGlobals "Kind" = some (some (.ref zKind)))
  (g_Fewest : PySem.W.nsIn K mainGlobals "Fewest" = some (some (.ref zFewest)))
  (g_Widest : PySem.W.nsIn K mainGlobals "Widest" = some (some (.ref zWidest)))
  (g_Counted : PySem.W.nsIn K mainGlobals "Counted" = some (some (.ref zCounted)))
  (g_Likeliest : PySem.W.nsIn K mainGlobals "Likeliest" = some (some (.ref zLikeliest)))
  (g_Chances : PySem.W.nsIn K mainGlobals "Chances" = some (some (.ref zChances)))
  (g_Musts : PySem.W.nsIn K mainGlobals "Musts" = some (some (.ref zMusts)))
  (g_Rests : PySem.W.nsIn K mainGlobals "Rests" = some (some (.ref zRests)))
  (g_Net : PySem.W.nsIn K mainGlobals "Net" = some (some (.ref zNet)))
  (a_common : PySem.W.nsIn K mainGlobals "common" = some (some (.ref f_common)))
  (l_common : K.lookup f_common = some ⟨oc_common, od_common, .func (PySem.W.fnOf "common" "common" (defArgs s_common) (defBody s_common) (defScope s_common) .none kV_common dc_common pm_common an_common cd_common ct_common), sl_common⟩)
  (c_common : PySem.W.codeIn K cd_common "common" = true)
  (k_common : PySem.W.keepIn K (.ref f_common) = true)
  (a_lowest : PySem.W.nsIn K mainGlobals "lowest" = some (some (.ref f_lowest)))
  (l_lowest : K.lookup f_lowest = some ⟨oc_lowest, od_lowest, .func (PySem.W.fnOf "lowest" "lowest" (defArgs s_lowest) (defBody s_lowest) (defScope s_lowest) .none kV_lowest dc_lowest pm_lowest an_lowest cd_lowest ct_lowest), sl_lowest⟩)
  (c_lowest : PySem.W.codeIn K cd_lowest "lowest" = true)
  (k_lowest : PySem.W.keepIn K (.ref f_lowest) = true)
  (a_is_share : PySem.W.nsIn K mainGlobals "is_share" = some (some (.ref f_is_share)))
  (l_is_share : K.lookup f_is_share = some ⟨oc_is_share, od_is_share, .func (PySem.W.fnOf "is_share" "is_share" (defArgs s_is_share) (defBody s_is_share) (defScope s_is_share) .none kV_is_share dc_is_share pm_is_share an_is_share cd_is_share ct_is_share), sl_is_share⟩)
  (c_is_share : PySem.W.codeIn K cd_is_share "is_share" = true)
  (k_is_share : PySem.W.keepIn K (.ref f_is_share) = true)
  (a_added : PySem.W.nsIn K mainGlobals "added" = some (some (.ref f_added)))
  (l_added : K.lookup f_added = some ⟨oc_added, od_added, .func (PySem.W.fnOf "added" "added" (defArgs s_added) (defBody s_added) (defScope s_added) .none kV_added dc_added pm_added an_added cd_added ct_added), sl_added⟩)
  (c_added : PySem.W.codeIn K cd_added "added" = true)
  (k_added : PySem.W.keepIn K (.ref f_added) = true)
  (a_taken : PySem.W.nsIn K mainGlobals "taken" = some (some (.ref f_taken)))
  (l_taken : K.lookup f_taken = some ⟨oc_taken, od_taken, .func (PySem.W.fnOf "taken" "taken" (defArgs s_taken) (defBody s_taken) (defScope s_taken) .none kV_taken dc_taken pm_taken an_taken cd_taken ct_taken), sl_taken⟩)
  (c_taken : PySem.W.codeIn K cd_taken "taken" = true)
  (k_taken : PySem.W.keepIn K (.ref f_taken) = true)
  (a_less : PySem.W.nsIn K mainGlobals "less" = some (some (.ref f_less)))
  (l_less : K.lookup f_less = some ⟨oc_less, od_less, .func (PySem.W.fnOf "less" "less" (defArgs s_less) (defBody s_less) (defScope s_less) .none kV_less dc_less pm_less an_less cd_less ct_less), sl_less⟩)
  (c_less : PySem.W.codeIn K cd_less "less" = true)
  (k_less : PySem.W.keepIn K (.ref f_less) = true)
  (a_worth_of : PySem.W.nsIn K mainGlobals "worth_of" = some (some (.ref f_worth_of)))
  (l_worth_of : K.lookup f_worth_of = some ⟨oc_worth_of, od_worth_of, .func (PySem.W.fnOf "worth_of" "worth_of" (defArgs s_worth_of) (defBody s_worth_of) (defScope s_worth_of) .none kV_worth_of dc_worth_of pm_worth_of an_worth_of cd_worth_of ct_worth_of), sl_worth_of⟩)
  (c_worth_of : PySem.W.codeIn K cd_worth_of "worth_of" = true)
  (k_worth_of : PySem.W.keepIn K (.ref f_worth_of) = true)
  (a_by_steps : PySem.W.nsIn K mainGlobals "by_steps" = some (some (.ref f_by_steps)))
  (l_by_steps : K.lookup f_by_steps = some ⟨oc_by_steps, od_by_steps, .func (PySem.W.fnOf "by_steps" "by_steps" (defArgs s_by_steps) (defBody s_by_steps) (defScope s_by_steps) .none kV_by_steps dc_by_steps pm_by_steps an_by_steps cd_by_steps ct_by_steps), sl_by_steps⟩)
  (c_by_steps : PySem.W.codeIn K cd_by_steps "by_steps" = true)
  (k_by_steps : PySem.W.keepIn K (.ref f_by_steps) = true)
  (a_straight : PySem.W.nsIn K mainGlobals "straight" = some (some (.ref f_straight)))
  (l_straight : K.lookup f_straight = some ⟨oc_straight, od_straight, .func (PySem.W.fnOf "straight" "straight" (defArgs s_straight) (defBody s_straight) (defScope s_straight) .none kV_straight dc_straight pm_straight an_straight cd_straight ct_straight), sl_straight⟩)
  (c_straight : PySem.W.codeIn K cd_straight "straight" = true)
  (k_straight : PySem.W.keepIn K (.ref f_straight) = true)
  (a_through : PySem.W.nsIn K mainGlobals "through" = some (some (.ref f_through)))
  (l_through : K.lookup f_through = some ⟨oc_through, od_through, .func (PySem.W.fnOf "through" "through" (defArgs s_through) (defBody s_through) (defScope s_through) .none kV_through dc_through pm_through an_through cd_through ct_through), sl_through⟩)
  (c_through : PySem.W.codeIn K cd_through "through" = true)
  (k_through : PySem.W.keepIn K (.ref f_through) = true)
  (a_table : PySem.W.nsIn K mainGlobals "table" = some (some (.ref f_table)))
  (l_table : K.lookup f_table = some ⟨oc_table, od_table, .func (PySem.W.fnOf "table" "table" (defArgs s_table) (defBody s_table) (defScope s_table) .none kV_table dc_table pm_table an_table cd_table ct_table), sl_table⟩)
  (c_table : PySem.W.codeIn K cd_table "table" = true)
  (k_table : PySem.W.keepIn K (.ref f_table) = true)
  (a_total : PySem.W.nsIn K mainGlobals "total" = some (some (.ref f_total)))
  (l_total : K.lookup f_total = some ⟨oc_total, od_total, .func (PySem.W.fnOf "total" "total" (defArgs s_total) (defBody s_total) (defScope s_total) .none kV_total dc_total pm_total an_total cd_total ct_total), sl_total⟩)
  (c_total : PySem.W.codeIn K cd_total "total" = true)
  (k_total : PySem.W.keepIn K (.ref f_total) = true)
  (a_without : PySem.W.nsIn K mainGlobals "without" = some (some (.ref f_without)))
  (l_without : K.lookup f_without = some ⟨oc_without, od_without, .func (PySem.W.fnOf "without" "without" (defArgs s_without) (defBody s_without) (defScope s_without) .none kV_without dc_without pm_without an_without cd_without ct_without), sl_without⟩)
  (c_without : PySem.W.codeIn K cd_without "without" = true)
  (k_without : PySem.W.keepIn K (.ref f_without) = true)
  (a_spread : PySem.W.nsIn K mainGlobals "spread" = some (some (.ref f_spread)))
  (l_spread : K.lookup f_spread = some ⟨oc_spread, od_spread, .func (PySem.W.fnOf "spread" "spread" (defArgs s_spread) (defBody s_spread) (defScope s_spread) .none kV_spread dc_spread pm_spread an_spread cd_spread ct_spread), sl_spread⟩)
  (c_spread : PySem.W.codeIn K cd_spread "spread" = true)
  (k_spread : PySem.W.keepIn K (.ref f_spread) = true)
  (a_way_for : PySem.W.nsIn K mainGlobals "way_for" = some (some (.ref f_way_for)))
  (l_way_for : K.lookup f_way_for = some ⟨oc_way_for, od_way_for, .func (PySem.W.fnOf "way_for" "way_for" (defArgs s_way_for) (defBody s_way_for) (defScope s_way_for) .none kV_way_for dc_way_for pm_way_for an_way_for cd_way_for ct_way_for), sl_way_for⟩)
  (c_way_for : PySem.W.codeIn K cd_way_for "way_for" = true)
  (k_way_for : PySem.W.keepIn K (.ref f_way_for) = true)
  (a__law_cell_at : PySem.W.nsIn K mainGlobals "_law_cell_at" = some (some (.ref f__law_cell_at)))
  (l__law_cell_at : K.lookup f__law_cell_at = some ⟨oc__law_cell_at, od__law_cell_at, .func (PySem.W.fnOf "_law_cell_at" "_law_cell_at" (defArgs s__law_cell_at) (defBody s__law_cell_at) (defScope s__law_cell_at) .none kV__law_cell_at dc__law_cell_at pm__law_cell_at an__law_cell_at cd__law_cell_at ct__law_cell_at), sl__law_cell_at⟩)
  (c__law_cell_at : PySem.W.codeIn K cd__law_cell_at "_law_cell_at" = true)
  (k__law_cell_at : PySem.W.keepIn K (.ref f__law_cell_at) = true)
  (a__law_which : PySem.W.nsIn K mainGlobals "_law_which" = some (some (.ref f__law_which)))
  (l__law_which : K.lookup f__law_which = some ⟨oc__law_which, od__law_which, .func (PySem.W.fnOf "_law_which" "_law_which" (defArgs s__law_which) (defBody s__law_which) (defScope s__law_which) .none kV__law_which dc__law_which pm__law_which an__law_which cd__law_which ct__law_which), sl__law_which⟩)
  (c__law_which : PySem.W.codeIn K cd__law_which "_law_which" = true)
  (k__law_which : PySem.W.keepIn K (.ref f__law_which) = true)
  (a__law_no_net : PySem.W.nsIn K mainGlobals "_law_no_net" = some (some (.ref f__law_no_net)))
  (l__law_no_net : K.lookup f__law_no_net = some ⟨oc__law_no_net, od__law_no_net, .func (PySem.W.fnOf "_law_no_net" "_law_no_net" (defArgs s__law_no_net) (defBody s__law_no_net) (defScope s__law_no_net) .none kV__law_no_net dc__law_no_net pm__law_no_net an__law_no_net cd__law_no_net ct__law_no_net), sl__law_no_net⟩)
  (c__law_no_net : PySem.W.codeIn K cd__law_no_net "_law_no_net" = true)
  (k__law_no_net : PySem.W.keepIn K (.ref f__law_no_net) = true)
  (a__law_no_worth : PySem.W.nsIn K mainGlobals "_law_no_worth" = some (some (.ref f__law_no_worth)))
  (l__law_no_worth : K.lookup f__law_no_worth = some ⟨oc__law_no_worth, od__law_no_worth, .func (PySem.W.fnOf "_law_no_worth" "_law_no_worth" (defArgs s__law_no_worth) (defBody s__law_no_worth) (defScope s__law_no_worth) .none kV__law_no_worth dc__law_no_worth pm__law_no_worth an__law_no_worth cd__law_no_worth ct__law_no_worth), sl__law_no_worth⟩)
  (c__law_no_worth : PySem.W.codeIn K cd__law_no_worth "_law_no_worth" = true)
  (k__law_no_worth : PySem.W.keepIn K (.ref f__law_no_worth) = true)
  (a__law_no_place : PySem.W.nsIn K mainGlobals "_law_no_place" = some (some (.ref f__law_no_place)))
  (l__law_no_place : K.lookup f__law_no_place = some ⟨oc__law_no_place, od__law_no_place, .func (PySem.W.fnOf "_law_no_place" "_law_no_place" (defArgs s__law_no_place) (defBody s__law_no_place) (defScope s__law_no_place) .none kV__law_no_place dc__law_no_place pm__law_no_place an__law_no_place cd__law_no_place ct__law_no_place), sl__law_no_place⟩)
  (c__law_no_place : PySem.W.codeIn K cd__law_no_place "_law_no_place" = true)
  (k__law_no_place : PySem.W.keepIn K (.ref f__law_no_place) = true)
  (a__law_no_sum : PySem.W.nsIn K mainGlobals "_law_no_sum" = some (some (.ref f__law_no_sum)))
  (l__law_no_sum : K.lookup f__law_no_sum = some ⟨oc__law_no_sum, od__law_no_sum, .func (PySem.W.fnOf "_law_no_sum" "_law_no_sum" (defArgs s__law_no_sum) (defBody s__law_no_sum) (defScope s__law_no_sum) .none kV__law_no_sum dc__law_no_sum pm__law_no_sum an__law_no_sum cd__law_no_sum ct__law_no_sum), sl__law_no_sum⟩)
  (c__law_no_sum : PySem.W.codeIn K cd__law_no_sum "_law_no_sum" = true)
  (k__law_no_sum : PySem.W.keepIn K (.ref f__law_no_sum) = true)
  (a__law_done : PySem.W.nsIn K mainGlobals "_law_done" = some (some (.ref f__law_done)))
  (l__law_done : K.lookup f__law_done = some ⟨oc__law_done, od__law_done, .func (PySem.W.fnOf "_law_done" "_law_done" (defArgs s__law_done) (defBody s__law_done) (defScope s__law_done) .none kV__law_done dc__law_done pm__law_done an__law_done cd__law_done ct__law_done), sl__law_done⟩)
  (c__law_done : PySem.W.codeIn K cd__law_done "_law_done" = true)
  (k__law_done : PySem.W.keepIn K (.ref f__law_done) = true)
  (a_law : PySem.W.nsIn K mainGlobals "law" = some (some (.ref f_law)))
  (l_law : K.lookup f_law = some ⟨oc_law, od_law, .func (PySem.W.fnOf "law" "law" (defArgs s_law) (defBody s_law) (defScope s_law) .none kV_law dc_law pm_law an_law cd_law ct_law), sl_law⟩)
  (c_law : PySem.W.codeIn K cd_law "law" = true)
  (k_law : PySem.W.keepIn K (.ref f_law) = true)
  (p1Kind : PySem.W.plainGet K zKind Str.empty = true)
  (p2Kind : PySem.W.hasDictIn K zKind = true)
  (p3Kind : PySem.W.plainOver K zKind = true)
  (p4Kind : PySem.W.findIn K (.ref zKind) "__setattr__" = some (some (.builtin "object.__setattr__")))
  (q1Kind : PySem.W.keepIn K (.ref zKind) = true)
  (q2Kind : PySem.W.makesIn K zKind = true)
  (q3Kind : PySem.W.findIn K (.ref zKind) "__class__" = some (some (.builtin "object.__class__")))
  (q4Kind : PySem.W.mroIn K zKind (.type "object") = some true)
  (q5Kind : PySem.W.findIn K (.ref zKind) "__init__" = some (some (.builtin "object.__init__")))
  (p1Fewest : PySem.W.plainGet K zFewest Str.empty = true)
  (p2Fewest : PySem.W.hasDictIn K zFewest = true)
  (p3Fewest : PySem.W.plainOver K zFewest = true)
  (p4Fewest : PySem.W.findIn K (.ref zFewest) "__setattr__" = some (some (.builtin "object.__setattr__")))
  (q1Fewest : PySem.W.keepIn K (.ref zFewest) = true)
  (q2Fewest : PySem.W.makesIn K zFewest = true)
  (q3Fewest : PySem.W.findIn K (.ref zFewest) "__class__" = some (some (.builtin "object.__class__")))
  (q4Fewest : PySem.W.mroIn K zFewest (.type "object") = some true)
  (q5Fewest : PySem.W.findIn K (.ref zFewest) "__init__" = some (some (.builtin "object.__init__")))
  (p1Widest : PySem.W.plainGet K zWidest Str.empty = true)
  (p2Widest : PySem.W.hasDictIn K zWidest = true)
  (p3Widest : PySem.W.plainOver K zWidest = true)
  (p4Widest : PySem.W.findIn K (.ref zWidest) "__setattr__" = some (some (.builtin "object.__setattr__")))
  (q1Widest : PySem.W.keepIn K (.ref zWidest) = true)
  (q2Widest : PySem.W.makesIn K zWidest = true)
  (q3Widest : PySem.W.findIn K (.ref zWidest) "__class__" = some (some (.builtin "object.__class__")))
  (q4Widest : PySem.W.mroIn K zWidest (.type "object") = some true)
  (q5Widest : PySem.W.findIn K (.ref zWidest) "__init__" = some (some (.builtin "object.__init__")))
  (p1Counted : PySem.W.plainGet K zCounted Str.empty = true)
  (p2Counted : PySem.W.hasDictIn K zCounted = true)
  (p3Counted : PySem.W.plainOver K zCounted = true)
  (p4Counted : PySem.W.findIn K (.ref zCounted) "__setattr__" = some (some (.builtin "object.__setattr__")))
  (q1Counted : PySem.W.keepIn K (.ref zCounted) = true)
  (q2Counted : PySem.W.makesIn K zCounted = true)
  (q3Counted : PySem.W.findIn K (.ref zCounted) "__class__" = some (some (.builtin "object.__class__")))
  (q4Counted : PySem.W.mroIn K zCounted (.type "object") = some true)
  (q5Counted : PySem.W.findIn K (.ref zCounted) "__init__" = some (some (.builtin "object.__init__")))
  (p1Likeliest : PySem.W.plainGet K zLikeliest Str.empty = true)
  (p2Likeliest : PySem.W.hasDictIn K zLikeliest = true)
  (p3Likeliest : PySem.W.plainOver K zLikeliest = true)
  (p4Likeliest : PySem.W.findIn K (.ref zLikeliest) "__setattr__" = some (some (.builtin "object.__setattr__")))
  (q1Likeliest : PySem.W.keepIn K (.ref zLikeliest) = true)
  (q2Likeliest : PySem.W.makesIn K zLikeliest = true)
  (q3Likeliest : PySem.W.findIn K (.ref zLikeliest) "__class__" = some (some (.builtin "object.__class__")))
  (q4Likeliest : PySem.W.mroIn K zLikeliest (.type "object") = some true)
  (q5Likeliest : PySem.W.findIn K (.ref zLikeliest) "__init__" = some (some (.builtin "object.__init__")))
  (p1Chances : PySem.W.plainGet K zChances Str.empty = true)
  (p2Chances : PySem.W.hasDictIn K zChances = true)
  (p3Chances : PySem.W.plainOver K zChances = true)
  (p4Chances : PySem.W.findIn K (.ref zChances) "__setattr__" = some (some (.builtin "object.__setattr__")))
  (q1Chances : PySem.W.keepIn K (.ref zChances) = true)
  (q2Chances : PySem.W.makesIn K zChances = true)
  (q3Chances : PySem.W.findIn K (.ref zChances) "__class__" = some (some (.builtin "object.__class__")))
  (q4Chances : PySem.W.mroIn K zChances (.type "object") = some true)
  (q5Chances : PySem.W.findIn K (.ref zChances) "__init__" = some (some (.builtin "object.__init__")))
  (p1Musts : PySem.W.plainGet K zMusts Str.empty = true)
  (p2Musts : PySem.W.hasDictIn K zMusts = true)
  (p3Musts : PySem.W.plainOver K zMusts = true)
  (p4Musts : PySem.W.findIn K (.ref zMusts) "__setattr__" = some (some (.builtin "object.__setattr__")))
  (q1Musts : PySem.W.keepIn K (.ref zMusts) = true)
  (q2Musts : PySem.W.makesIn K zMusts = true)
  (q3Musts : PySem.W.findIn K (.ref zMusts) "__class__" = some (some (.builtin "object.__class__")))
  (q4Musts : PySem.W.mroIn K zMusts (.type "object") = some true)
  (q5Musts : PySem.W.findIn K (.ref zMusts) "__init__" = some (some (.builtin "object.__init__")))
  (p1Rests : PySem.W.plainGet K zRests Str.empty = true)
  (p2Rests : PySem.W.hasDictIn K zRests = true)
  (p3Rests : PySem.W.plainOver K zRests = true)
  (p4Rests : PySem.W.findIn K (.ref zRests) "__setattr__" = some (some (.builtin "object.__setattr__")))
  (q1Rests : PySem.W.keepIn K (.ref zRests) = true)
  (q2Rests : PySem.W.makesIn K zRests = true)
  (q3Rests : PySem.W.findIn K (.ref zRests) "__class__" = some (some (.builtin "object.__class__")))
  (q4Rests : PySem.W.mroIn K zRests (.type "object") = some true)
  (p1Net : PySem.W.plainGet K zNet Str.empty = true)
  (p2Net : PySem.W.hasDictIn K zNet = true)
  (p3Net : PySem.W.plainOver K zNet = true)
  (p4Net : PySem.W.findIn K (.ref zNet) "__setattr__" = some (some (.builtin "object.__setattr__")))
  (q1Net : PySem.W.keepIn K (.ref zNet) = true)
  (q2Net : PySem.W.makesIn K zNet = true)
  (q3Net : PySem.W.findIn K (.ref zNet) "__class__" = some (some (.builtin "object.__class__")))
  (q4Net : PySem.W.mroIn K zNet (.type "object") = some true)
  (a_Kind_picks : PySem.W.findIn K (.ref zKind) "picks" = some (some (.ref f_Kind_picks)))
  (i_Kind_picks : PySem.W.isFn K (.ref f_Kind_picks) = true)
  (l_Kind_picks : K.lookup f_Kind_picks = some ⟨oc_Kind_picks, od_Kind_picks, .func (PySem.W.fnOf "picks" "Kind.picks" (defArgs s_Kind_picks) (defBody s_Kind_picks) (defScope s_Kind_picks) .none kV_Kind_picks dc_Kind_picks pm_Kind_picks an_Kind_picks cd_Kind_picks ct_Kind_picks), sl_Kind_picks⟩)
  (c_Kind_picks : PySem.W.codeIn K cd_Kind_picks "Kind.picks" = true)
  (k_Kind_picks : PySem.W.keepIn K (.ref f_Kind_picks) = true)
  (a_Fewest_picks : PySem.W.findIn K (.ref zFewest) "picks" = some (some (.ref f_Fewest_picks)))
  (i_Fewest_picks : PySem.W.isFn K (.ref f_Fewest_picks) = true)
  (l_Fewest_picks : K.lookup f_Fewest_picks = some ⟨oc_Fewest_picks, od_Fewest_picks, .func (PySem.W.fnOf "picks" "Fewest.picks" (defArgs s_Fewest_picks) (defBody s_Fewest_picks) (defScope s_Fewest_picks) .none kV_Fewest_picks dc_Fewest_picks pm_Fewest_picks an_Fewest_picks cd_Fewest_picks ct_Fewest_picks), sl_Fewest_picks⟩)
  (c_Fewest_picks : PySem.W.codeIn K cd_Fewest_picks "Fewest.picks" = true)
  (k_Fewest_picks : PySem.W.keepIn K (.ref f_Fewest_picks) = true)
  (a_Fewest_none : PySem.W.findIn K (.ref zFewest) "none" = some (some (.ref f_Fewest_none)))
  (i_Fewest_none : PySem.W.isFn K (.ref f_Fewest_none) = true)
  (l_Fewest_none : K.lookup f_Fewest_none = some ⟨oc_Fewest_none, od_Fewest_none, .func (PySem.W.fnOf "none" "Fewest.none" (defArgs s_Fewest_none) (defBody s_Fewest_none) (defScope s_Fewest_none) .none kV_Fewest_none dc_Fewest_none pm_Fewest_none an_Fewest_none cd_Fewest_none ct_Fewest_none), sl_Fewest_none⟩)
  (c_Fewest_none : PySem.W.codeIn K cd_Fewest_none "Fewest.none" = true)
  (k_Fewest_none : PySem.W.keepIn K (.ref f_Fewest_none) = true)
  (a_Fewest_rest : PySem.W.findIn K (.ref zFewest) "rest" = some (some (.ref f_Fewest_rest)))
  (i_Fewest_rest : PySem.W.isFn K (.ref f_Fewest_rest) = true)
  (l_Fewest_rest : K.lookup f_Fewest_rest = some ⟨oc_Fewest_rest, od_Fewest_rest, .func (PySem.W.fnOf "rest" "Fewest.rest" (defArgs s_Fewest_rest) (defBody s_Fewest_rest) (defScope s_Fewest_rest) .none kV_Fewest_rest dc_Fewest_rest pm_Fewest_rest an_Fewest_rest cd_Fewest_rest ct_Fewest_rest), sl_Fewest_rest⟩)
  (c_Fewest_rest : PySem.W.codeIn K cd_Fewest_rest "Fewest.rest" = true)
  (k_Fewest_rest : PySem.W.keepIn K (.ref f_Fewest_rest) = true)
  (a_Fewest_is_worth : PySem.W.findIn K (.ref zFewest) "is_worth" = some (some (.ref f_Fewest_is_worth)))
  (i_Fewest_is_worth : PySem.W.isFn K (.ref f_Fewest_is_worth) = true)
  (l_Fewest_is_worth : K.lookup f_Fewest_is_worth = some ⟨oc_Fewest_is_worth, od_Fewest_is_worth, .func (PySem.W.fnOf "is_worth" "Fewest.is_worth" (defArgs s_Fewest_is_worth) (defBody s_Fewest_is_worth) (defScope s_Fewest_is_worth) .none kV_Fewest_is_worth dc_Fewest_is_worth pm_Fewest_is_worth an_Fewest_is_worth cd_Fewest_is_worth ct_Fewest_is_worth), sl_Fewest_is_worth⟩)
  (c_Fewest_is_worth : PySem.W.codeIn K cd_Fewest_is_worth "Fewest.is_worth" = true)
  (k_Fewest_is_worth : PySem.W.keepIn K (.ref f_Fewest_is_worth) = true)
  (a_Fewest_together : PySem.W.findIn K (.ref zFewest) "together" = some (some (.ref f_Fewest_together)))
  (i_Fewest_together : PySem.W.isFn K (.ref f_Fewest_together) = true)
  (l_Fewest_together : K.lookup f_Fewest_together = some ⟨oc_Fewest_together, od_Fewest_together, .func (PySem.W.fnOf "together" "Fewest.together" (defArgs s_Fewest_together) (defBody s_Fewest_together) (defScope s_Fewest_together) .none kV_Fewest_together dc_Fewest_together pm_Fewest_together an_Fewest_together cd_Fewest_together ct_Fewest_together), sl_Fewest_together⟩)
  (c_Fewest_together : PySem.W.codeIn K cd_Fewest_together "Fewest.together" = true)
  (k_Fewest_together : PySem.W.keepIn K (.ref f_Fewest_together) = true)
  (a_Fewest_behind : PySem.W.findIn K (.ref zFewest) "behind" = some (some (.ref f_Fewest_behind)))
  (i_Fewest_behind : PySem.W.isFn K (.ref f_Fewest_behind) = true)
  (l_Fewest_behind : K.lookup f_Fewest_behind = some ⟨oc_Fewest_behind, od_Fewest_behind, .func (PySem.W.fnOf "behind" "Fewest.behind" (defArgs s_Fewest_behind) (defBody s_Fewest_behind) (defScope s_Fewest_behind) .none kV_Fewest_behind dc_Fewest_behind pm_Fewest_behind an_Fewest_behind cd_Fewest_behind ct_Fewest_behind), sl_Fewest_behind⟩)
  (c_Fewest_behind : PySem.W.codeIn K cd_Fewest_behind "Fewest.behind" = true)
  (k_Fewest_behind : PySem.W.keepIn K (.ref f_Fewest_behind) = true)
  (a_Fewest_rounds : PySem.W.findIn K (.ref zFewest) "rounds" = some (some (.ref f_Fewest_rounds)))
  (i_Fewest_rounds : PySem.W.isFn K (.ref f_Fewest_rounds) = true)
  (l_Fewest_rounds : K.lookup f_Fewest_rounds = some ⟨oc_Fewest_rounds, od_Fewest_rounds, .func (PySem.W.fnOf "rounds" "Fewest.rounds" (defArgs s_Fewest_rounds) (defBody s_Fewest_rounds) (defScope s_Fewest_rounds) .none kV_Fewest_rounds dc_Fewest_rounds pm_Fewest_rounds an_Fewest_rounds cd_Fewest_rounds ct_Fewest_rounds), sl_Fewest_rounds⟩)
  (c_Fewest_rounds : PySem.W.codeIn K cd_Fewest_rounds "Fewest.rounds" = true)
  (k_Fewest_rounds : PySem.W.keepIn K (.ref f_Fewest_rounds) = true)
  (a_Widest_picks : PySem.W.findIn K (.ref zWidest) "picks" = some (some (.ref f_Widest_picks)))
  (i_Widest_picks : PySem.W.isFn K (.ref f_Widest_picks) = true)
  (l_Widest_picks : K.lookup f_Widest_picks = some ⟨oc_Widest_picks, od_Widest_picks, .func (PySem.W.fnOf "picks" "Widest.picks" (defArgs s_Widest_picks) (defBody s_Widest_picks) (defScope s_Widest_picks) .none kV_Widest_picks dc_Widest_picks pm_Widest_picks an_Widest_picks cd_Widest_picks ct_Widest_picks), sl_Widest_picks⟩)
  (c_Widest_picks : PySem.W.codeIn K cd_Widest_picks "Widest.picks" = true)
  (k_Widest_picks : PySem.W.keepIn K (.ref f_Widest_picks) = true)
  (a_Widest_none : PySem.W.findIn K (.ref zWidest) "none" = some (some (.ref f_Widest_none)))
  (i_Widest_none : PySem.W.isFn K (.ref f_Widest_none) = true)
  (l_Widest_none : K.lookup f_Widest_none = some ⟨oc_Widest_none, od_Widest_none, .func (PySem.W.fnOf "none" "Widest.none" (defArgs s_Widest_none) (defBody s_Widest_none) (defScope s_Widest_none) .none kV_Widest_none dc_Widest_none pm_Widest_none an_Widest_none cd_Widest_none ct_Widest_none), sl_Widest_none⟩)
  (c_Widest_none : PySem.W.codeIn K cd_Widest_none "Widest.none" = true)
  (k_Widest_none : PySem.W.keepIn K (.ref f_Widest_none) = true)
  (a_Widest_rest : PySem.W.findIn K (.ref zWidest) "rest" = some (some (.ref f_Widest_rest)))
  (i_Widest_rest : PySem.W.isFn K (.ref f_Widest_rest) = true)
  (l_Widest_rest : K.lookup f_Widest_rest = some ⟨oc_Widest_rest, od_Widest_rest, .func (PySem.W.fnOf "rest" "Widest.rest" (defArgs s_Widest_rest) (defBody s_Widest_rest) (defScope s_Widest_rest) .none kV_Widest_rest dc_Widest_rest pm_Widest_rest an_Widest_rest cd_Widest_rest ct_Widest_rest), sl_Widest_rest⟩)
  (c_Widest_rest : PySem.W.codeIn K cd_Widest_rest "Widest.rest" = true)
  (k_Widest_rest : PySem.W.keepIn K (.ref f_Widest_rest) = true)
  (a_Widest_is_worth : PySem.W.findIn K (.ref zWidest) "is_worth" = some (some (.ref f_Widest_is_worth)))
  (i_Widest_is_worth : PySem.W.isFn K (.ref f_Widest_is_worth) = true)
  (l_Widest_is_worth : K.lookup f_Widest_is_worth = some ⟨oc_Widest_is_worth, od_Widest_is_worth, .func (PySem.W.fnOf "is_worth" "Widest.is_worth" (defArgs s_Widest_is_worth) (defBody s_Widest_is_worth) (defScope s_Widest_is_worth) .none kV_Widest_is_worth dc_Widest_is_worth pm_Widest_is_worth an_Widest_is_worth cd_Widest_is_worth ct_Widest_is_worth), sl_Widest_is_worth⟩)
  (c_Widest_is_worth : PySem.W.codeIn K cd_Widest_is_worth "Widest.is_worth" = true)
  (k_Widest_is_worth : PySem.W.keepIn K (.ref f_Widest_is_worth) = true)
  (a_Widest_together : PySem.W.findIn K (.ref zWidest) "together" = some (some (.ref f_Widest_together)))
  (i_Widest_together : PySem.W.isFn K (.ref f_Widest_together) = true)
  (l_Widest_together : K.lookup f_Widest_together = some ⟨oc_Widest_together, od_Widest_together, .func (PySem.W.fnOf "together" "Widest.together" (defArgs s_Widest_together) (defBody s_Widest_together) (defScope s_Widest_together) .none kV_Widest_together dc_Widest_together pm_Widest_together an_Widest_together cd_Widest_together ct_Widest_together), sl_Widest_together⟩)
  (c_Widest_together : PySem.W.codeIn K cd_Widest_together "Widest.together" = true)
  (k_Widest_together : PySem.W.keepIn K (.ref f_Widest_together) = true)
  (a_Widest_behind : PySem.W.findIn K (.ref zWidest) "behind" = some (some (.ref f_Widest_behind)))
  (i_Widest_behind : PySem.W.isFn K (.ref f_Widest_behind) = true)
  (l_Widest_behind : K.lookup f_Widest_behind = some ⟨oc_Widest_behind, od_Widest_behind, .func (PySem.W.fnOf "behind" "Widest.behind" (defArgs s_Widest_behind) (defBody s_Widest_behind) (defScope s_Widest_behind) .none kV_Widest_behind dc_Widest_behind pm_Widest_behind an_Widest_behind cd_Widest_behind ct_Widest_behind), sl_Widest_behind⟩)
  (c_Widest_behind : PySem.W.codeIn K cd_Widest_behind "Widest.behind" = true)
  (k_Widest_behind : PySem.W.keepIn K (.ref f_Widest_behind) = true)
  (a_Widest_rounds : PySem.W.findIn K (.ref zWidest) "rounds" = some (some (.ref f_Widest_rounds)))
  (i_Widest_rounds : PySem.W.isFn K (.ref f_Widest_rounds) = true)
  (l_Widest_rounds : K.lookup f_Widest_rounds = some ⟨oc_Widest_rounds, od_Widest_rounds, .func (PySem.W.fnOf "rounds" "Widest.rounds" (defArgs s_Widest_rounds) (defBody s_Widest_rounds) (defScope s_Widest_rounds) .none kV_Widest_rounds dc_Widest_rounds pm_Widest_rounds an_Widest_rounds cd_Widest_rounds ct_Widest_rounds), sl_Widest_rounds⟩)
  (c_Widest_rounds : PySem.W.codeIn K cd_Widest_rounds "Widest.rounds" = true)
  (k_Widest_rounds : PySem.W.keepIn K (.ref f_Widest_rounds) = true)
  (a_Counted_none : PySem.W.findIn K (.ref zCounted) "none" = some (some (.ref f_Counted_none)))
  (i_Counted_none : PySem.W.isFn K (.ref f_Counted_none) = true)
  (l_Counted_none : K.lookup f_Counted_none = some ⟨oc_Counted_none, od_Counted_none, .func (PySem.W.fnOf "none" "Counted.none" (defArgs s_Counted_none) (defBody s_Counted_none) (defScope s_Counted_none) .none kV_Counted_none dc_Counted_none pm_Counted_none an_Counted_none cd_Counted_none ct_Counted_none), sl_Counted_none⟩)
  (c_Counted_none : PySem.W.codeIn K cd_Counted_none "Counted.none" = true)
  (k_Counted_none : PySem.W.keepIn K (.ref f_Counted_none) = true)
  (a_Counted_rest : PySem.W.findIn K (.ref zCounted) "rest" = some (some (.ref f_Counted_rest)))
  (i_Counted_rest : PySem.W.isFn K (.ref f_Counted_rest) = true)
  (l_Counted_rest : K.lookup f_Counted_rest = some ⟨oc_Counted_rest, od_Counted_rest, .func (PySem.W.fnOf "rest" "Counted.rest" (defArgs s_Counted_rest) (defBody s_Counted_rest) (defScope s_Counted_rest) .none kV_Counted_rest dc_Counted_rest pm_Counted_rest an_Counted_rest cd_Counted_rest ct_Counted_rest), sl_Counted_rest⟩)
  (c_Counted_rest : PySem.W.codeIn K cd_Counted_rest "Counted.rest" = true)
  (k_Counted_rest : PySem.W.keepIn K (.ref f_Counted_rest) = true)
  (a_Counted_is_worth : PySem.W.findIn K (.ref zCounted) "is_worth" = some (some (.ref f_Counted_is_worth)))
  (i_Counted_is_worth : PySem.W.isFn K (.ref f_Counted_is_worth) = true)
  (l_Counted_is_worth : K.lookup f_Counted_is_worth = some ⟨oc_Counted_is_worth, od_Counted_is_worth, .func (PySem.W.fnOf "is_worth" "Counted.is_worth" (defArgs s_Counted_is_worth) (defBody s_Counted_is_worth) (defScope s_Counted_is_worth) .none kV_Counted_is_worth dc_Counted_is_worth pm_Counted_is_worth an_Counted_is_worth cd_Counted_is_worth ct_Counted_is_worth), sl_Counted_is_worth⟩)
  (c_Counted_is_worth : PySem.W.codeIn K cd_Counted_is_worth "Counted.is_worth" = true)
  (k_Counted_is_worth : PySem.W.keepIn K (.ref f_Counted_is_worth) = true)
  (a_Counted_together : PySem.W.findIn K (.ref zCounted) "together" = some (some (.ref f_Counted_together)))
  (i_Counted_together : PySem.W.isFn K (.ref f_Counted_together) = true)
  (l_Counted_together : K.lookup f_Counted_together = some ⟨oc_Counted_together, od_Counted_together, .func (PySem.W.fnOf "together" "Counted.together" (defArgs s_Counted_together) (defBody s_Counted_together) (defScope s_Counted_together) .none kV_Counted_together dc_Counted_together pm_Counted_together an_Counted_together cd_Counted_together ct_Counted_together), sl_Counted_together⟩)
  (c_Counted_together : PySem.W.codeIn K cd_Counted_together "Counted.together" = true)
  (k_Counted_together : PySem.W.keepIn K (.ref f_Counted_together) = true)
  (a_Counted_behind : PySem.W.findIn K (.ref zCounted) "behind" = some (some (.ref f_Counted_behind)))
  (i_Counted_behind : PySem.W.isFn K (.ref f_Counted_behind) = true)
  (l_Counted_behind : K.lookup f_Counted_behind = some ⟨oc_Counted_behind, od_Counted_behind, .func (PySem.W.fnOf "behind" "Counted.behind" (defArgs s_Counted_behind) (defBody s_Counted_behind) (defScope s_Counted_behind) .none kV_Counted_behind dc_Counted_behind pm_Counted_behind an_Counted_behind cd_Counted_behind ct_Counted_behind), sl_Counted_behind⟩)
  (c_Counted_behind : PySem.W.codeIn K cd_Counted_behind "Counted.behind" = true)
  (k_Counted_behind : PySem.W.keepIn K (.ref f_Counted_behind) = true)
  (a_Counted_rounds : PySem.W.findIn K (.ref zCounted) "rounds" = some (some (.ref f_Counted_rounds)))
  (i_Counted_rounds : PySem.W.isFn K (.ref f_Counted_rounds) = true)
  (l_Counted_rounds : K.lookup f_Counted_rounds = some ⟨oc_Counted_rounds, od_Counted_rounds, .func (PySem.W.fnOf "rounds" "Counted.rounds" (defArgs s_Counted_rounds) (defBody s_Counted_rounds) (defScope s_Counted_rounds) .none kV_Counted_rounds dc_Counted_rounds pm_Counted_rounds an_Counted_rounds cd_Counted_rounds ct_Counted_rounds), sl_Counted_rounds⟩)
  (c_Counted_rounds : PySem.W.codeIn K cd_Counted_rounds "Counted.rounds" = true)
  (k_Counted_rounds : PySem.W.keepIn K (.ref f_Counted_rounds) = true)
  (a_Likeliest_picks : PySem.W.findIn K (.ref zLikeliest) "picks" = some (some (.ref f_Likeliest_picks)))
  (i_Likeliest_picks : PySem.W.isFn K (.ref f_Likeliest_picks) = true)
  (l_Likeliest_picks : K.lookup f_Likeliest_picks = some ⟨oc_Likeliest_picks, od_Likeliest_picks, .func (PySem.W.fnOf "picks" "Likeliest.picks" (defArgs s_Likeliest_picks) (defBody s_Likeliest_picks) (defScope s_Likeliest_picks) .none kV_Likeliest_picks dc_Likeliest_picks pm_Likeliest_picks an_Likeliest_picks cd_Likeliest_picks ct_Likeliest_picks), sl_Likeliest_picks⟩)
  (c_Likeliest_picks : PySem.W.codeIn K cd_Likeliest_picks "Likeliest.picks" = true)
  (k_Likeliest_picks : PySem.W.keepIn K (.ref f_Likeliest_picks) = true)
  (a_Likeliest_none : PySem.W.findIn K (.ref zLikeliest) "none" = some (some (.ref f_Likeliest_none)))
  (i_Likeliest_none : PySem.W.isFn K (.ref f_Likeliest_none) = true)
  (l_Likeliest_none : K.lookup f_Likeliest_none = some ⟨oc_Likeliest_none, od_Likeliest_none, .func (PySem.W.fnOf "none" "Likeliest.none" (defArgs s_Likeliest_none) (defBody s_Likeliest_none) (defScope s_Likeliest_none) .none kV_Likeliest_none dc_Likeliest_none pm_Likeliest_none an_Likeliest_none cd_Likeliest_none ct_Likeliest_none), sl_Likeliest_none⟩)
  (c_Likeliest_none : PySem.W.codeIn K cd_Likeliest_none "Likeliest.none" = true)
  (k_Likeliest_none : PySem.W.keepIn K (.ref f_Likeliest_none) = true)
  (a_Likeliest_rest : PySem.W.findIn K (.ref zLikeliest) "rest" = some (some (.ref f_Likeliest_rest)))
  (i_Likeliest_rest : PySem.W.isFn K (.ref f_Likeliest_rest) = true)
  (l_Likeliest_rest : K.lookup f_Likeliest_rest = some ⟨oc_Likeliest_rest, od_Likeliest_rest, .func (PySem.W.fnOf "rest" "Likeliest.rest" (defArgs s_Likeliest_rest) (defBody s_Likeliest_rest) (defScope s_Likeliest_rest) .none kV_Likeliest_rest dc_Likeliest_rest pm_Likeliest_rest an_Likeliest_rest cd_Likeliest_rest ct_Likeliest_rest), sl_Likeliest_rest⟩)
  (c_Likeliest_rest : PySem.W.codeIn K cd_Likeliest_rest "Likeliest.rest" = true)
  (k_Likeliest_rest : PySem.W.keepIn K (.ref f_Likeliest_rest) = true)
  (a_Likeliest_is_worth : PySem.W.findIn K (.ref zLikeliest) "is_worth" = some (some (.ref f_Likeliest_is_worth)))
  (i_Likeliest_is_worth : PySem.W.isFn K (.ref f_Likeliest_is_worth) = true)
  (l_Likeliest_is_worth : K.lookup f_Likeliest_is_worth = some ⟨oc_Likeliest_is_worth, od_Likeliest_is_worth, .func (PySem.W.fnOf "is_worth" "Likeliest.is_worth" (defArgs s_Likeliest_is_worth) (defBody s_Likeliest_is_worth) (defScope s_Likeliest_is_worth) .none kV_Likeliest_is_worth dc_Likeliest_is_worth pm_Likeliest_is_worth an_Likeliest_is_worth cd_Likeliest_is_worth ct_Likeliest_is_worth), sl_Likeliest_is_worth⟩)
  (c_Likeliest_is_worth : PySem.W.codeIn K cd_Likeliest_is_worth "Likeliest.is_worth" = true)
  (k_Likeliest_is_worth : PySem.W.keepIn K (.ref f_Likeliest_is_worth) = true)
  (a_Likeliest_together : PySem.W.findIn K (.ref zLikeliest) "together" = some (some (.ref f_Likeliest_together)))
  (i_Likeliest_together : PySem.W.isFn K (.ref f_Likeliest_together) = true)
  (l_Likeliest_together : K.lookup f_Likeliest_together = some ⟨oc_Likeliest_together, od_Likeliest_together, .func (PySem.W.fnOf "together" "Likeliest.together" (defArgs s_Likeliest_together) (defBody s_Likeliest_together) (defScope s_Likeliest_together) .none kV_Likeliest_together dc_Likeliest_together pm_Likeliest_together an_Likeliest_together cd_Likeliest_together ct_Likeliest_together), sl_Likeliest_together⟩)
  (c_Likeliest_together : PySem.W.codeIn K cd_Likeliest_together "Likeliest.together" = true)
  (k_Likeliest_together : PySem.W.keepIn K (.ref f_Likeliest_together) = true)
  (a_Likeliest_behind : PySem.W.findIn K (.ref zLikeliest) "behind" = some (some (.ref f_Likeliest_behind)))
  (i_Likeliest_behind : PySem.W.isFn K (.ref f_Likeliest_behind) = true)
  (l_Likeliest_behind : K.lookup f_Likeliest_behind = some ⟨oc_Likeliest_behind, od_Likeliest_behind, .func (PySem.W.fnOf "behind" "Likeliest.behind" (defArgs s_Likeliest_behind) (defBody s_Likeliest_behind) (defScope s_Likeliest_behind) .none kV_Likeliest_behind dc_Likeliest_behind pm_Likeliest_behind an_Likeliest_behind cd_Likeliest_behind ct_Likeliest_behind), sl_Likeliest_behind⟩)
  (c_Likeliest_behind : PySem.W.codeIn K cd_Likeliest_behind "Likeliest.behind" = true)
  (k_Likeliest_behind : PySem.W.keepIn K (.ref f_Likeliest_behind) = true)
  (a_Likeliest_rounds : PySem.W.findIn K (.ref zLikeliest) "rounds" = some (some (.ref f_Likeliest_rounds)))
  (i_Likeliest_rounds : PySem.W.isFn K (.ref f_Likeliest_rounds) = true)
  (l_Likeliest_rounds : K.lookup f_Likeliest_rounds = some ⟨oc_Likeliest_rounds, od_Likeliest_rounds, .func (PySem.W.fnOf "rounds" "Likeliest.rounds" (defArgs s_Likeliest_rounds) (defBody s_Likeliest_rounds) (defScope s_Likeliest_rounds) .none kV_Likeliest_rounds dc_Likeliest_rounds pm_Likeliest_rounds an_Likeliest_rounds cd_Likeliest_rounds ct_Likeliest_rounds), sl_Likeliest_rounds⟩)
  (c_Likeliest_rounds : PySem.W.codeIn K cd_Likeliest_rounds "Likeliest.rounds" = true)
  (k_Likeliest_rounds : PySem.W.keepIn K (.ref f_Likeliest_rounds) = true)
  (a_Chances_none : PySem.W.findIn K (.ref zChances) "none" = some (some (.ref f_Chances_none)))
  (i_Chances_none : PySem.W.isFn K (.ref f_Chances_none) = true)
  (l_Chances_none : K.lookup f_Chances_none = some ⟨oc_Chances_none, od_Chances_none, .func (PySem.W.fnOf "none" "Chances.none" (defArgs s_Chances_none) (defBody s_Chances_none) (defScope s_Chances_none) .none kV_Chances_none dc_Chances_none pm_Chances_none an_Chances_none cd_Chances_none ct_Chances_none), sl_Chances_none⟩)
  (c_Chances_none : PySem.W.codeIn K cd_Chances_none "Chances.none" = true)
  (k_Chances_none : PySem.W.keepIn K (.ref f_Chances_none) = true)
  (a_Chances_rest : PySem.W.findIn K (.ref zChances) "rest" = some (some (.ref f_Chances_rest)))
  (i_Chances_rest : PySem.W.isFn K (.ref f_Chances_rest) = true)
  (l_Chances_rest : K.lookup f_Chances_rest = some ⟨oc_Chances_rest, od_Chances_rest, .func (PySem.W.fnOf "rest" "Chances.rest" (defArgs s_Chances_rest) (defBody s_Chances_rest) (defScope s_Chances_rest) .none kV_Chances_rest dc_Chances_rest pm_Chances_rest an_Chances_rest cd_Chances_rest ct_Chances_rest), sl_Chances_rest⟩)
  (c_Chances_rest : PySem.W.codeIn K cd_Chances_rest "Chances.rest" = true)
  (k_Chances_rest : PySem.W.keepIn K (.ref f_Chances_rest) = true)
  (a_Chances_is_worth : PySem.W.findIn K (.ref zChances) "is_worth" = some (some (.ref f_Chances_is_worth)))
  (i_Chances_is_worth : PySem.W.isFn K (.ref f_Chances_is_worth) = true)
  (l_Chances_is_worth : K.lookup f_Chances_is_worth = some ⟨oc_Chances_is_worth, od_Chances_is_worth, .func (PySem.W.fnOf "is_worth" "Chances.is_worth" (defArgs s_Chances_is_worth) (defBody s_Chances_is_worth) (defScope s_Chances_is_worth) .none kV_Chances_is_worth dc_Chances_is_worth pm_Chances_is_worth an_Chances_is_worth cd_Chances_is_worth ct_Chances_is_worth), sl_Chances_is_worth⟩)
  (c_Chances_is_worth : PySem.W.codeIn K cd_Chances_is_worth "Chances.is_worth" = true)
  (k_Chances_is_worth : PySem.W.keepIn K (.ref f_Chances_is_worth) = true)
  (a_Chances_together : PySem.W.findIn K (.ref zChances) "together" = some (some (.ref f_Chances_together)))
  (i_Chances_together : PySem.W.isFn K (.ref f_Chances_together) = true)
  (l_Chances_together : K.lookup f_Chances_together = some ⟨oc_Chances_together, od_Chances_together, .func (PySem.W.fnOf "together" "Chances.together" (defArgs s_Chances_together) (defBody s_Chances_together) (defScope s_Chances_together) .none kV_Chances_together dc_Chances_together pm_Chances_together an_Chances_together cd_Chances_together ct_Chances_together), sl_Chances_together⟩)
  (c_Chances_together : PySem.W.codeIn K cd_Chances_together "Chances.together" = true)
  (k_Chances_together : PySem.W.keepIn K (.ref f_Chances_together) = true)
  (a_Chances_behind : PySem.W.findIn K (.ref zChances) "behind" = some (some (.ref f_Chances_behind)))
  (i_Chances_behind : PySem.W.isFn K (.ref f_Chances_behind) = true)
  (l_Chances_behind : K.lookup f_Chances_behind = some ⟨oc_Chances_behind, od_Chances_behind, .func (PySem.W.fnOf "behind" "Chances.behind" (defArgs s_Chances_behind) (defBody s_Chances_behind) (defScope s_Chances_behind) .none kV_Chances_behind dc_Chances_behind pm_Chances_behind an_Chances_behind cd_Chances_behind ct_Chances_behind), sl_Chances_behind⟩)
  (c_Chances_behind : PySem.W.codeIn K cd_Chances_behind "Chances.behind" = true)
  (k_Chances_behind : PySem.W.keepIn K (.ref f_Chances_behind) = true)
  (a_Chances_rounds : PySem.W.findIn K (.ref zChances) "rounds" = some (some (.ref f_Chances_rounds)))
  (i_Chances_rounds : PySem.W.isFn K (.ref f_Chances_rounds) = true)
  (l_Chances_rounds : K.lookup f_Chances_rounds = some ⟨oc_Chances_rounds, od_Chances_rounds, .func (PySem.W.fnOf "rounds" "Chances.rounds" (defArgs s_Chances_rounds) (defBody s_Chances_rounds) (defScope s_Chances_rounds) .none kV_Chances_rounds dc_Chances_rounds pm_Chances_rounds an_Chances_rounds cd_Chances_rounds ct_Chances_rounds), sl_Chances_rounds⟩)
  (c_Chances_rounds : PySem.W.codeIn K cd_Chances_rounds "Chances.rounds" = true)
  (k_Chances_rounds : PySem.W.keepIn K (.ref f_Chances_rounds) = true)
  (a_Musts_none : PySem.W.findIn K (.ref zMusts) "none" = some (some (.ref f_Musts_none)))
  (i_Musts_none : PySem.W.isFn K (.ref f_Musts_none) = true)
  (l_Musts_none : K.lookup f_Musts_none = some ⟨oc_Musts_none, od_Musts_none, .func (PySem.W.fnOf "none" "Musts.none" (defArgs s_Musts_none) (defBody s_Musts_none) (defScope s_Musts_none) .none kV_Musts_none dc_Musts_none pm_Musts_none an_Musts_none cd_Musts_none ct_Musts_none), sl_Musts_none⟩)
  (c_Musts_none : PySem.W.codeIn K cd_Musts_none "Musts.none" = true)
  (k_Musts_none : PySem.W.keepIn K (.ref f_Musts_none) = true)
  (a_Musts_rest : PySem.W.findIn K (.ref zMusts) "rest" = some (some (.ref f_Musts_rest)))
  (i_Musts_rest : PySem.W.isFn K (.ref f_Musts_rest) = true)
  (l_Musts_rest : K.lookup f_Musts_rest = some ⟨oc_Musts_rest, od_Musts_rest, .func (PySem.W.fnOf "rest" "Musts.rest" (defArgs s_Musts_rest) (defBody s_Musts_rest) (defScope s_Musts_rest) .none kV_Musts_rest dc_Musts_rest pm_Musts_rest an_Musts_rest cd_Musts_rest ct_Musts_rest), sl_Musts_rest⟩)
  (c_Musts_rest : PySem.W.codeIn K cd_Musts_rest "Musts.rest" = true)
  (k_Musts_rest : PySem.W.keepIn K (.ref f_Musts_rest) = true)
  (a_Musts_is_worth : PySem.W.findIn K (.ref zMusts) "is_worth" = some (some (.ref f_Musts_is_worth)))
  (i_Musts_is_worth : PySem.W.isFn K (.ref f_Musts_is_worth) = true)
  (l_Musts_is_worth : K.lookup f_Musts_is_worth = some ⟨oc_Musts_is_worth, od_Musts_is_worth, .func (PySem.W.fnOf "is_worth" "Musts.is_worth" (defArgs s_Musts_is_worth) (defBody s_Musts_is_worth) (defScope s_Musts_is_worth) .none kV_Musts_is_worth dc_Musts_is_worth pm_Musts_is_worth an_Musts_is_worth cd_Musts_is_worth ct_Musts_is_worth), sl_Musts_is_worth⟩)
  (c_Musts_is_worth : PySem.W.codeIn K cd_Musts_is_worth "Musts.is_worth" = true)
  (k_Musts_is_worth : PySem.W.keepIn K (.ref f_Musts_is_worth) = true)
  (a_Musts_together : PySem.W.findIn K (.ref zMusts) "together" = some (some (.ref f_Musts_together)))
  (i_Musts_together : PySem.W.isFn K (.ref f_Musts_together) = true)
  (l_Musts_together : K.lookup f_Musts_together = some ⟨oc_Musts_together, od_Musts_together, .func (PySem.W.fnOf "together" "Musts.together" (defArgs s_Musts_together) (defBody s_Musts_together) (defScope s_Musts_together) .none kV_Musts_together dc_Musts_together pm_Musts_together an_Musts_together cd_Musts_together ct_Musts_together), sl_Musts_together⟩)
  (c_Musts_together : PySem.W.codeIn K cd_Musts_together "Musts.together" = true)
  (k_Musts_together : PySem.W.keepIn K (.ref f_Musts_together) = true)
  (a_Musts_behind : PySem.W.findIn K (.ref zMusts) "behind" = some (some (.ref f_Musts_behind)))
  (i_Musts_behind : PySem.W.isFn K (.ref f_Musts_behind) = true)
  (l_Musts_behind : K.lookup f_Musts_behind = some ⟨oc_Musts_behind, od_Musts_behind, .func (PySem.W.fnOf "behind" "Musts.behind" (defArgs s_Musts_behind) (defBody s_Musts_behind) (defScope s_Musts_behind) .none kV_Musts_behind dc_Musts_behind pm_Musts_behind an_Musts_behind cd_Musts_behind ct_Musts_behind), sl_Musts_behind⟩)
  (c_Musts_behind : PySem.W.codeIn K cd_Musts_behind "Musts.behind" = true)
  (k_Musts_behind : PySem.W.keepIn K (.ref f_Musts_behind) = true)
  (a_Musts_rounds : PySem.W.findIn K (.ref zMusts) "rounds" = some (some (.ref f_Musts_rounds)))
  (i_Musts_rounds : PySem.W.isFn K (.ref f_Musts_rounds) = true)
  (l_Musts_rounds : K.lookup f_Musts_rounds = some ⟨oc_Musts_rounds, od_Musts_rounds, .func (PySem.W.fnOf "rounds" "Musts.rounds" (defArgs s_Musts_rounds) (defBody s_Musts_rounds) (defScope s_Musts_rounds) .none kV_Musts_rounds dc_Musts_rounds pm_Musts_rounds an_Musts_rounds cd_Musts_rounds ct_Musts_rounds), sl_Musts_rounds⟩)
  (c_Musts_rounds : PySem.W.codeIn K cd_Musts_rounds "Musts.rounds" = true)
  (k_Musts_rounds : PySem.W.keepIn K (.ref f_Musts_rounds) = true)
  (a_Rests___init__ : PySem.W.findIn K (.ref zRests) "__init__" = some (some (.ref f_Rests___init__)))
  (i_Rests___init__ : PySem.W.isFn K (.ref f_Rests___init__) = true)
  (l_Rests___init__ : K.lookup f_Rests___init__ = some ⟨oc_Rests___init__, od_Rests___init__, .func (PySem.W.fnOf "__init__" "Rests.__init__" (defArgs s_Rests___init__) (defBody s_Rests___init__) (defScope s_Rests___init__) .none kV_Rests___init__ dc_Rests___init__ pm_Rests___init__ an_Rests___init__ cd_Rests___init__ ct_Rests___init__), sl_Rests___init__⟩)
  (c_Rests___init__ : PySem.W.codeIn K cd_Rests___init__ "Rests.__init__" = true)
  (k_Rests___init__ : PySem.W.keepIn K (.ref f_Rests___init__) = true)
  (a_Rests_none : PySem.W.findIn K (.ref zRests) "none" = some (some (.ref f_Rests_none)))
  (i_Rests_none : PySem.W.isFn K (.ref f_Rests_none) = true)
  (l_Rests_none : K.lookup f_Rests_none = some ⟨oc_Rests_none, od_Rests_none, .func (PySem.W.fnOf "none" "Rests.none" (defArgs s_Rests_none) (defBody s_Rests_none) (defScope s_Rests_none) .none kV_Rests_none dc_Rests_none pm_Rests_none an_Rests_none cd_Rests_none ct_Rests_none), sl_Rests_none⟩)
  (c_Rests_none : PySem.W.codeIn K cd_Rests_none "Rests.none" = true)
  (k_Rests_none : PySem.W.keepIn K (.ref f_Rests_none) = true)
  (a_Rests_rest : PySem.W.findIn K (.ref zRests) "rest" = some (some (.ref f_Rests_rest)))
  (i_Rests_rest : PySem.W.isFn K (.ref f_Rests_rest) = true)
  (l_Rests_rest : K.lookup f_Rests_rest = some ⟨oc_Rests_rest, od_Rests_rest, .func (PySem.W.fnOf "rest" "Rests.rest" (defArgs s_Rests_rest) (defBody s_Rests_rest) (defScope s_Rests_rest) .none kV_Rests_rest dc_Rests_rest pm_Rests_rest an_Rests_rest cd_Rests_rest ct_Rests_rest), sl_Rests_rest⟩)
  (c_Rests_rest : PySem.W.codeIn K cd_Rests_rest "Rests.rest" = true)
  (k_Rests_rest : PySem.W.keepIn K (.ref f_Rests_rest) = true)
  (a_Rests_is_worth : PySem.W.findIn K (.ref zRests) "is_worth" = some (some (.ref f_Rests_is_worth)))
  (i_Rests_is_worth : PySem.W.isFn K (.ref f_Rests_is_worth) = true)
  (l_Rests_is_worth : K.lookup f_Rests_is_worth = some ⟨oc_Rests_is_worth, od_Rests_is_worth, .func (PySem.W.fnOf "is_worth" "Rests.is_worth" (defArgs s_Rests_is_worth) (defBody s_Rests_is_worth) (defScope s_Rests_is_worth) .none kV_Rests_is_worth dc_Rests_is_worth pm_Rests_is_worth an_Rests_is_worth cd_Rests_is_worth ct_Rests_is_worth), sl_Rests_is_worth⟩)
  (c_Rests_is_worth : PySem.W.codeIn K cd_Rests_is_worth "Rests.is_worth" = true)
  (k_Rests_is_worth : PySem.W.keepIn K (.ref f_Rests_is_worth) = true)
  (a_Rests_together : PySem.W.findIn K (.ref zRests) "together" = some (some (.ref f_Rests_together)))
  (i_Rests_together : PySem.W.isFn K (.ref f_Rests_together) = true)
  (l_Rests_together : K.lookup f_Rests_together = some ⟨oc_Rests_together, od_Rests_together, .func (PySem.W.fnOf "together" "Rests.together" (defArgs s_Rests_together) (defBody s_Rests_together) (defScope s_Rests_together) .none kV_Rests_together dc_Rests_together pm_Rests_together an_Rests_together cd_Rests_together ct_Rests_together), sl_Rests_together⟩)
  (c_Rests_together : PySem.W.codeIn K cd_Rests_together "Rests.together" = true)
  (k_Rests_together : PySem.W.keepIn K (.ref f_Rests_together) = true)
  (a_Rests_behind : PySem.W.findIn K (.ref zRests) "behind" = some (some (.ref f_Rests_behind)))
  (i_Rests_behind : PySem.W.isFn K (.ref f_Rests_behind) = true)
  (l_Rests_behind : K.lookup f_Rests_behind = some ⟨oc_Rests_behind, od_Rests_behind, .func (PySem.W.fnOf "behind" "Rests.behind" (defArgs s_Rests_behind) (defBody s_Rests_behind) (defScope s_Rests_behind) .none kV_Rests_behind dc_Rests_behind pm_Rests_behind an_Rests_behind cd_Rests_behind ct_Rests_behind), sl_Rests_behind⟩)
  (c_Rests_behind : PySem.W.codeIn K cd_Rests_behind "Rests.behind" = true)
  (k_Rests_behind : PySem.W.keepIn K (.ref f_Rests_behind) = true)
  (a_Rests_rounds : PySem.W.findIn K (.ref zRests) "rounds" = some (some (.ref f_Rests_rounds)))
  (i_Rests_rounds : PySem.W.isFn K (.ref f_Rests_rounds) = true)
  (l_Rests_rounds : K.lookup f_Rests_rounds = some ⟨oc_Rests_rounds, od_Rests_rounds, .func (PySem.W.fnOf "rounds" "Rests.rounds" (defArgs s_Rests_rounds) (defBody s_Rests_rounds) (defScope s_Rests_rounds) .none kV_Rests_rounds dc_Rests_rounds pm_Rests_rounds an_Rests_rounds cd_Rests_rounds ct_Rests_rounds), sl_Rests_rounds⟩)
  (c_Rests_rounds : PySem.W.codeIn K cd_Rests_rounds "Rests.rounds" = true)
  (k_Rests_rounds : PySem.W.keepIn K (.ref f_Rests_rounds) = true)
  (a_Net___init__ : PySem.W.findIn K (.ref zNet) "__init__" = some (some (.ref f_Net___init__)))
  (i_Net___init__ : PySem.W.isFn K (.ref f_Net___init__) = true)
  (l_Net___init__ : K.lookup f_Net___init__ = some ⟨oc_Net___init__, od_Net___init__, .func (PySem.W.fnOf "__init__" "Net.__init__" (defArgs s_Net___init__) (defBody s_Net___init__) (defScope s_Net___init__) .none kV_Net___init__ dc_Net___init__ pm_Net___init__ an_Net___init__ cd_Net___init__ ct_Net___init__), sl_Net___init__⟩)
  (c_Net___init__ : PySem.W.codeIn K cd_Net___init__ "Net.__init__" = true)
  (k_Net___init__ : PySem.W.keepIn K (.ref f_Net___init__) = true)
  (a_Net_ask_shares : PySem.W.findIn K (.ref zNet) "ask_shares" = some (some (.ref f_Net_ask_shares)))
  (i_Net_ask_shares : PySem.W.isFn K (.ref f_Net_ask_shares) = true)
  (l_Net_ask_shares : K.lookup f_Net_ask_shares = some ⟨oc_Net_ask_shares, od_Net_ask_shares, .func (PySem.W.fnOf "ask_shares" "Net.ask_shares" (defArgs s_Net_ask_shares) (defBody s_Net_ask_shares) (defScope s_Net_ask_shares) .none kV_Net_ask_shares dc_Net_ask_shares pm_Net_ask_shares an_Net_ask_shares cd_Net_ask_shares ct_Net_ask_shares), sl_Net_ask_shares⟩)
  (c_Net_ask_shares : PySem.W.codeIn K cd_Net_ask_shares "Net.ask_shares" = true)
  (k_Net_ask_shares : PySem.W.keepIn K (.ref f_Net_ask_shares) = true)
  (a_Net_ask : PySem.W.findIn K (.ref zNet) "ask" = some (some (.ref f_Net_ask)))
  (i_Net_ask : PySem.W.isFn K (.ref f_Net_ask) = true)
  (l_Net_ask : K.lookup f_Net_ask = some ⟨oc_Net_ask, od_Net_ask, .func (PySem.W.fnOf "ask" "Net.ask" (defArgs s_Net_ask) (defBody s_Net_ask) (defScope s_Net_ask) .none kV_Net_ask dc_Net_ask pm_Net_ask an_Net_ask cd_Net_ask ct_Net_ask), sl_Net_ask⟩)
  (c_Net_ask : PySem.W.codeIn K cd_Net_ask "Net.ask" = true)
  (k_Net_ask : PySem.W.keepIn K (.ref f_Net_ask) = true)
  (a_Net_kind : PySem.W.findIn K (.ref zNet) "kind" = some (some (.ref f_Net_kind)))
  (i_Net_kind : PySem.W.isFn K (.ref f_Net_kind) = true)
  (l_Net_kind : K.lookup f_Net_kind = some ⟨oc_Net_kind, od_Net_kind, .func (PySem.W.fnOf "kind" "Net.kind" (defArgs s_Net_kind) (defBody s_Net_kind) (defScope s_Net_kind) .none kV_Net_kind dc_Net_kind pm_Net_kind an_Net_kind cd_Net_kind ct_Net_kind), sl_Net_kind⟩)
  (c_Net_kind : PySem.W.codeIn K cd_Net_kind "Net.kind" = true)
  (k_Net_kind : PySem.W.keepIn K (.ref f_Net_kind) = true)
  (a_Net_places : PySem.W.findIn K (.ref zNet) "places" = some (some (.ref f_Net_places)))
  (i_Net_places : PySem.W.isFn K (.ref f_Net_places) = true)
  (l_Net_places : K.lookup f_Net_places = some ⟨oc_Net_places, od_Net_places, .func (PySem.W.fnOf "places" "Net.places" (defArgs s_Net_places) (defBody s_Net_places) (defScope s_Net_places) .none kV_Net_places dc_Net_places pm_Net_places an_Net_places cd_Net_places ct_Net_places), sl_Net_places⟩)
  (c_Net_places : PySem.W.codeIn K cd_Net_places "Net.places" = true)
  (k_Net_places : PySem.W.keepIn K (.ref f_Net_places) = true)
  (a_Net_roads : PySem.W.findIn K (.ref zNet) "roads" = some (some (.ref f_Net_roads)))
  (i_Net_roads : PySem.W.isFn K (.ref f_Net_roads) = true)
  (l_Net_roads : K.lookup f_Net_roads = some ⟨oc_Net_roads, od_Net_roads, .func (PySem.W.fnOf "roads" "Net.roads" (defArgs s_Net_roads) (defBody s_Net_roads) (defScope s_Net_roads) .none kV_Net_roads dc_Net_roads pm_Net_roads an_Net_roads cd_Net_roads ct_Net_roads), sl_Net_roads⟩)
  (c_Net_roads : PySem.W.codeIn K cd_Net_roads "Net.roads" = true)
  (k_Net_roads : PySem.W.keepIn K (.ref f_Net_roads) = true)
  (a_Counted_picks : PySem.W.findIn K (.ref zCounted) "picks" = some (some (.ref f_Counted_picks)))
  (i_Counted_picks : PySem.W.isFn K (.ref f_Counted_picks) = true)
  (l_Counted_picks : K.lookup f_Counted_picks = some ⟨oc_Counted_picks, od_Counted_picks, .func (PySem.W.fnOf "picks" "Kind.picks" (defArgs s_Counted_picks) (defBody s_Counted_picks) (defScope s_Counted_picks) .none kV_Counted_picks dc_Counted_picks pm_Counted_picks an_Counted_picks cd_Counted_picks ct_Counted_picks), sl_Counted_picks⟩)
  (c_Counted_picks : PySem.W.codeIn K cd_Counted_picks "Kind.picks" = true)
  (k_Counted_picks : PySem.W.keepIn K (.ref f_Counted_picks) = true)
  (a_Chances_picks : PySem.W.findIn K (.ref zChances) "picks" = some (some (.ref f_Chances_picks)))
  (i_Chances_picks : PySem.W.isFn K (.ref f_Chances_picks) = true)
  (l_Chances_picks : K.lookup f_Chances_picks = some ⟨oc_Chances_picks, od_Chances_picks, .func (PySem.W.fnOf "picks" "Kind.picks" (defArgs s_Chances_picks) (defBody s_Chances_picks) (defScope s_Chances_picks) .none kV_Chances_picks dc_Chances_picks pm_Chances_picks an_Chances_picks cd_Chances_picks ct_Chances_picks), sl_Chances_picks⟩)
  (c_Chances_picks : PySem.W.codeIn K cd_Chances_picks "Kind.picks" = true)
  (k_Chances_picks : PySem.W.keepIn K (.ref f_Chances_picks) = true)
  (a_Musts_picks : PySem.W.findIn K (.ref zMusts) "picks" = some (some (.ref f_Musts_picks)))
  (i_Musts_picks : PySem.W.isFn K (.ref f_Musts_picks) = true)
  (l_Musts_picks : K.lookup f_Musts_picks = some ⟨oc_Musts_picks, od_Musts_picks, .func (PySem.W.fnOf "picks" "Kind.picks" (defArgs s_Musts_picks) (defBody s_Musts_picks) (defScope s_Musts_picks) .none kV_Musts_picks dc_Musts_picks pm_Musts_picks an_Musts_picks cd_Musts_picks ct_Musts_picks), sl_Musts_picks⟩)
  (c_Musts_picks : PySem.W.codeIn K cd_Musts_picks "Kind.picks" = true)
  (k_Musts_picks : PySem.W.keepIn K (.ref f_Musts_picks) = true)
  (a_Rests_picks : PySem.W.findIn K (.ref zRests) "picks" = some (some (.ref f_Rests_picks)))
  (i_Rests_picks : PySem.W.isFn K (.ref f_Rests_picks) = true)
  (l_Rests_picks : K.lookup f_Rests_picks = some ⟨oc_Rests_picks, od_Rests_picks, .func (PySem.W.fnOf "picks" "Kind.picks" (defArgs s_Rests_picks) (defBody s_Rests_picks) (defScope s_Rests_picks) .none kV_Rests_picks dc_Rests_picks pm_Rests_picks an_Rests_picks cd_Rests_picks ct_Rests_picks), sl_Rests_picks⟩)
  (c_Rests_picks : PySem.W.codeIn K cd_Rests_picks "Kind.picks" = true)
  (k_Rests_picks : PySem.W.keepIn K (.ref f_Rests_picks) = true)
  (e0SumError : PySem.W.keepIn K (.ref zSumError) = true)
  (e1SumError : PySem.W.excIn K zSumError [.type "ValueError", .type "Exception", .type "BaseException", .type "object"] "ValueError.__new__" = true)
  (e2SumError : PySem.W.subIn K (.ref zSumError) (.type "BaseException") = some true)
  (e3SumError : PySem.W.typeIn K (.ref zSumError) = some (.type "type"))
  (e4SumError : PySem.W.isClsIn K zSumError = true)
  (e5SumError : PySem.W.findIn K (.ref zSumError) "__getattribute__" = some (some (.builtin "BaseException.__getattribute__")))
  (e6SumError : PySem.W.findIn K (.ref zSumError) "__getattr__" = some none)
  (e7SumError : PySem.W.hasDictIn K zSumError = true)
  (e8SumError : PySem.W.findIn K (.ref zSumError) "__class__" = some (some (.builtin "object.__class__")))
  (e9SumError : PySem.W.mroIn K zSumError (.type "object") = some true)
  (e0NoNet : PySem.W.keepIn K (.ref zNoNet) = true)
  (e1NoNet : PySem.W.excIn K zNoNet [.type "ValueError", .type "Exception", .type "BaseException", .type "object"] "ValueError.__new__" = true)
  (e2NoNet : PySem.W.subIn K (.ref zNoNet) (.type "BaseException") = some true)
  (e3NoNet : PySem.W.typeIn K (.ref zNoNet) = some (.type "type"))
  (e4NoNet : PySem.W.isClsIn K zNoNet = true)
  (e5NoNet : PySem.W.findIn K (.ref zNoNet) "__getattribute__" = some (some (.builtin "BaseException.__getattribute__")))
  (e6NoNet : PySem.W.findIn K (.ref zNoNet) "__getattr__" = some none)
  (e7NoNet : PySem.W.hasDictIn K zNoNet = true)
  (e8NoNet : PySem.W.findIn K (.ref zNoNet) "__class__" = some (some (.builtin "object.__class__")))
  (e9NoNet : PySem.W.mroIn K zNoNet (.type "object") = some true)
  (e0NoWorth : PySem.W.keepIn K (.ref zNoWorth) = true)
  (e1NoWorth : PySem.W.excIn K zNoWorth [.type "ValueError", .type "Exception", .type "BaseException", .type "object"] "ValueError.__new__" = true)
  (e2NoWorth : PySem.W.subIn K (.ref zNoWorth) (.type "BaseException") = some true)
  (e3NoWorth : PySem.W.typeIn K (.ref zNoWorth) = some (.type "type"))
  (e4NoWorth : PySem.W.isClsIn K zNoWorth = true)
  (e5NoWorth : PySem.W.findIn K (.ref zNoWorth) "__getattribute__" = some (some (.builtin "BaseException.__getattribute__")))
  (e6NoWorth : PySem.W.findIn K (.ref zNoWorth) "__getattr__" = some none)
  (e7NoWorth : PySem.W.hasDictIn K zNoWorth = true)
  (e8NoWorth : PySem.W.findIn K (.ref zNoWorth) "__class__" = some (some (.builtin "object.__class__")))
  (e9NoWorth : PySem.W.mroIn K zNoWorth (.type "object") = some true)
  (e0NoPlace : PySem.W.keepIn K (.ref zNoPlace) = true)
  (e1NoPlace : PySem.W.excIn K zNoPlace [.type "ValueError", .type "Exception", .type "BaseException", .type "object"] "ValueError.__new__" = true)
  (e2NoPlace : PySem.W.subIn K (.ref zNoPlace) (.type "BaseException") = some true)
  (e3NoPlace : PySem.W.typeIn K (.ref zNoPlace) = some (.type "type"))
  (e4NoPlace : PySem.W.isClsIn K zNoPlace = true)
  (e5NoPlace : PySem.W.findIn K (.ref zNoPlace) "__getattribute__" = some (some (.builtin "BaseException.__getattribute__")))
  (e6NoPlace : PySem.W.findIn K (.ref zNoPlace) "__getattr__" = some none)
  (e7NoPlace : PySem.W.hasDictIn K zNoPlace = true)
  (e8NoPlace : PySem.W.findIn K (.ref zNoPlace) "__class__" = some (some (.builtin "object.__class__")))
  (e9NoPlace : PySem.W.mroIn K zNoPlace (.type "object") = some true)
  (e0NoRoad : PySem.W.keepIn K (.ref zNoRoad) = true)
  (e1NoRoad : PySem.W.excIn K zNoRoad [.type "ValueError", .type "Exception", .type "BaseException", .type "object"] "ValueError.__new__" = true)
  (e2NoRoad : PySem.W.subIn K (.ref zNoRoad) (.type "BaseException") = some true)
  (e3NoRoad : PySem.W.typeIn K (.ref zNoRoad) = some (.type "type"))
  (e4NoRoad : PySem.W.isClsIn K zNoRoad = true)
  (e5NoRoad : PySem.W.findIn K (.ref zNoRoad) "__getattribute__" = some (some (.builtin "BaseException.__getattribute__")))
  (e6NoRoad : PySem.W.findIn K (.ref zNoRoad) "__getattr__" = some none)
  (e7NoRoad : PySem.W.hasDictIn K zNoRoad = true)
  (e8NoRoad : PySem.W.findIn K (.ref zNoRoad) "__class__" = some (some (.builtin "object.__class__")))
  (e9NoRoad : PySem.W.mroIn K zNoRoad (.type "object") = some true)
  (e0NoSteps : PySem.W.keepIn K (.ref zNoSteps) = true)
  (e1NoSteps : PySem.W.excIn K zNoSteps [.type "ValueError", .type "Exception", .type "BaseException", .type "object"] "ValueError.__new__" = true)
  (e2NoSteps : PySem.W.subIn K (.ref zNoSteps) (.type "BaseException") = some true)
  (e3NoSteps : PySem.W.typeIn K (.ref zNoSteps) = some (.type "type"))
  (e4NoSteps : PySem.W.isClsIn K zNoSteps = true)
  (e5NoSteps : PySem.W.findIn K (.ref zNoSteps) "__getattribute__" = some (some (.builtin "BaseException.__getattribute__")))
  (e6NoSteps : PySem.W.findIn K (.ref zNoSteps) "__getattr__" = some none)
  (e7NoSteps : PySem.W.hasDictIn K zNoSteps = true)
  (e8NoSteps : PySem.W.findIn K (.ref zNoSteps) "__class__" = some (some (.builtin "object.__class__")))
  (e9NoSteps : PySem.W.mroIn K zNoSteps (.type "object") = some true)
  (e0NoPick : PySem.W.keepIn K (.ref zNoPick) = true)
  (e1NoPick : PySem.W.excIn K zNoPick [.type "ValueError", .type "Exception", .type "BaseException", .type "object"] "ValueError.__new__" = true)
  (e2NoPick : PySem.W.subIn K (.ref zNoPick) (.type "BaseException") = some true)
  (e3NoPick : PySem.W.typeIn K (.ref zNoPick) = some (.type "type"))
  (e4NoPick : PySem.W.isClsIn K zNoPick = true)
  (e5NoPick : PySem.W.findIn K (.ref zNoPick) "__getattribute__" = some (some (.builtin "BaseException.__getattribute__")))
  (e6NoPick : PySem.W.findIn K (.ref zNoPick) "__getattr__" = some none)
  (e7NoPick : PySem.W.hasDictIn K zNoPick = true)
  (e8NoPick : PySem.W.findIn K (.ref zNoPick) "__class__" = some (some (.builtin "object.__class__")))
  (e9NoPick : PySem.W.mroIn K zNoPick (.type "object") = some true)
  (e0NoSum : PySem.W.keepIn K (.ref zNoSum) = true)
  (e1NoSum : PySem.W.excIn K zNoSum [.type "ValueError", .type "Exception", .type "BaseException", .type "object"] "ValueError.__new__" = true)
  (e2NoSum : PySem.W.subIn K (.ref zNoSum) (.type "BaseException") = some true)
  (e3NoSum : PySem.W.typeIn K (.ref zNoSum) = some (.type "type"))
  (e4NoSum : PySem.W.isClsIn K zNoSum = true)
  (e5NoSum : PySem.W.findIn K (.ref zNoSum) "__getattribute__" = some (some (.builtin "BaseException.__getattribute__")))
  (e6NoSum : PySem.W.findIn K (.ref zNoSum) "__getattr__" = some none)
  (e7NoSum : PySem.W.hasDictIn K zNoSum = true)
  (e8NoSum : PySem.W.findIn K (.ref zNoSum) "__class__" = some (some (.builtin "object.__class__")))
  (e9NoSum : PySem.W.mroIn K zNoSum (.type "object") = some true)
  (e0NoWay : PySem.W.keepIn K (.ref zNoWay) = true)
  (e1NoWay : PySem.W.excIn K zNoWay [.type "ValueError", .type "Exception", .type "BaseException", .type "object"] "ValueError.__new__" = true)
  (e2NoWay : PySem.W.subIn K (.ref zNoWay) (.type "BaseException") = some true)
  (e3NoWay : PySem.W.typeIn K (.ref zNoWay) = some (.type "type"))
  (e4NoWay : PySem.W.isClsIn K zNoWay = true)
  (e5NoWay : PySem.W.findIn K (.ref zNoWay) "__getattribute__" = some (some (.builtin "BaseException.__getattribute__")))
  (e6NoWay : PySem.W.findIn K (.ref zNoWay) "__getattr__" = some none)
  (e7NoWay : PySem.W.hasDictIn K zNoWay = true)
  (e8NoWay : PySem.W.findIn K (.ref zNoWay) "__class__" = some (some (.builtin "object.__class__")))
  (e9NoWay : PySem.W.mroIn K zNoWay (.type "object") = some true)
  (r1Chances : PySem.W.isClsIn K zChances = true)
  (r2Chances : PySem.W.typeIn K (.ref zChances) = some (.type "type"))
  (s_Fewest_Chances : PySem.W.subIn K (.ref zFewest) (.ref zChances) = some false)
  (ne_Fewest_Chances : zFewest ≠ zChances)
  (s_Widest_Chances : PySem.W.subIn K (.ref zWidest) (.ref zChances) = some false)
  (ne_Widest_Chances : zWidest ≠ zChances)
  (s_Counted_Chances : PySem.W.subIn K (.ref zCounted) (.ref zChances) = some false)
  (ne_Counted_Chances : zCounted ≠ zChances)
  (s_Likeliest_Chances : PySem.W.subIn K (.ref zLikeliest) (.ref zChances) = some false)
  (ne_Likeliest_Chances : zLikeliest ≠ zChances)
  (s_Chances_Chances : PySem.W.subIn K (.ref zChances) (.ref zChances) = some true)
  (s_Musts_Chances : PySem.W.subIn K (.ref zMusts) (.ref zChances) = some false)
  (ne_Musts_Chances : zMusts ≠ zChances)
  (s_Rests_Chances : PySem.W.subIn K (.ref zRests) (.ref zChances) = some false)
  (ne_Rests_Chances : zRests ≠ zChances)
  (s_SumError_NoNet : PySem.W.subIn K (.ref zSumError) (.ref zNoNet) = some false)
  (ne_SumError_NoNet : zSumError ≠ zNoNet)
  (s_NoNet_NoNet : PySem.W.subIn K (.ref zNoNet) (.ref zNoNet) = some true)
  (s_NoWorth_NoNet : PySem.W.subIn K (.ref zNoWorth) (.ref zNoNet) = some false)
  (ne_NoWorth_NoNet : zNoWorth ≠ zNoNet)
  (s_NoPlace_NoNet : PySem.W.subIn K (.ref zNoPlace) (.ref zNoNet) = some false)
  (ne_NoPlace_NoNet : zNoPlace ≠ zNoNet)
  (s_NoRoad_NoNet : PySem.W.subIn K (.ref zNoRoad) (.ref zNoNet) = some false)
  (ne_NoRoad_NoNet : zNoRoad ≠ zNoNet)
  (s_NoSteps_NoNet : PySem.W.subIn K (.ref zNoSteps) (.ref zNoNet) = some false)
  (ne_NoSteps_NoNet : zNoSteps ≠ zNoNet)
  (s_NoPick_NoNet : PySem.W.subIn K (.ref zNoPick) (.ref zNoNet) = some false)
  (ne_NoPick_NoNet : zNoPick ≠ zNoNet)
  (s_NoSum_NoNet : PySem.W.subIn K (.ref zNoSum) (.ref zNoNet) = some false)
  (ne_NoSum_NoNet : zNoSum ≠ zNoNet)
  (s_NoWay_NoNet : PySem.W.subIn K (.ref zNoWay) (.ref zNoNet) = some false)
  (ne_NoWay_NoNet : zNoWay ≠ zNoNet)
  (s_SumError_NoWorth : PySem.W.subIn K (.ref zSumError) (.ref zNoWorth) = some false)
  (ne_SumError_NoWorth : zSumError ≠ zNoWorth)
  (s_NoNet_NoWorth : PySem.W.subIn K (.ref zNoNet) (.ref zNoWorth) = some false)
  (ne_NoNet_NoWorth : zNoNet ≠ zNoWorth)
  (s_NoWorth_NoWorth : PySem.W.subIn K (.ref zNoWorth) (.ref zNoWorth) = some true)
  (s_NoPlace_NoWorth : PySem.W.subIn K (.ref zNoPlace) (.ref zNoWorth) = some false)
  (ne_NoPlace_NoWorth : zNoPlace ≠ zNoWorth)
  (s_NoRoad_NoWorth : PySem.W.subIn K (.ref zNoRoad) (.ref zNoWorth) = some false)
  (ne_NoRoad_NoWorth : zNoRoad ≠ zNoWorth)
  (s_NoSteps_NoWorth : PySem.W.subIn K (.ref zNoSteps) (.ref zNoWorth) = some false)
  (ne_NoSteps_NoWorth : zNoSteps ≠ zNoWorth)
  (s_NoPick_NoWorth : PySem.W.subIn K (.ref zNoPick) (.ref zNoWorth) = some false)
  (ne_NoPick_NoWorth : zNoPick ≠ zNoWorth)
  (s_NoSum_NoWorth : PySem.W.subIn K (.ref zNoSum) (.ref zNoWorth) = some false)
  (ne_NoSum_NoWorth : zNoSum ≠ zNoWorth)
  (s_NoWay_NoWorth : PySem.W.subIn K (.ref zNoWay) (.ref zNoWorth) = some false)
  (ne_NoWay_NoWorth : zNoWay ≠ zNoWorth)
  (s_SumError_NoPlace : PySem.W.subIn K (.ref zSumError) (.ref zNoPlace) = some false)
  (ne_SumError_NoPlace : zSumError ≠ zNoPlace)
  (s_NoNet_NoPlace : PySem.W.subIn K (.ref zNoNet) (.ref zNoPlace) = some false)
  (ne_NoNet_NoPlace : zNoNet ≠ zNoPlace)
  (s_NoWorth_NoPlace : PySem.W.subIn K (.ref zNoWorth) (.ref zNoPlace) = some false)
  (ne_NoWorth_NoPlace : zNoWorth ≠ zNoPlace)
  (s_NoPlace_NoPlace : PySem.W.subIn K (.ref zNoPlace) (.ref zNoPlace) = some true)
  (s_NoRoad_NoPlace : PySem.W.subIn K (.ref zNoRoad) (.ref zNoPlace) = some false)
  (ne_NoRoad_NoPlace : zNoRoad ≠ zNoPlace)
  (s_NoSteps_NoPlace : PySem.W.subIn K (.ref zNoSteps) (.ref zNoPlace) = some false)
  (ne_NoSteps_NoPlace : zNoSteps ≠ zNoPlace)
  (s_NoPick_NoPlace : PySem.W.subIn K (.ref zNoPick) (.ref zNoPlace) = some false)
  (ne_NoPick_NoPlace : zNoPick ≠ zNoPlace)
  (s_NoSum_NoPlace : PySem.W.subIn K (.ref zNoSum) (.ref zNoPlace) = some false)
  (ne_NoSum_NoPlace : zNoSum ≠ zNoPlace)
  (s_NoWay_NoPlace : PySem.W.subIn K (.ref zNoWay) (.ref zNoPlace) = some false)
  (ne_NoWay_NoPlace : zNoWay ≠ zNoPlace)
  (s_SumError_NoRoad : PySem.W.subIn K (.ref zSumError) (.ref zNoRoad) = some false)
  (ne_SumError_NoRoad : zSumError ≠ zNoRoad)
  (s_NoNet_NoRoad : PySem.W.subIn K (.ref zNoNet) (.ref zNoRoad) = some false)
  (ne_NoNet_NoRoad : zNoNet ≠ zNoRoad)
  (s_NoWorth_NoRoad : PySem.W.subIn K (.ref zNoWorth) (.ref zNoRoad) = some false)
  (ne_NoWorth_NoRoad : zNoWorth ≠ zNoRoad)
  (s_NoPlace_NoRoad : PySem.W.subIn K (.ref zNoPlace) (.ref zNoRoad) = some false)
  (ne_NoPlace_NoRoad : zNoPlace ≠ zNoRoad)
  (s_NoRoad_NoRoad : PySem.W.subIn K (.ref zNoRoad) (.ref zNoRoad) = some true)
  (s_NoSteps_NoRoad : PySem.W.subIn K (.ref zNoSteps) (.ref zNoRoad) = some false)
  (ne_NoSteps_NoRoad : zNoSteps ≠ zNoRoad)
  (s_NoPick_NoRoad : PySem.W.subIn K (.ref zNoPick) (.ref zNoRoad) = some false)
  (ne_NoPick_NoRoad : zNoPick ≠ zNoRoad)
  (s_NoSum_NoRoad : PySem.W.subIn K (.ref zNoSum) (.ref zNoRoad) = some false)
  (ne_NoSum_NoRoad : zNoSum ≠ zNoRoad)
  (s_NoWay_NoRoad : PySem.W.subIn K (.ref zNoWay) (.ref zNoRoad) = some false)
  (ne_NoWay_NoRoad : zNoWay ≠ zNoRoad)
  (s_SumError_NoSteps : PySem.W.subIn K (.ref zSumError) (.ref zNoSteps) = some false)
  (ne_SumError_NoSteps : zSumError ≠ zNoSteps)
  (s_NoNet_NoSteps : PySem.W.subIn K (.ref zNoNet) (.ref zNoSteps) = some false)
  (ne_NoNet_NoSteps : zNoNet ≠ zNoSteps)
  (s_NoWorth_NoSteps : PySem.W.subIn K (.ref zNoWorth) (.ref zNoSteps) = some false)
  (ne_NoWorth_NoSteps : zNoWorth ≠ zNoSteps)
  (s_NoPlace_NoSteps : PySem.W.subIn K (.ref zNoPlace) (.ref zNoSteps) = some false)
  (ne_NoPlace_NoSteps : zNoPlace ≠ zNoSteps)
  (s_NoRoad_NoSteps : PySem.W.subIn K (.ref zNoRoad) (.ref zNoSteps) = some false)
  (ne_NoRoad_NoSteps : zNoRoad ≠ zNoSteps)
  (s_NoSteps_NoSteps : PySem.W.subIn K (.ref zNoSteps) (.ref zNoSteps) = some true)
  (s_NoPick_NoSteps : PySem.W.subIn K (.ref zNoPick) (.ref zNoSteps) = some false)
  (ne_NoPick_NoSteps : zNoPick ≠ zNoSteps)
  (s_NoSum_NoSteps : PySem.W.subIn K (.ref zNoSum) (.ref zNoSteps) = some false)
  (ne_NoSum_NoSteps : zNoSum ≠ zNoSteps)
  (s_NoWay_NoSteps : PySem.W.subIn K (.ref zNoWay) (.ref zNoSteps) = some false)
  (ne_NoWay_NoSteps : zNoWay ≠ zNoSteps)
  (s_SumError_NoPick : PySem.W.subIn K (.ref zSumError) (.ref zNoPick) = some false)
  (ne_SumError_NoPick : zSumError ≠ zNoPick)
  (s_NoNet_NoPick : PySem.W.subIn K (.ref zNoNet) (.ref zNoPick) = some false)
  (ne_NoNet_NoPick : zNoNet ≠ zNoPick)
  (s_NoWorth_NoPick : PySem.W.subIn K (.ref zNoWorth) (.ref zNoPick) = some false)
  (ne_NoWorth_NoPick : zNoWorth ≠ zNoPick)
  (s_NoPlace_NoPick : PySem.W.subIn K (.ref zNoPlace) (.ref zNoPick) = some false)
  (ne_NoPlace_NoPick : zNoPlace ≠ zNoPick)
  (s_NoRoad_NoPick : PySem.W.subIn K (.ref zNoRoad) (.ref zNoPick) = some false)
  (ne_NoRoad_NoPick : zNoRoad ≠ zNoPick)
  (s_NoSteps_NoPick : PySem.W.subIn K (.ref zNoSteps) (.ref zNoPick) = some false)
  (ne_NoSteps_NoPick : zNoSteps ≠ zNoPick)
  (s_NoPick_NoPick : PySem.W.subIn K (.ref zNoPick) (.ref zNoPick) = some true)
  (s_NoSum_NoPick : PySem.W.subIn K (.ref zNoSum) (.ref zNoPick) = some false)
  (ne_NoSum_NoPick : zNoSum ≠ zNoPick)
  (s_NoWay_NoPick : PySem.W.subIn K (.ref zNoWay) (.ref zNoPick) = some false)
  (ne_NoWay_NoPick : zNoWay ≠ zNoPick)
  (s_SumError_NoSum : PySem.W.subIn K (.ref zSumError) (.ref zNoSum) = some false)
  (ne_SumError_NoSum : zSumError ≠ zNoSum)
  (s_NoNet_NoSum : PySem.W.subIn K (.ref zNoNet) (.ref zNoSum) = some false)
  (ne_NoNet_NoSum : zNoNet ≠ zNoSum)
  (s_NoWorth_NoSum : PySem.W.subIn K (.ref zNoWorth) (.ref zNoSum) = some false)
  (ne_NoWorth_NoSum : zNoWorth ≠ zNoSum)
  (s_NoPlace_NoSum : PySem.W.subIn K (.ref zNoPlace) (.ref zNoSum) = some false)
  (ne_NoPlace_NoSum : zNoPlace ≠ zNoSum)
  (s_NoRoad_NoSum : PySem.W.subIn K (.ref zNoRoad) (.ref zNoSum) = some false)
  (ne_NoRoad_NoSum : zNoRoad ≠ zNoSum)
  (s_NoSteps_NoSum : PySem.W.subIn K (.ref zNoSteps) (.ref zNoSum) = some false)
  (ne_NoSteps_NoSum : zNoSteps ≠ zNoSum)
  (s_NoPick_NoSum : PySem.W.subIn K (.ref zNoPick) (.ref zNoSum) = some false)
  (ne_NoPick_NoSum : zNoPick ≠ zNoSum)
  (s_NoSum_NoSum : PySem.W.subIn K (.ref zNoSum) (.ref zNoSum) = some true)
  (s_NoWay_NoSum : PySem.W.subIn K (.ref zNoWay) (.ref zNoSum) = some false)
  (ne_NoWay_NoSum : zNoWay ≠ zNoSum)
  (s_SumError_NoWay : PySem.W.subIn K (.ref zSumError) (.ref zNoWay) = some false)
  (ne_SumError_NoWay : zSumError ≠ zNoWay)
  (s_NoNet_NoWay : PySem.W.subIn K (.ref zNoNet) (.ref zNoWay) = some false)
  (ne_NoNet_NoWay : zNoNet ≠ zNoWay)
  (s_NoWorth_NoWay : PySem.W.subIn K (.ref zNoWorth) (.ref zNoWay) = some false)
  (ne_NoWorth_NoWay : zNoWorth ≠ zNoWay)
  (s_NoPlace_NoWay : PySem.W.subIn K (.ref zNoPlace) (.ref zNoWay) = some false)
  (ne_NoPlace_NoWay : zNoPlace ≠ zNoWay)
  (s_NoRoad_NoWay : PySem.W.subIn K (.ref zNoRoad) (.ref zNoWay) = some false)
  (ne_NoRoad_NoWay : zNoRoad ≠ zNoWay)
  (s_NoSteps_NoWay : PySem.W.subIn K (.ref zNoSteps) (.ref zNoWay) = some false)
  (ne_NoSteps_NoWay : zNoSteps ≠ zNoWay)
  (s_NoPick_NoWay : PySem.W.subIn K (.ref zNoPick) (.ref zNoWay) = some false)
  (ne_NoPick_NoWay : zNoPick ≠ zNoWay)
  (s_NoSum_NoWay : PySem.W.subIn K (.ref zNoSum) (.ref zNoWay) = some false)
  (ne_NoSum_NoWay : zNoSum ≠ zNoWay)
  (s_NoWay_NoWay : PySem.W.subIn K (.ref zNoWay) (.ref zNoWay) = some true)
  (s_SumError_SumError : PySem.W.subIn K (.ref zSumError) (.ref zSumError) = some true)
  (s_NoNet_SumError : PySem.W.subIn K (.ref zNoNet) (.ref zSumError) = some true)
  (s_NoWorth_SumError : PySem.W.subIn K (.ref zNoWorth) (.ref zSumError) = some true)
  (s_NoPlace_SumError : PySem.W.subIn K (.ref zNoPlace) (.ref zSumError) = some true)
  (s_NoRoad_SumError : PySem.W.subIn K (.ref zNoRoad) (.ref zSumError) = some true)
  (s_NoSteps_SumError : PySem.W.subIn K (.ref zNoSteps) (.ref zSumError) = some true)
  (s_NoPick_SumError : PySem.W.subIn K (.ref zNoPick) (.ref zSumError) = some true)
  (s_NoSum_SumError : PySem.W.subIn K (.ref zNoSum) (.ref zSumError) = some true)
  (s_NoWay_SumError : PySem.W.subIn K (.ref zNoWay) (.ref zSumError) = some true)
  (v_SumError : PySem.W.subIn K (.ref zSumError) (.type "ValueError") = some true)
  (v_NoNet : PySem.W.subIn K (.ref zNoNet) (.type "ValueError") = some true)
  (v_NoWorth : PySem.W.subIn K (.ref zNoWorth) (.type "ValueError") = some true)
  (v_NoPlace : PySem.W.subIn K (.ref zNoPlace) (.type "ValueError") = some true)
  (v_NoRoad : PySem.W.subIn K (.ref zNoRoad) (.type "ValueError") = some true)
  (v_NoSteps : PySem.W.subIn K (.ref zNoSteps) (.type "ValueError") = some true)
  (v_NoPick : PySem.W.subIn K (.ref zNoPick) (.type "ValueError") = some true)
  (v_NoSum : PySem.W.subIn K (.ref zNoSum) (.type "ValueError") = some true)
  (v_NoWay : PySem.W.subIn K (.ref zNoWay) (.type "ValueError") = some true)
  (at_Net_many : PySem.W.findIn K (.ref zNet) "many" = some none)
  (at_Net_rows : PySem.W.findIn K (.ref zNet) "rows" = some none)
  (at_Net_sort_of : PySem.W.findIn K (.ref zNet) "sort_of" = some none)
  (at_Rests_m : PySem.W.findIn K (.ref zRests) "m" = some none)
  (n_len : PySem.W.nsIn K mainGlobals "len" = some none)
  (n_range : PySem.W.nsIn K mainGlobals "range" = some none)
  (n_isinstance : PySem.W.nsIn K mainGlobals "isinstance" = some none)
  (n_min : PySem.W.nsIn K mainGlobals "min" = some none)
  (n_max : PySem.W.nsIn K mainGlobals "max" = some none)
  (n_list : PySem.W.nsIn K mainGlobals "list" = some none)
  (n_reversed : PySem.W.nsIn K mainGlobals "reversed" = some none)
  (n_tuple : PySem.W.nsIn K mainGlobals "tuple" = some none)
  (n_int : PySem.W.nsIn K mainGlobals "int" = some none)
  (n_ValueError : PySem.W.nsIn K mainGlobals "ValueError" = some none)
  (n_WIDEST : PySem.W.nsIn K mainGlobals "WIDEST" = some (some (.int 1000000000 tkWIDEST)))
  (n_MOST_PLACES : PySem.W.nsIn K mainGlobals "MOST_PLACES" = some (some (.int 8 tkMOST_PLACES)))
  (n_MOST_ROADS : PySem.W.nsIn K mainGlobals "MOST_ROADS" = some (some (.int 64 tkMOST_ROADS)))
  (n_MOST_STEPS : PySem.W.nsIn K mainGlobals "MOST_STEPS" = some (some (.int 40 tkMOST_STEPS)))
  (hn : PySem.W.specialIn K (.builtin "object.__class__") "__get__" = some (some (.builtin "getset_descriptor.__get__")))
  (ht : PySem.W.takesIn K (.builtin "object.__class__") = some true)
  : ∃ fd : FuncData, (∀ (s : Shared) (v : Value), BindsTo s fd ⟨[v], []⟩ [("script", v)]) ∧ ∀ base : Heap, K.In base → base.Ns mainGlobals mg → FnOk l.prog w K mg base CX0 20 fa fd ["script"] (spLaw K) := by
  have e := hfa.symm.trans (PySem.W.mg_of X G a_law)
  cases e
  have TT : Tx K mg ⟨zSumError, zNoNet, zNoWorth, zNoPlace, zNoRoad, zNoSteps, zNoPick, zNoSum, zNoWay, zKind, zFewest, zWidest, zCounted, zLikeliest, zChances, zMusts, zRests, zNet⟩ := by
    constructor
    · exact ⟨_, _, ⟨PySem.W.mg_of X G a_common, fun_mk l_common c_common k_common, (Fun.binds (fun_mk l_common c_common k_common) (ps := ["one", "other"]) fun _ _ _ _ _ _ us hl => match us, hl with | [_, _], _ => rfl)⟩⟩
    · exact ⟨_, _, ⟨PySem.W.mg_of X G a_lowest, fun_mk l_lowest c_lowest k_lowest, (Fun.binds (fun_mk l_lowest c_lowest k_lowest) (ps := ["top", "below"]) fun _ _ _ _ _ _ us hl => match us, hl with | [_, _], _ => rfl)⟩⟩
    · exact ⟨_, _, ⟨PySem.W.mg_of X G a_is_share, fun_mk l_is_share c_is_share k_is_share, (Fun.binds (fun_mk l_is_share c_is_share k_is_share) (ps := ["some"]) fun _ _ _ _ _ _ us hl => match us, hl with | [_], _ => rfl)⟩⟩
    · exact ⟨_, _, ⟨PySem.W.mg_of X G a_added, fun_mk l_added c_added k_added, (Fun.binds (fun_mk l_added c_added k_added) (ps := ["one", "other"]) fun _ _ _ _ _ _ us hl => match us, hl with | [_, _], _ => rfl)⟩⟩
    · exact ⟨_, _, ⟨PySem.W.mg_of X G a_taken, fun_mk l_taken c_taken k_taken, (Fun.binds (fun_mk l_taken c_taken k_taken) (ps := ["one", "other"]) fun _ _ _ _ _ _ us hl => match us, hl with | [_, _], _ => rfl)⟩⟩
    · exact ⟨_, _, ⟨PySem.W.mg_of X G a_less, fun_mk l_less c_less k_less, (Fun.binds (fun_mk l_less c_less k_less) (ps := ["one", "other"]) fun _ _ _ _ _ _ us hl => match us, hl with | [_, _], _ => rfl)⟩⟩
    · exact ⟨_, _, ⟨PySem.W.mg_of X G a_worth_of, fun_mk l_worth_of c_worth_of k_worth_of, (Fun.binds (fun_mk l_worth_of c_worth_of k_worth_of) (ps := ["net", "place", "row"]) fun _ _ _ _ _ _ us hl => match us, hl with | [_, _, _], _ => rfl)⟩⟩
    · exact ⟨_, _, ⟨PySem.W.mg_of X G a_by_steps, fun_mk l_by_steps c_by_steps k_by_steps, (Fun.binds (fun_mk l_by_steps c_by_steps k_by_steps) (ps := ["net", "place", "other", "steps"]) fun _ _ _ _ _ _ us hl => match us, hl with | [_, _, _, _], _ => rfl)⟩⟩
    · exact ⟨_, _, ⟨PySem.W.mg_of X G a_straight, fun_mk l_straight c_straight k_straight, (Fun.binds (fun_mk l_straight c_straight k_straight) (ps := ["net"]) fun _ _ _ _ _ _ us hl => match us, hl with | [_], _ => rfl)⟩⟩
    · exact ⟨_, _, ⟨PySem.W.mg_of X G a_through, fun_mk l_through c_through k_through, (Fun.binds (fun_mk l_through c_through k_through) (ps := ["kind", "rows", "place"]) fun _ _ _ _ _ _ us hl => match us, hl with | [_, _, _], _ => rfl)⟩⟩
    · exact ⟨_, _, ⟨PySem.W.mg_of X G a_table, fun_mk l_table c_table k_table, (Fun.binds (fun_mk l_table c_table k_table) (ps := ["net"]) fun _ _ _ _ _ _ us hl => match us, hl with | [_], _ => rfl)⟩⟩
    · exact ⟨_, _, ⟨PySem.W.mg_of X G a_total, fun_mk l_total c_total k_total, (Fun.binds (fun_mk l_total c_total k_total) (ps := ["net", "place", "other"]) fun _ _ _ _ _ _ us hl => match us, hl with | [_, _, _], _ => rfl)⟩⟩
    · exact ⟨_, _, ⟨PySem.W.mg_of X G a_without, fun_mk l_without c_without k_without, (Fun.binds (fun_mk l_without c_without k_without) (ps := ["net", "place"]) fun _ _ _ _ _ _ us hl => match us, hl with | [_, _], _ => rfl)⟩⟩
    · exact ⟨_, _, ⟨PySem.W.mg_of X G a_spread, fun_mk l_spread c_spread k_spread, (Fun.binds (fun_mk l_spread c_spread k_spread) (ps := ["net", "row"]) fun _ _ _ _ _ _ us hl => match us, hl with | [_, _], _ => rfl)⟩⟩
    · exact ⟨_, _, ⟨PySem.W.mg_of X G a_way_for, fun_mk l_way_for c_way_for k_way_for, (Fun.binds (fun_mk l_way_for c_way_for k_way_for) (ps := ["net", "place", "other"]) fun _ _ _ _ _ _ us hl => match us, hl with | [_, _, _], _ => rfl)⟩⟩
    · exact ⟨_, _, ⟨PySem.W.mg_of X G a__law_cell_at, fun_mk l__law_cell_at c__law_cell_at k__law_cell_at, (Fun.binds (fun_mk l__law_cell_at c__law_cell_at k__law_cell_at) (ps := ["script", "k"]) fun _ _ _ _ _ _ us hl => match us, hl with | [_, _], _ => rfl)⟩⟩
    · exact ⟨_, _, ⟨PySem.W.mg_of X G a__law_which, fun_mk l__law_which c__law_which k__law_which, (Fun.binds (fun_mk l__law_which c__law_which k__law_which) (ps := ["e"]) fun _ _ _ _ _ _ us hl => match us, hl with | [_], _ => rfl)⟩⟩
    · exact ⟨_, _, ⟨PySem.W.mg_of X G a__law_no_net, fun_mk l__law_no_net c__law_no_net k__law_no_net, (Fun.binds (fun_mk l__law_no_net c__law_no_net k__law_no_net) (ps := ["cell", "far"]) fun _ _ _ _ _ _ us hl => match us, hl with | [_, _], _ => rfl)⟩⟩
    · exact ⟨_, _, ⟨PySem.W.mg_of X G a__law_no_worth, fun_mk l__law_no_worth c__law_no_worth k__law_no_worth, (Fun.binds (fun_mk l__law_no_worth c__law_no_worth k__law_no_worth) (ps := ["cell", "far"]) fun _ _ _ _ _ _ us hl => match us, hl with | [_, _], _ => rfl)⟩⟩
    · exact ⟨_, _, ⟨PySem.W.mg_of X G a__law_no_place, fun_mk l__law_no_place c__law_no_place k__law_no_place, (Fun.binds (fun_mk l__law_no_place c__law_no_place k__law_no_place) (ps := ["net", "cell", "far"]) fun _ _ _ _ _ _ us hl => match us, hl with | [_, _, _], _ => rfl)⟩⟩
    · exact ⟨_, _, ⟨PySem.W.mg_of X G a__law_no_sum, fun_mk l__law_no_sum c__law_no_sum k__law_no_sum, (Fun.binds (fun_mk l__law_no_sum c__law_no_sum k__law_no_sum) (ps := ["net", "cell"]) fun _ _ _ _ _ _ us hl => match us, hl with | [_, _], _ => rfl)⟩⟩
    · exact ⟨_, _, ⟨PySem.W.mg_of X G a__law_done, fun_mk l__law_done c__law_done k__law_done, (Fun.binds (fun_mk l__law_done c__law_done k__law_done) (ps := ["way", "cell", "far"]) fun _ _ _ _ _ _ us hl => match us, hl with | [_, _, _], _ => rfl)⟩⟩
    · exact ⟨PySem.W.mg_of X G g_Kind, ⟨p1Kind, p2Kind, p3Kind, p4Kind⟩, q1Kind, q2Kind, q3Kind, q4Kind⟩
    · exact ⟨q5Kind⟩
    · exact ⟨PySem.W.mg_of X G g_Fewest, ⟨p1Fewest, p2Fewest, p3Fewest, p4Fewest⟩, q1Fewest, q2Fewest, q3Fewest, q4Fewest⟩
    · exact ⟨q5Fewest⟩
    · exact ⟨PySem.W.mg_of X G g_Widest, ⟨p1Widest, p2Widest, p3Widest, p4Widest⟩, q1Widest, q2Widest, q3Widest, q4Widest⟩
    · exact ⟨q5Widest⟩
    · exact ⟨PySem.W.mg_of X G g_Counted, ⟨p1Counted, p2Counted, p3Counted, p4Counted⟩, q1Counted, q2Counted, q3Counted, q4Counted⟩
    · exact ⟨q5Counted⟩
    · exact ⟨PySem.W.mg_of X G g_Likeliest, ⟨p1Likeliest, p2Likeliest, p3Likeliest, p4Likeliest⟩, q1Likeliest, q2Likeliest, q3Likeliest, q4Likeliest⟩
    · exact ⟨q5Likeliest⟩
    · exact ⟨PySem.W.mg_of X G g_Chances, ⟨p1Chances, p2Chances, p3Chances, p4Chances⟩, q1Chances, q2Chances, q3Chances, q4Chances⟩
    · exact ⟨q5Chances⟩
    · exact ⟨PySem.W.mg_of X G g_Musts, ⟨p1Musts, p2Musts, p3Musts, p4Musts⟩, q1Musts, q2Musts, q3Musts, q4Musts⟩
    · exact ⟨q5Musts⟩
    · exact ⟨PySem.W.mg_of X G g_Rests, ⟨p1Rests, p2Rests, p3Rests, p4Rests⟩, q1Rests, q2Rests, q3Rests, q4Rests⟩
    · exact ⟨PySem.W.mg_of X G g_Net, ⟨p1Net, p2Net, p3Net, p4Net⟩, q1Net, q2Net, q3Net, q4Net⟩
    · exact ⟨_, _, ⟨⟨a_Kind_picks, i_Kind_picks, k_Kind_picks⟩, fun_mk l_Kind_picks c_Kind_picks k_Kind_picks, (Fun.binds (fun_mk l_Kind_picks c_Kind_picks k_Kind_picks) (ps := ["self"]) fun _ _ _ _ _ _ us hl => match us, hl with | [_], _ => rfl)⟩⟩
    · exact ⟨_, _, ⟨⟨a_Fewest_picks, i_Fewest_picks, k_Fewest_picks⟩, fun_mk l_Fewest_picks c_Fewest_picks k_Fewest_picks, (Fun.binds (fun_mk l_Fewest_picks c_Fewest_picks k_Fewest_picks) (ps := ["self"]) fun _ _ _ _ _ _ us hl => match us, hl with | [_], _ => rfl)⟩⟩
    · exact ⟨_, _, ⟨⟨a_Fewest_none, i_Fewest_none, k_Fewest_none⟩, fun_mk l_Fewest_none c_Fewest_none k_Fewest_none, (Fun.binds (fun_mk l_Fewest_none c_Fewest_none k_Fewest_none) (ps := ["self"]) fun _ _ _ _ _ _ us hl => match us, hl with | [_], _ => rfl)⟩⟩
    · exact ⟨_, _, ⟨⟨a_Fewest_rest, i_Fewest_rest, k_Fewest_rest⟩, fun_mk l_Fewest_rest c_Fewest_rest k_Fewest_rest, (Fun.binds (fun_mk l_Fewest_rest c_Fewest_rest k_Fewest_rest) (ps := ["self"]) fun _ _ _ _ _ _ us hl => match us, hl with | [_], _ => rfl)⟩⟩
    · exact ⟨_, _, ⟨⟨a_Fewest_is_worth, i_Fewest_is_worth, k_Fewest_is_worth⟩, fun_mk l_Fewest_is_worth c_Fewest_is_worth k_Fewest_is_worth, (Fun.binds (fun_mk l_Fewest_is_worth c_Fewest_is_worth k_Fewest_is_worth) (ps := ["self", "some"]) fun _ _ _ _ _ _ us hl => match us, hl with | [_, _], _ => rfl)⟩⟩
    · exact ⟨_, _, ⟨⟨a_Fewest_together, i_Fewest_together, k_Fewest_together⟩, fun_mk l_Fewest_together c_Fewest_together k_Fewest_together, (Fun.binds (fun_mk l_Fewest_together c_Fewest_together k_Fewest_together) (ps := ["self", "one", "other"]) fun _ _ _ _ _ _ us hl => match us, hl with | [_, _, _], _ => rfl)⟩⟩
    · exact ⟨_, _, ⟨⟨a_Fewest_behind, i_Fewest_behind, k_Fewest_behind⟩, fun_mk l_Fewest_behind c_Fewest_behind k_Fewest_behind, (Fun.binds (fun_mk l_Fewest_behind c_Fewest_behind k_Fewest_behind) (ps := ["self", "one", "other"]) fun _ _ _ _ _ _ us hl => match us, hl with | [_, _, _], _ => rfl)⟩⟩
    · exact ⟨_, _, ⟨⟨a_Fewest_rounds, i_Fewest_rounds, k_Fewest_rounds⟩, fun_mk l_Fewest_rounds c_Fewest_rounds k_Fewest_rounds, (Fun.binds (fun_mk l_Fewest_rounds c_Fewest_rounds k_Fewest_rounds) (ps := ["self", "one"]) fun _ _ _ _ _ _ us hl => match us, hl with | [_, _], _ => rfl)⟩⟩
    · exact ⟨_, _, ⟨⟨a_Widest_picks, i_Widest_picks, k_Widest_picks⟩, fun_mk l_Widest_picks c_Widest_picks k_Widest_picks, (Fun.binds (fun_mk l_Widest_picks c_Widest_picks k_Widest_picks) (ps := ["self"]) fun _ _ _ _ _ _ us hl => match us, hl with | [_], _ => rfl)⟩⟩
    · exact ⟨_, _, ⟨⟨a_Widest_none, i_Widest_none, k_Widest_none⟩, fun_mk l_Widest_none c_Widest_none k_Widest_none, (Fun.binds (fun_mk l_Widest_none c_Widest_none k_Widest_none) (ps := ["self"]) fun _ _ _ _ _ _ us hl => match us, hl with | [_], _ => rfl)⟩⟩
    · exact ⟨_, _, ⟨⟨a_Widest_rest, i_Widest_rest, k_Widest_rest⟩, fun_mk l_Widest_rest c_Widest_rest k_Widest_rest, (Fun.binds (fun_mk l_Widest_rest c_Widest_rest k_Widest_rest) (ps := ["self"]) fun _ _ _ _ _ _ us hl => match us, hl with | [_], _ => rfl)⟩⟩
    · exact ⟨_, _, ⟨⟨a_Widest_is_worth, i_Widest_is_worth, k_Widest_is_worth⟩, fun_mk l_Widest_is_worth c_Widest_is_worth k_Widest_is_worth, (Fun.binds (fun_mk l_Widest_is_worth c_Widest_is_worth k_Widest_is_worth) (ps := ["self", "some"]) fun _ _ _ _ _ _ us hl => match us, hl with | [_, _], _ => rfl)⟩⟩
    · exact ⟨_, _, ⟨⟨a_Widest_together, i_Widest_together, k_Widest_together⟩, fun_mk l_Widest_together c_Widest_together k_Widest_together, (Fun.binds (fun_mk l_Widest_together c_Widest_together k_Widest_together) (ps := ["self", "one", "other"]) fun _ _ _ _ _ _ us hl => match us, hl with | [_, _, _], _ => rfl)⟩⟩
    · exact ⟨_, _, ⟨⟨a_Widest_behind, i_Widest_behind, k_Widest_behind⟩, fun_mk l_Widest_behind c_Widest_behind k_Widest_behind, (Fun.binds (fun_mk l_Widest_behind c_Widest_behind k_Widest_behind) (ps := ["self", "one", "other"]) fun _ _ _ _ _ _ us hl => match us, hl with | [_, _, _], _ => rfl)⟩⟩
    · exact ⟨_, _, ⟨⟨a_Widest_rounds, i_Widest_rounds, k_Widest_rounds⟩, fun_mk l_Widest_rounds c_Widest_rounds k_Widest_rounds, (Fun.binds (fun_mk l_Widest_rounds c_Widest_rounds k_Widest_rounds) (ps := ["self", "one"]) fun _ _ _ _ _ _ us hl => match us, hl with | [_, _], _ => rfl)⟩⟩
    · exact ⟨_, _, ⟨⟨a_Counted_none, i_Counted_none, k_Counted_none⟩, fun_mk l_Counted_none c_Counted_none k_Counted_none, (Fun.binds (fun_mk l_Counted_none c_Counted_none k_Counted_none) (ps := ["self"]) fun _ _ _ _ _ _ us hl => match us, hl with | [_], _ => rfl)⟩⟩
    · exact ⟨_, _, ⟨⟨a_Counted_rest, i_Counted_rest, k_Counted_rest⟩, fun_mk l_Counted_rest c_Counted_rest k_Counted_rest, (Fun.binds (fun_mk l_Counted_rest c_Counted_rest k_Counted_rest) (ps := ["self"]) fun _ _ _ _ _ _ us hl => match us, hl with | [_], _ => rfl)⟩⟩
    · exact ⟨_, _, ⟨⟨a_Counted_is_worth, i_Counted_is_worth, k_Counted_is_worth⟩, fun_mk l_Counted_is_worth c_Counted_is_worth k_Counted_is_worth, (Fun.binds (fun_mk l_Counted_is_worth c_Counted_is_worth k_Counted_is_worth) (ps := ["self", "some"]) fun _ _ _ _ _ _ us hl => match us, hl with | [_, _], _ => rfl)⟩⟩
    · exact ⟨_, _, ⟨⟨a_Counted_together, i_Counted_together, k_Counted_together⟩, fun_mk l_Counted_together c_Counted_together k_Counted_together, (Fun.binds (fun_mk l_Counted_together c_Counted_together k_Counted_together) (ps := ["self", "one", "other"]) fun _ _ _ _ _ _ us hl => match us, hl with | [_, _, _], _ => rfl)⟩⟩
    · exact ⟨_, _, ⟨⟨a_Counted_behind, i_Counted_behind, k_Counted_behind⟩, fun_mk l_Counted_behind c_Counted_behind k_Counted_behind, (Fun.binds (fun_mk l_Counted_behind c_Counted_behind k_Counted_behind) (ps := ["self", "one", "other"]) fun _ _ _ _ _ _ us hl => match us, hl with | [_, _, _], _ => rfl)⟩⟩
    · exact ⟨_, _, ⟨⟨a_Counted_rounds, i_Counted_rounds, k_Counted_rounds⟩, fun_mk l_Counted_rounds c_Counted_rounds k_Counted_rounds, (Fun.binds (fun_mk l_Counted_rounds c_Counted_rounds k_Counted_rounds) (ps := ["self", "one"]) fun _ _ _ _ _ _ us hl => match us, hl with | [_, _], _ => rfl)⟩⟩
    · exact ⟨_, _, ⟨⟨a_Likeliest_picks, i_Likeliest_picks, k_Likeliest_picks⟩, fun_mk l_Likeliest_picks c_Likeliest_picks k_Likeliest_picks, (Fun.binds (fun_mk l_Likeliest_picks c_Likeliest_picks k_Likeliest_picks) (ps := ["self"]) fun _ _ _ _ _ _ us hl => match us, hl with | [_], _ => rfl)⟩⟩
    · exact ⟨_, _, ⟨⟨a_Likeliest_none, i_Likeliest_none, k_Likeliest_none⟩, fun_mk l_Likeliest_none c_Likeliest_none k_Likeliest_none, (Fun.binds (fun_mk l_Likeliest_none c_Likeliest_none k_Likeliest_none) (ps := ["self"]) fun _ _ _ _ _ _ us hl => match us, hl with | [_], _ => rfl)⟩⟩
    · exact ⟨_, _, ⟨⟨a_Likeliest_rest, i_Likeliest_rest, k_Likeliest_rest⟩, fun_mk l_Likeliest_rest c_Likeliest_rest k_Likeliest_rest, (Fun.binds (fun_mk l_Likeliest_rest c_Likeliest_rest k_Likeliest_rest) (ps := ["self"]) fun _ _ _ _ _ _ us hl => match us, hl with | [_], _ => rfl)⟩⟩
    · exact ⟨_, _, ⟨⟨a_Likeliest_is_worth, i_Likeliest_is_worth, k_Likeliest_is_worth⟩, fun_mk l_Likeliest_is_worth c_Likeliest_is_worth k_Likeliest_is_worth, (Fun.binds (fun_mk l_Likeliest_is_worth c_Likeliest_is_worth k_Likeliest_is_worth) (ps := ["self", "some"]) fun _ _ _ _ _ _ us hl => match us, hl with | [_, _], _ => rfl)⟩⟩
    · exact ⟨_, _, ⟨⟨a_Likeliest_together, i_Likeliest_together, k_Likeliest_together⟩, fun_mk l_Likeliest_together c_Likeliest_together k_Likeliest_together, (Fun.binds (fun_mk l_Likeliest_together c_Likeliest_together k_Likeliest_together) (ps := ["self", "one", "other"]) fun _ _ _ _ _ _ us hl => match us, hl with | [_, _, _], _ => rfl)⟩⟩
    · exact ⟨_, _, ⟨⟨a_Likeliest_behind, i_Likeliest_behind, k_Likeliest_behind⟩, fun_mk l_Likeliest_behind c_Likeliest_behind k_Likeliest_behind, (Fun.binds (fun_mk l_Likeliest_behind c_Likeliest_behind k_Likeliest_behind) (ps := ["self", "one", "other"]) fun _ _ _ _ _ _ us hl => match us, hl with | [_, _, _], _ => rfl)⟩⟩
    · exact ⟨_, _, ⟨⟨a_Likeliest_rounds, i_Likeliest_rounds, k_Likeliest_rounds⟩, fun_mk l_Likeliest_rounds c_Likeliest_rounds k_Likeliest_rounds, (Fun.binds (fun_mk l_Likeliest_rounds c_Likeliest_rounds k_Likeliest_rounds) (ps := ["self", "one"]) fun _ _ _ _ _ _ us hl => match us, hl with | [_, _], _ => rfl)⟩⟩
    · exact ⟨_, _, ⟨⟨a_Chances_none, i_Chances_none, k_Chances_none⟩, fun_mk l_Chances_none c_Chances_none k_Chances_none, (Fun.binds (fun_mk l_Chances_none c_Chances_none k_Chances_none) (ps := ["self"]) fun _ _ _ _ _ _ us hl => match us, hl with | [_], _ => rfl)⟩⟩
    · exact ⟨_, _, ⟨⟨a_Chances_rest, i_Chances_rest, k_Chances_rest⟩, fun_mk l_Chances_rest c_Chances_rest k_Chances_rest, (Fun.binds (fun_mk l_Chances_rest c_Chances_rest k_Chances_rest) (ps := ["self"]) fun _ _ _ _ _ _ us hl => match us, hl with | [_], _ => rfl)⟩⟩
    · exact ⟨_, _, ⟨⟨a_Chances_is_worth, i_Chances_is_worth, k_Chances_is_worth⟩, fun_mk l_Chances_is_worth c_Chances_is_worth k_Chances_is_worth, (Fun.binds (fun_mk l_Chances_is_worth c_Chances_is_worth k_Chances_is_worth) (ps := ["self", "some"]) fun _ _ _ _ _ _ us hl => match us, hl with | [_, _], _ => rfl)⟩⟩
    · exact ⟨_, _, ⟨⟨a_Chances_together, i_Chances_together, k_Chances_together⟩, fun_mk l_Chances_together c_Chances_together k_Chances_together, (Fun.binds (fun_mk l_Chances_together c_Chances_together k_Chances_together) (ps := ["self", "one", "other"]) fun _ _ _ _ _ _ us hl => match us, hl with | [_, _, _], _ => rfl)⟩⟩
    · exact ⟨_, _, ⟨⟨a_Chances_behind, i_Chances_behind, k_Chances_behind⟩, fun_mk l_Chances_behind c_Chances_behind k_Chances_behind, (Fun.binds (fun_mk l_Chances_behind c_Chances_behind k_Chances_behind) (ps := ["self", "one", "other"]) fun _ _ _ _ _ _ us hl => match us, hl with | [_, _, _], _ => rfl)⟩⟩
    · exact ⟨_, _, ⟨⟨a_Chances_rounds, i_Chances_rounds, k_Chances_rounds⟩, fun_mk l_Chances_rounds c_Chances_rounds k_Chances_rounds, (Fun.binds (fun_mk l_Chances_rounds c_Chances_rounds k_Chances_rounds) (ps := ["self", "one"]) fun _ _ _ _ _ _ us hl => match us, hl with | [_, _], _ => rfl)⟩⟩
    · exact ⟨_, _, ⟨⟨a_Musts_none, i_Musts_none, k_Musts_none⟩, fun_mk l_Musts_none c_Musts_none k_Musts_none, (Fun.binds (fun_mk l_Musts_none c_Musts_none k_Musts_none) (ps := ["self"]) fun _ _ _ _ _ _ us hl => match us, hl with | [_], _ => rfl)⟩⟩
    · exact ⟨_, _, ⟨⟨a_Musts_rest, i_Musts_rest, k_Musts_rest⟩, fun_mk l_Musts_rest c_Musts_rest k_Musts_rest, (Fun.binds (fun_mk l_Musts_rest c_Musts_rest k_Musts_rest) (ps := ["self"]) fun _ _ _ _ _ _ us hl => match us, hl with | [_], _ => rfl)⟩⟩
    · exact ⟨_, _, ⟨⟨a_Musts_is_worth, i_Musts_is_worth, k_Musts_is_worth⟩, fun_mk l_Musts_is_worth c_Musts_is_worth k_Musts_is_worth, (Fun.binds (fun_mk l_Musts_is_worth c_Musts_is_worth k_Musts_is_worth) (ps := ["self", "some"]) fun _ _ _ _ _ _ us hl => match us, hl with | [_, _], _ => rfl)⟩⟩
    · exact ⟨_, _, ⟨⟨a_Musts_together, i_Musts_together, k_Musts_together⟩, fun_mk l_Musts_together c_Musts_together k_Musts_together, (Fun.binds (fun_mk l_Musts_together c_Musts_together k_Musts_together) (ps := ["self", "one", "other"]) fun _ _ _ _ _ _ us hl => match us, hl with | [_, _, _], _ => rfl)⟩⟩
    · exact ⟨_, _, ⟨⟨a_Musts_behind, i_Musts_behind, k_Musts_behind⟩, fun_mk l_Musts_behind c_Musts_behind k_Musts_behind, (Fun.binds (fun_mk l_Musts_behind c_Musts_behind k_Musts_behind) (ps := ["self", "one", "other"]) fun _ _ _ _ _ _ us hl => match us, hl with | [_, _, _], _ => rfl)⟩⟩
    · exact ⟨_, _, ⟨⟨a_Musts_rounds, i_Musts_rounds, k_Musts_rounds⟩, fun_mk l_Musts_rounds c_Musts_rounds k_Musts_rounds, (Fun.binds (fun_mk l_Musts_rounds c_Musts_rounds k_Musts_rounds) (ps := ["self", "one"]) fun _ _ _ _ _ _ us hl => match us, hl with | [_, _], _ => rfl)⟩⟩
    · exact ⟨_, _, ⟨⟨q2Rests, a_Rests___init__, i_Rests___init__, q1Rests⟩, fun_mk l_Rests___init__ c_Rests___init__ k_Rests___init__, (Fun.binds (fun_mk l_Rests___init__ c_Rests___init__ k_Rests___init__) (ps := ["self", "m"]) fun _ _ _ _ _ _ us hl => match us, hl with | [_, _], _ => rfl)⟩⟩
    · exact ⟨_, _, ⟨⟨a_Rests_none, i_Rests_none, k_Rests_none⟩, fun_mk l_Rests_none c_Rests_none k_Rests_none, (Fun.binds (fun_mk l_Rests_none c_Rests_none k_Rests_none) (ps := ["self"]) fun _ _ _ _ _ _ us hl => match us, hl with | [_], _ => rfl)⟩⟩
    · exact ⟨_, _, ⟨⟨a_Rests_rest, i_Rests_rest, k_Rests_rest⟩, fun_mk l_Rests_rest c_Rests_rest k_Rests_rest, (Fun.binds (fun_mk l_Rests_rest c_Rests_rest k_Rests_rest) (ps := ["self"]) fun _ _ _ _ _ _ us hl => match us, hl with | [_], _ => rfl)⟩⟩
    · exact ⟨_, _, ⟨⟨a_Rests_is_worth, i_Rests_is_worth, k_Rests_is_worth⟩, fun_mk l_Rests_is_worth c_Rests_is_worth k_Rests_is_worth, (Fun.binds (fun_mk l_Rests_is_worth c_Rests_is_worth k_Rests_is_worth) (ps := ["self", "some"]) fun _ _ _ _ _ _ us hl => match us, hl with | [_, _], _ => rfl)⟩⟩
    · exact ⟨_, _, ⟨⟨a_Rests_together, i_Rests_together, k_Rests_together⟩, fun_mk l_Rests_together c_Rests_together k_Rests_together, (Fun.binds (fun_mk l_Rests_together c_Rests_together k_Rests_together) (ps := ["self", "one", "other"]) fun _ _ _ _ _ _ us hl => match us, hl with | [_, _, _], _ => rfl)⟩⟩
    · exact ⟨_, _, ⟨⟨a_Rests_behind, i_Rests_behind, k_Rests_behind⟩, fun_mk l_Rests_behind c_Rests_behind k_Rests_behind, (Fun.binds (fun_mk l_Rests_behind c_Rests_behind k_Rests_behind) (ps := ["self", "one", "other"]) fun _ _ _ _ _ _ us hl => match us, hl with | [_, _, _], _ => rfl)⟩⟩
    · exact ⟨_, _, ⟨⟨a_Rests_rounds, i_Rests_rounds, k_Rests_rounds⟩, fun_mk l_Rests_rounds c_Rests_rounds k_Rests_rounds, (Fun.binds (fun_mk l_Rests_rounds c_Rests_rounds k_Rests_rounds) (ps := ["self", "one"]) fun _ _ _ _ _ _ us hl => match us, hl with | [_, _], _ => rfl)⟩⟩
    · exact ⟨_, _, ⟨⟨q2Net, a_Net___init__, i_Net___init__, q1Net⟩, fun_mk l_Net___init__ c_Net___init__ k_Net___init__, (Fun.binds (fun_mk l_Net___init__ c_Net___init__ k_Net___init__) (ps := ["self", "kind", "places", "roads"]) fun _ _ _ _ _ _ us hl => match us, hl with | [_, _, _, _], _ => rfl)⟩⟩
    · exact ⟨_, _, ⟨⟨a_Net_ask_shares, i_Net_ask_shares, k_Net_ask_shares⟩, fun_mk l_Net_ask_shares c_Net_ask_shares k_Net_ask_shares, (Fun.binds (fun_mk l_Net_ask_shares c_Net_ask_shares k_Net_ask_shares) (ps := ["self", "kind", "places", "roads"]) fun _ _ _ _ _ _ us hl => match us, hl with | [_, _, _, _], _ => rfl)⟩⟩
    · exact ⟨_, _, ⟨⟨a_Net_ask, i_Net_ask, k_Net_ask⟩, fun_mk l_Net_ask c_Net_ask k_Net_ask, (Fun.binds (fun_mk l_Net_ask c_Net_ask k_Net_ask) (ps := ["self", "place"]) fun _ _ _ _ _ _ us hl => match us, hl with | [_, _], _ => rfl)⟩⟩
    · exact ⟨_, _, ⟨⟨a_Net_kind, i_Net_kind, k_Net_kind⟩, fun_mk l_Net_kind c_Net_kind k_Net_kind, (Fun.binds (fun_mk l_Net_kind c_Net_kind k_Net_kind) (ps := ["self"]) fun _ _ _ _ _ _ us hl => match us, hl with | [_], _ => rfl)⟩⟩
    · exact ⟨_, _, ⟨⟨a_Net_places, i_Net_places, k_Net_places⟩, fun_mk l_Net_places c_Net_places k_Net_places, (Fun.binds (fun_mk l_Net_places c_Net_places k_Net_places) (ps := ["self"]) fun _ _ _ _ _ _ us hl => match us, hl with | [_], _ => rfl)⟩⟩
    · exact ⟨_, _, ⟨⟨a_Net_roads, i_Net_roads, k_Net_roads⟩, fun_mk l_Net_roads c_Net_roads k_Net_roads, (Fun.binds (fun_mk l_Net_roads c_Net_roads k_Net_roads) (ps := ["self"]) fun _ _ _ _ _ _ us hl => match us, hl with | [_], _ => rfl)⟩⟩
    · exact ⟨_, _, ⟨⟨a_Counted_picks, i_Counted_picks, k_Counted_picks⟩, fun_mk l_Counted_picks c_Counted_picks k_Counted_picks, (Fun.binds (fun_mk l_Counted_picks c_Counted_picks k_Counted_picks) (ps := ["self"]) fun _ _ _ _ _ _ us hl => match us, hl with | [_], _ => rfl)⟩⟩
    · exact ⟨_, _, ⟨⟨a_Chances_picks, i_Chances_picks, k_Chances_picks⟩, fun_mk l_Chances_picks c_Chances_picks k_Chances_picks, (Fun.binds (fun_mk l_Chances_picks c_Chances_picks k_Chances_picks) (ps := ["self"]) fun _ _ _ _ _ _ us hl => match us, hl with | [_], _ => rfl)⟩⟩
    · exact ⟨_, _, ⟨⟨a_Musts_picks, i_Musts_picks, k_Musts_picks⟩, fun_mk l_Musts_picks c_Musts_picks k_Musts_picks, (Fun.binds (fun_mk l_Musts_picks c_Musts_picks k_Musts_picks) (ps := ["self"]) fun _ _ _ _ _ _ us hl => match us, hl with | [_], _ => rfl)⟩⟩
    · exact ⟨_, _, ⟨⟨a_Rests_picks, i_Rests_picks, k_Rests_picks⟩, fun_mk l_Rests_picks c_Rests_picks k_Rests_picks, (Fun.binds (fun_mk l_Rests_picks c_Rests_picks k_Rests_picks) (ps := ["self"]) fun _ _ _ _ _ _ us hl => match us, hl with | [_], _ => rfl)⟩⟩
    · exact ⟨PySem.W.mg_of X G g_SumError, e0SumError, e1SumError, e2SumError, e3SumError, e4SumError, ⟨e5SumError, e6SumError, e2SumError, e7SumError, e8SumError, hn, ht, e9SumError⟩⟩
    · exact ⟨PySem.W.mg_of X G g_NoNet, e0NoNet, e1NoNet, e2NoNet, e3NoNet, e4NoNet, ⟨e5NoNet, e6NoNet, e2NoNet, e7NoNet, e8NoNet, hn, ht, e9NoNet⟩⟩
    · exact ⟨PySem.W.mg_of X G g_NoWorth, e0NoWorth, e1NoWorth, e2NoWorth, e3NoWorth, e4NoWorth, ⟨e5NoWorth, e6NoWorth, e2NoWorth, e7NoWorth, e8NoWorth, hn, ht, e9NoWorth⟩⟩
    · exact ⟨PySem.W.mg_of X G g_NoPlace, e0NoPlace, e1NoPlace, e2NoPlace, e3NoPlace, e4NoPlace, ⟨e5NoPlace, e6NoPlace, e2NoPlace, e7NoPlace, e8NoPlace, hn, ht, e9NoPlace⟩⟩
    · exact ⟨PySem.W.mg_of X G g_NoRoad, e0NoRoad, e1NoRoad, e2NoRoad, e3NoRoad, e4NoRoad, ⟨e5NoRoad, e6NoRoad, e2NoRoad, e7NoRoad, e8NoRoad, hn, ht, e9NoRoad⟩⟩
    · exact ⟨PySem.W.mg_of X G g_NoSteps, e0NoSteps, e1NoSteps, e2NoSteps, e3NoSteps, e4NoSteps, ⟨e5NoSteps, e6NoSteps, e2NoSteps, e7NoSteps, e8NoSteps, hn, ht, e9NoSteps⟩⟩
    · exact ⟨PySem.W.mg_of X G g_NoPick, e0NoPick, e1NoPick, e2NoPick, e3NoPick, e4NoPick, ⟨e5NoPick, e6NoPick, e2NoPick, e7NoPick, e8NoPick, hn, ht, e9NoPick⟩⟩
    · exact ⟨PySem.W.mg_of X G g_NoSum, e0NoSum, e1NoSum, e2NoSum, e3NoSum, e4NoSum, ⟨e5NoSum, e6NoSum, e2NoSum, e7NoSum, e8NoSum, hn, ht, e9NoSum⟩⟩
    · exact ⟨PySem.W.mg_of X G g_NoWay, e0NoWay, e1NoWay, e2NoWay, e3NoWay, e4NoWay, ⟨e5NoWay, e6NoWay, e2NoWay, e7NoWay, e8NoWay, hn, ht, e9NoWay⟩⟩
    · exact kit_ref r1Chances r2Chances s_Fewest_Chances (.inl ne_Fewest_Chances)
    · exact kit_ref r1Chances r2Chances s_Widest_Chances (.inl ne_Widest_Chances)
    · exact kit_ref r1Chances r2Chances s_Counted_Chances (.inl ne_Counted_Chances)
    · exact kit_ref r1Chances r2Chances s_Likeliest_Chances (.inl ne_Likeliest_Chances)
    · exact kit_ref r1Chances r2Chances s_Chances_Chances (.inr rfl)
    · exact kit_ref r1Chances r2Chances s_Musts_Chances (.inl ne_Musts_Chances)
    · exact kit_ref r1Chances r2Chances s_Rests_Chances (.inl ne_Rests_Chances)
    · exact kit_ref e4NoNet e3NoNet s_SumError_NoNet (.inl ne_SumError_NoNet)
    · exact kit_ref e4NoNet e3NoNet s_NoNet_NoNet (.inr rfl)
    · exact kit_ref e4NoNet e3NoNet s_NoWorth_NoNet (.inl ne_NoWorth_NoNet)
    · exact kit_ref e4NoNet e3NoNet s_NoPlace_NoNet (.inl ne_NoPlace_NoNet)
    · exact kit_ref e4NoNet e3NoNet s_NoRoad_NoNet (.inl ne_NoRoad_NoNet)
    · exact kit_ref e4NoNet e3NoNet s_NoSteps_NoNet (.inl ne_NoSteps_NoNet)
    · exact kit_ref e4NoNet e3NoNet s_NoPick_NoNet (.inl ne_NoPick_NoNet)
    · exact kit_ref e4NoNet e3NoNet s_NoSum_NoNet (.inl ne_NoSum_NoNet)
    · exact kit_ref e4NoNet e3NoNet s_NoWay_NoNet (.inl ne_NoWay_NoNet)
    · exact kit_ref e4NoWorth e3NoWorth s_SumError_NoWorth (.inl ne_SumError_NoWorth)
    · exact kit_ref e4NoWorth e3NoWorth s_NoNet_NoWorth (.inl ne_NoNet_NoWorth)
    · exact kit_ref e4NoWorth e3NoWorth s_NoWorth_NoWorth (.inr rfl)
    · exact kit_ref e4NoWorth e3NoWorth s_NoPlace_NoWorth (.inl ne_NoPlace_NoWorth)
    · exact kit_ref e4NoWorth e3NoWorth s_NoRoad_NoWorth (.inl ne_NoRoad_NoWorth)
    · exact kit_ref e4NoWorth e3NoWorth s_NoSteps_NoWorth (.inl ne_NoSteps_NoWorth)
    · exact kit_ref e4NoWorth e3NoWorth s_NoPick_NoWorth (.inl ne_NoPick_NoWorth)
    · exact kit_ref e4NoWorth e3NoWorth s_NoSum_NoWorth (.inl ne_NoSum_NoWorth)
    · exact kit_ref e4NoWorth e3NoWorth s_NoWay_NoWorth (.inl ne_NoWay_NoWorth)
    · exact kit_ref e4NoPlace e3NoPlace s_SumError_NoPlace (.inl ne_SumError_NoPlace)
    · exact kit_ref e4NoPlace e3NoPlace s_NoNet_NoPlace (.inl ne_NoNet_NoPlace)
    · exact kit_ref e4NoPlace e3NoPlace s_NoWorth_NoPlace (.inl ne_NoWorth_NoPlace)
    · exact kit_ref e4NoPlace e3NoPlace s_NoPlace_NoPlace (.inr rfl)
    · exact kit_ref e4NoPlace e3NoPlace s_NoRoad_NoPlace (.inl ne_NoRoad_NoPlace)
    · exact kit_ref e4NoPlace e3NoPlace s_NoSteps_NoPlace (.inl ne_NoSteps_NoPlace)
    · exact kit_ref e4NoPlace e3NoPlace s_NoPick_NoPlace (.inl ne_NoPick_NoPlace)
    · exact kit_ref e4NoPlace e3NoPlace s_NoSum_NoPlace (.inl ne_NoSum_NoPlace)
    · exact kit_ref e4NoPlace e3NoPlace s_NoWay_NoPlace (.inl ne_NoWay_NoPlace)
    · exact kit_ref e4NoRoad e3NoRoad s_SumError_NoRoad (.inl ne_SumError_NoRoad)
    · exact kit_ref e4NoRoad e3NoRoad s_NoNet_NoRoad (.inl ne_NoNet_NoRoad)
    · exact kit_ref e4NoRoad e3NoRoad s_NoWorth_NoRoad (.inl ne_NoWorth_NoRoad)
    · exact kit_ref e4NoRoad e3NoRoad s_NoPlace_NoRoad (.inl ne_NoPlace_NoRoad)
    · exact kit_ref e4NoRoad e3NoRoad s_NoRoad_NoRoad (.inr rfl)
    · exact kit_ref e4NoRoad e3NoRoad s_NoSteps_NoRoad (.inl ne_NoSteps_NoRoad)
    · exact kit_ref e4NoRoad e3NoRoad s_NoPick_NoRoad (.inl ne_NoPick_NoRoad)
    · exact kit_ref e4NoRoad e3NoRoad s_NoSum_NoRoad (.inl ne_NoSum_NoRoad)
    · exact kit_ref e4NoRoad e3NoRoad s_NoWay_NoRoad (.inl ne_NoWay_NoRoad)
    · exact kit_ref e4NoSteps e3NoSteps s_SumError_NoSteps (.inl ne_SumError_NoSteps)
    · exact kit_ref e4NoSteps e3NoSteps s_NoNet_NoSteps (.inl ne_NoNet_NoSteps)
    · exact kit_ref e4NoSteps e3NoSteps s_NoWorth_NoSteps (.inl ne_NoWorth_NoSteps)
    · exact kit_ref e4NoSteps e3NoSteps s_NoPlace_NoSteps (.inl ne_NoPlace_NoSteps)
    · exact kit_ref e4NoSteps e3NoSteps s_NoRoad_NoSteps (.inl ne_NoRoad_NoSteps)
    · exact kit_ref e4NoSteps e3NoSteps s_NoSteps_NoSteps (.inr rfl)
    · exact kit_ref e4NoSteps e3NoSteps s_NoPick_NoSteps (.inl ne_NoPick_NoSteps)
    · exact kit_ref e4NoSteps e3NoSteps s_NoSum_NoSteps (.inl ne_NoSum_NoSteps)
    · exact kit_ref e4NoSteps e3NoSteps s_NoWay_NoSteps (.inl ne_NoWay_NoSteps)
    · exact kit_ref e4NoPick e3NoPick s_SumError_NoPick (.inl ne_SumError_NoPick)
    · exact kit_ref e4NoPick e3NoPick s_NoNet_NoPick (.inl ne_NoNet_NoPick)
    · exact kit_ref e4NoPick e3NoPick s_NoWorth_NoPick (.inl ne_NoWorth_NoPick)
    · exact kit_ref e4NoPick e3NoPick s_NoPlace_NoPick (.inl ne_NoPlace_NoPick)
    · exact kit_ref e4NoPick e3NoPick s_NoRoad_NoPick (.inl ne_NoRoad_NoPick)
    · exact kit_ref e4NoPick e3NoPick s_NoSteps_NoPick (.inl ne_NoSteps_NoPick)
    · exact kit_ref e4NoPick e3NoPick s_NoPick_NoPick (.inr rfl)
    · exact kit_ref e4NoPick e3NoPick s_NoSum_NoPick (.inl ne_NoSum_NoPick)
    · exact kit_ref e4NoPick e3NoPick s_NoWay_NoPick (.inl ne_NoWay_NoPick)
    · exact kit_ref e4NoSum e3NoSum s_SumError_NoSum (.inl ne_SumError_NoSum)
    · exact kit_ref e4NoSum e3NoSum s_NoNet_NoSum (.inl ne_NoNet_NoSum)
    · exact kit_ref e4NoSum e3NoSum s_NoWorth_NoSum (.inl ne_NoWorth_NoSum)
    · exact kit_ref e4NoSum e3NoSum s_NoPlace_NoSum (.inl ne_NoPlace_NoSum)
    · exact kit_ref e4NoSum e3NoSum s_NoRoad_NoSum (.inl ne_NoRoad_NoSum)
    · exact kit_ref e4NoSum e3NoSum s_NoSteps_NoSum (.inl ne_NoSteps_NoSum)
    · exact kit_ref e4NoSum e3NoSum s_NoPick_NoSum (.inl ne_NoPick_NoSum)
    · exact kit_ref e4NoSum e3NoSum s_NoSum_NoSum (.inr rfl)
    · exact kit_ref e4NoSum e3NoSum s_NoWay_NoSum (.inl ne_NoWay_NoSum)
    · exact kit_ref e4NoWay e3NoWay s_SumError_NoWay (.inl ne_SumError_NoWay)
    · exact kit_ref e4NoWay e3NoWay s_NoNet_NoWay (.inl ne_NoNet_NoWay)
    · exact kit_ref e4NoWay e3NoWay s_NoWorth_NoWay (.inl ne_NoWorth_NoWay)
    · exact kit_ref e4NoWay e3NoWay s_NoPlace_NoWay (.inl ne_NoPlace_NoWay)
    · exact kit_ref e4NoWay e3NoWay s_NoRoad_NoWay (.inl ne_NoRoad_NoWay)
    · exact kit_ref e4NoWay e3NoWay s_NoSteps_NoWay (.inl ne_NoSteps_NoWay)
    · exact kit_ref e4NoWay e3NoWay s_NoPick_NoWay (.inl ne_NoPick_NoWay)
    · exact kit_ref e4NoWay e3NoWay s_NoSum_NoWay (.inl ne_NoSum_NoWay)
    · exact kit_ref e4NoWay e3NoWay s_NoWay_NoWay (.inr rfl)
    · exact kit_ref e4SumError e3SumError s_SumError_SumError (.inr rfl)
    · exact kit_ref e4SumError e3SumError s_NoNet_SumError (.inr rfl)
    · exact kit_ref e4SumError e3SumError s_NoWorth_SumError (.inr rfl)
    · exact kit_ref e4SumError e3SumError s_NoPlace_SumError (.inr rfl)
    · exact kit_ref e4SumError e3SumError s_NoRoad_SumError (.inr rfl)
    · exact kit_ref e4SumError e3SumError s_NoSteps_SumError (.inr rfl)
    · exact kit_ref e4SumError e3SumError s_NoPick_SumError (.inr rfl)
    · exact kit_ref e4SumError e3SumError s_NoSum_SumError (.inr rfl)
    · exact kit_ref e4SumError e3SumError s_NoWay_SumError (.inr rfl)
    · exact exm_of_kit e2SumError e4SumError e3SumError s_SumError_SumError
    · exact exm_of_kit e2SumError e4SumError e3SumError s_NoNet_SumError
    · exact exm_of_kit e2SumError e4SumError e3SumError s_NoWorth_SumError
    · exact exm_of_kit e2SumError e4SumError e3SumError s_NoPlace_SumError
    · exact exm_of_kit e2SumError e4SumError e3SumError s_NoRoad_SumError
    · exact exm_of_kit e2SumError e4SumError e3SumError s_NoSteps_SumError
    · exact exm_of_kit e2SumError e4SumError e3SumError s_NoPick_SumError
    · exact exm_of_kit e2SumError e4SumError e3SumError s_NoSum_SumError
    · exact exm_of_kit e2SumError e4SumError e3SumError s_NoWay_SumError
    · exact kit_val v_SumError
    · exact kit_val v_NoNet
    · exact kit_val v_NoWorth
    · exact kit_val v_NoPlace
    · exact kit_val v_NoRoad
    · exact kit_val v_NoSteps
    · exact kit_val v_NoPick
    · exact kit_val v_NoSum
    · exact kit_val v_NoWay
    · exact at_Net_many
    · exact at_Net_rows
    · exact at_Net_sort_of
    · exact at_Rests_m
    · exact PySem.W.mg_none_of X G n_len
    · exact PySem.W.mg_none_of X G n_range
    · exact PySem.W.mg_none_of X G n_isinstance
    · exact PySem.W.mg_none_of X G n_min
    · exact PySem.W.mg_none_of X G n_max
    · exact PySem.W.mg_none_of X G n_list
    · exact PySem.W.mg_none_of X G n_reversed
    · exact PySem.W.mg_none_of X G n_tuple
    · exact PySem.W.mg_none_of X G n_int
    · exact PySem.W.mg_none_of X G n_ValueError
    · exact ⟨_, PySem.W.mg_of X G n_WIDEST, ⟨_, rfl⟩⟩
    · exact ⟨_, PySem.W.mg_of X G n_MOST_PLACES, ⟨_, rfl⟩⟩
    · exact ⟨_, PySem.W.mg_of X G n_MOST_ROADS, ⟨_, rfl⟩⟩
    · exact ⟨_, PySem.W.mg_of X G n_MOST_STEPS, ⟨_, rfl⟩⟩
    · exact hn
    · exact ht
  exact ⟨PySem.W.fnOf "law" "law" (defArgs s_law) (defBody s_law) (defScope s_law) .none kV_law dc_law pm_law an_law cd_law ct_law, fun s v => .of_eq rfl, fun base _ _ => ok_law TT (fun_mk (st := s_law) l_law c_law k_law)⟩
theorem walk {l : PySem.W.OpenLaw} {q : Program} {loose : List Str} {XP : (Str → Option Value) → Heap → Prop} {YP : World → Heap → Prop} {d : DefRec} {K : Params → PySem.W.Frag} (hn : l.most = some 63) (hdf : d.params.defaults = [])
    (hY : ∀ (w : World) (h : Heap), YP w h → (K w.params).In h)
    (F : ∀ (w : World) (mg : Str → Option Value) (fa : Addr) (h : Heap), (K w.params).In h → h.Ns mainGlobals mg → mg d.name = some (.ref fa) →
      ∃ fd : FuncData, (∀ (s : Shared) (u : Value), BindsTo s fd ⟨[u], []⟩ [("script", u)]) ∧ ∀ base : Heap, (K w.params).In base → base.Ns mainGlobals mg → FnOk l.prog w (K w.params) mg base CX0 20 fa fd ["script"] (spLaw (K w.params))) :
    PySem.W.WalkO q loose XP YP l.row.toRowW d [] (fun f vs => PySem.call f vs) :=
  L2.walk_of (n := 63) (k := 20) (x := "script") (CX := fun _ => CX0) (sp := fun w => spLaw (K w.params)) hn (by decide) hdf ⟨rfl, by decide, by decide⟩ hY F (fun _ _ a ns hl _ hS => ⟨a, ns, rfl, hS, hl, fun _ => rfl⟩) fun _ _ _ _ _ z => z
end Ws
open PySem PySem.W PyProof.Rows in
open_top whead for PySem.Challenge.rw_waysum_k15_each_refusal_its_own
open PySem PySem.W PyProof.Rows in
set_option maxRecDepth 100000 in
set_option maxHeartbeats 0 in
theorem PySem.Challenge.cw_waysum_k15_each_refusal_its_own_holds : PySem.Challenge.rw_waysum_k15_each_refusal_its_own.Holds := by
  refine whead ?_
  k_fill
  refine Ws.walk (l := PySem.Challenge.rw_waysum_k15_each_refusal_its_own) rfl rfl (fun w h Y => PySem.W.kIn_of Y) ?F
  case F =>
    intro w mg fa h KX G hmg
    refine' Ws.fin KX G hmg ?g_SumError ?g_NoNet ?g_NoWorth ?g_NoPlace ?g_NoRoad ?g_NoSteps ?g_NoPick ?g_NoSum ?g_NoWay ?g_Kind ?g_Fewest ?g_Widest ?g_Counted ?g_Likeliest ?g_Chances ?g_Musts ?g_Rests ?g_Net ?a_common ?l_common ?c_common ?k_common ?a_lowest ?l_lowest ?c_lowest ?k_lowest ?a_is_share ?l_is_share ?c_is_share ?k_is_share ?a_added ?l_added ?c_added ?k_added ?a_taken ?l_taken ?c_taken ?k_taken ?a_less ?l_less ?c_less ?k_less ?a_worth_of ?l_worth_of ?c_worth_of ?k_worth_of ?a_by_steps ?l_by_steps ?c_by_steps ?k_by_steps ?a_straight ?l_straight ?c_straight ?k_straight ?a_through ?l_through ?c_through ?k_through ?a_table ?l_table ?c_table ?k_table ?a_total ?l_total ?c_total ?k_total ?a_without ?l_without ?c_without ?k_without ?a_spread ?l_spread ?c_spread ?k_spread ?a_way_for ?l_way_for ?c_way_for ?k_way_for ?a__law_cell_at ?l__law_cell_at ?c__law_cell_at ?k__law_cell_at ?a__law_which ?l__law_which ?c__law_which ?k__law_which ?a__law_no_net ?l__law_no_net ?c__law_no_net ?k__law_no_net ?a__law_no_worth ?l__law_no_worth ?c__law_no_worth ?k__law_no_worth ?a__law_no_place ?l__law_no_place ?c__law_no_place ?k__law_no_place ?a__law_no_sum ?l__law_no_sum ?c__law_no_sum ?k__law_no_sum ?a__law_done ?l__law_done ?c__law_done ?k__law_done ?a_law ?l_law ?c_law ?k_law ?p1Kind ?p2Kind ?p3Kind ?p4Kind ?q1Kind ?q2Kind ?q3Kind ?q4Kind ?q5Kind ?p1Fewest ?p2Fewest ?p3Fewest ?p4Fewest ?q1Fewest ?q2Fewest ?q3Fewest ?q4Fewest ?q5Fewest ?p1Widest ?p2Widest ?p3Widest ?p4Widest ?q1Widest ?q2Widest ?q3Widest ?q4Widest ?q5Widest ?p1Counted ?p2Counted ?p3Counted ?p4Counted ?q1Counted ?q2Counted ?q3Counted ?q4Counted ?q5Counted ?p1Likeliest ?p2Likeliest ?p3Likeliest ?p4Likeliest ?q1Likeliest ?q2Likeliest ?q3Likeliest ?q4Likeliest ?q5Likeliest ?p1Chances ?p2Chances ?p3Chances ?p4Chances ?q1Chances ?q2Chances ?q3Chances ?q4Chances ?q5Chances ?p1Musts ?p2Musts ?p3Musts ?p4Musts ?q1Musts ?q2Musts ?q3Musts ?q4Musts ?q5Musts ?p1Rests ?p2Rests ?p3Rests ?p4Rests ?q1Rests ?q2Rests ?q3Rests ?q4Rests ?p1Net ?p2Net ?p3Net ?p4Net ?q1Net ?q2Net ?q3Net ?q4Net ?a_Kind_picks ?i_Kind_picks ?l_Kind_picks ?c_Kind_picks ?k_Kind_picks ?a_Fewest_picks ?i_Fewest_picks ?l_Fewest_picks ?c_Fewest_picks ?k_Fewest_picks ?a_Fewest_none ?i_Fewest_none ?l_Fewest_none ?c_Fewest_none ?k_Fewest_none ?a_Fewest_rest ?i_Fewest_rest ?l_Fewest_rest ?c_Fewest_rest ?k_Fewest_rest ?a_Fewest_is_worth ?i_Fewest_is_worth ?l_Fewest_is_worth ?c_Fewest_is_worth ?k_Fewest_is_worth ?a_Fewest_together ?i_Fewest_together ?l_Fewest_together ?c_Fewest_together ?k_Fewest_together ?a_Fewest_behind ?i_Fewest_behind ?l_Fewest_behind ?c_Fewest_behind ?k_Fewest_behind ?a_Fewest_rounds ?i_Fewest_rounds ?l_Fewest_rounds ?c_Fewest_rounds ?k_Fewest_rounds ?a_Widest_picks ?i_Widest_picks ?l_Widest_picks ?c_Widest_picks ?k_Widest_picks ?a_Widest_none ?i_Widest_none ?l_Widest_none ?c_Widest_none ?k_Widest_none ?a_Widest_rest ?i_Widest_rest ?l_Widest_rest ?c_Widest_rest ?k_Widest_rest ?a_Widest_is_worth ?i_Widest_is_worth ?l_Widest_is_worth ?c_Widest_is_worth ?k_Widest_is_worth ?a_Widest_together ?i_Widest_together ?l_Widest_together ?c_Widest_together ?k_Widest_together ?a_Widest_behind ?i_Widest_behind ?l_Widest_behind ?c_Widest_behind ?k_Widest_behind ?a_Widest_rounds ?i_Widest_rounds ?l_Widest_rounds ?c_Widest_rounds ?k_Widest_rounds ?a_Counted_none ?i_Counted_none ?l_Counted_none ?c_Counted_none ?k_Counted_none ?a_Counted_rest ?i_Counted_rest ?l_Counted_rest ?c_Counted_rest ?k_Counted_rest ?a_Counted_is_worth ?i_Counted_is_worth ?l_Counted_is_worth ?c_Counted_is_worth ?k_Counted_is_worth ?a_Counted_together ?i_Counted_together ?l_Counted_together ?c_Counted_together ?k_Counted_together ?a_Counted_behind ?i_Counted_behind ?l_Counted_behind ?c_Counted_behind ?k_Counted_behind ?a_Counted_rounds ?i_Counted_rounds ?l_Counted_rounds ?c_Counted_rounds ?k_Counted_rounds ?a_Likeliest_picks ?i_Likeliest_picks ?l_Likeliest_picks ?c_Likeliest_picks ?k_Likeliest_picks ?a_Likeliest_none ?i_Likeliest_none ?l_Likeliest_none ?c_Likeliest_none ?k_Likeliest_none ?a_Likeliest_rest ?i_Likeliest_rest ?l_Likeliest_rest ?c_Likeliest_rest ?k_Likeliest_rest ?a_Likeliest_is_worth ?i_Likeliest_is_worth ?l_Likeliest_is_worth ?c_Likeliest_is_worth ?k_Likeliest_is_worth ?a_Likeliest_together ?i_Likeliest_together ?l_Likeliest_together ?c_Likeliest_together ?k_Likeliest_together ?a_Likeliest_behind ?i_Likeliest_behind ?l_Likeliest_behind ?c_Likeliest_behind ?k_Likeliest_behind ?a_Likeliest_rounds ?i_Likeliest_rounds ?l_Likeliest_rounds ?c_Likeliest_rounds ?k_Likeliest_rounds ?a_Chances_none ?i_Chances_none ?l_Chances_none ?c_Chances_none ?k_Chances_none ?a_Chances_rest ?i_Chances_rest ?l_Chances_rest ?c_Chances_rest ?k_Chances_rest ?a_Chances_is_worth ?i_Chances_is_worth ?l_Chances_is_worth ?c_Chances_is_worth ?k_Chances_is_worth ?a_Chances_together ?i_Chances_together ?l_Chances_together ?c_Chances_together ?k_Chances_together ?a_Chances_behind ?i_Chances_behind ?l_Chances_behind ?c_Chances_behind ?k_Chances_behind ?a_Chances_rounds ?i_Chances_rounds ?l_Chances_rounds ?c_Chances_rounds ?k_Chances_rounds ?a_Musts_none ?i_Musts_none ?l_Musts_none ?c_Musts_none ?k_Musts_none ?a_Musts_rest ?i_Musts_rest ?l_Musts_rest ?c_Musts_rest ?k_Musts_rest ?a_Musts_is_worth ?i_Musts_is_worth ?l_Musts_is_worth ?c_Musts_is_worth ?k_Musts_is_worth ?a_Musts_together ?i_Musts_together ?l_Musts_together ?c_Musts_together ?k_Musts_together ?a_Musts_behind ?i_Musts_behind ?l_Musts_behind ?c_Musts_behind ?k_Musts_behind ?a_Musts_rounds ?i_Musts_rounds ?l_Musts_rounds ?c_Musts_rounds ?k_Musts_rounds ?a_Rests___init__ ?i_Rests___init__ ?l_Rests___init__ ?c_Rests___init__ ?k_Rests___init__ ?a_Rests_none ?i_Rests_none ?l_Rests_none ?c_Rests_none ?k_Rests_none ?a_Rests_rest ?i_Rests_rest ?l_Rests_rest ?c_Rests_rest ?k_Rests_rest ?a_Rests_is_worth ?i_Rests_is_worth ?l_Rests_is_worth ?c_Rests_is_worth ?k_Rests_is_worth ?a_Rests_together ?i_Rests_together ?l_Rests_together ?c_Rests_together ?k_Rests_together ?a_Rests_behind ?i_Rests_behind ?l_Rests_behind ?c_Rests_behind ?k_Rests_behind ?a_Rests_rounds ?i_Rests_rounds ?l_Rests_rounds ?c_Rests_rounds ?k_Rests_rounds ?a_Net___init__ ?i_Net___init__ ?l_Net___init__ ?c_Net___init__ ?k_Net___init__ ?a_Net_ask_shares ?i_Net_ask_shares ?l_Net_ask_shares ?c_Net_ask_shares ?k_Net_ask_shares ?a_Net_ask ?i_Net_ask ?l_Net_ask ?c_Net_ask ?k_Net_ask ?a_Net_kind ?i_Net_kind ?l_Net_kind ?c_Net_kind ?k_Net_kind ?a_Net_places ?i_Net_places ?l_Net_places ?c_Net_places ?k_Net_places ?a_Net_roads ?i_Net_roads ?l_Net_roads ?c_Net_roads ?k_Net_roads ?a_Counted_picks ?i_Counted_picks ?l_Counted_picks ?c_Counted_picks ?k_Counted_picks ?a_Chances_picks ?i_Chances_picks ?l_Chances_picks ?c_Chances_picks ?k_Chances_picks ?a_Musts_picks ?i_Musts_picks ?l_Musts_picks ?c_Musts_picks ?k_Musts_picks ?a_Rests_picks ?i_Rests_picks ?l_Rests_picks ?c_Rests_picks ?k_Rests_picks ?e0SumError ?e1SumError ?e2SumError ?e3SumError ?e4SumError ?e5SumError ?e6SumError ?e7SumError ?e8SumError ?e9SumError ?e0NoNet ?e1NoNet ?e2NoNet ?e3NoNet ?e4NoNet ?e5NoNet ?e6NoNet ?e7NoNet ?e8NoNet ?e9NoNet ?e0NoWorth ?e1NoWorth ?e2NoWorth ?e3NoWorth ?e4NoWorth ?e5NoWorth ?e6NoWorth ?e7NoWorth ?e8NoWorth ?e9NoWorth ?e0NoPlace ?e1NoPlace ?e2NoPlace ?e3NoPlace ?e4NoPlace ?e5NoPlace ?e6NoPlace ?e7NoPlace ?e8NoPlace ?e9NoPlace ?e0NoRoad ?e1NoRoad ?e2NoRoad ?e3NoRoad ?e4NoRoad ?e5NoRoad ?e6NoRoad ?e7NoRoad ?e8NoRoad ?e9NoRoad ?e0NoSteps ?e1NoSteps ?e2NoSteps ?e3NoSteps ?e4NoSteps ?e5NoSteps ?e6NoSteps ?e7NoSteps ?e8NoSteps ?e9NoSteps ?e0NoPick ?e1NoPick ?e2NoPick ?e3NoPick ?e4NoPick ?e5NoPick ?e6NoPick ?e7NoPick ?e8NoPick ?e9NoPick ?e0NoSum ?e1NoSum ?e2NoSum ?e3NoSum ?e4NoSum ?e5NoSum ?e6NoSum ?e7NoSum ?e8NoSum ?e9NoSum ?e0NoWay ?e1NoWay ?e2NoWay ?e3NoWay ?e4NoWay ?e5NoWay ?e6NoWay ?e7NoWay ?e8NoWay ?e9NoWay ?r1Chances ?r2Chances ?s_Fewest_Chances ?ne_Fewest_Chances ?s_Widest_Chances ?ne_Widest_Chances ?s_Counted_Chances ?ne_Counted_Chances ?s_Likeliest_Chances ?ne_Likeliest_Chances ?s_Chances_Chances ?s_Musts_Chances ?ne_Musts_Chances ?s_Rests_Chances ?ne_Rests_Chances ?s_SumError_NoNet ?ne_SumError_NoNet ?s_NoNet_NoNet ?s_NoWorth_NoNet ?ne_NoWorth_NoNet ?s_NoPlace_NoNet ?ne_NoPlace_NoNet ?s_NoRoad_NoNet ?ne_NoRoad_NoNet ?s_NoSteps_NoNet ?ne_NoSteps_NoNet ?s_NoPick_NoNet ?ne_NoPick_NoNet ?s_NoSum_NoNet ?ne_NoSum_NoNet ?s_NoWay_NoNet ?ne_NoWay_NoNet ?s_SumError_NoWorth ?ne_SumError_NoWorth ?s_NoNet_NoWorth ?ne_NoNet_NoWorth ?s_NoWorth_NoWorth ?s_NoPlace_NoWorth ?ne_NoPlace_NoWorth ?s_NoRoad_NoWorth ?ne_NoRoad_NoWorth ?s_NoSteps_NoWorth ?ne_NoSteps_NoWorth ?s_NoPick_NoWorth ?ne_NoPick_NoWorth ?s_NoSum_NoWorth ?ne_NoSum_NoWorth ?s_NoWay_NoWorth ?ne_NoWay_NoWorth ?s_SumError_NoPlace ?ne_SumError_NoPlace ?s_NoNet_NoPlace ?ne_NoNet_NoPlace ?s_NoWorth_NoPlace ?ne_NoWorth_NoPlace ?s_NoPlace_NoPlace ?s_NoRoad_NoPlace ?ne_NoRoad_NoPlace ?s_NoSteps_NoPlace ?ne_NoSteps_NoPlace ?s_NoPick_NoPlace ?ne_NoPick_NoPlace ?s_NoSum_NoPlace ?ne_NoSum_NoPlace ?s_NoWay_NoPlace ?ne_NoWay_NoPlace ?s_SumError_NoRoad ?ne_SumError_NoRoad ?s_NoNet_NoRoad ?ne_NoNet_NoRoad ?s_NoWorth_NoRoad ?ne_NoWorth_NoRoad ?s_NoPlace_NoRoad ?ne_NoPlace_NoRoad ?s_NoRoad_NoRoad ?s_NoSteps_NoRoad ?ne_NoSteps_NoRoad ?s_NoPick_NoRoad ?ne_NoPick_NoRoad ?s_NoSum_NoRoad ?ne_NoSum_NoRoad ?s_NoWay_NoRoad ?ne_NoWay_NoRoad ?s_SumError_NoSteps ?ne_SumError_NoSteps ?s_NoNet_NoSteps ?ne_NoNet_NoSteps ?s_NoWorth_NoSteps ?ne_NoWorth_NoSteps ?s_NoPlace_NoSteps ?ne_NoPlace_NoSteps ?s_NoRoad_NoSteps ?ne_NoRoad_NoSteps ?s_NoSteps_NoSteps ?s_NoPick_NoSteps ?ne_NoPick_NoSteps ?s_NoSum_NoSteps ?ne_NoSum_NoSteps ?s_NoWay_NoSteps ?ne_NoWay_NoSteps ?s_SumError_NoPick ?ne_SumError_NoPick ?s_NoNet_NoPick ?ne_NoNet_NoPick ?s_NoWorth_NoPick ?ne_NoWorth_NoPick ?s_NoPlace_NoPick ?ne_NoPlace_NoPick ?s_NoRoad_NoPick ?ne_NoRoad_NoPick ?s_NoSteps_NoPick ?ne_NoSteps_NoPick ?s_NoPick_NoPick ?s_NoSum_NoPick ?ne_NoSum_NoPick ?s_NoWay_NoPick ?ne_NoWay_NoPick ?s_SumError_NoSum ?ne_SumError_NoSum ?s_NoNet_NoSum ?ne_NoNet_NoSum ?s_NoWorth_NoSum ?ne_NoWorth_NoSum ?s_NoPlace_NoSum ?ne_NoPlace_NoSum ?s_NoRoad_NoSum ?ne_NoRoad_NoSum ?s_NoSteps_NoSum ?ne_NoSteps_NoSum ?s_NoPick_NoSum ?ne_NoPick_NoSum ?s_NoSum_NoSum ?s_NoWay_NoSum ?ne_NoWay_NoSum ?s_SumError_NoWay ?ne_SumError_NoWay ?s_NoNet_NoWay ?ne_NoNet_NoWay ?s_NoWorth_NoWay ?ne_NoWorth_NoWay ?s_NoPlace_NoWay ?ne_NoPlace_NoWay ?s_NoRoad_NoWay ?ne_NoRoad_NoWay ?s_NoSteps_NoWay ?ne_NoSteps_NoWay ?s_NoPick_NoWay ?ne_NoPick_NoWay ?s_NoSum_NoWay ?ne_NoSum_NoWay ?s_NoWay_NoWay ?s_SumError_SumError ?s_NoNet_SumError ?s_NoWorth_SumError ?s_NoPlace_SumError ?s_NoRoad_SumError ?s_NoSteps_SumError ?s_NoPick_SumError ?s_NoSum_SumError ?s_NoWay_SumError ?v_SumError ?v_NoNet ?v_NoWorth ?v_NoPlace ?v_NoRoad ?v_NoSteps ?v_NoPick ?v_NoSum ?v_NoWay ?at_Net_many ?at_Net_rows ?at_Net_sort_of ?at_Rests_m ?n_len ?n_range ?n_isinstance ?n_min ?n_max ?n_list ?n_reversed ?n_tuple ?n_int ?n_ValueError ?n_WIDEST ?n_MOST_PLACES ?n_MOST_ROADS ?n_MOST_STEPS ?hn ?ht
    (case g_SumError => k_is)
    (case g_NoNet => k_is)
    (case g_NoWorth => k_is)
    (case g_NoPlace => k_is)
    (case g_NoRoad => k_is)
    (case g_NoSteps => k_is)
    (case g_NoPick => k_is)
    (case g_NoSum => k_is)
    (case g_NoWay => k_is)
    (case g_Kind => k_is)
    (case g_Fewest => k_is)
    (case g_Widest => k_is)
    (case g_Counted => k_is)
    (case g_Likeliest => k_is)
    (case g_Chances => k_is)
    (case g_Musts => k_is)
    (case g_Rests => k_is)
    (case g_Net => k_is)
    (case a_common => k_is)
    (case l_common => k_is)
    (case c_common => k_is)
    (case k_common => k_is)
    (case a_lowest => k_is)
    (case l_lowest => k_is)
    (case c_lowest => k_is)
    (case k_lowest => k_is)
    (case a_is_share => k_is)
    (case l_is_share => k_is)
    (case c_is_share => k_is)
    (case k_is_share => k_is)
    (case a_added => k_is)
    (case l_added => k_is)
    (case c_added => k_is)
    (case k_added => k_is)
    (case a_taken => k_is)
    (case l_taken => k_is)
    (case c_taken => k_is)
    (case k_taken => k_is)
    (case a_less => k_is)
    (case l_less => k_is)
    (case c_less => k_is)
    (case k_less => k_is)
    (case a_worth_of => k_is)
    (case l_worth_of => k_is)
    (case c_worth_of => k_is)
    (case k_worth_of => k_is)
    (case a_by_steps => k_is)
    (case l_by_steps => k_is)
    (case c_by_steps => k_is)
    (case k_by_steps => k_is)
    (case a_straight => k_is)
    (case l_straight => k_is)
    (case c_straight => k_is)
    (case k_straight => k_is)
    (case a_through => k_is)
    (case l_through => k_is)
    (case c_through => k_is)
    (case k_through => k_is)
    (case a_table => k_is)
    (case l_table => k_is)
    (case c_table => k_is)
    (case k_table => k_is)
    (case a_total => k_is)
    (case l_total => k_is)
    (case c_total => k_is)
    (case k_total => k_is)
    (case a_without => k_is)
    (case l_without => k_is)
    (case c_without => k_is)
    (case k_without => k_is)
    (case a_spread => k_is)
    (case l_spread => k_is)
    (case c_spread => k_is)
    (case k_spread => k_is)
    (case a_way_for => k_is)
    (case l_way_for => k_is)
    (case c_way_for => k_is)
    (case k_way_for => k_is)
    (case a__law_cell_at => k_is)
    (case l__law_cell_at => k_is)
    (case c__law_cell_at => k_is)
    (case k__law_cell_at => k_is)
    (case a__law_which => k_is)
    (case l__law_which => k_is)
    (case c__law_which => k_is)
    (case k__law_which => k_is)
    (case a__law_no_net => k_is)
    (case l__law_no_net => k_is)
    (case c__law_no_net => k_is)
    (case k__law_no_net => k_is)
    (case a__law_no_worth => k_is)
    (case l__law_no_worth => k_is)
    (case c__law_no_worth => k_is)
    (case k__law_no_worth => k_is)
    (case a__law_no_place => k_is)
    (case l__law_no_place => k_is)
    (case c__law_no_place => k_is)
    (case k__law_no_place => k_is)
    (case a__law_no_sum => k_is)
    (case l__law_no_sum => k_is)
    (case c__law_no_sum => k_is)
    (case k__law_no_sum => k_is)
    (case a__law_done => k_is)
    (case l__law_done => k_is)
    (case c__law_done => k_is)
    (case k__law_done => k_is)
    (case a_law => k_is)
    (case l_law => k_is)
    (case c_law => k_is)
    (case k_law => k_is)
    (case p1Kind => k_is)
    (case p2Kind => k_is)
    (case p3Kind => k_is)
    (case p4Kind => k_is)
    (case q1Kind => k_is)
    (case q2Kind => k_is)
    (case q3Kind => k_is)
    (case q4Kind => k_is)
    (case q5Kind => k_is)
    (case p1Fewest => k_is)
    (case p2Fewest => k_is)
    (case p3Fewest => k_is)
    (case p4Fewest => k_is)
    (case q1Fewest => k_is)
    (case q2Fewest => k_is)
    (case q3Fewest => k_is)
    (case q4Fewest => k_is)
    (case q5Fewest => k_is)
    (case p1Widest => k_is)
    (case p2Widest => k_is)
    (case p3Widest => k_is)
    (case p4Widest => k_is)
    (case q1Widest => k_is)
    (case q2Widest => k_is)
    (case q3Widest => k_is)
    (case q4Widest => k_is)
    (case q5Widest => k_is)
    (case p1Counted => k_is)
    (case p2Counted => k_is)
    (case p3Counted => k_is)
    (case p4Counted => k_is)
    (case q1Counted => k_is)
    (case q2Counted => k_is)
    (case q3Counted => k_is)
    (case q4Counted => k_is)
    (case q5Counted => k_is)
    (case p1Likeliest => k_is)
    (case p2Likeliest => k_is)
    (case p3Likeliest => k_is)
    (case p4Likeliest => k_is)
    (case q1Likeliest => k_is)
    (case q2Likeliest => k_is)
    (case q3Likeliest => k_is)
    (case q4Likeliest => k_is)
    (case q5Likeliest => k_is)
    (case p1Chances => k_is)
    (case p2Chances => k_is)
    (case p3Chances => k_is)
    (case p4Chances => k_is)
    (case q1Chances => k_is)
    (case q2Chances => k_is)
    (case q3Chances => k_is)
    (case q4Chances => k_is)
    (case q5Chances => k_is)
    (case p1Musts => k_is)
    (case p2Musts => k_is)
    (case p3Musts => k_is)
    (case p4Musts => k_is)
    (case q1Musts => k_is)
    (case q2Musts => k_is)
    (case q3Musts => k_is)
    (case q4Musts => k_is)
    (case q5Musts => k_is)
    (case p1Rests => k_is)
    (case p2Rests => k_is)
    (case p3Rests => k_is)
    (case p4Rests => k_is)
    (case q1Rests => k_is)
    (case q2Rests => k_is)
    (case q3Rests => k_is)
    (case q4Rests => k_is)
    (case p1Net => k_is)
    (case p2Net => k_is)
    (case p3Net => k_is)
    (case p4Net => k_is)
    (case q1Net => k_is)
    (case q2Net => k_is)
    (case q3Net => k_is)
    (case q4Net => k_is)
    (case a_Kind_picks => k_is)
    (case i_Kind_picks => k_is)
    (case l_Kind_picks => k_is)
    (case c_Kind_picks => k_is)
    (case k_Kind_picks => k_is)
    (case a_Fewest_picks => k_is)
    (case i_Fewest_picks => k_is)
    (case l_Fewest_picks => k_is)
    (case c_Fewest_picks => k_is)
    (case k_Fewest_picks => k_is)
    (case a_Fewest_none => k_is)
    (case i_Fewest_none => k_is)
    (case l_Fewest_none => k_is)
    (case c_Fewest_none => k_is)
    (case k_Fewest_none => k_is)
    (case a_Fewest_rest => k_is)
    (case i_Fewest_rest => k_is)
    (case l_Fewest_rest => k_is)
    (case c_Fewest_rest => k_is)
    (case k_Fewest_rest => k_is)
    (case a_Fewest_is_worth => k_is)
    (case i_Fewest_is_worth => k_is)
    (case l_Fewest_is_worth => k_is)
    (case c_Fewest_is_worth => k_is)
    (case k_Fewest_is_worth => k_is)
    (case a_Fewest_together => k_is)
    (case i_Fewest_together => k_is)
    (case l_Fewest_together => k_is)
    (case c_Fewest_together => k_is)
    (case k_Fewest_together => k_is)
    (case a_Fewest_behind => k_is)
    (case i_Fewest_behind => k_is)
    (case l_Fewest_behind => k_is)
    (case c_Fewest_behind => k_is)
    (case k_Fewest_behind => k_is)
    (case a_Fewest_rounds => k_is)
    (case i_Fewest_rounds => k_is)
    (case l_Fewest_rounds => k_is)
    (case c_Fewest_rounds => k_is)
    (case k_Fewest_rounds => k_is)
    (case a_Widest_picks => k_is)
    (case i_Widest_picks => k_is)
    (case l_Widest_picks => k_is)
    (case c_Widest_picks => k_is)
    (case k_Widest_picks => k_is)
    (case a_Widest_none => k_is)
    (case i_Widest_none => k_is)
    (case l_Widest_none => k_is)
    (case c_Widest_none => k_is)
    (case k_Widest_none => k_is)
    (case a_Widest_rest => k_is)
    (case i_Widest_rest => k_is)
    (case l_Widest_rest => k_is)
    (case c_Widest_rest => k_is)
    (case k_Widest_rest => k_is)
    (case a_Widest_is_worth => k_is)
    (case i_Widest_is_worth => k_is)
    (case l_Widest_is_worth => k_is)
    (case c_Widest_is_worth => k_is)
    (case k_Widest_is_worth => k_is)
    (case a_Widest_together => k_is)
    (case i_Widest_together => k_is)
    (case l_Widest_together => k_is)
    (case c_Widest_together => k_is)
    (case k_Widest_together => k_is)
    (case a_Widest_behind => k_is)
    (case i_Widest_behind => k_is)
    (case l_Widest_behind => k_is)
    (case c_Widest_behind => k_is)
    (case k_Widest_behind => k_is)
    (case a_Widest_rounds => k_is)
    (case i_Widest_rounds => k_is)
    (case l_Widest_rounds => k_is)
    (case c_Widest_rounds => k_is)
    (case k_Widest_rounds => k_is)
    (case a_Counted_none => k_is)
    (case i_Counted_none => k_is)
    (case l_Counted_none => k_is)
    (case c_Counted_none => k_is)
    (case k_Counted_none => k_is)
    (case a_Counted_rest => k_is)
    (case i_Counted_rest => k_is)
    (case l_Counted_rest => k_is)
    (case c_Counted_rest => k_is)
    (case k_Counted_rest => k_is)
    (case a_Counted_is_worth => k_is)
    (case i_Counted_is_worth => k_is)
    (case l_Counted_is_worth => k_is)
    (case c_Counted_is_worth => k_is)
    (case k_Counted_is_worth => k_is)
    (case a_Counted_together => k_is)
    (case i_Counted_together => k_is)
    (case l_Counted_together => k_is)
    (case c_Counted_together => k_is)
    (case k_Counted_together => k_is)
    (case a_Counted_behind => k_is)
    (case i_Counted_behind => k_is)
    (case l_Counted_behind => k_is)
    (case c_Counted_behind => k_is)
    (case k_Counted_behind => k_is)
    (case a_Counted_rounds => k_is)
    (case i_Counted_rounds => k_is)
    (case l_Counted_rounds => k_is)
    (case c_Counted_rounds => k_is)
    (case k_Counted_rounds => k_is)
    (case a_Likeliest_picks => k_is)
    (case i_Likeliest_picks => k_is)
    (case l_Likeliest_picks => k_is)
    (case c_Likeliest_picks => k_is)
    (case k_Likeliest_picks => k_is)
    (case a_Likeliest_none => k_is)
    (case i_Likeliest_none => k_is)
    (case l_Likeliest_none => k_is)
    (case c_Likeliest_none => k_is)
    (case k_Likeliest_none => k_is)
    (case a_Likeliest_rest => k_is)
    (case i_Likeliest_rest => k_is)
    (case l_Likeliest_rest => k_is)
    (case c_Likeliest_rest => k_is)
    (case k_Likeliest_rest => k_is)
    (case a_Likeliest_is_worth => k_is)
    (case i_Likeliest_is_worth => k_is)
    (case l_Likeliest_is_worth => k_is)
    (case c_Likeliest_is_worth => k_is)
    (case k_Likeliest_is_worth => k_is)
    (case a_Likeliest_together => k_is)
    (case i_Likeliest_together => k_is)
    (case l_Likeliest_together => k_is)
    (case c_Likeliest_together => k_is)
    (case k_Likeliest_together => k_is)
    (case a_Likeliest_behind => k_is)
    (case i_Likeliest_behind => k_is)
    (case l_Likeliest_behind => k_is)
    (case c_Likeliest_behind => k_is)
    (case k_Likeliest_behind => k_is)
    (case a_Likeliest_rounds => k_is)
    (case i_Likeliest_rounds => k_is)
    (case l_Likeliest_rounds => k_is)
    (case c_Likeliest_rounds => k_is)
    (case k_Likeliest_rounds => k_is)
    (case a_Chances_none => k_is)
    (case i_Chances_none => k_is)
    (case l_Chances_none => k_is)
    (case c_Chances_none => k_is)
    (case k_Chances_none => k_is)
    (case a_Chances_rest => k_is)
    (case i_Chances_rest => k_is)
    (case l_Chances_rest => k_is)
    (case c_Chances_rest => k_is)
    (case k_Chances_rest => k_is)
    (case a_Chances_is_worth => k_is)
    (case i_Chances_is_worth => k_is)
    (case l_Chances_is_worth => k_is)
    (case c_Chances_is_worth => k_is)
    (case k_Chances_is_worth => k_is)
    (case a_Chances_together => k_is)
    (case i_Chances_together => k_is)
    (case l_Chances_together => k_is)
    (case c_Chances_together => k_is)
    (case k_Chances_together => k_is)
    (case a_Chances_behind => k_is)
    (case i_Chances_behind => k_is)
    (case l_Chances_behind => k_is)
    (case c_Chances_behind => k_is)
    (case k_Chances_behind => k_is)
    (case a_Chances_rounds => k_is)
    (case i_Chances_rounds => k_is)
    (case l_Chances_rounds => k_is)
    (case c_Chances_rounds => k_is)
    (case k_Chances_rounds => k_is)
    (case a_Musts_none => k_is)
    (case i_Musts_none => k_is)
    (case l_Musts_none => k_is)
    (case c_Musts_none => k_is)
    (case k_Musts_none => k_is)
    (case a_Musts_rest => k_is)
    (case i_Musts_rest => k_is)
    (case l_Musts_rest => k_is)
    (case c_Musts_rest => k_is)
    (case k_Musts_rest => k_is)
    (case a_Musts_is_worth => k_is)
    (case i_Musts_is_worth => k_is)
    (case l_Musts_is_worth => k_is)
    (case c_Musts_is_worth => k_is)
    (case k_Musts_is_worth => k_is)
    (case a_Musts_together => k_is)
    (case i_Musts_together => k_is)
    (case l_Musts_together => k_is)
    (case c_Musts_together => k_is)
    (case k_Musts_together => k_is)
    (case a_Musts_behind => k_is)
    (case i_Musts_behind => k_is)
    (case l_Musts_behind => k_is)
    (case c_Musts_behind => k_is)
    (case k_Musts_behind => k_is)
    (case a_Musts_rounds => k_is)
    (case i_Musts_rounds => k_is)
    (case l_Musts_rounds => k_is)
    (case c_Musts_rounds => k_is)
    (case k_Musts_rounds => k_is)
    (case a_Rests___init__ => k_is)
    (case i_Rests___init__ => k_is)
    (case l_Rests___init__ => k_is)
    (case c_Rests___init__ => k_is)
    (case k_Rests___init__ => k_is)
    (case a_Rests_none => k_is)
    (case i_Rests_none => k_is)
    (case l_Rests_none => k_is)
    (case c_Rests_none => k_is)
    (case k_Rests_none => k_is)
    (case a_Rests_rest => k_is)
    (case i_Rests_rest => k_is)
    (case l_Rests_rest => k_is)
    (case c_Rests_rest => k_is)
    (case k_Rests_rest => k_is)
    (case a_Rests_is_worth => k_is)
    (case i_Rests_is_worth => k_is)
    (case l_Rests_is_worth => k_is)
    (case c_Rests_is_worth => k_is)
    (case k_Rests_is_worth => k_is)
    (case a_Rests_together => k_is)
    (case i_Rests_together => k_is)
    (case l_Rests_together => k_is)
    (case c_Rests_together => k_is)
    (case k_Rests_together => k_is)
    (case a_Rests_behind => k_is)
    (case i_Rests_behind => k_is)
    (case l_Rests_behind => k_is)
    (case c_Rests_behind => k_is)
    (case k_Rests_behind => k_is)
    (case a_Rests_rounds => k_is)
    (case i_Rests_rounds => k_is)
    (case l_Rests_rounds => k_is)
    (case c_Rests_rounds => k_is)
    (case k_Rests_rounds => k_is)
    (case a_Net___init__ => k_is)
    (case i_Net___init__ => k_is)
    (case l_Net___init__ => k_is)
    (case c_Net___init__ => k_is)
    (case k_Net___init__ => k_is)
    (case a_Net_ask_shares => k_is)
    (case i_Net_ask_shares => k_is)
    (case l_Net_ask_shares => k_is)
    (case c_Net_ask_shares => k_is)
    (case k_Net_ask_shares => k_is)
    (case a_Net_ask => k_is)
    (case i_Net_ask => k_is)
    (case l_Net_ask => k_is)
    (case c_Net_ask => k_is)
    (case k_Net_ask => k_is)
    (case a_Net_kind => k_is)
    (case i_Net_kind => k_is)
    (case l_Net_kind => k_is)
    (case c_Net_kind => k_is)
    (case k_Net_kind => k_is)
    (case a_Net_places => k_is)
    (case i_Net_places => k_is)
    (case l_Net_places => k_is)
    (case c_Net_places => k_is)
    (case k_Net_places => k_is)
    (case a_Net_roads => k_is)
    (case i_Net_roads => k_is)
    (case l_Net_roads => k_is)
    (case c_Net_roads => k_is)
    (case k_Net_roads => k_is)
    (case a_Counted_picks => k_is)
    (case i_Counted_picks => k_is)
    (case l_Counted_picks => k_is)
    (case c_Counted_picks => k_is)
    (case k_Counted_picks => k_is)
    (case a_Chances_picks => k_is)
    (case i_Chances_picks => k_is)
    (case l_Chances_picks => k_is)
    (case c_Chances_picks => k_is)
    (case k_Chances_picks => k_is)
    (case a_Musts_picks => k_is)
    (case i_Musts_picks => k_is)
    (case l_Musts_picks => k_is)
    (case c_Musts_picks => k_is)
    (case k_Musts_picks => k_is)
    (case a_Rests_picks => k_is)
    (case i_Rests_picks => k_is)
    (case l_Rests_picks => k_is)
    (case c_Rests_picks => k_is)
    (case k_Rests_picks => k_is)
    (case e0SumError => k_is)
    (case e1SumError => k_exc)
    (case e2SumError => k_is)
    (case e3SumError => k_is)
    (case e4SumError => k_is)
    (case e5SumError => k_is)
    (case e6SumError => k_is)
    (case e7SumError => k_is)
    (case e8SumError => k_is)
    (case e9SumError => k_is)
    (case e0NoNet => k_is)
    (case e1NoNet => k_exc)
    (case e2NoNet => k_is)
    (case e3NoNet => k_is)
    (case e4NoNet => k_is)
    (case e5NoNet => k_is)
    (case e6NoNet => k_is)
    (case e7NoNet => k_is)
    (case e8NoNet => k_is)
    (case e9NoNet => k_is)
    (case e0NoWorth => k_is)
    (case e1NoWorth => k_exc)
    (case e2NoWorth => k_is)
    (case e3NoWorth => k_is)
    (case e4NoWorth => k_is)
    (case e5NoWorth => k_is)
    (case e6NoWorth => k_is)
    (case e7NoWorth => k_is)
    (case e8NoWorth => k_is)
    (case e9NoWorth => k_is)
    (case e0NoPlace => k_is)
    (case e1NoPlace => k_exc)
    (case e2NoPlace => k_is)
    (case e3NoPlace => k_is)
    (case e4NoPlace => k_is)
    (case e5NoPlace => k_is)
    (case e6NoPlace => k_is)
    (case e7NoPlace => k_is)
    (case e8NoPlace => k_is)
    (case e9NoPlace => k_is)
    (case e0NoRoad => k_is)
    (case e1NoRoad => k_exc)
    (case e2NoRoad => k_is)
    (case e3NoRoad => k_is)
    (case e4NoRoad => k_is)
    (case e5NoRoad => k_is)
    (case e6NoRoad => k_is)
    (case e7NoRoad => k_is)
    (case e8NoRoad => k_is)
    (case e9NoRoad => k_is)
    (case e0NoSteps => k_is)
    (case e1NoSteps => k_exc)
    (case e2NoSteps => k_is)
    (case e3NoSteps => k_is)
    (case e4NoSteps => k_is)
    (case e5NoSteps => k_is)
    (case e6NoSteps => k_is)
    (case e7NoSteps => k_is)
    (case e8NoSteps => k_is)
    (case e9NoSteps => k_is)
    (case e0NoPick => k_is)
    (case e1NoPick => k_exc)
    (case e2NoPick => k_is)
    (case e3NoPick => k_is)
    (case e4NoPick => k_is)
    (case e5NoPick => k_is)
    (case e6NoPick => k_is)
    (case e7NoPick => k_is)
    (case e8NoPick => k_is)
    (case e9NoPick => k_is)
    (case e0NoSum => k_is)
    (case e1NoSum => k_exc)
    (case e2NoSum => k_is)
    (case e3NoSum => k_is)
    (case e4NoSum => k_is)
    (case e5NoSum => k_is)
    (case e6NoSum => k_is)
    (case e7NoSum => k_is)
    (case e8NoSum => k_is)
    (case e9NoSum => k_is)
    (case e0NoWay => k_is)
    (case e1NoWay => k_exc)
    (case e2NoWay => k_is)
    (case e3NoWay => k_is)
    (case e4NoWay => k_is)
    (case e5NoWay => k_is)
    (case e6NoWay => k_is)
    (case e7NoWay => k_is)
    (case e8NoWay => k_is)
    (case e9NoWay => k_is)
    (case r1Chances => k_is)
    (case r2Chances => k_is)
    (case s_Fewest_Chances => k_is)
    (case ne_Fewest_Chances => decide)
    (case s_Widest_Chances => k_is)
    (case ne_Widest_Chances => decide)
    (case s_Counted_Chances => k_is)
    (case ne_Counted_Chances => decide)
    (case s_Likeliest_Chances => k_is)
    (case ne_Likeliest_Chances => decide)
    (case s_Chances_Chances => k_is)
    (case s_Musts_Chances => k_is)
    (case ne_Musts_Chances => decide)
    (case s_Rests_Chances => k_is)
    (case ne_Rests_Chances => decide)
    (case s_SumError_NoNet => k_is)
    (case ne_SumError_NoNet => decide)
    (case s_NoNet_NoNet => k_is)
    (case s_NoWorth_NoNet => k_is)
    (case ne_NoWorth_NoNet => decide)
    (case s_NoPlace_NoNet => k_is)
    (case ne_NoPlace_NoNet => decide)
    (case s_NoRoad_NoNet => k_is)
    (case ne_NoRoad_NoNet => decide)
    (case s_NoSteps_NoNet => k_is)
    (case ne_NoSteps_NoNet => decide)
    (case s_NoPick_NoNet => k_is)
    (case ne_NoPick_NoNet => decide)
    (case s_NoSum_NoNet => k_is)
    (case ne_NoSum_NoNet => decide)
    (case s_NoWay_NoNet => k_is)
    (case ne_NoWay_NoNet => decide)
    (case s_SumError_NoWorth => k_is)
    (case ne_SumError_NoWorth => decide)
    (case s_NoNet_NoWorth => k_is)
    (case ne_NoNet_NoWorth => decide)
    (case s_NoWorth_NoWorth => k_is)
    (case s_NoPlace_NoWorth => k_is)
    (case ne_NoPlace_NoWorth => decide)
    (case s_NoRoad_NoWorth => k_is)
    (case ne_NoRoad_NoWorth => decide)
    (case s_NoSteps_NoWorth => k_is)
    (case ne_NoSteps_NoWorth => decide)
    (case s_NoPick_NoWorth => k_is)
    (case ne_NoPick_NoWorth => decide)
    (case s_NoSum_NoWorth => k_is)
    (case ne_NoSum_NoWorth => decide)
    (case s_NoWay_NoWorth => k_is)
    (case ne_NoWay_NoWorth => decide)
    (case s_SumError_NoPlace => k_is)
    (case ne_SumError_NoPlace => decide)
    (case s_NoNet_NoPlace => k_is)
    (case ne_NoNet_NoPlace => decide)
    (case s_NoWorth_NoPlace => k_is)
    (case ne_NoWorth_NoPlace => decide)
    (case s_NoPlace_NoPlace => k_is)
    (case s_NoRoad_NoPlace => k_is)
    (case ne_NoRoad_NoPlace => decide)
    (case s_NoSteps_NoPlace => k_is)
    (case ne_NoSteps_NoPlace => decide)
    (case s_NoPick_NoPlace => k_is)
    (case ne_NoPick_NoPlace => decide)
    (case s_NoSum_NoPlace => k_is)
    (case ne_NoSum_NoPlace => decide)
    (case s_NoWay_NoPlace => k_is)
    (case ne_NoWay_NoPlace => decide)
    (case s_SumError_NoRoad => k_is)
    (case ne_SumError_NoRoad => decide)
    (case s_NoNet_NoRoad => k_is)
    (case ne_NoNet_NoRoad => decide)
    (case s_NoWorth_NoRoad => k_is)
    (case ne_NoWorth_NoRoad => decide)
    (case s_NoPlace_NoRoad => k_is)
    (case ne_NoPlace_NoRoad => decide)
    (case s_NoRoad_NoRoad => k_is)
    (case s_NoSteps_NoRoad => k_is)
    (case ne_NoSteps_NoRoad => decide)
    (case s_NoPick_NoRoad => k_is)
    (case ne_NoPick_NoRoad => decide)
    (case s_NoSum_NoRoad => k_is)
    (case ne_NoSum_NoRoad => decide)
    (case s_NoWay_NoRoad => k_is)
    (case ne_NoWay_NoRoad => decide)
    (case s_SumError_NoSteps => k_is)
    (case ne_SumError_NoSteps => decide)
    (case s_NoNet_NoSteps => k_is)
    (case ne_NoNet_NoSteps => decide)
    (case s_NoWorth_NoSteps => k_is)
    (case ne_NoWorth_NoSteps => decide)
    (case s_NoPlace_NoSteps => k_is)
    (case ne_NoPlace_NoSteps => decide)
    (case s_NoRoad_NoSteps => k_is)
    (case ne_NoRoad_NoSteps => decide)
    (case s_NoSteps_NoSteps => k_is)
    (case s_NoPick_NoSteps => k_is)
    (case ne_NoPick_NoSteps => decide)
    (case s_NoSum_NoSteps => k_is)
    (case ne_NoSum_NoSteps => decide)
    (case s_NoWay_NoSteps => k_is)
    (case ne_NoWay_NoSteps => decide)
    (case s_SumError_NoPick => k_is)
    (case ne_SumError_NoPick => decide)
    (case s_NoNet_NoPick => k_is)
    (case ne_NoNet_NoPick => decide)
    (case s_NoWorth_NoPick => k_is)
    (case ne_NoWorth_NoPick => decide)
    (case s_NoPlace_NoPick => k_is)
    (case ne_NoPlace_NoPick => decide)
    (case s_NoRoad_NoPick => k_is)
    (case ne_NoRoad_NoPick => decide)
    (case s_NoSteps_NoPick => k_is)
    (case ne_NoSteps_NoPick => decide)
    (case s_NoPick_NoPick => k_is)
    (case s_NoSum_NoPick => k_is)
    (case ne_NoSum_NoPick => decide)
    (case s_NoWay_NoPick => k_is)
    (case ne_NoWay_NoPick => decide)
    (case s_SumError_NoSum => k_is)
    (case ne_SumError_NoSum => decide)
    (case s_NoNet_NoSum => k_is)
    (case ne_NoNet_NoSum => decide)
    (case s_NoWorth_NoSum => k_is)
    (case ne_NoWorth_NoSum => decide)
    (case s_NoPlace_NoSum => k_is)
    (case ne_NoPlace_NoSum => decide)
    (case s_NoRoad_NoSum => k_is)
    (case ne_NoRoad_NoSum => decide)
    (case s_NoSteps_NoSum => k_is)
    (case ne_NoSteps_NoSum => decide)
    (case s_NoPick_NoSum => k_is)
    (case ne_NoPick_NoSum => decide)
    (case s_NoSum_NoSum => k_is)
    (case s_NoWay_NoSum => k_is)
    (case ne_NoWay_NoSum => decide)
    (case s_SumError_NoWay => k_is)
    (case ne_SumError_NoWay => decide)
    (case s_NoNet_NoWay => k_is)
    (case ne_NoNet_NoWay => decide)
    (case s_NoWorth_NoWay => k_is)
    (case ne_NoWorth_NoWay => decide)
    (case s_NoPlace_NoWay => k_is)
    (case ne_NoPlace_NoWay => decide)
    (case s_NoRoad_NoWay => k_is)
    (case ne_NoRoad_NoWay => decide)
    (case s_NoSteps_NoWay => k_is)
    (case ne_NoSteps_NoWay => decide)
    (case s_NoPick_NoWay => k_is)
    (case ne_NoPick_NoWay => decide)
    (case s_NoSum_NoWay => k_is)
    (case ne_NoSum_NoWay => decide)
    (case s_NoWay_NoWay => k_is)
    (case s_SumError_SumError => k_is)
    (case s_NoNet_SumError => k_is)
    (case s_NoWorth_SumError => k_is)
    (case s_NoPlace_SumError => k_is)
    (case s_NoRoad_SumError => k_is)
    (case s_NoSteps_SumError => k_is)
    (case s_NoPick_SumError => k_is)
    (case s_NoSum_SumError => k_is)
    (case s_NoWay_SumError => k_is)
    (case v_SumError => k_is)
    (case v_NoNet => k_is)
    (case v_NoWorth => k_is)
    (case v_NoPlace => k_is)
    (case v_NoRoad => k_is)
    (case v_NoSteps => k_is)
    (case v_NoPick => k_is)
    (case v_NoSum => k_is)
    (case v_NoWay => k_is)
    (case at_Net_many => k_is)
    (case at_Net_rows => k_is)
    (case at_Net_sort_of => k_is)
    (case at_Rests_m => k_is)
    (case n_len => k_is)
    (case n_range => k_is)
    (case n_isinstance => k_is)
    (case n_min => k_is)
    (case n_max => k_is)
    (case n_list => k_is)
    (case n_reversed => k_is)
    (case n_tuple => k_is)
    (case n_int => k_is)
    (case n_ValueError => k_is)
    (case n_WIDEST => k_is)
    (case n_MOST_PLACES => k_is)
    (case n_MOST_ROADS => k_is)
    (case n_MOST_STEPS => k_is)
    (case hn => k_is)
    (case ht => k_is)
#print axioms PySem.Challenge.cw_waysum_k15_each_refusal_its_own_holds
