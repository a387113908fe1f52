import PyProof.Rows.All
import Wide.All
import OpenK.AllK
import Wide.FinOn
import HandS.ForMost
import HandS.ForExc
import HandS.Wide
import HandS.WideBits
import HandS.IsInst
import HandS.ExcIs
import HandS.HotCalls
import HandS.Codes
import PySem.Challenge.RW_waysum_k03_whole_deeds_go_together
set_option Elab.async false
set_option linter.all false
set_option maxRecDepth 100000
set_option maxHeartbeats 4000000
set_option autoImplicit false
namespace Ws
open PySem PySem.Spec PyProof.Rows L2
/-- the i-th statement of the text's top -/
def topS (i : Nat) : Stmt := PySem.Challenge.pw_waysum_k03_whole_deeds_go_together.main.body.getD i (.Pass ⟨0, 0, 0, 0⟩)
abbrev s_common : Stmt := topS 6
abbrev s_lowest : Stmt := topS 7
abbrev s_added : Stmt := topS 8
abbrev s_taken : Stmt := topS 9
abbrev s_less : Stmt := topS 10
abbrev s__law_cell_at : Stmt := topS 22
abbrev s__law_kind : Stmt := topS 23
abbrev s__law_share : Stmt := topS 24
abbrev s__law_none : Stmt := topS 25
abbrev s__law_rest : Stmt := topS 26
abbrev s__law_worth : Stmt := topS 27
abbrev s__law_rings : Stmt := topS 28
abbrev s_law : Stmt := topS 29
abbrev s_Fewest_none : Stmt := inClass (topS 14) 1
abbrev s_Fewest_rest : Stmt := inClass (topS 14) 2
abbrev s_Fewest_together : Stmt := inClass (topS 14) 4
abbrev s_Fewest_behind : Stmt := inClass (topS 14) 5
abbrev s_Fewest_rounds : Stmt := inClass (topS 14) 6
abbrev s_Widest_none : Stmt := inClass (topS 15) 1
abbrev s_Widest_rest : Stmt := inClass (topS 15) 2
abbrev s_Widest_together : Stmt := inClass (topS 15) 4
abbrev s_Widest_behind : Stmt := inClass (topS 15) 5
abbrev s_Widest_rounds : Stmt := inClass (topS 15) 6
abbrev s_Counted_none : Stmt := inClass (topS 16) 0
abbrev s_Counted_rest : Stmt := inClass (topS 16) 1
abbrev s_Counted_together : Stmt := inClass (topS 16) 3
abbrev s_Counted_behind : Stmt := inClass (topS 16) 4
abbrev s_Counted_rounds : Stmt := inClass (topS 16) 5
abbrev s_Likeliest_none : Stmt := inClass (topS 17) 1
abbrev s_Likeliest_rest : Stmt := inClass (topS 17) 2
abbrev s_Likeliest_together : Stmt := inClass (topS 17) 4
abbrev s_Likeliest_behind : Stmt := inClass (topS 17) 5
abbrev s_Likeliest_rounds : Stmt := inClass (topS 17) 6
abbrev s_Chances_none : Stmt := inClass (topS 18) 0
abbrev s_Chances_rest : Stmt := inClass (topS 18) 1
abbrev s_Chances_together : Stmt := inClass (topS 18) 3
abbrev s_Chances_behind : Stmt := inClass (topS 18) 4
abbrev s_Chances_rounds : Stmt := inClass (topS 18) 5
abbrev s_Musts_none : Stmt := inClass (topS 19) 0
abbrev s_Musts_rest : Stmt := inClass (topS 19) 1
abbrev s_Musts_together : Stmt := inClass (topS 19) 3
abbrev s_Musts_behind : Stmt := inClass (topS 19) 4
abbrev s_Musts_rounds : Stmt := inClass (topS 19) 5
abbrev s_Rests___init__ : Stmt := inClass (topS 20) 0
abbrev s_Rests_none : Stmt := inClass (topS 20) 1
abbrev s_Rests_rest : Stmt := inClass (topS 20) 2
abbrev s_Rests_together : Stmt := inClass (topS 20) 4
abbrev s_Rests_behind : Stmt := inClass (topS 20) 5
abbrev s_Rests_rounds : Stmt := inClass (topS 20) 6
/-! ### M1: worths, deeds (plain Lean) -/
/-- the seven kinds -/
inductive Kd where
  | few | wid | cnt | lik | cha | mus | rst (m : Nat)
  deriving DecidableEq
/-- their classes -/
inductive Kx where
  | few | wid | cnt | lik | cha | mus | rst
  deriving DecidableEq
def Kd.x : Kd → Kx
  | .few => .few | .wid => .wid | .cnt => .cnt | .lik => .lik | .cha => .cha | .mus => .mus | .rst _ => .rst
/-- rests by 1 to 12 -/
def KOk : Kd → Prop
  | .rst m => 1 ≤ m ∧ m ≤ 12
  | _ => True
/-- a worth -/
inductive Wo where
  | non | int (i : Int) | rat (r : Rat)
  deriving DecidableEq
def noneW : Kd → Wo
  | .few => .non | .wid => .int 0 | .cnt => .int 0 | .lik => .rat 0 | .cha => .rat 0 | .mus => .non | .rst _ => .int 0
def restW : Kd → Wo
  | .few => .int 0 | .wid => .int 1000000000 | .cnt => .int 1 | .lik => .rat 1 | .cha => .rat 1 | .mus => .int 0 | .rst _ => .int 1
/-- a worth of the kind -/
def Good : Kd → Wo → Prop
  | .few, .non => True
  | .few, .int i => 0 ≤ i
  | .wid, .int i => 0 ≤ i ∧ i ≤ 1000000000
  | .cnt, .int i => -1 ≤ i
  | .lik, .rat r => 0 ≤ r ∧ r ≤ 1
  | .cha, .rat r => 0 ≤ r
  | .mus, .non => True
  | .mus, .int i => 0 ≤ i
  | .rst m, .int i => 0 ≤ i ∧ i < 2 ^ m
  | _, _ => False
/-- the number whose bits below n are told -/
def bitsOf : Nat → (Nat → Bool) → Nat
  | 0, _ => 0
  | n + 1, p => bitsOf n p ||| (if p n then 2 ^ n else 0)
theorem bitsOf_lt : ∀ (n : Nat) (p : Nat → Bool), bitsOf n p < 2 ^ n
  | 0, _ => by show 0 < 1; decide
  | n + 1, p => by
    unfold bitsOf
    have h := bitsOf_lt n p
    refine Nat.or_lt_two_pow (by rw [Nat.pow_succ]; omega) ?_
    split
    · exact Nat.pow_lt_pow_right (by decide) (by omega)
    · exact Nat.two_pow_pos _
theorem testBit_bitsOf : ∀ (n : Nat) (p : Nat → Bool) (r : Nat), (bitsOf n p).testBit r = (decide (r < n) && p r)
  | 0, p, r => by simp [bitsOf]
  | n + 1, p, r => by
    unfold bitsOf
    rw [Nat.testBit_or, testBit_bitsOf n p r]
    by_cases h : r = n
    · subst h
      cases e : p r <;> simp
    · have h2 : decide (r < n + 1) = decide (r < n) := by
        rw [decide_eq_decide]; omega
      rw [h2]
      have h3 : (if p n then 2 ^ n else 0).testBit r = false := by
        split
        · rw [Nat.testBit_two_pow]; exact decide_eq_false (fun e => h e.symm)
        · exact Nat.zero_testBit r
      rw [h3, Bool.or_false]
theorem testBit_above {a m r : Nat} (h : a < 2 ^ m) (hr : m ≤ r) : a.testBit r = false :=
  Nat.testBit_lt_two_pow (Nat.lt_of_lt_of_le h (Nat.pow_le_pow_right (by decide) hr))
/-- rests behind one another -/
def rbeh (m a b : Nat) : Nat := bitsOf m fun r => (List.range m).any fun i => (List.range m).any fun j => a.testBit i && b.testBit j && (i + j) % m == r
theorem testBit_rbeh (m a b r : Nat) : (rbeh m a b).testBit r = true ↔ r < m ∧ ∃ i j, i < m ∧ j < m ∧ a.testBit i = true ∧ b.testBit j = true ∧ (i + j) % m = r := by
  unfold rbeh
  rw [testBit_bitsOf]
  simp only [Bool.and_eq_true, decide_eq_true_eq, List.any_eq_true, List.mem_range, beq_iff_eq]
  constructor
  · rintro ⟨h, i, hi, j, hj, ⟨ha, hb⟩, e⟩
    exact ⟨h, i, j, hi, hj, ha, hb, e⟩
  · rintro ⟨h, i, j, hi, hj, ha, hb, e⟩
    exact ⟨h, i, hi, j, hj, ⟨ha, hb⟩, e⟩
theorem rbeh_lt (m a b : Nat) : rbeh m a b < 2 ^ m := bitsOf_lt _ _
/-- rounds of rests: n turns -/
def riter (m a : Nat) : Nat → Nat
  | 0 => 1
  | n + 1 => riter m a n ||| rbeh m (riter m a n) a
def rstar (m a : Nat) : Nat := riter m a m
/-- together -/
def tog : Kd → Wo → Wo → Wo
  | .few, .non, b => b
  | .few, a, .non => a
  | .few, .int i, .int j => .int (if j < i then j else i)
  | .wid, .int i, .int j => .int (if j > i then j else i)
  | .cnt, .int i, .int j => if i = -1 ∨ j = -1 then .int (-1) else .int (i + j)
  | .lik, .rat r, .rat s => if r < s then .rat s else .rat r
  | .cha, .rat r, .rat s => .rat (r + s)
  | .mus, .non, b => b
  | .mus, a, .non => a
  | .mus, .int i, .int j => .int ((i.toNat &&& j.toNat : Nat) : Int)
  | .rst _, .int i, .int j => .int ((i.toNat ||| j.toNat : Nat) : Int)
  | _, a, _ => a
/-- behind -/
def beh : Kd → Wo → Wo → Wo
  | .few, .int i, .int j => .int (i + j)
  | .few, _, _ => .non
  | .wid, .int i, .int j => .int (if j < i then j else i)
  | .cnt, .int i, .int j => if i = 0 ∨ j = 0 then .int 0 else if i = -1 ∨ j = -1 then .int (-1) else .int (i * j)
  | .lik, .rat r, .rat s => .rat (r * s)
  | .cha, .rat r, .rat s => .rat (r * s)
  | .mus, .int i, .int j => .int ((i.toNat ||| j.toNat : Nat) : Int)
  | .mus, _, _ => .non
  | .rst m, .int i, .int j => .int (rbeh m i.toNat j.toNat : Nat)
  | _, a, _ => a
/-- rounds; none: no sum -/
def rnd : Kd → Wo → Option Wo
  | .few, _ => some (.int 0)
  | .wid, _ => some (.int 1000000000)
  | .cnt, .int i => some (.int (if i = 0 then 1 else -1))
  | .lik, _ => some (.rat 1)
  | .cha, .rat r => if r < 1 then some (.rat (1 / (1 - r))) else none
  | .mus, _ => some (.int 0)
  | .rst m, .int i => some (.int (rstar m i.toNat : Nat))
  | _, a => some a
/-- does the kind pick -/
def pick : Kd → Bool
  | .few => true | .wid => true | .lik => true | _ => false
/-- a number of bits -/
def sz : Wo → Nat
  | .non => 1
  | .int i => i.natAbs.log2 + 1
  | .rat r => max (r.num.natAbs.log2 + 1) (r.den.log2 + 1)
/-- what the deeds ask of sizes -/
def Fits : Kd → Wo → Wo → Prop
  | .lik, a, b => sz a + sz b ≤ 8000
  | .cha, a, b => sz a + sz b ≤ 8000
  | .cnt, a, b => sz a + sz b ≤ 900000
  | _, _, _ => True
/-- of one worth -/
def Fit1 : Kd → Wo → Prop
  | .cha, a => sz a ≤ 8000
  | _, _ => True
/-! rounds of rests -/
theorem riter_lt {m : Nat} (h : 1 ≤ m) (a : Nat) : ∀ n, riter m a n < 2 ^ m
  | 0 => by show 1 < 2 ^ m; exact Nat.one_lt_two_pow (by omega)
  | n + 1 => Nat.or_lt_two_pow (riter_lt h a n) (rbeh_lt m _ a)
theorem riter_sub (m a n r : Nat) (h : (riter m a n).testBit r = true) : (riter m a (n + 1)).testBit r = true := by
  show (riter m a n ||| rbeh m (riter m a n) a).testBit r = true
  rw [Nat.testBit_or, h, Bool.true_or]
def cnt (F : Nat) : Nat → Nat
  | 0 => 0
  | m + 1 => cnt F m + (if F.testBit m then 1 else 0)
theorem cnt_le (F : Nat) : ∀ m, cnt F m ≤ m
  | 0 => Nat.le_refl 0
  | m + 1 => by
    have := cnt_le F m
    unfold cnt
    split <;> omega
theorem cnt_mono {F G : Nat} (h : ∀ r, F.testBit r = true → G.testBit r = true) : ∀ m, cnt F m ≤ cnt G m
  | 0 => Nat.le_refl 0
  | m + 1 => by
    have := cnt_mono h m
    unfold cnt
    by_cases e : F.testBit m = true
    · rw [if_pos e, if_pos (h m e)]; omega
    · rw [if_neg e]; omega
theorem cnt_lt {F G : Nat} (h : ∀ r, F.testBit r = true → G.testBit r = true) : ∀ m r, r < m → F.testBit r = false → G.testBit r = true → cnt F m < cnt G m
  | 0, r, hr, _, _ => by omega
  | m + 1, r, hr, h1, h2 => by
    unfold cnt
    by_cases e : r = m
    · subst e
      have := cnt_mono h r
      rw [h1, h2]
      simp
      omega
    · have := cnt_lt h m r (by omega) h1 h2
      by_cases e : F.testBit m = true
      · rw [if_pos e, if_pos (h m e)]; omega
      · rw [if_neg e]; omega
theorem riter_still {m a n : Nat} (h : riter m a (n + 1) = riter m a n) : ∀ k, riter m a (n + k) = riter m a n
  | 0 => rfl
  | k + 1 => by
    have ih := riter_still h k
    show riter m a (n + k) ||| rbeh m (riter m a (n + k)) a = _
    rw [ih]
    exact h
theorem riter_grows {m a : Nat} (hm : 1 ≤ m) : ∀ n, (∀ j, j < n → riter m a (j + 1) ≠ riter m a j) → n + 1 ≤ cnt (riter m a n) m
  | 0, _ => by
    have h : cnt 0 m < cnt 1 m := cnt_lt (F := 0) (G := 1) (fun r h => by simp at h) m 0 (by omega) (by simp) (by simp)
    show 0 + 1 ≤ cnt 1 m
    omega
  | n + 1, h => by
    have ih := riter_grows hm n fun j hj => h j (by omega)
    have ne := h n (by omega)
    obtain ⟨r, hr⟩ : ∃ r, (riter m a (n + 1)).testBit r ≠ (riter m a n).testBit r := by
      refine Classical.byContradiction fun z => ne (Nat.eq_of_testBit_eq fun r => ?_)
      exact Classical.byContradiction fun y => z ⟨r, y⟩
    have h1 : (riter m a n).testBit r = false := by
      cases e : (riter m a n).testBit r with
      | false => rfl
      | true => exact absurd ((riter_sub m a n r e).trans e.symm) hr
    have h2 : (riter m a (n + 1)).testBit r = true := by
      cases e : (riter m a (n + 1)).testBit r with
      | true => rfl
      | false => exact absurd (e.trans h1.symm) hr
    have hrm : r < m := by
      refine Classical.byContradiction fun z => ?_
      rw [testBit_above (riter_lt hm a (n + 1)) (by omega)] at h2
      cases h2
    have := cnt_lt (riter_sub m a n) m r hrm h1 h2
    omega
theorem riter_stops {m a : Nat} (hm : 1 ≤ m) : ∃ n, n < m ∧ riter m a (n + 1) = riter m a n := by
  refine Classical.byContradiction fun z => ?_
  have := riter_grows (a := a) hm m fun j hj e => z ⟨j, hj, e⟩
  have := cnt_le (riter m a m) m
  omega
theorem riter_end {m a n : Nat} (hm : 1 ≤ m) (h : riter m a (n + 1) = riter m a n) : riter m a n = rstar m a := by
  obtain ⟨j, hj, e⟩ := riter_stops (a := a) hm
  have e1 := riter_still e (m - j)
  rw [show j + (m - j) = m by omega] at e1
  show riter m a n = riter m a m
  rw [e1]
  by_cases hn : n ≤ j
  · have := riter_still h (j - n)
    rw [show n + (j - n) = j by omega] at this
    exact this.symm
  · have := riter_still e (n - j)
    rw [show j + (n - j) = n by omega] at this
    exact this
theorem rstar_fix {m a : Nat} (hm : 1 ≤ m) : rstar m a ||| rbeh m (rstar m a) a = rstar m a := by
  obtain ⟨j, hj, e⟩ := riter_stops (a := a) hm
  have e1 := riter_still e (m - j)
  have e2 := riter_still e (m + 1 - j)
  rw [show j + (m - j) = m by omega] at e1
  rw [show j + (m + 1 - j) = m + 1 by omega] at e2
  show riter m a (m + 1) = riter m a m
  rw [e1, e2]
theorem rstar_lt {m : Nat} (h : 1 ≤ m) (a : Nat) : rstar m a < 2 ^ m := riter_lt h a m
/-! the laws' own numbers for the kinds -/
def wh : Kd → Int
  | .few => 0 | .wid => 1 | .cnt => 2 | .lik => 3 | .cha => 4 | .mus => 5 | .rst _ => 6
def kd (w m : Int) : Kd := if w = 0 then .few else if w = 1 then .wid else if w = 2 then .cnt else if w = 3 then .lik else if w = 4 then .cha else if w = 5 then .mus else .rst m.toNat
theorem wh_kd {w m : Int} (h0 : 0 ≤ w) (h6 : w ≤ 6) : wh (kd w m) = w := by
  unfold kd
  by_cases e0 : w = 0
  · subst e0; rfl
  by_cases e1 : w = 1
  · subst e1; rfl
  by_cases e2 : w = 2
  · subst e2; rfl
  by_cases e3 : w = 3
  · subst e3; rfl
  by_cases e4 : w = 4
  · subst e4; rfl
  by_cases e5 : w = 5
  · subst e5; rfl
  rw [if_neg e0, if_neg e1, if_neg e2, if_neg e3, if_neg e4, if_neg e5]
  show (6 : Int) = w
  omega
theorem kd_rst {w m : Int} (hm : 0 ≤ m) {m' : Nat} (h : kd w m = .rst m') : m = (m' : Int) := by
  unfold kd at h
  by_cases e0 : w = 0
  · rw [if_pos e0] at h; cases h
  by_cases e1 : w = 1
  · rw [if_neg e0, if_pos e1] at h; cases h
  by_cases e2 : w = 2
  · rw [if_neg e0, if_neg e1, if_pos e2] at h; cases h
  by_cases e3 : w = 3
  · rw [if_neg e0, if_neg e1, if_neg e2, if_pos e3] at h; cases h
  by_cases e4 : w = 4
  · rw [if_neg e0, if_neg e1, if_neg e2, if_neg e3, if_pos e4] at h; cases h
  by_cases e5 : w = 5
  · rw [if_neg e0, if_neg e1, if_neg e2, if_neg e3, if_neg e4, if_pos e5] at h; cases h
  rw [if_neg e0, if_neg e1, if_neg e2, if_neg e3, if_neg e4, if_neg e5] at h
  injection h with h
  omega
theorem kd_ok {w m : Int} (h1 : 1 ≤ m) (h12 : m ≤ 12) : KOk (kd w m) := by
  cases e : kd w m with
  | rst m' => have := kd_rst (by omega) e; exact ⟨by omega, by omega⟩
  | _ => trivial
/-- a cell of the script -/
def cell (ns : List Int) (i : Nat) : Int := ns.getD i 0
/-- a drawn worth -/
def lawW2 (k : Kd) (c : Int) : Wo :=
  match k with
  | .few => .int (if c % 6 < 5 then c / 6 % 20 else c / 6 % 10 ^ 30)
  | .wid => .int (if c % 6 < 5 then c / 6 % 20 else c / 6 % (10 ^ 9 + 1))
  | .cnt => .int (if c % 6 < 5 then c / 6 % 5 - 1 else c / 6 % 10 ^ 30)
  | .lik => .rat (Rat.divInt (c / 6 % (1 + c / 6 / 7 % 12 + 1)) (1 + c / 6 / 7 % 12))
  | .cha => .rat (Rat.divInt (c / 6 % 9) (1 + c / 6 / 9 % 12))
  | .mus => .int (if c % 6 < 5 then c / 6 % 16 else c / 6 % 10 ^ 30)
  | .rst m => .int (c / 6 % 2 ^ m)
def lawW (k : Kd) (c : Int) : Wo := if c % 6 = 1 then noneW k else if c % 6 = 2 then restW k else lawW2 k c
theorem good_none (k : Kd) : Good k (noneW k) := by
  cases k <;> simp [noneW, Good]
  all_goals first | decide | exact Nat.two_pow_pos _ | skip
  · rename_i m; exact_mod_cast Nat.two_pow_pos m
theorem good_rest {k : Kd} (h : KOk k) : Good k (restW k) := by
  cases k <;> simp [restW, Good]
  all_goals first | decide | skip
  · rename_i m
    have : 1 < 2 ^ m := Nat.one_lt_two_pow (by have := h.1; omega)
    exact_mod_cast this
/-! ### K0: words for defs, methods, classes; calls that may raise; instances of classes without an __init__ -/
section
variable {P : Program} {w : World} {K : PySem.W.Frag} {mg : Str → Option Value} {base : Heap}
/-- a def of the module's top -/
structure Dfn (K : PySem.W.Frag) (mg : Str → Option Value) (x : Str) (st : Stmt) (ps : List Str) (f : Addr) (fd : FuncData) : Prop where
  g : mg x = some (.ref f)
  F : Fun K x x st f fd
  b : Binds K fd ps []
/-- a method of the class at C -/
structure Mth (K : PySem.W.Frag) (C : Addr) (m qual : Str) (st : Stmt) (ps : List Str) (f : Addr) (fd : FuncData) : Prop where
  me : Meth K C m f
  F : Fun K m qual st f fd
  b : Binds K fd ps []
/-- a class of the program's own -/
structure Clz (K : PySem.W.Frag) (mg : Str → Option Value) (x : Str) (C : Addr) : Prop where
  g : mg x = some (.ref C)
  cl : Cls K C
  kp : PySem.W.keepIn K (.ref C) = true
  mks : PySem.W.makesIn K C = true
  ha : PySem.W.findIn K (.ref C) "__class__" = some (some (.builtin "object.__class__"))
  hm : PySem.W.mroIn K C (.type "object") = some true
/-- it has no __init__ of its own -/
structure Bare (K : PySem.W.Frag) (C : Addr) : Prop where
  ini : PySem.W.findIn K (.ref C) "__init__" = some (some (.builtin "object.__init__"))
/-- what may be called by the name x: it keeps the promise sp -/
structure Fc (CX : CXT) (P : Program) (w : World) (K : PySem.W.Frag) (mg : Str → Option Value) (base : Heap) (k : Nat) (x : Str) (sp : Sp) : Prop where
  ex : ∃ (f : Addr) (fd : FuncData) (ps : List Str), FnOk P w K mg base CX k f fd ps sp ∧ mg x = some (.ref f) ∧ PySem.W.keepIn K (.ref f) = true ∧ Binds K fd ps []
structure Mc (CX : CXT) (P : Program) (w : World) (K : PySem.W.Frag) (mg : Str → Option Value) (base : Heap) (k : Nat) (C : Addr) (m : Str) (sp : Sp) : Prop where
  ex : ∃ (f : Addr) (fd : FuncData) (ps : List Str), FnOk P w K mg base CX k f fd ps sp ∧ Cls K C ∧ Meth K C m f ∧ Binds K fd ps []
theorem Fc.imp {CX : CXT} {k : Nat} {x : Str} {sp sp' : Sp} (F : Fc CX P w K mg base k x sp) (h : ∀ vs H Q E, sp' vs H Q E → sp vs H Q E) : Fc CX P w K mg base k x sp' := by
  obtain ⟨f, fd, ps, G, r⟩ := F.ex
  exact ⟨f, fd, ps, G.imp h, r⟩
theorem Mc.imp {CX : CXT} {k : Nat} {C : Addr} {x : Str} {sp sp' : Sp} (F : Mc CX P w K mg base k C x sp) (h : ∀ vs H Q E, sp' vs H Q E → sp vs H Q E) : Mc CX P w K mg base k C x sp' := by
  obtain ⟨f, fd, ps, G, r⟩ := F.ex
  exact ⟨f, fd, ps, G.imp h, r⟩
theorem Mc.mono {CX : CXT} {j k : Nat} {C : Addr} {x : Str} {sp : Sp} (F : Mc CX P w K mg base j C x sp) (h : j ≤ k) : Mc CX P w K mg base k C x sp := by
  obtain ⟨f, fd, ps, G, r⟩ := F.ex
  exact ⟨f, fd, ps, G.mono h, r⟩
/-- what raises nothing may stand where something may be raised -/
theorem anyCX {CX : CXT} {k : Nat} {f : Addr} {fd : FuncData} {ps : List Str} {sp : Sp} (F : FnOk P w K mg base CX0 k f fd ps sp) : FnOk P w K mg base CX k f fd ps sp :=
  ⟨F.len, fun A outer s H args us vs Q E hr he hb hv hs => codeAny_mono (F.run A outer s H args us vs Q E hr he hb hv hs) fun r s' h => by
    cases r with
    | error e => exact False.elim h
    | ok fl => cases fl <;> exact h⟩
theorem Fc.any {CX : CXT} {k : Nat} {x : Str} {sp : Sp} (F : Fc CX0 P w K mg base k x sp) : Fc CX P w K mg base k x sp := by
  obtain ⟨f, fd, ps, G, r⟩ := F.ex
  exact ⟨f, fd, ps, anyCX G, r⟩
theorem Mc.any {CX : CXT} {k : Nat} {C : Addr} {x : Str} {sp : Sp} (F : Mc CX0 P w K mg base k C x sp) : Mc CX P w K mg base k C x sp := by
  obtain ⟨f, fd, ps, G, r⟩ := F.ex
  exact ⟨f, fd, ps, anyCX G, r⟩
/-- by its body: nothing is raised -/
theorem fc0 {x : Str} {st : Stmt} {ps N : List Str} {f : Addr} {fd : FuncData} {k : Nat} {sp : Sp} (D : Dfn K mg x st ps f fd) (S : FnScope N ps (defScope st)) (len : ∀ vs H Q E, sp vs H Q E → vs.length = ps.length)
    (body : ∀ (cdv : Value) (A : Around) (outer : List Env) (s : Shared) (H : Hp) (vs : List V) (Q : VK) (E : XK), Room k (A.deeper (envOfC x (defScope st) s.heap.objs.size f cdv)) → sp vs H Q E →
      ∃ t, PSs (cxOf CX0 P w K mg base N x (defScope st) f cdv A outer s H E).nox (defBody st) t ∧ t { nx := fun _ H' => Q .non H', rt := Q } (start N vs) H) : Fc CX0 P w K mg base (k + 1) x sp :=
  ⟨f, fd, ps, D.F.ok S len body, D.g, D.F.kp, D.b⟩
theorem mc0 {C : Addr} {m qual : Str} {st : Stmt} {ps N : List Str} {f : Addr} {fd : FuncData} {k : Nat} {sp : Sp} (c : Cls K C) (D : Mth K C m qual st ps f fd) (S : FnScope N ps (defScope st)) (len : ∀ vs H Q E, sp vs H Q E → vs.length = ps.length)
    (body : ∀ (cdv : Value) (A : Around) (outer : List Env) (s : Shared) (H : Hp) (vs : List V) (Q : VK) (E : XK), Room k (A.deeper (envOfC qual (defScope st) s.heap.objs.size f cdv)) → sp vs H Q E →
      ∃ t, PSs (cxOf CX0 P w K mg base N qual (defScope st) f cdv A outer s H E).nox (defBody st) t ∧ t { nx := fun _ H' => Q .non H', rt := Q } (start N vs) H) : Mc CX0 P w K mg base (k + 1) C m sp :=
  ⟨f, fd, ps, D.F.ok S len body, c, D.me, D.b⟩
/-- by its body: something may be raised -/
theorem fcX {x : Str} {st : Stmt} {ps N : List Str} {f : Addr} {fd : FuncData} {k : Nat} {sp : Sp} (D : Dfn K mg x st ps f fd) (S : FnScope N ps (defScope st)) (len : ∀ vs H Q E, sp vs H Q E → vs.length = ps.length)
    (body : ∀ (cdv : Value) (A : Around) (outer : List Env) (s : Shared) (H : Hp) (vs : List V) (Q : VK) (E : XK), Room k (A.deeper (envOfC x (defScope st) s.heap.objs.size f cdv)) → sp vs H Q E →
      ∃ t, PSs (cxOf (L2.CX P w) P w K mg base N x (defScope st) f cdv A outer s H E) (defBody st) t ∧ t { nx := fun _ H' => Q .non H', rt := Q } (start N vs) H) : Fc (L2.CX P w) P w K mg base (k + 1) x sp :=
  ⟨f, fd, ps, D.F.okX S len body, D.g, D.F.kp, D.b⟩
theorem mcX {C : Addr} {m qual : Str} {st : Stmt} {ps N : List Str} {f : Addr} {fd : FuncData} {k : Nat} {sp : Sp} (c : Cls K C) (D : Mth K C m qual st ps f fd) (S : FnScope N ps (defScope st)) (len : ∀ vs H Q E, sp vs H Q E → vs.length = ps.length)
    (body : ∀ (cdv : Value) (A : Around) (outer : List Env) (s : Shared) (H : Hp) (vs : List V) (Q : VK) (E : XK), Room k (A.deeper (envOfC qual (defScope st) s.heap.objs.size f cdv)) → sp vs H Q E →
      ∃ t, PSs (cxOf (L2.CX P w) P w K mg base N qual (defScope st) f cdv A outer s H E) (defBody st) t ∧ t { nx := fun _ H' => Q .non H', rt := Q } (start N vs) H) : Mc (L2.CX P w) P w K mg base (k + 1) C m sp :=
  ⟨f, fd, ps, D.F.okX S len body, c, D.me, D.b⟩
end
section
variable {X : Cx} {CX : CXT} {k j : Nat} {C : Addr} {x m : Str} {sp : Sp} {E : XK} {ES : L2.St → XK} {p pos apos : Pos} {e o : Expr} {es : List Expr} {ta : TE} {t : TA}
/-- f(e, ..) -/
theorem pe_f (F : Fc CX X.prog X.w X.K X.mg X.base k x sp) (hr : Room j X.A) (hk : k ≤ j) (hx : Passes CX X E) (hg : Gl X x) (ha : PA X (e :: es) t)
    (hdb : (x == ("__debug__" : Str)) = false := by decide) (he : starEach (e :: es) X.env = (false, eval e X.env) :: starEach es X.env := by rfl) (hpl : (backTo pos (starEach es X.env)).any (·.1) = false := by rfl) :
    PE X (.Call (.Name x p) (e :: es) [] pos) (tCall sp [] E t) := by
  obtain ⟨f, fd, ps, G, hm, kp, b⟩ := F.ex
  exact pe_call G (hr.mono hk) hg hm kp b .nil hx ha hdb he hpl
/-- .. what is raised is wished for at the slots -/
theorem pe_fS (F : Fc CX X.prog X.w X.K X.mg X.base k x sp) (hr : Room j X.A) (hk : k ≤ j) (hx : ∀ σ, PassesAt CX X σ (ES σ)) (hg : Gl X x) (ha : PA X (e :: es) t)
    (hdb : (x == ("__debug__" : Str)) = false := by decide) (he : starEach (e :: es) X.env = (false, eval e X.env) :: starEach es X.env := by rfl) (hpl : (backTo pos (starEach es X.env)).any (·.1) = false := by rfl) :
    PE X (.Call (.Name x p) (e :: es) [] pos) (tCallS sp ES t) := by
  obtain ⟨f, fd, ps, G, hm, kp, b⟩ := F.ex
  exact pe_callS G (hr.mono hk) hg hm kp b hx ha hdb he hpl
/-- o.m(e, ..) -/
theorem pe_m {pl : Sem Bool} (F : Mc CX X.prog X.w X.K X.mg X.base k C m sp) (hr : Room j X.A) (hk : k ≤ j) (hx : Passes CX X E) (ho : PE X o ta) (ha : PA X (e :: es) t)
    (hst : starEach (e :: es) X.env = (false, eval e X.env) :: starEach es X.env := by rfl) (hpl : (backTo pos (starEach es X.env)).any (·.1) = false := by rfl)
    (ht : eval (.Call (.Attribute o m apos) (e :: es) [] pos) X.env = (do
      let ov ← eval o X.env
      standAt apos.atName
      let (f, first) ← holding [ov] (getMethod ov m pl)
      callWith pos f first (backTo pos (starEach (e :: es) X.env)) (backToKw pos (keywordEach [] X.env))) := by rfl) :
    PE X (.Call (.Attribute o m apos) (e :: es) [] pos) (tMeth C m sp [] E ta t) := by
  obtain ⟨f, fd, ps, G, c, hm, b⟩ := F.ex
  exact pe_meth (pl := pl) ho c hm G (hr.mono hk) b .nil hx ha hst hpl ht
/-- o.m() -/
theorem pe_m0 {pl : Sem Bool} (F : Mc CX X.prog X.w X.K X.mg X.base k C m sp) (hr : Room j X.A) (hk : k ≤ j) (hx : Passes CX X E) (ho : PE X o ta)
    (ht : eval (.Call (.Attribute o m apos) [] [] pos) X.env = (do
      let ov ← eval o X.env
      standAt apos.atName
      let (f, first) ← holding [ov] (getMethod ov m pl)
      callWith pos f first (backTo pos (starEach [] X.env)) (backToKw pos (keywordEach [] X.env))) := by rfl) :
    PE X (.Call (.Attribute o m apos) [] [] pos) (tMeth C m sp [] E ta tNil) := by
  obtain ⟨f, fd, ps, G, c, hm, b⟩ := F.ex
  exact pe_meth0 (pl := pl) ho c hm G (hr.mono hk) b .nil hx ht
/-- .. what is raised is wished for at the slots -/
def tMethS (C : Addr) (m : Str) (sp : Sp) (ES : L2.St → XK) (ta : TE) (t : TA) : TE := fun σ H Q => ta σ H fun x H1 => ∃ a dx fs, x = .ref a ∧ H1 a = some (.ins C dx fs) ∧ fs.lookup m = none ∧ t σ H1 fun vs H2 => sp (x :: vs) H2 Q (ES σ)
theorem pe_mS {pl : Sem Bool} (F : Mc CX X.prog X.w X.K X.mg X.base k C m sp) (hr : Room j X.A) (hk : k ≤ j) (hx : ∀ σ, PassesAt CX X σ (ES σ)) (ho : PE X o ta) (ha : PA X (e :: es) t)
    (hst : starEach (e :: es) X.env = (false, eval e X.env) :: starEach es X.env := by rfl) (hpl : (backTo pos (starEach es X.env)).any (·.1) = false := by rfl)
    (ht : eval (.Call (.Attribute o m apos) (e :: es) [] pos) X.env = (do
      let ov ← eval o X.env
      standAt apos.atName
      let (f, first) ← holding [ov] (getMethod ov m pl)
      callWith pos f first (backTo pos (starEach (e :: es) X.env)) (backToKw pos (keywordEach [] X.env))) := by rfl) :
    PE X (.Call (.Attribute o m apos) (e :: es) [] pos) (tMethS C m sp ES ta t) := by
  obtain ⟨f, fd, ps, G, c, hm, b⟩ := F.ex
  constructor
  intro pins s σ H Q I h
  refine PySem.W.methodCall_KW (pl := pl) (thn (ho.run pins s σ H _ I h) ?_) ht
  rintro u s1 ⟨y, H1, I1, ry, a, dx, fs, rfl, ea, l, q⟩
  cases ry
  refine getmeth_ok I1 ea c hm l ?_
  refine PySem.W.callWith_K (first := [.ref a]) (h₀ := X.base) I.ok.mod.kin hm.kp (thn (ha.run pos pins s1 σ H1 _ I1 q) ?_) hst hpl
  rintro us s2 ⟨vs, H2, I2, r, q2⟩
  exact ⟨I2.kIn, run_fnS (us := .ref a :: us) (vs := .ref a :: vs) G (hr.mono hk) b (hx σ) I2 (.cons rfl r) q2⟩
/-- a reading out of a family -/
theorem pe_any {ι : Type} {T : ι → TE} (h : ∀ i, PE X e (T i)) : PE X e (fun σ H Q => ∃ i, T i σ H Q) := ⟨fun pins s σ H Q I ⟨i, q⟩ => (h i).run pins s σ H Q I q⟩
theorem pe_imp {T T' : TE} (h : PE X e T) (hi : ∀ σ H Q, T' σ H Q → T σ H Q) : PE X e T' := ⟨fun pins s σ H Q I q => h.run pins s σ H Q I (hi σ H Q q)⟩
theorem ps_any {st : Stmt} {ι : Type} {T : ι → TS} (h : ∀ i, PS X st (T i)) : PS X st (fun D σ H => ∃ i, T i D σ H) := ⟨fun pins s σ H D I ⟨i, q⟩ => (h i).run pins s σ H D I q⟩
/-- C(), C without an __init__ -/
theorem pe_new0 (c : Clz X.K X.mg x C) (b : Bare X.K C) (hg : Gl X x) (hdb : (x == ("__debug__" : Str)) = false := by decide) :
    PE X (.Call (.Name x p) [] [] pos) (fun _ H Q => ∀ a dx, H a = none → H dx = none → dx ≠ a → Q (.ref a) (upd (upd H dx (.own a)) a (.ins C dx []))) := by
  constructor
  intro pins s σ H Q I h
  refine wpAny_Call_Name_kw (ld_glob I hg c.g ?_ hdb)
  refine PySem.W.callWith_K0 I.kIn c.kp (wpAny_call ?_)
  have I2 := Inv.made (C := C) I
  have KX := I2.kIn
  refine make_map0 I.kIn c.mks b.ini (fun self => PySem.W.Looks.of_pure (PySem.W.oi_bind self)) ?_
  have e2 : ((s.heap.push PySem.W.emptyDict).push (PySem.W.instObj C s.heap.objs.size)).get? (s.heap.objs.size + 1) = some (PySem.W.instObj C s.heap.objs.size) := by
    have := Heap.get?_push_size (s.heap.push PySem.W.emptyDict) (o := PySem.W.instObj C s.heap.objs.size) rfl
    rwa [Heap.size_push] at this
  have t1 : PySem.W.Looks (model X.prog X.w) ((s.heap.push PySem.W.emptyDict).push (PySem.W.instObj C s.heap.objs.size)) (typeOf (.ref (s.heap.objs.size + 1))) (.ref C) := (PySem.W.Looks.ld e2).andThen .now
  have t2 : PySem.W.Looks (model X.prog X.w) ((s.heap.push PySem.W.emptyDict).push (PySem.W.instObj C s.heap.objs.size)) (isInstance (.ref (s.heap.objs.size + 1)) (.type "object")) true := t1.andThen (PySem.W.looks_mroIn KX c.hm)
  refine codeAny_call_builtin PySem.W.oi_plain PySem.W.entry_oi (@PySem.W.check_slot (model X.prog X.w) _ _ _ "object.__init__" "object" "__init__" (.ref (s.heap.objs.size + 1)) [] [] _ PySem.W.oi_kind PySem.W.oi_split t2 (PySem.W.oi_args _) ?_)
  rw [PySem.W.oi_run]
  exact wpAny_pure ⟨rfl, V.ref (s.heap.objs.size + 1), _, I2, rfl, h _ _ (I.hok.fresh (Nat.le_succ _)) (I.hok.fresh (Nat.le_refl _)) (Nat.ne_of_lt (Nat.lt_succ_self _))⟩
end
/-- an __init__ -/
structure Ini (K : PySem.W.Frag) (C : Addr) (qual : Str) (st : Stmt) (ps : List Str) (f : Addr) (fd : FuncData) : Prop where
  M : Mk K C f
  F : Fun K "__init__" qual st f fd
  b : Binds K fd ps []
/-- an exception's class -/
structure Exz (K : PySem.W.Frag) (mg : Str → Option Value) (x : Str) (C : Addr) : Prop where
  g : mg x = some (.ref C)
  kp : PySem.W.keepIn K (.ref C) = true
  ex : PySem.W.excIn K C [.type "ValueError", .type "Exception", .type "BaseException", .type "object"] "ValueError.__new__" = true
  bs : PySem.W.subIn K (.ref C) (.type "BaseException") = some true
  ty : PySem.W.typeIn K (.ref C) = some (.type "type")
  is : PySem.W.isClsIn K C = true
  ec : ExcC K C
theorem kit_ref {K : PySem.W.Frag} {C D : Addr} {b : Bool} (h1 : PySem.W.isClsIn K D = true) (h2 : PySem.W.typeIn K (.ref D) = some (.type "type")) (h3 : PySem.W.subIn K (.ref C) (.ref D) = some b) (h4 : C ≠ D ∨ b = true) : PySem.W.kitOne K (.ref C) (.ref D) = some b := by
  unfold PySem.W.kitOne
  by_cases e : C = D
  · subst e
    rw [if_pos (by simp)]
    rcases h4 with h | h
    · exact absurd rfl h
    · rw [h]
  · have ne : ((Value.ref C : Value) == .ref D) = false := by simp [e]
    rw [ne, if_neg Bool.false_ne_true]
    unfold PySem.W.kitCls
    have h1' : (PySem.W.clsIn K D).isSome = true := h1
    have e2 : ((PySem.W.clsIn K D).isSome && PySem.W.typeIn K (.ref D) == some (.type "type")) = true := by rw [h1', h2] <;> rfl
    show (if ((PySem.W.clsIn K D).isSome && PySem.W.typeIn K (.ref D) == some (.type "type")) = true then PySem.W.subIn K (.ref C) (.ref D) else none) = some b
    rw [if_pos e2]
    exact h3
theorem kit_val {K : PySem.W.Frag} {C : Addr} (h : PySem.W.subIn K (.ref C) (.type "ValueError") = some true) : PySem.W.kitOne K (.ref C) (.type "ValueError") = some true := by
  unfold PySem.W.kitOne
  have ne : ((Value.ref C : Value) == .type "ValueError") = false := by simp
  rw [ne, if_neg Bool.false_ne_true]
  show (if PySem.W.kitMeta "ValueError" = true then PySem.W.subIn K (.ref C) (.type "ValueError") else none) = some true
  rw [if_pos (by decide +kernel)]
  exact h
theorem exm_of_kit {K : PySem.W.Frag} {C D : Addr} {b : Bool} (hb : PySem.W.subIn K (.ref D) (.type "BaseException") = some true) (h1 : PySem.W.isClsIn K D = true) (h2 : PySem.W.typeIn K (.ref D) = some (.type "type")) (h3 : PySem.W.subIn K (.ref C) (.ref D) = some b) : PySem.W.exmOne K (.ref C) (.ref D) = some b := by
  unfold PySem.W.exmOne
  have e1 : (PySem.W.subIn K (.ref D) (.type "BaseException") == some true) = true := by rw [hb] <;> rfl
  rw [if_pos e1]
  unfold PySem.W.kitCls
  have h1' : (PySem.W.clsIn K D).isSome = true := h1
  have e2 : ((PySem.W.clsIn K D).isSome && PySem.W.typeIn K (.ref D) == some (.type "type")) = true := by rw [h1', h2] <;> rfl
  show (if ((PySem.W.clsIn K D).isSome && PySem.W.typeIn K (.ref D) == some (.type "type")) = true then PySem.W.subIn K (.ref C) (.ref D) else none) = some b
  rw [if_pos e2]
  exact h3
/-- where the classes stand -/
structure Ad where
  SumError : Addr
  NoWorth : Addr
  NoSum : Addr
  Kind : Addr
  Fewest : Addr
  Widest : Addr
  Counted : Addr
  Likeliest : Addr
  Chances : Addr
  Musts : Addr
  Rests : Addr
/-- the kinds that the text has -/
def Av : Kx → Bool
  | .few => true
  | .wid => true
  | .cnt => true
  | .lik => true
  | .cha => true
  | .mus => true
  | .rst => true
def Ad.C (A : Ad) : Kx → Addr
  | .few => A.Fewest
  | .wid => A.Widest
  | .cnt => A.Counted
  | .lik => A.Likeliest
  | .cha => A.Chances
  | .mus => A.Musts
  | .rst => A.Rests
/-- what the top has written -/
structure Tx (K : PySem.W.Frag) (mg : Str → Option Value) (A : Ad) : Prop where
  d_common : ∃ f fd, Dfn K mg "common" s_common ["one", "other"] f fd
  d_lowest : ∃ f fd, Dfn K mg "lowest" s_lowest ["top", "below"] f fd
  d_added : ∃ f fd, Dfn K mg "added" s_added ["one", "other"] f fd
  d_taken : ∃ f fd, Dfn K mg "taken" s_taken ["one", "other"] f fd
  d_less : ∃ f fd, Dfn K mg "less" s_less ["one", "other"] f fd
  d__law_cell_at : ∃ f fd, Dfn K mg "_law_cell_at" s__law_cell_at ["script", "k"] f fd
  d__law_kind : ∃ f fd, Dfn K mg "_law_kind" s__law_kind ["which", "m"] f fd
  d__law_share : ∃ f fd, Dfn K mg "_law_share" s__law_share ["top", "below"] f fd
  d__law_none : ∃ f fd, Dfn K mg "_law_none" s__law_none ["which"] f fd
  d__law_rest : ∃ f fd, Dfn K mg "_law_rest" s__law_rest ["which"] f fd
  d__law_worth : ∃ f fd, Dfn K mg "_law_worth" s__law_worth ["which", "m", "cell"] f fd
  d__law_rings : ∃ f fd, Dfn K mg "_law_rings" s__law_rings ["kind", "one", "other"] f fd
  c_Kind : Clz K mg "Kind" A.Kind
  b_Kind : Bare K A.Kind
  c_Fewest : Clz K mg "Fewest" A.Fewest
  b_Fewest : Bare K A.Fewest
  c_Widest : Clz K mg "Widest" A.Widest
  b_Widest : Bare K A.Widest
  c_Counted : Clz K mg "Counted" A.Counted
  b_Counted : Bare K A.Counted
  c_Likeliest : Clz K mg "Likeliest" A.Likeliest
  b_Likeliest : Bare K A.Likeliest
  c_Chances : Clz K mg "Chances" A.Chances
  b_Chances : Bare K A.Chances
  c_Musts : Clz K mg "Musts" A.Musts
  b_Musts : Bare K A.Musts
  c_Rests : Clz K mg "Rests" A.Rests
  m_Fewest_none : ∃ f fd, Mth K A.Fewest "none" "Fewest.none" s_Fewest_none ["self"] f fd
  m_Fewest_rest : ∃ f fd, Mth K A.Fewest "rest" "Fewest.rest" s_Fewest_rest ["self"] f fd
  m_Fewest_together : ∃ f fd, Mth K A.Fewest "together" "Fewest.together" s_Fewest_together ["self", "one", "other"] f fd
  m_Fewest_behind : ∃ f fd, Mth K A.Fewest "behind" "Fewest.behind" s_Fewest_behind ["self", "one", "other"] f fd
  m_Fewest_rounds : ∃ f fd, Mth K A.Fewest "rounds" "Fewest.rounds" s_Fewest_rounds ["self", "one"] f fd
  m_Widest_none : ∃ f fd, Mth K A.Widest "none" "Widest.none" s_Widest_none ["self"] f fd
  m_Widest_rest : ∃ f fd, Mth K A.Widest "rest" "Widest.rest" s_Widest_rest ["self"] f fd
  m_Widest_together : ∃ f fd, Mth K A.Widest "together" "Widest.together" s_Widest_together ["self", "one", "other"] f fd
  m_Widest_behind : ∃ f fd, Mth K A.Widest "behind" "Widest.behind" s_Widest_behind ["self", "one", "other"] f fd
  m_Widest_rounds : ∃ f fd, Mth K A.Widest "rounds" "Widest.rounds" s_Widest_rounds ["self", "one"] f fd
  m_Counted_none : ∃ f fd, Mth K A.Counted "none" "Counted.none" s_Counted_none ["self"] f fd
  m_Counted_rest : ∃ f fd, Mth K A.Counted "rest" "Counted.rest" s_Counted_rest ["self"] f fd
  m_Counted_together : ∃ f fd, Mth K A.Counted "together" "Counted.together" s_Counted_together ["self", "one", "other"] f fd
  m_Counted_behind : ∃ f fd, Mth K A.Counted "behind" "Counted.behind" s_Counted_behind ["self", "one", "other"] f fd
  m_Counted_rounds : ∃ f fd, Mth K A.Counted "rounds" "Counted.rounds" s_Counted_rounds ["self", "one"] f fd
  m_Likeliest_none : ∃ f fd, Mth K A.Likeliest "none" "Likeliest.none" s_Likeliest_none ["self"] f fd
  m_Likeliest_rest : ∃ f fd, Mth K A.Likeliest "rest" "Likeliest.rest" s_Likeliest_rest ["self"] f fd
  m_Likeliest_together : ∃ f fd, Mth K A.Likeliest "together" "Likeliest.together" s_Likeliest_together ["self", "one", "other"] f fd
  m_Likeliest_behind : ∃ f fd, Mth K A.Likeliest "behind" "Likeliest.behind" s_Likeliest_behind ["self", "one", "other"] f fd
  m_Likeliest_rounds : ∃ f fd, Mth K A.Likeliest "rounds" "Likeliest.rounds" s_Likeliest_rounds ["self", "one"] f fd
  m_Chances_none : ∃ f fd, Mth K A.Chances "none" "Chances.none" s_Chances_none ["self"] f fd
  m_Chances_rest : ∃ f fd, Mth K A.Chances "rest" "Chances.rest" s_Chances_rest ["self"] f fd
  m_Chances_together : ∃ f fd, Mth K A.Chances "together" "Chances.together" s_Chances_together ["self", "one", "other"] f fd
  m_Chances_behind : ∃ f fd, Mth K A.Chances "behind" "Chances.behind" s_Chances_behind ["self", "one", "other"] f fd
  m_Chances_rounds : ∃ f fd, Mth K A.Chances "rounds" "Chances.rounds" s_Chances_rounds ["self", "one"] f fd
  m_Musts_none : ∃ f fd, Mth K A.Musts "none" "Musts.none" s_Musts_none ["self"] f fd
  m_Musts_rest : ∃ f fd, Mth K A.Musts "rest" "Musts.rest" s_Musts_rest ["self"] f fd
  m_Musts_together : ∃ f fd, Mth K A.Musts "together" "Musts.together" s_Musts_together ["self", "one", "other"] f fd
  m_Musts_behind : ∃ f fd, Mth K A.Musts "behind" "Musts.behind" s_Musts_behind ["self", "one", "other"] f fd
  m_Musts_rounds : ∃ f fd, Mth K A.Musts "rounds" "Musts.rounds" s_Musts_rounds ["self", "one"] f fd
  m_Rests___init__ : ∃ f fd, Ini K A.Rests "Rests.__init__" s_Rests___init__ ["self", "m"] f fd
  m_Rests_none : ∃ f fd, Mth K A.Rests "none" "Rests.none" s_Rests_none ["self"] f fd
  m_Rests_rest : ∃ f fd, Mth K A.Rests "rest" "Rests.rest" s_Rests_rest ["self"] f fd
  m_Rests_together : ∃ f fd, Mth K A.Rests "together" "Rests.together" s_Rests_together ["self", "one", "other"] f fd
  m_Rests_behind : ∃ f fd, Mth K A.Rests "behind" "Rests.behind" s_Rests_behind ["self", "one", "other"] f fd
  m_Rests_rounds : ∃ f fd, Mth K A.Rests "rounds" "Rests.rounds" s_Rests_rounds ["self", "one"] f fd
  x_SumError : Exz K mg "SumError" A.SumError
  x_NoWorth : Exz K mg "NoWorth" A.NoWorth
  x_NoSum : Exz K mg "NoSum" A.NoSum
  k_Fewest_Chances : PySem.W.kitOne K (.ref A.Fewest) (.ref A.Chances) = some false
  k_Widest_Chances : PySem.W.kitOne K (.ref A.Widest) (.ref A.Chances) = some false
  k_Counted_Chances : PySem.W.kitOne K (.ref A.Counted) (.ref A.Chances) = some false
  k_Likeliest_Chances : PySem.W.kitOne K (.ref A.Likeliest) (.ref A.Chances) = some false
  k_Chances_Chances : PySem.W.kitOne K (.ref A.Chances) (.ref A.Chances) = some true
  k_Musts_Chances : PySem.W.kitOne K (.ref A.Musts) (.ref A.Chances) = some false
  k_Rests_Chances : PySem.W.kitOne K (.ref A.Rests) (.ref A.Chances) = some false
  k_SumError_NoSum : PySem.W.kitOne K (.ref A.SumError) (.ref A.NoSum) = some false
  k_NoWorth_NoSum : PySem.W.kitOne K (.ref A.NoWorth) (.ref A.NoSum) = some false
  k_NoSum_NoSum : PySem.W.kitOne K (.ref A.NoSum) (.ref A.NoSum) = some true
  e_SumError_NoSum : PySem.W.exmOne K (.ref A.SumError) (.ref A.NoSum) = some false
  e_NoWorth_NoSum : PySem.W.exmOne K (.ref A.NoWorth) (.ref A.NoSum) = some false
  e_NoSum_NoSum : PySem.W.exmOne K (.ref A.NoSum) (.ref A.NoSum) = some true
  a_Rests_m : NoAttr K A.Rests "m"
  n_len : mg "len" = none
  n_range : mg "range" = none
  n_isinstance : mg "isinstance" = none
  n_min : mg "min" = none
  n_max : mg "max" = none
  n_ValueError : mg "ValueError" = none
  g_WIDEST : ∃ u, mg "WIDEST" = some u ∧ RelV (.int 1000000000) u
  hn : PySem.W.specialIn K (.builtin "object.__class__") "__get__" = some (some (.builtin "getset_descriptor.__get__"))
  ht : PySem.W.takesIn K (.builtin "object.__class__") = some true
/-! ### M2: shares as numbers -/
theorem low_num (t b : Int) (hb : 0 < b) : (Rat.divInt t b).num = t / (Int.gcd t b : Int) := by
  rw [Rat.num_divInt, Int.sign_eq_one_of_pos hb, Int.one_mul, Int.gcd_comm]
theorem low_den (t b : Int) (hb : 0 < b) : ((Rat.divInt t b).den : Int) = b / (Int.gcd t b : Int) := by
  rw [Rat.den_divInt, if_neg (by omega), Int.natCast_ediv, Int.gcd_comm, Int.natAbs_of_nonneg (by omega)]
theorem rat_add (r s : Rat) : Rat.divInt (r.num * s.den + s.num * r.den) (r.den * s.den) = r + s := by
  rw [Rat.add_def', ← Rat.divInt_ofNat, Int.natCast_mul]
theorem rat_mul (r s : Rat) : Rat.divInt (r.num * s.num) (r.den * s.den) = r * s := by
  rw [Rat.mul_def', ← Rat.divInt_ofNat, Int.natCast_mul]
theorem den_pos (r : Rat) : (0 : Int) < r.den := by have := r.den_pos; omega
theorem rat_lt_one (r : Rat) : r < 1 ↔ r.num < r.den := by
  rw [Rat.lt_iff]
  show r.num * 1 < 1 * (r.den : Int) ↔ _
  omega
theorem rat_le_one (r : Rat) : r ≤ 1 ↔ r.num ≤ r.den := by
  rw [Rat.le_iff]
  show r.num * 1 ≤ 1 * (r.den : Int) ↔ _
  omega
theorem rat_star (r : Rat) (h : r < 1) : Rat.divInt r.den (r.den - r.num) = 1 / (1 - r) := by
  have h1 := (rat_lt_one r).1 h
  have hd := den_pos r
  have e : (1 : Rat) - r = Rat.divInt (r.den - r.num) r.den := by
    have e1 : (1 : Rat) = Rat.divInt r.den r.den := (Rat.divInt_self' (by omega)).symm
    have e2 : r = Rat.divInt r.num r.den := (Rat.num_divInt_den r).symm
    conv => lhs; rw [e1]; arg 2; rw [e2]
    rw [Rat.sub_eq_add_neg, Rat.neg_divInt, Rat.divInt_add_divInt _ _ (by omega) (by omega)]
    have : (r.den : Int) * r.den + -r.num * r.den = (r.den - r.num) * r.den := by grind
    rw [this, Rat.divInt_mul_right (by omega)]
  rw [e, Rat.div_def, Rat.inv_divInt, Rat.one_mul]
theorem gcd_step (a b : Int) : Int.gcd b (a % b) = Int.gcd a b := by
  rw [Int.gcd_comm b, Int.emod_def]; simp
theorem gcd_pos' (a b : Int) (h : 0 < b) : (0 : Int) < (Int.gcd a b : Int) := by
  have := Int.gcd_pos_of_ne_zero_right a (b := b) (by omega)
  omega
theorem gcd_le' (a b : Int) (h : 0 < b) : (Int.gcd a b : Int) ≤ b := Int.gcd_le_right a h
theorem rat_dvi {t b : Int} (ht : 0 ≤ t) (hb : 0 < b) : 0 ≤ Rat.divInt t b := by
  rw [← Rat.num_nonneg, Rat.num_divInt, Int.sign_eq_one_of_pos hb, Int.one_mul]
  exact Int.ediv_nonneg ht (by omega)
theorem rat_dvi1 {t b : Int} (htb : t ≤ b) (hb : 0 < b) : Rat.divInt t b ≤ 1 := by
  rw [rat_le_one, low_num t b hb, low_den t b hb]
  exact Int.ediv_le_ediv (gcd_pos' t b hb) htb
theorem good_law {k : Kd} (h : KOk k) (c : Int) : Good k (lawW k c) := by
  unfold lawW
  split
  · exact good_none k
  split
  · exact good_rest h
  have hp : (0 : Int) < 10 ^ 30 := by decide
  cases k with
  | few => show 0 ≤ (if c % 6 < 5 then c / 6 % 20 else c / 6 % 10 ^ 30); split <;> exact Int.emod_nonneg _ (by decide)
  | wid =>
    show 0 ≤ (if c % 6 < 5 then c / 6 % 20 else c / 6 % (10 ^ 9 + 1)) ∧ (if c % 6 < 5 then c / 6 % 20 else c / 6 % (10 ^ 9 + 1)) ≤ 1000000000
    split <;> omega
  | cnt => show -1 ≤ (if c % 6 < 5 then c / 6 % 5 - 1 else c / 6 % 10 ^ 30); split <;> omega
  | lik =>
    have hb0 : 0 ≤ c / 6 / 7 % 12 := Int.emod_nonneg _ (by decide)
    have h1 := Int.emod_nonneg (c / 6) (b := 1 + c / 6 / 7 % 12 + 1) (by omega)
    have h2 := Int.emod_lt_of_pos (c / 6) (b := 1 + c / 6 / 7 % 12 + 1) (by omega)
    exact ⟨rat_dvi h1 (by omega), rat_dvi1 (by omega) (by omega)⟩
  | cha =>
    have hb0 : 0 ≤ c / 6 / 9 % 12 := Int.emod_nonneg _ (by decide)
    exact rat_dvi (Int.emod_nonneg _ (by decide)) (by omega)
  | mus => show 0 ≤ (if c % 6 < 5 then c / 6 % 16 else c / 6 % 10 ^ 30); split <;> exact Int.emod_nonneg _ (by decide)
  | rst m => exact ⟨Int.emod_nonneg _ (by have : (0 : Int) < 2 ^ m := Int.pow_pos (by decide); omega), Int.emod_lt_of_pos _ (Int.pow_pos (by decide))⟩
theorem sz_int {i : Int} {n : Nat} (h : i.natAbs < 2 ^ n) (hn : 0 < n) : sz (.int i) ≤ n := by
  simp only [sz]
  by_cases h0 : i.natAbs = 0
  · rw [h0]; simp; omega
  · have := (Nat.log2_lt h0).2 h
    omega
theorem log2_lt_of {a n : Nat} (h : a < 2 ^ n) (hn : 0 < n) : a.log2 < n := by
  by_cases h0 : a = 0
  · rw [h0]; simpa using hn
  · exact (Nat.log2_lt h0).2 h
theorem sz_rat {r : Rat} {n : Nat} (h : r.num.natAbs < 2 ^ n) (h2 : r.den < 2 ^ n) (hn : 0 < n) : sz (.rat r) ≤ n := by
  simp only [sz]
  have := log2_lt_of h hn
  have := log2_lt_of h2 hn
  omega
theorem dvi_num_le {t b : Int} (ht : 0 ≤ t) (hb : 0 < b) : (Rat.divInt t b).num ≤ t ∧ 0 ≤ (Rat.divInt t b).num := by
  rw [low_num t b hb]
  exact ⟨Int.ediv_le_self _ ht, Int.ediv_nonneg ht (by omega)⟩
theorem dvi_den_le {t b : Int} (hb : 0 < b) : ((Rat.divInt t b).den : Int) ≤ b := by
  rw [low_den t b hb]
  exact Int.ediv_le_self _ (by omega)
theorem sz_dvi {t b : Int} {n : Nat} (ht : 0 ≤ t) (hb : 0 < b) (h1 : t < 2 ^ n) (h2 : b < 2 ^ n) (hn : 0 < n) : sz (.rat (Rat.divInt t b)) ≤ n := by
  have a := dvi_num_le ht hb
  have c := dvi_den_le (t := t) hb
  refine sz_rat ?_ ?_ hn
  · have : ((Rat.divInt t b).num.natAbs : Int) < ((2 ^ n : Nat) : Int) := by rw [Int.natCast_pow]; show _ < (2 : Int) ^ n; omega
    omega
  · have : ((Rat.divInt t b).den : Int) < ((2 ^ n : Nat) : Int) := by rw [Int.natCast_pow]; show _ < (2 : Int) ^ n; omega
    omega
theorem sz_law {k : Kd} (h : KOk k) (c : Int) : sz (lawW k c) ≤ 100 := by
  unfold lawW
  split
  · cases k <;> first | decide | (show sz (.int _) ≤ 100; decide)
  split
  · cases k <;> first | decide | (show sz (.int _) ≤ 100; decide)
  have hp : (10 : Int) ^ 30 < 2 ^ 100 := by decide
  have hp9 : (10 : Int) ^ 9 + 1 < 2 ^ 100 := by decide
  have hp2 : ((2 : Nat) ^ 100 : Nat) = (2 : Int) ^ 100 := by decide
  have ib : ∀ {i : Int}, -1 ≤ i → i < 2 ^ 100 → sz (.int i) ≤ 100 := fun h0 h1 => sz_int (by omega) (by decide)
  have lt30 : ∀ x : Int, x % 10 ^ 30 < 2 ^ 100 := fun x => Int.lt_trans (Int.emod_lt_of_pos _ (by decide)) hp
  have nn30 : ∀ x : Int, 0 ≤ x % 10 ^ 30 := fun x => Int.emod_nonneg _ (by decide)
  cases k with
  | few =>
    refine ib ?_ ?_
    · show -1 ≤ (if c % 6 < 5 then c / 6 % 20 else c / 6 % 10 ^ 30); have := nn30 (c / 6); split <;> omega
    · show (if c % 6 < 5 then c / 6 % 20 else c / 6 % 10 ^ 30) < 2 ^ 100; have := lt30 (c / 6); split <;> omega
  | wid =>
    refine ib ?_ ?_
    · show -1 ≤ (if c % 6 < 5 then c / 6 % 20 else c / 6 % (10 ^ 9 + 1)); split <;> omega
    · show (if c % 6 < 5 then c / 6 % 20 else c / 6 % (10 ^ 9 + 1)) < 2 ^ 100; split <;> omega
  | cnt =>
    refine ib ?_ ?_
    · show -1 ≤ (if c % 6 < 5 then c / 6 % 5 - 1 else c / 6 % 10 ^ 30); have := nn30 (c / 6); split <;> omega
    · show (if c % 6 < 5 then c / 6 % 5 - 1 else c / 6 % 10 ^ 30) < 2 ^ 100; have := lt30 (c / 6); split <;> omega
  | lik =>
    have hb0 : 0 ≤ c / 6 / 7 % 12 := Int.emod_nonneg _ (by decide)
    have hb1 : c / 6 / 7 % 12 < 12 := Int.emod_lt_of_pos _ (by decide)
    have h1 := Int.emod_nonneg (c / 6) (b := 1 + c / 6 / 7 % 12 + 1) (by omega)
    have h2 := Int.emod_lt_of_pos (c / 6) (b := 1 + c / 6 / 7 % 12 + 1) (by omega)
    have h16 : (2 : Int) ^ 4 = 16 := by decide
    exact Nat.le_trans (sz_dvi (n := 4) h1 (by omega) (by omega) (by omega) (by decide)) (by decide)
  | cha =>
    have hb0 : 0 ≤ c / 6 / 9 % 12 := Int.emod_nonneg _ (by decide)
    have hb1 : c / 6 / 9 % 12 < 12 := Int.emod_lt_of_pos _ (by decide)
    have h16 : (2 : Int) ^ 4 = 16 := by decide
    exact Nat.le_trans (sz_dvi (n := 4) (Int.emod_nonneg _ (by decide)) (by omega) (by omega) (by omega) (by decide)) (by decide)
  | mus =>
    refine ib ?_ ?_
    · show -1 ≤ (if c % 6 < 5 then c / 6 % 16 else c / 6 % 10 ^ 30); have := nn30 (c / 6); split <;> omega
    · show (if c % 6 < 5 then c / 6 % 16 else c / 6 % 10 ^ 30) < 2 ^ 100; have := lt30 (c / 6); split <;> omega
  | rst m =>
    have hm : (2 : Nat) ^ m ≤ 2 ^ 12 := Nat.pow_le_pow_right (by decide) h.2
    have hm' : (2 : Int) ^ m ≤ 2 ^ 12 := by exact_mod_cast hm
    have h0 : (0 : Int) < 2 ^ m := Int.pow_pos (by decide)
    have h1 := Int.emod_nonneg (c / 6) (b := 2 ^ m) (by omega)
    have h2 := Int.emod_lt_of_pos (c / 6) h0
    have h4 : (2 : Int) ^ 12 < 2 ^ 100 := by decide
    exact ib (show -1 ≤ c / 6 % 2 ^ m by omega) (show c / 6 % 2 ^ m < 2 ^ 100 by omega)
theorem fits_small {k : Kd} {a b : Wo} (ha : sz a ≤ 4000) (hb : sz b ≤ 4000) : Fits k a b := by cases k <;> first | trivial | (show sz a + sz b ≤ _; omega)
theorem fit1_small {k : Kd} {a : Wo} (ha : sz a ≤ 4000) : Fit1 k a := by cases k <;> first | trivial | (show sz a ≤ _; omega)
/-! ### M3: the deeds' laws (plain Lean) -/
def cntT (i j : Int) : Int := if i = -1 ∨ j = -1 then -1 else i + j
def cntB (i j : Int) : Int := if i = 0 ∨ j = 0 then 0 else if i = -1 ∨ j = -1 then -1 else i * j
def likT (r s : Rat) : Rat := if r < s then s else r
def minI (i j : Int) : Int := if j < i then j else i
def maxI (i j : Int) : Int := if j > i then j else i
theorem tog_few (i j : Int) : tog .few (.int i) (.int j) = .int (minI i j) := rfl
theorem tog_few_n (a : Wo) : tog .few .non a = a := by cases a <;> rfl
theorem tog_few_m (a : Wo) : tog .few a .non = a := by cases a <;> rfl
theorem tog_mus_n (a : Wo) : tog .mus .non a = a := by cases a <;> rfl
theorem tog_mus_m (a : Wo) : tog .mus a .non = a := by cases a <;> rfl
theorem tog_wid (i j : Int) : tog .wid (.int i) (.int j) = .int (maxI i j) := rfl
theorem beh_wid (i j : Int) : beh .wid (.int i) (.int j) = .int (minI i j) := rfl
theorem tog_cnt (i j : Int) : tog .cnt (.int i) (.int j) = .int (cntT i j) := by simp only [tog, cntT]; split <;> rfl
theorem beh_cnt (i j : Int) : beh .cnt (.int i) (.int j) = .int (cntB i j) := by
  simp only [beh, cntB]
  split
  · rfl
  split <;> rfl
theorem tog_lik (r s : Rat) : tog .lik (.rat r) (.rat s) = .rat (likT r s) := by simp only [tog, likT]; split <;> rfl
/-- the shape of a worth -/
theorem good_few {a : Wo} (h : Good .few a) : a = .non ∨ ∃ i, a = .int i ∧ 0 ≤ i := by
  cases a with
  | non => exact .inl rfl
  | int i => exact .inr ⟨i, rfl, h⟩
  | rat r => exact h.elim
theorem good_mus {a : Wo} (h : Good .mus a) : a = .non ∨ ∃ n : Nat, a = .int n := by
  cases a with
  | non => exact .inl rfl
  | int i => exact .inr ⟨i.toNat, by have h' : 0 ≤ i := h; rw [Int.toNat_of_nonneg h']⟩
  | rat r => exact h.elim
theorem good_wid {a : Wo} (h : Good .wid a) : ∃ i, a = .int i ∧ 0 ≤ i ∧ i ≤ 1000000000 := by
  cases a with
  | int i => exact ⟨i, rfl, h⟩
  | _ => exact h.elim
theorem good_cnt {a : Wo} (h : Good .cnt a) : ∃ i, a = .int i ∧ -1 ≤ i := by
  cases a with
  | int i => exact ⟨i, rfl, h⟩
  | _ => exact h.elim
theorem good_lik {a : Wo} (h : Good .lik a) : ∃ r, a = .rat r ∧ 0 ≤ r ∧ r ≤ 1 := by
  cases a with
  | rat i => exact ⟨i, rfl, h⟩
  | _ => exact h.elim
theorem good_cha {a : Wo} (h : Good .cha a) : ∃ r, a = .rat r ∧ 0 ≤ r := by
  cases a with
  | rat i => exact ⟨i, rfl, h⟩
  | _ => exact h.elim
theorem good_rst {m : Nat} {a : Wo} (h : Good (.rst m) a) : ∃ n : Nat, a = .int n ∧ n < 2 ^ m := by
  cases a with
  | int i => exact ⟨i.toNat, by rw [Int.toNat_of_nonneg h.1], by
      have h1 := h.1
      have : ((i.toNat : Nat) : Int) < ((2 ^ m : Nat) : Int) := by rw [Int.natCast_pow, Int.toNat_of_nonneg h1]; exact h.2
      omega⟩
  | _ => exact h.elim
theorem rst_good {m n : Nat} (h : n < 2 ^ m) : Good (.rst m) (.int n) := ⟨by omega, by exact_mod_cast h⟩
theorem beh_few (i j : Int) : beh .few (.int i) (.int j) = .int (i + j) := rfl
theorem beh_few_n (a : Wo) : beh .few .non a = .non := by cases a <;> rfl
theorem beh_few_m (a : Wo) : beh .few a .non = .non := by cases a <;> rfl
theorem beh_mus_n (a : Wo) : beh .mus .non a = .non := by cases a <;> rfl
theorem beh_mus_m (a : Wo) : beh .mus a .non = .non := by cases a <;> rfl
theorem tog_mus (i j : Nat) : tog .mus (.int i) (.int j) = .int ((i &&& j : Nat) : Int) := rfl
theorem beh_mus (i j : Nat) : beh .mus (.int i) (.int j) = .int ((i ||| j : Nat) : Int) := rfl
theorem tog_rst (m i j : Nat) : tog (.rst m) (.int i) (.int j) = .int ((i ||| j : Nat) : Int) := rfl
theorem beh_rst (m i j : Nat) : beh (.rst m) (.int i) (.int j) = .int ((rbeh m i j : Nat) : Int) := rfl
theorem tog_cha (r s : Rat) : tog .cha (.rat r) (.rat s) = .rat (r + s) := rfl
theorem beh_cha (r s : Rat) : beh .cha (.rat r) (.rat s) = .rat (r * s) := rfl
theorem beh_lik (r s : Rat) : beh .lik (.rat r) (.rat s) = .rat (r * s) := rfl
theorem mul_le_one {r s : Rat} (h0 : 0 ≤ r) (h1 : r ≤ 1) (g1 : s ≤ 1) : r * s ≤ 1 := by
  have := Rat.mul_le_mul_of_nonneg_left g1 h0
  grind
theorem good_tog {k : Kd} {a b : Wo} (ha : Good k a) (hb : Good k b) : Good k (tog k a b) := by
  cases k with
  | few =>
    rcases good_few ha with rfl | ⟨i, rfl, hi⟩
    · rw [tog_few_n]; exact hb
    rcases good_few hb with rfl | ⟨j, rfl, hj⟩
    · exact ha
    · rw [tog_few]; show 0 ≤ minI i j; unfold minI; split <;> omega
  | mus =>
    rcases good_mus ha with rfl | ⟨i, rfl⟩
    · rw [tog_mus_n]; exact hb
    rcases good_mus hb with rfl | ⟨j, rfl⟩
    · exact ha
    · rw [tog_mus]; show (0 : Int) ≤ _; omega
  | wid =>
    obtain ⟨i, rfl, hi⟩ := good_wid ha
    obtain ⟨j, rfl, hj⟩ := good_wid hb
    rw [tog_wid]; show 0 ≤ maxI i j ∧ maxI i j ≤ 1000000000; unfold maxI; split <;> omega
  | cnt =>
    obtain ⟨i, rfl, hi⟩ := good_cnt ha
    obtain ⟨j, rfl, hj⟩ := good_cnt hb
    rw [tog_cnt]; show -1 ≤ cntT i j; unfold cntT; split <;> omega
  | lik =>
    obtain ⟨r, rfl, hr⟩ := good_lik ha
    obtain ⟨s, rfl, hs⟩ := good_lik hb
    rw [tog_lik]; show 0 ≤ likT r s ∧ likT r s ≤ 1; unfold likT; split <;> assumption
  | cha =>
    obtain ⟨r, rfl, hr⟩ := good_cha ha
    obtain ⟨s, rfl, hs⟩ := good_cha hb
    exact Rat.add_nonneg hr hs
  | rst m =>
    obtain ⟨i, rfl, hi⟩ := good_rst ha
    obtain ⟨j, rfl, hj⟩ := good_rst hb
    rw [tog_rst]; exact rst_good (Nat.or_lt_two_pow hi hj)
theorem good_beh {k : Kd} {a b : Wo} (ha : Good k a) (hb : Good k b) : Good k (beh k a b) := by
  cases k with
  | few =>
    rcases good_few ha with rfl | ⟨i, rfl, hi⟩
    · rw [beh_few_n]; trivial
    rcases good_few hb with rfl | ⟨j, rfl, hj⟩
    · trivial
    · show 0 ≤ i + j; omega
  | mus =>
    rcases good_mus ha with rfl | ⟨i, rfl⟩
    · rw [beh_mus_n]; trivial
    rcases good_mus hb with rfl | ⟨j, rfl⟩
    · trivial
    · rw [beh_mus]; show (0 : Int) ≤ _; omega
  | wid =>
    obtain ⟨i, rfl, hi⟩ := good_wid ha
    obtain ⟨j, rfl, hj⟩ := good_wid hb
    rw [beh_wid]; show 0 ≤ minI i j ∧ minI i j ≤ 1000000000; unfold minI; split <;> omega
  | cnt =>
    obtain ⟨i, rfl, hi⟩ := good_cnt ha
    obtain ⟨j, rfl, hj⟩ := good_cnt hb
    rw [beh_cnt]; show -1 ≤ cntB i j; unfold cntB
    split
    · omega
    split
    · omega
    · have : 0 ≤ i * j := Int.mul_nonneg (by omega) (by omega)
      omega
  | lik =>
    obtain ⟨r, rfl, hr⟩ := good_lik ha
    obtain ⟨s, rfl, hs⟩ := good_lik hb
    exact ⟨Rat.mul_nonneg hr.1 hs.1, mul_le_one hr.1 hr.2 hs.2⟩
  | cha =>
    obtain ⟨r, rfl, hr⟩ := good_cha ha
    obtain ⟨s, rfl, hs⟩ := good_cha hb
    exact Rat.mul_nonneg hr hs
  | rst m =>
    obtain ⟨i, rfl, hi⟩ := good_rst ha
    obtain ⟨j, rfl, hj⟩ := good_rst hb
    rw [beh_rst]; exact rst_good (rbeh_lt _ _ _)
theorem rat_inv_nonneg {r : Rat} (h : r < 1) : 0 ≤ 1 / (1 - r) := by
  have h1 : 0 < 1 - r := by grind
  rw [Rat.div_def, Rat.one_mul]
  have h2 : 0 < (1 - r)⁻¹ := Rat.inv_pos.2 h1
  grind
theorem good_rnd {k : Kd} (hk : KOk k) {a s : Wo} (ha : Good k a) (h : rnd k a = some s) : Good k s := by
  cases k with
  | few => cases h; show (0 : Int) ≤ 0; decide
  | mus => cases h; show (0 : Int) ≤ 0; decide
  | wid => cases h; show (0 : Int) ≤ 1000000000 ∧ (1000000000 : Int) ≤ 1000000000; decide
  | lik => cases h; show (0 : Rat) ≤ 1 ∧ (1 : Rat) ≤ 1; decide
  | cnt =>
    obtain ⟨i, rfl, hi⟩ := good_cnt ha
    cases h; show -1 ≤ (if i = 0 then (1 : Int) else -1); split <;> omega
  | cha =>
    obtain ⟨r, rfl, hr⟩ := good_cha ha
    simp only [rnd] at h
    split at h
    · cases h; exact rat_inv_nonneg (by assumption)
    · cases h
  | rst m =>
    obtain ⟨i, rfl, hi⟩ := good_rst ha
    cases h; exact rst_good (rstar_lt hk.1 _)
/-! the laws -/
theorem minI_assoc (a b c : Int) : minI (minI a b) c = minI a (minI b c) := by unfold minI; grind
theorem maxI_assoc (a b c : Int) : maxI (maxI a b) c = maxI a (maxI b c) := by unfold maxI; grind
theorem minI_comm (a b : Int) : minI a b = minI b a := by unfold minI; split <;> split <;> omega
theorem maxI_comm (a b : Int) : maxI a b = maxI b a := by unfold maxI; split <;> split <;> omega
theorem cntT_assoc {a b c : Int} (ha : -1 ≤ a) (hb : -1 ≤ b) (hc : -1 ≤ c) : cntT (cntT a b) c = cntT a (cntT b c) := by
  unfold cntT; split <;> split <;> (repeat' split) <;> omega
theorem cntT_comm (a b : Int) : cntT a b = cntT b a := by unfold cntT; split <;> split <;> omega
theorem likT_assoc (a b c : Rat) : likT (likT a b) c = likT a (likT b c) := by unfold likT; grind
theorem likT_comm (a b : Rat) : likT a b = likT b a := by unfold likT; grind
theorem cntB_comm (a b : Int) : cntB a b = cntB b a := by
  unfold cntB; rw [Int.mul_comm]; split <;> split <;> (repeat' split) <;> omega
theorem mul_cases {a b : Int} (ha : -1 ≤ a) (hb : -1 ≤ b) (h0 : ¬ (a = 0 ∨ b = 0)) (h1 : ¬ (a = -1 ∨ b = -1)) : 1 ≤ a * b := by
  have := Int.mul_pos (show 0 < a by omega) (show 0 < b by omega)
  omega
theorem cntB_assoc {a b c : Int} (ha : -1 ≤ a) (hb : -1 ≤ b) (hc : -1 ≤ c) : cntB (cntB a b) c = cntB a (cntB b c) := by
  have fin : ∀ {x : Int}, -1 ≤ x → x = 0 ∨ x = -1 ∨ 1 ≤ x := fun h => by omega
  rcases fin ha with rfl | rfl | ha <;> rcases fin hb with rfl | rfl | hb <;> rcases fin hc with rfl | rfl | hc
  all_goals unfold cntB
  all_goals first
    | (have p1 := Int.mul_pos (show 0 < a by omega) (show 0 < b by omega); have p2 := Int.mul_pos (show 0 < b by omega) (show 0 < c by omega)
       rw [if_neg (show ¬ (a = 0 ∨ b = 0) by omega), if_neg (show ¬ (a = -1 ∨ b = -1) by omega), if_neg (show ¬ (b = 0 ∨ c = 0) by omega), if_neg (show ¬ (b = -1 ∨ c = -1) by omega),
        if_neg (show ¬ (a * b = 0 ∨ c = 0) by omega), if_neg (show ¬ (a * b = -1 ∨ c = -1) by omega), if_neg (show ¬ (a = 0 ∨ b * c = 0) by omega), if_neg (show ¬ (a = -1 ∨ b * c = -1) by omega), Int.mul_assoc])
    | (simp; done)
    | (simp; omega)
    | skip
  all_goals first
    | (have p1 := Int.mul_pos (show 0 < a by omega) (show 0 < b by omega); simp; omega)
    | (have p1 := Int.mul_pos (show 0 < b by omega) (show 0 < c by omega); simp; omega)
    | skip
theorem few_dist (i j l : Int) : i + minI j l = minI (i + j) (i + l) := by unfold minI; grind
theorem wid_dist (i j l : Int) : minI i (maxI j l) = maxI (minI i j) (minI i l) := by unfold minI maxI; grind
theorem lik_dist {r s t : Rat} (h : 0 ≤ r) : r * likT s t = likT (r * s) (r * t) := by
  unfold likT
  by_cases h1 : s < t
  · rw [if_pos h1]
    by_cases h2 : r * s < r * t
    · rw [if_pos h2]
    · rw [if_neg h2]
      have := Rat.mul_le_mul_of_nonneg_left (show s ≤ t by grind) h
      grind
  · rw [if_neg h1]
    have := Rat.mul_le_mul_of_nonneg_left (show t ≤ s by grind) h
    rw [if_neg (by grind)]
theorem cnt_dist {a b c : Int} (ha : -1 ≤ a) (hb : -1 ≤ b) (hc : -1 ≤ c) : cntB a (cntT b c) = cntT (cntB a b) (cntB a c) := by
  have fin : ∀ {x : Int}, -1 ≤ x → x = 0 ∨ x = -1 ∨ 1 ≤ x := fun h => by omega
  rcases fin ha with rfl | rfl | ha
  · simp [cntB, cntT]
  · rcases fin hb with rfl | rfl | hb <;> rcases fin hc with rfl | rfl | hc <;> simp [cntB, cntT] <;> (repeat' split) <;> omega
  · rcases fin hb with rfl | rfl | hb <;> rcases fin hc with rfl | rfl | hc
    all_goals simp only [cntB, cntT]
    all_goals first
      | (have p1 := Int.mul_pos (show 0 < a by omega) (show 0 < b by omega); have p2 := Int.mul_pos (show 0 < a by omega) (show 0 < c by omega); grind)
      | (have p1 := Int.mul_pos (show 0 < a by omega) (show 0 < b by omega); grind)
      | (have p2 := Int.mul_pos (show 0 < a by omega) (show 0 < c by omega); grind)
      | grind
theorem rbeh_comm (m a b : Nat) : rbeh m a b = rbeh m b a := by
  refine Nat.eq_of_testBit_eq fun r => ?_
  rw [Bool.eq_iff_iff, testBit_rbeh, testBit_rbeh]
  constructor
  · rintro ⟨h, i, j, hi, hj, ha, hb, e⟩; exact ⟨h, j, i, hj, hi, hb, ha, by rw [Nat.add_comm]; exact e⟩
  · rintro ⟨h, i, j, hi, hj, ha, hb, e⟩; exact ⟨h, j, i, hj, hi, hb, ha, by rw [Nat.add_comm]; exact e⟩
theorem rbeh_or (m a b c : Nat) : rbeh m a (b ||| c) = rbeh m a b ||| rbeh m a c := by
  refine Nat.eq_of_testBit_eq fun r => ?_
  rw [Bool.eq_iff_iff, Nat.testBit_or, Bool.or_eq_true, testBit_rbeh, testBit_rbeh, testBit_rbeh]
  constructor
  · rintro ⟨h, i, j, hi, hj, ha, hb, e⟩
    rw [Nat.testBit_or, Bool.or_eq_true] at hb
    rcases hb with hb | hb
    · exact .inl ⟨h, i, j, hi, hj, ha, hb, e⟩
    · exact .inr ⟨h, i, j, hi, hj, ha, hb, e⟩
  · rintro (⟨h, i, j, hi, hj, ha, hb, e⟩ | ⟨h, i, j, hi, hj, ha, hb, e⟩)
    · exact ⟨h, i, j, hi, hj, ha, by rw [Nat.testBit_or, hb, Bool.true_or], e⟩
    · exact ⟨h, i, j, hi, hj, ha, by rw [Nat.testBit_or, hb, Bool.or_true], e⟩
theorem rbeh_assoc (m a b c : Nat) : rbeh m (rbeh m a b) c = rbeh m a (rbeh m b c) := by
  refine Nat.eq_of_testBit_eq fun r => ?_
  rw [Bool.eq_iff_iff, testBit_rbeh, testBit_rbeh]
  constructor
  · rintro ⟨h, i, l, hi, hl, ha, hc, e⟩
    obtain ⟨_, i', j', h1, h2, h3, h4, h5⟩ := (testBit_rbeh m a b i).1 ha
    refine ⟨h, i', (j' + l) % m, h1, Nat.mod_lt _ (by omega), h3, (testBit_rbeh m b c _).2 ⟨Nat.mod_lt _ (by omega), j', l, h2, hl, h4, hc, rfl⟩, ?_⟩
    rw [← e, ← h5, Nat.add_mod_mod, Nat.mod_add_mod, Nat.add_assoc]
  · rintro ⟨h, i, l, hi, hl, ha, hc, e⟩
    obtain ⟨_, i', j', h1, h2, h3, h4, h5⟩ := (testBit_rbeh m b c l).1 hc
    refine ⟨h, (i + i') % m, j', Nat.mod_lt _ (by omega), h2, (testBit_rbeh m a b _).2 ⟨Nat.mod_lt _ (by omega), i, i', hi, h1, ha, h3, rfl⟩, h4, ?_⟩
    rw [← e, ← h5, Nat.add_mod_mod, Nat.mod_add_mod, Nat.add_assoc]
theorem rbeh_zero (m a : Nat) : rbeh m a 0 = 0 := by
  refine Nat.eq_of_testBit_eq fun r => ?_
  rw [Bool.eq_iff_iff, testBit_rbeh, Nat.zero_testBit]
  constructor
  · rintro ⟨h, i, j, hi, hj, ha, hb, e⟩; rw [Nat.zero_testBit] at hb; cases hb
  · intro z; cases z
theorem rbeh_one {m a : Nat} (ha : a < 2 ^ m) : rbeh m a 1 = a := by
  refine Nat.eq_of_testBit_eq fun r => ?_
  rw [Bool.eq_iff_iff, testBit_rbeh]
  constructor
  · rintro ⟨h, i, j, hi, hj, ha, hb, e⟩
    have hj0 : j = 0 := by
      rw [Nat.testBit_one_eq_true_iff_self_eq_zero] at hb; exact hb
    subst hj0
    rw [Nat.add_zero, Nat.mod_eq_of_lt hi] at e
    subst e; exact ha
  · intro h
    have hr : r < m := by
      refine Classical.byContradiction fun z => ?_
      rw [testBit_above ha (by omega)] at h; cases h
    exact ⟨hr, r, 0, hr, by omega, h, by simp, by rw [Nat.add_zero, Nat.mod_eq_of_lt hr]⟩
theorem tog_assoc {k : Kd} {a b c : Wo} (ha : Good k a) (hb : Good k b) (hc : Good k c) : tog k (tog k a b) c = tog k a (tog k b c) := by
  cases k with
  | few =>
    rcases good_few ha with rfl | ⟨i, rfl, _⟩
    · rw [tog_few_n, tog_few_n]
    rcases good_few hb with rfl | ⟨j, rfl, _⟩
    · rw [tog_few_m, tog_few_n]
    rcases good_few hc with rfl | ⟨l, rfl, _⟩
    · rw [tog_few_m, tog_few_m]
    rw [tog_few, tog_few, tog_few, tog_few, minI_assoc]
  | mus =>
    rcases good_mus ha with rfl | ⟨i, rfl⟩
    · rw [tog_mus_n, tog_mus_n]
    rcases good_mus hb with rfl | ⟨j, rfl⟩
    · rw [tog_mus_m, tog_mus_n]
    rcases good_mus hc with rfl | ⟨l, rfl⟩
    · rw [tog_mus_m, tog_mus_m]
    rw [tog_mus, tog_mus, tog_mus, tog_mus, Nat.and_assoc]
  | wid =>
    obtain ⟨i, rfl, _⟩ := good_wid ha
    obtain ⟨j, rfl, _⟩ := good_wid hb
    obtain ⟨l, rfl, _⟩ := good_wid hc
    rw [tog_wid, tog_wid, tog_wid, tog_wid, maxI_assoc]
  | cnt =>
    obtain ⟨i, rfl, hi⟩ := good_cnt ha
    obtain ⟨j, rfl, hj⟩ := good_cnt hb
    obtain ⟨l, rfl, hl⟩ := good_cnt hc
    rw [tog_cnt, tog_cnt, tog_cnt, tog_cnt, cntT_assoc hi hj hl]
  | lik =>
    obtain ⟨i, rfl, _⟩ := good_lik ha
    obtain ⟨j, rfl, _⟩ := good_lik hb
    obtain ⟨l, rfl, _⟩ := good_lik hc
    rw [tog_lik, tog_lik, tog_lik, tog_lik, likT_assoc]
  | cha =>
    obtain ⟨i, rfl, _⟩ := good_cha ha
    obtain ⟨j, rfl, _⟩ := good_cha hb
    obtain ⟨l, rfl, _⟩ := good_cha hc
    rw [tog_cha, tog_cha, tog_cha, tog_cha, Rat.add_assoc]
  | rst m =>
    obtain ⟨i, rfl, _⟩ := good_rst ha
    obtain ⟨j, rfl, _⟩ := good_rst hb
    obtain ⟨l, rfl, _⟩ := good_rst hc
    rw [tog_rst, tog_rst, tog_rst, tog_rst, Nat.or_assoc]
theorem tog_comm {k : Kd} {a b : Wo} (ha : Good k a) (hb : Good k b) : tog k a b = tog k b a := by
  cases k with
  | few =>
    rcases good_few ha with rfl | ⟨i, rfl, _⟩
    · rw [tog_few_n, tog_few_m]
    rcases good_few hb with rfl | ⟨j, rfl, _⟩
    · rw [tog_few_m, tog_few_n]
    rw [tog_few, tog_few, minI_comm]
  | mus =>
    rcases good_mus ha with rfl | ⟨i, rfl⟩
    · rw [tog_mus_n, tog_mus_m]
    rcases good_mus hb with rfl | ⟨j, rfl⟩
    · rw [tog_mus_m, tog_mus_n]
    rw [tog_mus, tog_mus, Nat.and_comm]
  | wid =>
    obtain ⟨i, rfl, _⟩ := good_wid ha
    obtain ⟨j, rfl, _⟩ := good_wid hb
    rw [tog_wid, tog_wid, maxI_comm]
  | cnt =>
    obtain ⟨i, rfl, hi⟩ := good_cnt ha
    obtain ⟨j, rfl, hj⟩ := good_cnt hb
    rw [tog_cnt, tog_cnt, cntT_comm]
  | lik =>
    obtain ⟨i, rfl, _⟩ := good_lik ha
    obtain ⟨j, rfl, _⟩ := good_lik hb
    rw [tog_lik, tog_lik, likT_comm]
  | cha =>
    obtain ⟨i, rfl, _⟩ := good_cha ha
    obtain ⟨j, rfl, _⟩ := good_cha hb
    rw [tog_cha, tog_cha, Rat.add_comm]
  | rst m =>
    obtain ⟨i, rfl, _⟩ := good_rst ha
    obtain ⟨j, rfl, _⟩ := good_rst hb
    rw [tog_rst, tog_rst, Nat.or_comm]
theorem beh_comm {k : Kd} {a b : Wo} (ha : Good k a) (hb : Good k b) : beh k a b = beh k b a := by
  cases k with
  | few =>
    rcases good_few ha with rfl | ⟨i, rfl, _⟩
    · rw [beh_few_n, beh_few_m]
    rcases good_few hb with rfl | ⟨j, rfl, _⟩
    · rw [beh_few_m, beh_few_n]
    rw [beh_few, beh_few, Int.add_comm]
  | mus =>
    rcases good_mus ha with rfl | ⟨i, rfl⟩
    · rw [beh_mus_n, beh_mus_m]
    rcases good_mus hb with rfl | ⟨j, rfl⟩
    · rw [beh_mus_m, beh_mus_n]
    rw [beh_mus, beh_mus, Nat.or_comm]
  | wid =>
    obtain ⟨i, rfl, _⟩ := good_wid ha
    obtain ⟨j, rfl, _⟩ := good_wid hb
    rw [beh_wid, beh_wid, minI_comm]
  | cnt =>
    obtain ⟨i, rfl, hi⟩ := good_cnt ha
    obtain ⟨j, rfl, hj⟩ := good_cnt hb
    rw [beh_cnt, beh_cnt, cntB_comm]
  | lik =>
    obtain ⟨i, rfl, _⟩ := good_lik ha
    obtain ⟨j, rfl, _⟩ := good_lik hb
    rw [beh_lik, beh_lik, Rat.mul_comm]
  | cha =>
    obtain ⟨i, rfl, _⟩ := good_cha ha
    obtain ⟨j, rfl, _⟩ := good_cha hb
    rw [beh_cha, beh_cha, Rat.mul_comm]
  | rst m =>
    obtain ⟨i, rfl, _⟩ := good_rst ha
    obtain ⟨j, rfl, _⟩ := good_rst hb
    rw [beh_rst, beh_rst, rbeh_comm]
theorem beh_assoc {k : Kd} {a b c : Wo} (ha : Good k a) (hb : Good k b) (hc : Good k c) : beh k (beh k a b) c = beh k a (beh k b c) := by
  cases k with
  | few =>
    rcases good_few ha with rfl | ⟨i, rfl, _⟩
    · rw [beh_few_n, beh_few_n, beh_few_n]
    rcases good_few hb with rfl | ⟨j, rfl, _⟩
    · rw [beh_few_m, beh_few_n, beh_few_m]
    rcases good_few hc with rfl | ⟨l, rfl, _⟩
    · rw [beh_few_m, beh_few_m, beh_few_m]
    rw [beh_few, beh_few, beh_few, beh_few, Int.add_assoc]
  | mus =>
    rcases good_mus ha with rfl | ⟨i, rfl⟩
    · rw [beh_mus_n, beh_mus_n, beh_mus_n]
    rcases good_mus hb with rfl | ⟨j, rfl⟩
    · rw [beh_mus_m, beh_mus_n, beh_mus_m]
    rcases good_mus hc with rfl | ⟨l, rfl⟩
    · rw [beh_mus_m, beh_mus_m, beh_mus_m]
    rw [beh_mus, beh_mus, beh_mus, beh_mus, Nat.or_assoc]
  | wid =>
    obtain ⟨i, rfl, _⟩ := good_wid ha
    obtain ⟨j, rfl, _⟩ := good_wid hb
    obtain ⟨l, rfl, _⟩ := good_wid hc
    rw [beh_wid, beh_wid, beh_wid, beh_wid, minI_assoc]
  | cnt =>
    obtain ⟨i, rfl, hi⟩ := good_cnt ha
    obtain ⟨j, rfl, hj⟩ := good_cnt hb
    obtain ⟨l, rfl, hl⟩ := good_cnt hc
    rw [beh_cnt, beh_cnt, beh_cnt, beh_cnt, cntB_assoc hi hj hl]
  | lik =>
    obtain ⟨i, rfl, _⟩ := good_lik ha
    obtain ⟨j, rfl, _⟩ := good_lik hb
    obtain ⟨l, rfl, _⟩ := good_lik hc
    rw [beh_lik, beh_lik, beh_lik, beh_lik, Rat.mul_assoc]
  | cha =>
    obtain ⟨i, rfl, _⟩ := good_cha ha
    obtain ⟨j, rfl, _⟩ := good_cha hb
    obtain ⟨l, rfl, _⟩ := good_cha hc
    rw [beh_cha, beh_cha, beh_cha, beh_cha, Rat.mul_assoc]
  | rst m =>
    obtain ⟨i, rfl, _⟩ := good_rst ha
    obtain ⟨j, rfl, _⟩ := good_rst hb
    obtain ⟨l, rfl, _⟩ := good_rst hc
    rw [beh_rst, beh_rst, beh_rst, beh_rst, rbeh_assoc]
theorem beh_dist {k : Kd} {a b c : Wo} (ha : Good k a) (hb : Good k b) (hc : Good k c) : beh k a (tog k b c) = tog k (beh k a b) (beh k a c) := by
  cases k with
  | few =>
    rcases good_few ha with rfl | ⟨i, rfl, _⟩
    · rw [beh_few_n, beh_few_n, beh_few_n, tog_few_n]
    rcases good_few hb with rfl | ⟨j, rfl, _⟩
    · rw [tog_few_n, beh_few_m, tog_few_n]
    rcases good_few hc with rfl | ⟨l, rfl, _⟩
    · rw [tog_few_m, beh_few_m, tog_few_m]
    rw [tog_few, beh_few, beh_few, beh_few, tog_few, few_dist]
  | mus =>
    rcases good_mus ha with rfl | ⟨i, rfl⟩
    · rw [beh_mus_n, beh_mus_n, beh_mus_n, tog_mus_n]
    rcases good_mus hb with rfl | ⟨j, rfl⟩
    · rw [tog_mus_n, beh_mus_m, tog_mus_n]
    rcases good_mus hc with rfl | ⟨l, rfl⟩
    · rw [tog_mus_m, beh_mus_m, tog_mus_m]
    rw [tog_mus, beh_mus, beh_mus, beh_mus, tog_mus, Nat.or_and_distrib_left]
  | wid =>
    obtain ⟨i, rfl, _⟩ := good_wid ha
    obtain ⟨j, rfl, _⟩ := good_wid hb
    obtain ⟨l, rfl, _⟩ := good_wid hc
    rw [tog_wid, beh_wid, beh_wid, beh_wid, tog_wid, wid_dist]
  | cnt =>
    obtain ⟨i, rfl, hi⟩ := good_cnt ha
    obtain ⟨j, rfl, hj⟩ := good_cnt hb
    obtain ⟨l, rfl, hl⟩ := good_cnt hc
    rw [tog_cnt, beh_cnt, beh_cnt, beh_cnt, tog_cnt, cnt_dist hi hj hl]
  | lik =>
    obtain ⟨i, rfl, hi⟩ := good_lik ha
    obtain ⟨j, rfl, _⟩ := good_lik hb
    obtain ⟨l, rfl, _⟩ := good_lik hc
    rw [tog_lik, beh_lik, beh_lik, beh_lik, tog_lik, lik_dist hi.1]
  | cha =>
    obtain ⟨i, rfl, _⟩ := good_cha ha
    obtain ⟨j, rfl, _⟩ := good_cha hb
    obtain ⟨l, rfl, _⟩ := good_cha hc
    rw [tog_cha, beh_cha, beh_cha, beh_cha, tog_cha, Rat.mul_add]
  | rst m =>
    obtain ⟨i, rfl, _⟩ := good_rst ha
    obtain ⟨j, rfl, _⟩ := good_rst hb
    obtain ⟨l, rfl, _⟩ := good_rst hc
    rw [tog_rst, beh_rst, beh_rst, beh_rst, tog_rst, rbeh_or]
theorem tog_none {k : Kd} {a : Wo} (ha : Good k a) : tog k a (noneW k) = a := by
  cases k with
  | few => exact tog_few_m a
  | mus => exact tog_mus_m a
  | wid =>
    obtain ⟨i, rfl, hi⟩ := good_wid ha
    show tog .wid (.int i) (.int 0) = _
    rw [tog_wid]; unfold maxI; rw [if_neg (by omega)]
  | cnt =>
    obtain ⟨i, rfl, hi⟩ := good_cnt ha
    show tog .cnt (.int i) (.int 0) = _
    rw [tog_cnt]; unfold cntT; congr 1; split <;> omega
  | lik =>
    obtain ⟨i, rfl, hi⟩ := good_lik ha
    show tog .lik (.rat i) (.rat 0) = _
    rw [tog_lik]; unfold likT; rw [if_neg (by grind)]
  | cha =>
    obtain ⟨i, rfl, hi⟩ := good_cha ha
    show tog .cha (.rat i) (.rat 0) = _
    rw [tog_cha, Rat.add_zero]
  | rst m =>
    obtain ⟨i, rfl, hi⟩ := good_rst ha
    show tog (.rst m) (.int i) (.int (0 : Nat)) = _
    rw [tog_rst, Nat.or_zero]
theorem beh_rest {k : Kd} {a : Wo} (ha : Good k a) : beh k a (restW k) = a := by
  cases k with
  | few =>
    rcases good_few ha with rfl | ⟨i, rfl, _⟩
    · rfl
    · show beh .few (.int i) (.int 0) = _; rw [beh_few, Int.add_zero]
  | mus =>
    rcases good_mus ha with rfl | ⟨i, rfl⟩
    · rfl
    · show beh .mus (.int i) (.int (0 : Nat)) = _; rw [beh_mus, Nat.or_zero]
  | wid =>
    obtain ⟨i, rfl, hi⟩ := good_wid ha
    show beh .wid (.int i) (.int 1000000000) = _
    rw [beh_wid]; unfold minI; rw [if_neg (by omega)]
  | cnt =>
    obtain ⟨i, rfl, hi⟩ := good_cnt ha
    show beh .cnt (.int i) (.int 1) = _
    rw [beh_cnt]; unfold cntB; congr 1
    split
    · omega
    split <;> omega
  | lik =>
    obtain ⟨i, rfl, hi⟩ := good_lik ha
    show beh .lik (.rat i) (.rat 1) = _
    rw [beh_lik, Rat.mul_one]
  | cha =>
    obtain ⟨i, rfl, hi⟩ := good_cha ha
    show beh .cha (.rat i) (.rat 1) = _
    rw [beh_cha, Rat.mul_one]
  | rst m =>
    obtain ⟨i, rfl, hi⟩ := good_rst ha
    show beh (.rst m) (.int i) (.int (1 : Nat)) = _
    rw [beh_rst, rbeh_one hi]
theorem beh_none {k : Kd} {a : Wo} (ha : Good k a) : beh k a (noneW k) = noneW k := by
  cases k with
  | few => exact beh_few_m a
  | mus => exact beh_mus_m a
  | wid =>
    obtain ⟨i, rfl, hi⟩ := good_wid ha
    show beh .wid (.int i) (.int 0) = .int 0
    rw [beh_wid]; unfold minI; congr 1; split <;> omega
  | cnt =>
    obtain ⟨i, rfl, hi⟩ := good_cnt ha
    show beh .cnt (.int i) (.int 0) = .int 0
    rw [beh_cnt]; unfold cntB; rw [if_pos (.inr rfl)]
  | lik =>
    obtain ⟨i, rfl, hi⟩ := good_lik ha
    show beh .lik (.rat i) (.rat 0) = .rat 0
    rw [beh_lik, Rat.mul_zero]
  | cha =>
    obtain ⟨i, rfl, hi⟩ := good_cha ha
    show beh .cha (.rat i) (.rat 0) = .rat 0
    rw [beh_cha, Rat.mul_zero]
  | rst m =>
    obtain ⟨i, rfl, hi⟩ := good_rst ha
    show beh (.rst m) (.int i) (.int (0 : Nat)) = .int (0 : Nat)
    rw [beh_rst, rbeh_zero]
/-! ### M4: rounds; an ordered structure with a least star (plain Lean) -/
theorem tog_idem {k : Kd} {a : Wo} (h : k ≠ .cnt ∧ k ≠ .cha) (ha : Good k a) : tog k a a = a := by
  cases k with
  | few =>
    rcases good_few ha with rfl | ⟨i, rfl, _⟩
    · rfl
    · rw [tog_few]; unfold minI; rw [if_neg (by omega)]
  | mus =>
    rcases good_mus ha with rfl | ⟨i, rfl⟩
    · rfl
    · rw [tog_mus, Nat.and_self]
  | wid =>
    obtain ⟨i, rfl, hi⟩ := good_wid ha
    rw [tog_wid]; unfold maxI; rw [if_neg (by omega)]
  | cnt => exact absurd rfl h.1
  | cha => exact absurd rfl h.2
  | lik =>
    obtain ⟨i, rfl, hi⟩ := good_lik ha
    rw [tog_lik]; unfold likT; rw [if_neg (by grind)]
  | rst m =>
    obtain ⟨i, rfl, hi⟩ := good_rst ha
    rw [tog_rst, Nat.or_self]
theorem anti_idem {k : Kd} {a b c d : Wo} (h : k ≠ .cnt ∧ k ≠ .cha) (ha : Good k a) (hb : Good k b) (hc : Good k c) (hd : Good k d) (e1 : tog k a c = b) (e2 : tog k b d = a) : a = b := by
  have h1 : tog k a b = b := by rw [← e1, ← tog_assoc ha ha hc, tog_idem h ha]
  have h2 : tog k b a = a := by rw [← e2, ← tog_assoc hb hb hd, tog_idem h hb]
  rw [tog_comm hb ha, h1] at h2
  exact h2.symm
theorem anti {k : Kd} {a b c d : Wo} (ha : Good k a) (hb : Good k b) (hc : Good k c) (hd : Good k d) (e1 : tog k a c = b) (e2 : tog k b d = a) : a = b := by
  cases k with
  | cnt =>
    obtain ⟨i, rfl, hi⟩ := good_cnt ha
    obtain ⟨j, rfl, hj⟩ := good_cnt hb
    obtain ⟨l, rfl, hl⟩ := good_cnt hc
    obtain ⟨m, rfl, hm⟩ := good_cnt hd
    rw [tog_cnt, Wo.int.injEq] at e1 e2
    unfold cntT at e1 e2
    rw [Wo.int.injEq]
    split at e1 <;> split at e2 <;> omega
  | cha =>
    obtain ⟨i, rfl, hi⟩ := good_cha ha
    obtain ⟨j, rfl, hj⟩ := good_cha hb
    obtain ⟨l, rfl, hl⟩ := good_cha hc
    obtain ⟨m, rfl, hm⟩ := good_cha hd
    rw [tog_cha, Wo.rat.injEq] at e1 e2
    rw [Wo.rat.injEq]
    grind
  | few => exact anti_idem (k := .few) ⟨by simp, by simp⟩ ha hb hc hd e1 e2
  | wid => exact anti_idem (k := .wid) ⟨by simp, by simp⟩ ha hb hc hd e1 e2
  | lik => exact anti_idem (k := .lik) ⟨by simp, by simp⟩ ha hb hc hd e1 e2
  | mus => exact anti_idem (k := .mus) ⟨by simp, by simp⟩ ha hb hc hd e1 e2
  | rst m => exact anti_idem (k := .rst m) ⟨by simp, by simp⟩ ha hb hc hd e1 e2
/-- kinds for which a ring is worth nothing -/
def flat : Kd → Bool
  | .few => true | .wid => true | .lik => true | .mus => true | _ => false
theorem flat_rnd {k : Kd} (h : flat k = true) (a : Wo) : rnd k a = some (restW k) := by cases k <;> first | rfl | cases h
theorem rest_top {k : Kd} {a : Wo} (h : flat k = true) (ha : Good k a) : tog k (restW k) a = restW k := by
  cases k <;> first | cases h | skip
  · rcases good_few ha with rfl | ⟨i, rfl, hi⟩
    · rfl
    · show tog .few (.int 0) (.int i) = .int 0; rw [tog_few]; unfold minI; rw [if_neg (by omega)]
  · obtain ⟨i, rfl, hi⟩ := good_wid ha
    show tog .wid (.int 1000000000) (.int i) = .int 1000000000; rw [tog_wid]; unfold maxI; rw [if_neg (by omega)]
  · obtain ⟨i, rfl, hi⟩ := good_lik ha
    show tog .lik (.rat 1) (.rat i) = .rat 1; rw [tog_lik]; unfold likT; rw [if_neg (by grind)]
  · rcases good_mus ha with rfl | ⟨i, rfl⟩
    · rfl
    · show tog .mus (.int (0 : Nat)) (.int i) = .int (0 : Nat); rw [tog_mus, Nat.zero_and]
theorem rnd_eq {k : Kd} (hk : KOk k) {a s : Wo} (ha : Good k a) (h : rnd k a = some s) : s = tog k (restW k) (beh k a s) := by
  by_cases hf : flat k = true
  · rw [flat_rnd hf] at h
    cases h
    rw [beh_rest ha, rest_top hf ha]
  cases k with
  | few => exact absurd rfl hf
  | wid => exact absurd rfl hf
  | lik => exact absurd rfl hf
  | mus => exact absurd rfl hf
  | cnt =>
    obtain ⟨i, rfl, hi⟩ := good_cnt ha
    cases h
    show Wo.int (if i = 0 then 1 else -1) = tog .cnt (.int 1) (beh .cnt (.int i) (.int (if i = 0 then 1 else -1)))
    rw [beh_cnt, tog_cnt, Wo.int.injEq]
    by_cases h0 : i = 0
    · subst h0; rfl
    · rw [if_neg h0]
      have e1 : cntB i (-1) = -1 := by unfold cntB; rw [if_neg (show ¬ (i = 0 ∨ (-1 : Int) = 0) by omega), if_pos (Or.inr rfl)]
      rw [e1]; rfl
  | cha =>
    obtain ⟨r, rfl, hr⟩ := good_cha ha
    simp only [rnd] at h
    split at h
    · cases h
      show Wo.rat _ = tog .cha (.rat 1) (beh .cha (.rat r) (.rat (1 / (1 - r))))
      rw [beh_cha, tog_cha, Wo.rat.injEq]
      grind
    · cases h
  | rst m =>
    obtain ⟨i, rfl, hi⟩ := good_rst ha
    cases h
    show Wo.int (rstar m i : Nat) = tog (.rst m) (.int (1 : Nat)) (beh (.rst m) (.int i) (.int (rstar m i : Nat)))
    rw [beh_rst, tog_rst, Wo.int.injEq, Int.natCast_inj]
    refine Nat.eq_of_testBit_eq fun r => ?_
    rw [Bool.eq_iff_iff, Nat.testBit_or, Bool.or_eq_true, rbeh_comm]
    have hfix := rstar_fix (a := i) hk.1
    constructor
    · intro hr
      -- by the turns: a bit is of one, or behind a bit
      have go : ∀ n, (riter m i n).testBit r = true → Nat.testBit 1 r = true ∨ (rbeh m (rstar m i) i).testBit r = true := by
        intro n
        induction n with
        | zero => intro h; exact .inl h
        | succ n ih =>
          intro h
          have h' : (riter m i n ||| rbeh m (riter m i n) i).testBit r = true := h
          rw [Nat.testBit_or, Bool.or_eq_true] at h'
          rcases h' with h' | h'
          · exact ih h'
          · obtain ⟨hr, a, b, h1, h2, h3, h4, h5⟩ := (testBit_rbeh _ _ _ _).1 h'
            refine .inr ((testBit_rbeh _ _ _ _).2 ⟨hr, a, b, h1, h2, ?_, h4, h5⟩)
            have mono : ∀ n q, (riter m i n).testBit q = true → (rstar m i).testBit q = true := by
              intro n q hq
              obtain ⟨j, hj, e⟩ := riter_stops (a := i) hk.1
              have up : ∀ d, (riter m i (n + d)).testBit q = true := by
                intro d
                induction d with
                | zero => exact hq
                | succ d ih => exact riter_sub m i (n + d) q ih
              have e1 := riter_still e (n + m - j)
              rw [show j + (n + m - j) = n + m by omega] at e1
              have e2 := riter_still e (m - j)
              rw [show j + (m - j) = m by omega] at e2
              have := up m
              rw [e1, ← e2] at this
              exact this
            exact mono n a h3
      exact go m hr
    · rintro (h | h)
      · have sub : ∀ n, (riter m i n).testBit r = true := by
          intro n
          induction n with
          | zero => exact h
          | succ n ih => exact riter_sub m i n r ih
        exact sub m
      · rw [← hfix, Nat.testBit_or, h, Bool.or_true]
theorem le_or {x y : Nat} : (∃ c, x ||| c = y) ↔ ∀ r, x.testBit r = true → y.testBit r = true := by
  constructor
  · rintro ⟨c, rfl⟩ r h; rw [Nat.testBit_or, h, Bool.true_or]
  · intro h
    refine ⟨y, Nat.eq_of_testBit_eq fun r => ?_⟩
    rw [Nat.testBit_or]
    cases e : x.testBit r with
    | true => rw [h r e]; rfl
    | false => rw [Bool.false_or]
theorem rnd_ind {k : Kd} (hk : KOk k) {a s x b c : Wo} (ha : Good k a) (hx : Good k x) (hb : Good k b) (hc : Good k c) (h : rnd k a = some s) (e : tog k (tog k (beh k a x) b) c = x) : ∃ d, Good k d ∧ tog k (beh k s b) d = x := by
  by_cases hf : flat k = true
  · rw [flat_rnd hf] at h
    cases h
    refine ⟨tog k (beh k a x) c, good_tog (good_beh ha hx) hc, ?_⟩
    rw [beh_comm (good_rest hk) hb, beh_rest hb, ← tog_assoc hb (good_beh ha hx) hc, tog_comm hb (good_beh ha hx)]
    exact e
  cases k with
  | few => exact absurd rfl hf
  | wid => exact absurd rfl hf
  | lik => exact absurd rfl hf
  | mus => exact absurd rfl hf
  | cnt =>
    obtain ⟨i, rfl, hi⟩ := good_cnt ha
    obtain ⟨x, rfl, hx⟩ := good_cnt hx
    obtain ⟨b, rfl, hb⟩ := good_cnt hb
    obtain ⟨c, rfl, hc⟩ := good_cnt hc
    cases h
    rw [beh_cnt, tog_cnt, tog_cnt, Wo.int.injEq] at e
    by_cases h0 : i = 0
    · subst h0
      refine ⟨.int c, hc, ?_⟩
      show tog .cnt (beh .cnt (.int 1) (.int b)) (.int c) = _
      rw [beh_cnt, tog_cnt, Wo.int.injEq, ← e]
      unfold cntB cntT
      by_cases hb0 : b = 0
      · subst hb0; rfl
      · by_cases hb1 : b = -1
        · subst hb1; rfl
        · simp [hb0, hb1]
    · refine ⟨.int x, hx, ?_⟩
      show tog .cnt (beh .cnt (.int (if i = 0 then 1 else -1)) (.int b)) (.int x) = _
      rw [if_neg h0, beh_cnt, tog_cnt, Wo.int.injEq]
      by_cases hb0 : b = 0
      · subst hb0; unfold cntB cntT; simp; omega
      · by_cases hx1 : x = -1
        · subst hx1; unfold cntT; simp
        · exfalso
          -- all is finite: x is at least x + b
          have hi1 : i ≠ -1 ∨ x = 0 := by
            rcases Classical.em (i = -1) with h | h
            · right
              refine Classical.byContradiction fun hx0 => hx1 ?_
              rw [← e]; subst h
              unfold cntB cntT; simp [hx0]
            · exact .inl h
          have hbn : b ≠ -1 := fun z => hx1 (by rw [← e, z]; unfold cntT; simp)
          have hcn : c ≠ -1 := fun z => hx1 (by rw [← e, z]; unfold cntT; simp)
          have hB : cntB i x ≠ -1 := fun z => hx1 (by rw [← e, z]; unfold cntT; simp)
          have e2 : cntB i x + b + c = x := by
            have hin : cntT (cntB i x) b = cntB i x + b := by unfold cntT; rw [if_neg (by omega)]
            have hB0 : 0 ≤ cntB i x := by
              have : Good .cnt (beh .cnt (.int i) (.int x)) := good_beh (k := .cnt) hi hx
              rw [beh_cnt] at this
              have : -1 ≤ cntB i x := this
              omega
            rw [hin] at e
            unfold cntT at e
            rw [if_neg (by omega)] at e
            exact e
          rcases hi1 with hi1 | hx0
          · by_cases hx0 : x = 0
            · subst hx0
              have : cntB i 0 = 0 := by unfold cntB; simp
              omega
            · have e3 : cntB i x = i * x := by unfold cntB; rw [if_neg (by omega), if_neg (by omega)]
              have : x ≤ i * x := by
                have := Int.mul_le_mul_of_nonneg_right (show 1 ≤ i by omega) (show 0 ≤ x by omega)
                omega
              omega
          · subst hx0
            have : cntB i 0 = 0 := by unfold cntB; simp
            omega
  | cha =>
    obtain ⟨r, rfl, hr⟩ := good_cha ha
    obtain ⟨x, rfl, hx⟩ := good_cha hx
    obtain ⟨b, rfl, hb⟩ := good_cha hb
    obtain ⟨c, rfl, hc⟩ := good_cha hc
    simp only [rnd] at h
    split at h
    · rename_i h1
      cases h
      refine ⟨.rat (1 / (1 - r) * c), Rat.mul_nonneg (rat_inv_nonneg h1) hc, ?_⟩
      rw [beh_cha, tog_cha, tog_cha, Wo.rat.injEq] at e
      rw [beh_cha, tog_cha, Wo.rat.injEq]
      grind
    · cases h
  | rst m =>
    obtain ⟨i, rfl, hi⟩ := good_rst ha
    obtain ⟨x, rfl, hx2⟩ := good_rst hx
    obtain ⟨b, rfl, hb2⟩ := good_rst hb
    obtain ⟨c, rfl, hc2⟩ := good_rst hc
    cases h
    rw [beh_rst, tog_rst, tog_rst, Wo.int.injEq, Int.natCast_inj] at e
    have hax : ∀ r, (rbeh m i x).testBit r = true → x.testBit r = true := fun r h => by rw [← e, Nat.testBit_or, Nat.testBit_or, h]; rfl
    have hbx : ∀ r, b.testBit r = true → x.testBit r = true := fun r h => by rw [← e, Nat.testBit_or, Nat.testBit_or, h, Bool.or_true]; rfl
    have go : ∀ n r, (rbeh m (riter m i n) b).testBit r = true → x.testBit r = true := by
      intro n
      induction n with
      | zero =>
        intro r h
        have h' : (rbeh m 1 b).testBit r = true := h
        rw [rbeh_comm, rbeh_one hb2] at h'
        exact hbx r h'
      | succ n ih =>
        intro r h
        have h' : (rbeh m (riter m i n ||| rbeh m (riter m i n) i) b).testBit r = true := h
        rw [rbeh_comm, rbeh_or, Nat.testBit_or, Bool.or_eq_true, rbeh_comm m b, rbeh_comm m b] at h'
        rcases h' with h' | h'
        · exact ih r h'
        · rw [rbeh_comm m (riter m i n) i, rbeh_assoc] at h'
          obtain ⟨hr, p, q, h1, h2, h3, h4, h5⟩ := (testBit_rbeh _ _ _ _).1 h'
          exact hax r ((testBit_rbeh _ _ _ _).2 ⟨hr, p, q, h1, h2, h3, ih q h4, h5⟩)
    obtain ⟨d, hd⟩ := le_or.2 (go m)
    refine ⟨.int x, rst_good hx2, ?_⟩
    rw [show (.int (rstar m ((i : Int)).toNat : Nat) : Wo) = .int (rstar m i : Nat) by rw [Int.toNat_natCast], beh_rst, tog_rst, Wo.int.injEq, Int.natCast_inj]
    refine Nat.eq_of_testBit_eq fun r => ?_
    rw [Nat.testBit_or]
    cases e2 : (rbeh m (rstar m i) b).testBit r with
    | true => rw [go m r e2]; rfl
    | false => rw [Bool.false_or]
/-- an ordered structure with a least star -/
structure SR (α : Type) where
  add : α → α → α
  mul : α → α → α
  zero : α
  one : α
  star : α → Option α
  add_assoc : ∀ a b c, add (add a b) c = add a (add b c)
  add_comm : ∀ a b, add a b = add b a
  add_zero : ∀ a, add a zero = a
  mul_assoc : ∀ a b c, mul (mul a b) c = mul a (mul b c)
  mul_comm : ∀ a b, mul a b = mul b a
  mul_one : ∀ a, mul a one = a
  mul_zero : ∀ a, mul a zero = zero
  dist : ∀ a b c, mul a (add b c) = add (mul a b) (mul a c)
  anti : ∀ a b c d, add a c = b → add b d = a → a = b
  star_eq : ∀ a s, star a = some s → s = add one (mul a s)
  star_ind : ∀ a s x b c, star a = some s → add (add (mul a x) b) c = x → ∃ d, add (mul s b) d = x
/-- the worths of a kind -/
abbrev Wk (k : Kd) := { a : Wo // Good k a }
def kSR (k : Kd) (hk : KOk k) : SR (Wk k) where
  add a b := ⟨tog k a.1 b.1, good_tog a.2 b.2⟩
  mul a b := ⟨beh k a.1 b.1, good_beh a.2 b.2⟩
  zero := ⟨noneW k, good_none k⟩
  one := ⟨restW k, good_rest hk⟩
  star a := (rnd k a.1).pmap (fun s hs => ⟨s, hs⟩) (fun _ hs => good_rnd hk a.2 hs)
  add_assoc a b c := Subtype.ext (tog_assoc a.2 b.2 c.2)
  add_comm a b := Subtype.ext (tog_comm a.2 b.2)
  add_zero a := Subtype.ext (tog_none a.2)
  mul_assoc a b c := Subtype.ext (beh_assoc a.2 b.2 c.2)
  mul_comm a b := Subtype.ext (beh_comm a.2 b.2)
  mul_one a := Subtype.ext (beh_rest a.2)
  mul_zero a := Subtype.ext (beh_none a.2)
  dist a b c := Subtype.ext (beh_dist a.2 b.2 c.2)
  anti a b c d e1 e2 := Subtype.ext (Ws.anti a.2 b.2 c.2 d.2 (congrArg Subtype.val e1) (congrArg Subtype.val e2))
  star_eq a s h := by
    obtain ⟨s', hs, h1, rfl⟩ := Option.pmap_eq_some_iff.1 h
    exact Subtype.ext (rnd_eq hk a.2 h1)
  star_ind a s x b c h e := by
    obtain ⟨s', hs, h1, rfl⟩ := Option.pmap_eq_some_iff.1 h
    obtain ⟨d, gd, e2⟩ := rnd_ind hk a.2 x.2 b.2 c.2 h1 (congrArg Subtype.val e)
    exact ⟨⟨d, gd⟩, Subtype.ext e2⟩
theorem kstar {k : Kd} {hk : KOk k} {a s : Wk k} : (kSR k hk).star a = some s ↔ rnd k a.1 = some s.1 := by
  show (rnd k a.1).pmap _ _ = some s ↔ _
  rw [Option.pmap_eq_some_iff]
  constructor
  · rintro ⟨s', hs, h1, rfl⟩; exact h1
  · intro h; exact ⟨s.1, s.2, h, rfl⟩
namespace SR
variable {α : Type} (S : SR α)
def le (a b : α) : Prop := ∃ c, S.add a c = b
variable {S}
theorem zero_add (a : α) : S.add S.zero a = a := by rw [S.add_comm, S.add_zero]
theorem one_mul (a : α) : S.mul S.one a = a := by rw [S.mul_comm, S.mul_one]
theorem zero_mul (a : α) : S.mul S.zero a = S.zero := by rw [S.mul_comm, S.mul_zero]
theorem dist_r (a b c : α) : S.mul (S.add a b) c = S.add (S.mul a c) (S.mul b c) := by rw [S.mul_comm, S.dist, S.mul_comm c, S.mul_comm c]
theorem add_left (a b c : α) : S.add a (S.add b c) = S.add b (S.add a c) := by rw [← S.add_assoc, S.add_comm a, S.add_assoc]
theorem add4 (a b c d : α) : S.add (S.add a b) (S.add c d) = S.add (S.add a c) (S.add b d) := by
  rw [S.add_assoc, S.add_assoc, add_left b]
theorem le_refl (a : α) : S.le a a := ⟨S.zero, S.add_zero a⟩
theorem le_of_eq {a b : α} (h : a = b) : S.le a b := by rw [h]; exact le_refl b
theorem le_trans {a b c : α} (h1 : S.le a b) (h2 : S.le b c) : S.le a c := by
  obtain ⟨x, rfl⟩ := h1; obtain ⟨y, rfl⟩ := h2; exact ⟨S.add x y, by rw [S.add_assoc]⟩
theorem le_antisymm {a b : α} (h1 : S.le a b) (h2 : S.le b a) : a = b := by
  obtain ⟨x, e1⟩ := h1; obtain ⟨y, e2⟩ := h2; exact S.anti a b x y e1 e2
theorem zero_le (a : α) : S.le S.zero a := ⟨a, zero_add a⟩
theorem le_add_left (a b : α) : S.le a (S.add b a) := ⟨b, S.add_comm a b⟩
theorem le_add_right (a b : α) : S.le a (S.add a b) := ⟨b, rfl⟩
theorem add_le_add {a b c d : α} (h1 : S.le a b) (h2 : S.le c d) : S.le (S.add a c) (S.add b d) := by
  obtain ⟨x, rfl⟩ := h1; obtain ⟨y, rfl⟩ := h2; exact ⟨S.add x y, by rw [add4]⟩
theorem mul_le_mul_left {a b : α} (c : α) (h : S.le a b) : S.le (S.mul c a) (S.mul c b) := by
  obtain ⟨x, rfl⟩ := h; exact ⟨S.mul c x, by rw [S.dist]⟩
theorem mul_le_mul_right {a b : α} (c : α) (h : S.le a b) : S.le (S.mul a c) (S.mul b c) := by
  rw [S.mul_comm a, S.mul_comm b]; exact mul_le_mul_left c h
theorem mul_le_mul {a b c d : α} (h1 : S.le a b) (h2 : S.le c d) : S.le (S.mul a c) (S.mul b d) := le_trans (mul_le_mul_left a h2) (mul_le_mul_right d h1)
theorem star_le {a s x b : α} (h : S.star a = some s) (e : S.le (S.add (S.mul a x) b) x) : S.le (S.mul s b) x := by
  obtain ⟨c, e⟩ := e; exact S.star_ind a s x b c h e
theorem star_comm {a s : α} (h : S.star a = some s) : s = S.add S.one (S.mul s a) := by
  conv => lhs; rw [S.star_eq a s h, S.mul_comm]
/-- rounds of two together -/
theorem star_add {a b s t u : α} (hs : S.star a = some s) (ht : S.star (S.add a b) = some t) (hu : S.star (S.mul s b) = some u) : t = S.mul u s := by
  obtain ⟨y, hy⟩ : ∃ y, y = S.add S.one (S.mul b (S.mul u s)) := ⟨_, rfl⟩
  have e : S.mul u s = S.mul s y := by
    have h1 : S.mul u s = S.mul (S.add S.one (S.mul (S.mul s b) u)) s := congrArg (fun z => S.mul z s) (S.star_eq _ _ hu)
    rw [h1, dist_r, one_mul, hy, S.dist, S.mul_one, S.mul_assoc, S.mul_assoc]
  have e3 : S.mul s y = S.add y (S.mul a (S.mul s y)) := by
    have h1 : S.mul s y = S.mul (S.add S.one (S.mul a s)) y := congrArg (fun z => S.mul z y) (S.star_eq _ _ hs)
    exact h1.trans (by rw [dist_r, one_mul, S.mul_assoc])
  have e2 : S.add (S.mul (S.add a b) (S.mul u s)) S.one = S.mul u s := by
    have h1 : S.mul u s = S.add y (S.mul a (S.mul u s)) := by rw [e, ← e3]
    conv => rhs; rw [h1, hy]
    rw [dist_r, S.add_comm S.one, S.add_assoc, S.add_assoc, S.add_comm S.one, add_left]
  apply le_antisymm
  · have := star_le (b := S.one) (x := S.mul u s) ht (le_of_eq e2)
    rwa [S.mul_one] at this
  · refine star_le hu ?_
    rw [S.mul_assoc]
    have h1 : S.add (S.mul s (S.mul b t)) s = S.mul s (S.add (S.mul b t) S.one) := by rw [S.dist, S.mul_one]
    rw [h1]
    refine star_le hs (le_of_eq ?_)
    have h2 := S.star_eq _ _ ht
    conv => rhs; rw [h2]
    rw [dist_r, S.add_comm S.one, S.add_assoc]
end SR
/-! ### M5: sizes of worths (plain Lean) -/
def bitK : Kd → Bool
  | .cnt => true | .lik => true | .cha => true | _ => false
theorem fits_of {k : Kd} {a b : Wo} (h : bitK k = true → sz a + sz b ≤ 8000) : Fits k a b := by
  cases k <;> first | trivial | skip
  · have := h rfl; show sz a + sz b ≤ 900000; omega
  · exact h rfl
  · exact h rfl
theorem fit1_of {k : Kd} {a : Wo} (h : bitK k = true → sz a ≤ 8000) : Fit1 k a := by cases k <;> first | trivial | exact h rfl
theorem sz_pos' (a : Wo) : 1 ≤ sz a := by cases a <;> simp only [sz] <;> omega
theorem lt_num (r : Rat) : r.num.natAbs < 2 ^ sz (.rat r) := Nat.lt_of_lt_of_le Nat.lt_log2_self (Nat.pow_le_pow_right (by decide) (by simp only [sz]; omega))
theorem lt_den (r : Rat) : r.den < 2 ^ sz (.rat r) := Nat.lt_of_lt_of_le Nat.lt_log2_self (Nat.pow_le_pow_right (by decide) (by simp only [sz]; omega))
theorem lt_int (i : Int) : i.natAbs < 2 ^ sz (.int i) := Nat.lt_log2_self
theorem mul_lt_pow {a b n m : Nat} (ha : a < 2 ^ n) (hb : b < 2 ^ m) : a * b < 2 ^ (n + m) := by
  rw [Nat.pow_add]
  by_cases h : b = 0
  · subst h; rw [Nat.mul_zero]; exact Nat.mul_pos (Nat.two_pow_pos _) (Nat.two_pow_pos _)
  · exact Nat.lt_of_lt_of_le (Nat.mul_lt_mul_of_pos_right ha (by omega)) (Nat.mul_le_mul_left _ (by omega))
theorem pow2_le {n m : Nat} (h : n ≤ m) : 2 ^ n ≤ 2 ^ m := Nat.pow_le_pow_right (by decide) h
theorem int_lt_pow {i : Int} {n : Nat} (h : 0 ≤ i) : i < 2 ^ n ↔ i.natAbs < 2 ^ n := by
  have e : ((2 ^ n : Nat) : Int) = (2 : Int) ^ n := Int.natCast_pow 2 n
  constructor
  · intro z; have : (i.natAbs : Int) < ((2 ^ n : Nat) : Int) := by rw [e]; omega
    omega
  · intro z; rw [← e]; omega
theorem sz_tog {k : Kd} {a b : Wo} (hb : bitK k = true) (ga : Good k a) (gb : Good k b) : sz (tog k a b) ≤ sz a + sz b + 1 := by
  have pa := sz_pos' a
  have pb := sz_pos' b
  cases k <;> first | cases hb | skip
  · obtain ⟨i, rfl, hi⟩ := good_cnt ga
    obtain ⟨j, rfl, hj⟩ := good_cnt gb
    rw [tog_cnt]
    have h1 := lt_int i
    have h2 := lt_int j
    have h3 := pow2_le (show sz (.int i) ≤ sz (.int i) + sz (.int j) by omega)
    have h4 := pow2_le (show sz (.int j) ≤ sz (.int i) + sz (.int j) by omega)
    have h5 : 2 ^ (sz (.int i) + sz (.int j) + 1) = 2 ^ (sz (.int i) + sz (.int j)) * 2 := Nat.pow_succ ..
    refine sz_int ?_ (by omega)
    unfold cntT
    split <;> omega
  · obtain ⟨r, rfl, hr⟩ := good_lik ga
    obtain ⟨s, rfl, hs⟩ := good_lik gb
    rw [tog_lik]; unfold likT; split <;> omega
  · obtain ⟨r, rfl, hr⟩ := good_cha ga
    obtain ⟨s, rfl, hs⟩ := good_cha gb
    rw [tog_cha, ← rat_add]
    have n0 := Rat.num_nonneg.2 hr
    have n1 := Rat.num_nonneg.2 hs
    have d0 := den_pos r
    have d1 := den_pos s
    have a1 := mul_lt_pow (lt_num r) (lt_den s)
    have a2 := mul_lt_pow (lt_num s) (lt_den r)
    have a3 := mul_lt_pow (lt_den r) (lt_den s)
    rw [Nat.add_comm] at a2
    have h5 : 2 ^ (sz (.rat r) + sz (.rat s) + 1) = 2 ^ (sz (.rat r) + sz (.rat s)) * 2 := Nat.pow_succ ..
    have m1 : 0 ≤ r.num * (s.den : Int) := Int.mul_nonneg n0 (by omega)
    have m2 : 0 ≤ s.num * (r.den : Int) := Int.mul_nonneg n1 (by omega)
    have m3 : 0 < (r.den : Int) * s.den := Int.mul_pos d0 d1
    refine sz_dvi (by omega) m3 ((int_lt_pow (by omega)).2 ?_) ((int_lt_pow (by omega)).2 ?_) (by omega)
    · have e1 : (r.num * (s.den : Int)).natAbs = r.num.natAbs * s.den := by rw [Int.natAbs_mul, Int.natAbs_natCast]
      have e2 : (s.num * (r.den : Int)).natAbs = s.num.natAbs * r.den := by rw [Int.natAbs_mul, Int.natAbs_natCast]
      omega
    · have e1 : ((r.den : Int) * s.den).natAbs = r.den * s.den := by rw [Int.natAbs_mul, Int.natAbs_natCast, Int.natAbs_natCast]
      omega
theorem sz_mulR {r s : Rat} (hr : 0 ≤ r) (hs : 0 ≤ s) : sz (.rat (r * s)) ≤ sz (.rat r) + sz (.rat s) := by
  have pa := sz_pos' (.rat r)
  have pb := sz_pos' (.rat s)
  rw [← rat_mul]
  have n0 := Rat.num_nonneg.2 hr
  have n1 := Rat.num_nonneg.2 hs
  have d0 := den_pos r
  have d1 := den_pos s
  have a1 := mul_lt_pow (lt_num r) (lt_num s)
  have a3 := mul_lt_pow (lt_den r) (lt_den s)
  have m1 : 0 ≤ r.num * s.num := Int.mul_nonneg n0 n1
  have m3 : 0 < (r.den : Int) * s.den := Int.mul_pos d0 d1
  refine sz_dvi m1 m3 ((int_lt_pow m1).2 ?_) ((int_lt_pow (by omega)).2 ?_) (by omega)
  · rw [Int.natAbs_mul]; exact a1
  · rw [Int.natAbs_mul, Int.natAbs_natCast, Int.natAbs_natCast]; exact a3
theorem sz_beh {k : Kd} {a b : Wo} (hb : bitK k = true) (ga : Good k a) (gb : Good k b) : sz (beh k a b) ≤ sz a + sz b := by
  have pa := sz_pos' a
  have pb := sz_pos' b
  cases k <;> first | cases hb | skip
  · obtain ⟨i, rfl, hi⟩ := good_cnt ga
    obtain ⟨j, rfl, hj⟩ := good_cnt gb
    rw [beh_cnt]
    have h2 : (1 : Nat) < 2 ^ (sz (.int i) + sz (.int j)) := Nat.one_lt_two_pow (by omega)
    refine sz_int ?_ (by omega)
    unfold cntB
    split
    · exact Nat.two_pow_pos _
    split
    · exact h2
    · rw [Int.natAbs_mul]; exact mul_lt_pow (lt_int i) (lt_int j)
  · obtain ⟨r, rfl, hr⟩ := good_lik ga
    obtain ⟨s, rfl, hs⟩ := good_lik gb
    exact sz_mulR hr.1 hs.1
  · obtain ⟨r, rfl, hr⟩ := good_cha ga
    obtain ⟨s, rfl, hs⟩ := good_cha gb
    exact sz_mulR hr hs
theorem sz_rnd {k : Kd} {a s : Wo} (hb : bitK k = true) (ga : Good k a) (h : rnd k a = some s) : sz s ≤ sz a := by
  have pa := sz_pos' a
  cases k <;> first | cases hb | skip
  · obtain ⟨i, rfl, hi⟩ := good_cnt ga
    cases h
    show sz (.int (if i = 0 then 1 else -1)) ≤ _
    have : sz (.int (if i = 0 then 1 else -1)) = 1 := by split <;> decide
    omega
  · cases h
    have : sz (restW .lik) = 1 := by decide
    have e : sz (.rat 1) = 1 := by decide
    omega
  · obtain ⟨r, rfl, hr⟩ := good_cha ga
    simp only [rnd] at h
    split at h
    · rename_i h1
      cases h
      rw [← rat_star r h1]
      have h2 := (rat_lt_one r).1 h1
      have n0 := Rat.num_nonneg.2 hr
      have d0 := den_pos r
      have l1 := lt_den r
      refine sz_dvi (by omega) (by omega) ((int_lt_pow (by omega)).2 ?_) ((int_lt_pow (by omega)).2 ?_) pa
      · rw [Int.natAbs_natCast]; exact l1
      · omega
    · cases h
theorem sz_rest (k : Kd) : sz (restW k) ≤ 31 := by cases k <;> first | decide | (show sz (.int _) ≤ 31; decide)
theorem sz_none (k : Kd) : sz (noneW k) ≤ 1 := by cases k <;> first | decide | (show sz (.int _) ≤ 1; decide)
/-! ### W1: worths as values; shares -/
/-- v is the worth a -/
def Wv (H : Hp) (v : V) : Wo → Prop
  | .non => v = .non
  | .int i => v = .int i
  | .rat r => ∃ t, v = .ref t ∧ H t = some (.tup [.int r.num, .int r.den])
theorem Wv.same {H H' : Hp} {v : V} {a : Wo} (h : Wv H v a) (e : Same H H') : Wv H' v a := by
  cases a with
  | non => exact h
  | int i => exact h
  | rat r => obtain ⟨t, h1, h2⟩ := h; exact ⟨t, h1, e _ _ h2⟩
theorem same_upd {H : Hp} {p : Addr} {o : HO} (h : H p = none) : Same H (upd H p o) := fun b u e => by rw [upd_ne (ne_of_none e h)]; exact e
/-- a pair of whole numbers -/
def Pr (H : Hp) (v : V) (p q : Int) : Prop := ∃ t, v = .ref t ∧ H t = some (.tup [.int p, .int q])
theorem Pr.same {H H' : Hp} {v : V} {p q : Int} (h : Pr H v p q) (e : Same H H') : Pr H' v p q := by
  obtain ⟨t, h1, h2⟩ := h; exact ⟨t, h1, e _ _ h2⟩
theorem Wv.pr {H : Hp} {v : V} {r : Rat} : Wv H v (.rat r) ↔ Pr H v r.num r.den := Iff.rfl
theorem at0 {x y : V} : atI [x, y] 0 = some x := atI_nat (j := 0) rfl
theorem at1 {x y : V} : atI [x, y] 1 = some y := atI_nat (j := 1) rfl
theorem size2 : (2 : Nat) ≤ sizeLine := by rw [sizeLine_eq]; decide
/-- common(a, b) -/
def spCommon : Sp := fun vs H Q _ => ∃ a b : Int, vs = [.int a, .int b] ∧ 0 ≤ a ∧ 0 ≤ b ∧ Q (.int (Int.gcd a b : Int)) H
/-- lowest(t, b) -/
def spLowest : Sp := fun vs H Q _ => ∃ t b : Int, vs = [.int t, .int b] ∧ 0 ≤ t ∧ 0 < b ∧ b.natAbs.log2 < 9000 ∧
  ∀ p, H p = none → Q (.ref p) (upd H p (.tup [.int (Rat.divInt t b).num, .int (Rat.divInt t b).den]))
/-- a deed of two shares -/
def spShare (f : Rat → Rat → Rat) (n : Nat) : Sp := fun vs H Q _ => ∃ (x y : V) (r s : Rat), vs = [x, y] ∧ Wv H x (.rat r) ∧ Wv H y (.rat s) ∧ 0 ≤ r ∧ 0 ≤ s ∧ sz (.rat r) + sz (.rat s) ≤ n ∧
  ∀ p, H p = none → Q (.ref p) (upd H p (.tup [.int (f r s).num, .int (f r s).den]))
def spLess : Sp := fun vs H Q _ => ∃ (x y : V) (r s : Rat), vs = [x, y] ∧ Wv H x (.rat r) ∧ Wv H y (.rat s) ∧ sz (.rat r) + sz (.rat s) ≤ 8000 ∧ Q (.bl (decide (r < s))) H
theorem log2_mono {a b : Nat} (h : a ≤ b) : a.log2 ≤ b.log2 := by
  by_cases h0 : a = 0
  · subst h0; simp
  · have hb : b ≠ 0 := by omega
    exact (Nat.le_log2 hb).2 (Nat.le_trans (Nat.log2_self_le h0) h)
theorem lt_sz_num (r : Rat) : r.num.natAbs < 2 ^ sz (.rat r) := by
  refine Nat.lt_of_lt_of_le (Nat.lt_log2_self) (Nat.pow_le_pow_right (by decide) ?_)
  simp only [sz]; omega
theorem lt_sz_den (r : Rat) : (r.den : Int).natAbs < 2 ^ sz (.rat r) := by
  rw [Int.natAbs_natCast]
  refine Nat.lt_of_lt_of_le (Nat.lt_log2_self) (Nat.pow_le_pow_right (by decide) ?_)
  simp only [sz]; omega
theorem sz_pos (a : Wo) : 0 < sz a := by cases a <;> simp only [sz] <;> omega
theorem lt_sz_int (i : Int) : i.natAbs < 2 ^ sz (.int i) := Nat.lt_log2_self
theorem mul_fit {a b : Int} {n m k : Nat} (ha : a.natAbs < 2 ^ n) (hb : b.natAbs < 2 ^ m) (h0 : 0 < n) (h1 : 0 < m) (h : n + m ≤ k) (hk : k ≤ 1000000) : L2.CMulW a b := wide_mul ha hb h0 h1 (by omega)
theorem den_fit {r s : Rat} {n : Nat} (h : sz (.rat r) + sz (.rat s) ≤ n) (hn : n ≤ 8000) : ((r.den : Int) * s.den).natAbs.log2 < 9000 := by
  have := wide_lt (lt_sz_den r) (lt_sz_den s)
  have h2 := PySem.Flt.log2_lt_of (n := ((r.den : Int) * s.den).natAbs) (k := sz (.rat r) + sz (.rat s)) (by have := sz_pos (.rat r); omega) this
  omega
section
variable {P : Program} {w : World} {K : PySem.W.Frag} {mg : Str → Option Value} {base : Heap}
theorem fc_common {f : Addr} {fd : FuncData} (D : Dfn K mg "common" s_common ["one", "other"] f fd) : Fc CX0 P w K mg base 1 "common" spCommon := by
  have sc : FnScope ["one", "other", "kept"] ["one", "other"] (defScope s_common) := ⟨rfl, rfl, rfl, by decide +kernel, rfl, by decide +kernel, by decide +kernel⟩
  refine fc0 D sc (fun vs H Q E h => ?_) (fun cdv A outer s H vs Q E hr h => ?_)
  · obtain ⟨a, b, rfl, _⟩ := h; rfl
  · obtain ⟨a, b, rfl, ha, hb, k⟩ := h
    refine ⟨_, pss_cons (ps_while PassesOwn.never (pt_cmpR op_ne (pv 1) pe_int (nomark _)) (pss_cons (ps_set (i := 2) sc.nd rfl (.inl rfl) (pe_op op_mod (pv 0) (pv 1)))
      (pss_cons (ps_set (i := 0) sc.nd rfl (.inl rfl) (pv 1)) (pss_one (ps_set (i := 1) sc.nd rfl (.inl rfl) (pv 2)))))) (pss_one (ps_ret (pv 0))), ?_⟩
    refine while_by (fun σ H' => ∃ (x y : Int) (v : Option V), σ = [some (.int x), some (.int y), v] ∧ H' = H ∧ 0 ≤ x ∧ 0 ≤ y ∧ Int.gcd x y = Int.gcd a b)
      (fun σ _ => match σ with | [_, some (.int y), _] => y.toNat | _ => 0) ⟨a, b, none, rfl, rfl, ha, hb, rfl⟩ ?_ ?_
    · rintro σ H' ⟨x, y, v, rfl, rfl, hx, hy, hg⟩
      refine ⟨_, rfl, rfl, _, rfl, ?_⟩
      by_cases h0 : y = 0
      · subst h0
        refine ⟨_, rfl, ?_⟩
        rw [Int.gcd_zero_right, ← Int.natCast_inj] at hg
        have e : x = (Int.gcd a b : Int) := by rw [← hg]; omega
        rw [e]; exact k
      · have hd : (!decide (V.int y = V.int 0)) = true := by simp [h0]
        show if (!decide (V.int y = V.int 0)) = true then _ else _
        rw [if_pos hd]
        refine ⟨_, rfl, _, rfl, _, _, rfl, rfl, (by omega : 0 < y), ?_⟩
        refine ⟨_, rfl, _, rfl, ⟨y, x % y, _, rfl, rfl, hy, Int.emod_nonneg _ h0, by rw [gcd_step]; exact hg⟩, ?_⟩
        have := Int.emod_lt_of_pos x (show 0 < y by omega)
        have := Int.emod_nonneg x h0
        show (x % y).toNat < y.toNat
        omega
    · rintro σ H' R R' hm ⟨v, e, h1, b, e2, h2⟩
      exact ⟨v, e, h1, b, e2, hm _ _ h2⟩
theorem fc_lowest {f : Addr} {fd : FuncData} (D : Dfn K mg "lowest" s_lowest ["top", "below"] f fd) (C : Fc CX0 P w K mg base 1 "common" spCommon) : Fc CX0 P w K mg base 2 "lowest" spLowest := by
  have sc : FnScope ["top", "below", "part"] ["top", "below"] (defScope s_lowest) := ⟨rfl, rfl, rfl, by decide +kernel, rfl, by decide +kernel, by decide +kernel⟩
  refine fc0 D sc (fun vs H Q E h => ?_) (fun cdv A outer s H vs Q E hr h => ?_)
  · obtain ⟨a, b, rfl, _⟩ := h; rfl
  · obtain ⟨a, b, rfl, ha, hb, hl, k⟩ := h
    refine ⟨_, pss_cons (ps_set (i := 2) sc.nd rfl (.inl rfl) (pe_f C hr (by decide) pass0 rfl (pa_cons (pv 0) (pa_cons (pv 1) pa_nil))))
      (pss_one (ps_ret (pe_tup (pa_cons (pe_op op_fdivW (pv 0) (pv 2)) (pa_cons (pe_op op_fdivW (pv 1) (pv 2)) pa_nil))))), ?_⟩
    have hg := gcd_pos' a b hb
    have hle := gcd_le' a b hb
    have hw : ∀ i, L2.CDivW i (Int.gcd a b : Int) := fun i => ⟨hg, Nat.lt_of_le_of_lt (log2_mono (by omega)) hl⟩
    refine ⟨_, rfl, _, rfl, a, b, rfl, ha, by omega, ?_⟩
    refine ⟨_, rfl, _, rfl, _, _, rfl, rfl, hw _, _, rfl, _, rfl, _, _, rfl, rfl, hw _, size2, fun p hp => ?_⟩
    have := k p hp
    rw [low_num a b hb, low_den a b hb] at this
    exact this
theorem fc_added {f : Addr} {fd : FuncData} (D : Dfn K mg "added" s_added ["one", "other"] f fd) (C : Fc CX0 P w K mg base 2 "lowest" spLowest) : Fc CX0 P w K mg base 3 "added" (spShare (· + ·) 8000) := by
  have sc : FnScope ["one", "other"] ["one", "other"] (defScope s_added) := ⟨rfl, rfl, rfl, by decide +kernel, rfl, by decide +kernel, by decide +kernel⟩
  refine fc0 D sc (fun vs H Q E h => ?_) (fun cdv A outer s H vs Q E hr h => ?_)
  · obtain ⟨x, y, r, s, rfl, _⟩ := h; rfl
  · obtain ⟨x, y, r, s, rfl, ⟨t, rfl, ht⟩, ⟨u, rfl, hu⟩, hr0, hs0, hsz, k⟩ := h
    refine ⟨_, pss_one (ps_ret (pe_f C hr (by decide) pass0 rfl (pa_cons (pe_op op_add (pe_op op_mulW (pe_ix ix_tup (pv 0) pe_int (fun _ _ => rfl)) (pe_ix ix_tup (pv 1) pe_int (fun _ _ => rfl))) (pe_op op_mulW (pe_ix ix_tup (pv 1) pe_int (fun _ _ => rfl)) (pe_ix ix_tup (pv 0) pe_int (fun _ _ => rfl))))
      (pa_cons (pe_op op_mulW (pe_ix ix_tup (pv 0) pe_int (fun _ _ => rfl)) (pe_ix ix_tup (pv 1) pe_int (fun _ _ => rfl))) pa_nil)))), ?_⟩
    have n0 := Rat.num_nonneg.2 hr0
    have n1 := Rat.num_nonneg.2 hs0
    have d0 := den_pos r
    have d1 := den_pos s
    have p0 := sz_pos (.rat r)
    have p1 := sz_pos (.rat s)
    refine ⟨_, rfl, t, _, _, _, rfl, rfl, SqT.of ht, at0, _, rfl, u, _, _, _, rfl, rfl, SqT.of hu, at1, _, _, rfl, rfl, mul_fit (lt_sz_num r) (lt_sz_den s) p0 p1 hsz (by decide), ?_⟩
    refine ⟨_, rfl, u, _, _, _, rfl, rfl, SqT.of hu, at0, _, rfl, t, _, _, _, rfl, rfl, SqT.of ht, at1, _, _, rfl, rfl, mul_fit (lt_sz_num s) (lt_sz_den r) p1 p0 (by omega) (by decide : 8000 ≤ _), _, _, rfl, rfl, ?_⟩
    refine ⟨_, rfl, t, _, _, _, rfl, rfl, SqT.of ht, at1, _, rfl, u, _, _, _, rfl, rfl, SqT.of hu, at1, _, _, rfl, rfl, mul_fit (lt_sz_den r) (lt_sz_den s) p0 p1 hsz (by decide), ?_⟩
    refine ⟨_, _, rfl, Int.add_nonneg (Int.mul_nonneg n0 (by omega)) (Int.mul_nonneg n1 (by omega)), Int.mul_pos d0 d1, den_fit hsz (by decide), fun p hp => ?_⟩
    rw [rat_add]
    exact k p hp
theorem fc_taken {f : Addr} {fd : FuncData} (D : Dfn K mg "taken" s_taken ["one", "other"] f fd) (C : Fc CX0 P w K mg base 2 "lowest" spLowest) : Fc CX0 P w K mg base 3 "taken" (spShare (· * ·) 8000) := by
  have sc : FnScope ["one", "other"] ["one", "other"] (defScope s_taken) := ⟨rfl, rfl, rfl, by decide +kernel, rfl, by decide +kernel, by decide +kernel⟩
  refine fc0 D sc (fun vs H Q E h => ?_) (fun cdv A outer s H vs Q E hr h => ?_)
  · obtain ⟨x, y, r, s, rfl, _⟩ := h; rfl
  · obtain ⟨x, y, r, s, rfl, ⟨t, rfl, ht⟩, ⟨u, rfl, hu⟩, hr0, hs0, hsz, k⟩ := h
    refine ⟨_, pss_one (ps_ret (pe_f C hr (by decide) pass0 rfl (pa_cons (pe_op op_mulW (pe_ix ix_tup (pv 0) pe_int (fun _ _ => rfl)) (pe_ix ix_tup (pv 1) pe_int (fun _ _ => rfl)))
      (pa_cons (pe_op op_mulW (pe_ix ix_tup (pv 0) pe_int (fun _ _ => rfl)) (pe_ix ix_tup (pv 1) pe_int (fun _ _ => rfl))) pa_nil)))), ?_⟩
    have n0 := Rat.num_nonneg.2 hr0
    have n1 := Rat.num_nonneg.2 hs0
    have d0 := den_pos r
    have d1 := den_pos s
    have p0 := sz_pos (.rat r)
    have p1 := sz_pos (.rat s)
    refine ⟨_, rfl, t, _, _, _, rfl, rfl, SqT.of ht, at0, _, rfl, u, _, _, _, rfl, rfl, SqT.of hu, at0, _, _, rfl, rfl, mul_fit (lt_sz_num r) (lt_sz_num s) p0 p1 hsz (by decide), ?_⟩
    refine ⟨_, rfl, t, _, _, _, rfl, rfl, SqT.of ht, at1, _, rfl, u, _, _, _, rfl, rfl, SqT.of hu, at1, _, _, rfl, rfl, mul_fit (lt_sz_den r) (lt_sz_den s) p0 p1 hsz (by decide), ?_⟩
    refine ⟨_, _, rfl, Int.mul_nonneg n0 n1, Int.mul_pos d0 d1, den_fit hsz (by decide), fun p hp => ?_⟩
    rw [rat_mul]
    exact k p hp
theorem fc_less {f : Addr} {fd : FuncData} (D : Dfn K mg "less" s_less ["one", "other"] f fd) : Fc CX0 P w K mg base 1 "less" spLess := by
  have sc : FnScope ["one", "other"] ["one", "other"] (defScope s_less) := ⟨rfl, rfl, rfl, by decide +kernel, rfl, by decide +kernel, by decide +kernel⟩
  refine fc0 D sc (fun vs H Q E h => ?_) (fun cdv A outer s H vs Q E hr h => ?_)
  · obtain ⟨x, y, r, s, rfl, _⟩ := h; rfl
  · obtain ⟨x, y, r, s, rfl, ⟨t, rfl, ht⟩, ⟨u, rfl, hu⟩, hsz, k⟩ := h
    refine ⟨_, pss_one (ps_ret (pe_cmpR op_lt (pe_op op_mulW (pe_ix ix_tup (pv 0) pe_int (fun _ _ => rfl)) (pe_ix ix_tup (pv 1) pe_int (fun _ _ => rfl))) (pe_op op_mulW (pe_ix ix_tup (pv 1) pe_int (fun _ _ => rfl)) (pe_ix ix_tup (pv 0) pe_int (fun _ _ => rfl))) (nomark _))), ?_⟩
    have p0 := sz_pos (.rat r)
    have p1 := sz_pos (.rat s)
    refine ⟨_, rfl, t, _, _, _, rfl, rfl, SqT.of ht, at0, _, rfl, u, _, _, _, rfl, rfl, SqT.of hu, at1, _, _, rfl, rfl, mul_fit (lt_sz_num r) (lt_sz_den s) p0 p1 hsz (by decide), ?_⟩
    refine ⟨_, rfl, u, _, _, _, rfl, rfl, SqT.of hu, at0, _, rfl, t, _, _, _, rfl, rfl, SqT.of ht, at1, _, _, rfl, rfl, mul_fit (lt_sz_num s) (lt_sz_den r) p1 p0 (by omega) (by decide : 8000 ≤ _), _, _, rfl, rfl, ?_⟩
    have e : decide (r < s) = decide (r.num * s.den < s.num * r.den) := by rw [decide_eq_decide]; exact Rat.lt_iff r s
    rw [e] at k
    exact k
end
/-! ### W2: the kinds' methods -/
/-- attributes of a kind -/
def kfs : Kd → List (Str × V)
  | .rst m => putF "m" (.int m) []
  | _ => []
/-- the kind k stands at x -/
def KindAt (A : Ad) (H : Hp) (x : Addr) (k : Kd) : Prop := Av k.x = true ∧ KOk k ∧ ∃ dx, H x = some (.ins (A.C k.x) dx (kfs k))
theorem KindAt.same {A : Ad} {H H' : Hp} {x : Addr} {k : Kd} (h : KindAt A H x k) (e : Same H H') : KindAt A H' x k := by
  obtain ⟨h0, h2, dx, h1⟩ := h; exact ⟨h0, h2, dx, e _ _ h1⟩
theorem kfs_no (k : Kd) {m : Str} (h : ¬ m = "m") : (kfs k).lookup m = none := by
  cases k <;> first | rfl | skip
  unfold kfs
  rw [lookup_putF, if_neg h]
  rfl
theorem kfs_m (m : Nat) : (kfs (.rst m)).lookup ("m" : Str) = some (.int m) := by
  unfold kfs
  rw [lookup_putF, if_pos rfl]
/-- k.m(): a worth -/
def spK0 (A : Ad) (i : Kx) (f : Kd → Wo) : Sp := fun vs H Q _ => ∃ (x : Addr) (k : Kd), vs = [.ref x] ∧ KindAt A H x k ∧ k.x = i ∧ ∀ H' z, Same H H' → Wv H' z (f k) → Q z H'
/-- k.m(a, b): a worth -/
def spK2 (A : Ad) (i : Kx) (f : Kd → Wo → Wo → Wo) : Sp := fun vs H Q _ => ∃ (x : Addr) (k : Kd) (u v : V) (a b : Wo), vs = [.ref x, u, v] ∧ KindAt A H x k ∧ k.x = i ∧ Wv H u a ∧ Wv H v b ∧ Good k a ∧ Good k b ∧ Fits k a b ∧
  ∀ H' z, Same H H' → Wv H' z (f k a b) → Q z H'
/-- k.rounds(a) -/
def spRnd (A : Ad) (nos : Addr) (i : Kx) : Sp := fun vs H Q E => ∃ (x : Addr) (k : Kd) (u : V) (a : Wo), vs = [.ref x, u] ∧ KindAt A H x k ∧ k.x = i ∧ Wv H u a ∧ Good k a ∧ Fit1 k a ∧
  (∀ s, rnd k a = some s → ∀ H' z, Same H H' → Wv H' z s → Q z H') ∧ (rnd k a = none → E (.ref nos) none H)
/-- k.picks() -/
def spPick (A : Ad) (i : Kx) : Sp := fun vs H Q _ => ∃ (x : Addr) (k : Kd), vs = [.ref x] ∧ KindAt A H x k ∧ k.x = i ∧ Q (.bl (pick k)) H
theorem ifT {c : Bool} {A B : Prop} (h : c = true) (q : A) : if c = true then A else B := by rw [if_pos h]; exact q
theorem ifF {c : Bool} {A B : Prop} (h : c = false) (q : B) : if c = true then A else B := by rw [h, if_neg Bool.false_ne_true]; exact q
theorem wv_tup {H : Hp} {p : Addr} {r : Rat} {P Q : Int} (h1 : P = r.num) (h2 : Q = r.den) : Wv (upd H p (.tup [.int P, .int Q])) (.ref p) (.rat r) := ⟨p, rfl, by rw [upd_same, h1, h2]⟩
theorem nn (i : Int) (h : 0 ≤ i) : ∃ n : Nat, i = (n : Int) := ⟨i.toNat, by omega⟩
theorem fsc {N P : List Str} {sc : Scope} (h : C8.scC N P sc = true) : FnScope N P sc := C8.fnScope_by h
theorem bor (a b : Nat) : Builtin.bitOr (a : Int) (b : Int) = ((a ||| b : Nat) : Int) := by
  rw [bitOr_nn (by omega) (by omega), Int.toNat_natCast, Int.toNat_natCast]
theorem band (a b : Nat) : Builtin.bitAnd (a : Int) (b : Int) = ((a &&& b : Nat) : Int) := by
  unfold Builtin.bitAnd
  rw [decide_eq_true (show (0 : Int) ≤ (a : Int) by omega), decide_eq_true (show (0 : Int) ≤ (b : Int) by omega)]
  simp
section
variable {P : Program} {w : World} {K : PySem.W.Frag} {mg : Str → Option Value} {base : Heap} {A : Ad} {f : Addr} {fd : FuncData}
/-- a method that hands back a written whole number -/
theorem len0 {i : Kx} {g : Kd → Wo} : ∀ vs H Q E, spK0 A i g vs H Q E → vs.length = ["self"].length := fun vs H Q E h => by
  obtain ⟨x, k, rfl, _⟩ := h; rfl
theorem len2 {i : Kx} {g : Kd → Wo → Wo → Wo} : ∀ vs H Q E, spK2 A i g vs H Q E → vs.length = ["self", "one", "other"].length := fun vs H Q E h => by
  obtain ⟨x, k, u, v, a, b, rfl, _⟩ := h; rfl
theorem lenR {i : Kx} {n : Addr} : ∀ vs H Q E, spRnd A n i vs H Q E → vs.length = ["self", "one"].length := fun vs H Q E h => by
  obtain ⟨x, k, u, a, rfl, _⟩ := h; rfl
theorem lenP {i : Kx} : ∀ vs H Q E, spPick A i vs H Q E → vs.length = ["self"].length := fun vs H Q E h => by
  obtain ⟨x, k, rfl, _⟩ := h; rfl
theorem mc_Fewest_none (c : Cls K A.Fewest) (D : Mth K A.Fewest "none" "Fewest.none" s_Fewest_none ["self"] f fd) : Mc CX0 P w K mg base 1 A.Fewest "none" (spK0 A .few noneW) := by
  refine mc0 (N := ["self"]) c D (fsc (by decide +kernel)) len0 (fun cdv _ outer s H vs Q E hr h => ?_)
  obtain ⟨x, k, rfl, hk, e, q⟩ := h
  cases k <;> cases e
  exact ⟨_, pss_one (ps_ret pe_non), q _ _ (Same.refl _) rfl⟩
theorem mc_Musts_none (c : Cls K A.Musts) (D : Mth K A.Musts "none" "Musts.none" s_Musts_none ["self"] f fd) : Mc CX0 P w K mg base 1 A.Musts "none" (spK0 A .mus noneW) := by
  refine mc0 (N := ["self"]) c D (fsc (by decide +kernel)) len0 (fun cdv _ outer s H vs Q E hr h => ?_)
  obtain ⟨x, k, rfl, hk, e, q⟩ := h
  cases k <;> cases e
  exact ⟨_, pss_one (ps_ret pe_non), q _ _ (Same.refl _) rfl⟩
theorem mc_Widest_none (c : Cls K A.Widest) (D : Mth K A.Widest "none" "Widest.none" s_Widest_none ["self"] f fd) : Mc CX0 P w K mg base 1 A.Widest "none" (spK0 A .wid noneW) := by
  refine mc0 (N := ["self"]) c D (fsc (by decide +kernel)) len0 (fun cdv _ outer s H vs Q E hr h => ?_)
  obtain ⟨x, k, rfl, hk, e, q⟩ := h
  cases k <;> cases e
  exact ⟨_, pss_one (ps_ret pe_int), q _ _ (Same.refl _) rfl⟩
theorem mc_Counted_none (c : Cls K A.Counted) (D : Mth K A.Counted "none" "Counted.none" s_Counted_none ["self"] f fd) : Mc CX0 P w K mg base 1 A.Counted "none" (spK0 A .cnt noneW) := by
  refine mc0 (N := ["self"]) c D (fsc (by decide +kernel)) len0 (fun cdv _ outer s H vs Q E hr h => ?_)
  obtain ⟨x, k, rfl, hk, e, q⟩ := h
  cases k <;> cases e
  exact ⟨_, pss_one (ps_ret pe_int), q _ _ (Same.refl _) rfl⟩
theorem mc_Rests_none (c : Cls K A.Rests) (D : Mth K A.Rests "none" "Rests.none" s_Rests_none ["self"] f fd) : Mc CX0 P w K mg base 1 A.Rests "none" (spK0 A .rst noneW) := by
  refine mc0 (N := ["self"]) c D (fsc (by decide +kernel)) len0 (fun cdv _ outer s H vs Q E hr h => ?_)
  obtain ⟨x, k, rfl, hk, e, q⟩ := h
  cases k <;> cases e
  exact ⟨_, pss_one (ps_ret pe_int), q _ _ (Same.refl _) rfl⟩
theorem mc_Fewest_rest (c : Cls K A.Fewest) (D : Mth K A.Fewest "rest" "Fewest.rest" s_Fewest_rest ["self"] f fd) : Mc CX0 P w K mg base 1 A.Fewest "rest" (spK0 A .few restW) := by
  refine mc0 (N := ["self"]) c D (fsc (by decide +kernel)) len0 (fun cdv _ outer s H vs Q E hr h => ?_)
  obtain ⟨x, k, rfl, hk, e, q⟩ := h
  cases k <;> cases e
  exact ⟨_, pss_one (ps_ret pe_int), q _ _ (Same.refl _) rfl⟩
theorem mc_Counted_rest (c : Cls K A.Counted) (D : Mth K A.Counted "rest" "Counted.rest" s_Counted_rest ["self"] f fd) : Mc CX0 P w K mg base 1 A.Counted "rest" (spK0 A .cnt restW) := by
  refine mc0 (N := ["self"]) c D (fsc (by decide +kernel)) len0 (fun cdv _ outer s H vs Q E hr h => ?_)
  obtain ⟨x, k, rfl, hk, e, q⟩ := h
  cases k <;> cases e
  exact ⟨_, pss_one (ps_ret pe_int), q _ _ (Same.refl _) rfl⟩
theorem mc_Musts_rest (c : Cls K A.Musts) (D : Mth K A.Musts "rest" "Musts.rest" s_Musts_rest ["self"] f fd) : Mc CX0 P w K mg base 1 A.Musts "rest" (spK0 A .mus restW) := by
  refine mc0 (N := ["self"]) c D (fsc (by decide +kernel)) len0 (fun cdv _ outer s H vs Q E hr h => ?_)
  obtain ⟨x, k, rfl, hk, e, q⟩ := h
  cases k <;> cases e
  exact ⟨_, pss_one (ps_ret pe_int), q _ _ (Same.refl _) rfl⟩
theorem mc_Rests_rest (c : Cls K A.Rests) (D : Mth K A.Rests "rest" "Rests.rest" s_Rests_rest ["self"] f fd) : Mc CX0 P w K mg base 1 A.Rests "rest" (spK0 A .rst restW) := by
  refine mc0 (N := ["self"]) c D (fsc (by decide +kernel)) len0 (fun cdv _ outer s H vs Q E hr h => ?_)
  obtain ⟨x, k, rfl, hk, e, q⟩ := h
  cases k <;> cases e
  exact ⟨_, pss_one (ps_ret pe_int), q _ _ (Same.refl _) rfl⟩
theorem mc_Likeliest_none (c : Cls K A.Likeliest) (D : Mth K A.Likeliest "none" "Likeliest.none" s_Likeliest_none ["self"] f fd) : Mc CX0 P w K mg base 1 A.Likeliest "none" (spK0 A .lik noneW) := by
  refine mc0 (N := ["self"]) c D (fsc (by decide +kernel)) len0 (fun cdv _ outer s H vs Q E hr h => ?_)
  obtain ⟨x, k, rfl, hk, e, q⟩ := h
  cases k <;> cases e
  exact ⟨_, pss_one (ps_ret (pe_tup (pa_cons pe_int (pa_cons pe_int pa_nil)))), size2, fun p hp => q _ _ (same_upd hp) (wv_tup (by decide) (by decide))⟩
theorem mc_Likeliest_rest (c : Cls K A.Likeliest) (D : Mth K A.Likeliest "rest" "Likeliest.rest" s_Likeliest_rest ["self"] f fd) : Mc CX0 P w K mg base 1 A.Likeliest "rest" (spK0 A .lik restW) := by
  refine mc0 (N := ["self"]) c D (fsc (by decide +kernel)) len0 (fun cdv _ outer s H vs Q E hr h => ?_)
  obtain ⟨x, k, rfl, hk, e, q⟩ := h
  cases k <;> cases e
  exact ⟨_, pss_one (ps_ret (pe_tup (pa_cons pe_int (pa_cons pe_int pa_nil)))), size2, fun p hp => q _ _ (same_upd hp) (wv_tup (by decide) (by decide))⟩
theorem mc_Chances_none (c : Cls K A.Chances) (D : Mth K A.Chances "none" "Chances.none" s_Chances_none ["self"] f fd) : Mc CX0 P w K mg base 1 A.Chances "none" (spK0 A .cha noneW) := by
  refine mc0 (N := ["self"]) c D (fsc (by decide +kernel)) len0 (fun cdv _ outer s H vs Q E hr h => ?_)
  obtain ⟨x, k, rfl, hk, e, q⟩ := h
  cases k <;> cases e
  exact ⟨_, pss_one (ps_ret (pe_tup (pa_cons pe_int (pa_cons pe_int pa_nil)))), size2, fun p hp => q _ _ (same_upd hp) (wv_tup (by decide) (by decide))⟩
theorem mc_Chances_rest (c : Cls K A.Chances) (D : Mth K A.Chances "rest" "Chances.rest" s_Chances_rest ["self"] f fd) : Mc CX0 P w K mg base 1 A.Chances "rest" (spK0 A .cha restW) := by
  refine mc0 (N := ["self"]) c D (fsc (by decide +kernel)) len0 (fun cdv _ outer s H vs Q E hr h => ?_)
  obtain ⟨x, k, rfl, hk, e, q⟩ := h
  cases k <;> cases e
  exact ⟨_, pss_one (ps_ret (pe_tup (pa_cons pe_int (pa_cons pe_int pa_nil)))), size2, fun p hp => q _ _ (same_upd hp) (wv_tup (by decide) (by decide))⟩
theorem mc_Widest_rest (c : Cls K A.Widest) (g : ∃ u, mg "WIDEST" = some u ∧ RelV (.int 1000000000) u) (D : Mth K A.Widest "rest" "Widest.rest" s_Widest_rest ["self"] f fd) : Mc CX0 P w K mg base 1 A.Widest "rest" (spK0 A .wid restW) := by
  refine mc0 (N := ["self"]) c D (fsc (by decide +kernel)) len0 (fun cdv _ outer s H vs Q E hr h => ?_)
  obtain ⟨x, k, rfl, hk, e, q⟩ := h
  cases k <;> cases e
  exact ⟨_, pss_one (ps_ret (C8.pe_gc rfl g)), q _ _ (Same.refl _) rfl⟩
theorem mc_Fewest_together (c : Cls K A.Fewest) (hmin : mg "min" = none) (D : Mth K A.Fewest "together" "Fewest.together" s_Fewest_together ["self", "one", "other"] f fd) : Mc CX0 P w K mg base 1 A.Fewest "together" (spK2 A .few tog) := by
  refine mc0 (N := ["self", "one", "other"]) c D (fsc (by decide +kernel)) len2 (fun cdv _ outer s H vs Q E hr h => ?_)
  obtain ⟨x, k, u, v, a, b, rfl, hk, e, ha, hb, ga, gb, hf, q⟩ := h
  cases k <;> cases e
  refine ⟨_, pss_cons (ps_if (pt_cmpR op_isN (pv 1) pe_non (nomark _)) (pss_one (ps_ret (pv 2))) pss_nil) (pss_cons (ps_if (pt_cmpR op_isN (pv 2) pe_non (nomark _)) (pss_one (ps_ret (pv 1))) pss_nil)
    (pss_one (ps_ret (pe_callB (call_min2 rfl) (by rfl) hmin (by decide +kernel) (pa_cons (pv 1) (pa_cons (pv 2) pa_nil)))))), ?_⟩
  refine ⟨_, rfl, rfl, _, rfl, ?_⟩
  cases a with
  | non =>
    cases ha
    exact ifT rfl ⟨_, rfl, q _ _ (Same.refl _) (by cases b <;> exact hb)⟩
  | rat r => exact ga.elim
  | int i =>
    cases ha
    refine ifF rfl ⟨_, rfl, rfl, _, rfl, ?_⟩
    cases b with
    | non => cases hb; exact ifT rfl ⟨_, rfl, q _ _ (Same.refl _) rfl⟩
    | rat r => exact gb.elim
    | int j =>
      cases hb
      exact ifF rfl ⟨_, rfl, _, rfl, i, j, rfl, q _ _ (Same.refl _) rfl⟩
theorem mc_Musts_together (c : Cls K A.Musts) (D : Mth K A.Musts "together" "Musts.together" s_Musts_together ["self", "one", "other"] f fd) : Mc CX0 P w K mg base 1 A.Musts "together" (spK2 A .mus tog) := by
  refine mc0 (N := ["self", "one", "other"]) c D (fsc (by decide +kernel)) len2 (fun cdv _ outer s H vs Q E hr h => ?_)
  obtain ⟨x, k, u, v, a, b, rfl, hk, e, ha, hb, ga, gb, hf, q⟩ := h
  cases k <;> cases e
  refine ⟨_, pss_cons (ps_if (pt_cmpR op_isN (pv 1) pe_non (nomark _)) (pss_one (ps_ret (pv 2))) pss_nil) (pss_cons (ps_if (pt_cmpR op_isN (pv 2) pe_non (nomark _)) (pss_one (ps_ret (pv 1))) pss_nil)
    (pss_one (ps_ret (pe_op op_and (pv 1) (pv 2))))), ?_⟩
  refine ⟨_, rfl, rfl, _, rfl, ?_⟩
  cases a with
  | non =>
    cases ha
    exact ifT rfl ⟨_, rfl, q _ _ (Same.refl _) (by cases b <;> exact hb)⟩
  | rat r => exact ga.elim
  | int i =>
    cases ha
    refine ifF rfl ⟨_, rfl, rfl, _, rfl, ?_⟩
    cases b with
    | non => cases hb; exact ifT rfl ⟨_, rfl, q _ _ (Same.refl _) rfl⟩
    | rat r => exact gb.elim
    | int j =>
      cases hb
      obtain ⟨n, rfl⟩ := nn i ga
      obtain ⟨m, rfl⟩ := nn j gb
      refine ifF rfl ⟨_, rfl, _, rfl, _, _, rfl, rfl, q _ _ (Same.refl _) ?_⟩
      show Wv H (V.int (Builtin.bitAnd (n : Int) (m : Int))) _
      rw [band]; rfl
theorem mc_Fewest_behind (c : Cls K A.Fewest) (D : Mth K A.Fewest "behind" "Fewest.behind" s_Fewest_behind ["self", "one", "other"] f fd) : Mc CX0 P w K mg base 1 A.Fewest "behind" (spK2 A .few beh) := by
  refine mc0 (N := ["self", "one", "other"]) c D (fsc (by decide +kernel)) len2 (fun cdv _ outer s H vs Q E hr h => ?_)
  obtain ⟨x, k, u, v, a, b, rfl, hk, e, ha, hb, ga, gb, hf, q⟩ := h
  cases k <;> cases e
  refine ⟨_, pss_cons (ps_if (PW.pt (pw_or (pt_cmpR op_isN (pv 1) pe_non (nomark _)) (pw_or1 (pt_cmpR op_isN (pv 2) pe_non (nomark _))))) (pss_one (ps_ret pe_non)) pss_nil)
    (pss_one (ps_ret (pe_op op_add (pv 1) (pv 2)))), ?_⟩
  refine ⟨_, rfl, rfl, _, rfl, ?_⟩
  cases a with
  | non => cases ha; exact ifT rfl (ifT rfl (q _ _ (Same.refl _) rfl))
  | rat r => exact ga.elim
  | int i =>
    cases ha
    refine ifF rfl ⟨_, rfl, rfl, _, rfl, ?_⟩
    cases b with
    | non => cases hb; exact ifT rfl (q _ _ (Same.refl _) rfl)
    | rat r => exact gb.elim
    | int j => cases hb; exact ifF rfl ⟨_, rfl, _, rfl, _, _, rfl, rfl, q _ _ (Same.refl _) rfl⟩
theorem mc_Musts_behind (c : Cls K A.Musts) (D : Mth K A.Musts "behind" "Musts.behind" s_Musts_behind ["self", "one", "other"] f fd) : Mc CX0 P w K mg base 1 A.Musts "behind" (spK2 A .mus beh) := by
  refine mc0 (N := ["self", "one", "other"]) c D (fsc (by decide +kernel)) len2 (fun cdv _ outer s H vs Q E hr h => ?_)
  obtain ⟨x, k, u, v, a, b, rfl, hk, e, ha, hb, ga, gb, hf, q⟩ := h
  cases k <;> cases e
  refine ⟨_, pss_cons (ps_if (PW.pt (pw_or (pt_cmpR op_isN (pv 1) pe_non (nomark _)) (pw_or1 (pt_cmpR op_isN (pv 2) pe_non (nomark _))))) (pss_one (ps_ret pe_non)) pss_nil)
    (pss_one (ps_ret (pe_op op_or (pv 1) (pv 2)))), ?_⟩
  refine ⟨_, rfl, rfl, _, rfl, ?_⟩
  cases a with
  | non => cases ha; exact ifT rfl (ifT rfl (q _ _ (Same.refl _) rfl))
  | rat r => exact ga.elim
  | int i =>
    cases ha
    refine ifF rfl ⟨_, rfl, rfl, _, rfl, ?_⟩
    cases b with
    | non => cases hb; exact ifT rfl (q _ _ (Same.refl _) rfl)
    | rat r => exact gb.elim
    | int j =>
      cases hb
      obtain ⟨n, rfl⟩ := nn i ga
      obtain ⟨m, rfl⟩ := nn j gb
      refine ifF rfl ⟨_, rfl, _, rfl, _, _, rfl, rfl, q _ _ (Same.refl _) ?_⟩
      show Wv H (V.int (Builtin.bitOr (n : Int) (m : Int))) _
      rw [bor]; rfl
theorem mc_Widest_together (c : Cls K A.Widest) (hmax : mg "max" = none) (D : Mth K A.Widest "together" "Widest.together" s_Widest_together ["self", "one", "other"] f fd) : Mc CX0 P w K mg base 1 A.Widest "together" (spK2 A .wid tog) := by
  refine mc0 (N := ["self", "one", "other"]) c D (fsc (by decide +kernel)) len2 (fun cdv _ outer s H vs Q E hr h => ?_)
  obtain ⟨x, k, u, v, a, b, rfl, hk, e, ha, hb, ga, gb, hf, q⟩ := h
  cases k <;> cases e
  cases a <;> first | exact ga.elim | skip
  cases b <;> first | exact gb.elim | skip
  cases ha; cases hb
  exact ⟨_, pss_one (ps_ret (pe_callB (call_max2 rfl) (by rfl) hmax (by decide +kernel) (pa_cons (pv 1) (pa_cons (pv 2) pa_nil)))), _, rfl, _, rfl, _, _, rfl, q _ _ (Same.refl _) rfl⟩
theorem mc_Widest_behind (c : Cls K A.Widest) (hmin : mg "min" = none) (D : Mth K A.Widest "behind" "Widest.behind" s_Widest_behind ["self", "one", "other"] f fd) : Mc CX0 P w K mg base 1 A.Widest "behind" (spK2 A .wid beh) := by
  refine mc0 (N := ["self", "one", "other"]) c D (fsc (by decide +kernel)) len2 (fun cdv _ outer s H vs Q E hr h => ?_)
  obtain ⟨x, k, u, v, a, b, rfl, hk, e, ha, hb, ga, gb, hf, q⟩ := h
  cases k <;> cases e
  cases a <;> first | exact ga.elim | skip
  cases b <;> first | exact gb.elim | skip
  cases ha; cases hb
  exact ⟨_, pss_one (ps_ret (pe_callB (call_min2 rfl) (by rfl) hmin (by decide +kernel) (pa_cons (pv 1) (pa_cons (pv 2) pa_nil)))), _, rfl, _, rfl, _, _, rfl, q _ _ (Same.refl _) rfl⟩
theorem mc_Counted_together (c : Cls K A.Counted) (D : Mth K A.Counted "together" "Counted.together" s_Counted_together ["self", "one", "other"] f fd) : Mc CX0 P w K mg base 1 A.Counted "together" (spK2 A .cnt tog) := by
  refine mc0 (N := ["self", "one", "other"]) c D (fsc (by decide +kernel)) len2 (fun cdv _ outer s H vs Q E hr h => ?_)
  obtain ⟨x, k, u, v, a, b, rfl, hk, e, ha, hb, ga, gb, hf, q⟩ := h
  cases k <;> cases e
  cases a <;> first | exact ga.elim | skip
  cases b <;> first | exact gb.elim | skip
  cases ha; cases hb
  rename_i i j
  refine ⟨_, pss_cons (ps_if (PW.pt (pw_or (pt_cmpR op_eq (pv 1) (pe_un un_neg pe_int) (nomark _)) (pw_or1 (pt_cmpR op_eq (pv 2) (pe_un un_neg pe_int) (nomark _))))) (pss_one (ps_ret (pe_un un_neg pe_int))) pss_nil)
    (pss_one (ps_ret (pe_op op_add (pv 1) (pv 2)))), ?_⟩
  refine ⟨_, rfl, _, rfl, rfl, _, rfl, ?_⟩
  by_cases hi : i = -1
  · subst hi
    exact ifT rfl (ifT rfl ⟨_, rfl, q _ _ (Same.refl _) (by simp [tog, Wv])⟩)
  · refine ifF (decide_eq_false fun z => hi (V.int.inj z)) ⟨_, rfl, _, rfl, rfl, _, rfl, ?_⟩
    by_cases hj : j = -1
    · subst hj
      exact ifT rfl ⟨_, rfl, q _ _ (Same.refl _) (by simp [tog, Wv])⟩
    · exact ifF (decide_eq_false fun z => hj (V.int.inj z)) ⟨_, rfl, _, rfl, _, _, rfl, rfl, q _ _ (Same.refl _) (by simp [tog, Wv, hi, hj])⟩
theorem mc_Counted_behind (c : Cls K A.Counted) (D : Mth K A.Counted "behind" "Counted.behind" s_Counted_behind ["self", "one", "other"] f fd) : Mc CX0 P w K mg base 1 A.Counted "behind" (spK2 A .cnt beh) := by
  refine mc0 (N := ["self", "one", "other"]) c D (fsc (by decide +kernel)) len2 (fun cdv _ outer s H vs Q E hr h => ?_)
  obtain ⟨x, k, u, v, a, b, rfl, hk, e, ha, hb, ga, gb, hf, q⟩ := h
  cases k <;> cases e
  cases a <;> first | exact ga.elim | skip
  cases b <;> first | exact gb.elim | skip
  cases ha; cases hb
  rename_i i j
  refine ⟨_, pss_cons (ps_if (PW.pt (pw_or (pt_cmpR op_eq (pv 1) pe_int (nomark _)) (pw_or1 (pt_cmpR op_eq (pv 2) pe_int (nomark _))))) (pss_one (ps_ret pe_int)) pss_nil)
    (pss_cons (ps_if (PW.pt (pw_or (pt_cmpR op_eq (pv 1) (pe_un un_neg pe_int) (nomark _)) (pw_or1 (pt_cmpR op_eq (pv 2) (pe_un un_neg pe_int) (nomark _))))) (pss_one (ps_ret (pe_un un_neg pe_int))) pss_nil)
    (pss_one (ps_ret (pe_op op_mulW (pv 1) (pv 2))))), ?_⟩
  refine ⟨_, rfl, rfl, _, rfl, ?_⟩
  by_cases hi0 : i = 0
  · subst hi0
    exact ifT rfl (ifT rfl (q _ _ (Same.refl _) (by simp [beh, Wv])))
  · refine ifF (decide_eq_false fun z => hi0 (V.int.inj z)) ⟨_, rfl, rfl, _, rfl, ?_⟩
    by_cases hj0 : j = 0
    · subst hj0
      exact ifT rfl (q _ _ (Same.refl _) (by simp [beh, Wv]))
    · refine ifF (decide_eq_false fun z => hj0 (V.int.inj z)) ⟨_, rfl, _, rfl, rfl, _, rfl, ?_⟩
      by_cases hi : i = -1
      · subst hi
        exact ifT rfl (ifT rfl ⟨_, rfl, q _ _ (Same.refl _) (by simp [beh, Wv, hj0])⟩)
      · refine ifF (decide_eq_false fun z => hi (V.int.inj z)) ⟨_, rfl, _, rfl, rfl, _, rfl, ?_⟩
        by_cases hj : j = -1
        · subst hj
          exact ifT rfl ⟨_, rfl, q _ _ (Same.refl _) (by simp [beh, Wv, hi0])⟩
        · exact ifF (decide_eq_false fun z => hj (V.int.inj z)) ⟨_, rfl, _, rfl, _, _, rfl, rfl, mul_fit (lt_sz_int i) (lt_sz_int j) (sz_pos _) (sz_pos _) hf (by decide), q _ _ (Same.refl _) (by simp [beh, Wv, hi, hj, hi0, hj0])⟩
theorem mc_Likeliest_together (c : Cls K A.Likeliest) (L : Fc CX0 P w K mg base 1 "less" spLess) (D : Mth K A.Likeliest "together" "Likeliest.together" s_Likeliest_together ["self", "one", "other"] f fd) : Mc CX0 P w K mg base 2 A.Likeliest "together" (spK2 A .lik tog) := by
  refine mc0 (N := ["self", "one", "other"]) c D (fsc (by decide +kernel)) len2 (fun cdv _ outer s H vs Q E hr h => ?_)
  obtain ⟨x, k, u, v, a, b, rfl, hk, e, ha, hb, ga, gb, hf, q⟩ := h
  cases k <;> cases e
  cases a <;> first | exact ga.elim | skip
  cases b <;> first | exact gb.elim | skip
  rename_i r t
  refine ⟨_, pss_cons (ps_if (pt_val (pe_f L hr (by decide) pass0 rfl (pa_cons (pv 1) (pa_cons (pv 2) pa_nil)))) (pss_one (ps_ret (pv 2))) pss_nil) (pss_one (ps_ret (pv 1))), ?_⟩
  refine ⟨_, rfl, _, rfl, u, v, r, t, rfl, ha, hb, hf, _, rfl, ?_⟩
  by_cases h : r < t
  · exact ifT (decide_eq_true h) ⟨_, rfl, q _ _ (Same.refl _) (by simp only [tog, h, if_true]; exact hb)⟩
  · exact ifF (decide_eq_false h) ⟨_, rfl, q _ _ (Same.refl _) (by simp only [tog, h, if_false]; exact ha)⟩
theorem mc_Likeliest_behind (c : Cls K A.Likeliest) (L : Fc CX0 P w K mg base 3 "taken" (spShare (· * ·) 8000)) (D : Mth K A.Likeliest "behind" "Likeliest.behind" s_Likeliest_behind ["self", "one", "other"] f fd) : Mc CX0 P w K mg base 4 A.Likeliest "behind" (spK2 A .lik beh) := by
  refine mc0 (N := ["self", "one", "other"]) c D (fsc (by decide +kernel)) len2 (fun cdv _ outer s H vs Q E hr h => ?_)
  obtain ⟨x, k, u, v, a, b, rfl, hk, e, ha, hb, ga, gb, hf, q⟩ := h
  cases k <;> cases e
  cases a <;> first | exact ga.elim | skip
  cases b <;> first | exact gb.elim | skip
  rename_i r t
  refine ⟨_, pss_one (ps_ret (pe_f L hr (by decide) pass0 rfl (pa_cons (pv 1) (pa_cons (pv 2) pa_nil)))), ?_⟩
  exact ⟨_, rfl, _, rfl, u, v, r, t, rfl, ha, hb, ga.1, gb.1, hf, fun p hp => q _ _ (same_upd hp) (wv_tup rfl rfl)⟩
theorem mc_Chances_together (c : Cls K A.Chances) (L : Fc CX0 P w K mg base 3 "added" (spShare (· + ·) 8000)) (D : Mth K A.Chances "together" "Chances.together" s_Chances_together ["self", "one", "other"] f fd) : Mc CX0 P w K mg base 4 A.Chances "together" (spK2 A .cha tog) := by
  refine mc0 (N := ["self", "one", "other"]) c D (fsc (by decide +kernel)) len2 (fun cdv _ outer s H vs Q E hr h => ?_)
  obtain ⟨x, k, u, v, a, b, rfl, hk, e, ha, hb, ga, gb, hf, q⟩ := h
  cases k <;> cases e
  cases a <;> first | exact ga.elim | skip
  cases b <;> first | exact gb.elim | skip
  rename_i r t
  refine ⟨_, pss_one (ps_ret (pe_f L hr (by decide) pass0 rfl (pa_cons (pv 1) (pa_cons (pv 2) pa_nil)))), ?_⟩
  exact ⟨_, rfl, _, rfl, u, v, r, t, rfl, ha, hb, ga, gb, hf, fun p hp => q _ _ (same_upd hp) (wv_tup rfl rfl)⟩
theorem mc_Chances_behind (c : Cls K A.Chances) (L : Fc CX0 P w K mg base 3 "taken" (spShare (· * ·) 8000)) (D : Mth K A.Chances "behind" "Chances.behind" s_Chances_behind ["self", "one", "other"] f fd) : Mc CX0 P w K mg base 4 A.Chances "behind" (spK2 A .cha beh) := by
  refine mc0 (N := ["self", "one", "other"]) c D (fsc (by decide +kernel)) len2 (fun cdv _ outer s H vs Q E hr h => ?_)
  obtain ⟨x, k, u, v, a, b, rfl, hk, e, ha, hb, ga, gb, hf, q⟩ := h
  cases k <;> cases e
  cases a <;> first | exact ga.elim | skip
  cases b <;> first | exact gb.elim | skip
  rename_i r t
  refine ⟨_, pss_one (ps_ret (pe_f L hr (by decide) pass0 rfl (pa_cons (pv 1) (pa_cons (pv 2) pa_nil)))), ?_⟩
  exact ⟨_, rfl, _, rfl, u, v, r, t, rfl, ha, hb, ga, gb, hf, fun p hp => q _ _ (same_upd hp) (wv_tup rfl rfl)⟩
theorem mc_Rests_together (c : Cls K A.Rests) (D : Mth K A.Rests "together" "Rests.together" s_Rests_together ["self", "one", "other"] f fd) : Mc CX0 P w K mg base 1 A.Rests "together" (spK2 A .rst tog) := by
  refine mc0 (N := ["self", "one", "other"]) c D (fsc (by decide +kernel)) len2 (fun cdv _ outer s H vs Q E hr h => ?_)
  obtain ⟨x, k, u, v, a, b, rfl, hk, e, ha, hb, ga, gb, hf, q⟩ := h
  cases k <;> cases e
  cases a <;> first | exact ga.elim | skip
  cases b <;> first | exact gb.elim | skip
  cases ha; cases hb
  rename_i m i j
  obtain ⟨n, rfl⟩ := nn i ga.1
  obtain ⟨l, rfl⟩ := nn j gb.1
  exact ⟨_, pss_one (ps_ret (pe_op op_or (pv 1) (pv 2))), _, rfl, _, rfl, _, _, rfl, rfl, q _ _ (Same.refl _) (by show Wv H (V.int (Builtin.bitOr (n : Int) (l : Int))) _; rw [bor]; rfl)⟩
end
/-! ### W3: rests behind one another; rounds; Rests(m) -/
theorem bit_test (a i : Nat) : decide (V.int (Builtin.bitAnd ((a : Int) / 2 ^ ((0 : Int) + (i : Nat)).toNat) 1) = V.int 1) = a.testBit i := by
  have e1 : ((0 : Int) + (i : Nat)).toNat = i := by omega
  have e2 : (a : Int) / 2 ^ i = ((a / 2 ^ i : Nat) : Int) := by
    rw [Int.natCast_ediv, Int.natCast_pow]; rfl
  rw [e1, e2, show (1 : Int) = ((1 : Nat) : Int) from rfl, band, Nat.and_one_is_mod]
  have h := Nat.testBit_eq_decide_div_mod_eq (x := a) (i := i)
  rw [h, decide_eq_decide, V.int.injEq]
  omega
theorem shl_one {i j m : Nat} : (1 : Int) * 2 ^ (((0 : Int) + (i : Nat) + ((0 : Int) + (j : Nat))) % (m : Int)).toNat = ((2 ^ ((i + j) % m) : Nat) : Int) := by
  have e : (((0 : Int) + (i : Nat) + ((0 : Int) + (j : Nat))) % (m : Int)).toNat = (i + j) % m := by
    have : ((0 : Int) + (i : Nat) + ((0 : Int) + (j : Nat))) = ((i + j : Nat) : Int) := by omega
    rw [this, ← Int.natCast_emod, Int.toNat_natCast]
  rw [e, Int.one_mul, Int.natCast_pow]; rfl
theorem shl_fit {x : Int} {m : Nat} (h0 : 0 < m) (hm : m ≤ 12) : L2.CPow 1 (x % (m : Int)) :=
  ⟨Int.emod_nonneg _ (by omega), by have := Int.emod_lt_of_pos x (show (0 : Int) < m by omega); omega, by decide⟩
section
variable {P : Program} {w : World} {K : PySem.W.Frag} {mg : Str → Option Value} {base : Heap} {A : Ad} {f : Addr} {fd : FuncData}
theorem mc_Rests_behind (c : Cls K A.Rests) (na : NoAttr K A.Rests "m") (hrg : mg "range" = none) (D : Mth K A.Rests "behind" "Rests.behind" s_Rests_behind ["self", "one", "other"] f fd) : Mc CX0 P w K mg base 1 A.Rests "behind" (spK2 A .rst beh) := by
  have sc : FnScope ["self", "one", "other", "found", "i", "j"] ["self", "one", "other"] (defScope s_Rests_behind) := fsc (by decide +kernel)
  refine mc0 c D sc len2 (fun cdv _ outer s H vs Q E hr h => ?_)
  obtain ⟨x, k, u, v, a, b, rfl, hk, e, ha, hb, ga, gb, hf, q⟩ := h
  cases k <;> cases e
  cases a <;> first | exact ga.elim | skip
  cases b <;> first | exact gb.elim | skip
  cases ha; cases hb
  rename_i m i j
  obtain ⟨a, rfl⟩ := nn i ga.1
  obtain ⟨b, rfl⟩ := nn j gb.1
  obtain ⟨_, ⟨hm1, hm12⟩, dx, hx⟩ := hk
  refine ⟨_, pss_cons (ps_set (i := 3) sc.nd rfl (.inl rfl) pe_int) (pss_cons (ps_for PassesOwn.never rfl (pi_range1 (by rfl) hrg (pa_cons (pe_fld (pv 0) rfl) pa_nil)) (pg_name (i := 4) sc.nd rfl (.inl rfl))
    (pss_one (ps_for PassesOwn.never rfl (pi_range1 (by rfl) hrg (pa_cons (pe_fld (pv 0) rfl) pa_nil)) (pg_name (i := 5) sc.nd rfl (.inl rfl))
      (pss_one (ps_if (PW.pt (pw_and (pt_cmpR op_eq (pe_op op_and (pe_op op_shr (pv 1) (pv 4)) pe_int) pe_int (nomark _)) (pw_and1 (pt_cmpR op_eq (pe_op op_and (pe_op op_shr (pv 2) (pv 5)) pe_int) pe_int (nomark _)))))
        (pss_one (ps_set (i := 3) sc.nd rfl (.inl rfl) (pe_op op_or (pv 3) (pe_op op_shl pe_int (pe_op op_mod (pe_op op_add (pv 4) (pv 5)) (pe_fld (pv 0) rfl)))))) pss_nil)))))
    (pss_one (ps_ret (pv 3)))), ?_⟩
  refine ⟨_, rfl, x, A.Rests, dx, _, _, rfl, hx, c, na, kfs_m m, (m : Int), rfl, by omega, by omega, for_range (lo := 0) (n := (m : Int).toNat)
    (fun i σ H' => ∃ (F : Nat) (v4 v5 : Option V), σ = [some (.ref x), some (.int (a : Int)), some (.int (b : Int)), some (.int (F : Int)), v4, v5] ∧ H' = H ∧
      ∀ r, F.testBit r = true ↔ r < m ∧ ∃ i' j', i' < i ∧ j' < m ∧ a.testBit i' = true ∧ b.testBit j' = true ∧ (i' + j') % m = r) ⟨0, none, none, rfl, rfl, fun r => ?_⟩ ?_ ?_⟩
  · rw [Nat.zero_testBit]
    constructor
    · intro z; cases z
    · rintro ⟨_, i', j', h, _⟩; omega
  · rintro i σ H' hi ⟨F, v4, v5, rfl, rfl, hF⟩
    rw [Int.toNat_natCast] at hi
    refine ⟨_, rfl, x, A.Rests, dx, _, _, rfl, hx, c, na, kfs_m m, (m : Int), rfl, by omega, by omega, for_range (lo := 0) (n := (m : Int).toNat)
      (fun j σ H2 => ∃ (F : Nat) (v5 : Option V), σ = [some (.ref x), some (.int (a : Int)), some (.int (b : Int)), some (.int (F : Int)), some (.int (0 + i)), v5] ∧ H2 = H' ∧
        ∀ r, F.testBit r = true ↔ r < m ∧ ∃ i' j', (i' < i ∧ j' < m ∨ i' = i ∧ j' < j) ∧ a.testBit i' = true ∧ b.testBit j' = true ∧ (i' + j') % m = r) ⟨F, v5, rfl, rfl, fun r => ?_⟩ ?_ ?_⟩
    · rw [hF]
      constructor
      · rintro ⟨h, i', j', h1, h2, h3⟩; exact ⟨h, i', j', .inl ⟨h1, h2⟩, h3⟩
      · rintro ⟨h, i', j', h1, h3⟩
        rcases h1 with h1 | h1
        · exact ⟨h, i', j', h1.1, h1.2, h3⟩
        · omega
    · rintro j σ H2 hj ⟨F, v5, rfl, rfl, hF⟩
      rw [Int.toNat_natCast] at hj
      have go : ∀ {F' : Nat}, (∀ r, F'.testBit r = true ↔ F.testBit r = true ∨ (a.testBit i = true ∧ b.testBit j = true ∧ (i + j) % m = r)) →
          ∀ r, F'.testBit r = true ↔ r < m ∧ ∃ i' j', (i' < i ∧ j' < m ∨ i' = i ∧ j' < j + 1) ∧ a.testBit i' = true ∧ b.testBit j' = true ∧ (i' + j') % m = r := by
        intro F' hh r
        rw [hh, hF]
        constructor
        · rintro (⟨h, i', j', h1, h3⟩ | ⟨h1, h2, h3⟩)
          · refine ⟨h, i', j', ?_, h3⟩
            rcases h1 with h1 | h1
            · exact .inl h1
            · exact .inr ⟨h1.1, by omega⟩
          · exact ⟨by rw [← h3]; exact Nat.mod_lt _ (by omega), i, j, .inr ⟨rfl, by omega⟩, h1, h2, h3⟩
        · rintro ⟨h, i', j', h1, h3⟩
          rcases h1 with h1 | ⟨rfl, h1⟩
          · exact .inl ⟨h, i', j', .inl h1, h3⟩
          · by_cases ej : j' = j
            · subst ej; exact .inr h3
            · exact .inl ⟨h, i', j', .inr ⟨rfl, by omega⟩, h3⟩
      refine ⟨_, rfl, _, rfl, _, _, rfl, rfl, (by omega : (0 : Int) ≤ 0 + (i : Nat)), _, _, rfl, rfl, rfl, _, rfl, ?_⟩
      cases e1 : a.testBit i with
      | false =>
        refine ifF ((bit_test a i).trans e1) (ifF rfl ⟨F, _, rfl, rfl, go fun r => ?_⟩)
        simp [e1]
      | true =>
        refine ifT ((bit_test a i).trans e1) ⟨_, rfl, _, rfl, _, _, rfl, rfl, (by omega : (0 : Int) ≤ 0 + (j : Nat)), _, _, rfl, rfl, rfl, _, rfl, ?_⟩
        cases e2 : b.testBit j with
        | false =>
          refine ifF ((bit_test b j).trans e2) ⟨F, _, rfl, rfl, go fun r => ?_⟩
          simp [e2]
        | true =>
          refine ifT ((bit_test b j).trans e2) ⟨_, rfl, _, rfl, _, rfl, _, _, rfl, rfl, _, rfl, x, A.Rests, dx, _, _, rfl, hx, c, na, kfs_m m, _, _, rfl, rfl, (by omega : (0 : Int) < (m : Int)), _, _, rfl, rfl, shl_fit (by omega) hm12, _, _, rfl, rfl, ?_⟩
          have eF : Builtin.bitOr (F : Int) (1 * 2 ^ (((0 : Int) + (i : Nat) + ((0 : Int) + (j : Nat))) % (m : Int)).toNat) = ((F ||| 2 ^ ((i + j) % m) : Nat) : Int) := by rw [shl_one, bor]
          refine ⟨F ||| 2 ^ ((i + j) % m), some (.int (0 + j)), congrArg (fun z => [some (V.ref x), some (.int (a : Int)), some (.int (b : Int)), some (.int z), some (.int (0 + i)), some (.int (0 + j))]) eF, rfl, go fun r => ?_⟩
          · rw [Nat.testBit_or, Nat.testBit_two_pow]
            simp [e1, e2]
    · rintro σ H2 ⟨F, v5, rfl, rfl, hF⟩
      refine ⟨F, _, v5, rfl, rfl, fun r => ?_⟩
      rw [hF]
      constructor
      · rintro ⟨h, i', j', h1, h3⟩
        rcases h1 with h1 | ⟨rfl, h1⟩
        · exact ⟨h, i', j', by omega, h1.2, h3⟩
        · exact ⟨h, i', j', by omega, by omega, h3⟩
      · rintro ⟨h, i', j', h1, h2, h3⟩
        refine ⟨h, i', j', ?_, h3⟩
        by_cases ei : i' = i
        · exact .inr ⟨ei, by omega⟩
        · exact .inl ⟨by omega, h2⟩
  · rintro σ H' ⟨F, v4, v5, rfl, rfl, hF⟩
    refine ⟨_, rfl, q _ _ (Same.refl _) ?_⟩
    have e : F = rbeh m a b := by
      refine Nat.eq_of_testBit_eq fun r => ?_
      rw [Bool.eq_iff_iff, hF, testBit_rbeh, Int.toNat_natCast]
    rw [e]; rfl
theorem mc_Rests_rounds {n : Addr} (c : Cls K A.Rests) (B : Mc CX0 P w K mg base 1 A.Rests "behind" (spK2 A .rst beh)) (D : Mth K A.Rests "rounds" "Rests.rounds" s_Rests_rounds ["self", "one"] f fd) : Mc CX0 P w K mg base 2 A.Rests "rounds" (spRnd A n .rst) := by
  have sc : FnScope ["self", "one", "found", "more"] ["self", "one"] (defScope s_Rests_rounds) := fsc (by decide +kernel)
  refine mc0 c D sc lenR (fun cdv _ outer s H vs Q E hr h => ?_)
  obtain ⟨x, k, u, a, rfl, hk, e, ha, ga, hf, q, qn⟩ := h
  cases k <;> cases e
  cases a <;> first | exact ga.elim | skip
  cases ha
  rename_i m i
  obtain ⟨a, rfl⟩ := nn i ga.1
  obtain ⟨hav, ⟨hm1, hm12⟩, dx, hx⟩ := id hk
  refine ⟨_, pss_cons (ps_set (i := 2) sc.nd rfl (.inl rfl) pe_int) (pss_cons (ps_set (i := 3) sc.nd rfl (.inl rfl) (pe_op op_or (pv 2) (pe_m B hr (by decide) pass0 (pv 0) (pa_cons (pv 2) (pa_cons (pv 1) pa_nil)))))
    (pss_cons (ps_while PassesOwn.never (pt_cmpR op_ne (pv 3) (pv 2) (nomark _)) (pss_cons (ps_set (i := 2) sc.nd rfl (.inl rfl) (pv 3)) (pss_one (ps_set (i := 3) sc.nd rfl (.inl rfl) (pe_op op_or (pv 2) (pe_m B hr (by decide) pass0 (pv 0) (pa_cons (pv 2) (pa_cons (pv 1) pa_nil))))))))
    (pss_one (ps_ret (pv 2))))), ?_⟩
  have good : ∀ n, Good (.rst m) (.int (riter m a n : Nat)) := fun n => by
    have := riter_lt hm1 a n
    exact ⟨by omega, by exact_mod_cast this⟩
  have more : ∀ n, Builtin.bitOr (riter m a n : Int) (rbeh m (riter m a n) a : Nat) = (riter m a (n + 1) : Nat) := fun n => by rw [bor]; rfl
  refine ⟨_, rfl, _, rfl, x, dx, _, rfl, hx, kfs_no _ (by decide +kernel), _, rfl, _, rfl, x, .rst m, _, _, .int (riter m a 0 : Nat), .int (a : Int), rfl, hk, rfl, rfl, rfl, good 0, ga, trivial, fun H1 z s1 hz => ?_⟩
  cases hz
  refine ⟨_, _, rfl, rfl, ?_⟩
  refine while_by (fun σ H' => ∃ n : Nat, σ = [some (.ref x), some (.int (a : Int)), some (.int (riter m a n : Nat)), some (.int (riter m a (n + 1) : Nat))] ∧ Same H H')
    (fun σ _ => match σ with | [_, _, some (.int y), _] => 2 ^ m - y.toNat | _ => 0) ⟨0, congrArg (fun z => [some (V.ref x), some (.int (a : Int)), some (.int 1), some (.int z)]) (more 0), s1⟩ ?_ ?_
  · rintro σ H' ⟨n, rfl, s2⟩
    refine ⟨_, rfl, _, rfl, rfl, _, rfl, ?_⟩
    by_cases h0 : riter m a (n + 1) = riter m a n
    · refine ifF (by rw [h0]; simp) ⟨_, rfl, ?_⟩
      refine q (.int (rstar m a : Nat)) rfl _ _ s2 ?_
      rw [riter_end hm1 h0]; rfl
    · refine ifT (by simp; omega) ⟨_, rfl, ?_⟩
      refine ⟨_, rfl, _, rfl, x, dx, _, rfl, s2 _ _ hx, kfs_no _ (by decide +kernel), _, rfl, _, rfl, x, .rst m, _, _, .int (riter m a (n + 1) : Nat), .int (a : Int), rfl, hk.same s2, rfl, rfl, rfl, good (n + 1), ga, trivial, fun H1 z s3 hz => ?_⟩
      cases hz
      refine ⟨_, _, rfl, rfl, ⟨n + 1, congrArg (fun z => [some (V.ref x), some (.int (a : Int)), some (.int (riter m a (n + 1) : Nat)), some (.int z)]) (more (n + 1)), s2.trans s3⟩, ?_⟩
      · show 2 ^ m - ((riter m a (n + 1) : Nat) : Int).toNat < 2 ^ m - ((riter m a n : Nat) : Int).toNat
        rw [Int.toNat_natCast, Int.toNat_natCast]
        have h1 := riter_lt hm1 a (n + 1)
        have h2 : riter m a n ≤ riter m a (n + 1) := Nat.left_le_or
        omega
  · rintro σ H' R R' hm ⟨v, e, v2, e3, h1, b, e2, h2⟩
    exact ⟨v, e, v2, e3, h1, b, e2, hm _ _ h2⟩
theorem mc_Fewest_rounds {n : Addr} (c : Cls K A.Fewest) (D : Mth K A.Fewest "rounds" "Fewest.rounds" s_Fewest_rounds ["self", "one"] f fd) : Mc CX0 P w K mg base 1 A.Fewest "rounds" (spRnd A n .few) := by
  refine mc0 (N := ["self", "one"]) c D (fsc (by decide +kernel)) lenR (fun cdv _ outer s H vs Q E hr h => ?_)
  obtain ⟨x, k, u, a, rfl, hk, e, ha, ga, hf, q, qn⟩ := h
  cases k <;> cases e
  exact ⟨_, pss_one (ps_ret pe_int), q (.int 0) rfl _ _ (Same.refl _) rfl⟩
theorem mc_Musts_rounds {n : Addr} (c : Cls K A.Musts) (D : Mth K A.Musts "rounds" "Musts.rounds" s_Musts_rounds ["self", "one"] f fd) : Mc CX0 P w K mg base 1 A.Musts "rounds" (spRnd A n .mus) := by
  refine mc0 (N := ["self", "one"]) c D (fsc (by decide +kernel)) lenR (fun cdv _ outer s H vs Q E hr h => ?_)
  obtain ⟨x, k, u, a, rfl, hk, e, ha, ga, hf, q, qn⟩ := h
  cases k <;> cases e
  exact ⟨_, pss_one (ps_ret pe_int), q (.int 0) rfl _ _ (Same.refl _) rfl⟩
theorem mc_Likeliest_rounds {n : Addr} (c : Cls K A.Likeliest) (D : Mth K A.Likeliest "rounds" "Likeliest.rounds" s_Likeliest_rounds ["self", "one"] f fd) : Mc CX0 P w K mg base 1 A.Likeliest "rounds" (spRnd A n .lik) := by
  refine mc0 (N := ["self", "one"]) c D (fsc (by decide +kernel)) lenR (fun cdv _ outer s H vs Q E hr h => ?_)
  obtain ⟨x, k, u, a, rfl, hk, e, ha, ga, hf, q, qn⟩ := h
  cases k <;> cases e
  exact ⟨_, pss_one (ps_ret (pe_tup (pa_cons pe_int (pa_cons pe_int pa_nil)))), size2, fun p hp => q (.rat 1) rfl _ _ (same_upd hp) (wv_tup (by decide) (by decide))⟩
theorem mc_Widest_rounds {n : Addr} (c : Cls K A.Widest) (g : ∃ u, mg "WIDEST" = some u ∧ RelV (.int 1000000000) u) (D : Mth K A.Widest "rounds" "Widest.rounds" s_Widest_rounds ["self", "one"] f fd) : Mc CX0 P w K mg base 1 A.Widest "rounds" (spRnd A n .wid) := by
  refine mc0 (N := ["self", "one"]) c D (fsc (by decide +kernel)) lenR (fun cdv _ outer s H vs Q E hr h => ?_)
  obtain ⟨x, k, u, a, rfl, hk, e, ha, ga, hf, q, qn⟩ := h
  cases k <;> cases e
  exact ⟨_, pss_one (ps_ret (C8.pe_gc rfl g)), q (.int 1000000000) rfl _ _ (Same.refl _) rfl⟩
theorem mc_Counted_rounds {n : Addr} (c : Cls K A.Counted) (D : Mth K A.Counted "rounds" "Counted.rounds" s_Counted_rounds ["self", "one"] f fd) : Mc CX0 P w K mg base 1 A.Counted "rounds" (spRnd A n .cnt) := by
  refine mc0 (N := ["self", "one"]) c D (fsc (by decide +kernel)) lenR (fun cdv _ outer s H vs Q E hr h => ?_)
  obtain ⟨x, k, u, a, rfl, hk, e, ha, ga, hf, q, qn⟩ := h
  cases k <;> cases e
  cases a <;> first | exact ga.elim | skip
  cases ha
  rename_i i
  refine ⟨_, pss_cons (ps_if (pt_cmpR op_eq (pv 1) pe_int (nomark _)) (pss_one (ps_ret pe_int)) pss_nil) (pss_one (ps_ret (pe_un un_neg pe_int))), _, rfl, rfl, _, rfl, ?_⟩
  by_cases h : i = 0
  · subst h
    exact ifT rfl (q (.int 1) rfl _ _ (Same.refl _) rfl)
  · refine ifF (decide_eq_false fun z => h (V.int.inj z)) ⟨_, rfl, q (.int (-1)) (by simp [rnd, h]) _ _ (Same.refl _) rfl⟩
theorem mc_Chances_rounds (c : Cls K A.Chances) (z : Exz K mg "NoSum" A.NoSum) (L : Fc CX0 P w K mg base 2 "lowest" spLowest) (D : Mth K A.Chances "rounds" "Chances.rounds" s_Chances_rounds ["self", "one"] f fd) : Mc (L2.CX P w) P w K mg base 3 A.Chances "rounds" (spRnd A A.NoSum .cha) := by
  refine mcX (N := ["self", "one"]) c D (fsc (by decide +kernel)) lenR (fun cdv _ outer s H vs Q E hr h => ?_)
  obtain ⟨x, k, u, a, rfl, hk, e, ha, ga, hf, q, qn⟩ := h
  cases k <;> cases e
  cases a <;> first | exact ga.elim | skip
  rename_i r
  obtain ⟨t, rfl, ht⟩ := ha
  refine ⟨_, pss_cons (ps_if (pt_cmpR op_ge (pe_ix ix_tup (pv 1) pe_int (fun _ _ => rfl)) (pe_ix ix_tup (pv 1) pe_int (fun _ _ => rfl)) (nomark _))
    (pss_one (ps_raise rfl (takes_of rfl rfl rfl rfl) (pmk_own PySem.F.excBase_ValueError z.ex z.g z.kp (raises_own z.bs z.ty) rfl))) pss_nil)
    (pss_one (ps_ret (pe_f L hr (by decide) pass0 rfl (pa_cons (pe_ix ix_tup (pv 1) pe_int (fun _ _ => rfl)) (pa_cons (pe_op op_sub (pe_ix ix_tup (pv 1) pe_int (fun _ _ => rfl)) (pe_ix ix_tup (pv 1) pe_int (fun _ _ => rfl))) pa_nil))))), ?_⟩
  refine ⟨_, rfl, t, _, _, _, rfl, rfl, SqT.of ht, at0, _, rfl, t, _, _, _, rfl, rfl, SqT.of ht, at1, _, _, rfl, rfl, _, rfl, ?_⟩
  by_cases h : r < 1
  · have h1 := (rat_lt_one r).1 h
    have h0 := Rat.num_nonneg.2 ga
    have hd := den_pos r
    refine ifF (decide_eq_false (by omega)) ?_
    refine ⟨_, rfl, t, _, _, _, rfl, rfl, SqT.of ht, at1, _, rfl, t, _, _, _, rfl, rfl, SqT.of ht, at1, _, rfl, t, _, _, _, rfl, rfl, SqT.of ht, at0, _, _, rfl, rfl, _, _, rfl, by omega, by omega, ?_, fun p hp => ?_⟩
    · have hs : sz (.rat r) ≤ 8000 := hf
      have : (r.den : Int).natAbs.log2 < 9000 := by rw [Int.natAbs_natCast]; simp only [sz] at hs; omega
      exact Nat.lt_of_le_of_lt (log2_mono (by omega)) this
    · exact q (.rat (1 / (1 - r))) (by simp [rnd, h]) _ _ (same_upd hp) (wv_tup (by rw [rat_star r h]) (by rw [rat_star r h]))
  · have h1 : ¬ r.num < r.den := fun y => h ((rat_lt_one r).2 y)
    exact ifT (decide_eq_true (by omega)) (qn (by simp [rnd, h]))
/-- Rests(m) -/
def spRests (A : Ad) : Sp := fun vs H Q E => ∃ (x dx : Addr) (m : Int), vs = [.ref x, .int m] ∧ H x = some (.ins A.Rests dx []) ∧
  ((1 ≤ m ∧ m ≤ 12) → Q .non (upd H x (.ins A.Rests dx (putF "m" (.int m) [])))) ∧ (¬ (1 ≤ m ∧ m ≤ 12) → E (.ref A.NoWorth) none H)
/-- C(e, ..) -/
structure Nc (CX : CXT) (P : Program) (w : World) (K : PySem.W.Frag) (mg : Str → Option Value) (base : Heap) (k : Nat) (x : Str) (C : Addr) (sp : Sp) : Prop where
  ex : ∃ (f : Addr) (fd : FuncData) (ps : List Str), FnOk P w K mg base CX k f fd ps sp ∧ Mk K C f ∧ mg x = some (.ref C) ∧ Binds K fd ps []
theorem nc_Rests (c : Clz K mg "Rests" A.Rests) (na : NoAttr K A.Rests "m") (z : Exz K mg "NoWorth" A.NoWorth) (D : Ini K A.Rests "Rests.__init__" s_Rests___init__ ["self", "m"] f fd) : Nc (L2.CX P w) P w K mg base 1 "Rests" A.Rests (spRests A) := by
  refine ⟨f, fd, _, D.F.okX (N := ["self", "m"]) (fsc (by decide +kernel)) (fun vs H Q E h => ?_) (fun cdv _ outer s H vs Q E hr h => ?_), D.M, c.g, D.b⟩
  · obtain ⟨x, dx, m, rfl, _⟩ := h; rfl
  · obtain ⟨x, dx, m, rfl, hx, q, qn⟩ := h
    refine ⟨_, pss_cons (ps_if (pt_not (pt_chain op_le op_le pe_int (pv 1) pe_int)) (pss_one (ps_raise rfl (takes_of rfl rfl rfl rfl) (pmk_own PySem.F.excBase_ValueError z.ex z.g z.kp (raises_own z.bs z.ty) rfl))) pss_nil)
      (pss_one (ps_fld (pv 0) (pv 1) rfl)), ?_⟩
    refine ⟨_, rfl, _, _, rfl, rfl, _, rfl, ?_⟩
    by_cases h1 : 1 ≤ m
    · refine ifT (decide_eq_true h1) ⟨_, _, rfl, rfl, _, rfl, ?_⟩
      by_cases h2 : m ≤ 12
      · exact ifF (by rw [decide_eq_true h2]; rfl) ⟨_, rfl, _, rfl, x, _, dx, [], rfl, hx, c.cl, na, (by show 0 < 1000; decide), q ⟨h1, h2⟩⟩
      · exact ifT (by rw [decide_eq_false h2]; rfl) (qn fun y => h2 y.2)
    · exact ifF (decide_eq_false h1) ⟨_, rfl, ifT rfl (qn fun y => h1 y.1)⟩
end
/-! k.m(e, ..) of any kind -/
section
variable {X : Cx} {CX : CXT} {j n : Nat} {A : Ad} {m : Str} {sp : Kx → Sp} {ES : L2.St → XK} {pos apos : Pos} {e o : Expr} {es : List Expr} {ta : TE} {t : TA}
def tKM (A : Ad) (sp : Kx → Sp) (ES : L2.St → XK) (ta : TE) (t : TA) : TE := fun σ H Q => ∃ k : Kd, Av k.x = true ∧ ta σ H fun x H1 => ∃ a, x = .ref a ∧ KindAt A H1 a k ∧ t σ H1 fun vs H2 => sp k.x (.ref a :: vs) H2 Q (ES σ)
theorem pe_km {pl : Sem Bool} (F : ∀ i, Av i = true → Mc CX X.prog X.w X.K X.mg X.base n (A.C i) m (sp i)) (hr : Room j X.A) (hk : n ≤ j) (hx : ∀ σ, PassesAt CX X σ (ES σ)) (ho : PE X o ta) (ha : PA X (e :: es) t) (hm : ¬ m = "m" := by decide +kernel)
    (hst : starEach (e :: es) X.env = (false, eval e X.env) :: starEach es X.env := by rfl) (hpl : (backTo pos (starEach es X.env)).any (·.1) = false := by rfl)
    (ht : eval (.Call (.Attribute o m apos) (e :: es) [] pos) X.env = (do
      let ov ← eval o X.env
      standAt apos.atName
      let (f, first) ← holding [ov] (getMethod ov m pl)
      callWith pos f first (backTo pos (starEach (e :: es) X.env)) (backToKw pos (keywordEach [] X.env))) := by rfl) :
    PE X (.Call (.Attribute o m apos) (e :: es) [] pos) (tKM A sp ES ta t) := by
  constructor
  rintro pins s σ H Q I ⟨k, hav, h⟩
  obtain ⟨f, fd, ps, G, c, hme, b⟩ := (F k.x hav).ex
  refine PySem.W.methodCall_KW (pl := pl) (thn (ho.run pins s σ H _ I h) ?_) ht
  rintro u s1 ⟨y, H1, I1, ry, a, rfl, ⟨_, _, dx, ea⟩, q⟩
  cases ry
  refine getmeth_ok I1 ea c hme (kfs_no k hm) ?_
  refine PySem.W.callWith_K (first := [.ref a]) (h₀ := X.base) I.ok.mod.kin hme.kp (thn (ha.run pos pins s1 σ H1 _ I1 q) ?_) hst hpl
  rintro us s2 ⟨vs, H2, I2, r, q2⟩
  exact ⟨I2.kIn, run_fnS (us := .ref a :: us) (vs := .ref a :: vs) G (hr.mono hk) b (hx σ) I2 (.cons rfl r) q2⟩
/-- k.m() -/
theorem pe_km0 {pl : Sem Bool} (F : ∀ i, Av i = true → Mc CX X.prog X.w X.K X.mg X.base n (A.C i) m (sp i)) (hr : Room j X.A) (hk : n ≤ j) (hx : ∀ σ, PassesAt CX X σ (ES σ)) (ho : PE X o ta) (hm : ¬ m = "m" := by decide +kernel)
    (ht : eval (.Call (.Attribute o m apos) [] [] pos) X.env = (do
      let ov ← eval o X.env
      standAt apos.atName
      let (f, first) ← holding [ov] (getMethod ov m pl)
      callWith pos f first (backTo pos (starEach [] X.env)) (backToKw pos (keywordEach [] X.env))) := by rfl) :
    PE X (.Call (.Attribute o m apos) [] [] pos) (tKM A sp ES ta tNil) := by
  constructor
  rintro pins s σ H Q I ⟨k, hav, h⟩
  obtain ⟨f, fd, ps, G, c, hme, b⟩ := (F k.x hav).ex
  refine PySem.W.methodCall_KW (pl := pl) (thn (ho.run pins s σ H _ I h) ?_) ht
  rintro u s1 ⟨y, H1, I1, ry, a, rfl, ⟨_, _, dx, ea⟩, q⟩
  cases ry
  refine getmeth_ok I1 ea c hme (kfs_no k hm) ?_
  exact PySem.W.callWith_K0 (first := [.ref a]) I1.kIn hme.kp (run_fnS (us := [.ref a]) (vs := [.ref a]) G (hr.mono hk) b (hx σ) I1 (.cons rfl .nil) q)
/-- nothing is raised -/
theorem passS {X : Cx} {E : L2.St → XK} : ∀ σ, PassesAt CX0 X σ (E σ) := fun _ _ _ _ _ _ _ h => h.elim
end
section
variable {P : Program} {w : World} {K : PySem.W.Frag} {mg : Str → Option Value} {base : Heap} {A : Ad}
theorem th_common (T : Tx K mg A) : Fc CX0 P w K mg base 1 "common" spCommon := by
  obtain ⟨f, fd, D⟩ := T.d_common
  exact fc_common D
theorem th_lowest (T : Tx K mg A) : Fc CX0 P w K mg base 2 "lowest" spLowest := by
  obtain ⟨f, fd, D⟩ := T.d_lowest
  exact fc_lowest D (th_common T)
theorem th_added (T : Tx K mg A) : Fc CX0 P w K mg base 3 "added" (spShare (· + ·) 8000) := by
  obtain ⟨f, fd, D⟩ := T.d_added
  exact fc_added D (th_lowest T)
theorem th_taken (T : Tx K mg A) : Fc CX0 P w K mg base 3 "taken" (spShare (· * ·) 8000) := by
  obtain ⟨f, fd, D⟩ := T.d_taken
  exact fc_taken D (th_lowest T)
theorem th_less (T : Tx K mg A) : Fc CX0 P w K mg base 1 "less" spLess := by
  obtain ⟨f, fd, D⟩ := T.d_less
  exact fc_less D
theorem all_none (T : Tx K mg A) : ∀ i, Av i = true → Mc CX0 P w K mg base 4 (A.C i) "none" (spK0 A i noneW) := fun i hi => by
  cases i
  case few => obtain ⟨f, fd, D⟩ := T.m_Fewest_none; exact (mc_Fewest_none T.c_Fewest.cl  D).mono (by decide)
  case wid => obtain ⟨f, fd, D⟩ := T.m_Widest_none; exact (mc_Widest_none T.c_Widest.cl  D).mono (by decide)
  case cnt => obtain ⟨f, fd, D⟩ := T.m_Counted_none; exact (mc_Counted_none T.c_Counted.cl  D).mono (by decide)
  case lik => obtain ⟨f, fd, D⟩ := T.m_Likeliest_none; exact (mc_Likeliest_none T.c_Likeliest.cl  D).mono (by decide)
  case cha => obtain ⟨f, fd, D⟩ := T.m_Chances_none; exact (mc_Chances_none T.c_Chances.cl  D).mono (by decide)
  case mus => obtain ⟨f, fd, D⟩ := T.m_Musts_none; exact (mc_Musts_none T.c_Musts.cl  D).mono (by decide)
  case rst => obtain ⟨f, fd, D⟩ := T.m_Rests_none; exact (mc_Rests_none T.c_Rests.cl  D).mono (by decide)
theorem all_rest (T : Tx K mg A) : ∀ i, Av i = true → Mc CX0 P w K mg base 4 (A.C i) "rest" (spK0 A i restW) := fun i hi => by
  cases i
  case few => obtain ⟨f, fd, D⟩ := T.m_Fewest_rest; exact (mc_Fewest_rest T.c_Fewest.cl  D).mono (by decide)
  case wid => obtain ⟨f, fd, D⟩ := T.m_Widest_rest; exact (mc_Widest_rest T.c_Widest.cl T.g_WIDEST D).mono (by decide)
  case cnt => obtain ⟨f, fd, D⟩ := T.m_Counted_rest; exact (mc_Counted_rest T.c_Counted.cl  D).mono (by decide)
  case lik => obtain ⟨f, fd, D⟩ := T.m_Likeliest_rest; exact (mc_Likeliest_rest T.c_Likeliest.cl  D).mono (by decide)
  case cha => obtain ⟨f, fd, D⟩ := T.m_Chances_rest; exact (mc_Chances_rest T.c_Chances.cl  D).mono (by decide)
  case mus => obtain ⟨f, fd, D⟩ := T.m_Musts_rest; exact (mc_Musts_rest T.c_Musts.cl  D).mono (by decide)
  case rst => obtain ⟨f, fd, D⟩ := T.m_Rests_rest; exact (mc_Rests_rest T.c_Rests.cl  D).mono (by decide)
theorem all_tog (T : Tx K mg A) : ∀ i, Av i = true → Mc CX0 P w K mg base 4 (A.C i) "together" (spK2 A i tog) := fun i hi => by
  cases i
  case few => obtain ⟨f, fd, D⟩ := T.m_Fewest_together; exact (mc_Fewest_together T.c_Fewest.cl T.n_min D).mono (by decide)
  case wid => obtain ⟨f, fd, D⟩ := T.m_Widest_together; exact (mc_Widest_together T.c_Widest.cl T.n_max D).mono (by decide)
  case cnt => obtain ⟨f, fd, D⟩ := T.m_Counted_together; exact (mc_Counted_together T.c_Counted.cl  D).mono (by decide)
  case lik => obtain ⟨f, fd, D⟩ := T.m_Likeliest_together; exact (mc_Likeliest_together T.c_Likeliest.cl (th_less T) D).mono (by decide)
  case cha => obtain ⟨f, fd, D⟩ := T.m_Chances_together; exact (mc_Chances_together T.c_Chances.cl (th_added T) D).mono (by decide)
  case mus => obtain ⟨f, fd, D⟩ := T.m_Musts_together; exact (mc_Musts_together T.c_Musts.cl  D).mono (by decide)
  case rst => obtain ⟨f, fd, D⟩ := T.m_Rests_together; exact (mc_Rests_together T.c_Rests.cl  D).mono (by decide)
theorem all_beh (T : Tx K mg A) : ∀ i, Av i = true → Mc CX0 P w K mg base 4 (A.C i) "behind" (spK2 A i beh) := fun i hi => by
  cases i
  case few => obtain ⟨f, fd, D⟩ := T.m_Fewest_behind; exact (mc_Fewest_behind T.c_Fewest.cl  D).mono (by decide)
  case wid => obtain ⟨f, fd, D⟩ := T.m_Widest_behind; exact (mc_Widest_behind T.c_Widest.cl T.n_min D).mono (by decide)
  case cnt => obtain ⟨f, fd, D⟩ := T.m_Counted_behind; exact (mc_Counted_behind T.c_Counted.cl  D).mono (by decide)
  case lik => obtain ⟨f, fd, D⟩ := T.m_Likeliest_behind; exact (mc_Likeliest_behind T.c_Likeliest.cl (th_taken T) D).mono (by decide)
  case cha => obtain ⟨f, fd, D⟩ := T.m_Chances_behind; exact (mc_Chances_behind T.c_Chances.cl (th_taken T) D).mono (by decide)
  case mus => obtain ⟨f, fd, D⟩ := T.m_Musts_behind; exact (mc_Musts_behind T.c_Musts.cl  D).mono (by decide)
  case rst => obtain ⟨f, fd, D⟩ := T.m_Rests_behind; exact (mc_Rests_behind T.c_Rests.cl T.a_Rests_m T.n_range D).mono (by decide)
theorem all_rnd (T : Tx K mg A) : ∀ i, Av i = true → Mc (L2.CX P w) P w K mg base 4 (A.C i) "rounds" (spRnd A A.NoSum i) := fun i hi => by
  cases i
  case few => obtain ⟨f, fd, D⟩ := T.m_Fewest_rounds; exact (mc_Fewest_rounds T.c_Fewest.cl  D).any.mono (by decide)
  case wid => obtain ⟨f, fd, D⟩ := T.m_Widest_rounds; exact (mc_Widest_rounds T.c_Widest.cl T.g_WIDEST D).any.mono (by decide)
  case cnt => obtain ⟨f, fd, D⟩ := T.m_Counted_rounds; exact (mc_Counted_rounds T.c_Counted.cl  D).any.mono (by decide)
  case lik => obtain ⟨f, fd, D⟩ := T.m_Likeliest_rounds; exact (mc_Likeliest_rounds T.c_Likeliest.cl  D).any.mono (by decide)
  case cha => obtain ⟨f, fd, D⟩ := T.m_Chances_rounds; exact (mc_Chances_rounds T.c_Chances.cl T.x_NoSum (th_lowest T) D).mono (by decide)
  case mus => obtain ⟨f, fd, D⟩ := T.m_Musts_rounds; exact (mc_Musts_rounds T.c_Musts.cl  D).any.mono (by decide)
  case rst => obtain ⟨f, fd, D⟩ := T.m_Rests_rounds; have BB : Mc CX0 P w K mg base 1 A.Rests "behind" (spK2 A .rst beh) := (by obtain ⟨f, fd, D⟩ := T.m_Rests_behind; exact mc_Rests_behind T.c_Rests.cl T.a_Rests_m T.n_range D); exact (mc_Rests_rounds T.c_Rests.cl BB D).any.mono (by decide)
end
/-! ### L1: what the laws' own helpers answer -/
theorem size7 : (7 : Nat) ≤ sizeLine := by rw [sizeLine_eq]; decide
theorem passL0 {X : Cx} : ∀ σ : L2.St, PassesAt (L2.CX X.prog X.w) X σ E0 := fun σ pins H s e s' I h => passL pins σ H s e s' I h
section
variable {X : Cx} {CX : CXT} {k j : Nat} {C : Addr} {x : Str} {sp : Sp} {E : XK} {p pos : Pos} {e : Expr} {es : List Expr} {t : TA}
theorem pe_nc (F : Nc CX X.prog X.w X.K X.mg X.base k x C sp) (hr : Room j X.A) (hk : k + 1 ≤ j) (hx : Passes CX X E) (hg : Gl X x) (ha : PA X (e :: es) t)
    (hdb : (x == ("__debug__" : Str)) = false := by decide) (he : starEach (e :: es) X.env = (false, eval e X.env) :: starEach es X.env := by rfl) (hpl : (backTo pos (starEach es X.env)).any (·.1) = false := by rfl) :
    PE X (.Call (.Name x p) (e :: es) [] pos) (tMake C sp [] E t) := by
  obtain ⟨f, fd, ps, G, M, hm, b⟩ := F.ex
  exact pe_make M G (hr.mono hk) hg hm b .nil hx ha hdb he hpl
end
/-- _law_cell_at(script, i) -/
def spCell (K : PySem.W.Frag) : Sp := fun vs H Q _ => ∃ (a : Addr) (ns : List Int) (i : Nat), vs = [.ref a, .int i] ∧ SqL K H a (ns.map V.int) ∧ ns.length ≤ 63 ∧ Q (.int (cell ns i)) H
/-- _law_whole(found) -/
def spWhole (K : PySem.W.Frag) : Sp := fun vs H Q _ => ∃ (v : V) (t : String) (b : Bool), vs = [v] ∧ TyX K H v (.type t) ∧ (t = "int" ∧ b = true ∨ t = "NoneType" ∧ b = false ∨ t = "tuple" ∧ b = false ∨ t = "bool" ∧ b = false ∨ t = "list" ∧ b = false) ∧ Q (.bl b) H
/-- _law_kind(which, m) -/
def spKindL (A : Ad) : Sp := fun vs H Q _ => ∃ (k : Kd) (m : Int), vs = [.int (wh k), .int m] ∧ KOk k ∧ Av k.x = true ∧ (∀ m' : Nat, k = .rst m' → m = m') ∧ ∀ H' x, Same H H' → KindAt A H' x k → Q (.ref x) H'
/-- _law_none(which), _law_rest(which) -/
def spLaw0 (g : Kd → Wo) : Sp := fun vs H Q _ => ∃ k : Kd, vs = [.int (wh k)] ∧ ∀ H' z, Same H H' → Wv H' z (g k) → Q z H'
def spTogL : Sp := fun vs H Q _ => ∃ (k : Kd) (u v : V) (a b : Wo), vs = [.int (wh k), u, v] ∧ Wv H u a ∧ Wv H v b ∧ Good k a ∧ Good k b ∧ Fits k a b ∧ ∀ H' z, Same H H' → Wv H' z (tog k a b) → Q z H'
def spBehL : Sp := fun vs H Q _ => ∃ (k : Kd) (m : Int) (u v : V) (a b : Wo), vs = [.int (wh k), .int m, u, v] ∧ KOk k ∧ (∀ m' : Nat, k = .rst m' → m = m') ∧ Wv H u a ∧ Wv H v b ∧ Good k a ∧ Good k b ∧ Fits k a b ∧ ∀ H' z, Same H H' → Wv H' z (beh k a b) → Q z H'
def spWorthL : Sp := fun vs H Q _ => ∃ (k : Kd) (m c : Int), vs = [.int (wh k), .int m, .int c] ∧ KOk k ∧ (∀ m' : Nat, k = .rst m' → m = m') ∧ ∀ H' z, Same H H' → Wv H' z (lawW k c) → Q z H'
def spIsL : Sp := fun vs H Q _ => ∃ (u v : V) (a b : Wo), vs = [u, v] ∧ Wv H u a ∧ Wv H v b ∧ Q (.bl (decide (a = b))) H
def spRndL : Sp := fun vs H Q _ => ∃ (k : Kd) (m : Int) (u : V) (a : Wo), vs = [.int (wh k), .int m, u] ∧ KOk k ∧ (∀ m' : Nat, k = .rst m' → m = m') ∧ Wv H u a ∧ Good k a ∧ Fit1 k a ∧ ∀ H' z, Same H H' → Wv H' z ((rnd k a).getD .non) → Q z H'
theorem kd_dec {i j : Int} : decide (V.int i = V.int j) = decide (i = j) := by rw [decide_eq_decide, V.int.injEq]
/-- the type of a worth's value -/
theorem wv_ty {K : PySem.W.Frag} {H : Hp} {v : V} {a : Wo} (h : Wv H v a) : ∃ t : String, TyX K H v (.type t) ∧ (a = .non ∧ t = "NoneType" ∨ (∃ i, a = .int i) ∧ t = "int" ∨ (∃ r, a = .rat r) ∧ t = "tuple") := by
  cases a with
  | non => cases h; exact ⟨_, .base .non, .inl ⟨rfl, rfl⟩⟩
  | int i => cases h; exact ⟨_, .base (.int i), .inr (.inl ⟨⟨i, rfl⟩, rfl⟩)⟩
  | rat r => obtain ⟨t, rfl, ht⟩ := h; exact ⟨_, .base (.tup ht), .inr (.inr ⟨⟨r, rfl⟩, rfl⟩)⟩
section
variable {P : Program} {w : World} {K : PySem.W.Frag} {mg : Str → Option Value} {base : Heap} {A : Ad} {f : Addr} {fd : FuncData}
theorem fc_cell (hl : mg "len" = none) (D : Dfn K mg "_law_cell_at" s__law_cell_at ["script", "k"] f fd) : Fc CX0 P w K mg base 1 "_law_cell_at" (spCell K) := by
  refine fc0 (N := ["script", "k"]) D (fsc (by decide +kernel)) (fun vs H Q E h => ?_) (fun cdv _ outer s H vs Q E hr h => ?_)
  · obtain ⟨a, ns, i, rfl, _⟩ := h; rfl
  · obtain ⟨a, ns, i, rfl, hS, hn, q⟩ := h
    refine ⟨_, pss_cons (ps_if (pt_cmpR op_lt (pv 1) (pe_callB call_len_seq (by rfl) hl PySem.boot_len (pa_cons (pv 0) pa_nil)) (nomark _)) (pss_one (ps_ret (pe_ix ix_list (pv 0) (pv 1) (fun _ _ => rfl)))) pss_nil) (pss_one (ps_ret pe_int)), ?_⟩
    refine ⟨_, rfl, _, rfl, a, _, rfl, .inl hS, _, _, rfl, rfl, _, rfl, ?_⟩
    by_cases h : i < ns.length
    · refine ifT (decide_eq_true (by rw [List.length_map]; omega)) ⟨_, rfl, _, rfl, a, _, _, _, rfl, rfl, hS, atI_nat (j := i) (v := .int (cell ns i)) ?_, q⟩
      rw [List.getElem?_map, List.getElem?_eq_getElem h]
      simp [cell, List.getD, List.getElem?_eq_getElem h]
    · refine ifF (decide_eq_false (by rw [List.length_map]; omega)) ?_
      have e : cell ns i = 0 := by simp [cell, List.getD, List.getElem?_eq_none (Nat.le_of_not_lt h)]
      rw [e] at q; exact q
theorem kindAt_new {H : Hp} {k : Kd} {x dx : Addr} (hk : KOk k) (ha : Av k.x = true) (h : k.x ≠ .rst) : KindAt A (upd (upd H dx (.own x)) x (.ins (A.C k.x) dx [])) x k :=
  ⟨ha, hk, dx, by cases k <;> first | exact upd_same | exact absurd rfl h⟩
theorem same_new {H : Hp} {x dx C : Addr} {fs : List (Str × V)} (hx : H x = none) (hd : H dx = none) : Same H (upd (upd H dx (.own x)) x (.ins C dx fs)) := fun b o e => by
  rw [upd_ne (ne_of_none e hx), upd_ne (ne_of_none e hd)]; exact e
theorem fc_kind (T : Tx K mg A) (D : Dfn K mg "_law_kind" s__law_kind ["which", "m"] f fd) : Fc CX0 P w K mg base 3 "_law_kind" (spKindL A) := by
  have R : Nc (L2.CX P w) P w K mg base 1 "Rests" A.Rests (spRests A) := by
    obtain ⟨f, fd, D⟩ := T.m_Rests___init__
    exact nc_Rests T.c_Rests T.a_Rests_m T.x_NoWorth D
  refine fc0 (N := ["which", "m"]) D (fsc (by decide +kernel)) (fun vs H Q E h => ?_) (fun cdv _ outer s H vs Q E hr h => ?_)
  · obtain ⟨k, m, rfl, _⟩ := h; rfl
  · obtain ⟨k, m, rfl, hk, ha, hm, q⟩ := h
    refine ⟨_, pss_cons (ps_if (pt_cmpR op_eq (pv 0) pe_int (nomark _)) (pss_one (ps_ret (pe_new0 T.c_Fewest T.b_Fewest rfl))) pss_nil)
      (pss_cons (ps_if (pt_cmpR op_eq (pv 0) pe_int (nomark _)) (pss_one (ps_ret (pe_new0 T.c_Widest T.b_Widest rfl))) pss_nil)
      (pss_cons (ps_if (pt_cmpR op_eq (pv 0) pe_int (nomark _)) (pss_one (ps_ret (pe_new0 T.c_Counted T.b_Counted rfl))) pss_nil)
      (pss_cons (ps_if (pt_cmpR op_eq (pv 0) pe_int (nomark _)) (pss_one (ps_ret (pe_new0 T.c_Likeliest T.b_Likeliest rfl))) pss_nil)
      (pss_cons (ps_if (pt_cmpR op_eq (pv 0) pe_int (nomark _)) (pss_one (ps_ret (pe_new0 T.c_Chances T.b_Chances rfl))) pss_nil)
      (pss_cons (ps_if (pt_cmpR op_eq (pv 0) pe_int (nomark _)) (pss_one (ps_ret (pe_new0 T.c_Musts T.b_Musts rfl))) pss_nil)
      (pss_one (ps_ret (pe_nc R hr (by decide) passL rfl (pa_cons (pv 1) pa_nil))))))))), ?_⟩
    refine ⟨_, rfl, rfl, _, rfl, ?_⟩
    have fin : ∀ {k' : Kd}, k = k' → k'.x ≠ .rst → ∀ a dx, H a = none → H dx = none → dx ≠ a → Q (.ref a) (upd (upd H dx (.own a)) a (.ins (A.C k'.x) dx [])) :=
      fun e hne a dx ea ed _ => q _ _ (same_new ea ed) (by rw [e] at hk ha ⊢; exact kindAt_new hk ha hne)
    cases k with
    | few => exact ifT rfl (fin rfl (by decide))
    | wid => exact ifF rfl ⟨_, rfl, rfl, _, rfl, ifT rfl (fin rfl (by decide))⟩
    | cnt => exact ifF rfl ⟨_, rfl, rfl, _, rfl, ifF rfl ⟨_, rfl, rfl, _, rfl, ifT rfl (fin rfl (by decide))⟩⟩
    | lik => exact ifF rfl ⟨_, rfl, rfl, _, rfl, ifF rfl ⟨_, rfl, rfl, _, rfl, ifF rfl ⟨_, rfl, rfl, _, rfl, ifT rfl (fin rfl (by decide))⟩⟩⟩
    | cha => exact ifF rfl ⟨_, rfl, rfl, _, rfl, ifF rfl ⟨_, rfl, rfl, _, rfl, ifF rfl ⟨_, rfl, rfl, _, rfl, ifF rfl ⟨_, rfl, rfl, _, rfl, ifT rfl (fin rfl (by decide))⟩⟩⟩⟩
    | mus => exact ifF rfl ⟨_, rfl, rfl, _, rfl, ifF rfl ⟨_, rfl, rfl, _, rfl, ifF rfl ⟨_, rfl, rfl, _, rfl, ifF rfl ⟨_, rfl, rfl, _, rfl, ifF rfl ⟨_, rfl, rfl, _, rfl, ifT rfl (fin rfl (by decide))⟩⟩⟩⟩⟩
    | rst m' =>
      have em := hm m' rfl
      subst em
      have hk' : 1 ≤ m' ∧ m' ≤ 12 := hk
      refine ifF rfl ⟨_, rfl, rfl, _, rfl, ifF rfl ⟨_, rfl, rfl, _, rfl, ifF rfl ⟨_, rfl, rfl, _, rfl, ifF rfl ⟨_, rfl, rfl, _, rfl, ifF rfl ⟨_, rfl, rfl, _, rfl, ifF rfl ⟨_, rfl, ?_⟩⟩⟩⟩⟩⟩
      intro a dx ea ed ne
      refine ⟨a, dx, (m' : Int), rfl, upd_same, fun _ => ⟨rfl, ?_⟩, fun z => absurd ⟨by omega, by omega⟩ z⟩
      refine q _ _ (fun b o e => ?_) ⟨ha, hk, dx, upd_same⟩
      rw [upd_ne (ne_of_none e ea), upd_ne (ne_of_none e ea), upd_ne (ne_of_none e ed)]; exact e
theorem fc_share (D : Dfn K mg "_law_share" s__law_share ["top", "below"] f fd) : Fc CX0 P w K mg base 1 "_law_share" spLowest := by
  have sc : FnScope ["top", "below", "one", "other", "kept"] ["top", "below"] (defScope s__law_share) := fsc (by decide +kernel)
  refine fc0 D sc (fun vs H Q E h => ?_) (fun cdv _ outer s H vs Q E hr h => ?_)
  · obtain ⟨a, b, rfl, _⟩ := h; rfl
  · obtain ⟨a, b, rfl, ha, hb, hl, k⟩ := h
    refine ⟨_, pss_cons (ps_set (i := 2) sc.nd rfl (.inl rfl) (pv 0)) (pss_cons (ps_set (i := 3) sc.nd rfl (.inl rfl) (pv 1))
      (pss_cons (ps_while PassesOwn.never (pt_cmpR op_ne (pv 3) pe_int (nomark _)) (pss_cons (ps_set (i := 4) sc.nd rfl (.inl rfl) (pe_op op_mod (pv 2) (pv 3)))
        (pss_cons (ps_set (i := 2) sc.nd rfl (.inl rfl) (pv 3)) (pss_one (ps_set (i := 3) sc.nd rfl (.inl rfl) (pv 4))))))
      (pss_one (ps_ret (pe_tup (pa_cons (pe_op op_fdivW (pv 0) (pv 2)) (pa_cons (pe_op op_fdivW (pv 1) (pv 2)) pa_nil))))))), ?_⟩
    have hg := gcd_pos' a b hb
    have hle := gcd_le' a b hb
    have hw : ∀ i, L2.CDivW i (Int.gcd a b : Int) := fun i => ⟨hg, Nat.lt_of_le_of_lt (log2_mono (by omega)) hl⟩
    refine ⟨_, rfl, _, rfl, ?_⟩
    refine while_by (fun σ H' => ∃ (x y : Int) (v : Option V), σ = [some (.int a), some (.int b), some (.int x), some (.int y), v] ∧ H' = H ∧ 0 ≤ x ∧ 0 ≤ y ∧ Int.gcd x y = Int.gcd a b)
      (fun σ _ => match σ with | [_, _, _, some (.int y), _] => y.toNat | _ => 0) ⟨a, b, none, rfl, rfl, ha, by omega, rfl⟩ ?_ ?_
    · rintro σ H' ⟨x, y, v, rfl, rfl, hx, hy, hgx⟩
      refine ⟨_, rfl, rfl, _, rfl, ?_⟩
      by_cases h0 : y = 0
      · subst h0
        have e : x = (Int.gcd a b : Int) := by
          rw [Int.gcd_zero_right, ← Int.natCast_inj] at hgx
          rw [← hgx]; omega
        subst e
        refine ifF rfl ?_
        refine ⟨_, rfl, _, rfl, _, _, rfl, rfl, hw _, _, rfl, _, rfl, _, _, rfl, rfl, hw _, size2, fun p hp => ?_⟩
        have := k p hp
        rw [low_num a b hb, low_den a b hb] at this
        exact this
      · refine ifT (by simp [h0]) ⟨_, rfl, _, rfl, _, _, rfl, rfl, (by omega : 0 < y), ?_⟩
        refine ⟨_, rfl, _, rfl, ⟨y, x % y, _, rfl, rfl, hy, Int.emod_nonneg _ h0, by rw [gcd_step]; exact hgx⟩, ?_⟩
        have := Int.emod_lt_of_pos x (show 0 < y by omega)
        have := Int.emod_nonneg x h0
        show (x % y).toNat < y.toNat
        omega
    · rintro σ H' R R' hm ⟨v, e, h1, b, e2, h2⟩
      exact ⟨v, e, h1, b, e2, hm _ _ h2⟩
theorem fc_none (D : Dfn K mg "_law_none" s__law_none ["which"] f fd) : Fc CX0 P w K mg base 1 "_law_none" (spLaw0 noneW) := by
  refine fc0 (N := ["which"]) D (fsc (by decide +kernel)) (fun vs H Q E h => ?_) (fun cdv _ outer s H vs Q E hr h => ?_)
  · obtain ⟨k, rfl, _⟩ := h; rfl
  · obtain ⟨k, rfl, q⟩ := h
    refine ⟨_, pss_one (ps_ret (pe_ix ix_list (pe_lst (pa_cons pe_non (pa_cons pe_int (pa_cons pe_int (pa_cons (pe_tup (pa_cons pe_int (pa_cons pe_int pa_nil))) (pa_cons (pe_tup (pa_cons pe_int (pa_cons pe_int pa_nil))) (pa_cons pe_non (pa_cons pe_int pa_nil)))))))) (pv 0) (fun _ _ => rfl))), ?_⟩
    refine ⟨size2, fun p hp => ⟨size2, fun p2 hp2 => ⟨size7, fun l hl => ?_⟩⟩⟩
    have s1 := same_upd (o := HO.tup [.int 0, .int 1]) hp
    have s2 := same_upd (o := HO.tup [.int 0, .int 1]) hp2
    have s3 := same_upd (o := HO.lst [.non, .int 0, .int 0, .ref p, .ref p2, .non, .int 0]) hl
    have a1 := s3 _ _ (s2 _ _ (upd_same (H := H) (a := p) (o := HO.tup [.int 0, .int 1])))
    have a2 := s3 _ _ (upd_same (H := upd H p (.tup [.int 0, .int 1])) (a := p2) (o := HO.tup [.int 0, .int 1]))
    have fin := fun z hz => q _ z ((s1.trans s2).trans s3) hz
    cases k with
    | few => exact ⟨_, rfl, l, _, _, .non, rfl, rfl, SqL.of upd_same, atI_nat (j := 0) rfl, fin _ rfl⟩
    | wid => exact ⟨_, rfl, l, _, _, .int 0, rfl, rfl, SqL.of upd_same, atI_nat (j := 1) rfl, fin _ rfl⟩
    | cnt => exact ⟨_, rfl, l, _, _, .int 0, rfl, rfl, SqL.of upd_same, atI_nat (j := 2) rfl, fin _ rfl⟩
    | lik => exact ⟨_, rfl, l, _, _, .ref p, rfl, rfl, SqL.of upd_same, atI_nat (j := 3) rfl, fin _ ⟨p, rfl, a1⟩⟩
    | cha => exact ⟨_, rfl, l, _, _, .ref p2, rfl, rfl, SqL.of upd_same, atI_nat (j := 4) rfl, fin _ ⟨p2, rfl, a2⟩⟩
    | mus => exact ⟨_, rfl, l, _, _, .non, rfl, rfl, SqL.of upd_same, atI_nat (j := 5) rfl, fin _ rfl⟩
    | rst m => exact ⟨_, rfl, l, _, _, .int 0, rfl, rfl, SqL.of upd_same, atI_nat (j := 6) rfl, fin _ rfl⟩
theorem fc_rest (D : Dfn K mg "_law_rest" s__law_rest ["which"] f fd) : Fc CX0 P w K mg base 1 "_law_rest" (spLaw0 restW) := by
  refine fc0 (N := ["which"]) D (fsc (by decide +kernel)) (fun vs H Q E h => ?_) (fun cdv _ outer s H vs Q E hr h => ?_)
  · obtain ⟨k, rfl, _⟩ := h; rfl
  · obtain ⟨k, rfl, q⟩ := h
    refine ⟨_, pss_one (ps_ret (pe_ix ix_list (pe_lst (pa_cons pe_int (pa_cons (pe_op op_pow pe_int pe_int) (pa_cons pe_int (pa_cons (pe_tup (pa_cons pe_int (pa_cons pe_int pa_nil))) (pa_cons (pe_tup (pa_cons pe_int (pa_cons pe_int pa_nil))) (pa_cons pe_int (pa_cons pe_int pa_nil)))))))) (pv 0) (fun _ _ => rfl))), ?_⟩
    refine ⟨_, _, rfl, rfl, ⟨by decide, by decide, by decide⟩, size2, fun p hp => ⟨size2, fun p2 hp2 => ⟨size7, fun l hl => ?_⟩⟩⟩
    have s1 := same_upd (o := HO.tup [.int 1, .int 1]) hp
    have s2 := same_upd (o := HO.tup [.int 1, .int 1]) hp2
    have s3 := same_upd (o := HO.lst [.int 0, .int 1000000000, .int 1, .ref p, .ref p2, .int 0, .int 1]) hl
    have a1 := s3 _ _ (s2 _ _ (upd_same (H := H) (a := p) (o := HO.tup [.int 1, .int 1])))
    have a2 := s3 _ _ (upd_same (H := upd H p (.tup [.int 1, .int 1])) (a := p2) (o := HO.tup [.int 1, .int 1]))
    have fin := fun z hz => q _ z ((s1.trans s2).trans s3) hz
    cases k with
    | few => exact ⟨_, rfl, l, _, _, .int 0, rfl, rfl, SqL.of upd_same, atI_nat (j := 0) rfl, fin _ rfl⟩
    | wid => exact ⟨_, rfl, l, _, _, .int 1000000000, rfl, rfl, SqL.of upd_same, atI_nat (j := 1) rfl, fin _ rfl⟩
    | cnt => exact ⟨_, rfl, l, _, _, .int 1, rfl, rfl, SqL.of upd_same, atI_nat (j := 2) rfl, fin _ rfl⟩
    | lik => exact ⟨_, rfl, l, _, _, .ref p, rfl, rfl, SqL.of upd_same, atI_nat (j := 3) rfl, fin _ ⟨p, rfl, a1⟩⟩
    | cha => exact ⟨_, rfl, l, _, _, .ref p2, rfl, rfl, SqL.of upd_same, atI_nat (j := 4) rfl, fin _ ⟨p2, rfl, a2⟩⟩
    | mus => exact ⟨_, rfl, l, _, _, .int 0, rfl, rfl, SqL.of upd_same, atI_nat (j := 5) rfl, fin _ rfl⟩
    | rst m => exact ⟨_, rfl, l, _, _, .int 1, rfl, rfl, SqL.of upd_same, atI_nat (j := 6) rfl, fin _ rfl⟩
end
/-! ### L2: the laws' own together, behind, worth, is, rounds -/
section
variable {X : Cx}
/-- a name == a written number -/
theorem ptE (i : Nat) {x : Str} {p q pos : Pos} {n : Int} {j : Nat} (hN : X.N[i]? = some x := by rfl) (hv : Vis X.env.scope x := by first | exact Or.inl rfl | exact Or.inr (Or.inl rfl)) (hd : (x == ("__debug__" : Str)) = false := by decide)
    (hc : (x == ("__classdict__" : Str)) = false := by decide) : PT X (.Compare (.Name x p) [.Eq] [.Constant (.int n) j q] pos) (tTest (tOp rEq (tVar i) (tC (.int n)))) := pt_cmpR op_eq (pe_var hN hv hd hc) pe_int (nomark _)
/-- a name is None -/
theorem ptN (i : Nat) {x : Str} {p q pos : Pos} {j : Nat} (hN : X.N[i]? = some x := by rfl) (hv : Vis X.env.scope x := by first | exact Or.inl rfl | exact Or.inr (Or.inl rfl)) (hd : (x == ("__debug__" : Str)) = false := by decide)
    (hc : (x == ("__classdict__" : Str)) = false := by decide) : PT X (.Compare (.Name x p) [.Is] [.Constant .none j q] pos) (tTest (tOp (fun x y H Q => y = .non ∧ Q (.bl (decide (x = .non))) H) (tVar i) (tC .non))) := pt_cmpR op_isN (pe_var hN hv hd hc) pe_non (nomark _)
end
theorem skE {σ : L2.St} {H : Hp} {D : Ends} {t rest : TS} {i : Nat} {m n : Int} (hi : σ[i]? = some (some (.int m))) (hne : decide (V.int m = V.int n) = false) (q : rest D σ H) : tSeq (tIfS (tTest (tOp rEq (tVar i) (tC (.int n)))) t tNext) rest D σ H :=
  ⟨_, hi, rfl, _, rfl, ifF hne q⟩
theorem hitE {σ : L2.St} {H : Hp} {D : Ends} {t rest : TS} {i : Nat} {m n : Int} (hi : σ[i]? = some (some (.int m))) (he : decide (V.int m = V.int n) = true) (q : t { D with nx := rest D } σ H) : tSeq (tIfS (tTest (tOp rEq (tVar i) (tC (.int n)))) t tNext) rest D σ H :=
  ⟨_, hi, rfl, _, rfl, ifT he q⟩
/-- turned about -/
theorem rot_bits {m b i : Nat} (hb : b < 2 ^ m) (hi : i < m) (r : Nat) : ((b * 2 ^ i % 2 ^ m) ||| (b * 2 ^ i / 2 ^ m)).testBit r = true ↔ r < m ∧ ∃ j, j < m ∧ b.testBit j = true ∧ (i + j) % m = r := by
  rw [Nat.testBit_or, Nat.testBit_mod_two_pow, Nat.testBit_div_two_pow, Nat.mul_comm b, Nat.testBit_two_pow_mul, Nat.testBit_two_pow_mul]
  simp only [Bool.or_eq_true, Bool.and_eq_true, decide_eq_true_eq]
  constructor
  · rintro (⟨h1, h2, h3⟩ | ⟨h2, h3⟩)
    · refine ⟨h1, r - i, by omega, h3, ?_⟩
      rw [show i + (r - i) = r by omega, Nat.mod_eq_of_lt h1]
    · have hj : r + m - i < m := by
        refine Classical.byContradiction fun z => ?_
        rw [testBit_above hb (by omega)] at h3
        cases h3
      refine ⟨by omega, r + m - i, hj, h3, ?_⟩
      rw [show i + (r + m - i) = r + m by omega, Nat.add_mod_right, Nat.mod_eq_of_lt (by omega)]
  · rintro ⟨h1, j, hj, h2, h3⟩
    by_cases h : i + j < m
    · rw [Nat.mod_eq_of_lt h] at h3
      exact .inl ⟨h1, by omega, by rw [show r - i = j by omega]; exact h2⟩
    · have e : (i + j) % m = i + j - m := by
        rw [Nat.mod_eq_sub_mod (by omega), Nat.mod_eq_of_lt (by omega)]
      exact .inr ⟨by omega, by rw [show r + m - i = j by omega]; exact h2⟩
section
variable {P : Program} {w : World} {K : PySem.W.Frag} {mg : Str → Option Value} {base : Heap} {A : Ad} {f : Addr} {fd : FuncData}
theorem fc_worthL (L : Fc CX0 P w K mg base 1 "_law_share" spLowest) (N0 : Fc CX0 P w K mg base 1 "_law_none" (spLaw0 noneW)) (R0 : Fc CX0 P w K mg base 1 "_law_rest" (spLaw0 restW)) (D : Dfn K mg "_law_worth" s__law_worth ["which", "m", "cell"] f fd) : Fc CX0 P w K mg base 2 "_law_worth" spWorthL := by
  have sc : FnScope ["which", "m", "cell", "left", "below"] ["which", "m", "cell"] (defScope s__law_worth) := fsc (by decide +kernel)
  refine fc0 D sc (fun vs H Q E h => ?_) (fun cdv _ outer s H vs Q E hr h => ?_)
  · obtain ⟨k, m, c, rfl, _⟩ := h; rfl
  · obtain ⟨k, mi, c, rfl, hk, hm, q⟩ := h
    refine ⟨_, pss_cons (ps_set (i := 3) sc.nd rfl (.inl rfl) (pe_op op_fdiv (pv 2) pe_int))
      (pss_cons (ps_if (pt_cmpR op_eq (pe_op op_mod (pv 2) pe_int) pe_int (nomark _)) (pss_one (ps_ret (pe_f N0 hr (by decide) pass0 rfl (pa_cons (pv 0) pa_nil)))) pss_nil)
      (pss_cons (ps_if (pt_cmpR op_eq (pe_op op_mod (pv 2) pe_int) pe_int (nomark _)) (pss_one (ps_ret (pe_f R0 hr (by decide) pass0 rfl (pa_cons (pv 0) pa_nil)))) pss_nil)
      (pss_cons (ps_if (ptE 0) (pss_one (ps_ret (pe_ifExp (pt_cmpR op_lt (pe_op op_mod (pv 2) pe_int) pe_int (nomark _)) (pe_op op_mod (pv 3) pe_int) (pe_op op_mod (pv 3) (pe_op op_pow pe_int pe_int))))) pss_nil)
      (pss_cons (ps_if (ptE 0) (pss_one (ps_ret (pe_ifExp (pt_cmpR op_lt (pe_op op_mod (pv 2) pe_int) pe_int (nomark _)) (pe_op op_mod (pv 3) pe_int) (pe_op op_mod (pv 3) (pe_op op_add (pe_op op_pow pe_int pe_int) pe_int))))) pss_nil)
      (pss_cons (ps_if (ptE 0) (pss_one (ps_ret (pe_ifExp (pt_cmpR op_lt (pe_op op_mod (pv 2) pe_int) pe_int (nomark _)) (pe_op op_sub (pe_op op_mod (pv 3) pe_int) pe_int) (pe_op op_mod (pv 3) (pe_op op_pow pe_int pe_int))))) pss_nil)
      (pss_cons (ps_if (ptE 0) (pss_cons (ps_set (i := 4) sc.nd rfl (.inl rfl) (pe_op op_add pe_int (pe_op op_mod (pe_op op_fdiv (pv 3) pe_int) pe_int)))
          (pss_one (ps_ret (pe_f L hr (by decide) pass0 rfl (pa_cons (pe_op op_mod (pv 3) (pe_op op_add (pv 4) pe_int)) (pa_cons (pv 4) pa_nil)))))) pss_nil)
      (pss_cons (ps_if (ptE 0) (pss_one (ps_ret (pe_f L hr (by decide) pass0 rfl (pa_cons (pe_op op_mod (pv 3) pe_int) (pa_cons (pe_op op_add pe_int (pe_op op_mod (pe_op op_fdiv (pv 3) pe_int) pe_int)) pa_nil))))) pss_nil)
      (pss_cons (ps_if (ptE 0) (pss_one (ps_ret (pe_ifExp (pt_cmpR op_lt (pe_op op_mod (pv 2) pe_int) pe_int (nomark _)) (pe_op op_mod (pv 3) pe_int) (pe_op op_mod (pv 3) (pe_op op_pow pe_int pe_int))))) pss_nil)
      (pss_one (ps_ret (pe_op op_mod (pv 3) (pe_op op_shl pe_int (pv 1))))))))))))), ?_⟩
    refine ⟨_, rfl, _, _, rfl, rfl, ⟨by decide, by decide⟩, ?_⟩
    refine ⟨_, rfl, _, _, rfl, rfl, (by show (0 : Int) < 6; decide), rfl, _, rfl, ?_⟩
    by_cases h1 : c % 6 = 1
    · refine ifT (decide_eq_true (congrArg V.int h1)) ⟨_, rfl, k, rfl, fun H' z s hz => q _ _ s ?_⟩
      simp only [lawW, if_pos h1]; exact hz
    refine ifF (decide_eq_false fun z => h1 (V.int.inj z)) ⟨_, rfl, _, _, rfl, rfl, (by show (0 : Int) < 6; decide), rfl, _, rfl, ?_⟩
    by_cases h2 : c % 6 = 2
    · refine ifT (decide_eq_true (congrArg V.int h2)) ⟨_, rfl, k, rfl, fun H' z s hz => q _ _ s ?_⟩
      simp only [lawW, if_neg h1, if_pos h2]; exact hz
    refine ifF (decide_eq_false fun z => h2 (V.int.inj z)) ?_
    have e0 : lawW k c = lawW2 k c := by unfold lawW; rw [if_neg h1, if_neg h2]
    rw [e0] at q
    have iq : ∀ i : Int, lawW2 k c = .int i → Q (.int i) H := fun i e => q _ _ (Same.refl _) (by rw [e]; rfl)
    have m5 : (0 : Int) < 6 := by decide
    cases k with
    | few =>
      refine hitE rfl rfl ⟨_, rfl, _, _, rfl, rfl, m5, _, _, rfl, rfl, _, rfl, ?_⟩
      by_cases h : c % 6 < 5
      · exact ifT (decide_eq_true h) ⟨_, rfl, _, _, rfl, rfl, (by show (0 : Int) < 20; decide), iq _ (by simp only [lawW2, if_pos h])⟩
      · exact ifF (decide_eq_false h) ⟨_, rfl, _, _, rfl, rfl, ⟨by decide, by decide, by decide⟩, _, _, rfl, rfl, (by show (0 : Int) < 10 ^ 30; decide), iq _ (by simp only [lawW2, if_neg h]; rfl)⟩
    | wid =>
      refine skE rfl rfl (hitE rfl rfl ⟨_, rfl, _, _, rfl, rfl, m5, _, _, rfl, rfl, _, rfl, ?_⟩)
      by_cases h : c % 6 < 5
      · exact ifT (decide_eq_true h) ⟨_, rfl, _, _, rfl, rfl, (by show (0 : Int) < 20; decide), iq _ (by simp only [lawW2, if_pos h])⟩
      · exact ifF (decide_eq_false h) ⟨_, rfl, _, _, rfl, rfl, ⟨by decide, by decide, by decide⟩, _, _, rfl, rfl, _, _, rfl, rfl, (by show (0 : Int) < 10 ^ 9 + 1; decide), iq _ (by simp only [lawW2, if_neg h]; rfl)⟩
    | cnt =>
      refine skE rfl rfl (skE rfl rfl (hitE rfl rfl ⟨_, rfl, _, _, rfl, rfl, m5, _, _, rfl, rfl, _, rfl, ?_⟩))
      by_cases h : c % 6 < 5
      · exact ifT (decide_eq_true h) ⟨_, rfl, _, _, rfl, rfl, (by show (0 : Int) < 5; decide), _, _, rfl, rfl, iq _ (by simp only [lawW2, if_pos h])⟩
      · exact ifF (decide_eq_false h) ⟨_, rfl, _, _, rfl, rfl, ⟨by decide, by decide, by decide⟩, _, _, rfl, rfl, (by show (0 : Int) < 10 ^ 30; decide), iq _ (by simp only [lawW2, if_neg h]; rfl)⟩
    | lik =>
      have hb0 : 0 ≤ c / 6 / 7 % 12 := Int.emod_nonneg _ (by decide)
      have hb1 : c / 6 / 7 % 12 < 12 := Int.emod_lt_of_pos _ (by decide)
      refine skE rfl rfl (skE rfl rfl (skE rfl rfl (hitE rfl rfl ⟨_, rfl, _, _, rfl, rfl, ⟨by decide, by decide⟩, _, _, rfl, rfl, (by show (0 : Int) < 12; decide), _, _, rfl, rfl, ?_⟩)))
      refine ⟨_, rfl, _, rfl, _, _, rfl, rfl, _, _, rfl, rfl, (by omega : (0 : Int) < 1 + c / 6 / 7 % 12 + 1), _, rfl, _, _, rfl, Int.emod_nonneg _ (by omega), by omega, ?_, fun p hp => q _ _ (same_upd hp) (wv_tup rfl rfl)⟩
      exact Nat.lt_of_le_of_lt (log2_mono (show (1 + c / 6 / 7 % 12).natAbs ≤ 12 by omega)) (by decide)
    | cha =>
      have hb0 : 0 ≤ c / 6 / 9 % 12 := Int.emod_nonneg _ (by decide)
      have hb1 : c / 6 / 9 % 12 < 12 := Int.emod_lt_of_pos _ (by decide)
      refine skE rfl rfl (skE rfl rfl (skE rfl rfl (skE rfl rfl (hitE rfl rfl ⟨_, rfl, _, _, rfl, rfl, (by show (0 : Int) < 9; decide), _, rfl, _, _, rfl, rfl, ⟨by decide, by decide⟩, _, _, rfl, rfl, (by show (0 : Int) < 12; decide), _, _, rfl, rfl, ?_⟩))))
      refine ⟨_, _, rfl, Int.emod_nonneg _ (by decide), by omega, ?_, fun p hp => q _ _ (same_upd hp) (wv_tup rfl rfl)⟩
      exact Nat.lt_of_le_of_lt (log2_mono (show (1 + c / 6 / 9 % 12).natAbs ≤ 12 by omega)) (by decide)
    | mus =>
      refine skE rfl rfl (skE rfl rfl (skE rfl rfl (skE rfl rfl (skE rfl rfl (hitE rfl rfl ⟨_, rfl, _, _, rfl, rfl, m5, _, _, rfl, rfl, _, rfl, ?_⟩)))))
      by_cases h : c % 6 < 5
      · exact ifT (decide_eq_true h) ⟨_, rfl, _, _, rfl, rfl, (by show (0 : Int) < 16; decide), iq _ (by simp only [lawW2, if_pos h])⟩
      · exact ifF (decide_eq_false h) ⟨_, rfl, _, _, rfl, rfl, ⟨by decide, by decide, by decide⟩, _, _, rfl, rfl, (by show (0 : Int) < 10 ^ 30; decide), iq _ (by simp only [lawW2, if_neg h]; rfl)⟩
    | rst m =>
      have em := hm m rfl
      subst em
      have hk' : 1 ≤ m ∧ m ≤ 12 := hk
      refine skE rfl rfl (skE rfl rfl (skE rfl rfl (skE rfl rfl (skE rfl rfl (skE rfl rfl ⟨_, rfl, _, rfl, _, _, rfl, rfl, ⟨by omega, by omega, by decide⟩, _, _, rfl, rfl, ?_, iq _ ?_⟩)))))
      · rw [Int.toNat_natCast, Int.one_mul]; exact Int.pow_pos (by decide)
      · rw [Int.toNat_natCast, Int.one_mul]; rfl
end
/-! ### L3: isinstance of a caught exception; the families for the laws' helpers -/
section
variable {X : Cx} {a : Addr} {oe : Obj} {pn : List (Addr × Obj)} {cls : Value} {d : Option Addr}
theorem call_isX (hz : Zc cls d oe) (hf : ∃ vs, oe.data = .fields vs) : CallR (X.suite a ((a, oe) :: pn)) (.builtin "isinstance") (fun xs H Q => ∃ D, cls = .ref D ∧ d = none ∧ ExcC X.K D ∧ rIsE X.K D a xs H Q) := by
  intro pins s σ H xs us Q I r h
  obtain ⟨D, rfl, rfl, hc, q⟩ := h
  exact call_isE hc hz hf pins s σ H xs us Q I r q
end
theorem cv_ref {C : Addr} : ∀ u, RelV (.ref C) u → u = .ref C := fun _ h => h
theorem cv_ty {n : String} : ∀ u, RelV (.ty n) u → u = .type n := fun _ h => h
/-! ### E1: what a reading evaluates to, where nothing that stands is turned -/
/-- a worth's data -/
def dw : Wo → PyData
  | .non => .none
  | .int i => .int i
  | .rat r => .tuple [.int r.num, .int r.den]
theorem dp_w {K : PySem.W.Frag} {H : Hp} {v : V} {a : Wo} (h : Wv H v a) : Dp K H v (dw a) := by
  cases a with
  | non => cases h; exact .non
  | int i => cases h; exact .int i
  | rat r => obtain ⟨t, rfl, ht⟩ := h; exact .tup (SqT.of ht) (.cons (.int _) (.cons (.int _) .nil))
theorem shaped_w (a : Wo) : SeqAt.shaped (dw a) = true := by
  cases a <;> simp [dw, SeqAt.shaped, PyData.canLay0, PyData.canLayAll0, PyData.depth, PyData.depthAll]
theorem eqv_w (a b : Wo) : PyData.eqv (dw a) (dw b) = decide (a = b) := by
  cases a <;> cases b <;> simp only [dw, PyData.eqv, PyData.eqvAll, Bool.and_true]
  all_goals first | (symm; exact decide_eq_false (fun z => nomatch z)) | skip
  · simp
  · rw [Bool.eq_iff_iff, beq_iff_eq, decide_eq_true_eq, Wo.int.injEq]
  · rw [Bool.eq_iff_iff, Bool.and_eq_true, beq_iff_eq, beq_iff_eq, decide_eq_true_eq, Wo.rat.injEq]
    constructor
    · rintro ⟨h1, h2⟩; exact Rat.ext h1 (by omega)
    · rintro rfl; exact ⟨rfl, rfl⟩
theorem eqD_w {K : PySem.W.Frag} {H : Hp} {u v : V} {a b : Wo} {Q : VK} (ha : Wv H u a) (hb : Wv H v b) (q : Q (.bl (decide (a = b))) H) : rEqD K u v H Q :=
  ⟨_, _, dp_w ha, dp_w hb, shaped_w a, shaped_w b, by rw [eqv_w]; exact q⟩
theorem neD_w {K : PySem.W.Frag} {H : Hp} {u v : V} {a b : Wo} {Q : VK} (ha : Wv H u a) (hb : Wv H v b) (q : Q (.bl (!decide (a = b))) H) : rNeD K u v H Q :=
  ⟨_, _, dp_w ha, dp_w hb, shaped_w a, shaped_w b, by rw [eqv_w]; exact q⟩
/-- from H0 on the reading gives the worth a -/
def EvW (te : TE) (σ : L2.St) (H0 : Hp) (a : Wo) : Prop := ∀ (H : Hp) (Q : VK), Same H0 H → (∀ H' z, Same H H' → Wv H' z a → Q z H') → te σ H Q
theorem EvW.more {te : TE} {σ : L2.St} {H0 H1 : Hp} {a : Wo} (h : EvW te σ H0 a) (s : Same H0 H1) : EvW te σ H1 a := fun H Q s1 q => h H Q (s.trans s1) q
theorem ev_var {σ : L2.St} {H0 : Hp} {i : Nat} {v : V} {a : Wo} (hi : σ[i]? = some (some v)) (h : Wv H0 v a) : EvW (tVar i) σ H0 a := fun H Q s q => ⟨v, hi, q H v (Same.refl _) (h.same s)⟩
section
variable {A : Ad} {σ : L2.St} {H0 : Hp} {i : Nat} {x : Addr} {k : Kd} {ES : L2.St → XK}
theorem ev_k0 {g : Kd → Wo} (hi : σ[i]? = some (some (.ref x))) (hk : KindAt A H0 x k) : EvW (tKM A (fun i => spK0 A i g) ES (tVar i) tNil) σ H0 (g k) := fun H Q s q =>
  ⟨k, hk.1, _, hi, x, rfl, hk.same s, x, k, rfl, hk.same s, rfl, q⟩
theorem ev_k2 {g : Kd → Wo → Wo → Wo} {te1 te2 : TE} {a b : Wo} (hi : σ[i]? = some (some (.ref x))) (hk : KindAt A H0 x k) (h1 : EvW te1 σ H0 a) (h2 : EvW te2 σ H0 b) (ga : Good k a) (gb : Good k b) (hf : Fits k a b) :
    EvW (tKM A (fun i => spK2 A i g) ES (tVar i) (tCons te1 (tCons te2 tNil))) σ H0 (g k a b) := fun H Q s q =>
  ⟨k, hk.1, _, hi, x, rfl, hk.same s, h1 H _ s fun H1 z1 s1 w1 => h2 H1 _ (s.trans s1) fun H2 z2 s2 w2 =>
    ⟨x, k, z1, z2, a, b, rfl, hk.same ((s.trans s1).trans s2), rfl, w1.same s2, w2, ga, gb, hf, fun H3 z3 s3 w3 => q H3 z3 ((s1.trans s2).trans s3) w3⟩⟩
/-- if X != Y: .. -/
theorem ev_ne {K : PySem.W.Frag} {te1 te2 : TE} {a b : Wo} {Q : Bool → Hp → Prop} {H : Hp} (s : Same H0 H) (h1 : EvW te1 σ H0 a) (h2 : EvW te2 σ H0 b) (q : ∀ H', Same H H' → Q (!decide (a = b)) H') : tTest (tOp (rNeD K) te1 te2) σ H Q :=
  h1 H _ s fun H1 z1 s1 w1 => h2 H1 _ (s.trans s1) fun H2 z2 s2 w2 => neD_w (w1.same s2) w2 ⟨_, rfl, q H2 (s1.trans s2)⟩
theorem sk_ne {K : PySem.W.Frag} {te1 te2 : TE} {a b : Wo} {D : Ends} {t rest : TS} {H : Hp} (s : Same H0 H) (h1 : EvW te1 σ H0 a) (h2 : EvW te2 σ H0 b) (e : a = b) (q : ∀ H', Same H H' → rest D σ H') :
    tSeq (tIfS (tTest (tOp (rNeD K) te1 te2)) t tNext) rest D σ H := ev_ne s h1 h2 fun H' s' => ifF (by rw [decide_eq_true e]; rfl) (q H' s')
end
/-! ### the law -/
def spLaw (K : PySem.W.Frag) : Sp := fun vs H Q _ => ∃ (a : Addr) (ns : List Int), vs = [.ref a] ∧ SqL K H a (ns.map V.int) ∧ ns.length ≤ 63 ∧ ∀ H', Q (.bl true) H'
def spRings (A : Ad) : Sp := fun vs H Q _ => ∃ (x : Addr) (k : Kd) (u v : V) (a b : Wo), vs = [.ref x, u, v] ∧ KindAt A H x k ∧ Wv H u a ∧ Wv H v b ∧ Good k a ∧ Good k b ∧ sz a ≤ 100 ∧ sz b ≤ 100 ∧ ∀ H', Q (.bl true) H'
theorem rnd_none {k : Kd} {a : Wo} (h : rnd k a = none) : k = .cha := by
  cases k <;> cases a <;> simp [rnd] at h ⊢
theorem ring_law {k : Kd} (hk : KOk k) {a b s t u : Wo} (ga : Good k a) (gb : Good k b) (hs : rnd k a = some s) (ht : rnd k (tog k a b) = some t) (hu : rnd k (beh k s b) = some u) : t = beh k u s := by
  have gs := good_rnd hk ga hs
  have gt := good_rnd hk (good_tog ga gb) ht
  have gu := good_rnd hk (good_beh gs gb) hu
  have := SR.star_add (S := kSR k hk) (a := ⟨a, ga⟩) (b := ⟨b, gb⟩) (s := ⟨s, gs⟩) (t := ⟨t, gt⟩) (u := ⟨u, gu⟩) (kstar.2 hs) (kstar.2 ht) (kstar.2 hu)
  exact congrArg Subtype.val this
section
variable {P : Program} {w : World} {K : PySem.W.Frag} {mg : Str → Option Value} {base : Heap} {A : Ad} {f : Addr} {fd : FuncData}
theorem fc_rings (T : Tx K mg A) (D : Dfn K mg "_law_rings" s__law_rings ["kind", "one", "other"] f fd) : Fc CX0 P w K mg base 6 "_law_rings" (spRings A) := by
  have sc : FnScope ["kind", "one", "other", "ring", "both"] ["kind", "one", "other"] (defScope s__law_rings) := fsc (by decide +kernel)
  refine fc0 D sc (fun vs H Q E h => ?_) (fun cdv _ outer s H vs Q E hr h => ?_)
  · obtain ⟨x, k, u, v, a, b, rfl, _⟩ := h; rfl
  · obtain ⟨x, k, u, v, a, b, rfl, hk, ha, hb, ga, gb, za, zb, q⟩ := h
    refine ⟨_, pss_one (ps_try_only (tb := fun W => tSeq (tAsg (tKM A (spRnd A A.NoSum) (WE W) (tVar 0) (tCons (tVar 1) tNil)) (gName 3))
        (tSeq (tIfS (tTest (tOp (rNeD K) (tVar 3) (tKM A (fun i => spK2 A i tog) (fun _ => E0) (tVar 0) (tCons (tKM A (fun i => spK0 A i restW) (fun _ => E0) (tVar 0) tNil) (tCons (tKM A (fun i => spK2 A i beh) (fun _ => E0) (tVar 0) (tCons (tVar 1) (tCons (tVar 3) tNil))) tNil))))) (tRet (tC (.bl false))) tNext)
        (tSeq (tAsg (tKM A (spRnd A A.NoSum) (WE W) (tVar 0) (tCons (tKM A (fun i => spK2 A i tog) (fun _ => E0) (tVar 0) (tCons (tVar 1) (tCons (tVar 2) tNil))) tNil)) (gName 4))
          (tRet (tOp (rEqD K) (tVar 4) (tKM A (fun i => spK2 A i beh) (fun _ => E0) (tVar 0) (tCons (tKM A (spRnd A A.NoSum) (WE W) (tVar 0) (tCons (tKM A (fun i => spK2 A i beh) (fun _ => E0) (tVar 0) (tCons (tVar 3) (tCons (tVar 2) tNil))) tNil)) (tCons (tVar 3) tNil))))))))
        (ts := fun _ _ _ => tRet (tCB (rIsi K) (tCons (tVar 0) (tCons (tC (.ref A.Chances)) tNil)))) (Wout := fun _ _ _ _ => False) rfl rfl ⟨rfl, by decide, .inl T.x_NoSum.g⟩ takes0
        (fun W pn xe tk _ => pss_cons (ps_set (i := 3) sc.nd rfl (.inl rfl) (by exact (pe_km (all_rnd T) hr (by decide) (fun σ => passAt tk σ) (pv 0) (by exact (pa_cons (pv 1) pa_nil)))))
          (pss_cons (ps_if (pt_cmpR (op_neD hr.units) (pv 3) (pe_km (ES := fun _ => E0) (all_tog T) hr (by decide) passS (pv 0) (pa_cons (pe_km0 (ES := fun _ => E0) (all_rest T) hr (by decide) passS (pv 0)) (pa_cons (pe_km (ES := fun _ => E0) (all_beh T) hr (by decide) passS (pv 0) (pa_cons (pv 1) (pa_cons (pv 3) pa_nil))) pa_nil))) (nomark _)) (pss_one (ps_ret pe_bl)) pss_nil)
          (pss_cons (ps_set (i := 4) sc.nd rfl (.inl rfl) (by exact (pe_km (all_rnd T) hr (by decide) (fun σ => passAt tk σ) (pv 0) (by exact (pa_cons (pe_km (ES := fun _ => E0) (all_tog T) hr (by decide) passS (pv 0) (pa_cons (pv 1) (pa_cons (pv 2) pa_nil))) pa_nil)))))
          (pss_one (ps_ret (pe_cmpR (op_eqD hr.units) (pv 4) (pe_km (ES := fun _ => E0) (all_beh T) hr (by decide) passS (pv 0) (pa_cons (by exact (pe_km (all_rnd T) hr (by decide) (fun σ => passAt tk σ) (pv 0) (by exact (pa_cons (pe_km (ES := fun _ => E0) (all_beh T) hr (by decide) passS (pv 0) (pa_cons (pv 3) (pa_cons (pv 2) pa_nil))) pa_nil)))) (pa_cons (pv 3) pa_nil))) (nomark _)))))))
        (fun a oe cls d pn hz hf => pss_one (ps_ret (pe_callB (id := "isinstance") call_isi (by rfl) T.n_isinstance (by decide +kernel) (pa_cons (pv 0) (pa_cons (pe_glob (v := .ref A.Chances) rfl T.c_Chances.g rfl) pa_nil)))))), ?_⟩
    have hko := hk.2.1
    -- the suite: of Chances alone
    have suite : ∀ {σ : L2.St} {H1 : Hp} (s1 : Same H H1), σ[0]? = some (some (.ref x)) → k = .cha → ∀ D : Ends, D.rt = Q → tRet (tCB (rIsi K) (tCons (tVar 0) (tCons (tC (.ref A.Chances)) tNil))) D σ H1 := by
      rintro σ H1 s1 hx rfl D rfl
      obtain ⟨dx, hxo⟩ := (hk.same s1).2.2
      exact ⟨_, hx, _, _, _, _, true, rfl, .own A.Chances, .base (.ins hxo T.c_Chances.cl T.c_Chances.ha T.hn T.ht T.c_Chances.hm), T.k_Chances_Chances, q _⟩
    have bad : ∀ {σ : L2.St} {H1 : Hp} {a' : Wo} {D : Ends} (s1 : Same H H1), σ[0]? = some (some (.ref x)) → rnd k a' = none → D.rt = Q → wOnly K (.ref A.NoSum) (fun _ _ _ => tRet (tCB (rIsi K) (tCons (tVar 0) (tCons (tC (.ref A.Chances)) tNil)))) (fun _ _ _ _ => False) D (.ref A.NoSum) none σ H1 := by
      intro σ H1 a' D s1 hx hn hD
      exact ⟨true, T.e_NoSum_NoSum, fun _ a0 _ => suite s1 hx (rnd_none hn) D hD, fun z => Bool.noConfusion z⟩
    refine ⟨k, hk.1, _, rfl, x, rfl, hk, _, rfl, x, k, _, a, rfl, hk, rfl, ha, ga, fit1_of (fun _ => by omega), fun sv hs H1 z1 s1 hz1 => ?_, fun hn => bad (Same.refl _) rfl hn rfl⟩
    have gs := good_rnd hko ga hs
    have zs : bitK k = true → sz sv ≤ 100 := fun h => Nat.le_trans (sz_rnd h ga hs) za
    have hk1 := hk.same s1
    have eR : EvW (tKM A (fun i => spK2 A i tog) (fun _ => E0) (tVar 0) (tCons (tKM A (fun i => spK0 A i restW) (fun _ => E0) (tVar 0) tNil) (tCons (tKM A (fun i => spK2 A i beh) (fun _ => E0) (tVar 0) (tCons (tVar 1) (tCons (tVar 3) tNil))) tNil))) _ H1 _ :=
      ev_k2 (A := A) (σ := [some (.ref x), some u, some v, some z1, none]) (ES := fun _ => E0) rfl hk1 (ev_k0 (ES := fun _ => E0) rfl hk1) (ev_k2 (ES := fun _ => E0) rfl hk1 (ev_var rfl (ha.same s1)) (ev_var rfl hz1) ga gs (fits_of fun h => by have := zs h; omega)) (good_rest hko) (good_beh ga gs)
        (fits_of fun h => by have := zs h; have := sz_beh h ga gs; have := sz_rest k; omega)
    refine sk_ne (Same.refl _) (ev_var rfl hz1) eR (rnd_eq hko ga hs) fun H2 s2 => ?_
    have hk2 := hk1.same s2
    have s12 := s1.trans s2
    refine ⟨k, hk.1, _, rfl, x, rfl, hk2, ?_⟩
    refine ev_k2 (A := A) (ES := fun _ => E0) rfl hk2 (ev_var rfl (ha.same s12)) (ev_var rfl (hb.same s12)) ga gb (fits_of fun _ => by omega) H2 _ (Same.refl _) fun H3 z3 s3 hz3 => ?_
    have gt0 := good_tog ga gb
    refine ⟨x, k, _, _, rfl, hk2.same s3, rfl, hz3, gt0, fit1_of (fun h => by have := sz_tog h ga gb; omega), fun tv ht H4 z4 s4 hz4 => ?_, fun hn => bad (s12.trans s3) rfl hn rfl⟩
    have s14 := (s12.trans s3).trans s4
    have hk4 := (hk2.same s3).same s4
    refine ⟨_, rfl, k, hk.1, _, rfl, x, rfl, hk4, k, hk.1, _, rfl, x, rfl, hk4, ?_⟩
    refine ev_k2 (A := A) (ES := fun _ => E0) rfl hk4 (ev_var rfl (((hz1.same s2).same s3).same s4)) (ev_var rfl (hb.same s14)) gs gb (fits_of fun h => by have := zs h; omega) H4 _ (Same.refl _) fun H5 z5 s5 hz5 => ?_
    refine ⟨x, k, _, _, rfl, hk4.same s5, rfl, hz5, good_beh gs gb, fit1_of (fun h => by have := sz_beh h gs gb; have := zs h; omega), fun uv hu H6 z6 s6 hz6 => ?_, fun hn => bad (s14.trans s5) rfl hn rfl⟩
    have gu := good_rnd hko (good_beh gs gb) hu
    have s46 := s5.trans s6
    refine ⟨_, rfl, x, k, _, _, uv, sv, rfl, hk4.same s46, rfl, hz6, (((hz1.same s2).same s3).same s4).same s46, gu, gs, fits_of (fun h => by have := sz_rnd h (good_beh gs gb) hu; have := sz_beh h gs gb; have := zs h; omega), fun H7 z7 s7 hz7 => ?_⟩
    refine eqD_w ((hz4.same s46).same s7) hz7 ?_
    rw [decide_eq_true (ring_law hko ga gb hs ht hu)]
    exact q _
theorem ok_law (T : Tx K mg A) (F : Fun K "law" "law" s_law f fd) : FnOk P w K mg base CX0 20 f fd ["script"] (spLaw K) := by
  obtain ⟨_, _, D1⟩ := T.d__law_cell_at
  obtain ⟨_, _, D3⟩ := T.d__law_kind
  obtain ⟨_, _, D4⟩ := T.d__law_share
  obtain ⟨_, _, D5⟩ := T.d__law_none
  obtain ⟨_, _, D6⟩ := T.d__law_rest
  obtain ⟨_, _, D9⟩ := T.d__law_worth
  obtain ⟨_, _, D10⟩ := T.d__law_rings
  have CE : Fc CX0 P w K mg base 1 "_law_cell_at" (spCell K) := fc_cell T.n_len D1
  have KI : Fc CX0 P w K mg base 3 "_law_kind" (spKindL A) := fc_kind T D3
  have SH : Fc CX0 P w K mg base 1 "_law_share" spLowest := fc_share D4
  have NO : Fc CX0 P w K mg base 1 "_law_none" (spLaw0 noneW) := fc_none D5
  have RE : Fc CX0 P w K mg base 1 "_law_rest" (spLaw0 restW) := fc_rest D6
  have WO : Fc CX0 P w K mg base 2 "_law_worth" spWorthL := fc_worthL SH NO RE D9
  have RI : Fc CX0 P w K mg base 6 "_law_rings" (spRings A) := fc_rings T D10
  have sc : FnScope ["script", "which", "m", "kind", "one", "two", "three", "left"] ["script"] (defScope s_law) := fsc (by decide +kernel)
  refine F.ok (k := 19) sc (fun vs H Q E h => ?_) (fun cdv _ outer s H vs Q E hr h => ?_)
  · obtain ⟨a, ns, rfl, _⟩ := h; rfl
  · obtain ⟨a, ns, rfl, hS, hlen, q⟩ := h
    refine ⟨_, (pss_cons (ps_set (i := 1) sc.nd rfl (.inl rfl) (pe_op op_mod (pe_f CE hr (by decide) pass0 rfl (pa_cons (pv 0) (pa_cons pe_int pa_nil))) pe_int)) (pss_cons (ps_set (i := 2) sc.nd rfl (.inl rfl) (pe_op op_add pe_int (pe_op op_mod (pe_op op_fdiv (pe_f CE hr (by decide) pass0 rfl (pa_cons (pv 0) (pa_cons pe_int pa_nil))) pe_int) pe_int))) (pss_cons (ps_set (i := 3) sc.nd rfl (.inl rfl) (pe_f KI hr (by decide) pass0 rfl (pa_cons (pv 1) (pa_cons (pv 2) pa_nil)))) (pss_cons (ps_set (i := 4) sc.nd rfl (.inl rfl) (pe_f WO hr (by decide) pass0 rfl (pa_cons (pv 1) (pa_cons (pv 2) (pa_cons (pe_f CE hr (by decide) pass0 rfl (pa_cons (pv 0) (pa_cons pe_int pa_nil))) pa_nil))))) (pss_cons (ps_set (i := 5) sc.nd rfl (.inl rfl) (pe_f WO hr (by decide) pass0 rfl (pa_cons (pv 1) (pa_cons (pv 2) (pa_cons (pe_f CE hr (by decide) pass0 rfl (pa_cons (pv 0) (pa_cons pe_int pa_nil))) pa_nil))))) (pss_cons (ps_set (i := 6) sc.nd rfl (.inl rfl) (pe_f WO hr (by decide) pass0 rfl (pa_cons (pv 1) (pa_cons (pv 2) (pa_cons (pe_f CE hr (by decide) pass0 rfl (pa_cons (pv 0) (pa_cons pe_int pa_nil))) pa_nil))))) (pss_cons (ps_if (pt_cmpR (op_neD hr.units) ((pe_km (ES := fun _ => E0) (all_tog T) hr (by decide) passS (pv 3) (pa_cons ((pe_km (ES := fun _ => E0) (all_tog T) hr (by decide) passS (pv 3) (pa_cons (pv 4) (pa_cons (pv 5) pa_nil)))) (pa_cons (pv 6) pa_nil)))) ((pe_km (ES := fun _ => E0) (all_tog T) hr (by decide) passS (pv 3) (pa_cons (pv 4) (pa_cons ((pe_km (ES := fun _ => E0) (all_tog T) hr (by decide) passS (pv 3) (pa_cons (pv 5) (pa_cons (pv 6) pa_nil)))) pa_nil)))) (nomark _)) (pss_one (ps_ret pe_bl)) pss_nil) (pss_cons (ps_if (pt_cmpR (op_neD hr.units) ((pe_km (ES := fun _ => E0) (all_beh T) hr (by decide) passS (pv 3) (pa_cons ((pe_km (ES := fun _ => E0) (all_beh T) hr (by decide) passS (pv 3) (pa_cons (pv 4) (pa_cons (pv 5) pa_nil)))) (pa_cons (pv 6) pa_nil)))) ((pe_km (ES := fun _ => E0) (all_beh T) hr (by decide) passS (pv 3) (pa_cons (pv 4) (pa_cons ((pe_km (ES := fun _ => E0) (all_beh T) hr (by decide) passS (pv 3) (pa_cons (pv 5) (pa_cons (pv 6) pa_nil)))) pa_nil)))) (nomark _)) (pss_one (ps_ret pe_bl)) pss_nil) (pss_cons (ps_if (PW.pt (pw_or (pt_cmpR (op_neD hr.units) ((pe_km (ES := fun _ => E0) (all_tog T) hr (by decide) passS (pv 3) (pa_cons (pv 4) (pa_cons (pv 5) pa_nil)))) ((pe_km (ES := fun _ => E0) (all_tog T) hr (by decide) passS (pv 3) (pa_cons (pv 5) (pa_cons (pv 4) pa_nil)))) (nomark _)) (pw_or1 (pt_cmpR (op_neD hr.units) ((pe_km (ES := fun _ => E0) (all_beh T) hr (by decide) passS (pv 3) (pa_cons (pv 4) (pa_cons (pv 5) pa_nil)))) ((pe_km (ES := fun _ => E0) (all_beh T) hr (by decide) passS (pv 3) (pa_cons (pv 5) (pa_cons (pv 4) pa_nil)))) (nomark _))))) (pss_one (ps_ret pe_bl)) pss_nil) (pss_cons (ps_set (i := 7) sc.nd rfl (.inl rfl) ((pe_km (ES := fun _ => E0) (all_tog T) hr (by decide) passS (pv 3) (pa_cons ((pe_km (ES := fun _ => E0) (all_beh T) hr (by decide) passS (pv 3) (pa_cons (pv 4) (pa_cons (pv 5) pa_nil)))) (pa_cons ((pe_km (ES := fun _ => E0) (all_beh T) hr (by decide) passS (pv 3) (pa_cons (pv 4) (pa_cons (pv 6) pa_nil)))) pa_nil))))) (pss_cons (ps_if (pt_cmpR (op_neD hr.units) ((pe_km (ES := fun _ => E0) (all_beh T) hr (by decide) passS (pv 3) (pa_cons (pv 4) (pa_cons ((pe_km (ES := fun _ => E0) (all_tog T) hr (by decide) passS (pv 3) (pa_cons (pv 5) (pa_cons (pv 6) pa_nil)))) pa_nil)))) (pv 7) (nomark _)) (pss_one (ps_ret pe_bl)) pss_nil) (pss_cons (ps_if (pt_cmpR (op_neD hr.units) ((pe_km (ES := fun _ => E0) (all_beh T) hr (by decide) passS (pv 3) (pa_cons ((pe_km (ES := fun _ => E0) (all_tog T) hr (by decide) passS (pv 3) (pa_cons (pv 5) (pa_cons (pv 6) pa_nil)))) (pa_cons (pv 4) pa_nil)))) (pv 7) (nomark _)) (pss_one (ps_ret pe_bl)) pss_nil) (pss_cons (ps_if (PW.pt (pw_or (pt_cmpR (op_neD hr.units) ((pe_km (ES := fun _ => E0) (all_tog T) hr (by decide) passS (pv 3) (pa_cons (pv 4) (pa_cons (pe_km0 (ES := fun _ => E0) (all_none T) hr (by decide) passS (pv 3)) pa_nil)))) (pv 4) (nomark _)) (pw_or1 (pt_cmpR (op_neD hr.units) ((pe_km (ES := fun _ => E0) (all_beh T) hr (by decide) passS (pv 3) (pa_cons (pv 4) (pa_cons (pe_km0 (ES := fun _ => E0) (all_rest T) hr (by decide) passS (pv 3)) pa_nil)))) (pv 4) (nomark _))))) (pss_one (ps_ret pe_bl)) pss_nil) (pss_cons (ps_if (PW.pt (pw_or (pt_cmpR (op_neD hr.units) ((pe_km (ES := fun _ => E0) (all_beh T) hr (by decide) passS (pv 3) (pa_cons (pv 4) (pa_cons (pe_km0 (ES := fun _ => E0) (all_none T) hr (by decide) passS (pv 3)) pa_nil)))) (pe_km0 (ES := fun _ => E0) (all_none T) hr (by decide) passS (pv 3)) (nomark _)) (pw_or1 (pt_cmpR (op_neD hr.units) ((pe_km (ES := fun _ => E0) (all_beh T) hr (by decide) passS (pv 3) (pa_cons (pe_km0 (ES := fun _ => E0) (all_rest T) hr (by decide) passS (pv 3)) (pa_cons (pv 4) pa_nil)))) (pv 4) (nomark _))))) (pss_one (ps_ret pe_bl)) pss_nil) (pss_one (ps_ret (pe_f RI hr (by decide) pass0 rfl (pa_cons (pv 3) (pa_cons (pv 4) (pa_cons (pv 5) pa_nil)))))))))))))))))))), ?_⟩
    have w0 : 0 ≤ cell ns 0 % 7 := Int.emod_nonneg _ (by decide)
    have w6 : cell ns 0 % 7 ≤ 6 := by have := Int.emod_lt_of_pos (cell ns 0) (show (0 : Int) < 7 by decide); omega
    have m0 : 0 ≤ cell ns 0 / 7 % 12 := Int.emod_nonneg _ (by decide)
    have m11 : cell ns 0 / 7 % 12 < 12 := Int.emod_lt_of_pos _ (by decide)
    obtain ⟨k, hk⟩ : ∃ k, kd (cell ns 0 % 7) (1 + cell ns 0 / 7 % 12) = k := ⟨_, rfl⟩
    have hwk : wh k = cell ns 0 % 7 := by rw [← hk]; exact wh_kd w0 w6
    have hko : KOk k := by rw [← hk]; exact kd_ok (by omega) (by omega)
    have hmm : ∀ m' : Nat, k = .rst m' → 1 + cell ns 0 / 7 % 12 = m' := fun m' e => kd_rst (by omega) (hk.trans e)
    have hav : Av k.x = true := by cases k <;> rfl
    refine ⟨_, rfl, a, ns, 0, rfl, hS, hlen, _, _, rfl, rfl, (by show (0 : Int) < 7; decide), ?_⟩
    refine ⟨_, rfl, a, ns, 0, rfl, hS, hlen, _, _, rfl, rfl, ⟨by decide, by decide⟩, _, _, rfl, rfl, (by show (0 : Int) < 12; decide), _, _, rfl, rfl, ?_⟩
    refine ⟨_, rfl, _, rfl, k, _, by rw [hwk]; rfl, hko, hav, hmm, fun H1 x s1 hx1 => ?_⟩
    refine ⟨_, rfl, _, rfl, _, rfl, a, ns, 1, rfl, s1.seq hS, hlen, k, _, _, by rw [hwk]; rfl, hko, hmm, fun H2 u1 s2 hu1 => ?_⟩
    refine ⟨_, rfl, _, rfl, _, rfl, a, ns, 2, rfl, (s1.trans s2).seq hS, hlen, k, _, _, by rw [hwk]; rfl, hko, hmm, fun H3 u2 s3 hu2 => ?_⟩
    refine ⟨_, rfl, _, rfl, _, rfl, a, ns, 3, rfl, ((s1.trans s2).trans s3).seq hS, hlen, k, _, _, by rw [hwk]; rfl, hko, hmm, fun H4 u3 s4 hu3 => ?_⟩
    have hx := ((hx1.same s2).same s3).same s4
    have h1 := (hu1.same s3).same s4
    have h2 := hu2.same s4
    have ga := good_law hko (cell ns 1)
    have gb := good_law hko (cell ns 2)
    have gc := good_law hko (cell ns 3)
    have za := sz_law hko (cell ns 1)
    have zb := sz_law hko (cell ns 2)
    have zc := sz_law hko (cell ns 3)
    generalize lawW k (cell ns 1) = wa at h1 ga za
    generalize lawW k (cell ns 2) = wb at h2 gb zb
    generalize lawW k (cell ns 3) = wc at hu3 gc zc
    have gr := good_rest hko
    have gn := good_none k
    have zr := sz_rest k
    have zn := sz_none k
    have gT := @good_tog k
    have gB := @good_beh k
    have eT : ∀ {σ : L2.St} {te1 te2 : TE} {p q : Wo}, σ[3]? = some (some (.ref x)) → EvW te1 σ H4 p → EvW te2 σ H4 q → Good k p → Good k q → (bitK k = true → sz p ≤ 1000 ∧ sz q ≤ 1000) → EvW (tKM A (fun i => spK2 A i tog) (fun _ => E0) (tVar 3) (tCons te1 (tCons te2 tNil))) σ H4 (tog k p q) :=
      fun hi e1 e2 g1 g2 z => ev_k2 hi hx e1 e2 g1 g2 (fits_of fun h => by have := z h; omega)
    have eB : ∀ {σ : L2.St} {te1 te2 : TE} {p q : Wo}, σ[3]? = some (some (.ref x)) → EvW te1 σ H4 p → EvW te2 σ H4 q → Good k p → Good k q → (bitK k = true → sz p ≤ 1000 ∧ sz q ≤ 1000) → EvW (tKM A (fun i => spK2 A i beh) (fun _ => E0) (tVar 3) (tCons te1 (tCons te2 tNil))) σ H4 (beh k p q) :=
      fun hi e1 e2 g1 g2 z => ev_k2 hi hx e1 e2 g1 g2 (fits_of fun h => by have := z h; omega)
    have e0 : ∀ {σ : L2.St} {g : Kd → Wo}, σ[3]? = some (some (.ref x)) → EvW (tKM A (fun i => spK0 A i g) (fun _ => E0) (tVar 3) tNil) σ H4 (g k) := fun hi => ev_k0 hi hx
    have z2 : ∀ {p q : Wo}, bitK k = true → Good k p → Good k q → sz p ≤ 100 → sz q ≤ 100 → sz (tog k p q) ≤ 300 ∧ sz (beh k p q) ≤ 300 := fun h g1 g2 y1 y2 => by
      have := sz_tog h g1 g2; have := sz_beh h g1 g2; omega
    have lo : ∀ {p q : Wo}, sz p ≤ 100 → sz q ≤ 100 → bitK k = true → sz p ≤ 1000 ∧ sz q ≤ 1000 := fun y1 y2 _ => ⟨by omega, by omega⟩
    refine sk_ne (Same.refl H4) (eT rfl (eT rfl (ev_var rfl h1) (ev_var rfl h2) ga gb (lo za zb)) (ev_var rfl hu3) (gT ga gb) gc fun h => by have := z2 h ga gb za zb; omega)
      (eT rfl (ev_var rfl h1) (eT rfl (ev_var rfl h2) (ev_var rfl hu3) gb gc (lo zb zc)) ga (gT gb gc) fun h => by have := z2 h gb gc zb zc; omega) (tog_assoc ga gb gc) fun H5 t5 => ?_
    refine sk_ne t5 (eB rfl (eB rfl (ev_var rfl h1) (ev_var rfl h2) ga gb (lo za zb)) (ev_var rfl hu3) (gB ga gb) gc fun h => by have := z2 h ga gb za zb; omega)
      (eB rfl (ev_var rfl h1) (eB rfl (ev_var rfl h2) (ev_var rfl hu3) gb gc (lo zb zc)) ga (gB gb gc) fun h => by have := z2 h gb gc zb zc; omega) (beh_assoc ga gb gc) fun H6 t6 => ?_
    have u6 := t5.trans t6
    refine ev_ne u6 (eT rfl (ev_var rfl h1) (ev_var rfl h2) ga gb (lo za zb)) (eT rfl (ev_var rfl h2) (ev_var rfl h1) gb ga (lo zb za)) fun H7 t7 => ifF (by rw [decide_eq_true (tog_comm ga gb)]; rfl) ?_
    have u7 := u6.trans t7
    refine ev_ne u7 (eB rfl (ev_var rfl h1) (ev_var rfl h2) ga gb (lo za zb)) (eB rfl (ev_var rfl h2) (ev_var rfl h1) gb ga (lo zb za)) fun H8 t8 => ifF (by rw [decide_eq_true (beh_comm ga gb)]; rfl) ?_
    have u8 := u7.trans t8
    refine eT rfl (eB rfl (ev_var rfl h1) (ev_var rfl h2) ga gb (lo za zb)) (eB rfl (ev_var rfl h1) (ev_var rfl hu3) ga gc (lo za zc)) (gB ga gb) (gB ga gc) (fun h => by have := z2 h ga gb za zb; have := z2 h ga gc za zc; omega) H8 _ u8 fun H9 ul t9 hul => ?_
    have u9 := u8.trans t9
    have hL : EvW (tVar 7) [some (.ref a), some (.int (cell ns 0 % 7)), some (.int (1 + cell ns 0 / 7 % 12)), some (.ref x), some u1, some u2, some u3, some ul] H9 (tog k (beh k wa wb) (beh k wa wc)) := ev_var rfl hul
    refine sk_ne (Same.refl H9) ((eB rfl (ev_var rfl h1) (eT rfl (ev_var rfl h2) (ev_var rfl hu3) gb gc (lo zb zc)) ga (gT gb gc) fun h => by have := z2 h gb gc zb zc; omega).more u9) hL (beh_dist ga gb gc) fun H10 t10 => ?_
    refine sk_ne t10 ((eB rfl (eT rfl (ev_var rfl h2) (ev_var rfl hu3) gb gc (lo zb zc)) (ev_var rfl h1) (gT gb gc) ga fun h => by have := z2 h gb gc zb zc; omega).more u9) hL ((beh_comm (gT gb gc) ga).trans (beh_dist ga gb gc)) fun H11 t11 => ?_
    have u11 := (u9.trans t10).trans t11
    refine ev_ne u11 (eT rfl (ev_var rfl h1) (e0 rfl) ga gn (lo za (by omega))) (ev_var rfl h1) fun H12 t12 => ifF (by rw [decide_eq_true (tog_none ga)]; rfl) ?_
    have u12 := u11.trans t12
    refine ev_ne u12 (eB rfl (ev_var rfl h1) (e0 rfl) ga gr (lo za (by omega))) (ev_var rfl h1) fun H13 t13 => ifF (by rw [decide_eq_true (beh_rest ga)]; rfl) ?_
    have u13 := u12.trans t13
    refine ev_ne u13 (eB rfl (ev_var rfl h1) (e0 rfl) ga gn (lo za (by omega))) (e0 rfl) fun H14 t14 => ifF (by rw [decide_eq_true (beh_none ga)]; rfl) ?_
    have u14 := u13.trans t14
    refine ev_ne u14 (eB rfl (e0 rfl) (ev_var rfl h1) gr ga (lo (by omega) za)) (ev_var rfl h1) fun H15 t15 => ifF (by rw [decide_eq_true ((beh_comm gr ga).trans (beh_rest ga))]; rfl) ?_
    have u15 := u14.trans t15
    exact ⟨_, rfl, _, rfl, _, rfl, x, k, _, _, wa, wb, rfl, hx.same u15, h1.same u15, h2.same u15, ga, gb, za, zb, q⟩
end
theorem fin {l : PySem.W.OpenLaw} {w : World} {K : PySem.W.Frag} {h : Heap} {mg : Str → Option Value} {fa : Addr} (X : K.In h) (G : h.Ns mainGlobals mg) (hfa : mg "law" = some (.ref fa))
  {zSumError zNoWorth zNoSum zKind zFewest zWidest zCounted zLikeliest zChances zMusts zRests : Addr}
  {f_common : Addr} {od_common an_common : Option Addr} {sl_common : Array (Option Value)} {oc_common kV_common dc_common pm_common cd_common ct_common : Value}
  {f_lowest : Addr} {od_lowest an_lowest : Option Addr} {sl_lowest : Array (Option Value)} {oc_lowest kV_lowest dc_lowest pm_lowest cd_lowest ct_lowest : Value}
  {f_added : Addr} {od_added an_added : Option Addr} {sl_added : Array (Option Value)} {oc_added kV_added dc_added pm_added cd_added ct_added : Value}
  {f_taken : Addr} {od_taken an_taken : Option Addr} {sl_taken : Array (Option Value)} {oc_taken kV_taken dc_taken pm_taken cd_taken ct_taken : Value}
  {f_less : Addr} {od_less an_less : Option Addr} {sl_less : Array (Option Value)} {oc_less kV_less dc_less pm_less cd_less ct_less : Value}
  {f__law_cell_at : Addr} {od__law_cell_at an__law_cell_at : Option Addr} {sl__law_cell_at : Array (Option Value)} {oc__law_cell_at kV__law_cell_at dc__law_cell_at pm__law_cell_at cd__law_cell_at ct__law_cell_at : Value}
  {f__law_kind : Addr} {od__law_kind an__law_kind : Option Addr} {sl__law_kind : Array (Option Value)} {oc__law_kind kV__law_kind dc__law_kind pm__law_kind cd__law_kind ct__law_kind : Value}
  {f__law_share : Addr} {od__law_share an__law_share : Option Addr} {sl__law_share : Array (Option Value)} {oc__law_share kV__law_share dc__law_share pm__law_share cd__law_share ct__law_share : Value}
  {f__law_none : Addr} {od__law_none an__law_none : Option Addr} {sl__law_none : Array (Option Value)} {oc__law_none kV__law_none dc__law_none pm__law_none cd__law_none ct__law_none : Value}
  {f__law_rest : Addr} {od__law_rest an__law_rest : Option Addr} {sl__law_rest : Array (Option Value)} {oc__law_rest kV__law_rest dc__law_rest pm__law_rest cd__law_rest ct__law_rest : Value}
  {f__law_worth : Addr} {od__law_worth an__law_worth : Option Addr} {sl__law_worth : Array (Option Value)} {oc__law_worth kV__law_worth dc__law_worth pm__law_worth cd__law_worth ct__law_worth : Value}
  {f__law_rings : Addr} {od__law_rings an__law_rings : Option Addr} {sl__law_rings : Array (Option Value)} {oc__law_rings kV__law_rings dc__law_rings pm__law_rings cd__law_rings ct__law_rings : Value}
  {f_law : Addr} {od_law an_law : Option Addr} {sl_law : Array (Option Value)} {oc_law kV_law dc_law pm_law cd_law ct_law : Value}
  {f_Fewest_none : Addr} {od_Fewest_none an_Fewest_none : Option Addr} {sl_Fewest_none : Array (Option Value)} {oc_Fewest_none kV_Fewest_none dc_Fewest_none pm_Fewest_none cd_Fewest_none ct_Fewest_none : Value}
  {f_Fewest_rest : Addr} {od_Fewest_rest an_Fewest_rest : Option Addr} {sl_Fewest_rest : Array (Option Value)} {oc_Fewest_rest kV_Fewest_rest dc_Fewest_rest pm_Fewest_rest cd_Fewest_rest ct_Fewest_rest : Value}
  {f_Fewest_together : Addr} {od_Fewest_together an_Fewest_together : Option Addr} {sl_Fewest_together : Array (Option Value)} {oc_Fewest_together kV_Fewest_together dc_Fewest_together pm_Fewest_together cd_Fewest_together ct_Fewest_together : Value}
  {f_Fewest_behind : Addr} {od_Fewest_behind an_Fewest_behind : Option Addr} {sl_Fewest_behind : Array (Option Value)} {oc_Fewest_behind kV_Fewest_behind dc_Fewest_behind pm_Fewest_behind cd_Fewest_behind ct_Fewest_behind : Value}
  {f_Fewest_rounds : Addr} {od_Fewest_rounds an_Fewest_rounds : Option Addr} {sl_Fewest_rounds : Array (Option Value)} {oc_Fewest_rounds kV_Fewest_rounds dc_Fewest_rounds pm_Fewest_rounds cd_Fewest_rounds ct_Fewest_rounds : Value}
  {f_Widest_none : Addr} {od_Widest_none an_Widest_none : Option Addr} {sl_Widest_none : Array (Option Value)} {oc_Widest_none kV_Widest_none dc_Widest_none pm_Widest_none cd_Widest_none ct_Widest_none : Value}
  {f_Widest_rest : Addr} {od_Widest_rest an_Widest_rest : Option Addr} {sl_Widest_rest : Array (Option Value)} {oc_Widest_rest kV_Widest_rest dc_Widest_rest pm_Widest_rest cd_Widest_rest ct_Widest_rest : Value}
  {f_Widest_together : Addr} {od_Widest_together an_Widest_together : Option Addr} {sl_Widest_together : Array (Option Value)} {oc_Widest_together kV_Widest_together dc_Widest_together pm_Widest_together cd_Widest_together ct_Widest_together : Value}
  {f_Widest_behind : Addr} {od_Widest_behind an_Widest_behind : Option Addr} {sl_Widest_behind : Array (Option Value)} {oc_Widest_behind kV_Widest_behind dc_Widest_behind pm_Widest_behind cd_Widest_behind ct_Widest_behind : Value}
  {f_Widest_rounds : Addr} {od_Widest_rounds an_Widest_rounds : Option Addr} {sl_Widest_rounds : Array (Option Value)} {oc_Widest_rounds kV_Widest_rounds dc_Widest_rounds pm_Widest_rounds cd_Widest_rounds ct_Widest_rounds : Value}
  {f_Counted_none : Addr} {od_Counted_none an_Counted_none : Option Addr} {sl_Counted_none : Array (Option Value)} {oc_Counted_none kV_Counted_none dc_Counted_none pm_Counted_none cd_Counted_none ct_Counted_none : Value}
  {f_Counted_rest : Addr} {od_Counted_rest an_Counted_rest : Option Addr} {sl_Counted_rest : Array (Option Value)} {oc_Counted_rest kV_Counted_rest dc_Counted_rest pm_Counted_rest cd_Counted_rest ct_Counted_rest : Value}
  {f_Counted_together : Addr} {od_Counted_together an_Counted_together : Option Addr} {sl_Counted_together : Array (Option Value)} {oc_Counted_together kV_Counted_together dc_Counted_together pm_Counted_together cd_Counted_together ct_Counted_together : Value}
  {f_Counted_behind : Addr} {od_Counted_behind an_Counted_behind : Option Addr} {sl_Counted_behind : Array (Option Value)} {oc_Counted_behind kV_Counted_behind dc_Counted_behind pm_Counted_behind cd_Counted_behind ct_Counted_behind : Value}
  {f_Counted_rounds : Addr} {od_Counted_rounds an_Counted_rounds : Option Addr} {sl_Counted_rounds : Array (Option Value)} {oc_Counted_rounds kV_Counted_rounds dc_Counted_rounds pm_Counted_rounds cd_Counted_rounds ct_Counted_rounds : Value}
  {f_Likeliest_none : Addr} {od_Likeliest_none an_Likeliest_none : Option Addr} {sl_Likeliest_none : Array (Option Value)} {oc_Likeliest_none kV_Likeliest_none dc_Likeliest_none pm_Likeliest_none cd_Likeliest_none ct_Likeliest_none : Value}
  {f_Likeliest_rest : Addr} {od_Likeliest_rest an_Likeliest_rest : Option Addr} {sl_Likeliest_rest : Array (Option Value)} {oc_Likeliest_rest kV_Likeliest_rest dc_Likeliest_rest pm_Likeliest_rest cd_Likeliest_rest ct_Likeliest_rest : Value}
  {f_Likeliest_together : Addr} {od_Likeliest_together an_Likeliest_together : Option Addr} {sl_Likeliest_together : Array (Option Value)} {oc_Likeliest_together kV_Likeliest_together dc_Likeliest_together pm_Likeliest_together cd_Likeliest_together ct_Likeliest_together : Value}
  {f_Likeliest_behind : Addr} {od_Likeliest_behind an_Likeliest_behind : Option Addr} {sl_Likeliest_behind : Array (Option Value)} {oc_Likeliest_behind kV_Likeliest_behind dc_Likeliest_behind pm_Likeliest_behind cd_Likeliest_behind ct_Likeliest_behind : Value}
  {f_Likeliest_rounds : Addr} {od_Likeliest_rounds an_Likeliest_rounds : Option Addr} {sl_Likeliest_rounds : Array (Option Value)} {oc_Likeliest_rounds kV_Likeliest_rounds dc_Likeliest_rounds pm_Likeliest_rounds cd_Likeliest_rounds ct_Likeliest_rounds : Value}
  {f_Chances_none : Addr} {od_Chances_none an_Chances_none : Option Addr} {sl_Chances_none : Array (Option Value)} {oc_Chances_none kV_Chances_none dc_Chances_none pm_Chances_none cd_Chances_none ct_Chances_none : Value}
  {f_Chances_rest : Addr} {od_Chances_rest an_Chances_rest : Option Addr} {sl_Chances_rest : Array (Option Value)} {oc_Chances_rest kV_Chances_rest dc_Chances_rest pm_Chances_rest cd_Chances_rest ct_Chances_rest : Value}
  {f_Chances_together : Addr} {od_Chances_together an_Chances_together : Option Addr} {sl_Chances_together : Array (Option Value)} {oc_Chances_together kV_Chances_together dc_Chances_together pm_Chances_together cd_Chances_together ct_Chances_together : Value}
  {f_Chances_behind : Addr} {od_Chances_behind an_Chances_behind : Option Addr} {sl_Chances_behind : Array (Option Value)} {oc_Chances_behind kV_Chances_behind dc_Chances_behind pm_Chances_behind cd_Chances_behind ct_Chances_behind : Value}
  {f_Chances_rounds : Addr} {od_Chances_rounds an_Chances_rounds : Option Addr} {sl_Chances_rounds : Array (Option Value)} {oc_Chances_rounds kV_Chances_rounds dc_Chances_rounds pm_Chances_rounds cd_Chances_rounds ct_Chances_rounds : Value}
  {f_Musts_none : Addr} {od_Musts_none an_Musts_none : Option Addr} {sl_Musts_none : Array (Option Value)} {oc_Musts_none kV_Musts_none dc_Musts_none pm_Musts_none cd_Musts_none ct_Musts_none : Value}
  {f_Musts_rest : Addr} {od_Musts_rest an_Musts_rest : Option Addr} {sl_Musts_rest : Array (Option Value)} {oc_Musts_rest kV_Musts_rest dc_Musts_rest pm_Musts_rest cd_Musts_rest ct_Musts_rest : Value}
  {f_Musts_together : Addr} {od_Musts_together an_Musts_together : Option Addr} {sl_Musts_together : Array (Option Value)} {oc_Musts_together kV_Musts_together dc_Musts_together pm_Musts_together cd_Musts_together ct_Musts_together : Value}
  {f_Musts_behind : Addr} {od_Musts_behind an_Musts_behind : Option Addr} {sl_Musts_behind : Array (Option Value)} {oc_Musts_behind kV_Musts_behind dc_Musts_behind pm_Musts_behind cd_Musts_behind ct_Musts_behind : Value}
  {f_Musts_rounds : Addr} {od_Musts_rounds an_Musts_rounds : Option Addr} {sl_Musts_rounds : Array (Option Value)} {oc_Musts_rounds kV_Musts_rounds dc_Musts_rounds pm_Musts_rounds cd_Musts_rounds ct_Musts_rounds : Value}
  {f_Rests___init__ : Addr} {od_Rests___init__ an_Rests___init__ : Option Addr} {sl_Rests___init__ : Array (Option Value)} {oc_Rests___init__ kV_Rests___init__ dc_Rests___init__ pm_Rests___init__ cd_Rests___init__ ct_Rests___init__ : Value}
  {f_Rests_none : Addr} {od_Rests_none an_Rests_none : Option Addr} {sl_Rests_none : Array (Option Value)} {oc_Rests_none kV_Rests_none dc_Rests_none pm_Rests_none cd_Rests_none ct_Rests_none : Value}
  {f_Rests_rest : Addr} {od_Rests_rest an_Rests_rest : Option Addr} {sl_Rests_rest : Array (Option Value)} {oc_Rests_rest kV_Rests_rest dc_Rests_rest pm_Rests_rest cd_Rests_rest ct_Rests_rest : Value}
  {f_Rests_together : Addr} {od_Rests_together an_Rests_together : Option Addr} {sl_Rests_together : Array (Option Value)} {oc_Rests_together kV_Rests_together dc_Rests_together pm_Rests_together cd_Rests_together ct_Rests_together : Value}
  {f_Rests_behind : Addr} {od_Rests_behind an_Rests_behind : Option Addr} {sl_Rests_behind : Array (Option Value)} {oc_Rests_behind kV_Rests_behind dc_Rests_behind pm_Rests_behind cd_Rests_behind ct_Rests_behind : Value}
  {f_Rests_rounds : Addr} {od_Rests_rounds an_Rests_rounds : Option Addr} {sl_Rests_rounds : Array (Option Value)} {oc_Rests_rounds kV_Rests_rounds dc_Rests_rounds pm_Rests_rounds cd_Rests_rounds ct_Rests_rounds : Value}
  {tkWIDEST : Tok}
  (g_SumError : PySem.W.nsIn K mainGlobals "SumError" = some (some (.ref zSumError)))
  (g_NoWorth : PySem.W.nsIn K mainGlobals "NoWorth" = some (some (.ref zNoWorth)))
  (g_NoSum : PySem.W.nsIn K mainGlobals "NoSum" = some (some (.ref zNoSum)))
  (g_Kind : PySem.W.nsIn K mainGlobals "Kind" = some (some (.ref zKind)))
  (g_Fewest : PySem.W.nsIn K mainGlobals "Fewest" = some (some (.ref zFewest)))
  (g_Widest : PySem.W.nsIn K mainGlobals "Widest" = some (some (.ref zWidest)))
  (g_Counted : PySem.W.nsIn K mainGlobals "Counted" = some (some (.ref zCounted)))
  (g_Likeliest : PySem.W.nsIn K mainGlobals "Likeliest" = some (some (.ref zLikeliest)))
  (g_Chances : PySem.W.nsIn K mainGlobals "Chances" = some (some (.ref zChances)))
  (g_Musts : PySem.W.nsIn K mainGlobals "Musts" = some (some (.ref zMusts)))
  (g_Rests : PySem.W.nsIn K mainGlobals "Rests" = some (some (.ref zRests)))
  (a_common : PySem.W.nsIn K mainGlobals "common" = some (some (.ref f_common)))
  (l_common : K.lookup f_common = some ⟨oc_common, od_common, .func (PySem.W.fnOf "common" "common" (defArgs s_common) (defBody s_common) (defScope s_common) .none kV_common dc_common pm_common an_common cd_common ct_common), sl_common⟩)
  (c_common : PySem.W.codeIn K cd_common "common" = true)
  (k_common : PySem.W.keepIn K (.ref f_common) = true)
  (a_lowest : PySem.W.nsIn K mainGlobals "lowest" = some (some (.ref f_lowest)))
  (l_lowest : K.lookup f_lowest = some ⟨oc_lowest, od_lowest, .func (PySem.W.fnOf "lowest" "lowest" (defArgs s_lowest) (defBody s_lowest) (defScope s_lowest) .none kV_lowest dc_lowest pm_lowest an_lowest cd_lowest ct_lowest), sl_lowest⟩)
  (c_lowest : PySem.W.codeIn K cd_lowest "lowest" = true)
  (k_lowest : PySem.W.keepIn K (.ref f_lowest) = true)
  (a_added : PySem.W.nsIn K mainGlobals "added" = some (some (.ref f_added)))
  (l_added : K.lookup f_added = some ⟨oc_added, od_added, .func (PySem.W.fnOf "added" "added" (defArgs s_added) (defBody s_added) (defScope s_added) .none kV_added dc_added pm_added an_added cd_added ct_added), sl_added⟩)
  (c_added : PySem.W.codeIn K cd_added "added" = true)
  (k_added : PySem.W.keepIn K (.ref f_added) = true)
  (a_taken : PySem.W.nsIn K mainGlobals "taken" = some (some (.ref f_taken)))
  (l_taken : K.lookup f_taken = some ⟨oc_taken, od_taken, .func (PySem.W.fnOf "taken" "taken" (defArgs s_taken) (defBody s_taken) (defScope s_taken) .none kV_taken dc_taken pm_taken an_taken cd_taken ct_taken), sl_taken⟩)
  (c_taken : PySem.W.codeIn K cd_taken "taken" = true)
  (k_taken : PySem.W.keepIn K (.ref f_taken) = true)
  (a_less : PySem.W.nsIn K mainGlobals "less" = some (some (.ref f_less)))
  (l_less : K.lookup f_less = some ⟨oc_less, od_less, .func (PySem.W.fnOf "less" "less" (defArgs s_less) (defBody s_less) (defScope s_less) .none kV_less dc_less pm_less an_less cd_less ct_less), sl_less⟩)
  (c_less : PySem.W.codeIn K cd_less "less" = true)
  (k_less : PySem.W.keepIn K (.ref f_less) = true)
  (a__law_cell_at : PySem.W.nsIn K mainGlobals "_law_cell_at" = some (some (.ref f__law_cell_at)))
  (l__law_cell_at : K.lookup f__law_cell_at = some ⟨oc__law_cell_at, od__law_cell_at, .func (PySem.W.fnOf "_law_cell_at" "_law_cell_at" (defArgs s__law_cell_at) (defBody s__law_cell_at) (defScope s__law_cell_at) .none kV__law_cell_at dc__law_cell_at pm__law_cell_at an__law_cell_at cd__law_cell_at ct__law_cell_at), sl__law_cell_at⟩)
  (c__law_cell_at : PySem.W.codeIn K cd__law_cell_at "_law_cell_at" = true)
  (k__law_cell_at : PySem.W.keepIn K (.ref f__law_cell_at) = true)
  (a__law_kind : PySem.W.nsIn K mainGlobals "_law_kind" = some (some (.ref f__law_kind)))
  (l__law_kind : K.lookup f__law_kind = some ⟨oc__law_kind, od__law_kind, .func (PySem.W.fnOf "_law_kind" "_law_kind" (defArgs s__law_kind) (defBody s__law_kind) (defScope s__law_kind) .none kV__law_kind dc__law_kind pm__law_kind an__law_kind cd__law_kind ct__law_kind), sl__law_kind⟩)
  (c__law_kind : PySem.W.codeIn K cd__law_kind "_law_kind" = true)
  (k__law_kind : PySem.W.keepIn K (.ref f__law_kind) = true)
  (a__law_share : PySem.W.nsIn K mainGlobals "_law_share" = some (some (.ref f__law_share)))
  (l__law_share : K.lookup f__law_share = some ⟨oc__law_share, od__law_share, .func (PySem.W.fnOf "_law_share" "_law_share" (defArgs s__law_share) (defBody s__law_share) (defScope s__law_share) .none kV__law_share dc__law_share pm__law_share an__law_share cd__law_share ct__law_share), sl__law_share⟩)
  (c__law_share : PySem.W.codeIn K cd__law_share "_law_share" = true)
  (k__law_share : PySem.W.keepIn K (.ref f__law_share) = true)
  (a__law_none : PySem.W.nsIn K mainGlobals "_law_none" = some (some (.ref f__law_none)))
  (l__law_none : K.lookup f__law_none = some ⟨oc__law_none, od__law_none, .func (PySem.W.fnOf "_law_none" "_law_none" (defArgs s__law_none) (defBody s__law_none) (defScope s__law_none) .none kV__law_none dc__law_none pm__law_none an__law_none cd__law_none ct__law_none), sl__law_none⟩)
  (c__law_none : PySem.W.codeIn K cd__law_none "_law_none" = true)
  (k__law_none : PySem.W.keepIn K (.ref f__law_none) = true)
  (a__law_rest : PySem.W.nsIn K mainGlobals "_law_rest" = some (some (.ref f__law_rest)))
  (l__law_rest : K.lookup f__law_rest = some ⟨oc__law_rest, od__law_rest, .func (PySem.W.fnOf "_law_rest" "_law_rest" (defArgs s__law_rest) (defBody s__law_rest) (defScope s__law_rest) .none kV__law_rest dc__law_rest pm__law_rest an__law_rest cd__law_rest ct__law_rest), sl__law_rest⟩)
  (c__law_rest : PySem.W.codeIn K cd__law_rest "_law_rest" = true)
  (k__law_rest : PySem.W.keepIn K (.ref f__law_rest) = true)
  (a__law_worth : PySem.W.nsIn K mainGlobals "_law_worth" = some (some (.ref f__law_worth)))
  (l__law_worth : K.lookup f__law_worth = some ⟨oc__law_worth, od__law_worth, .func (PySem.W.fnOf "_law_worth" "_law_worth" (defArgs s__law_worth) (defBody s__law_worth) (defScope s__law_worth) .none kV__law_worth dc__law_worth pm__law_worth an__law_worth cd__law_worth ct__law_worth), sl__law_worth⟩)
  (c__law_worth : PySem.W.codeIn K cd__law_worth "_law_worth" = true)
  (k__law_worth : PySem.W.keepIn K (.ref f__law_worth) = true)
  (a__law_rings : PySem.W.nsIn K mainGlobals "_law_rings" = some (some (.ref f__law_rings)))
  (l__law_rings : K.lookup f__law_rings = some ⟨oc__law_rings, od__law_rings, .func (PySem.W.fnOf "_law_rings" "_law_rings" (defArgs s__law_rings) (defBody s__law_rings) (defScope s__law_rings) .none kV__law_rings dc__law_rings pm__law_rings an__law_rings cd__law_rings ct__law_rings), sl__law_rings⟩)
  (c__law_rings : PySem.W.codeIn K cd__law_rings "_law_rings" = true)
  (k__law_rings : PySem.W.keepIn K (.ref f__law_rings) = true)
  (a_law : PySem.W.nsIn K mainGlobals "law" = some (some (.ref f_law)))
  (l_law : K.lookup f_law = some ⟨oc_law, od_law, .func (PySem.W.fnOf "law" "law" (defArgs s_law) (defBody s_law) (defScope s_law) .none kV_law dc_law pm_law an_law cd_law ct_law), sl_law⟩)
  (c_law : PySem.W.codeIn K cd_law "law" = true)
  (k_law : PySem.W.keepIn K (.ref f_law) = true)
  (p1Kind : PySem.W.plainGet K zKind Str.empty = true)
  (p2Kind : PySem.W.hasDictIn K zKind = true)
  (p3Kind : PySem.W.plainOver K zKind = true)
  (p4Kind : PySem.W.findIn K (.ref zKind) "__setattr__" = some (some (.builtin "object.__setattr__")))
  (q1Kind : PySem.W.keepIn K (.ref zKind) = true)
  (q2Kind : PySem.W.makesIn K zKind = true)
  (q3Kind : PySem.W.findIn K (.ref zKind) "__class__" = some (some (.builtin "object.__class__")))
  (q4Kind : PySem.W.mroIn K zKind (.type "object") = some true)
  (q5Kind : PySem.W.findIn K (.ref zKind) "__init__" = some (some (.builtin "object.__init__")))
  (p1Fewest : PySem.W.plainGet K zFewest Str.empty = true)
  (p2Fewest : PySem.W.hasDictIn K zFewest = true)
  (p3Fewest : PySem.W.plainOver K zFewest = true)
  (p4Fewest : PySem.W.findIn K (.ref zFewest) "__setattr__" = some (some (.builtin "object.__setattr__")))
  (q1Fewest : PySem.W.keepIn K (.ref zFewest) = true)
  (q2Fewest : PySem.W.makesIn K zFewest = true)
  (q3Fewest : PySem.W.findIn K (.ref zFewest) "__class__" = some (some (.builtin "object.__class__")))
  (q4Fewest : PySem.W.mroIn K zFewest (.type "object") = some true)
  (q5Fewest : PySem.W.findIn K (.ref zFewest) "__init__" = some (some (.builtin "object.__init__")))
  (p1Widest : PySem.W.plainGet K zWidest Str.empty = true)
  (p2Widest : PySem.W.hasDictIn K zWidest = true)
  (p3Widest : PySem.W.plainOver K zWidest = true)
  (p4Widest : PySem.W.findIn K (.ref zWidest) "__setattr__" = some (some (.builtin "object.__setattr__")))
  (q1Widest : PySem.W.keepIn K (.ref zWidest) = true)
  (q2Widest : PySem.W.makesIn K zWidest = true)
  (q3Widest : PySem.W.findIn K (.ref zWidest) "__class__" = some (some (.builtin "object.__class__")))
  (q4Widest : PySem.W.mroIn K zWidest (.type "object") = some true)
  (q5Widest : PySem.W.findIn K (.ref zWidest) "__init__" = some (some (.builtin "object.__init__")))
  (p1Counted : PySem.W.plainGet K zCounted Str.empty = true)
  (p2Counted : PySem.W.hasDictIn K zCounted = true)
  (p3Counted : PySem.W.plainOver K zCounted = true)
  (p4Counted : PySem.W.findIn K (.ref zCounted) "__setattr__" = some (some (.builtin "object.__setattr__")))
  (q1Counted : PySem.W.keepIn K (.ref zCounted) = true)
  (q2Counted : PySem.W.makesIn K zCounted = true)
  (q3Counted : PySem.W.findIn K (.ref zCounted) "__class__" = some (some (.builtin "object.__class__")))
  (q4Counted : PySem.W.mroIn K zCounted (.type "object") = some true)
  (q5Counted : PySem.W.findIn K (.ref zCounted) "__init__" = some (some (.builtin "object.__init__")))
  (p1Likeliest : PySem.W.plainGet K zLikeliest Str.empty = true)
  (p2Likeliest : PySem.W.hasDictIn K zLikeliest = true)
  (p3Likeliest : PySem.W.plainOver K zLikeliest = true)
  (p4Likeliest : PySem.W.findIn K (.ref zLikeliest) "__setattr__" = some (some (.builtin "object.__setattr__")))
  (q1Likeliest : PySem.W.keepIn K (.ref zLikeliest) = true)
  (q2Likeliest : PySem.W.makesIn K zLikeliest = true)
  (q3Likeliest : PySem.W.findIn K (.ref zLikeliest) "__class__" = some (some (.builtin "object.__class__")))
  (q4Likeliest : PySem.W.mroIn K zLikeliest (.type "object") = some true)
  (q5Likeliest : PySem.W.findIn K (.ref zLikeliest) "__init__" = some (some (.builtin "object.__init__")))
  (p1Chances : PySem.W.plainGet K zChances Str.empty = true)
  (p2Chances : PySem.W.hasDictIn K zChances = true)
  (p3Chances : PySem.W.plainOver K zChances = true)
  (p4Chances : PySem.W.findIn K (.ref zChances) "__setattr__" = some (some (.builtin "object.__setattr__")))
  (q1Chances : PySem.W.keepIn K (.ref zChances) = true)
  (q2Chances : PySem.W.makesIn K zChances = true)
  (q3Chances : PySem.W.findIn K (.ref zChances) "__class__" = some (some (.builtin "object.__class__")))
  (q4Chances : PySem.W.mroIn K zChances (.type "object") = some true)
  (q5Chances : PySem.W.findIn K (.ref zChances) "__init__" = some (some (.builtin "object.__init__")))
  (p1Musts : PySem.W.plainGet K zMusts Str.empty = true)
  (p2Musts : PySem.W.hasDictIn K zMusts = true)
  (p3Musts : PySem.W.plainOver K zMusts = true)
  (p4Musts : PySem.W.findIn K (.ref zMusts) "__setattr__" = some (some (.builtin "object.__setattr__")))
  (q1Musts : PySem.W.keepIn K (.ref zMusts) = true)
  (q2Musts : PySem.W.makesIn K zMusts = true)
  (q3Musts : PySem.W.findIn K (.ref zMusts) "__class__" = some (some (.builtin "object.__class__")))
  (q4Musts : PySem.W.mroIn K zMusts (.type "object") = some true)
  (q5Musts : PySem.W.findIn K (.ref zMusts) "__init__" = some (some (.builtin "object.__init__")))
  (p1Rests : PySem.W.plainGet K zRests Str.empty = true)
  (p2Rests : PySem.W.hasDictIn K zRests = true)
  (p3Rests : PySem.W.plainOver K zRests = true)
  (p4Rests : PySem.W.findIn K (.ref zRests) "__setattr__" = some (some (.builtin "object.__setattr__")))
  (q1Rests : PySem.W.keepIn K (.ref zRests) = true)
  (q2Rests : PySem.W.makesIn K zRests = true)
  (q3Rests : PySem.W.findIn K (.ref zRests) "__class__" = some (some (.builtin "object.__class__")))
  (q4Rests : PySem.W.mroIn K zRests (.type "object") = some true)
  (a_Fewest_none : PySem.W.findIn K (.ref zFewest) "none" = some (some (.ref f_Fewest_none)))
  (i_Fewest_none : PySem.W.isFn K (.ref f_Fewest_none) = true)
  (l_Fewest_none : K.lookup f_Fewest_none = some ⟨oc_Fewest_none, od_Fewest_none, .func (PySem.W.fnOf "none" "Fewest.none" (defArgs s_Fewest_none) (defBody s_Fewest_none) (defScope s_Fewest_none) .none kV_Fewest_none dc_Fewest_none pm_Fewest_none an_Fewest_none cd_Fewest_none ct_Fewest_none), sl_Fewest_none⟩)
  (c_Fewest_none : PySem.W.codeIn K cd_Fewest_none "Fewest.none" = true)
  (k_Fewest_none : PySem.W.keepIn K (.ref f_Fewest_none) = true)
  (a_Fewest_rest : PySem.W.findIn K (.ref zFewest) "rest" = some (some (.ref f_Fewest_rest)))
  (i_Fewest_rest : PySem.W.isFn K (.ref f_Fewest_rest) = true)
  (l_Fewest_rest : K.lookup f_Fewest_rest = some ⟨oc_Fewest_rest, od_Fewest_rest, .func (PySem.W.fnOf "rest" "Fewest.rest" (defArgs s_Fewest_rest) (defBody s_Fewest_rest) (defScope s_Fewest_rest) .none kV_Fewest_rest dc_Fewest_rest pm_Fewest_rest an_Fewest_rest cd_Fewest_rest ct_Fewest_rest), sl_Fewest_rest⟩)
  (c_Fewest_rest : PySem.W.codeIn K cd_Fewest_rest "Fewest.rest" = true)
  (k_Fewest_rest : PySem.W.keepIn K (.ref f_Fewest_rest) = true)
  (a_Fewest_together : PySem.W.findIn K (.ref zFewest) "together" = some (some (.ref f_Fewest_together)))
  (i_Fewest_together : PySem.W.isFn K (.ref f_Fewest_together) = true)
  (l_Fewest_together : K.lookup f_Fewest_together = some ⟨oc_Fewest_together, od_Fewest_together, .func (PySem.W.fnOf "together" "Fewest.together" (defArgs s_Fewest_together) (defBody s_Fewest_together) (defScope s_Fewest_together) .none kV_Fewest_together dc_Fewest_together pm_Fewest_together an_Fewest_together cd_Fewest_together ct_Fewest_together), sl_Fewest_together⟩)
  (c_Fewest_together : PySem.W.codeIn K cd_Fewest_together "Fewest.together" = true)
  (k_Fewest_together : PySem.W.keepIn K (.ref f_Fewest_together) = true)
  (a_Fewest_behind : PySem.W.findIn K (.ref zFewest) "behind" = some (some (.ref f_Fewest_behind)))
  (i_Fewest_behind : PySem.W.isFn K (.ref f_Fewest_behind) = true)
  (l_Fewest_behind : K.lookup f_Fewest_behind = some ⟨oc_Fewest_behind, od_Fewest_behind, .func (PySem.W.fnOf "behind" "Fewest.behind" (defArgs s_Fewest_behind) (defBody s_Fewest_behind) (defScope s_Fewest_behind) .none kV_Fewest_behind dc_Fewest_behind pm_Fewest_behind an_Fewest_behind cd_Fewest_behind ct_Fewest_behind), sl_Fewest_behind⟩)
  (c_Fewest_behind : PySem.W.codeIn K cd_Fewest_behind "Fewest.behind" = true)
  (k_Fewest_behind : PySem.W.keepIn K (.ref f_Fewest_behind) = true)
  (a_Fewest_rounds : PySem.W.findIn K (.ref zFewest) "rounds" = some (some (.ref f_Fewest_rounds)))
  (i_Fewest_rounds : PySem.W.isFn K (.ref f_Fewest_rounds) = true)
  (l_Fewest_rounds : K.lookup f_Fewest_rounds = some ⟨oc_Fewest_rounds, od_Fewest_rounds, .func (PySem.W.fnOf "rounds" "Fewest.rounds" (defArgs s_Fewest_rounds) (defBody s_Fewest_rounds) (defScope s_Fewest_rounds) .none kV_Fewest_rounds dc_Fewest_rounds pm_Fewest_rounds an_Fewest_rounds cd_Fewest_rounds ct_Fewest_rounds), sl_Fewest_rounds⟩)
  (c_Fewest_rounds : PySem.W.codeIn K cd_Fewest_rounds "Fewest.rounds" = true)
  (k_Fewest_rounds : PySem.W.keepIn K (.ref f_Fewest_rounds) = true)
  (a_Widest_none : PySem.W.findIn K (.ref zWidest) "none" = some (some (.ref f_Widest_none)))
  (i_Widest_none : PySem.W.isFn K (.ref f_Widest_none) = true)
  (l_Widest_none : K.lookup f_Widest_none = some ⟨oc_Widest_none, od_Widest_none, .func (PySem.W.fnOf "none" "Widest.none" (defArgs s_Widest_none) (defBody s_Widest_none) (defScope s_Widest_none) .none kV_Widest_none dc_Widest_none pm_Widest_none an_Widest_none cd_Widest_none ct_Widest_none), sl_Widest_none⟩)
  (c_Widest_none : PySem.W.codeIn K cd_Widest_none "Widest.none" = true)
  (k_Widest_none : PySem.W.keepIn K (.ref f_Widest_none) = true)
  (a_Widest_rest : PySem.W.findIn K (.ref zWidest) "rest" = some (some (.ref f_Widest_rest)))
  (i_Widest_rest : PySem.W.isFn K (.ref f_Widest_rest) = true)
  (l_Widest_rest : K.lookup f_Widest_rest = some ⟨oc_Widest_rest, od_Widest_rest, .func (PySem.W.fnOf "rest" "Widest.rest" (defArgs s_Widest_rest) (defBody s_Widest_rest) (defScope s_Widest_rest) .none kV_Widest_rest dc_Widest_rest pm_Widest_rest an_Widest_rest cd_Widest_rest ct_Widest_rest), sl_Widest_rest⟩)
  (c_Widest_rest : PySem.W.codeIn K cd_Widest_rest "Widest.rest" = true)
  (k_Widest_rest : PySem.W.keepIn K (.ref f_Widest_rest) = true)
  (a_Widest_together : PySem.W.findIn K (.ref zWidest) "together" = some (some (.ref f_Widest_together)))
  (i_Widest_together : PySem.W.isFn K (.ref f_Widest_together) = true)
  (l_Widest_together : K.lookup f_Widest_together = some ⟨oc_Widest_together, od_Widest_together, .func (PySem.W.fnOf "together" "Widest.together" (defArgs s_Widest_together) (defBody s_Widest_together) (defScope s_Widest_together) .none kV_Widest_together dc_Widest_together pm_Widest_together an_Widest_together cd_Widest_together ct_Widest_together), sl_Widest_together⟩)
  (c_Widest_together : PySem.W.codeIn K cd_Widest_together "Widest.together" = true)
  (k_Widest_together : PySem.W.keepIn K (.ref f_Widest_together) = true)
  (a_Widest_behind : PySem.W.findIn K (.ref zWidest) "behind" = some (some (.ref f_Widest_behind)))
  (i_Widest_behind : PySem.W.isFn K (.ref f_Widest_behind) = true)
  (l_Widest_behind : K.lookup f_Widest_behind = some ⟨oc_Widest_behind, od_Widest_behind, .func (PySem.W.fnOf "behind" "Widest.behind" (defArgs s_Widest_behind) (defBody s_Widest_behind) (defScope s_Widest_behind) .none kV_Widest_behind dc_Widest_behind pm_Widest_behind an_Widest_behind cd_Widest_behind ct_Widest_behind), sl_Widest_behind⟩)
  (c_Widest_behind : PySem.W.codeIn K cd_Widest_behind "Widest.behind" = true)
  (k_Widest_behind : PySem.W.keepIn K (.ref f_Widest_behind) = true)
  (a_Widest_rounds : PySem.W.findIn K (.ref zWidest) "rounds" = some (some (.ref f_Widest_rounds)))
  (i_Widest_rounds : PySem.W.isFn K (.ref f_Widest_rounds) = true)
  (l_Widest_rounds : K.lookup f_Widest_rounds = some ⟨oc_Widest_rounds, od_Widest_rounds, .func (PySem.W.fnOf "rounds" "Widest.rounds" (defArgs s_Widest_rounds) (defBody s_Widest_rounds) (defScope s_Widest_rounds) .none kV_Widest_rounds dc_Widest_rounds pm_Widest_rounds an_Widest_rounds cd_Widest_rounds ct_Widest_rounds), sl_Widest_rounds⟩)
  (c_Widest_rounds : PySem.W.codeIn K cd_Widest_rounds "Widest.rounds" = true)
  (k_Widest_rounds : PySem.W.keepIn K (.ref f_Widest_rounds) = true)
  (a_Counted_none : PySem.W.findIn K (.ref zCounted) "none" = some (some (.ref f_Counted_none)))
  (i_Counted_none : PySem.W.isFn K (.ref f_Counted_none) = true)
  (l_Counted_none : K.lookup f_Counted_none = some ⟨oc_Counted_none, od_Counted_none, .func (PySem.W.fnOf "none" "Counted.none" (defArgs s_Counted_none) (defBody s_Counted_none) (defScope s_Counted_none) .none kV_Counted_none dc_Counted_none pm_Counted_none an_Counted_none cd_Counted_none ct_Counted_none), sl_Counted_none⟩)
  (c_Counted_none : PySem.W.codeIn K cd_Counted_none "Counted.none" = true)
  (k_Counted_none : PySem.W.keepIn K (.ref f_Counted_none) = true)
  (a_Counted_rest : PySem.W.findIn K (.ref zCounted) "rest" = some (some (.ref f_Counted_rest)))
  (i_Counted_rest : PySem.W.isFn K (.ref f_Counted_rest) = true)
  (l_Counted_rest : K.lookup f_Counted_rest = some ⟨oc_Counted_rest, od_Counted_rest, .func (PySem.W.fnOf "rest" "Counted.rest" (defArgs s_Counted_rest) (defBody s_Counted_rest) (defScope s_Counted_rest) .none kV_Counted_rest dc_Counted_rest pm_Counted_rest an_Counted_rest cd_Counted_rest ct_Counted_rest), sl_Counted_rest⟩)
  (c_Counted_rest : PySem.W.codeIn K cd_Counted_rest "Counted.rest" = true)
  (k_Counted_rest : PySem.W.keepIn K (.ref f_Counted_rest) = true)
  (a_Counted_together : PySem.W.findIn K (.ref zCounted) "together" = some (some (.ref f_Counted_together)))
  (i_Counted_together : PySem.W.isFn K (.ref f_Counted_together) = true)
  (l_Counted_together : K.lookup f_Counted_together = some ⟨oc_Counted_together, od_Counted_together, .func (PySem.W.fnOf "together" "Counted.together" (defArgs s_Counted_together) (defBody s_Counted_together) (defScope s_Counted_together) .none kV_Counted_together dc_Counted_together pm_Counted_together an_Counted_together cd_Counted_together ct_Counted_together), sl_Counted_together⟩)
  (c_Counted_together : PySem.W.codeIn K cd_Counted_together "Counted.together" = true)
  (k_Counted_together : PySem.W.keepIn K (.ref f_Counted_together) = true)
  (a_Counted_behind : PySem.W.findIn K (.ref zCounted) "behind" = some (some (.ref f_Counted_behind)))
  (i_Counted_behind : PySem.W.isFn K (.ref f_Counted_behind) = true)
  (l_Counted_behind : K.lookup f_Counted_behind = some ⟨oc_Counted_behind, od_Counted_behind, .func (PySem.W.fnOf "behind" "Counted.behind" (defArgs s_Counted_behind) (defBody s_Counted_behind) (defScope s_Counted_behind) .none kV_Counted_behind dc_Counted_behind pm_Counted_behind an_Counted_behind cd_Counted_behind ct_Counted_behind), sl_Counted_behind⟩)
  (c_Counted_behind : PySem.W.codeIn K cd_Counted_behind "Counted.behind" = true)
  (k_Counted_behind : PySem.W.keepIn K (.ref f_Counted_behind) = true)
  (a_Counted_rounds : PySem.W.findIn K (.ref zCounted) "rounds" = some (some (.ref f_Counted_rounds)))
  (i_Counted_rounds : PySem.W.isFn K (.ref f_Counted_rounds) = true)
  (l_Counted_rounds : K.lookup f_Counted_rounds = some ⟨oc_Counted_rounds, od_Counted_rounds, .func (PySem.W.fnOf "rounds" "Counted.rounds" (defArgs s_Counted_rounds) (defBody s_Counted_rounds) (defScope s_Counted_rounds) .none kV_Counted_rounds dc_Counted_rounds pm_Counted_rounds an_Counted_rounds cd_Counted_rounds ct_Counted_rounds), sl_Counted_rounds⟩)
  (c_Counted_rounds : PySem.W.codeIn K cd_Counted_rounds "Counted.rounds" = true)
  (k_Counted_rounds : PySem.W.keepIn K (.ref f_Counted_rounds) = true)
  (a_Likeliest_none : PySem.W.findIn K (.ref zLikeliest) "none" = some (some (.ref f_Likeliest_none)))
  (i_Likeliest_none : PySem.W.isFn K (.ref f_Likeliest_none) = true)
  (l_Likeliest_none : K.lookup f_Likeliest_none = some ⟨oc_Likeliest_none, od_Likeliest_none, .func (PySem.W.fnOf "none" "Likeliest.none" (defArgs s_Likeliest_none) (defBody s_Likeliest_none) (defScope s_Likeliest_none) .none kV_Likeliest_none dc_Likeliest_none pm_Likeliest_none an_Likeliest_none cd_Likeliest_none ct_Likeliest_none), sl_Likeliest_none⟩)
  (c_Likeliest_none : PySem.W.codeIn K cd_Likeliest_none "Likeliest.none" = true)
  (k_Likeliest_none : PySem.W.keepIn K (.ref f_Likeliest_none) = true)
  (a_Likeliest_rest : PySem.W.findIn K (.ref zLikeliest) "rest" = some (some (.ref f_Likeliest_rest)))
  (i_Likeliest_rest : PySem.W.isFn K (.ref f_Likeliest_rest) = true)
  (l_Likeliest_rest : K.lookup f_Likeliest_rest = some ⟨oc_Likeliest_rest, od_Likeliest_rest, .func (PySem.W.fnOf "rest" "Likeliest.rest" (defArgs s_Likeliest_rest) (defBody s_Likeliest_rest) (defScope s_Likeliest_rest) .none kV_Likeliest_rest dc_Likeliest_rest pm_Likeliest_rest an_Likeliest_rest cd_Likeliest_rest ct_Likeliest_rest), sl_Likeliest_rest⟩)
  (c_Likeliest_rest : PySem.W.codeIn K cd_Likeliest_rest "Likeliest.rest" = true)
  (k_Likeliest_rest : PySem.W.keepIn K (.ref f_Likeliest_rest) = true)
  (a_Likeliest_together : PySem.W.findIn K (.ref zLikeliest) "together" = some (some (.ref f_Likeliest_together)))
  (i_Likeliest_together : PySem.W.isFn K (.ref f_Likeliest_together) = true)
  (l_Likeliest_together : K.lookup f_Likeliest_together = some ⟨oc_Likeliest_together, od_Likeliest_together, .func (PySem.W.fnOf "together" "Likeliest.together" (defArgs s_Likeliest_together) (defBody s_Likeliest_together) (defScope s_Likeliest_together) .none kV_Likeliest_together dc_Likeliest_together pm_Likeliest_together an_Likeliest_together cd_Likeliest_together ct_Likeliest_together), sl_Likeliest_together⟩)
  (c_Likeliest_together : PySem.W.codeIn K cd_Likeliest_together "Likeliest.together" = true)
  (k_Likeliest_together : PySem.W.keepIn K (.ref f_Likeliest_together) = true)
  (a_Likeliest_behind : PySem.W.findIn K (.ref zLikeliest) "behind" = some (some (.ref f_Likeliest_behind)))
  (i_Likeliest_behind : PySem.W.isFn K (.ref f_Likeliest_behind) = true)
  (l_Likeliest_behind : K.lookup f_Likeliest_behind = some ⟨oc_Likeliest_behind, od_Likeliest_behind, .func (PySem.W.fnOf "behind" "Likeliest.behind" (defArgs s_Likeliest_behind) (defBody s_Likeliest_behind) (defScope s_Likeliest_behind) .none kV_Likeliest_behind dc_Likeliest_behind pm_Likeliest_behind an_Likeliest_behind cd_Likeliest_behind ct_Likeliest_behind), sl_Likeliest_behind⟩)
  (c_Likeliest_behind : PySem.W.codeIn K cd_Likeliest_behind "Likeliest.behind" = true)
  (k_Likeliest_behind : PySem.W.keepIn K (.ref f_Likeliest_behind) = true)
  (a_Likeliest_rounds : PySem.W.findIn K (.ref zLikeliest) "rounds" = some (some (.ref f_Likeliest_rounds)))
  (i_Likeliest_rounds : PySem.W.isFn K (.ref f_Likeliest_rounds) = true)
  (l_Likeliest_rounds : K.lookup f_Likeliest_rounds = some ⟨oc_Likeliest_rounds, od_Likeliest_rounds, .func (PySem.W.fnOf "rounds" "Likeliest.rounds" (defArgs s_Likeliest_rounds) (defBody s_Likeliest_rounds) (defScope s_Likeliest_rounds) .none kV_Likeliest_rounds dc_Likeliest_rounds pm_Likeliest_rounds an_Likeliest_rounds cd_Likeliest_rounds ct_Likeliest_rounds), sl_Likeliest_rounds⟩)
  (c_Likeliest_rounds : PySem.W.codeIn K cd_Likeliest_rounds "Likeliest.rounds" = true)
  (k_Likeliest_rounds : PySem.W.keepIn K (.ref f_Likeliest_rounds) = true)
  (a_Chances_none : PySem.W.findIn K (.ref zChances) "none" = some (some (.ref f_Chances_none)))
  (i_Chances_none : PySem.W.isFn K (.ref f_Chances_none) = true)
  (l_Chances_none : K.lookup f_Chances_none = some ⟨oc_Chances_none, od_Chances_none, .func (PySem.W.fnOf "none" "Chances.none" (defArgs s_Chances_none) (defBody s_Chances_none) (defScope s_Chances_none) .none kV_Chances_none dc_Chances_none pm_Chances_none an_Chances_none cd_Chances_none ct_Chances_none), sl_Chances_none⟩)
  (c_Chances_none : PySem.W.codeIn K cd_Chances_none "Chances.none" = true)
  (k_Chances_none : PySem.W.keepIn K (.ref f_Chances_none) = true)
  (a_Chances_rest : PySem.W.findIn K (.ref zChances) "rest" = some (some (.ref f_Chances_rest)))
  (i_Chances_rest : PySem.W.isFn K (.ref f_Chances_rest) = true)
  (l_Chances_rest : K.lookup f_Chances_rest = some ⟨oc_Chances_rest, od_Chances_rest, .func (PySem.W.fnOf "rest" "Chances.rest" (defArgs s_Chances_rest) (defBody s_Chances_rest) (defScope s_Chances_rest) .none kV_Chances_rest dc_Chances_rest pm_Chances_rest an_Chances_rest cd_Chances_rest ct_Chances_rest), sl_Chances_rest⟩)
  (c_Chances_rest : PySem.W.codeIn K cd_Chances_rest "Chances.rest" = true)
  (k_Chances_rest : PySem.W.keepIn K (.ref f_Chances_rest) = true)
  (a_Chances_together : PySem.W.findIn K (.ref zChances) "together" = some (some (.ref f_Chances_together)))
  (i_Chances_together : PySem.W.isFn K (.ref f_Chances_together) = true)
  (l_Chances_together : K.lookup f_Chances_together = some ⟨oc_Chances_together, od_Chances_together, .func (PySem.W.fnOf "together" "Chances.together" (defArgs s_Chances_together) (defBody s_Chances_together) (defScope s_Chances_together) .none kV_Chances_together dc_Chances_together pm_Chances_together an_Chances_together cd_Chances_together ct_Chances_together), sl_Chances_together⟩)
  (c_Chances_together : PySem.W.codeIn K cd_Chances_together "Chances.together" = true)
  (k_Chances_together : PySem.W.keepIn K (.ref f_Chances_together) = true)
  (a_Chances_behind : PySem.W.findIn K (.ref zChances) "behind" = some (some (.ref f_Chances_behind)))
  (i_Chances_behind : PySem.W.isFn K (.ref f_Chances_behind) = true)
  (l_Chances_behind : K.lookup f_Chances_behind = some ⟨oc_Chances_behind, od_Chances_behind, .func (PySem.W.fnOf "behind" "Chances.behind" (defArgs s_Chances_behind) (defBody s_Chances_behind) (defScope s_Chances_behind) .none kV_Chances_behind dc_Chances_behind pm_Chances_behind an_Chances_behind cd_Chances_behind ct_Chances_behind), sl_Chances_behind⟩)
  (c_Chances_behind : PySem.W.codeIn K cd_Chances_behind "Chances.behind" = true)
  (k_Chances_behind : PySem.W.keepIn K (.ref f_Chances_behind) = true)
  (a_Chances_rounds : PySem.W.findIn K (.ref zChances) "rounds" = some (some (.ref f_Chances_rounds)))
  (i_Chances_rounds : PySem.W.isFn K (.ref f_Chances_rounds) = true)
  (l_Chances_rounds : K.lookup f_Chances_rounds = some ⟨oc_Chances_rounds, od_Chances_rounds, .func (PySem.W.fnOf "rounds" "Chances.rounds" (defArgs s_Chances_rounds) (defBody s_Chances_rounds) (defScope s_Chances_rounds) .none kV_Chances_rounds dc_Chances_rounds pm_Chances_rounds an_Chances_rounds cd_Chances_rounds ct_Chances_rounds), sl_Chances_rounds⟩)
  (c_Chances_rounds : PySem.W.codeIn K cd_Chances_rounds "Chances.rounds" = true)
  (k_Chances_rounds : PySem.W.keepIn K (.ref f_Chances_rounds) = true)
  (a_Musts_none : PySem.W.findIn K (.ref zMusts) "none" = some (some (.ref f_Musts_none)))
  (i_Musts_none : PySem.W.isFn K (.ref f_Musts_none) = true)
  (l_Musts_none : K.lookup f_Musts_none = some ⟨oc_Musts_none, od_Musts_none, .func (PySem.W.fnOf "none" "Musts.none" (defArgs s_Musts_none) (defBody s_Musts_none) (defScope s_Musts_none) .none kV_Musts_none dc_Musts_none pm_Musts_none an_Musts_none cd_Musts_none ct_Musts_none), sl_Musts_none⟩)
  (c_Musts_none : PySem.W.codeIn K cd_Musts_none "Musts.none" = true)
  (k_Musts_none : PySem.W.keepIn K (.ref f_Musts_none) = true)
  (a_Musts_rest : PySem.W.findIn K (.ref zMusts) "rest" = some (some (.ref f_Musts_rest)))
  (i_Musts_rest : PySem.W.isFn K (.ref f_Musts_rest) = true)
  (l_Musts_rest : K.lookup f_Musts_rest = some ⟨oc_Musts_rest, od_Musts_rest, .func (PySem.W.fnOf "rest" "Musts.rest" (defArgs s_Musts_rest) (defBody s_Musts_rest) (defScope s_Musts_rest) .none kV_Musts_rest dc_Musts_rest pm_Musts_rest an_Musts_rest cd_Musts_rest ct_Musts_rest), sl_Musts_rest⟩)
  (c_Musts_rest : PySem.W.codeIn K cd_Musts_rest "Musts.rest" = true)
  (k_Musts_rest : PySem.W.keepIn K (.ref f_Musts_rest) = true)
  (a_Musts_together : PySem.W.findIn K (.ref zMusts) "together" = some (some (.ref f_Musts_together)))
  (i_Musts_together : PySem.W.isFn K (.ref f_Musts_together) = true)
  (l_Musts_together : K.lookup f_Musts_together = some ⟨oc_Musts_together, od_Musts_together, .func (PySem.W.fnOf "together" "Musts.together" (defArgs s_Musts_together) (defBody s_Musts_together) (defScope s_Musts_together) .none kV_Musts_together dc_Musts_together pm_Musts_together an_Musts_together cd_Musts_together ct_Musts_together), sl_Musts_together⟩)
  (c_Musts_together : PySem.W.codeIn K cd_Musts_together "Musts.together" = true)
  (k_Musts_together : PySem.W.keepIn K (.ref f_Musts_together) = true)
  (a_Musts_behind : PySem.W.findIn K (.ref zMusts) "behind" = some (some (.ref f_Musts_behind)))
  (i_Musts_behind : PySem.W.isFn K (.ref f_Musts_behind) = true)
  (l_Musts_behind : K.lookup f_Musts_behind = some ⟨oc_Musts_behind, od_Musts_behind, .func (PySem.W.fnOf "behind" "Musts.behind" (defArgs s_Musts_behind) (defBody s_Musts_behind) (defScope s_Musts_behind) .none kV_Musts_behind dc_Musts_behind pm_Musts_behind an_Musts_behind cd_Musts_behind ct_Musts_behind), sl_Musts_behind⟩)
  (c_Musts_behind : PySem.W.codeIn K cd_Musts_behind "Musts.behind" = true)
  (k_Musts_behind : PySem.W.keepIn K (.ref f_Musts_behind) = true)
  (a_Musts_rounds : PySem.W.findIn K (.ref zMusts) "rounds" = some (some (.ref f_Musts_rounds)))
  (i_Musts_rounds : PySem.W.isFn K (.ref f_Musts_rounds) = true)
  (l_Musts_rounds : K.lookup f_Musts_rounds = some ⟨oc_Musts_rounds, od_Musts_rounds, .func (PySem.W.fnOf "rounds" "Musts.rounds" (defArgs s_Musts_rounds) (defBody s_Musts_rounds) (defScope s_Musts_rounds) .none kV_Musts_rounds dc_Musts_rounds pm_Musts_rounds an_Musts_rounds cd_Musts_rounds ct_Musts_rounds), sl_Musts_rounds⟩)
  (c_Musts_rounds : PySem.W.codeIn K cd_Musts_rounds "Musts.rounds" = true)
  (k_Musts_rounds : PySem.W.keepIn K (.ref f_Musts_rounds) = true)
  (a_Rests___init__ : PySem.W.findIn K (.ref zRests) "__init__" = some (some (.ref f_Rests___init__)))
  (i_Rests___init__ : PySem.W.isFn K (.ref f_Rests___init__) = true)
  (l_Rests___init__ : K.lookup f_Rests___init__ = some ⟨oc_Rests___init__, od_Rests___init__, .func (PySem.W.fnOf "__init__" "Rests.__init__" (defArgs s_Rests___init__) (defBody s_Rests___init__) (defScope s_Rests___init__) .none kV_Rests___init__ dc_Rests___init__ pm_Rests___init__ an_Rests___init__ cd_Rests___init__ ct_Rests___init__), sl_Rests___init__⟩)
  (c_Rests___init__ : PySem.W.codeIn K cd_Rests___init__ "Rests.__init__" = true)
  (k_Rests___init__ : PySem.W.keepIn K (.ref f_Rests___init__) = true)
  (a_Rests_none : PySem.W.findIn K (.ref zRests) "none" = some (some (.ref f_Rests_none)))
  (i_Rests_none : PySem.W.isFn K (.ref f_Rests_none) = true)
  (l_Rests_none : K.lookup f_Rests_none = some ⟨oc_Rests_none, od_Rests_none, .func (PySem.W.fnOf "none" "Rests.none" (defArgs s_Rests_none) (defBody s_Rests_none) (defScope s_Rests_none) .none kV_Rests_none dc_Rests_none pm_Rests_none an_Rests_none cd_Rests_none ct_Rests_none), sl_Rests_none⟩)
  (c_Rests_none : PySem.W.codeIn K cd_Rests_none "Rests.none" = true)
  (k_Rests_none : PySem.W.keepIn K (.ref f_Rests_none) = true)
  (a_Rests_rest : PySem.W.findIn K (.ref zRests) "rest" = some (some (.ref f_Rests_rest)))
  (i_Rests_rest : PySem.W.isFn K (.ref f_Rests_rest) = true)
  (l_Rests_rest : K.lookup f_Rests_rest = some ⟨oc_Rests_rest, od_Rests_rest, .func (PySem.W.fnOf "rest" "Rests.rest" (defArgs s_Rests_rest) (defBody s_Rests_rest) (defScope s_Rests_rest) .none kV_Rests_rest dc_Rests_rest pm_Rests_rest an_Rests_rest cd_Rests_rest ct_Rests_rest), sl_Rests_rest⟩)
  (c_Rests_rest : PySem.W.codeIn K cd_Rests_rest "Rests.rest" = true)
  (k_Rests_rest : PySem.W.keepIn K (.ref f_Rests_rest) = true)
  (a_Rests_together : PySem.W.findIn K (.ref zRests) "together" = some (some (.ref f_Rests_together)))
  (i_Rests_together : PySem.W.isFn K (.ref f_Rests_together) = true)
  (l_Rests_together : K.lookup f_Rests_together = some ⟨oc_Rests_together, od_Rests_together, .func (PySem.W.fnOf "together" "Rests.together" (defArgs s_Rests_together) (defBody s_Rests_together) (defScope s_Rests_together) .none kV_Rests_together dc_Rests_together pm_Rests_together an_Rests_together cd_Rests_together ct_Rests_together), sl_Rests_together⟩)
  (c_Rests_together : PySem.W.codeIn K cd_Rests_together "Rests.together" = true)
  (k_Rests_together : PySem.W.keepIn K (.ref f_Rests_together) = true)
  (a_Rests_behind : PySem.W.findIn K (.ref zRests) "behind" = some (some (.ref f_Rests_behind)))
  (i_Rests_behind : PySem.W.isFn K (.ref f_Rests_behind) = true)
  (l_Rests_behind : K.lookup f_Rests_behind = some ⟨oc_Rests_behind, od_Rests_behind, .func (PySem.W.fnOf "behind" "Rests.behind" (defArgs s_Rests_behind) (defBody s_Rests_behind) (defScope s_Rests_behind) .none kV_Rests_behind dc_Rests_behind pm_Rests_behind an_Rests_behind cd_Rests_behind ct_Rests_behind), sl_Rests_behind⟩)
  (c_Rests_behind : PySem.W.codeIn K cd_Rests_behind "Rests.behind" = true)
  (k_Rests_behind : PySem.W.keepIn K (.ref f_Rests_behind) = true)
  (a_Rests_rounds : PySem.W.findIn K (.ref zRests) "rounds" = some (some (.ref f_Rests_rounds)))
  (i_Rests_rounds : PySem.W.isFn K (.ref f_Rests_rounds) = true)
  (l_Rests_rounds : K.lookup f_Rests_rounds = some ⟨oc_Rests_rounds, od_Rests_rounds, .func (PySem.W.fnOf "rounds" "Rests.rounds" (defArgs s_Rests_rounds) (defBody s_Rests_rounds) (defScope s_Rests_rounds) .none kV_Rests_rounds dc_Rests_rounds pm_Rests_rounds an_Rests_rounds cd_Rests_rounds ct_Rests_rounds), sl_Rests_rounds⟩)
  (c_Rests_rounds : PySem.W.codeIn K cd_Rests_rounds "Rests.rounds" = true)
  (k_Rests_rounds : PySem.W.keepIn K (.ref f_Rests_rounds) = true)
  (e0SumError : PySem.W.keepIn K (.ref zSumError) = true)
  (e1SumError : PySem.W.excIn K zSumError [.type "ValueError", .type "Exception", .type "BaseException", .type "object"] "ValueError.__new__" = true)
  (e2SumError : PySem.W.subIn K (.ref zSumError) (.type "BaseException") = some true)
  (e3SumError : PySem.W.typeIn K (.ref zSumError) = some (.type "type"))
  (e4SumError : PySem.W.isClsIn K zSumError = true)
  (e5SumError : PySem.W.findIn K (.ref zSumError) "__getattribute__" = some (some (.builtin "BaseException.__getattribute__")))
  (e6SumError : PySem.W.findIn K (.ref zSumError) "__getattr__" = some none)
  (e7SumError : PySem.W.hasDictIn K zSumError = true)
  (e8SumError : PySem.W.findIn K (.ref zSumError) "__class__" = some (some (.builtin "object.__class__")))
  (e9SumError : PySem.W.mroIn K zSumError (.type "object") = some true)
  (e0NoWorth : PySem.W.keepIn K (.ref zNoWorth) = true)
  (e1NoWorth : PySem.W.excIn K zNoWorth [.type "ValueError", .type "Exception", .type "BaseException", .type "object"] "ValueError.__new__" = true)
  (e2NoWorth : PySem.W.subIn K (.ref zNoWorth) (.type "BaseException") = some true)
  (e3NoWorth : PySem.W.typeIn K (.ref zNoWorth) = some (.type "type"))
  (e4NoWorth : PySem.W.isClsIn K zNoWorth = true)
  (e5NoWorth : PySem.W.findIn K (.ref zNoWorth) "__getattribute__" = some (some (.builtin "BaseException.__getattribute__")))
  (e6NoWorth : PySem.W.findIn K (.ref zNoWorth) "__getattr__" = some none)
  (e7NoWorth : PySem.W.hasDictIn K zNoWorth = true)
  (e8NoWorth : PySem.W.findIn K (.ref zNoWorth) "__class__" = some (some (.builtin "object.__class__")))
  (e9NoWorth : PySem.W.mroIn K zNoWorth (.type "object") = some true)
  (e0NoSum : PySem.W.keepIn K (.ref zNoSum) = true)
  (e1NoSum : PySem.W.excIn K zNoSum [.type "ValueError", .type "Exception", .type "BaseException", .type "object"] "ValueError.__new__" = true)
  (e2NoSum : PySem.W.subIn K (.ref zNoSum) (.type "BaseException") = some true)
  (e3NoSum : PySem.W.typeIn K (.ref zNoSum) = some (.type "type"))
  (e4NoSum : PySem.W.isClsIn K zNoSum = true)
  (e5NoSum : PySem.W.findIn K (.ref zNoSum) "__getattribute__" = some (some (.builtin "BaseException.__getattribute__")))
  (e6NoSum : PySem.W.findIn K (.ref zNoSum) "__getattr__" = some none)
  (e7NoSum : PySem.W.hasDictIn K zNoSum = true)
  (e8NoSum : PySem.W.findIn K (.ref zNoSum) "__class__" = some (some (.builtin "object.__class__")))
  (e9NoSum : PySem.W.mroIn K zNoSum (.type "object") = some true)
  (r1Chances : PySem.W.isClsIn K zChances = true)
  (r2Chances : PySem.W.typeIn K (.ref zChances) = some (.type "type"))
  (s_Fewest_Chances : PySem.W.subIn K (.ref zFewest) (.ref zChances) = some false)
  (ne_Fewest_Chances : zFewest ≠ zChances)
  (s_Widest_Chances : PySem.W.subIn K (.ref zWidest) (.ref zChances) = some false)
  (ne_Widest_Chances : zWidest ≠ zChances)
  (s_Counted_Chances : PySem.W.subIn K (.ref zCounted) (.ref zChances) = some false)
  (ne_Counted_Chances : zCounted ≠ zChances)
  (s_Likeliest_Chances : PySem.W.subIn K (.ref zLikeliest) (.ref zChances) = some false)
  (ne_Likeliest_Chances : zLikeliest ≠ zChances)
  (s_Chances_Chances : PySem.W.subIn K (.ref zChances) (.ref zChances) = some true)
  (s_Musts_Chances : PySem.W.subIn K (.ref zMusts) (.ref zChances) = some false)
  (ne_Musts_Chances : zMusts ≠ zChances)
  (s_Rests_Chances : PySem.W.subIn K (.ref zRests) (.ref zChances) = some false)
  (ne_Rests_Chances : zRests ≠ zChances)
  (s_SumError_NoSum : PySem.W.subIn K (.ref zSumError) (.ref zNoSum) = some false)
  (ne_SumError_NoSum : zSumError ≠ zNoSum)
  (s_NoWorth_NoSum : PySem.W.subIn K (.ref zNoWorth) (.ref zNoSum) = some false)
  (ne_NoWorth_NoSum : zNoWorth ≠ zNoSum)
  (s_NoSum_NoSum : PySem.W.subIn K (.ref zNoSum) (.ref zNoSum) = some true)
  (at_Rests_m : PySem.W.findIn K (.ref zRests) "m" = some none)
  (n_len : PySem.W.nsIn K mainGlobals "len" = some none)
  (n_range : PySem.W.nsIn K mainGlobals "range" = some none)
  (n_isinstance : PySem.W.nsIn K mainGlobals "isinstance" = some none)
  (n_min : PySem.W.nsIn K mainGlobals "min" = some none)
  (n_max : PySem.W.nsIn K mainGlobals "max" = some none)
  (n_ValueError : PySem.W.nsIn K mainGlobals "ValueError" = some none)
  (n_WIDEST : PySem.W.nsIn K mainGlobals "WIDEST" = some (some (.int 1000000000 tkWIDEST)))
  (hn : PySem.W.specialIn K (.builtin "object.__class__") "__get__" = some (some (.builtin "getset_descriptor.__get__")))
  (ht : PySem.W.takesIn K (.builtin "object.__class__") = some true)
  : ∃ fd : FuncData, (∀ (s : Shared) (v : Value), BindsTo s fd ⟨[v], []⟩ [("script", v)]) ∧ ∀ base : Heap, K.In base → base.Ns mainGlobals mg → FnOk l.prog w K mg base CX0 20 fa fd ["script"] (spLaw K) := by
  have e := hfa.symm.trans (PySem.W.mg_of X G a_law)
  cases e
  have TT : Tx K mg ⟨zSumError, zNoWorth, zNoSum, zKind, zFewest, zWidest, zCounted, zLikeliest, zChances, zMusts, zRests⟩ := by
    constructor
    · exact ⟨_, _, ⟨PySem.W.mg_of X G a_common, fun_mk l_common c_common k_common, (Fun.binds (fun_mk l_common c_common k_common) (ps := ["one", "other"]) fun _ _ _ _ _ _ us hl => match us, hl with | [_, _], _ => rfl)⟩⟩
    · exact ⟨_, _, ⟨PySem.W.mg_of X G a_lowest, fun_mk l_lowest c_lowest k_lowest, (Fun.binds (fun_mk l_lowest c_lowest k_lowest) (ps := ["top", "below"]) fun _ _ _ _ _ _ us hl => match us, hl with | [_, _], _ => rfl)⟩⟩
    · exact ⟨_, _, ⟨PySem.W.mg_of X G a_added, fun_mk l_added c_added k_added, (Fun.binds (fun_mk l_added c_added k_added) (ps := ["one", "other"]) fun _ _ _ _ _ _ us hl => match us, hl with | [_, _], _ => rfl)⟩⟩
    · exact ⟨_, _, ⟨PySem.W.mg_of X G a_taken, fun_mk l_taken c_taken k_taken, (Fun.binds (fun_mk l_taken c_taken k_taken) (ps := ["one", "other"]) fun _ _ _ _ _ _ us hl => match us, hl with | [_, _], _ => rfl)⟩⟩
    · exact ⟨_, _, ⟨PySem.W.mg_of X G a_less, fun_mk l_less c_less k_less, (Fun.binds (fun_mk l_less c_less k_less) (ps := ["one", "other"]) fun _ _ _ _ _ _ us hl => match us, hl with | [_, _], _ => rfl)⟩⟩
    · exact ⟨_, _, ⟨PySem.W.mg_of X G a__law_cell_at, fun_mk l__law_cell_at c__law_cell_at k__law_cell_at, (Fun.binds (fun_mk l__law_cell_at c__law_cell_at k__law_cell_at) (ps := ["script", "k"]) fun _ _ _ _ _ _ us hl => match us, hl with | [_, _], _ => rfl)⟩⟩
    · exact ⟨_, _, ⟨PySem.W.mg_of X G a__law_kind, fun_mk l__law_kind c__law_kind k__law_kind, (Fun.binds (fun_mk l__law_kind c__law_kind k__law_kind) (ps := ["which", "m"]) fun _ _ _ _ _ _ us hl => match us, hl with | [_, _], _ => rfl)⟩⟩
    · exact ⟨_, _, ⟨PySem.W.mg_of X G a__law_share, fun_mk l__law_share c__law_share k__law_share, (Fun.binds (fun_mk l__law_share c__law_share k__law_share) (ps := ["top", "below"]) fun _ _ _ _ _ _ us hl => match us, hl with | [_, _], _ => rfl)⟩⟩
    · exact ⟨_, _, ⟨PySem.W.mg_of X G a__law_none, fun_mk l__law_none c__law_none k__law_none, (Fun.binds (fun_mk l__law_none c__law_none k__law_none) (ps := ["which"]) fun _ _ _ _ _ _ us hl => match us, hl with | [_], _ => rfl)⟩⟩
    · exact ⟨_, _, ⟨PySem.W.mg_of X G a__law_rest, fun_mk l__law_rest c__law_rest k__law_rest, (Fun.binds (fun_mk l__law_rest c__law_rest k__law_rest) (ps := ["which"]) fun _ _ _ _ _ _ us hl => match us, hl with | [_], _ => rfl)⟩⟩
    · exact ⟨_, _, ⟨PySem.W.mg_of X G a__law_worth, fun_mk l__law_worth c__law_worth k__law_worth, (Fun.binds (fun_mk l__law_worth c__law_worth k__law_worth) (ps := ["which", "m", "cell"]) fun _ _ _ _ _ _ us hl => match us, hl with | [_, _, _], _ => rfl)⟩⟩
    · exact ⟨_, _, ⟨PySem.W.mg_of X G a__law_rings, fun_mk l__law_rings c__law_rings k__law_rings, (Fun.binds (fun_mk l__law_rings c__law_rings k__law_rings) (ps := ["kind", "one", "other"]) fun _ _ _ _ _ _ us hl => match us, hl with | [_, _, _], _ => rfl)⟩⟩
    · exact ⟨PySem.W.mg_of X G g_Kind, ⟨p1Kind, p2Kind, p3Kind, p4Kind⟩, q1Kind, q2Kind, q3Kind, q4Kind⟩
    · exact ⟨q5Kind⟩
    · exact ⟨PySem.W.mg_of X G g_Fewest, ⟨p1Fewest, p2Fewest, p3Fewest, p4Fewest⟩, q1Fewest, q2Fewest, q3Fewest, q4Fewest⟩
    · exact ⟨q5Fewest⟩
    · exact ⟨PySem.W.mg_of X G g_Widest, ⟨p1Widest, p2Widest, p3Widest, p4Widest⟩, q1Widest, q2Widest, q3Widest, q4Widest⟩
    · exact ⟨q5Widest⟩
    · exact ⟨PySem.W.mg_of X G g_Counted, ⟨p1Counted, p2Counted, p3Counted, p4Counted⟩, q1Counted, q2Counted, q3Counted, q4Counted⟩
    · exact ⟨q5Counted⟩
    · exact ⟨PySem.W.mg_of X G g_Likeliest, ⟨p1Likeliest, p2Likeliest, p3Likeliest, p4Likeliest⟩, q1Likeliest, q2Likeliest, q3Likeliest, q4Likeliest⟩
    · exact ⟨q5Likeliest⟩
    · exact ⟨PySem.W.mg_of X G g_Chances, ⟨p1Chances, p2Chances, p3Chances, p4Chances⟩, q1Chances, q2Chances, q3Chances, q4Chances⟩
    · exact ⟨q5Chances⟩
    · exact ⟨PySem.W.mg_of X G g_Musts, ⟨p1Musts, p2Musts, p3Musts, p4Musts⟩, q1Musts, q2Musts, q3Musts, q4Musts⟩
    · exact ⟨q5Musts⟩
    · exact ⟨PySem.W.mg_of X G g_Rests, ⟨p1Rests, p2Rests, p3Rests, p4Rests⟩, q1Rests, q2Rests, q3Rests, q4Rests⟩
    · exact ⟨_, _, ⟨⟨a_Fewest_none, i_Fewest_none, k_Fewest_none⟩, fun_mk l_Fewest_none c_Fewest_none k_Fewest_none, (Fun.binds (fun_mk l_Fewest_none c_Fewest_none k_Fewest_none) (ps := ["self"]) fun _ _ _ _ _ _ us hl => match us, hl with | [_], _ => rfl)⟩⟩
    · exact ⟨_, _, ⟨⟨a_Fewest_rest, i_Fewest_rest, k_Fewest_rest⟩, fun_mk l_Fewest_rest c_Fewest_rest k_Fewest_rest, (Fun.binds (fun_mk l_Fewest_rest c_Fewest_rest k_Fewest_rest) (ps := ["self"]) fun _ _ _ _ _ _ us hl => match us, hl with | [_], _ => rfl)⟩⟩
    · exact ⟨_, _, ⟨⟨a_Fewest_together, i_Fewest_together, k_Fewest_together⟩, fun_mk l_Fewest_together c_Fewest_together k_Fewest_together, (Fun.binds (fun_mk l_Fewest_together c_Fewest_together k_Fewest_together) (ps := ["self", "one", "other"]) fun _ _ _ _ _ _ us hl => match us, hl with | [_, _, _], _ => rfl)⟩⟩
    · exact ⟨_, _, ⟨⟨a_Fewest_behind, i_Fewest_behind, k_Fewest_behind⟩, fun_mk l_Fewest_behind c_Fewest_behind k_Fewest_behind, (Fun.binds (fun_mk l_Fewest_behind c_Fewest_behind k_Fewest_behind) (ps := ["self", "one", "other"]) fun _ _ _ _ _ _ us hl => match us, hl with | [_, _, _], _ => rfl)⟩⟩
    · exact ⟨_, _, ⟨⟨a_Fewest_rounds, i_Fewest_rounds, k_Fewest_rounds⟩, fun_mk l_Fewest_rounds c_Fewest_rounds k_Fewest_rounds, (Fun.binds (fun_mk l_Fewest_rounds c_Fewest_rounds k_Fewest_rounds) (ps := ["self", "one"]) fun _ _ _ _ _ _ us hl => match us, hl with | [_, _], _ => rfl)⟩⟩
    · exact ⟨_, _, ⟨⟨a_Widest_none, i_Widest_none, k_Widest_none⟩, fun_mk l_Widest_none c_Widest_none k_Widest_none, (Fun.binds (fun_mk l_Widest_none c_Widest_none k_Widest_none) (ps := ["self"]) fun _ _ _ _ _ _ us hl => match us, hl with | [_], _ => rfl)⟩⟩
    · exact ⟨_, _, ⟨⟨a_Widest_rest, i_Widest_rest, k_Widest_rest⟩, fun_mk l_Widest_rest c_Widest_rest k_Widest_rest, (Fun.binds (fun_mk l_Widest_rest c_Widest_rest k_Widest_rest) (ps := ["self"]) fun _ _ _ _ _ _ us hl => match us, hl with | [_], _ => rfl)⟩⟩
    · exact ⟨_, _, ⟨⟨a_Widest_together, i_Widest_together, k_Widest_together⟩, fun_mk l_Widest_together c_Widest_together k_Widest_together, (Fun.binds (fun_mk l_Widest_together c_Widest_together k_Widest_together) (ps := ["self", "one", "other"]) fun _ _ _ _ _ _ us hl => match us, hl with | [_, _, _], _ => rfl)⟩⟩
    · exact ⟨_, _, ⟨⟨a_Widest_behind, i_Widest_behind, k_Widest_behind⟩, fun_mk l_Widest_behind c_Widest_behind k_Widest_behind, (Fun.binds (fun_mk l_Widest_behind c_Widest_behind k_Widest_behind) (ps := ["self", "one", "other"]) fun _ _ _ _ _ _ us hl => match us, hl with | [_, _, _], _ => rfl)⟩⟩
    · exact ⟨_, _, ⟨⟨a_Widest_rounds, i_Widest_rounds, k_Widest_rounds⟩, fun_mk l_Widest_rounds c_Widest_rounds k_Widest_rounds, (Fun.binds (fun_mk l_Widest_rounds c_Widest_rounds k_Widest_rounds) (ps := ["self", "one"]) fun _ _ _ _ _ _ us hl => match us, hl with | [_, _], _ => rfl)⟩⟩
    · exact ⟨_, _, ⟨⟨a_Counted_none, i_Counted_none, k_Counted_none⟩, fun_mk l_Counted_none c_Counted_none k_Counted_none, (Fun.binds (fun_mk l_Counted_none c_Counted_none k_Counted_none) (ps := ["self"]) fun _ _ _ _ _ _ us hl => match us, hl with | [_], _ => rfl)⟩⟩
    · exact ⟨_, _, ⟨⟨a_Counted_rest, i_Counted_rest, k_Counted_rest⟩, fun_mk l_Counted_rest c_Counted_rest k_Counted_rest, (Fun.binds (fun_mk l_Counted_rest c_Counted_rest k_Counted_rest) (ps := ["self"]) fun _ _ _ _ _ _ us hl => match us, hl with | [_], _ => rfl)⟩⟩
    · exact ⟨_, _, ⟨⟨a_Counted_together, i_Counted_together, k_Counted_together⟩, fun_mk l_Counted_together c_Counted_together k_Counted_together, (Fun.binds (fun_mk l_Counted_together c_Counted_together k_Counted_together) (ps := ["self", "one", "other"]) fun _ _ _ _ _ _ us hl => match us, hl with | [_, _, _], _ => rfl)⟩⟩
    · exact ⟨_, _, ⟨⟨a_Counted_behind, i_Counted_behind, k_Counted_behind⟩, fun_mk l_Counted_behind c_Counted_behind k_Counted_behind, (Fun.binds (fun_mk l_Counted_behind c_Counted_behind k_Counted_behind) (ps := ["self", "one", "other"]) fun _ _ _ _ _ _ us hl => match us, hl with | [_, _, _], _ => rfl)⟩⟩
    · exact ⟨_, _, ⟨⟨a_Counted_rounds, i_Counted_rounds, k_Counted_rounds⟩, fun_mk l_Counted_rounds c_Counted_rounds k_Counted_rounds, (Fun.binds (fun_mk l_Counted_rounds c_Counted_rounds k_Counted_rounds) (ps := ["self", "one"]) fun _ _ _ _ _ _ us hl => match us, hl with | [_, _], _ => rfl)⟩⟩
    · exact ⟨_, _, ⟨⟨a_Likeliest_none, i_Likeliest_none, k_Likeliest_none⟩, fun_mk l_Likeliest_none c_Likeliest_none k_Likeliest_none, (Fun.binds (fun_mk l_Likeliest_none c_Likeliest_none k_Likeliest_none) (ps := ["self"]) fun _ _ _ _ _ _ us hl => match us, hl with | [_], _ => rfl)⟩⟩
    · exact ⟨_, _, ⟨⟨a_Likeliest_rest, i_Likeliest_rest, k_Likeliest_rest⟩, fun_mk l_Likeliest_rest c_Likeliest_rest k_Likeliest_rest, (Fun.binds (fun_mk l_Likeliest_rest c_Likeliest_rest k_Likeliest_rest) (ps := ["self"]) fun _ _ _ _ _ _ us hl => match us, hl with | [_], _ => rfl)⟩⟩
    · exact ⟨_, _, ⟨⟨a_Likeliest_together, i_Likeliest_together, k_Likeliest_together⟩, fun_mk l_Likeliest_together c_Likeliest_together k_Likeliest_together, (Fun.binds (fun_mk l_Likeliest_together c_Likeliest_together k_Likeliest_together) (ps := ["self", "one", "other"]) fun _ _ _ _ _ _ us hl => match us, hl with | [_, _, _], _ => rfl)⟩⟩
    · exact ⟨_, _, ⟨⟨a_Likeliest_behind, i_Likeliest_behind, k_Likeliest_behind⟩, fun_mk l_Likeliest_behind c_Likeliest_behind k_Likeliest_behind, (Fun.binds (fun_mk l_Likeliest_behind c_Likeliest_behind k_Likeliest_behind) (ps := ["self", "one", "other"]) fun _ _ _ _ _ _ us hl => match us, hl with | [_, _, _], _ => rfl)⟩⟩
    · exact ⟨_, _, ⟨⟨a_Likeliest_rounds, i_Likeliest_rounds, k_Likeliest_rounds⟩, fun_mk l_Likeliest_rounds c_Likeliest_rounds k_Likeliest_rounds, (Fun.binds (fun_mk l_Likeliest_rounds c_Likeliest_rounds k_Likeliest_rounds) (ps := ["self", "one"]) fun _ _ _ _ _ _ us hl => match us, hl with | [_, _], _ => rfl)⟩⟩
    · exact ⟨_, _, ⟨⟨a_Chances_none, i_Chances_none, k_Chances_none⟩, fun_mk l_Chances_none c_Chances_none k_Chances_none, (Fun.binds (fun_mk l_Chances_none c_Chances_none k_Chances_none) (ps := ["self"]) fun _ _ _ _ _ _ us hl => match us, hl with | [_], _ => rfl)⟩⟩
    · exact ⟨_, _, ⟨⟨a_Chances_rest, i_Chances_rest, k_Chances_rest⟩, fun_mk l_Chances_rest c_Chances_rest k_Chances_rest, (Fun.binds (fun_mk l_Chances_rest c_Chances_rest k_Chances_rest) (ps := ["self"]) fun _ _ _ _ _ _ us hl => match us, hl with | [_], _ => rfl)⟩⟩
    · exact ⟨_, _, ⟨⟨a_Chances_together, i_Chances_together, k_Chances_together⟩, fun_mk l_Chances_together c_Chances_together k_Chances_together, (Fun.binds (fun_mk l_Chances_together c_Chances_together k_Chances_together) (ps := ["self", "one", "other"]) fun _ _ _ _ _ _ us hl => match us, hl with | [_, _, _], _ => rfl)⟩⟩
    · exact ⟨_, _, ⟨⟨a_Chances_behind, i_Chances_behind, k_Chances_behind⟩, fun_mk l_Chances_behind c_Chances_behind k_Chances_behind, (Fun.binds (fun_mk l_Chances_behind c_Chances_behind k_Chances_behind) (ps := ["self", "one", "other"]) fun _ _ _ _ _ _ us hl => match us, hl with | [_, _, _], _ => rfl)⟩⟩
    · exact ⟨_, _, ⟨⟨a_Chances_rounds, i_Chances_rounds, k_Chances_rounds⟩, fun_mk l_Chances_rounds c_Chances_rounds k_Chances_rounds, (Fun.binds (fun_mk l_Chances_rounds c_Chances_rounds k_Chances_rounds) (ps := ["self", "one"]) fun _ _ _ _ _ _ us hl => match us, hl with | [_, _], _ => rfl)⟩⟩
    · exact ⟨_, _, ⟨⟨a_Musts_none, i_Musts_none, k_Musts_none⟩, fun_mk l_Musts_none c_Musts_none k_Musts_none, (Fun.binds (fun_mk l_Musts_none c_Musts_none k_Musts_none) (ps := ["self"]) fun _ _ _ _ _ _ us hl => match us, hl with | [_], _ => rfl)⟩⟩
    · exact ⟨_, _, ⟨⟨a_Musts_rest, i_Musts_rest, k_Musts_rest⟩, fun_mk l_Musts_rest c_Musts_rest k_Musts_rest, (Fun.binds (fun_mk l_Musts_rest c_Musts_rest k_Musts_rest) (ps := ["self"]) fun _ _ _ _ _ _ us hl => match us, hl with | [_], _ => rfl)⟩⟩
    · exact ⟨_, _, ⟨⟨a_Musts_together, i_Musts_together, k_Musts_together⟩, fun_mk l_Musts_together c_Musts_together k_Musts_together, (Fun.binds (fun_mk l_Musts_together c_Musts_together k_Musts_together) (ps := ["self", "one", "other"]) fun _ _ _ _ _ _ us hl => match us, hl with | [_, _, _], _ => rfl)⟩⟩
    · exact ⟨_, _, ⟨⟨a_Musts_behind, i_Musts_behind, k_Musts_behind⟩, fun_mk l_Musts_behind c_Musts_behind k_Musts_behind, (Fun.binds (fun_mk l_Musts_behind c_Musts_behind k_Musts_behind) (ps := ["self", "one", "other"]) fun _ _ _ _ _ _ us hl => match us, hl with | [_, _, _], _ => rfl)⟩⟩
    · exact ⟨_, _, ⟨⟨a_Musts_rounds, i_Musts_rounds, k_Musts_rounds⟩, fun_mk l_Musts_rounds c_Musts_rounds k_Musts_rounds, (Fun.binds (fun_mk l_Musts_rounds c_Musts_rounds k_Musts_rounds) (ps := ["self", "one"]) fun _ _ _ _ _ _ us hl => match us, hl with | [_, _], _ => rfl)⟩⟩
    · exact ⟨_, _, ⟨⟨q2Rests, a_Rests___init__, i_Rests___init__, q1Rests⟩, fun_mk l_Rests___init__ c_Rests___init__ k_Rests___init__, (Fun.binds (fun_mk l_Rests___init__ c_Rests___init__ k_Rests___init__) (ps := ["self", "m"]) fun _ _ _ _ _ _ us hl => match us, hl with | [_, _], _ => rfl)⟩⟩
    · exact ⟨_, _, ⟨⟨a_Rests_none, i_Rests_none, k_Rests_none⟩, fun_mk l_Rests_none c_Rests_none k_Rests_none, (Fun.binds (fun_mk l_Rests_none c_Rests_none k_Rests_none) (ps := ["self"]) fun _ _ _ _ _ _ us hl => match us, hl with | [_], _ => rfl)⟩⟩
    · exact ⟨_, _, ⟨⟨a_Rests_rest, i_Rests_rest, k_Rests_rest⟩, fun_mk l_Rests_rest c_Rests_rest k_Rests_rest, (Fun.binds (fun_mk l_Rests_rest c_Rests_rest k_Rests_rest) (ps := ["self"]) fun _ _ _ _ _ _ us hl => match us, hl with | [_], _ => rfl)⟩⟩
    · exact ⟨_, _, ⟨⟨a_Rests_together, i_Rests_together, k_Rests_together⟩, fun_mk l_Rests_together c_Rests_together k_Rests_together, (Fun.binds (fun_mk l_Rests_together c_Rests_together k_Rests_together) (ps := ["self", "one", "other"]) fun _ _ _ _ _ _ us hl => match us, hl with | [_, _, _], _ => rfl)⟩⟩
    · exact ⟨_, _, ⟨⟨a_Rests_behind, i_Rests_behind, k_Rests_behind⟩, fun_mk l_Rests_behind c_Rests_behind k_Rests_behind, (Fun.binds (fun_mk l_Rests_behind c_Rests_behind k_Rests_behind) (ps := ["self", "one", "other"]) fun _ _ _ _ _ _ us hl => match us, hl with | [_, _, _], _ => rfl)⟩⟩
    · exact ⟨_, _, ⟨⟨a_Rests_rounds, i_Rests_rounds, k_Rests_rounds⟩, fun_mk l_Rests_rounds c_Rests_rounds k_Rests_rounds, (Fun.binds (fun_mk l_Rests_rounds c_Rests_rounds k_Rests_rounds) (ps := ["self", "one"]) fun _ _ _ _ _ _ us hl => match us, hl with | [_, _], _ => rfl)⟩⟩
    · exact ⟨PySem.W.mg_of X G g_SumError, e0SumError, e1SumError, e2SumError, e3SumError, e4SumError, ⟨e5SumError, e6SumError, e2SumError, e7SumError, e8SumError, hn, ht, e9SumError⟩⟩
    · exact ⟨PySem.W.mg_of X G g_NoWorth, e0NoWorth, e1NoWorth, e2NoWorth, e3NoWorth, e4NoWorth, ⟨e5NoWorth, e6NoWorth, e2NoWorth, e7NoWorth, e8NoWorth, hn, ht, e9NoWorth⟩⟩
    · exact ⟨PySem.W.mg_of X G g_NoSum, e0NoSum, e1NoSum, e2NoSum, e3NoSum, e4NoSum, ⟨e5NoSum, e6NoSum, e2NoSum, e7NoSum, e8NoSum, hn, ht, e9NoSum⟩⟩
    · exact kit_ref r1Chances r2Chances s_Fewest_Chances (.inl ne_Fewest_Chances)
    · exact kit_ref r1Chances r2Chances s_Widest_Chances (.inl ne_Widest_Chances)
    · exact kit_ref r1Chances r2Chances s_Counted_Chances (.inl ne_Counted_Chances)
    · exact kit_ref r1Chances r2Chances s_Likeliest_Chances (.inl ne_Likeliest_Chances)
    · exact kit_ref r1Chances r2Chances s_Chances_Chances (.inr rfl)
    · exact kit_ref r1Chances r2Chances s_Musts_Chances (.inl ne_Musts_Chances)
    · exact kit_ref r1Chances r2Chances s_Rests_Chances (.inl ne_Rests_Chances)
    · exact kit_ref e4NoSum e3NoSum s_SumError_NoSum (.inl ne_SumError_NoSum)
    · exact kit_ref e4NoSum e3NoSum s_NoWorth_NoSum (.inl ne_NoWorth_NoSum)
    · exact kit_ref e4NoSum e3NoSum s_NoSum_NoSum (.inr rfl)
    · exact exm_of_kit e2NoSum e4NoSum e3NoSum s_SumError_NoSum
    · exact exm_of_kit e2NoSum e4NoSum e3NoSum s_NoWorth_NoSum
    · exact exm_of_kit e2NoSum e4NoSum e3NoSum s_NoSum_NoSum
    · exact at_Rests_m
    · exact PySem.W.mg_none_of X G n_len
    · exact PySem.W.mg_none_of X G n_range
    · exact PySem.W.mg_none_of X G n_isinstance
    · exact PySem.W.mg_none_of X G n_min
    · exact PySem.W.mg_none_of X G n_max
    · exact PySem.W.mg_none_of X G n_ValueError
    · exact ⟨_, PySem.W.mg_of X G n_WIDEST, ⟨_, rfl⟩⟩
    · exact hn
    · exact ht
  exact ⟨PySem.W.fnOf "law" "law" (defArgs s_law) (defBody s_law) (defScope s_law) .none kV_law dc_law pm_law an_law cd_law ct_law, fun s v => .of_eq rfl, fun base _ _ => ok_law TT (fun_mk (st := s_law) l_law c_law k_law)⟩
theorem walk {l : PySem.W.OpenLaw} {q : Program} {loose : List Str} {XP : (Str → Option Value) → Heap → Prop} {YP : World → Heap → Prop} {d : DefRec} {K : Params → PySem.W.Frag} (hn : l.most = some 63) (hdf : d.params.defaults = [])
    (hY : ∀ (w : World) (h : Heap), YP w h → (K w.params).In h)
    (F : ∀ (w : World) (mg : Str → Option Value) (fa : Addr) (h : Heap), (K w.params).In h → h.Ns mainGlobals mg → mg d.name = some (.ref fa) →
      ∃ fd : FuncData, (∀ (s : Shared) (u : Value), BindsTo s fd ⟨[u], []⟩ [("script", u)]) ∧ ∀ base : Heap, (K w.params).In base → base.Ns mainGlobals mg → FnOk l.prog w (K w.params) mg base CX0 20 fa fd ["script"] (spLaw (K w.params))) :
    PySem.W.WalkO q loose XP YP l.row.toRowW d [] (fun f vs => PySem.call f vs) :=
  L2.walk_of (n := 63) (k := 20) (x := "script") (CX := fun _ => CX0) (sp := fun w => spLaw (K w.params)) hn (by decide) hdf ⟨rfl, by decide, by decide⟩ hY F (fun _ _ a ns hl _ hS => ⟨a, ns, rfl, hS, hl, fun _ => rfl⟩) fun _ _ _ _ _ z => z
end Ws
open PySem PySem.W PyProof.Rows in
open_top whead for PySem.Challenge.rw_waysum_k03_whole_deeds_go_together
open PySem PySem.W PyProof.Rows in
set_option maxRecDepth 100000 in
set_option maxHeartbeats 0 in
theorem PySem.Challenge.cw_waysum_k03_whole_deeds_go_together_holds : PySem.Challenge.rw_waysum_k03_whole_deeds_go_together.Holds := by
  refine whead ?_
  k_fill
  refine Ws.walk (l := PySem.Challenge.rw_waysum_k03_whole_deeds_go_together) rfl rfl (fun w h Y => PySem.W.kIn_of Y) ?F
  case F =>
    intro w mg fa h KX G hmg
    refine' Ws.fin KX G hmg ?g_SumError ?g_NoWorth ?g_NoSum ?g_Kind ?g_Fewest ?g_Widest ?g_Counted ?g_Likeliest ?g_Chances ?g_Musts ?g_Rests ?a_common ?l_common ?c_common ?k_common ?a_lowest ?l_lowest ?c_lowest ?k_lowest ?a_added ?l_added ?c_added ?k_added ?a_taken ?l_taken ?c_taken ?k_taken ?a_less ?l_less ?c_less ?k_less ?a__law_cell_at ?l__law_cell_at ?c__law_cell_at ?k__law_cell_at ?a__law_kind ?l__law_kind ?c__law_kind ?k__law_kind ?a__law_share ?l__law_share ?c__law_share ?k__law_share ?a__law_none ?l__law_none ?c__law_none ?k__law_none ?a__law_rest ?l__law_rest ?c__law_rest ?k__law_rest ?a__law_worth ?l__law_worth ?c__law_worth ?k__law_worth ?a__law_rings ?l__law_rings ?c__law_rings ?k__law_rings ?a_law ?l_law ?c_law ?k_law ?p1Kind ?p2Kind ?p3Kind ?p4Kind ?q1Kind ?q2Kind ?q3Kind ?q4Kind ?q5Kind ?p1Fewest ?p2Fewest ?p3Fewest ?p4Fewest ?q1Fewest ?q2Fewest ?q3Fewest ?q4Fewest ?q5Fewest ?p1Widest ?p2Widest ?p3Widest ?p4Widest ?q1Widest ?q2Widest ?q3Widest ?q4Widest ?q5Widest ?p1Counted ?p2Counted ?p3Counted ?p4Counted ?q1Counted ?q2Counted ?q3Counted ?q4Counted ?q5Counted ?p1Likeliest ?p2Likeliest ?p3Likeliest ?p4Likeliest ?q1Likeliest ?q2Likeliest ?q3Likeliest ?q4Likeliest ?q5Likeliest ?p1Chances ?p2Chances ?p3Chances ?p4Chances ?q1Chances ?q2Chances ?q3Chances ?q4Chances ?q5Chances ?p1Musts ?p2Musts ?p3Musts ?p4Musts ?q1Musts ?q2Musts ?q3Musts ?q4Musts ?q5Musts ?p1Rests ?p2Rests ?p3Rests ?p4Rests ?q1Rests ?q2Rests ?q3Rests ?q4Rests ?a_Fewest_none ?i_Fewest_none ?l_Fewest_none ?c_Fewest_none ?k_Fewest_none ?a_Fewest_rest ?i_Fewest_rest ?l_Fewest_rest ?c_Fewest_rest ?k_Fewest_rest ?a_Fewest_together ?i_Fewest_together ?l_Fewest_together ?c_Fewest_together ?k_Fewest_together ?a_Fewest_behind ?i_Fewest_behind ?l_Fewest_behind ?c_Fewest_behind ?k_Fewest_behind ?a_Fewest_rounds ?i_Fewest_rounds ?l_Fewest_rounds ?c_Fewest_rounds ?k_Fewest_rounds ?a_Widest_none ?i_Widest_none ?l_Widest_none ?c_Widest_none ?k_Widest_none ?a_Widest_rest ?i_Widest_rest ?l_Widest_rest ?c_Widest_rest ?k_Widest_rest ?a_Widest_together ?i_Widest_together ?l_Widest_together ?c_Widest_together ?k_Widest_together ?a_Widest_behind ?i_Widest_behind ?l_Widest_behind ?c_Widest_behind ?k_Widest_behind ?a_Widest_rounds ?i_Widest_rounds ?l_Widest_rounds ?c_Widest_rounds ?k_Widest_rounds ?a_Counted_none ?i_Counted_none ?l_Counted_none ?c_Counted_none ?k_Counted_none ?a_Counted_rest ?i_Counted_rest ?l_Counted_rest ?c_Counted_rest ?k_Counted_rest ?a_Counted_together ?i_Counted_together ?l_Counted_together ?c_Counted_together ?k_Counted_together ?a_Counted_behind ?i_Counted_behind ?l_Counted_behind ?c_Counted_behind ?k_Counted_behind ?a_Counted_rounds ?i_Counted_rounds ?l_Counted_rounds ?c_Counted_rounds ?k_Counted_rounds ?a_Likeliest_none ?i_Likeliest_none ?l_Likeliest_none ?c_Likeliest_none ?k_Likeliest_none ?a_Likeliest_rest ?i_Likeliest_rest ?l_Likeliest_rest ?c_Likeliest_rest ?k_Likeliest_rest ?a_Likeliest_together ?i_Likeliest_together ?l_Likeliest_together ?c_Likeliest_together ?k_Likeliest_together ?a_Likeliest_behind ?i_Likeliest_behind ?l_Likeliest_behind ?c_Likeliest_behind ?k_Likeliest_behind ?a_Likeliest_rounds ?i_Likeliest_rounds ?l_Likeliest_rounds ?c_Likeliest_rounds ?k_Likeliest_rounds ?a_Chances_none ?i_Chances_none ?l_Chances_none ?c_Chances_none ?k_Chances_none ?a_Chances_rest ?i_Chances_rest ?l_Chances_rest ?c_Chances_rest ?k_Chances_rest ?a_Chances_together ?i_Chances_together ?l_Chances_together ?c_Chances_together ?k_Chances_together ?a_Chances_behind ?i_Chances_behind ?l_Chances_behind ?c_Chances_behind ?k_Chances_behind ?a_Chances_rounds ?i_Chances_rounds ?l_Chances_rounds ?c_Chances_rounds ?k_Chances_rounds ?a_Musts_none ?i_Musts_none ?l_Musts_none ?c_Musts_none ?k_Musts_none ?a_Musts_rest ?i_Musts_rest ?l_Musts_rest ?c_Musts_rest ?k_Musts_rest ?a_Musts_together ?i_Musts_together ?l_Musts_together ?c_Musts_together ?k_Musts_together ?a_Musts_behind ?i_Musts_behind ?l_Musts_behind ?c_Musts_behind ?k_Musts_behind ?a_Musts_rounds ?i_Musts_rounds ?l_Musts_rounds ?c_Musts_rounds ?k_Musts_rounds ?a_Rests___init__ ?i_Rests___init__ ?l_Rests___init__ ?c_Rests___init__ ?k_Rests___init__ ?a_Rests_none ?i_Rests_none ?l_Rests_none ?c_Rests_none ?k_Rests_none ?a_Rests_rest ?i_Rests_rest ?l_Rests_rest ?c_Rests_rest ?k_Rests_rest ?a_Rests_together ?i_Rests_together ?l_Rests_together ?c_Rests_together ?k_Rests_together ?a_Rests_behind ?i_Rests_behind ?l_Rests_behind ?c_Rests_behind ?k_Rests_behind ?a_Rests_rounds ?i_Rests_rounds ?l_Rests_rounds ?c_Rests_rounds ?k_Rests_rounds ?e0SumError ?e1SumError ?e2SumError ?e3SumError ?e4SumError ?e5SumError ?e6SumError ?e7SumError ?e8SumError ?e9SumError ?e0NoWorth ?e1NoWorth ?e2NoWorth ?e3NoWorth ?e4NoWorth ?e5NoWorth ?e6NoWorth ?e7NoWorth ?e8NoWorth ?e9NoWorth ?e0NoSum ?e1NoSum ?e2NoSum ?e3NoSum ?e4NoSum ?e5NoSum ?e6NoSum ?e7NoSum ?e8NoSum ?e9NoSum ?r1Chances ?r2Chances ?s_Fewest_Chances ?ne_Fewest_Chances ?s_Widest_Chances ?ne_Widest_Chances ?s_Counted_Chances ?ne_Counted_Chances ?s_Likeliest_Chances ?ne_Likeliest_Chances ?s_Chances_Chances ?s_Musts_Chances ?ne_Musts_Chances ?s_Rests_Chances ?ne_Rests_Chances ?s_SumError_NoSum ?ne_SumError_NoSum ?s_NoWorth_NoSum ?ne_NoWorth_NoSum ?s_NoSum_NoSum ?at_Rests_m ?n_len ?n_range ?n_isinstance ?n_min ?n_max ?n_ValueError ?n_WIDEST ?hn ?ht
    (case g_SumError => k_is)
    (case g_NoWorth => k_is)
    (case g_NoSum => k_is)
    (case g_Kind => k_is)
    (case g_Fewest => k_is)
    (case g_Widest => k_is)
    (case g_Counted => k_is)
    (case g_Likeliest => k_is)
    (case g_Chances => k_is)
    (case g_Musts => k_is)
    (case g_Rests => k_is)
    (case a_common => k_is)
    (case l_common => k_is)
    (case c_common => k_is)
    (case k_common => k_is)
    (case a_lowest => k_is)
    (case l_lowest => k_is)
    (case c_lowest => k_is)
    (case k_lowest => k_is)
    (case a_added => k_is)
    (case l_added => k_is)
    (case c_added => k_is)
    (case k_added => k_is)
    (case a_taken => k_is)
    (case l_taken => k_is)
    (case c_taken => k_is)
    (case k_taken => k_is)
    (case a_less => k_is)
    (case l_less => k_is)
    (case c_less => k_is)
    (case k_less => k_is)
    (case a__law_cell_at => k_is)
    (case l__law_cell_at => k_is)
    (case c__law_cell_at => k_is)
    (case k__law_cell_at => k_is)
    (case a__law_kind => k_is)
    (case l__law_kind => k_is)
    (case c__law_kind => k_is)
    (case k__law_kind => k_is)
    (case a__law_share => k_is)
    (case l__law_share => k_is)
    (case c__law_share => k_is)
    (case k__law_share => k_is)
    (case a__law_none => k_is)
    (case l__law_none => k_is)
    (case c__law_none => k_is)
    (case k__law_none => k_is)
    (case a__law_rest => k_is)
    (case l__law_rest => k_is)
    (case c__law_rest => k_is)
    (case k__law_rest => k_is)
    (case a__law_worth => k_is)
    (case l__law_worth => k_is)
    (case c__law_worth => k_is)
    (case k__law_worth => k_is)
    (case a__law_rings => k_is)
    (case l__law_rings => k_is)
    (case c__law_rings => k_is)
    (case k__law_rings => k_is)
    (case a_law => k_is)
    (case l_law => k_is)
    (case c_law => k_is)
    (case k_law => k_is)
    (case p1Kind => k_is)
    (case p2Kind => k_is)
    (case p3Kind => k_is)
    (case p4Kind => k_is)
    (case q1Kind => k_is)
    (case q2Kind => k_is)
    (case q3Kind => k_is)
    (case q4Kind => k_is)
    (case q5Kind => k_is)
    (case p1Fewest => k_is)
    (case p2Fewest => k_is)
    (case p3Fewest => k_is)
    (case p4Fewest => k_is)
    (case q1Fewest => k_is)
    (case q2Fewest => k_is)
    (case q3Fewest => k_is)
    (case q4Fewest => k_is)
    (case q5Fewest => k_is)
    (case p1Widest => k_is)
    (case p2Widest => k_is)
    (case p3Widest => k_is)
    (case p4Widest => k_is)
    (case q1Widest => k_is)
    (case q2Widest => k_is)
    (case q3Widest => k_is)
    (case q4Widest => k_is)
    (case q5Widest => k_is)
    (case p1Counted => k_is)
    (case p2Counted => k_is)
    (case p3Counted => k_is)
    (case p4Counted => k_is)
    (case q1Counted => k_is)
    (case q2Counted => k_is)
    (case q3Counted => k_is)
    (case q4Counted => k_is)
    (case q5Counted => k_is)
    (case p1Likeliest => k_is)
    (case p2Likeliest => k_is)
    (case p3Likeliest => k_is)
    (case p4Likeliest => k_is)
    (case q1Likeliest => k_is)
    (case q2Likeliest => k_is)
    (case q3Likeliest => k_is)
    (case q4Likeliest => k_is)
    (case q5Likeliest => k_is)
    (case p1Chances => k_is)
    (case p2Chances => k_is)
    (case p3Chances => k_is)
    (case p4Chances => k_is)
    (case q1Chances => k_is)
    (case q2Chances => k_is)
    (case q3Chances => k_is)
    (case q4Chances => k_is)
    (case q5Chances => k_is)
    (case p1Musts => k_is)
    (case p2Musts => k_is)
    (case p3Musts => k_is)
    (case p4Musts => k_is)
    (case q1Musts => k_is)
    (case q2Musts => k_is)
    (case q3Musts => k_is)
    (case q4Musts => k_is)
    (case q5Musts => k_is)
    (case p1Rests => k_is)
    (case p2Rests => k_is)
    (case p3Rests => k_is)
    (case p4Rests => k_is)
    (case q1Rests => k_is)
    (case q2Rests => k_is)
    (case q3Rests => k_is)
    (case q4Rests => k_is)
    (case a_Fewest_none => k_is)
    (case i_Fewest_none => k_is)
    (case l_Fewest_none => k_is)
    (case c_Fewest_none => k_is)
    (case k_Fewest_none => k_is)
    (case a_Fewest_rest => k_is)
    (case i_Fewest_rest => k_is)
    (case l_Fewest_rest => k_is)
    (case c_Fewest_rest => k_is)
    (case k_Fewest_rest => k_is)
    (case a_Fewest_together => k_is)
    (case i_Fewest_together => k_is)
    (case l_Fewest_together => k_is)
    (case c_Fewest_together => k_is)
    (case k_Fewest_together => k_is)
    (case a_Fewest_behind => k_is)
    (case i_Fewest_behind => k_is)
    (case l_Fewest_behind => k_is)
    (case c_Fewest_behind => k_is)
    (case k_Fewest_behind => k_is)
    (case a_Fewest_rounds => k_is)
    (case i_Fewest_rounds => k_is)
    (case l_Fewest_rounds => k_is)
    (case c_Fewest_rounds => k_is)
    (case k_Fewest_rounds => k_is)
    (case a_Widest_none => k_is)
    (case i_Widest_none => k_is)
    (case l_Widest_none => k_is)
    (case c_Widest_none => k_is)
    (case k_Widest_none => k_is)
    (case a_Widest_rest => k_is)
    (case i_Widest_rest => k_is)
    (case l_Widest_rest => k_is)
    (case c_Widest_rest => k_is)
    (case k_Widest_rest => k_is)
    (case a_Widest_together => k_is)
    (case i_Widest_together => k_is)
    (case l_Widest_together => k_is)
    (case c_Widest_together => k_is)
    (case k_Widest_together => k_is)
    (case a_Widest_behind => k_is)
    (case i_Widest_behind => k_is)
    (case l_Widest_behind => k_is)
    (case c_Widest_behind => k_is)
    (case k_Widest_behind => k_is)
    (case a_Widest_rounds => k_is)
    (case i_Widest_rounds => k_is)
    (case l_Widest_rounds => k_is)
    (case c_Widest_rounds => k_is)
    (case k_Widest_rounds => k_is)
    (case a_Counted_none => k_is)
    (case i_Counted_none => k_is)
    (case l_Counted_none => k_is)
    (case c_Counted_none => k_is)
    (case k_Counted_none => k_is)
    (case a_Counted_rest => k_is)
    (case i_Counted_rest => k_is)
    (case l_Counted_rest => k_is)
    (case c_Counted_rest => k_is)
    (case k_Counted_rest => k_is)
    (case a_Counted_together => k_is)
    (case i_Counted_together => k_is)
    (case l_Counted_together => k_is)
    (case c_Counted_together => k_is)
    (case k_Counted_together => k_is)
    (case a_Counted_behind => k_is)
    (case i_Counted_behind => k_is)
    (case l_Counted_behind => k_is)
    (case c_Counted_behind => k_is)
    (case k_Counted_behind => k_is)
    (case a_Counted_rounds => k_is)
    (case i_Counted_rounds => k_is)
    (case l_Counted_rounds => k_is)
    (case c_Counted_rounds => k_is)
    (case k_Counted_rounds => k_is)
    (case a_Likeliest_none => k_is)
    (case i_Likeliest_none => k_is)
    (case l_Likeliest_none => k_is)
    (case c_Likeliest_none => k_is)
    (case k_Likeliest_none => k_is)
    (case a_Likeliest_rest => k_is)
    (case i_Likeliest_rest => k_is)
    (case l_Likeliest_rest => k_is)
    (case c_Likeliest_rest => k_is)
    (case k_Likeliest_rest => k_is)
    (case a_Likeliest_together => k_is)
    (case i_Likeliest_together => k_is)
    (case l_Likeliest_together => k_is)
    (case c_Likeliest_together => k_is)
    (case k_Likeliest_together => k_is)
    (case a_Likeliest_behind => k_is)
    (case i_Likeliest_behind => k_is)
    (case l_Likeliest_behind => k_is)
    (case c_Likeliest_behind => k_is)
    (case k_Likeliest_behind => k_is)
    (case a_Likeliest_rounds => k_is)
    (case i_Likeliest_rounds => k_is)
    (case l_Likeliest_rounds => k_is)
    (case c_Likeliest_rounds => k_is)
    (case k_Likeliest_rounds => k_is)
    (case a_Chances_none => k_is)
    (case i_Chances_none => k_is)
    (case l_Chances_none => k_is)
    (case c_Chances_none => k_is)
    (case k_Chances_none => k_is)
    (case a_Chances_rest => k_is)
    (case i_Chances_rest => k_is)
    (case l_Chances_rest => k_is)
    (case c_Chances_rest => k_is)
    (case k_Chances_rest => k_is)
    (case a_Chances_together => k_is)
    (case i_Chances_together => k_is)
    (case l_Chances_together => k_is)
    (case c_Chances_together => k_is)
    (case k_Chances_together => k_is)
    (case a_Chances_behind => k_is)
    (case i_Chances_behind => k_is)
    (case l_Chances_behind => k_is)
    (case c_Chances_behind => k_is)
    (case k_Chances_behind => k_is)
    (case a_Chances_rounds => k_is)
    (case i_Chances_rounds => k_is)
    (case l_Chances_rounds => k_is)
    (case c_Chances_rounds => k_is)
    (case k_Chances_rounds => k_is)
    (case a_Musts_none => k_is)
    (case i_Musts_none => k_is)
    (case l_Musts_none => k_is)
    (case c_Musts_none => k_is)
    (case k_Musts_none => k_is)
    (case a_Musts_rest => k_is)
    (case i_Musts_rest => k_is)
    (case l_Musts_rest => k_is)
    (case c_Musts_rest => k_is)
    (case k_Musts_rest => k_is)
    (case a_Musts_together => k_is)
    (case i_Musts_together => k_is)
    (case l_Musts_together => k_is)
    (case c_Musts_together => k_is)
    (case k_Musts_together => k_is)
    (case a_Musts_behind => k_is)
    (case i_Musts_behind => k_is)
    (case l_Musts_behind => k_is)
    (case c_Musts_behind => k_is)
    (case k_Musts_behind => k_is)
    (case a_Musts_rounds => k_is)
    (case i_Musts_rounds => k_is)
    (case l_Musts_rounds => k_is)
    (case c_Musts_rounds => k_is)
    (case k_Musts_rounds => k_is)
    (case a_Rests___init__ => k_is)
    (case i_Rests___init__ => k_is)
    (case l_Rests___init__ => k_is)
    (case c_Rests___init__ => k_is)
    (case k_Rests___init__ => k_is)
    (case a_Rests_none => k_is)
    (case i_Rests_none => k_is)
    (case l_Rests_none => k_is)
    (case c_Rests_none => k_is)
    (case k_Rests_none => k_is)
    (case a_Rests_rest => k_is)
    (case i_Rests_rest => k_is)
    (case l_Rests_rest => k_is)
    (case c_Rests_rest => k_is)
    (case k_Rests_rest => k_is)
    (case a_Rests_together => k_is)
    (case i_Rests_together => k_is)
    (case l_Rests_together => k_is)
    (case c_Rests_together => k_is)
    (case k_Rests_together => k_is)
    (case a_Rests_behind => k_is)
    (case i_Rests_behind => k_is)
    (case l_Rests_behind => k_is)
    (case c_Rests_behind => k_is)
    (case k_Rests_behind => k_is)
    (case a_Rests_rounds => k_is)
    (case i_Rests_rounds => k_is)
    (case l_Rests_rounds => k_is)
    (case c_Rests_rounds => k_is)
    (case k_Rests_rounds => k_is)
    (case e0SumError => k_is)
    (case e1SumError => k_exc)
    (case e2SumError => k_is)
    (case e3SumError => k_is)
    (case e4SumError => k_is)
    (case e5SumError => k_is)
    (case e6SumError => k_is)
    (case e7SumError => k_is)
    (case e8SumError => k_is)
    (case e9SumError => k_is)
    (case e0NoWorth => k_is)
    (case e1NoWorth => k_exc)
    (case e2NoWorth => k_is)
    (case e3NoWorth => k_is)
    (case e4NoWorth => k_is)
    (case e5NoWorth => k_is)
    (case e6NoWorth => k_is)
    (case e7NoWorth => k_is)
    (case e8NoWorth => k_is)
    (case e9NoWorth => k_is)
    (case e0NoSum => k_is)
    (case e1NoSum => k_exc)
    (case e2NoSum => k_is)
    (case e3NoSum => k_is)
    (case e4NoSum => k_is)
    (case e5NoSum => k_is)
    (case e6NoSum => k_is)
    (case e7NoSum => k_is)
    (case e8NoSum => k_is)
    (case e9NoSum => k_is)
    (case r1Chances => k_is)
    (case r2Chances => k_is)
    (case s_Fewest_Chances => k_is)
    (case ne_Fewest_Chances => decide)
    (case s_Widest_Chances => k_is)
    (case ne_Widest_Chances => decide)
    (case s_Counted_Chances => k_is)
    (case ne_Counted_Chances => decide)
    (case s_Likeliest_Chances => k_is)
    (case ne_Likeliest_Chances => decide)
    (case s_Chances_Chances => k_is)
    (case s_Musts_Chances => k_is)
    (case ne_Musts_Chances => decide)
    (case s_Rests_Chances => k_is)
    (case ne_Rests_Chances => decide)
    (case s_SumError_NoSum => k_is)
    (case ne_SumError_NoSum => decide)
    (case s_NoWorth_NoSum => k_is)
    (case ne_NoWorth_NoSum => decide)
    (case s_NoSum_NoSum => k_is)
    (case at_Rests_m => k_is)
    (case n_len => k_is)
    (case n_range => k_is)
    (case n_isinstance => k_is)
    (case n_min => k_is)
    (case n_max => k_is)
    (case n_ValueError => k_is)
    (case n_WIDEST => k_is)
    (case hn => k_is)
    (case ht => k_is)
#print axioms PySem.Challenge.cw_waysum_k03_whole_deeds_go_together_holds
