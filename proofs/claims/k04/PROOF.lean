import PyProof.Rows.All
import Wide.All
import OpenK.AllK
import Wide.FinOn
import HandS.ForMost
import HandS.ForExc
import HandS.Wide
import HandS.WideBits
import HandS.IsInst
import HandS.ExcIs
import HandS.HotCalls
import HandS.Codes
import HandS.TupLe
import PySem.Challenge.RW_waysum_k04_nets
set_option Elab.async false
set_option linter.all false
set_option maxRecDepth 100000
set_option maxHeartbeats 4000000
set_option autoImplicit false
namespace Ws
open PySem PySem.Spec PyProof.Rows L2
/-- the i-th statement of the text's top -/
def topS (i : Nat) : Stmt := PySem.Challenge.pw_waysum_k04_nets.main.body.getD i (.Pass ⟨0, 0, 0, 0⟩)
abbrev s_common : Stmt := topS 6
abbrev s_lowest : Stmt := topS 7
abbrev s_is_share : Stmt := topS 8
abbrev s_added : Stmt := topS 9
abbrev s_less : Stmt := topS 10
abbrev s__law_cell_at : Stmt := topS 26
abbrev s__law_kind : Stmt := topS 27
abbrev s__law_share : Stmt := topS 28
abbrev s__law_none : Stmt := topS 29
abbrev s__law_rest : Stmt := topS 30
abbrev s__law_tog : Stmt := topS 31
abbrev s__law_worth : Stmt := topS 32
abbrev s__law_thinned : Stmt := topS 33
abbrev s__law_net : Stmt := topS 34
abbrev s__law_which : Stmt := topS 35
abbrev s__law_turned : Stmt := topS 36
abbrev s_law : Stmt := topS 37
abbrev s_Fewest_rest : Stmt := inClass (topS 14) 2
abbrev s_Fewest_is_worth : Stmt := inClass (topS 14) 3
abbrev s_Widest_rest : Stmt := inClass (topS 15) 2
abbrev s_Widest_is_worth : Stmt := inClass (topS 15) 3
abbrev s_Counted_rest : Stmt := inClass (topS 16) 1
abbrev s_Counted_is_worth : Stmt := inClass (topS 16) 2
abbrev s_Likeliest_rest : Stmt := inClass (topS 17) 2
abbrev s_Likeliest_is_worth : Stmt := inClass (topS 17) 3
abbrev s_Chances_rest : Stmt := inClass (topS 18) 1
abbrev s_Chances_is_worth : Stmt := inClass (topS 18) 2
abbrev s_Musts_rest : Stmt := inClass (topS 19) 1
abbrev s_Musts_is_worth : Stmt := inClass (topS 19) 2
abbrev s_Rests___init__ : Stmt := inClass (topS 20) 0
abbrev s_Rests_rest : Stmt := inClass (topS 20) 2
abbrev s_Rests_is_worth : Stmt := inClass (topS 20) 3
abbrev s_Net___init__ : Stmt := inClass (topS 24) 0
abbrev s_Net_ask_shares : Stmt := inClass (topS 24) 1
abbrev s_Net_kind : Stmt := inClass (topS 24) 3
abbrev s_Net_places : Stmt := inClass (topS 24) 4
abbrev s_Net_roads : Stmt := inClass (topS 24) 5
/-! ### M1: worths, deeds (plain Lean) -/
/-- the seven kinds -/
inductive Kd where
  | few | wid | cnt | lik | cha | mus | rst (m : Nat)
  deriving DecidableEq
/-- their classes -/
inductive Kx where
  | few | wid | cnt | lik | cha | mus | rst
  deriving DecidableEq
def Kd.x : Kd → Kx
  | .few => .few | .wid => .wid | .cnt => .cnt | .lik => .lik | .cha => .cha | .mus => .mus | .rst _ => .rst
/-- rests by 1 to 12 -/
def KOk : Kd → Prop
  | .rst m => 1 ≤ m ∧ m ≤ 12
  | _ => True
/-- a worth -/
inductive Wo where
  | non | int (i : Int) | rat (r : Rat)
  deriving DecidableEq
def noneW : Kd → Wo
  | .few => .non | .wid => .int 0 | .cnt => .int 0 | .lik => .rat 0 | .cha => .rat 0 | .mus => .non | .rst _ => .int 0
def restW : Kd → Wo
  | .few => .int 0 | .wid => .int 1000000000 | .cnt => .int 1 | .lik => .rat 1 | .cha => .rat 1 | .mus => .int 0 | .rst _ => .int 1
/-- a worth of the kind -/
def Good : Kd → Wo → Prop
  | .few, .non => True
  | .few, .int i => 0 ≤ i
  | .wid, .int i => 0 ≤ i ∧ i ≤ 1000000000
  | .cnt, .int i => -1 ≤ i
  | .lik, .rat r => 0 ≤ r ∧ r ≤ 1
  | .cha, .rat r => 0 ≤ r
  | .mus, .non => True
  | .mus, .int i => 0 ≤ i
  | .rst m, .int i => 0 ≤ i ∧ i < 2 ^ m
  | _, _ => False
/-- the number whose bits below n are told -/
def bitsOf : Nat → (Nat → Bool) → Nat
  | 0, _ => 0
  | n + 1, p => bitsOf n p ||| (if p n then 2 ^ n else 0)
theorem bitsOf_lt : ∀ (n : Nat) (p : Nat → Bool), bitsOf n p < 2 ^ n
  | 0, _ => by show 0 < 1; decide
  | n + 1, p => by
    unfold bitsOf
    have h := bitsOf_lt n p
    refine Nat.or_lt_two_pow (by rw [Nat.pow_succ]; omega) ?_
    split
    · exact Nat.pow_lt_pow_right (by decide) (by omega)
    · exact Nat.two_pow_pos _
theorem testBit_bitsOf : ∀ (n : Nat) (p : Nat → Bool) (r : Nat), (bitsOf n p).testBit r = (decide (r < n) && p r)
  | 0, p, r => by simp [bitsOf]
  | n + 1, p, r => by
    unfold bitsOf
    rw [Nat.testBit_or, testBit_bitsOf n p r]
    by_cases h : r = n
    · subst h
      cases e : p r <;> simp
    · have h2 : decide (r < n + 1) = decide (r < n) := by
        rw [decide_eq_decide]; omega
      rw [h2]
      have h3 : (if p n then 2 ^ n else 0).testBit r = false := by
        split
        · rw [Nat.testBit_two_pow]; exact decide_eq_false (fun e => h e.symm)
        · exact Nat.zero_testBit r
      rw [h3, Bool.or_false]
theorem testBit_above {a m r : Nat} (h : a < 2 ^ m) (hr : m ≤ r) : a.testBit r = false :=
  Nat.testBit_lt_two_pow (Nat.lt_of_lt_of_le h (Nat.pow_le_pow_right (by decide) hr))
/-- rests behind one another -/
def rbeh (m a b : Nat) : Nat := bitsOf m fun r => (List.range m).any fun i => (List.range m).any fun j => a.testBit i && b.testBit j && (i + j) % m == r
theorem testBit_rbeh (m a b r : Nat) : (rbeh m a b).testBit r = true ↔ r < m ∧ ∃ i j, i < m ∧ j < m ∧ a.testBit i = true ∧ b.testBit j = true ∧ (i + j) % m = r := by
  unfold rbeh
  rw [testBit_bitsOf]
  simp only [Bool.and_eq_true, decide_eq_true_eq, List.any_eq_true, List.mem_range, beq_iff_eq]
  constructor
  · rintro ⟨h, i, hi, j, hj, ⟨ha, hb⟩, e⟩
    exact ⟨h, i, j, hi, hj, ha, hb, e⟩
  · rintro ⟨h, i, j, hi, hj, ha, hb, e⟩
    exact ⟨h, i, hi, j, hj, ⟨ha, hb⟩, e⟩
theorem rbeh_lt (m a b : Nat) : rbeh m a b < 2 ^ m := bitsOf_lt _ _
/-- rounds of rests: n turns -/
def riter (m a : Nat) : Nat → Nat
  | 0 => 1
  | n + 1 => riter m a n ||| rbeh m (riter m a n) a
def rstar (m a : Nat) : Nat := riter m a m
/-- together -/
def tog : Kd → Wo → Wo → Wo
  | .few, .non, b => b
  | .few, a, .non => a
  | .few, .int i, .int j => .int (if j < i then j else i)
  | .wid, .int i, .int j => .int (if j > i then j else i)
  | .cnt, .int i, .int j => if i = -1 ∨ j = -1 then .int (-1) else .int (i + j)
  | .lik, .rat r, .rat s => if r < s then .rat s else .rat r
  | .cha, .rat r, .rat s => .rat (r + s)
  | .mus, .non, b => b
  | .mus, a, .non => a
  | .mus, .int i, .int j => .int ((i.toNat &&& j.toNat : Nat) : Int)
  | .rst _, .int i, .int j => .int ((i.toNat ||| j.toNat : Nat) : Int)
  | _, a, _ => a
/-- behind -/
def beh : Kd → Wo → Wo → Wo
  | .few, .int i, .int j => .int (i + j)
  | .few, _, _ => .non
  | .wid, .int i, .int j => .int (if j < i then j else i)
  | .cnt, .int i, .int j => if i = 0 ∨ j = 0 then .int 0 else if i = -1 ∨ j = -1 then .int (-1) else .int (i * j)
  | .lik, .rat r, .rat s => .rat (r * s)
  | .cha, .rat r, .rat s => .rat (r * s)
  | .mus, .int i, .int j => .int ((i.toNat ||| j.toNat : Nat) : Int)
  | .mus, _, _ => .non
  | .rst m, .int i, .int j => .int (rbeh m i.toNat j.toNat : Nat)
  | _, a, _ => a
/-- rounds; none: no sum -/
def rnd : Kd → Wo → Option Wo
  | .few, _ => some (.int 0)
  | .wid, _ => some (.int 1000000000)
  | .cnt, .int i => some (.int (if i = 0 then 1 else -1))
  | .lik, _ => some (.rat 1)
  | .cha, .rat r => if r < 1 then some (.rat (1 / (1 - r))) else none
  | .mus, _ => some (.int 0)
  | .rst m, .int i => some (.int (rstar m i.toNat : Nat))
  | _, a => some a
/-- does the kind pick -/
def pick : Kd → Bool
  | .few => true | .wid => true | .lik => true | _ => false
/-- a number of bits -/
def sz : Wo → Nat
  | .non => 1
  | .int i => i.natAbs.log2 + 1
  | .rat r => max (r.num.natAbs.log2 + 1) (r.den.log2 + 1)
/-- what the deeds ask of sizes -/
def Fits : Kd → Wo → Wo → Prop
  | .lik, a, b => sz a + sz b ≤ 8000
  | .cha, a, b => sz a + sz b ≤ 8000
  | .cnt, a, b => sz a + sz b ≤ 900000
  | _, _, _ => True
/-- of one worth -/
def Fit1 : Kd → Wo → Prop
  | .cha, a => sz a ≤ 8000
  | _, _ => True
/-! rounds of rests -/
theorem riter_lt {m : Nat} (h : 1 ≤ m) (a : Nat) : ∀ n, riter m a n < 2 ^ m
  | 0 => by show 1 < 2 ^ m; exact Nat.one_lt_two_pow (by omega)
  | n + 1 => Nat.or_lt_two_pow (riter_lt h a n) (rbeh_lt m _ a)
theorem riter_sub (m a n r : Nat) (h : (riter m a n).testBit r = true) : (riter m a (n + 1)).testBit r = true := by
  show (riter m a n ||| rbeh m (riter m a n) a).testBit r = true
  rw [Nat.testBit_or, h, Bool.true_or]
def cnt (F : Nat) : Nat → Nat
  | 0 => 0
  | m + 1 => cnt F m + (if F.testBit m then 1 else 0)
theorem cnt_le (F : Nat) : ∀ m, cnt F m ≤ m
  | 0 => Nat.le_refl 0
  | m + 1 => by
    have := cnt_le F m
    unfold cnt
    split <;> omega
theorem cnt_mono {F G : Nat} (h : ∀ r, F.testBit r = true → G.testBit r = true) : ∀ m, cnt F m ≤ cnt G m
  | 0 => Nat.le_refl 0
  | m + 1 => by
    have := cnt_mono h m
    unfold cnt
    by_cases e : F.testBit m = true
    · rw [if_pos e, if_pos (h m e)]; omega
    · rw [if_neg e]; omega
theorem cnt_lt {F G : Nat} (h : ∀ r, F.testBit r = true → G.testBit r = true) : ∀ m r, r < m → F.testBit r = false → G.testBit r = true → cnt F m < cnt G m
  | 0, r, hr, _, _ => by omega
  | m + 1, r, hr, h1, h2 => by
    unfold cnt
    by_cases e : r = m
    · subst e
      have := cnt_mono h r
      rw [h1, h2]
      simp
      omega
    · have := cnt_lt h m r (by omega) h1 h2
      by_cases e : F.testBit m = true
      · rw [if_pos e, if_pos (h m e)]; omega
      · rw [if_neg e]; omega
theorem riter_still {m a n : Nat} (h : riter m a (n + 1) = riter m a n) : ∀ k, riter m a (n + k) = riter m a n
  | 0 => rfl
  | k + 1 => by
    have ih := riter_still h k
    show riter m a (n + k) ||| rbeh m (riter m a (n + k)) a = _
    rw [ih]
    exact h
theorem riter_grows {m a : Nat} (hm : 1 ≤ m) : ∀ n, (∀ j, j < n → riter m a (j + 1) ≠ riter m a j) → n + 1 ≤ cnt (riter m a n) m
  | 0, _ => by
    have h : cnt 0 m < cnt 1 m := cnt_lt (F := 0) (G := 1) (fun r h => by simp at h) m 0 (by omega) (by simp) (by simp)
    show 0 + 1 ≤ cnt 1 m
    omega
  | n + 1, h => by
    have ih := riter_grows hm n fun j hj => h j (by omega)
    have ne := h n (by omega)
    obtain ⟨r, hr⟩ : ∃ r, (riter m a (n + 1)).testBit r ≠ (riter m a n).testBit r := by
      refine Classical.byContradiction fun z => ne (Nat.eq_of_testBit_eq fun r => ?_)
      exact Classical.byContradiction fun y => z ⟨r, y⟩
    have h1 : (riter m a n).testBit r = false := by
      cases e : (riter m a n).testBit r with
      | false => rfl
      | true => exact absurd ((riter_sub m a n r e).trans e.symm) hr
    have h2 : (riter m a (n + 1)).testBit r = true := by
      cases e : (riter m a (n + 1)).testBit r with
      | true => rfl
      | false => exact absurd (e.trans h1.symm) hr
    have hrm : r < m := by
      refine Classical.byContradiction fun z => ?_
      rw [testBit_above (riter_lt hm a (n + 1)) (by omega)] at h2
      cases h2
    have := cnt_lt (riter_sub m a n) m r hrm h1 h2
    omega
theorem riter_stops {m a : Nat} (hm : 1 ≤ m) : ∃ n, n < m ∧ riter m a (n + 1) = riter m a n := by
  refine Classical.byContradiction fun z => ?_
  have := riter_grows (a := a) hm m fun j hj e => z ⟨j, hj, e⟩
  have := cnt_le (riter m a m) m
  omega
theorem riter_end {m a n : Nat} (hm : 1 ≤ m) (h : riter m a (n + 1) = riter m a n) : riter m a n = rstar m a := by
  obtain ⟨j, hj, e⟩ := riter_stops (a := a) hm
  have e1 := riter_still e (m - j)
  rw [show j + (m - j) = m by omega] at e1
  show riter m a n = riter m a m
  rw [e1]
  by_cases hn : n ≤ j
  · have := riter_still h (j - n)
    rw [show n + (j - n) = j by omega] at this
    exact this.symm
  · have := riter_still e (n - j)
    rw [show j + (n - j) = n by omega] at this
    exact this
theorem rstar_fix {m a : Nat} (hm : 1 ≤ m) : rstar m a ||| rbeh m (rstar m a) a = rstar m a := by
  obtain ⟨j, hj, e⟩ := riter_stops (a := a) hm
  have e1 := riter_still e (m - j)
  have e2 := riter_still e (m + 1 - j)
  rw [show j + (m - j) = m by omega] at e1
  rw [show j + (m + 1 - j) = m + 1 by omega] at e2
  show riter m a (m + 1) = riter m a m
  rw [e1, e2]
theorem rstar_lt {m : Nat} (h : 1 ≤ m) (a : Nat) : rstar m a < 2 ^ m := riter_lt h a m
/-! the laws' own numbers for the kinds -/
def wh : Kd → Int
  | .few => 0 | .wid => 1 | .cnt => 2 | .lik => 3 | .cha => 4 | .mus => 5 | .rst _ => 6
def kd (w m : Int) : Kd := if w = 0 then .few else if w = 1 then .wid else if w = 2 then .cnt else if w = 3 then .lik else if w = 4 then .cha else if w = 5 then .mus else .rst m.toNat
theorem wh_kd {w m : Int} (h0 : 0 ≤ w) (h6 : w ≤ 6) : wh (kd w m) = w := by
  unfold kd
  by_cases e0 : w = 0
  · subst e0; rfl
  by_cases e1 : w = 1
  · subst e1; rfl
  by_cases e2 : w = 2
  · subst e2; rfl
  by_cases e3 : w = 3
  · subst e3; rfl
  by_cases e4 : w = 4
  · subst e4; rfl
  by_cases e5 : w = 5
  · subst e5; rfl
  rw [if_neg e0, if_neg e1, if_neg e2, if_neg e3, if_neg e4, if_neg e5]
  show (6 : Int) = w
  omega
theorem kd_rst {w m : Int} (hm : 0 ≤ m) {m' : Nat} (h : kd w m = .rst m') : m = (m' : Int) := by
  unfold kd at h
  by_cases e0 : w = 0
  · rw [if_pos e0] at h; cases h
  by_cases e1 : w = 1
  · rw [if_neg e0, if_pos e1] at h; cases h
  by_cases e2 : w = 2
  · rw [if_neg e0, if_neg e1, if_pos e2] at h; cases h
  by_cases e3 : w = 3
  · rw [if_neg e0, if_neg e1, if_neg e2, if_pos e3] at h; cases h
  by_cases e4 : w = 4
  · rw [if_neg e0, if_neg e1, if_neg e2, if_neg e3, if_pos e4] at h; cases h
  by_cases e5 : w = 5
  · rw [if_neg e0, if_neg e1, if_neg e2, if_neg e3, if_neg e4, if_pos e5] at h; cases h
  rw [if_neg e0, if_neg e1, if_neg e2, if_neg e3, if_neg e4, if_neg e5] at h
  injection h with h
  omega
theorem kd_ok {w m : Int} (h1 : 1 ≤ m) (h12 : m ≤ 12) : KOk (kd w m) := by
  cases e : kd w m with
  | rst m' => have := kd_rst (by omega) e; exact ⟨by omega, by omega⟩
  | _ => trivial
/-- a cell of the script -/
def cell (ns : List Int) (i : Nat) : Int := ns.getD i 0
/-- a drawn worth -/
def lawW2 (k : Kd) (c : Int) : Wo :=
  match k with
  | .few => .int (if c % 6 < 5 then c / 6 % 20 else c / 6 % 10 ^ 30)
  | .wid => .int (if c % 6 < 5 then c / 6 % 20 else c / 6 % (10 ^ 9 + 1))
  | .cnt => .int (if c % 6 < 5 then c / 6 % 5 - 1 else c / 6 % 10 ^ 30)
  | .lik => .rat (Rat.divInt (c / 6 % (1 + c / 6 / 7 % 12 + 1)) (1 + c / 6 / 7 % 12))
  | .cha => .rat (Rat.divInt (c / 6 % 9) (1 + c / 6 / 9 % 12))
  | .mus => .int (if c % 6 < 5 then c / 6 % 16 else c / 6 % 10 ^ 30)
  | .rst m => .int (c / 6 % 2 ^ m)
def lawW (k : Kd) (c : Int) : Wo := if c % 6 = 1 then noneW k else if c % 6 = 2 then restW k else lawW2 k c
theorem good_none (k : Kd) : Good k (noneW k) := by
  cases k <;> simp [noneW, Good]
  all_goals first | decide | exact Nat.two_pow_pos _ | skip
  · rename_i m; exact_mod_cast Nat.two_pow_pos m
theorem good_rest {k : Kd} (h : KOk k) : Good k (restW k) := by
  cases k <;> simp [restW, Good]
  all_goals first | decide | skip
  · rename_i m
    have : 1 < 2 ^ m := Nat.one_lt_two_pow (by have := h.1; omega)
    exact_mod_cast this
/-! ### K0: words for defs, methods, classes; calls that may raise; instances of classes without an __init__ -/
section
variable {P : Program} {w : World} {K : PySem.W.Frag} {mg : Str → Option Value} {base : Heap}
/-- a def of the module's top -/
structure Dfn (K : PySem.W.Frag) (mg : Str → Option Value) (x : Str) (st : Stmt) (ps : List Str) (f : Addr) (fd : FuncData) : Prop where
  g : mg x = some (.ref f)
  F : Fun K x x st f fd
  b : Binds K fd ps []
/-- a method of the class at C -/
structure Mth (K : PySem.W.Frag) (C : Addr) (m qual : Str) (st : Stmt) (ps : List Str) (f : Addr) (fd : FuncData) : Prop where
  me : Meth K C m f
  F : Fun K m qual st f fd
  b : Binds K fd ps []
/-- a class of the program's own -/
structure Clz (K : PySem.W.Frag) (mg : Str → Option Value) (x : Str) (C : Addr) : Prop where
  g : mg x = some (.ref C)
  cl : Cls K C
  kp : PySem.W.keepIn K (.ref C) = true
  mks : PySem.W.makesIn K C = true
  ha : PySem.W.findIn K (.ref C) "__class__" = some (some (.builtin "object.__class__"))
  hm : PySem.W.mroIn K C (.type "object") = some true
/-- it has no __init__ of its own -/
structure Bare (K : PySem.W.Frag) (C : Addr) : Prop where
  ini : PySem.W.findIn K (.ref C) "__init__" = some (some (.builtin "object.__init__"))
/-- what may be called by the name x: it keeps the promise sp -/
structure Fc (CX : CXT) (P : Program) (w : World) (K : PySem.W.Frag) (mg : Str → Option Value) (base : Heap) (k : Nat) (x : Str) (sp : Sp) : Prop where
  ex : ∃ (f : Addr) (fd : FuncData) (ps : List Str), FnOk P w K mg base CX k f fd ps sp ∧ mg x = some (.ref f) ∧ PySem.W.keepIn K (.ref f) = true ∧ Binds K fd ps []
structure Mc (CX : CXT) (P : Program) (w : World) (K : PySem.W.Frag) (mg : Str → Option Value) (base : Heap) (k : Nat) (C : Addr) (m : Str) (sp : Sp) : Prop where
  ex : ∃ (f : Addr) (fd : FuncData) (ps : List Str), FnOk P w K mg base CX k f fd ps sp ∧ Cls K C ∧ Meth K C m f ∧ Binds K fd ps []
theorem Fc.imp {CX : CXT} {k : Nat} {x : Str} {sp sp' : Sp} (F : Fc CX P w K mg base k x sp) (h : ∀ vs H Q E, sp' vs H Q E → sp vs H Q E) : Fc CX P w K mg base k x sp' := by
  obtain ⟨f, fd, ps, G, r⟩ := F.ex
  exact ⟨f, fd, ps, G.imp h, r⟩
theorem Mc.imp {CX : CXT} {k : Nat} {C : Addr} {x : Str} {sp sp' : Sp} (F : Mc CX P w K mg base k C x sp) (h : ∀ vs H Q E, sp' vs H Q E → sp vs H Q E) : Mc CX P w K mg base k C x sp' := by
  obtain ⟨f, fd, ps, G, r⟩ := F.ex
  exact ⟨f, fd, ps, G.imp h, r⟩
theorem Mc.mono {CX : CXT} {j k : Nat} {C : Addr} {x : Str} {sp : Sp} (F : Mc CX P w K mg base j C x sp) (h : j ≤ k) : Mc CX P w K mg base k C x sp := by
  obtain ⟨f, fd, ps, G, r⟩ := F.ex
  exact ⟨f, fd, ps, G.mono h, r⟩
/-- what raises nothing may stand where something may be raised -/
theorem anyCX {CX : CXT} {k : Nat} {f : Addr} {fd : FuncData} {ps : List Str} {sp : Sp} (F : FnOk P w K mg base CX0 k f fd ps sp) : FnOk P w K mg base CX k f fd ps sp :=
  ⟨F.len, fun A outer s H args us vs Q E hr he hb hv hs => codeAny_mono (F.run A outer s H args us vs Q E hr he hb hv hs) fun r s' h => by
    cases r with
    | error e => exact False.elim h
    | ok fl => cases fl <;> exact h⟩
theorem Fc.any {CX : CXT} {k : Nat} {x : Str} {sp : Sp} (F : Fc CX0 P w K mg base k x sp) : Fc CX P w K mg base k x sp := by
  obtain ⟨f, fd, ps, G, r⟩ := F.ex
  exact ⟨f, fd, ps, anyCX G, r⟩
theorem Mc.any {CX : CXT} {k : Nat} {C : Addr} {x : Str} {sp : Sp} (F : Mc CX0 P w K mg base k C x sp) : Mc CX P w K mg base k C x sp := by
  obtain ⟨f, fd, ps, G, r⟩ := F.ex
  exact ⟨f, fd, ps, anyCX G, r⟩
/-- by its body: nothing is raised -/
theorem fc0 {x : Str} {st : Stmt} {ps N : List Str} {f : Addr} {fd : FuncData} {k : Nat} {sp : Sp} (D : Dfn K mg x st ps f fd) (S : FnScope N ps (defScope st)) (len : ∀ vs H Q E, sp vs H Q E → vs.length = ps.length)
    (body : ∀ (cdv : Value) (A : Around) (outer : List Env) (s : Shared) (H : Hp) (vs : List V) (Q : VK) (E : XK), Room k (A.deeper (envOfC x (defScope st) s.heap.objs.size f cdv)) → sp vs H Q E →
      ∃ t, PSs (cxOf CX0 P w K mg base N x (defScope st) f cdv A outer s H E).nox (defBody st) t ∧ t { nx := fun _ H' => Q .non H', rt := Q } (start N vs) H) : Fc CX0 P w K mg base (k + 1) x sp :=
  ⟨f, fd, ps, D.F.ok S len body, D.g, D.F.kp, D.b⟩
theorem mc0 {C : Addr} {m qual : Str} {st : Stmt} {ps N : List Str} {f : Addr} {fd : FuncData} {k : Nat} {sp : Sp} (c : Cls K C) (D : Mth K C m qual st ps f fd) (S : FnScope N ps (defScope st)) (len : ∀ vs H Q E, sp vs H Q E → vs.length = ps.length)
    (body : ∀ (cdv : Value) (A : Around) (outer : List Env) (s : Shared) (H : Hp) (vs : List V) (Q : VK) (E : XK), Room k (A.deeper (envOfC qual (defScope st) s.heap.objs.size f cdv)) → sp vs H Q E →
      ∃ t, PSs (cxOf CX0 P w K mg base N qual (defScope st) f cdv A outer s H E).nox (defBody st) t ∧ t { nx := fun _ H' => Q .non H', rt := Q } (start N vs) H) : Mc CX0 P w K mg base (k + 1) C m sp :=
  ⟨f, fd, ps, D.F.ok S len body, c, D.me, D.b⟩
/-- by its body: something may be raised -/
theorem fcX {x : Str} {st : Stmt} {ps N : List Str} {f : Addr} {fd : FuncData} {k : Nat} {sp : Sp} (D : Dfn K mg x st ps f fd) (S : FnScope N ps (defScope st)) (len : ∀ vs H Q E, sp vs H Q E → vs.length = ps.length)
    (body : ∀ (cdv : Value) (A : Around) (outer : List Env) (s : Shared) (H : Hp) (vs : List V) (Q : VK) (E : XK), Room k (A.deeper (envOfC x (defScope st) s.heap.objs.size f cdv)) → sp vs H Q E →
      ∃ t, PSs (cxOf (L2.CX P w) P w K mg base N x (defScope st) f cdv A outer s H E) (defBody st) t ∧ t { nx := fun _ H' => Q .non H', rt := Q } (start N vs) H) : Fc (L2.CX P w) P w K mg base (k + 1) x sp :=
  ⟨f, fd, ps, D.F.okX S len body, D.g, D.F.kp, D.b⟩
theorem mcX {C : Addr} {m qual : Str} {st : Stmt} {ps N : List Str} {f : Addr} {fd : FuncData} {k : Nat} {sp : Sp} (c : Cls K C) (D : Mth K C m qual st ps f fd) (S : FnScope N ps (defScope st)) (len : ∀ vs H Q E, sp vs H Q E → vs.length = ps.length)
    (body : ∀ (cdv : Value) (A : Around) (outer : List Env) (s : Shared) (H : Hp) (vs : List V) (Q : VK) (E : XK), Room k (A.deeper (envOfC qual (defScope st) s.heap.objs.size f cdv)) → sp vs H Q E →
      ∃ t, PSs (cxOf (L2.CX P w) P w K mg base N qual (defScope st) f cdv A outer s H E) (defBody st) t ∧ t { nx := fun _ H' => Q .non H', rt := Q } (start N vs) H) : Mc (L2.CX P w) P w K mg base (k + 1) C m sp :=
  ⟨f, fd, ps, D.F.okX S len body, c, D.me, D.b⟩
end
section
variable {X : Cx} {CX : CXT} {k j : Nat} {C : Addr} {x m : Str} {sp : Sp} {E : XK} {ES : L2.St → XK} {p pos apos : Pos} {e o : Expr} {es : List Expr} {ta : TE} {t : TA}
/-- f(e, ..) -/
theorem pe_f (F : Fc CX X.prog X.w X.K X.mg X.base k x sp) (hr : Room j X.A) (hk : k ≤ j) (hx : Passes CX X E) (hg : Gl X x) (ha : PA X (e :: es) t)
    (hdb : (x == ("__debug__" : Str)) = false := by decide) (he : starEach (e :: es) X.env = (false, eval e X.env) :: starEach es X.env := by rfl) (hpl : (backTo pos (starEach es X.env)).any (·.1) = false := by rfl) :
    PE X (.Call (.Name x p) (e :: es) [] pos) (tCall sp [] E t) := by
  obtain ⟨f, fd, ps, G, hm, kp, b⟩ := F.ex
  exact pe_call G (hr.mono hk) hg hm kp b .nil hx ha hdb he hpl
/-- .. what is raised is wished for at the slots -/
theorem pe_fS (F : Fc CX X.prog X.w X.K X.mg X.base k x sp) (hr : Room j X.A) (hk : k ≤ j) (hx : ∀ σ, PassesAt CX X σ (ES σ)) (hg : Gl X x) (ha : PA X (e :: es) t)
    (hdb : (x == ("__debug__" : Str)) = false := by decide) (he : starEach (e :: es) X.env = (false, eval e X.env) :: starEach es X.env := by rfl) (hpl : (backTo pos (starEach es X.env)).any (·.1) = false := by rfl) :
    PE X (.Call (.Name x p) (e :: es) [] pos) (tCallS sp ES t) := by
  obtain ⟨f, fd, ps, G, hm, kp, b⟩ := F.ex
  exact pe_callS G (hr.mono hk) hg hm kp b hx ha hdb he hpl
/-- o.m(e, ..) -/
theorem pe_m {pl : Sem Bool} (F : Mc CX X.prog X.w X.K X.mg X.base k C m sp) (hr : Room j X.A) (hk : k ≤ j) (hx : Passes CX X E) (ho : PE X o ta) (ha : PA X (e :: es) t)
    (hst : starEach (e :: es) X.env = (false, eval e X.env) :: starEach es X.env := by rfl) (hpl : (backTo pos (starEach es X.env)).any (·.1) = false := by rfl)
    (ht : eval (.Call (.Attribute o m apos) (e :: es) [] pos) X.env = (do
      let ov ← eval o X.env
      standAt apos.atName
      let (f, first) ← holding [ov] (getMethod ov m pl)
      callWith pos f first (backTo pos (starEach (e :: es) X.env)) (backToKw pos (keywordEach [] X.env))) := by rfl) :
    PE X (.Call (.Attribute o m apos) (e :: es) [] pos) (tMeth C m sp [] E ta t) := by
  obtain ⟨f, fd, ps, G, c, hm, b⟩ := F.ex
  exact pe_meth (pl := pl) ho c hm G (hr.mono hk) b .nil hx ha hst hpl ht
/-- o.m() -/
theorem pe_m0 {pl : Sem Bool} (F : Mc CX X.prog X.w X.K X.mg X.base k C m sp) (hr : Room j X.A) (hk : k ≤ j) (hx : Passes CX X E) (ho : PE X o ta)
    (ht : eval (.Call (.Attribute o m apos) [] [] pos) X.env = (do
      let ov ← eval o X.env
      standAt apos.atName
      let (f, first) ← holding [ov] (getMethod ov m pl)
      callWith pos f first (backTo pos (starEach [] X.env)) (backToKw pos (keywordEach [] X.env))) := by rfl) :
    PE X (.Call (.Attribute o m apos) [] [] pos) (tMeth C m sp [] E ta tNil) := by
  obtain ⟨f, fd, ps, G, c, hm, b⟩ := F.ex
  exact pe_meth0 (pl := pl) ho c hm G (hr.mono hk) b .nil hx ht
/-- .. what is raised is wished for at the slots -/
def tMethS (C : Addr) (m : Str) (sp : Sp) (ES : L2.St → XK) (ta : TE) (t : TA) : TE := fun σ H Q => ta σ H fun x H1 => ∃ a dx fs, x = .ref a ∧ H1 a = some (.ins C dx fs) ∧ fs.lookup m = none ∧ t σ H1 fun vs H2 => sp (x :: vs) H2 Q (ES σ)
theorem pe_mS {pl : Sem Bool} (F : Mc CX X.prog X.w X.K X.mg X.base k C m sp) (hr : Room j X.A) (hk : k ≤ j) (hx : ∀ σ, PassesAt CX X σ (ES σ)) (ho : PE X o ta) (ha : PA X (e :: es) t)
    (hst : starEach (e :: es) X.env = (false, eval e X.env) :: starEach es X.env := by rfl) (hpl : (backTo pos (starEach es X.env)).any (·.1) = false := by rfl)
    (ht : eval (.Call (.Attribute o m apos) (e :: es) [] pos) X.env = (do
      let ov ← eval o X.env
      standAt apos.atName
      let (f, first) ← holding [ov] (getMethod ov m pl)
      callWith pos f first (backTo pos (starEach (e :: es) X.env)) (backToKw pos (keywordEach [] X.env))) := by rfl) :
    PE X (.Call (.Attribute o m apos) (e :: es) [] pos) (tMethS C m sp ES ta t) := by
  obtain ⟨f, fd, ps, G, c, hm, b⟩ := F.ex
  constructor
  intro pins s σ H Q I h
  refine PySem.W.methodCall_KW (pl := pl) (thn (ho.run pins s σ H _ I h) ?_) ht
  rintro u s1 ⟨y, H1, I1, ry, a, dx, fs, rfl, ea, l, q⟩
  cases ry
  refine getmeth_ok I1 ea c hm l ?_
  refine PySem.W.callWith_K (first := [.ref a]) (h₀ := X.base) I.ok.mod.kin hm.kp (thn (ha.run pos pins s1 σ H1 _ I1 q) ?_) hst hpl
  rintro us s2 ⟨vs, H2, I2, r, q2⟩
  exact ⟨I2.kIn, run_fnS (us := .ref a :: us) (vs := .ref a :: vs) G (hr.mono hk) b (hx σ) I2 (.cons rfl r) q2⟩
/-- a reading out of a family -/
theorem pe_any {ι : Type} {T : ι → TE} (h : ∀ i, PE X e (T i)) : PE X e (fun σ H Q => ∃ i, T i σ H Q) := ⟨fun pins s σ H Q I ⟨i, q⟩ => (h i).run pins s σ H Q I q⟩
theorem pe_imp {T T' : TE} (h : PE X e T) (hi : ∀ σ H Q, T' σ H Q → T σ H Q) : PE X e T' := ⟨fun pins s σ H Q I q => h.run pins s σ H Q I (hi σ H Q q)⟩
theorem ps_any {st : Stmt} {ι : Type} {T : ι → TS} (h : ∀ i, PS X st (T i)) : PS X st (fun D σ H => ∃ i, T i D σ H) := ⟨fun pins s σ H D I ⟨i, q⟩ => (h i).run pins s σ H D I q⟩
/-- C(), C without an __init__ -/
theorem pe_new0 (c : Clz X.K X.mg x C) (b : Bare X.K C) (hg : Gl X x) (hdb : (x == ("__debug__" : Str)) = false := by decide) :
    PE X (.Call (.Name x p) [] [] pos) (fun _ H Q => ∀ a dx, H a = none → H dx = none → dx ≠ a → Q (.ref a) (upd (upd H dx (.own a)) a (.ins C dx []))) := by
  constructor
  intro pins s σ H Q I h
  refine wpAny_Call_Name_kw (ld_glob I hg c.g ?_ hdb)
  refine PySem.W.callWith_K0 I.kIn c.kp (wpAny_call ?_)
  have I2 := Inv.made (C := C) I
  have KX := I2.kIn
  refine make_map0 I.kIn c.mks b.ini (fun self => PySem.W.Looks.of_pure (PySem.W.oi_bind self)) ?_
  have e2 : ((s.heap.push PySem.W.emptyDict).push (PySem.W.instObj C s.heap.objs.size)).get? (s.heap.objs.size + 1) = some (PySem.W.instObj C s.heap.objs.size) := by
    have := Heap.get?_push_size (s.heap.push PySem.W.emptyDict) (o := PySem.W.instObj C s.heap.objs.size) rfl
    rwa [Heap.size_push] at this
  have t1 : PySem.W.Looks (model X.prog X.w) ((s.heap.push PySem.W.emptyDict).push (PySem.W.instObj C s.heap.objs.size)) (typeOf (.ref (s.heap.objs.size + 1))) (.ref C) := (PySem.W.Looks.ld e2).andThen .now
  have t2 : PySem.W.Looks (model X.prog X.w) ((s.heap.push PySem.W.emptyDict).push (PySem.W.instObj C s.heap.objs.size)) (isInstance (.ref (s.heap.objs.size + 1)) (.type "object")) true := t1.andThen (PySem.W.looks_mroIn KX c.hm)
  refine codeAny_call_builtin PySem.W.oi_plain PySem.W.entry_oi (@PySem.W.check_slot (model X.prog X.w) _ _ _ "object.__init__" "object" "__init__" (.ref (s.heap.objs.size + 1)) [] [] _ PySem.W.oi_kind PySem.W.oi_split t2 (PySem.W.oi_args _) ?_)
  rw [PySem.W.oi_run]
  exact wpAny_pure ⟨rfl, V.ref (s.heap.objs.size + 1), _, I2, rfl, h _ _ (I.hok.fresh (Nat.le_succ _)) (I.hok.fresh (Nat.le_refl _)) (Nat.ne_of_lt (Nat.lt_succ_self _))⟩
end
/-- an __init__ -/
structure Ini (K : PySem.W.Frag) (C : Addr) (qual : Str) (st : Stmt) (ps : List Str) (f : Addr) (fd : FuncData) : Prop where
  M : Mk K C f
  F : Fun K "__init__" qual st f fd
  b : Binds K fd ps []
/-- an exception's class -/
structure Exz (K : PySem.W.Frag) (mg : Str → Option Value) (x : Str) (C : Addr) : Prop where
  g : mg x = some (.ref C)
  kp : PySem.W.keepIn K (.ref C) = true
  ex : PySem.W.excIn K C [.type "ValueError", .type "Exception", .type "BaseException", .type "object"] "ValueError.__new__" = true
  bs : PySem.W.subIn K (.ref C) (.type "BaseException") = some true
  ty : PySem.W.typeIn K (.ref C) = some (.type "type")
  is : PySem.W.isClsIn K C = true
  ec : ExcC K C
theorem kit_ref {K : PySem.W.Frag} {C D : Addr} {b : Bool} (h1 : PySem.W.isClsIn K D = true) (h2 : PySem.W.typeIn K (.ref D) = some (.type "type")) (h3 : PySem.W.subIn K (.ref C) (.ref D) = some b) (h4 : C ≠ D ∨ b = true) : PySem.W.kitOne K (.ref C) (.ref D) = some b := by
  unfold PySem.W.kitOne
  by_cases e : C = D
  · subst e
    rw [if_pos (by simp)]
    rcases h4 with h | h
    · exact absurd rfl h
    · rw [h]
  · have ne : ((Value.ref C : Value) == .ref D) = false := by simp [e]
    rw [ne, if_neg Bool.false_ne_true]
    unfold PySem.W.kitCls
    have h1' : (PySem.W.clsIn K D).isSome = true := h1
    have e2 : ((PySem.W.clsIn K D).isSome && PySem.W.typeIn K (.ref D) == some (.type "type")) = true := by rw [h1', h2] <;> rfl
    show (if ((PySem.W.clsIn K D).isSome && PySem.W.typeIn K (.ref D) == some (.type "type")) = true then PySem.W.subIn K (.ref C) (.ref D) else none) = some b
    rw [if_pos e2]
    exact h3
theorem kit_val {K : PySem.W.Frag} {C : Addr} (h : PySem.W.subIn K (.ref C) (.type "ValueError") = some true) : PySem.W.kitOne K (.ref C) (.type "ValueError") = some true := by
  unfold PySem.W.kitOne
  have ne : ((Value.ref C : Value) == .type "ValueError") = false := by simp
  rw [ne, if_neg Bool.false_ne_true]
  show (if PySem.W.kitMeta "ValueError" = true then PySem.W.subIn K (.ref C) (.type "ValueError") else none) = some true
  rw [if_pos (by decide +kernel)]
  exact h
theorem exm_of_kit {K : PySem.W.Frag} {C D : Addr} {b : Bool} (hb : PySem.W.subIn K (.ref D) (.type "BaseException") = some true) (h1 : PySem.W.isClsIn K D = true) (h2 : PySem.W.typeIn K (.ref D) = some (.type "type")) (h3 : PySem.W.subIn K (.ref C) (.ref D) = some b) : PySem.W.exmOne K (.ref C) (.ref D) = some b := by
  unfold PySem.W.exmOne
  have e1 : (PySem.W.subIn K (.ref D) (.type "BaseException") == some true) = true := by rw [hb] <;> rfl
  rw [if_pos e1]
  unfold PySem.W.kitCls
  have h1' : (PySem.W.clsIn K D).isSome = true := h1
  have e2 : ((PySem.W.clsIn K D).isSome && PySem.W.typeIn K (.ref D) == some (.type "type")) = true := by rw [h1', h2] <;> rfl
  show (if ((PySem.W.clsIn K D).isSome && PySem.W.typeIn K (.ref D) == some (.type "type")) = true then PySem.W.subIn K (.ref C) (.ref D) else none) = some b
  rw [if_pos e2]
  exact h3
/-- C(e, ..) -/
structure Nc (CX : CXT) (P : Program) (w : World) (K : PySem.W.Frag) (mg : Str → Option Value) (base : Heap) (k : Nat) (x : Str) (C : Addr) (sp : Sp) : Prop where
  ex : ∃ (f : Addr) (fd : FuncData) (ps : List Str), FnOk P w K mg base CX k f fd ps sp ∧ Mk K C f ∧ mg x = some (.ref C) ∧ Binds K fd ps []
section
variable {X : Cx} {CX : CXT} {k j : Nat} {C : Addr} {x : Str} {sp : Sp} {E : XK} {ES : L2.St → XK} {p pos : Pos} {e : Expr} {es : List Expr} {t : TA}
theorem pe_nc (F : Nc CX X.prog X.w X.K X.mg X.base k x C sp) (hr : Room j X.A) (hk : k + 1 ≤ j) (hx : Passes CX X E) (hg : Gl X x) (ha : PA X (e :: es) t)
    (hdb : (x == ("__debug__" : Str)) = false := by decide) (he : starEach (e :: es) X.env = (false, eval e X.env) :: starEach es X.env := by rfl) (hpl : (backTo pos (starEach es X.env)).any (·.1) = false := by rfl) :
    PE X (.Call (.Name x p) (e :: es) [] pos) (tMake C sp [] E t) := by
  obtain ⟨f, fd, ps, G, M, hm, b⟩ := F.ex
  exact pe_make M G (hr.mono hk) hg hm b .nil hx ha hdb he hpl
/-- .. what is raised is wished for at the slots -/
def tNew (C : Addr) (sp : Sp) (ES : L2.St → XK) (t : TA) : TE := fun σ H Q => t σ H fun vs H1 => ∀ a d, H1 a = none → H1 d = none → d ≠ a → sp (.ref a :: vs) (upd (upd H1 d (.own a)) a (.ins C d [])) (fun z H2 => z = .non ∧ Q (.ref a) H2) (ES σ)
theorem pe_ncS (F : Nc CX X.prog X.w X.K X.mg X.base k x C sp) (hr : Room j X.A) (hk : k + 1 ≤ j) (hx : ∀ σ, PassesAt CX X σ (ES σ)) (hg : Gl X x) (ha : PA X (e :: es) t)
    (hdb : (x == ("__debug__" : Str)) = false := by decide) (he : starEach (e :: es) X.env = (false, eval e X.env) :: starEach es X.env := by rfl) (hpl : (backTo pos (starEach es X.env)).any (·.1) = false := by rfl) :
    PE X (.Call (.Name x p) (e :: es) [] pos) (tNew C sp ES t) := by
  obtain ⟨f, fd, ps, G, M, hm, b⟩ := F.ex
  constructor
  intro pins s σ H Q I h
  refine wpAny_Call_Name_kw (ld_glob I hg hm ?_ hdb)
  refine PySem.W.callWith_K (h₀ := X.base) I.ok.mod.kin M.kp (thn (ha.run pos pins s σ H _ I h) ?_) he hpl
  rintro us s1 ⟨vs, H1, J, r, q⟩
  refine ⟨J.kIn, wpAny_call ?_⟩
  have J2 := J.made (C := C)
  have q1 := q _ _ (J.hok.fresh (Nat.le_succ _)) (J.hok.fresh (Nat.le_refl _)) (Nat.ne_of_lt (Nat.lt_succ_self _))
  have r1 : Vals (V.ref (s1.heap.objs.size + 1) :: vs) (Value.ref (s1.heap.objs.size + 1) :: us) := .cons rfl r
  have n1 := r1.length.symm.trans (G.len _ _ _ _ q1)
  have b1 := b _ (Value.ref (s1.heap.objs.size + 1) :: us) J2.kIn (by rw [List.append_nil]; exact n1)
  rw [List.append_nil] at b1
  refine make_map (f := f) J.kIn M.makes M.init (beq_iff_eq.mp M.fn) (codeAny_mono (G.run _ X.stack _ _ ⟨_, []⟩ _ _ _ _ ((hr.mono hk).make C us []) (J2.env0.make C us []) b1 r1 q1) ?_)
  rintro (e | fl) s' h'
  · exact hx σ _ _ _ e s' J2 h'
  · cases fl with
    | ret u =>
      obtain ⟨z, H', J3, rz, ez, q3⟩ := J2.after h'
      subst ez
      exact ⟨rz, V.ref (s1.heap.objs.size + 1), H', J3, rfl, q3⟩
    | next => exact h'.elim
    | brk => exact h'.elim
    | cont => exact h'.elim
end
section
variable {P : Program} {w : World} {K : PySem.W.Frag} {mg : Str → Option Value} {base : Heap} {N : List Str} {q : Str} {sc : Scope} {f : Addr} {cd : Value} {A : Around} {outer : List Env} {s : Shared} {H : Hp} {E : XK}
/-- what a callee raises leaves this def too -/
theorem passEAt (σ : L2.St) : PassesAt (L2.CX P w) (cxOf (L2.CX P w) P w K mg base N q sc f cd A outer s H E) σ E := fun pins H1 s1 e s2 I h => passes_call (takes_of rfl rfl rfl rfl) (fun _ _ _ _ h => h) pins σ H1 s1 e s2 I h
theorem passE : Passes (L2.CX P w) (cxOf (L2.CX P w) P w K mg base N q sc f cd A outer s H E) E := passes_call (takes_of rfl rfl rfl rfl) (fun _ _ _ _ h => h)
end
/-- one by one -/
def Al {α : Type} (R : V → α → Prop) (vs : List V) (rs : List α) : Prop := vs.length = rs.length ∧ ∀ (i : Nat) (v : V) (r : α), vs[i]? = some v → rs[i]? = some r → R v r
section
variable {α : Type} {R R' : V → α → Prop} {vs : List V} {rs : List α}
theorem Al.nil : Al R [] [] := ⟨rfl, fun i v r h => by simp at h⟩
theorem Al.len (h : Al R vs rs) : vs.length = rs.length := h.1
theorem Al.get (h : Al R vs rs) {i : Nat} {v : V} (e : vs[i]? = some v) : ∃ r, rs[i]? = some r ∧ R v r := by
  have hi : i < vs.length := (List.getElem?_eq_some_iff.1 e).1
  have hj : i < rs.length := by rw [← h.1]; exact hi
  exact ⟨rs[i], List.getElem?_eq_getElem hj, h.2 i v _ e (List.getElem?_eq_getElem hj)⟩
theorem Al.getR (h : Al R vs rs) {i : Nat} {r : α} (e : rs[i]? = some r) : ∃ v, vs[i]? = some v ∧ R v r := by
  have hi : i < rs.length := (List.getElem?_eq_some_iff.1 e).1
  have hj : i < vs.length := by rw [h.1]; exact hi
  exact ⟨vs[i], List.getElem?_eq_getElem hj, h.2 i _ r (List.getElem?_eq_getElem hj) e⟩
theorem Al.imp (h : Al R vs rs) (f : ∀ v r, R v r → R' v r) : Al R' vs rs := ⟨h.1, fun i v r e1 e2 => f v r (h.2 i v r e1 e2)⟩
theorem Al.snoc (h : Al R vs rs) {v : V} {r : α} (hr : R v r) : Al R (vs ++ [v]) (rs ++ [r]) := by
  refine ⟨by rw [List.length_append, List.length_append, h.1]; rfl, fun i v' r' e1 e2 => ?_⟩
  by_cases hi : i < vs.length
  · rw [List.getElem?_append_left hi] at e1
    rw [List.getElem?_append_left (by rw [← h.1]; exact hi)] at e2
    exact h.2 i v' r' e1 e2
  · rw [List.getElem?_append_right (by omega)] at e1
    rw [List.getElem?_append_right (by rw [← h.1]; omega)] at e2
    have h0 : i - vs.length = 0 := by
      have := (List.getElem?_eq_some_iff.1 e1).1
      simp at this; omega
    rw [← h.1, h0] at e2
    rw [h0] at e1
    cases e1; cases e2
    exact hr
end
/-- where the classes stand -/
structure Ad where
  SumError : Addr
  NoNet : Addr
  NoWorth : Addr
  Kind : Addr
  Fewest : Addr
  Widest : Addr
  Counted : Addr
  Likeliest : Addr
  Chances : Addr
  Musts : Addr
  Rests : Addr
  Net : Addr
/-- the kinds that the text has -/
def Av : Kx → Bool
  | .few => true
  | .wid => true
  | .cnt => true
  | .lik => true
  | .cha => true
  | .mus => true
  | .rst => true
def Ad.C (A : Ad) : Kx → Addr
  | .few => A.Fewest
  | .wid => A.Widest
  | .cnt => A.Counted
  | .lik => A.Likeliest
  | .cha => A.Chances
  | .mus => A.Musts
  | .rst => A.Rests
/-- what the top has written -/
structure Tx (K : PySem.W.Frag) (mg : Str → Option Value) (A : Ad) : Prop where
  d_common : ∃ f fd, Dfn K mg "common" s_common ["one", "other"] f fd
  d_lowest : ∃ f fd, Dfn K mg "lowest" s_lowest ["top", "below"] f fd
  d_is_share : ∃ f fd, Dfn K mg "is_share" s_is_share ["some"] f fd
  d_added : ∃ f fd, Dfn K mg "added" s_added ["one", "other"] f fd
  d_less : ∃ f fd, Dfn K mg "less" s_less ["one", "other"] f fd
  d__law_cell_at : ∃ f fd, Dfn K mg "_law_cell_at" s__law_cell_at ["script", "k"] f fd
  d__law_kind : ∃ f fd, Dfn K mg "_law_kind" s__law_kind ["which", "m"] f fd
  d__law_share : ∃ f fd, Dfn K mg "_law_share" s__law_share ["top", "below"] f fd
  d__law_none : ∃ f fd, Dfn K mg "_law_none" s__law_none ["which"] f fd
  d__law_rest : ∃ f fd, Dfn K mg "_law_rest" s__law_rest ["which"] f fd
  d__law_tog : ∃ f fd, Dfn K mg "_law_tog" s__law_tog ["which", "one", "other"] f fd
  d__law_worth : ∃ f fd, Dfn K mg "_law_worth" s__law_worth ["which", "m", "cell"] f fd
  d__law_thinned : ∃ f fd, Dfn K mg "_law_thinned" s__law_thinned ["many", "roads"] f fd
  d__law_net : ∃ f fd, Dfn K mg "_law_net" s__law_net ["script", "at", "which", "m", "most", "extra"] f fd
  d__law_which : ∃ f fd, Dfn K mg "_law_which" s__law_which ["e"] f fd
  d__law_turned : ∃ f fd, Dfn K mg "_law_turned" s__law_turned ["script", "which", "many", "roads"] f fd
  c_Kind : Clz K mg "Kind" A.Kind
  b_Kind : Bare K A.Kind
  c_Fewest : Clz K mg "Fewest" A.Fewest
  b_Fewest : Bare K A.Fewest
  c_Widest : Clz K mg "Widest" A.Widest
  b_Widest : Bare K A.Widest
  c_Counted : Clz K mg "Counted" A.Counted
  b_Counted : Bare K A.Counted
  c_Likeliest : Clz K mg "Likeliest" A.Likeliest
  b_Likeliest : Bare K A.Likeliest
  c_Chances : Clz K mg "Chances" A.Chances
  b_Chances : Bare K A.Chances
  c_Musts : Clz K mg "Musts" A.Musts
  b_Musts : Bare K A.Musts
  c_Rests : Clz K mg "Rests" A.Rests
  c_Net : Clz K mg "Net" A.Net
  m_Fewest_rest : ∃ f fd, Mth K A.Fewest "rest" "Fewest.rest" s_Fewest_rest ["self"] f fd
  m_Fewest_is_worth : ∃ f fd, Mth K A.Fewest "is_worth" "Fewest.is_worth" s_Fewest_is_worth ["self", "some"] f fd
  m_Widest_rest : ∃ f fd, Mth K A.Widest "rest" "Widest.rest" s_Widest_rest ["self"] f fd
  m_Widest_is_worth : ∃ f fd, Mth K A.Widest "is_worth" "Widest.is_worth" s_Widest_is_worth ["self", "some"] f fd
  m_Counted_rest : ∃ f fd, Mth K A.Counted "rest" "Counted.rest" s_Counted_rest ["self"] f fd
  m_Counted_is_worth : ∃ f fd, Mth K A.Counted "is_worth" "Counted.is_worth" s_Counted_is_worth ["self", "some"] f fd
  m_Likeliest_rest : ∃ f fd, Mth K A.Likeliest "rest" "Likeliest.rest" s_Likeliest_rest ["self"] f fd
  m_Likeliest_is_worth : ∃ f fd, Mth K A.Likeliest "is_worth" "Likeliest.is_worth" s_Likeliest_is_worth ["self", "some"] f fd
  m_Chances_rest : ∃ f fd, Mth K A.Chances "rest" "Chances.rest" s_Chances_rest ["self"] f fd
  m_Chances_is_worth : ∃ f fd, Mth K A.Chances "is_worth" "Chances.is_worth" s_Chances_is_worth ["self", "some"] f fd
  m_Musts_rest : ∃ f fd, Mth K A.Musts "rest" "Musts.rest" s_Musts_rest ["self"] f fd
  m_Musts_is_worth : ∃ f fd, Mth K A.Musts "is_worth" "Musts.is_worth" s_Musts_is_worth ["self", "some"] f fd
  m_Rests___init__ : ∃ f fd, Ini K A.Rests "Rests.__init__" s_Rests___init__ ["self", "m"] f fd
  m_Rests_rest : ∃ f fd, Mth K A.Rests "rest" "Rests.rest" s_Rests_rest ["self"] f fd
  m_Rests_is_worth : ∃ f fd, Mth K A.Rests "is_worth" "Rests.is_worth" s_Rests_is_worth ["self", "some"] f fd
  m_Net___init__ : ∃ f fd, Ini K A.Net "Net.__init__" s_Net___init__ ["self", "kind", "places", "roads"] f fd
  m_Net_ask_shares : ∃ f fd, Mth K A.Net "ask_shares" "Net.ask_shares" s_Net_ask_shares ["self", "kind", "places", "roads"] f fd
  m_Net_kind : ∃ f fd, Mth K A.Net "kind" "Net.kind" s_Net_kind ["self"] f fd
  m_Net_places : ∃ f fd, Mth K A.Net "places" "Net.places" s_Net_places ["self"] f fd
  m_Net_roads : ∃ f fd, Mth K A.Net "roads" "Net.roads" s_Net_roads ["self"] f fd
  x_SumError : Exz K mg "SumError" A.SumError
  x_NoNet : Exz K mg "NoNet" A.NoNet
  x_NoWorth : Exz K mg "NoWorth" A.NoWorth
  k_Fewest_Chances : PySem.W.kitOne K (.ref A.Fewest) (.ref A.Chances) = some false
  k_Widest_Chances : PySem.W.kitOne K (.ref A.Widest) (.ref A.Chances) = some false
  k_Counted_Chances : PySem.W.kitOne K (.ref A.Counted) (.ref A.Chances) = some false
  k_Likeliest_Chances : PySem.W.kitOne K (.ref A.Likeliest) (.ref A.Chances) = some false
  k_Chances_Chances : PySem.W.kitOne K (.ref A.Chances) (.ref A.Chances) = some true
  k_Musts_Chances : PySem.W.kitOne K (.ref A.Musts) (.ref A.Chances) = some false
  k_Rests_Chances : PySem.W.kitOne K (.ref A.Rests) (.ref A.Chances) = some false
  k_SumError_NoNet : PySem.W.kitOne K (.ref A.SumError) (.ref A.NoNet) = some false
  k_NoNet_NoNet : PySem.W.kitOne K (.ref A.NoNet) (.ref A.NoNet) = some true
  k_NoWorth_NoNet : PySem.W.kitOne K (.ref A.NoWorth) (.ref A.NoNet) = some false
  k_SumError_NoWorth : PySem.W.kitOne K (.ref A.SumError) (.ref A.NoWorth) = some false
  k_NoNet_NoWorth : PySem.W.kitOne K (.ref A.NoNet) (.ref A.NoWorth) = some false
  k_NoWorth_NoWorth : PySem.W.kitOne K (.ref A.NoWorth) (.ref A.NoWorth) = some true
  k_SumError_SumError : PySem.W.kitOne K (.ref A.SumError) (.ref A.SumError) = some true
  k_NoNet_SumError : PySem.W.kitOne K (.ref A.NoNet) (.ref A.SumError) = some true
  k_NoWorth_SumError : PySem.W.kitOne K (.ref A.NoWorth) (.ref A.SumError) = some true
  e_SumError_SumError : PySem.W.exmOne K (.ref A.SumError) (.ref A.SumError) = some true
  e_NoNet_SumError : PySem.W.exmOne K (.ref A.NoNet) (.ref A.SumError) = some true
  e_NoWorth_SumError : PySem.W.exmOne K (.ref A.NoWorth) (.ref A.SumError) = some true
  v_SumError : PySem.W.kitOne K (.ref A.SumError) (.type "ValueError") = some true
  v_NoNet : PySem.W.kitOne K (.ref A.NoNet) (.type "ValueError") = some true
  v_NoWorth : PySem.W.kitOne K (.ref A.NoWorth) (.type "ValueError") = some true
  a_Net_many : NoAttr K A.Net "many"
  a_Net_rows : NoAttr K A.Net "rows"
  a_Net_sort_of : NoAttr K A.Net "sort_of"
  a_Rests_m : NoAttr K A.Rests "m"
  n_len : mg "len" = none
  n_range : mg "range" = none
  n_isinstance : mg "isinstance" = none
  n_min : mg "min" = none
  n_max : mg "max" = none
  n_list : mg "list" = none
  n_tuple : mg "tuple" = none
  n_int : mg "int" = none
  n_ValueError : mg "ValueError" = none
  g_WIDEST : ∃ u, mg "WIDEST" = some u ∧ RelV (.int 1000000000) u
  g_MOST_PLACES : ∃ u, mg "MOST_PLACES" = some u ∧ RelV (.int 8) u
  g_MOST_ROADS : ∃ u, mg "MOST_ROADS" = some u ∧ RelV (.int 64) u
  hn : PySem.W.specialIn K (.builtin "object.__class__") "__get__" = some (some (.builtin "getset_descriptor.__get__"))
  ht : PySem.W.takesIn K (.builtin "object.__class__") = some true
/-! ### M2: shares as numbers -/
theorem low_num (t b : Int) (hb : 0 < b) : (Rat.divInt t b).num = t / (Int.gcd t b : Int) := by
  rw [Rat.num_divInt, Int.sign_eq_one_of_pos hb, Int.one_mul, Int.gcd_comm]
theorem low_den (t b : Int) (hb : 0 < b) : ((Rat.divInt t b).den : Int) = b / (Int.gcd t b : Int) := by
  rw [Rat.den_divInt, if_neg (by omega), Int.natCast_ediv, Int.gcd_comm, Int.natAbs_of_nonneg (by omega)]
theorem rat_add (r s : Rat) : Rat.divInt (r.num * s.den + s.num * r.den) (r.den * s.den) = r + s := by
  rw [Rat.add_def', ← Rat.divInt_ofNat, Int.natCast_mul]
theorem rat_mul (r s : Rat) : Rat.divInt (r.num * s.num) (r.den * s.den) = r * s := by
  rw [Rat.mul_def', ← Rat.divInt_ofNat, Int.natCast_mul]
theorem den_pos (r : Rat) : (0 : Int) < r.den := by have := r.den_pos; omega
theorem rat_lt_one (r : Rat) : r < 1 ↔ r.num < r.den := by
  rw [Rat.lt_iff]
  show r.num * 1 < 1 * (r.den : Int) ↔ _
  omega
theorem rat_le_one (r : Rat) : r ≤ 1 ↔ r.num ≤ r.den := by
  rw [Rat.le_iff]
  show r.num * 1 ≤ 1 * (r.den : Int) ↔ _
  omega
theorem rat_star (r : Rat) (h : r < 1) : Rat.divInt r.den (r.den - r.num) = 1 / (1 - r) := by
  have h1 := (rat_lt_one r).1 h
  have hd := den_pos r
  have e : (1 : Rat) - r = Rat.divInt (r.den - r.num) r.den := by
    have e1 : (1 : Rat) = Rat.divInt r.den r.den := (Rat.divInt_self' (by omega)).symm
    have e2 : r = Rat.divInt r.num r.den := (Rat.num_divInt_den r).symm
    conv => lhs; rw [e1]; arg 2; rw [e2]
    rw [Rat.sub_eq_add_neg, Rat.neg_divInt, Rat.divInt_add_divInt _ _ (by omega) (by omega)]
    have : (r.den : Int) * r.den + -r.num * r.den = (r.den - r.num) * r.den := by grind
    rw [this, Rat.divInt_mul_right (by omega)]
  rw [e, Rat.div_def, Rat.inv_divInt, Rat.one_mul]
theorem gcd_step (a b : Int) : Int.gcd b (a % b) = Int.gcd a b := by
  rw [Int.gcd_comm b, Int.emod_def]; simp
theorem gcd_pos' (a b : Int) (h : 0 < b) : (0 : Int) < (Int.gcd a b : Int) := by
  have := Int.gcd_pos_of_ne_zero_right a (b := b) (by omega)
  omega
theorem gcd_le' (a b : Int) (h : 0 < b) : (Int.gcd a b : Int) ≤ b := Int.gcd_le_right a h
theorem rat_dvi {t b : Int} (ht : 0 ≤ t) (hb : 0 < b) : 0 ≤ Rat.divInt t b := by
  rw [← Rat.num_nonneg, Rat.num_divInt, Int.sign_eq_one_of_pos hb, Int.one_mul]
  exact Int.ediv_nonneg ht (by omega)
theorem rat_dvi1 {t b : Int} (htb : t ≤ b) (hb : 0 < b) : Rat.divInt t b ≤ 1 := by
  rw [rat_le_one, low_num t b hb, low_den t b hb]
  exact Int.ediv_le_ediv (gcd_pos' t b hb) htb
theorem good_law {k : Kd} (h : KOk k) (c : Int) : Good k (lawW k c) := by
  unfold lawW
  split
  · exact good_none k
  split
  · exact good_rest h
  have hp : (0 : Int) < 10 ^ 30 := by decide
  cases k with
  | few => show 0 ≤ (if c % 6 < 5 then c / 6 % 20 else c / 6 % 10 ^ 30); split <;> exact Int.emod_nonneg _ (by decide)
  | wid =>
    show 0 ≤ (if c % 6 < 5 then c / 6 % 20 else c / 6 % (10 ^ 9 + 1)) ∧ (if c % 6 < 5 then c / 6 % 20 else c / 6 % (10 ^ 9 + 1)) ≤ 1000000000
    split <;> omega
  | cnt => show -1 ≤ (if c % 6 < 5 then c / 6 % 5 - 1 else c / 6 % 10 ^ 30); split <;> omega
  | lik =>
    have hb0 : 0 ≤ c / 6 / 7 % 12 := Int.emod_nonneg _ (by decide)
    have h1 := Int.emod_nonneg (c / 6) (b := 1 + c / 6 / 7 % 12 + 1) (by omega)
    have h2 := Int.emod_lt_of_pos (c / 6) (b := 1 + c / 6 / 7 % 12 + 1) (by omega)
    exact ⟨rat_dvi h1 (by omega), rat_dvi1 (by omega) (by omega)⟩
  | cha =>
    have hb0 : 0 ≤ c / 6 / 9 % 12 := Int.emod_nonneg _ (by decide)
    exact rat_dvi (Int.emod_nonneg _ (by decide)) (by omega)
  | mus => show 0 ≤ (if c % 6 < 5 then c / 6 % 16 else c / 6 % 10 ^ 30); split <;> exact Int.emod_nonneg _ (by decide)
  | rst m => exact ⟨Int.emod_nonneg _ (by have : (0 : Int) < 2 ^ m := Int.pow_pos (by decide); omega), Int.emod_lt_of_pos _ (Int.pow_pos (by decide))⟩
theorem sz_int {i : Int} {n : Nat} (h : i.natAbs < 2 ^ n) (hn : 0 < n) : sz (.int i) ≤ n := by
  simp only [sz]
  by_cases h0 : i.natAbs = 0
  · rw [h0]; simp; omega
  · have := (Nat.log2_lt h0).2 h
    omega
theorem log2_lt_of {a n : Nat} (h : a < 2 ^ n) (hn : 0 < n) : a.log2 < n := by
  by_cases h0 : a = 0
  · rw [h0]; simpa using hn
  · exact (Nat.log2_lt h0).2 h
theorem sz_rat {r : Rat} {n : Nat} (h : r.num.natAbs < 2 ^ n) (h2 : r.den < 2 ^ n) (hn : 0 < n) : sz (.rat r) ≤ n := by
  simp only [sz]
  have := log2_lt_of h hn
  have := log2_lt_of h2 hn
  omega
theorem dvi_num_le {t b : Int} (ht : 0 ≤ t) (hb : 0 < b) : (Rat.divInt t b).num ≤ t ∧ 0 ≤ (Rat.divInt t b).num := by
  rw [low_num t b hb]
  exact ⟨Int.ediv_le_self _ ht, Int.ediv_nonneg ht (by omega)⟩
theorem dvi_den_le {t b : Int} (hb : 0 < b) : ((Rat.divInt t b).den : Int) ≤ b := by
  rw [low_den t b hb]
  exact Int.ediv_le_self _ (by omega)
theorem sz_dvi {t b : Int} {n : Nat} (ht : 0 ≤ t) (hb : 0 < b) (h1 : t < 2 ^ n) (h2 : b < 2 ^ n) (hn : 0 < n) : sz (.rat (Rat.divInt t b)) ≤ n := by
  have a := dvi_num_le ht hb
  have c := dvi_den_le (t := t) hb
  refine sz_rat ?_ ?_ hn
  · have : ((Rat.divInt t b).num.natAbs : Int) < ((2 ^ n : Nat) : Int) := by rw [Int.natCast_pow]; show _ < (2 : Int) ^ n; omega
    omega
  · have : ((Rat.divInt t b).den : Int) < ((2 ^ n : Nat) : Int) := by rw [Int.natCast_pow]; show _ < (2 : Int) ^ n; omega
    omega
theorem sz_law {k : Kd} (h : KOk k) (c : Int) : sz (lawW k c) ≤ 100 := by
  unfold lawW
  split
  · cases k <;> first | decide | (show sz (.int _) ≤ 100; decide)
  split
  · cases k <;> first | decide | (show sz (.int _) ≤ 100; decide)
  have hp : (10 : Int) ^ 30 < 2 ^ 100 := by decide
  have hp9 : (10 : Int) ^ 9 + 1 < 2 ^ 100 := by decide
  have hp2 : ((2 : Nat) ^ 100 : Nat) = (2 : Int) ^ 100 := by decide
  have ib : ∀ {i : Int}, -1 ≤ i → i < 2 ^ 100 → sz (.int i) ≤ 100 := fun h0 h1 => sz_int (by omega) (by decide)
  have lt30 : ∀ x : Int, x % 10 ^ 30 < 2 ^ 100 := fun x => Int.lt_trans (Int.emod_lt_of_pos _ (by decide)) hp
  have nn30 : ∀ x : Int, 0 ≤ x % 10 ^ 30 := fun x => Int.emod_nonneg _ (by decide)
  cases k with
  | few =>
    refine ib ?_ ?_
    · show -1 ≤ (if c % 6 < 5 then c / 6 % 20 else c / 6 % 10 ^ 30); have := nn30 (c / 6); split <;> omega
    · show (if c % 6 < 5 then c / 6 % 20 else c / 6 % 10 ^ 30) < 2 ^ 100; have := lt30 (c / 6); split <;> omega
  | wid =>
    refine ib ?_ ?_
    · show -1 ≤ (if c % 6 < 5 then c / 6 % 20 else c / 6 % (10 ^ 9 + 1)); split <;> omega
    · show (if c % 6 < 5 then c / 6 % 20 else c / 6 % (10 ^ 9 + 1)) < 2 ^ 100; split <;> omega
  | cnt =>
    refine ib ?_ ?_
    · show -1 ≤ (if c % 6 < 5 then c / 6 % 5 - 1 else c / 6 % 10 ^ 30); have := nn30 (c / 6); split <;> omega
    · show (if c % 6 < 5 then c / 6 % 5 - 1 else c / 6 % 10 ^ 30) < 2 ^ 100; have := lt30 (c / 6); split <;> omega
  | lik =>
    have hb0 : 0 ≤ c / 6 / 7 % 12 := Int.emod_nonneg _ (by decide)
    have hb1 : c / 6 / 7 % 12 < 12 := Int.emod_lt_of_pos _ (by decide)
    have h1 := Int.emod_nonneg (c / 6) (b := 1 + c / 6 / 7 % 12 + 1) (by omega)
    have h2 := Int.emod_lt_of_pos (c / 6) (b := 1 + c / 6 / 7 % 12 + 1) (by omega)
    have h16 : (2 : Int) ^ 4 = 16 := by decide
    exact Nat.le_trans (sz_dvi (n := 4) h1 (by omega) (by omega) (by omega) (by decide)) (by decide)
  | cha =>
    have hb0 : 0 ≤ c / 6 / 9 % 12 := Int.emod_nonneg _ (by decide)
    have hb1 : c / 6 / 9 % 12 < 12 := Int.emod_lt_of_pos _ (by decide)
    have h16 : (2 : Int) ^ 4 = 16 := by decide
    exact Nat.le_trans (sz_dvi (n := 4) (Int.emod_nonneg _ (by decide)) (by omega) (by omega) (by omega) (by decide)) (by decide)
  | mus =>
    refine ib ?_ ?_
    · show -1 ≤ (if c % 6 < 5 then c / 6 % 16 else c / 6 % 10 ^ 30); have := nn30 (c / 6); split <;> omega
    · show (if c % 6 < 5 then c / 6 % 16 else c / 6 % 10 ^ 30) < 2 ^ 100; have := lt30 (c / 6); split <;> omega
  | rst m =>
    have hm : (2 : Nat) ^ m ≤ 2 ^ 12 := Nat.pow_le_pow_right (by decide) h.2
    have hm' : (2 : Int) ^ m ≤ 2 ^ 12 := by exact_mod_cast hm
    have h0 : (0 : Int) < 2 ^ m := Int.pow_pos (by decide)
    have h1 := Int.emod_nonneg (c / 6) (b := 2 ^ m) (by omega)
    have h2 := Int.emod_lt_of_pos (c / 6) h0
    have h4 : (2 : Int) ^ 12 < 2 ^ 100 := by decide
    exact ib (show -1 ≤ c / 6 % 2 ^ m by omega) (show c / 6 % 2 ^ m < 2 ^ 100 by omega)
theorem fits_small {k : Kd} {a b : Wo} (ha : sz a ≤ 4000) (hb : sz b ≤ 4000) : Fits k a b := by cases k <;> first | trivial | (show sz a + sz b ≤ _; omega)
theorem fit1_small {k : Kd} {a : Wo} (ha : sz a ≤ 4000) : Fit1 k a := by cases k <;> first | trivial | (show sz a ≤ _; omega)
/-! ### M3: the deeds' laws (plain Lean) -/
def cntT (i j : Int) : Int := if i = -1 ∨ j = -1 then -1 else i + j
def cntB (i j : Int) : Int := if i = 0 ∨ j = 0 then 0 else if i = -1 ∨ j = -1 then -1 else i * j
def likT (r s : Rat) : Rat := if r < s then s else r
def minI (i j : Int) : Int := if j < i then j else i
def maxI (i j : Int) : Int := if j > i then j else i
theorem tog_few (i j : Int) : tog .few (.int i) (.int j) = .int (minI i j) := rfl
theorem tog_few_n (a : Wo) : tog .few .non a = a := by cases a <;> rfl
theorem tog_few_m (a : Wo) : tog .few a .non = a := by cases a <;> rfl
theorem tog_mus_n (a : Wo) : tog .mus .non a = a := by cases a <;> rfl
theorem tog_mus_m (a : Wo) : tog .mus a .non = a := by cases a <;> rfl
theorem tog_wid (i j : Int) : tog .wid (.int i) (.int j) = .int (maxI i j) := rfl
theorem beh_wid (i j : Int) : beh .wid (.int i) (.int j) = .int (minI i j) := rfl
theorem tog_cnt (i j : Int) : tog .cnt (.int i) (.int j) = .int (cntT i j) := by simp only [tog, cntT]; split <;> rfl
theorem beh_cnt (i j : Int) : beh .cnt (.int i) (.int j) = .int (cntB i j) := by
  simp only [beh, cntB]
  split
  · rfl
  split <;> rfl
theorem tog_lik (r s : Rat) : tog .lik (.rat r) (.rat s) = .rat (likT r s) := by simp only [tog, likT]; split <;> rfl
/-- the shape of a worth -/
theorem good_few {a : Wo} (h : Good .few a) : a = .non ∨ ∃ i, a = .int i ∧ 0 ≤ i := by
  cases a with
  | non => exact .inl rfl
  | int i => exact .inr ⟨i, rfl, h⟩
  | rat r => exact h.elim
theorem good_mus {a : Wo} (h : Good .mus a) : a = .non ∨ ∃ n : Nat, a = .int n := by
  cases a with
  | non => exact .inl rfl
  | int i => exact .inr ⟨i.toNat, by have h' : 0 ≤ i := h; rw [Int.toNat_of_nonneg h']⟩
  | rat r => exact h.elim
theorem good_wid {a : Wo} (h : Good .wid a) : ∃ i, a = .int i ∧ 0 ≤ i ∧ i ≤ 1000000000 := by
  cases a with
  | int i => exact ⟨i, rfl, h⟩
  | _ => exact h.elim
theorem good_cnt {a : Wo} (h : Good .cnt a) : ∃ i, a = .int i ∧ -1 ≤ i := by
  cases a with
  | int i => exact ⟨i, rfl, h⟩
  | _ => exact h.elim
theorem good_lik {a : Wo} (h : Good .lik a) : ∃ r, a = .rat r ∧ 0 ≤ r ∧ r ≤ 1 := by
  cases a with
  | rat i => exact ⟨i, rfl, h⟩
  | _ => exact h.elim
theorem good_cha {a : Wo} (h : Good .cha a) : ∃ r, a = .rat r ∧ 0 ≤ r := by
  cases a with
  | rat i => exact ⟨i, rfl, h⟩
  | _ => exact h.elim
theorem good_rst {m : Nat} {a : Wo} (h : Good (.rst m) a) : ∃ n : Nat, a = .int n ∧ n < 2 ^ m := by
  cases a with
  | int i => exact ⟨i.toNat, by rw [Int.toNat_of_nonneg h.1], by
      have h1 := h.1
      have : ((i.toNat : Nat) : Int) < ((2 ^ m : Nat) : Int) := by rw [Int.natCast_pow, Int.toNat_of_nonneg h1]; exact h.2
      omega⟩
  | _ => exact h.elim
theorem rst_good {m n : Nat} (h : n < 2 ^ m) : Good (.rst m) (.int n) := ⟨by omega, by exact_mod_cast h⟩
theorem beh_few (i j : Int) : beh .few (.int i) (.int j) = .int (i + j) := rfl
theorem beh_few_n (a : Wo) : beh .few .non a = .non := by cases a <;> rfl
theorem beh_few_m (a : Wo) : beh .few a .non = .non := by cases a <;> rfl
theorem beh_mus_n (a : Wo) : beh .mus .non a = .non := by cases a <;> rfl
theorem beh_mus_m (a : Wo) : beh .mus a .non = .non := by cases a <;> rfl
theorem tog_mus (i j : Nat) : tog .mus (.int i) (.int j) = .int ((i &&& j : Nat) : Int) := rfl
theorem beh_mus (i j : Nat) : beh .mus (.int i) (.int j) = .int ((i ||| j : Nat) : Int) := rfl
theorem tog_rst (m i j : Nat) : tog (.rst m) (.int i) (.int j) = .int ((i ||| j : Nat) : Int) := rfl
theorem beh_rst (m i j : Nat) : beh (.rst m) (.int i) (.int j) = .int ((rbeh m i j : Nat) : Int) := rfl
theorem tog_cha (r s : Rat) : tog .cha (.rat r) (.rat s) = .rat (r + s) := rfl
theorem beh_cha (r s : Rat) : beh .cha (.rat r) (.rat s) = .rat (r * s) := rfl
theorem beh_lik (r s : Rat) : beh .lik (.rat r) (.rat s) = .rat (r * s) := rfl
theorem mul_le_one {r s : Rat} (h0 : 0 ≤ r) (h1 : r ≤ 1) (g1 : s ≤ 1) : r * s ≤ 1 := by
  have := Rat.mul_le_mul_of_nonneg_left g1 h0
  grind
theorem good_tog {k : Kd} {a b : Wo} (ha : Good k a) (hb : Good k b) : Good k (tog k a b) := by
  cases k with
  | few =>
    rcases good_few ha with rfl | ⟨i, rfl, hi⟩
    · rw [tog_few_n]; exact hb
    rcases good_few hb with rfl | ⟨j, rfl, hj⟩
    · exact ha
    · rw [tog_few]; show 0 ≤ minI i j; unfold minI; split <;> omega
  | mus =>
    rcases good_mus ha with rfl | ⟨i, rfl⟩
    · rw [tog_mus_n]; exact hb
    rcases good_mus hb with rfl | ⟨j, rfl⟩
    · exact ha
    · rw [tog_mus]; show (0 : Int) ≤ _; omega
  | wid =>
    obtain ⟨i, rfl, hi⟩ := good_wid ha
    obtain ⟨j, rfl, hj⟩ := good_wid hb
    rw [tog_wid]; show 0 ≤ maxI i j ∧ maxI i j ≤ 1000000000; unfold maxI; split <;> omega
  | cnt =>
    obtain ⟨i, rfl, hi⟩ := good_cnt ha
    obtain ⟨j, rfl, hj⟩ := good_cnt hb
    rw [tog_cnt]; show -1 ≤ cntT i j; unfold cntT; split <;> omega
  | lik =>
    obtain ⟨r, rfl, hr⟩ := good_lik ha
    obtain ⟨s, rfl, hs⟩ := good_lik hb
    rw [tog_lik]; show 0 ≤ likT r s ∧ likT r s ≤ 1; unfold likT; split <;> assumption
  | cha =>
    obtain ⟨r, rfl, hr⟩ := good_cha ha
    obtain ⟨s, rfl, hs⟩ := good_cha hb
    exact Rat.add_nonneg hr hs
  | rst m =>
    obtain ⟨i, rfl, hi⟩ := good_rst ha
    obtain ⟨j, rfl, hj⟩ := good_rst hb
    rw [tog_rst]; exact rst_good (Nat.or_lt_two_pow hi hj)
theorem good_beh {k : Kd} {a b : Wo} (ha : Good k a) (hb : Good k b) : Good k (beh k a b) := by
  cases k with
  | few =>
    rcases good_few ha with rfl | ⟨i, rfl, hi⟩
    · rw [beh_few_n]; trivial
    rcases good_few hb with rfl | ⟨j, rfl, hj⟩
    · trivial
    · show 0 ≤ i + j; omega
  | mus =>
    rcases good_mus ha with rfl | ⟨i, rfl⟩
    · rw [beh_mus_n]; trivial
    rcases good_mus hb with rfl | ⟨j, rfl⟩
    · trivial
    · rw [beh_mus]; show (0 : Int) ≤ _; omega
  | wid =>
    obtain ⟨i, rfl, hi⟩ := good_wid ha
    obtain ⟨j, rfl, hj⟩ := good_wid hb
    rw [beh_wid]; show 0 ≤ minI i j ∧ minI i j ≤ 1000000000; unfold minI; split <;> omega
  | cnt =>
    obtain ⟨i, rfl, hi⟩ := good_cnt ha
    obtain ⟨j, rfl, hj⟩ := good_cnt hb
    rw [beh_cnt]; show -1 ≤ cntB i j; unfold cntB
    split
    · omega
    split
    · omega
    · have : 0 ≤ i * j := Int.mul_nonneg (by omega) (by omega)
      omega
  | lik =>
    obtain ⟨r, rfl, hr⟩ := good_lik ha
    obtain ⟨s, rfl, hs⟩ := good_lik hb
    exact ⟨Rat.mul_nonneg hr.1 hs.1, mul_le_one hr.1 hr.2 hs.2⟩
  | cha =>
    obtain ⟨r, rfl, hr⟩ := good_cha ha
    obtain ⟨s, rfl, hs⟩ := good_cha hb
    exact Rat.mul_nonneg hr hs
  | rst m =>
    obtain ⟨i, rfl, hi⟩ := good_rst ha
    obtain ⟨j, rfl, hj⟩ := good_rst hb
    rw [beh_rst]; exact rst_good (rbeh_lt _ _ _)
theorem rat_inv_nonneg {r : Rat} (h : r < 1) : 0 ≤ 1 / (1 - r) := by
  have h1 : 0 < 1 - r := by grind
  rw [Rat.div_def, Rat.one_mul]
  have h2 : 0 < (1 - r)⁻¹ := Rat.inv_pos.2 h1
  grind
theorem good_rnd {k : Kd} (hk : KOk k) {a s : Wo} (ha : Good k a) (h : rnd k a = some s) : Good k s := by
  cases k with
  | few => cases h; show (0 : Int) ≤ 0; decide
  | mus => cases h; show (0 : Int) ≤ 0; decide
  | wid => cases h; show (0 : Int) ≤ 1000000000 ∧ (1000000000 : Int) ≤ 1000000000; decide
  | lik => cases h; show (0 : Rat) ≤ 1 ∧ (1 : Rat) ≤ 1; decide
  | cnt =>
    obtain ⟨i, rfl, hi⟩ := good_cnt ha
    cases h; show -1 ≤ (if i = 0 then (1 : Int) else -1); split <;> omega
  | cha =>
    obtain ⟨r, rfl, hr⟩ := good_cha ha
    simp only [rnd] at h
    split at h
    · cases h; exact rat_inv_nonneg (by assumption)
    · cases h
  | rst m =>
    obtain ⟨i, rfl, hi⟩ := good_rst ha
    cases h; exact rst_good (rstar_lt hk.1 _)
/-! the laws -/
theorem minI_assoc (a b c : Int) : minI (minI a b) c = minI a (minI b c) := by unfold minI; grind
theorem maxI_assoc (a b c : Int) : maxI (maxI a b) c = maxI a (maxI b c) := by unfold maxI; grind
theorem minI_comm (a b : Int) : minI a b = minI b a := by unfold minI; split <;> split <;> omega
theorem maxI_comm (a b : Int) : maxI a b = maxI b a := by unfold maxI; split <;> split <;> omega
theorem cntT_assoc {a b c : Int} (ha : -1 ≤ a) (hb : -1 ≤ b) (hc : -1 ≤ c) : cntT (cntT a b) c = cntT a (cntT b c) := by
  unfold cntT; split <;> split <;> (repeat' split) <;> omega
theorem cntT_comm (a b : Int) : cntT a b = cntT b a := by unfold cntT; split <;> split <;> omega
theorem likT_assoc (a b c : Rat) : likT (likT a b) c = likT a (likT b c) := by unfold likT; grind
theorem likT_comm (a b : Rat) : likT a b = likT b a := by unfold likT; grind
theorem cntB_comm (a b : Int) : cntB a b = cntB b a := by
  unfold cntB; rw [Int.mul_comm]; split <;> split <;> (repeat' split) <;> omega
theorem mul_cases {a b : Int} (ha : -1 ≤ a) (hb : -1 ≤ b) (h0 : ¬ (a = 0 ∨ b = 0)) (h1 : ¬ (a = -1 ∨ b = -1)) : 1 ≤ a * b := by
  have := Int.mul_pos (show 0 < a by omega) (show 0 < b by omega)
  omega
theorem cntB_assoc {a b c : Int} (ha : -1 ≤ a) (hb : -1 ≤ b) (hc : -1 ≤ c) : cntB (cntB a b) c = cntB a (cntB b c) := by
  have fin : ∀ {x : Int}, -1 ≤ x → x = 0 ∨ x = -1 ∨ 1 ≤ x := fun h => by omega
  rcases fin ha with rfl | rfl | ha <;> rcases fin hb with rfl | rfl | hb <;> rcases fin hc with rfl | rfl | hc
  all_goals unfold cntB
  all_goals first
    | (have p1 := Int.mul_pos (show 0 < a by omega) (show 0 < b by omega); have p2 := Int.mul_pos (show 0 < b by omega) (show 0 < c by omega)
       rw [if_neg (show ¬ (a = 0 ∨ b = 0) by omega), if_neg (show ¬ (a = -1 ∨ b = -1) by omega), if_neg (show ¬ (b = 0 ∨ c = 0) by omega), if_neg (show ¬ (b = -1 ∨ c = -1) by omega),
        if_neg (show ¬ (a * b = 0 ∨ c = 0) by omega), if_neg (show ¬ (a * b = -1 ∨ c = -1) by omega), if_neg (show ¬ (a = 0 ∨ b * c = 0) by omega), if_neg (show ¬ (a = -1 ∨ b * c = -1) by omega), Int.mul_assoc])
    | (simp; done)
    | (simp; omega)
    | skip
  all_goals first
    | (have p1 := Int.mul_pos (show 0 < a by omega) (show 0 < b by omega); simp; omega)
    | (have p1 := Int.mul_pos (show 0 < b by omega) (show 0 < c by omega); simp; omega)
    | skip
theorem few_dist (i j l : Int) : i + minI j l = minI (i + j) (i + l) := by unfold minI; grind
theorem wid_dist (i j l : Int) : minI i (maxI j l) = maxI (minI i j) (minI i l) := by unfold minI maxI; grind
theorem lik_dist {r s t : Rat} (h : 0 ≤ r) : r * likT s t = likT (r * s) (r * t) := by
  unfold likT
  by_cases h1 : s < t
  · rw [if_pos h1]
    by_cases h2 : r * s < r * t
    · rw [if_pos h2]
    · rw [if_neg h2]
      have := Rat.mul_le_mul_of_nonneg_left (show s ≤ t by grind) h
      grind
  · rw [if_neg h1]
    have := Rat.mul_le_mul_of_nonneg_left (show t ≤ s by grind) h
    rw [if_neg (by grind)]
theorem cnt_dist {a b c : Int} (ha : -1 ≤ a) (hb : -1 ≤ b) (hc : -1 ≤ c) : cntB a (cntT b c) = cntT (cntB a b) (cntB a c) := by
  have fin : ∀ {x : Int}, -1 ≤ x → x = 0 ∨ x = -1 ∨ 1 ≤ x := fun h => by omega
  rcases fin ha with rfl | rfl | ha
  · simp [cntB, cntT]
  · rcases fin hb with rfl | rfl | hb <;> rcases fin hc with rfl | rfl | hc <;> simp [cntB, cntT] <;> (repeat' split) <;> omega
  · rcases fin hb with rfl | rfl | hb <;> rcases fin hc with rfl | rfl | hc
    all_goals simp only [cntB, cntT]
    all_goals first
      | (have p1 := Int.mul_pos (show 0 < a by omega) (show 0 < b by omega); have p2 := Int.mul_pos (show 0 < a by omega) (show 0 < c by omega); grind)
      | (have p1 := Int.mul_pos (show 0 < a by omega) (show 0 < b by omega); grind)
      | (have p2 := Int.mul_pos (show 0 < a by omega) (show 0 < c by omega); grind)
      | grind
theorem rbeh_comm (m a b : Nat) : rbeh m a b = rbeh m b a := by
  refine Nat.eq_of_testBit_eq fun r => ?_
  rw [Bool.eq_iff_iff, testBit_rbeh, testBit_rbeh]
  constructor
  · rintro ⟨h, i, j, hi, hj, ha, hb, e⟩; exact ⟨h, j, i, hj, hi, hb, ha, by rw [Nat.add_comm]; exact e⟩
  · rintro ⟨h, i, j, hi, hj, ha, hb, e⟩; exact ⟨h, j, i, hj, hi, hb, ha, by rw [Nat.add_comm]; exact e⟩
theorem rbeh_or (m a b c : Nat) : rbeh m a (b ||| c) = rbeh m a b ||| rbeh m a c := by
  refine Nat.eq_of_testBit_eq fun r => ?_
  rw [Bool.eq_iff_iff, Nat.testBit_or, Bool.or_eq_true, testBit_rbeh, testBit_rbeh, testBit_rbeh]
  constructor
  · rintro ⟨h, i, j, hi, hj, ha, hb, e⟩
    rw [Nat.testBit_or, Bool.or_eq_true] at hb
    rcases hb with hb | hb
    · exact .inl ⟨h, i, j, hi, hj, ha, hb, e⟩
    · exact .inr ⟨h, i, j, hi, hj, ha, hb, e⟩
  · rintro (⟨h, i, j, hi, hj, ha, hb, e⟩ | ⟨h, i, j, hi, hj, ha, hb, e⟩)
    · exact ⟨h, i, j, hi, hj, ha, by rw [Nat.testBit_or, hb, Bool.true_or], e⟩
    · exact ⟨h, i, j, hi, hj, ha, by rw [Nat.testBit_or, hb, Bool.or_true], e⟩
theorem rbeh_assoc (m a b c : Nat) : rbeh m (rbeh m a b) c = rbeh m a (rbeh m b c) := by
  refine Nat.eq_of_testBit_eq fun r => ?_
  rw [Bool.eq_iff_iff, testBit_rbeh, testBit_rbeh]
  constructor
  · rintro ⟨h, i, l, hi, hl, ha, hc, e⟩
    obtain ⟨_, i', j', h1, h2, h3, h4, h5⟩ := (testBit_rbeh m a b i).1 ha
    refine ⟨h, i', (j' + l) % m, h1, Nat.mod_lt _ (by omega), h3, (testBit_rbeh m b c _).2 ⟨Nat.mod_lt _ (by omega), j', l, h2, hl, h4, hc, rfl⟩, ?_⟩
    rw [← e, ← h5, Nat.add_mod_mod, Nat.mod_add_mod, Nat.add_assoc]
  · rintro ⟨h, i, l, hi, hl, ha, hc, e⟩
    obtain ⟨_, i', j', h1, h2, h3, h4, h5⟩ := (testBit_rbeh m b c l).1 hc
    refine ⟨h, (i + i') % m, j', Nat.mod_lt _ (by omega), h2, (testBit_rbeh m a b _).2 ⟨Nat.mod_lt _ (by omega), i, i', hi, h1, ha, h3, rfl⟩, h4, ?_⟩
    rw [← e, ← h5, Nat.add_mod_mod, Nat.mod_add_mod, Nat.add_assoc]
theorem rbeh_zero (m a : Nat) : rbeh m a 0 = 0 := by
  refine Nat.eq_of_testBit_eq fun r => ?_
  rw [Bool.eq_iff_iff, testBit_rbeh, Nat.zero_testBit]
  constructor
  · rintro ⟨h, i, j, hi, hj, ha, hb, e⟩; rw [Nat.zero_testBit] at hb; cases hb
  · intro z; cases z
theorem rbeh_one {m a : Nat} (ha : a < 2 ^ m) : rbeh m a 1 = a := by
  refine Nat.eq_of_testBit_eq fun r => ?_
  rw [Bool.eq_iff_iff, testBit_rbeh]
  constructor
  · rintro ⟨h, i, j, hi, hj, ha, hb, e⟩
    have hj0 : j = 0 := by
      rw [Nat.testBit_one_eq_true_iff_self_eq_zero] at hb; exact hb
    subst hj0
    rw [Nat.add_zero, Nat.mod_eq_of_lt hi] at e
    subst e; exact ha
  · intro h
    have hr : r < m := by
      refine Classical.byContradiction fun z => ?_
      rw [testBit_above ha (by omega)] at h; cases h
    exact ⟨hr, r, 0, hr, by omega, h, by simp, by rw [Nat.add_zero, Nat.mod_eq_of_lt hr]⟩
theorem tog_assoc {k : Kd} {a b c : Wo} (ha : Good k a) (hb : Good k b) (hc : Good k c) : tog k (tog k a b) c = tog k a (tog k b c) := by
  cases k with
  | few =>
    rcases good_few ha with rfl | ⟨i, rfl, _⟩
    · rw [tog_few_n, tog_few_n]
    rcases good_few hb with rfl | ⟨j, rfl, _⟩
    · rw [tog_few_m, tog_few_n]
    rcases good_few hc with rfl | ⟨l, rfl, _⟩
    · rw [tog_few_m, tog_few_m]
    rw [tog_few, tog_few, tog_few, tog_few, minI_assoc]
  | mus =>
    rcases good_mus ha with rfl | ⟨i, rfl⟩
    · rw [tog_mus_n, tog_mus_n]
    rcases good_mus hb with rfl | ⟨j, rfl⟩
    · rw [tog_mus_m, tog_mus_n]
    rcases good_mus hc with rfl | ⟨l, rfl⟩
    · rw [tog_mus_m, tog_mus_m]
    rw [tog_mus, tog_mus, tog_mus, tog_mus, Nat.and_assoc]
  | wid =>
    obtain ⟨i, rfl, _⟩ := good_wid ha
    obtain ⟨j, rfl, _⟩ := good_wid hb
    obtain ⟨l, rfl, _⟩ := good_wid hc
    rw [tog_wid, tog_wid, tog_wid, tog_wid, maxI_assoc]
  | cnt =>
    obtain ⟨i, rfl, hi⟩ := good_cnt ha
    obtain ⟨j, rfl, hj⟩ := good_cnt hb
    obtain ⟨l, rfl, hl⟩ := good_cnt hc
    rw [tog_cnt, tog_cnt, tog_cnt, tog_cnt, cntT_assoc hi hj hl]
  | lik =>
    obtain ⟨i, rfl, _⟩ := good_lik ha
    obtain ⟨j, rfl, _⟩ := good_lik hb
    obtain ⟨l, rfl, _⟩ := good_lik hc
    rw [tog_lik, tog_lik, tog_lik, tog_lik, likT_assoc]
  | cha =>
    obtain ⟨i, rfl, _⟩ := good_cha ha
    obtain ⟨j, rfl, _⟩ := good_cha hb
    obtain ⟨l, rfl, _⟩ := good_cha hc
    rw [tog_cha, tog_cha, tog_cha, tog_cha, Rat.add_assoc]
  | rst m =>
    obtain ⟨i, rfl, _⟩ := good_rst ha
    obtain ⟨j, rfl, _⟩ := good_rst hb
    obtain ⟨l, rfl, _⟩ := good_rst hc
    rw [tog_rst, tog_rst, tog_rst, tog_rst, Nat.or_assoc]
theorem tog_comm {k : Kd} {a b : Wo} (ha : Good k a) (hb : Good k b) : tog k a b = tog k b a := by
  cases k with
  | few =>
    rcases good_few ha with rfl | ⟨i, rfl, _⟩
    · rw [tog_few_n, tog_few_m]
    rcases good_few hb with rfl | ⟨j, rfl, _⟩
    · rw [tog_few_m, tog_few_n]
    rw [tog_few, tog_few, minI_comm]
  | mus =>
    rcases good_mus ha with rfl | ⟨i, rfl⟩
    · rw [tog_mus_n, tog_mus_m]
    rcases good_mus hb with rfl | ⟨j, rfl⟩
    · rw [tog_mus_m, tog_mus_n]
    rw [tog_mus, tog_mus, Nat.and_comm]
  | wid =>
    obtain ⟨i, rfl, _⟩ := good_wid ha
    obtain ⟨j, rfl, _⟩ := good_wid hb
    rw [tog_wid, tog_wid, maxI_comm]
  | cnt =>
    obtain ⟨i, rfl, hi⟩ := good_cnt ha
    obtain ⟨j, rfl, hj⟩ := good_cnt hb
    rw [tog_cnt, tog_cnt, cntT_comm]
  | lik =>
    obtain ⟨i, rfl, _⟩ := good_lik ha
    obtain ⟨j, rfl, _⟩ := good_lik hb
    rw [tog_lik, tog_lik, likT_comm]
  | cha =>
    obtain ⟨i, rfl, _⟩ := good_cha ha
    obtain ⟨j, rfl, _⟩ := good_cha hb
    rw [tog_cha, tog_cha, Rat.add_comm]
  | rst m =>
    obtain ⟨i, rfl, _⟩ := good_rst ha
    obtain ⟨j, rfl, _⟩ := good_rst hb
    rw [tog_rst, tog_rst, Nat.or_comm]
theorem beh_comm {k : Kd} {a b : Wo} (ha : Good k a) (hb : Good k b) : beh k a b = beh k b a := by
  cases k with
  | few =>
    rcases good_few ha with rfl | ⟨i, rfl, _⟩
    · rw [beh_few_n, beh_few_m]
    rcases good_few hb with rfl | ⟨j, rfl, _⟩
    · rw [beh_few_m, beh_few_n]
    rw [beh_few, beh_few, Int.add_comm]
  | mus =>
    rcases good_mus ha with rfl | ⟨i, rfl⟩
    · rw [beh_mus_n, beh_mus_m]
    rcases good_mus hb with rfl | ⟨j, rfl⟩
    · rw [beh_mus_m, beh_mus_n]
    rw [beh_mus, beh_mus, Nat.or_comm]
  | wid =>
    obtain ⟨i, rfl, _⟩ := good_wid ha
    obtain ⟨j, rfl, _⟩ := good_wid hb
    rw [beh_wid, beh_wid, minI_comm]
  | cnt =>
    obtain ⟨i, rfl, hi⟩ := good_cnt ha
    obtain ⟨j, rfl, hj⟩ := good_cnt hb
    rw [beh_cnt, beh_cnt, cntB_comm]
  | lik =>
    obtain ⟨i, rfl, _⟩ := good_lik ha
    obtain ⟨j, rfl, _⟩ := good_lik hb
    rw [beh_lik, beh_lik, Rat.mul_comm]
  | cha =>
    obtain ⟨i, rfl, _⟩ := good_cha ha
    obtain ⟨j, rfl, _⟩ := good_cha hb
    rw [beh_cha, beh_cha, Rat.mul_comm]
  | rst m =>
    obtain ⟨i, rfl, _⟩ := good_rst ha
    obtain ⟨j, rfl, _⟩ := good_rst hb
    rw [beh_rst, beh_rst, rbeh_comm]
theorem beh_assoc {k : Kd} {a b c : Wo} (ha : Good k a) (hb : Good k b) (hc : Good k c) : beh k (beh k a b) c = beh k a (beh k b c) := by
  cases k with
  | few =>
    rcases good_few ha with rfl | ⟨i, rfl, _⟩
    · rw [beh_few_n, beh_few_n, beh_few_n]
    rcases good_few hb with rfl | ⟨j, rfl, _⟩
    · rw [beh_few_m, beh_few_n, beh_few_m]
    rcases good_few hc with rfl | ⟨l, rfl, _⟩
    · rw [beh_few_m, beh_few_m, beh_few_m]
    rw [beh_few, beh_few, beh_few, beh_few, Int.add_assoc]
  | mus =>
    rcases good_mus ha with rfl | ⟨i, rfl⟩
    · rw [beh_mus_n, beh_mus_n, beh_mus_n]
    rcases good_mus hb with rfl | ⟨j, rfl⟩
    · rw [beh_mus_m, beh_mus_n, beh_mus_m]
    rcases good_mus hc with rfl | ⟨l, rfl⟩
    · rw [beh_mus_m, beh_mus_m, beh_mus_m]
    rw [beh_mus, beh_mus, beh_mus, beh_mus, Nat.or_assoc]
  | wid =>
    obtain ⟨i, rfl, _⟩ := good_wid ha
    obtain ⟨j, rfl, _⟩ := good_wid hb
    obtain ⟨l, rfl, _⟩ := good_wid hc
    rw [beh_wid, beh_wid, beh_wid, beh_wid, minI_assoc]
  | cnt =>
    obtain ⟨i, rfl, hi⟩ := good_cnt ha
    obtain ⟨j, rfl, hj⟩ := good_cnt hb
    obtain ⟨l, rfl, hl⟩ := good_cnt hc
    rw [beh_cnt, beh_cnt, beh_cnt, beh_cnt, cntB_assoc hi hj hl]
  | lik =>
    obtain ⟨i, rfl, _⟩ := good_lik ha
    obtain ⟨j, rfl, _⟩ := good_lik hb
    obtain ⟨l, rfl, _⟩ := good_lik hc
    rw [beh_lik, beh_lik, beh_lik, beh_lik, Rat.mul_assoc]
  | cha =>
    obtain ⟨i, rfl, _⟩ := good_cha ha
    obtain ⟨j, rfl, _⟩ := good_cha hb
    obtain ⟨l, rfl, _⟩ := good_cha hc
    rw [beh_cha, beh_cha, beh_cha, beh_cha, Rat.mul_assoc]
  | rst m =>
    obtain ⟨i, rfl, _⟩ := good_rst ha
    obtain ⟨j, rfl, _⟩ := good_rst hb
    obtain ⟨l, rfl, _⟩ := good_rst hc
    rw [beh_rst, beh_rst, beh_rst, beh_rst, rbeh_assoc]
theorem beh_dist {k : Kd} {a b c : Wo} (ha : Good k a) (hb : Good k b) (hc : Good k c) : beh k a (tog k b c) = tog k (beh k a b) (beh k a c) := by
  cases k with
  | few =>
    rcases good_few ha with rfl | ⟨i, rfl, _⟩
    · rw [beh_few_n, beh_few_n, beh_few_n, tog_few_n]
    rcases good_few hb with rfl | ⟨j, rfl, _⟩
    · rw [tog_few_n, beh_few_m, tog_few_n]
    rcases good_few hc with rfl | ⟨l, rfl, _⟩
    · rw [tog_few_m, beh_few_m, tog_few_m]
    rw [tog_few, beh_few, beh_few, beh_few, tog_few, few_dist]
  | mus =>
    rcases good_mus ha with rfl | ⟨i, rfl⟩
    · rw [beh_mus_n, beh_mus_n, beh_mus_n, tog_mus_n]
    rcases good_mus hb with rfl | ⟨j, rfl⟩
    · rw [tog_mus_n, beh_mus_m, tog_mus_n]
    rcases good_mus hc with rfl | ⟨l, rfl⟩
    · rw [tog_mus_m, beh_mus_m, tog_mus_m]
    rw [tog_mus, beh_mus, beh_mus, beh_mus, tog_mus, Nat.or_and_distrib_left]
  | wid =>
    obtain ⟨i, rfl, _⟩ := good_wid ha
    obtain ⟨j, rfl, _⟩ := good_wid hb
    obtain ⟨l, rfl, _⟩ := good_wid hc
    rw [tog_wid, beh_wid, beh_wid, beh_wid, tog_wid, wid_dist]
  | cnt =>
    obtain ⟨i, rfl, hi⟩ := good_cnt ha
    obtain ⟨j, rfl, hj⟩ := good_cnt hb
    obtain ⟨l, rfl, hl⟩ := good_cnt hc
    rw [tog_cnt, beh_cnt, beh_cnt, beh_cnt, tog_cnt, cnt_dist hi hj hl]
  | lik =>
    obtain ⟨i, rfl, hi⟩ := good_lik ha
    obtain ⟨j, rfl, _⟩ := good_lik hb
    obtain ⟨l, rfl, _⟩ := good_lik hc
    rw [tog_lik, beh_lik, beh_lik, beh_lik, tog_lik, lik_dist hi.1]
  | cha =>
    obtain ⟨i, rfl, _⟩ := good_cha ha
    obtain ⟨j, rfl, _⟩ := good_cha hb
    obtain ⟨l, rfl, _⟩ := good_cha hc
    rw [tog_cha, beh_cha, beh_cha, beh_cha, tog_cha, Rat.mul_add]
  | rst m =>
    obtain ⟨i, rfl, _⟩ := good_rst ha
    obtain ⟨j, rfl, _⟩ := good_rst hb
    obtain ⟨l, rfl, _⟩ := good_rst hc
    rw [tog_rst, beh_rst, beh_rst, beh_rst, tog_rst, rbeh_or]
theorem tog_none {k : Kd} {a : Wo} (ha : Good k a) : tog k a (noneW k) = a := by
  cases k with
  | few => exact tog_few_m a
  | mus => exact tog_mus_m a
  | wid =>
    obtain ⟨i, rfl, hi⟩ := good_wid ha
    show tog .wid (.int i) (.int 0) = _
    rw [tog_wid]; unfold maxI; rw [if_neg (by omega)]
  | cnt =>
    obtain ⟨i, rfl, hi⟩ := good_cnt ha
    show tog .cnt (.int i) (.int 0) = _
    rw [tog_cnt]; unfold cntT; congr 1; split <;> omega
  | lik =>
    obtain ⟨i, rfl, hi⟩ := good_lik ha
    show tog .lik (.rat i) (.rat 0) = _
    rw [tog_lik]; unfold likT; rw [if_neg (by grind)]
  | cha =>
    obtain ⟨i, rfl, hi⟩ := good_cha ha
    show tog .cha (.rat i) (.rat 0) = _
    rw [tog_cha, Rat.add_zero]
  | rst m =>
    obtain ⟨i, rfl, hi⟩ := good_rst ha
    show tog (.rst m) (.int i) (.int (0 : Nat)) = _
    rw [tog_rst, Nat.or_zero]
theorem beh_rest {k : Kd} {a : Wo} (ha : Good k a) : beh k a (restW k) = a := by
  cases k with
  | few =>
    rcases good_few ha with rfl | ⟨i, rfl, _⟩
    · rfl
    · show beh .few (.int i) (.int 0) = _; rw [beh_few, Int.add_zero]
  | mus =>
    rcases good_mus ha with rfl | ⟨i, rfl⟩
    · rfl
    · show beh .mus (.int i) (.int (0 : Nat)) = _; rw [beh_mus, Nat.or_zero]
  | wid =>
    obtain ⟨i, rfl, hi⟩ := good_wid ha
    show beh .wid (.int i) (.int 1000000000) = _
    rw [beh_wid]; unfold minI; rw [if_neg (by omega)]
  | cnt =>
    obtain ⟨i, rfl, hi⟩ := good_cnt ha
    show beh .cnt (.int i) (.int 1) = _
    rw [beh_cnt]; unfold cntB; congr 1
    split
    · omega
    split <;> omega
  | lik =>
    obtain ⟨i, rfl, hi⟩ := good_lik ha
    show beh .lik (.rat i) (.rat 1) = _
    rw [beh_lik, Rat.mul_one]
  | cha =>
    obtain ⟨i, rfl, hi⟩ := good_cha ha
    show beh .cha (.rat i) (.rat 1) = _
    rw [beh_cha, Rat.mul_one]
  | rst m =>
    obtain ⟨i, rfl, hi⟩ := good_rst ha
    show beh (.rst m) (.int i) (.int (1 : Nat)) = _
    rw [beh_rst, rbeh_one hi]
theorem beh_none {k : Kd} {a : Wo} (ha : Good k a) : beh k a (noneW k) = noneW k := by
  cases k with
  | few => exact beh_few_m a
  | mus => exact beh_mus_m a
  | wid =>
    obtain ⟨i, rfl, hi⟩ := good_wid ha
    show beh .wid (.int i) (.int 0) = .int 0
    rw [beh_wid]; unfold minI; congr 1; split <;> omega
  | cnt =>
    obtain ⟨i, rfl, hi⟩ := good_cnt ha
    show beh .cnt (.int i) (.int 0) = .int 0
    rw [beh_cnt]; unfold cntB; rw [if_pos (.inr rfl)]
  | lik =>
    obtain ⟨i, rfl, hi⟩ := good_lik ha
    show beh .lik (.rat i) (.rat 0) = .rat 0
    rw [beh_lik, Rat.mul_zero]
  | cha =>
    obtain ⟨i, rfl, hi⟩ := good_cha ha
    show beh .cha (.rat i) (.rat 0) = .rat 0
    rw [beh_cha, Rat.mul_zero]
  | rst m =>
    obtain ⟨i, rfl, hi⟩ := good_rst ha
    show beh (.rst m) (.int i) (.int (0 : Nat)) = .int (0 : Nat)
    rw [beh_rst, rbeh_zero]
/-! ### M4: rounds; an ordered structure with a least star (plain Lean) -/
theorem tog_idem {k : Kd} {a : Wo} (h : k ≠ .cnt ∧ k ≠ .cha) (ha : Good k a) : tog k a a = a := by
  cases k with
  | few =>
    rcases good_few ha with rfl | ⟨i, rfl, _⟩
    · rfl
    · rw [tog_few]; unfold minI; rw [if_neg (by omega)]
  | mus =>
    rcases good_mus ha with rfl | ⟨i, rfl⟩
    · rfl
    · rw [tog_mus, Nat.and_self]
  | wid =>
    obtain ⟨i, rfl, hi⟩ := good_wid ha
    rw [tog_wid]; unfold maxI; rw [if_neg (by omega)]
  | cnt => exact absurd rfl h.1
  | cha => exact absurd rfl h.2
  | lik =>
    obtain ⟨i, rfl, hi⟩ := good_lik ha
    rw [tog_lik]; unfold likT; rw [if_neg (by grind)]
  | rst m =>
    obtain ⟨i, rfl, hi⟩ := good_rst ha
    rw [tog_rst, Nat.or_self]
theorem anti_idem {k : Kd} {a b c d : Wo} (h : k ≠ .cnt ∧ k ≠ .cha) (ha : Good k a) (hb : Good k b) (hc : Good k c) (hd : Good k d) (e1 : tog k a c = b) (e2 : tog k b d = a) : a = b := by
  have h1 : tog k a b = b := by rw [← e1, ← tog_assoc ha ha hc, tog_idem h ha]
  have h2 : tog k b a = a := by rw [← e2, ← tog_assoc hb hb hd, tog_idem h hb]
  rw [tog_comm hb ha, h1] at h2
  exact h2.symm
theorem anti {k : Kd} {a b c d : Wo} (ha : Good k a) (hb : Good k b) (hc : Good k c) (hd : Good k d) (e1 : tog k a c = b) (e2 : tog k b d = a) : a = b := by
  cases k with
  | cnt =>
    obtain ⟨i, rfl, hi⟩ := good_cnt ha
    obtain ⟨j, rfl, hj⟩ := good_cnt hb
    obtain ⟨l, rfl, hl⟩ := good_cnt hc
    obtain ⟨m, rfl, hm⟩ := good_cnt hd
    rw [tog_cnt, Wo.int.injEq] at e1 e2
    unfold cntT at e1 e2
    rw [Wo.int.injEq]
    split at e1 <;> split at e2 <;> omega
  | cha =>
    obtain ⟨i, rfl, hi⟩ := good_cha ha
    obtain ⟨j, rfl, hj⟩ := good_cha hb
    obtain ⟨l, rfl, hl⟩ := good_cha hc
    obtain ⟨m, rfl, hm⟩ := good_cha hd
    rw [tog_cha, Wo.rat.injEq] at e1 e2
    rw [Wo.rat.injEq]
    grind
  | few => exact anti_idem (k := .few) ⟨by simp, by simp⟩ ha hb hc hd e1 e2
  | wid => exact anti_idem (k := .wid) ⟨by simp, by simp⟩ ha hb hc hd e1 e2
  | lik => exact anti_idem (k := .lik) ⟨by simp, by simp⟩ ha hb hc hd e1 e2
  | mus => exact anti_idem (k := .mus) ⟨by simp, by simp⟩ ha hb hc hd e1 e2
  | rst m => exact anti_idem (k := .rst m) ⟨by simp, by simp⟩ ha hb hc hd e1 e2
/-- kinds for which a ring is worth nothing -/
def flat : Kd → Bool
  | .few => true | .wid => true | .lik => true | .mus => true | _ => false
theorem flat_rnd {k : Kd} (h : flat k = true) (a : Wo) : rnd k a = some (restW k) := by cases k <;> first | rfl | cases h
theorem rest_top {k : Kd} {a : Wo} (h : flat k = true) (ha : Good k a) : tog k (restW k) a = restW k := by
  cases k <;> first | cases h | skip
  · rcases good_few ha with rfl | ⟨i, rfl, hi⟩
    · rfl
    · show tog .few (.int 0) (.int i) = .int 0; rw [tog_few]; unfold minI; rw [if_neg (by omega)]
  · obtain ⟨i, rfl, hi⟩ := good_wid ha
    show tog .wid (.int 1000000000) (.int i) = .int 1000000000; rw [tog_wid]; unfold maxI; rw [if_neg (by omega)]
  · obtain ⟨i, rfl, hi⟩ := good_lik ha
    show tog .lik (.rat 1) (.rat i) = .rat 1; rw [tog_lik]; unfold likT; rw [if_neg (by grind)]
  · rcases good_mus ha with rfl | ⟨i, rfl⟩
    · rfl
    · show tog .mus (.int (0 : Nat)) (.int i) = .int (0 : Nat); rw [tog_mus, Nat.zero_and]
theorem rnd_eq {k : Kd} (hk : KOk k) {a s : Wo} (ha : Good k a) (h : rnd k a = some s) : s = tog k (restW k) (beh k a s) := by
  by_cases hf : flat k = true
  · rw [flat_rnd hf] at h
    cases h
    rw [beh_rest ha, rest_top hf ha]
  cases k with
  | few => exact absurd rfl hf
  | wid => exact absurd rfl hf
  | lik => exact absurd rfl hf
  | mus => exact absurd rfl hf
  | cnt =>
    obtain ⟨i, rfl, hi⟩ := good_cnt ha
    cases h
    show Wo.int (if i = 0 then 1 else -1) = tog .cnt (.int 1) (beh .cnt (.int i) (.int (if i = 0 then 1 else -1)))
    rw [beh_cnt, tog_cnt, Wo.int.injEq]
    by_cases h0 : i = 0
    · subst h0; rfl
    · rw [if_neg h0]
      have e1 : cntB i (-1) = -1 := by unfold cntB; rw [if_neg (show ¬ (i = 0 ∨ (-1 : Int) = 0) by omega), if_pos (Or.inr rfl)]
      rw [e1]; rfl
  | cha =>
    obtain ⟨r, rfl, hr⟩ := good_cha ha
    simp only [rnd] at h
    split at h
    · cases h
      show Wo.rat _ = tog .cha (.rat 1) (beh .cha (.rat r) (.rat (1 / (1 - r))))
      rw [beh_cha, tog_cha, Wo.rat.injEq]
      grind
    · cases h
  | rst m =>
    obtain ⟨i, rfl, hi⟩ := good_rst ha
    cases h
    show Wo.int (rstar m i : Nat) = tog (.rst m) (.int (1 : Nat)) (beh (.rst m) (.int i) (.int (rstar m i : Nat)))
    rw [beh_rst, tog_rst, Wo.int.injEq, Int.natCast_inj]
    refine Nat.eq_of_testBit_eq fun r => ?_
    rw [Bool.eq_iff_iff, Nat.testBit_or, Bool.or_eq_true, rbeh_comm]
    have hfix := rstar_fix (a := i) hk.1
    constructor
    · intro hr
      -- by the turns: a bit is of one, or behind a bit
      have go : ∀ n, (riter m i n).testBit r = true → Nat.testBit 1 r = true ∨ (rbeh m (rstar m i) i).testBit r = true := by
        intro n
        induction n with
        | zero => intro h; exact .inl h
        | succ n ih =>
          intro h
          have h' : (riter m i n ||| rbeh m (riter m i n) i).testBit r = true := h
          rw [Nat.testBit_or, Bool.or_eq_true] at h'
          rcases h' with h' | h'
          · exact ih h'
          · obtain ⟨hr, a, b, h1, h2, h3, h4, h5⟩ := (testBit_rbeh _ _ _ _).1 h'
            refine .inr ((testBit_rbeh _ _ _ _).2 ⟨hr, a, b, h1, h2, ?_, h4, h5⟩)
            have mono : ∀ n q, (riter m i n).testBit q = true → (rstar m i).testBit q = true := by
              intro n q hq
              obtain ⟨j, hj, e⟩ := riter_stops (a := i) hk.1
              have up : ∀ d, (riter m i (n + d)).testBit q = true := by
                intro d
                induction d with
                | zero => exact hq
                | succ d ih => exact riter_sub m i (n + d) q ih
              have e1 := riter_still e (n + m - j)
              rw [show j + (n + m - j) = n + m by omega] at e1
              have e2 := riter_still e (m - j)
              rw [show j + (m - j) = m by omega] at e2
              have := up m
              rw [e1, ← e2] at this
              exact this
            exact mono n a h3
      exact go m hr
    · rintro (h | h)
      · have sub : ∀ n, (riter m i n).testBit r = true := by
          intro n
          induction n with
          | zero => exact h
          | succ n ih => exact riter_sub m i n r ih
        exact sub m
      · rw [← hfix, Nat.testBit_or, h, Bool.or_true]
theorem le_or {x y : Nat} : (∃ c, x ||| c = y) ↔ ∀ r, x.testBit r = true → y.testBit r = true := by
  constructor
  · rintro ⟨c, rfl⟩ r h; rw [Nat.testBit_or, h, Bool.true_or]
  · intro h
    refine ⟨y, Nat.eq_of_testBit_eq fun r => ?_⟩
    rw [Nat.testBit_or]
    cases e : x.testBit r with
    | true => rw [h r e]; rfl
    | false => rw [Bool.false_or]
theorem rnd_ind {k : Kd} (hk : KOk k) {a s x b c : Wo} (ha : Good k a) (hx : Good k x) (hb : Good k b) (hc : Good k c) (h : rnd k a = some s) (e : tog k (tog k (beh k a x) b) c = x) : ∃ d, Good k d ∧ tog k (beh k s b) d = x := by
  by_cases hf : flat k = true
  · rw [flat_rnd hf] at h
    cases h
    refine ⟨tog k (beh k a x) c, good_tog (good_beh ha hx) hc, ?_⟩
    rw [beh_comm (good_rest hk) hb, beh_rest hb, ← tog_assoc hb (good_beh ha hx) hc, tog_comm hb (good_beh ha hx)]
    exact e
  cases k with
  | few => exact absurd rfl hf
  | wid => exact absurd rfl hf
  | lik => exact absurd rfl hf
  | mus => exact absurd rfl hf
  | cnt =>
    obtain ⟨i, rfl, hi⟩ := good_cnt ha
    obtain ⟨x, rfl, hx⟩ := good_cnt hx
    obtain ⟨b, rfl, hb⟩ := good_cnt hb
    obtain ⟨c, rfl, hc⟩ := good_cnt hc
    cases h
    rw [beh_cnt, tog_cnt, tog_cnt, Wo.int.injEq] at e
    by_cases h0 : i = 0
    · subst h0
      refine ⟨.int c, hc, ?_⟩
      show tog .cnt (beh .cnt (.int 1) (.int b)) (.int c) = _
      rw [beh_cnt, tog_cnt, Wo.int.injEq, ← e]
      unfold cntB cntT
      by_cases hb0 : b = 0
      · subst hb0; rfl
      · by_cases hb1 : b = -1
        · subst hb1; rfl
        · simp [hb0, hb1]
    · refine ⟨.int x, hx, ?_⟩
      show tog .cnt (beh .cnt (.int (if i = 0 then 1 else -1)) (.int b)) (.int x) = _
      rw [if_neg h0, beh_cnt, tog_cnt, Wo.int.injEq]
      by_cases hb0 : b = 0
      · subst hb0; unfold cntB cntT; simp; omega
      · by_cases hx1 : x = -1
        · subst hx1; unfold cntT; simp
        · exfalso
          -- all is finite: x is at least x + b
          have hi1 : i ≠ -1 ∨ x = 0 := by
            rcases Classical.em (i = -1) with h | h
            · right
              refine Classical.byContradiction fun hx0 => hx1 ?_
              rw [← e]; subst h
              unfold cntB cntT; simp [hx0]
            · exact .inl h
          have hbn : b ≠ -1 := fun z => hx1 (by rw [← e, z]; unfold cntT; simp)
          have hcn : c ≠ -1 := fun z => hx1 (by rw [← e, z]; unfold cntT; simp)
          have hB : cntB i x ≠ -1 := fun z => hx1 (by rw [← e, z]; unfold cntT; simp)
          have e2 : cntB i x + b + c = x := by
            have hin : cntT (cntB i x) b = cntB i x + b := by unfold cntT; rw [if_neg (by omega)]
            have hB0 : 0 ≤ cntB i x := by
              have : Good .cnt (beh .cnt (.int i) (.int x)) := good_beh (k := .cnt) hi hx
              rw [beh_cnt] at this
              have : -1 ≤ cntB i x := this
              omega
            rw [hin] at e
            unfold cntT at e
            rw [if_neg (by omega)] at e
            exact e
          rcases hi1 with hi1 | hx0
          · by_cases hx0 : x = 0
            · subst hx0
              have : cntB i 0 = 0 := by unfold cntB; simp
              omega
            · have e3 : cntB i x = i * x := by unfold cntB; rw [if_neg (by omega), if_neg (by omega)]
              have : x ≤ i * x := by
                have := Int.mul_le_mul_of_nonneg_right (show 1 ≤ i by omega) (show 0 ≤ x by omega)
                omega
              omega
          · subst hx0
            have : cntB i 0 = 0 := by unfold cntB; simp
            omega
  | cha =>
    obtain ⟨r, rfl, hr⟩ := good_cha ha
    obtain ⟨x, rfl, hx⟩ := good_cha hx
    obtain ⟨b, rfl, hb⟩ := good_cha hb
    obtain ⟨c, rfl, hc⟩ := good_cha hc
    simp only [rnd] at h
    split at h
    · rename_i h1
      cases h
      refine ⟨.rat (1 / (1 - r) * c), Rat.mul_nonneg (rat_inv_nonneg h1) hc, ?_⟩
      rw [beh_cha, tog_cha, tog_cha, Wo.rat.injEq] at e
      rw [beh_cha, tog_cha, Wo.rat.injEq]
      grind
    · cases h
  | rst m =>
    obtain ⟨i, rfl, hi⟩ := good_rst ha
    obtain ⟨x, rfl, hx2⟩ := good_rst hx
    obtain ⟨b, rfl, hb2⟩ := good_rst hb
    obtain ⟨c, rfl, hc2⟩ := good_rst hc
    cases h
    rw [beh_rst, tog_rst, tog_rst, Wo.int.injEq, Int.natCast_inj] at e
    have hax : ∀ r, (rbeh m i x).testBit r = true → x.testBit r = true := fun r h => by rw [← e, Nat.testBit_or, Nat.testBit_or, h]; rfl
    have hbx : ∀ r, b.testBit r = true → x.testBit r = true := fun r h => by rw [← e, Nat.testBit_or, Nat.testBit_or, h, Bool.or_true]; rfl
    have go : ∀ n r, (rbeh m (riter m i n) b).testBit r = true → x.testBit r = true := by
      intro n
      induction n with
      | zero =>
        intro r h
        have h' : (rbeh m 1 b).testBit r = true := h
        rw [rbeh_comm, rbeh_one hb2] at h'
        exact hbx r h'
      | succ n ih =>
        intro r h
        have h' : (rbeh m (riter m i n ||| rbeh m (riter m i n) i) b).testBit r = true := h
        rw [rbeh_comm, rbeh_or, Nat.testBit_or, Bool.or_eq_true, rbeh_comm m b, rbeh_comm m b] at h'
        rcases h' with h' | h'
        · exact ih r h'
        · rw [rbeh_comm m (riter m i n) i, rbeh_assoc] at h'
          obtain ⟨hr, p, q, h1, h2, h3, h4, h5⟩ := (testBit_rbeh _ _ _ _).1 h'
          exact hax r ((testBit_rbeh _ _ _ _).2 ⟨hr, p, q, h1, h2, h3, ih q h4, h5⟩)
    obtain ⟨d, hd⟩ := le_or.2 (go m)
    refine ⟨.int x, rst_good hx2, ?_⟩
    rw [show (.int (rstar m ((i : Int)).toNat : Nat) : Wo) = .int (rstar m i : Nat) by rw [Int.toNat_natCast], beh_rst, tog_rst, Wo.int.injEq, Int.natCast_inj]
    refine Nat.eq_of_testBit_eq fun r => ?_
    rw [Nat.testBit_or]
    cases e2 : (rbeh m (rstar m i) b).testBit r with
    | true => rw [go m r e2]; rfl
    | false => rw [Bool.false_or]
/-- an ordered structure with a least star -/
structure SR (α : Type) where
  add : α → α → α
  mul : α → α → α
  zero : α
  one : α
  star : α → Option α
  add_assoc : ∀ a b c, add (add a b) c = add a (add b c)
  add_comm : ∀ a b, add a b = add b a
  add_zero : ∀ a, add a zero = a
  mul_assoc : ∀ a b c, mul (mul a b) c = mul a (mul b c)
  mul_comm : ∀ a b, mul a b = mul b a
  mul_one : ∀ a, mul a one = a
  mul_zero : ∀ a, mul a zero = zero
  dist : ∀ a b c, mul a (add b c) = add (mul a b) (mul a c)
  anti : ∀ a b c d, add a c = b → add b d = a → a = b
  star_eq : ∀ a s, star a = some s → s = add one (mul a s)
  star_ind : ∀ a s x b c, star a = some s → add (add (mul a x) b) c = x → ∃ d, add (mul s b) d = x
/-- the worths of a kind -/
abbrev Wk (k : Kd) := { a : Wo // Good k a }
def kSR (k : Kd) (hk : KOk k) : SR (Wk k) where
  add a b := ⟨tog k a.1 b.1, good_tog a.2 b.2⟩
  mul a b := ⟨beh k a.1 b.1, good_beh a.2 b.2⟩
  zero := ⟨noneW k, good_none k⟩
  one := ⟨restW k, good_rest hk⟩
  star a := (rnd k a.1).pmap (fun s hs => ⟨s, hs⟩) (fun _ hs => good_rnd hk a.2 hs)
  add_assoc a b c := Subtype.ext (tog_assoc a.2 b.2 c.2)
  add_comm a b := Subtype.ext (tog_comm a.2 b.2)
  add_zero a := Subtype.ext (tog_none a.2)
  mul_assoc a b c := Subtype.ext (beh_assoc a.2 b.2 c.2)
  mul_comm a b := Subtype.ext (beh_comm a.2 b.2)
  mul_one a := Subtype.ext (beh_rest a.2)
  mul_zero a := Subtype.ext (beh_none a.2)
  dist a b c := Subtype.ext (beh_dist a.2 b.2 c.2)
  anti a b c d e1 e2 := Subtype.ext (Ws.anti a.2 b.2 c.2 d.2 (congrArg Subtype.val e1) (congrArg Subtype.val e2))
  star_eq a s h := by
    obtain ⟨s', hs, h1, rfl⟩ := Option.pmap_eq_some_iff.1 h
    exact Subtype.ext (rnd_eq hk a.2 h1)
  star_ind a s x b c h e := by
    obtain ⟨s', hs, h1, rfl⟩ := Option.pmap_eq_some_iff.1 h
    obtain ⟨d, gd, e2⟩ := rnd_ind hk a.2 x.2 b.2 c.2 h1 (congrArg Subtype.val e)
    exact ⟨⟨d, gd⟩, Subtype.ext e2⟩
theorem kstar {k : Kd} {hk : KOk k} {a s : Wk k} : (kSR k hk).star a = some s ↔ rnd k a.1 = some s.1 := by
  show (rnd k a.1).pmap _ _ = some s ↔ _
  rw [Option.pmap_eq_some_iff]
  constructor
  · rintro ⟨s', hs, h1, rfl⟩; exact h1
  · intro h; exact ⟨s.1, s.2, h, rfl⟩
namespace SR
variable {α : Type} (S : SR α)
def le (a b : α) : Prop := ∃ c, S.add a c = b
variable {S}
theorem zero_add (a : α) : S.add S.zero a = a := by rw [S.add_comm, S.add_zero]
theorem one_mul (a : α) : S.mul S.one a = a := by rw [S.mul_comm, S.mul_one]
theorem zero_mul (a : α) : S.mul S.zero a = S.zero := by rw [S.mul_comm, S.mul_zero]
theorem dist_r (a b c : α) : S.mul (S.add a b) c = S.add (S.mul a c) (S.mul b c) := by rw [S.mul_comm, S.dist, S.mul_comm c, S.mul_comm c]
theorem add_left (a b c : α) : S.add a (S.add b c) = S.add b (S.add a c) := by rw [← S.add_assoc, S.add_comm a, S.add_assoc]
theorem add4 (a b c d : α) : S.add (S.add a b) (S.add c d) = S.add (S.add a c) (S.add b d) := by
  rw [S.add_assoc, S.add_assoc, add_left b]
theorem le_refl (a : α) : S.le a a := ⟨S.zero, S.add_zero a⟩
theorem le_of_eq {a b : α} (h : a = b) : S.le a b := by rw [h]; exact le_refl b
theorem le_trans {a b c : α} (h1 : S.le a b) (h2 : S.le b c) : S.le a c := by
  obtain ⟨x, rfl⟩ := h1; obtain ⟨y, rfl⟩ := h2; exact ⟨S.add x y, by rw [S.add_assoc]⟩
theorem le_antisymm {a b : α} (h1 : S.le a b) (h2 : S.le b a) : a = b := by
  obtain ⟨x, e1⟩ := h1; obtain ⟨y, e2⟩ := h2; exact S.anti a b x y e1 e2
theorem zero_le (a : α) : S.le S.zero a := ⟨a, zero_add a⟩
theorem le_add_left (a b : α) : S.le a (S.add b a) := ⟨b, S.add_comm a b⟩
theorem le_add_right (a b : α) : S.le a (S.add a b) := ⟨b, rfl⟩
theorem add_le_add {a b c d : α} (h1 : S.le a b) (h2 : S.le c d) : S.le (S.add a c) (S.add b d) := by
  obtain ⟨x, rfl⟩ := h1; obtain ⟨y, rfl⟩ := h2; exact ⟨S.add x y, by rw [add4]⟩
theorem mul_le_mul_left {a b : α} (c : α) (h : S.le a b) : S.le (S.mul c a) (S.mul c b) := by
  obtain ⟨x, rfl⟩ := h; exact ⟨S.mul c x, by rw [S.dist]⟩
theorem mul_le_mul_right {a b : α} (c : α) (h : S.le a b) : S.le (S.mul a c) (S.mul b c) := by
  rw [S.mul_comm a, S.mul_comm b]; exact mul_le_mul_left c h
theorem mul_le_mul {a b c d : α} (h1 : S.le a b) (h2 : S.le c d) : S.le (S.mul a c) (S.mul b d) := le_trans (mul_le_mul_left a h2) (mul_le_mul_right d h1)
theorem star_le {a s x b : α} (h : S.star a = some s) (e : S.le (S.add (S.mul a x) b) x) : S.le (S.mul s b) x := by
  obtain ⟨c, e⟩ := e; exact S.star_ind a s x b c h e
theorem star_comm {a s : α} (h : S.star a = some s) : s = S.add S.one (S.mul s a) := by
  conv => lhs; rw [S.star_eq a s h, S.mul_comm]
/-- rounds of two together -/
theorem star_add {a b s t u : α} (hs : S.star a = some s) (ht : S.star (S.add a b) = some t) (hu : S.star (S.mul s b) = some u) : t = S.mul u s := by
  obtain ⟨y, hy⟩ : ∃ y, y = S.add S.one (S.mul b (S.mul u s)) := ⟨_, rfl⟩
  have e : S.mul u s = S.mul s y := by
    have h1 : S.mul u s = S.mul (S.add S.one (S.mul (S.mul s b) u)) s := congrArg (fun z => S.mul z s) (S.star_eq _ _ hu)
    rw [h1, dist_r, one_mul, hy, S.dist, S.mul_one, S.mul_assoc, S.mul_assoc]
  have e3 : S.mul s y = S.add y (S.mul a (S.mul s y)) := by
    have h1 : S.mul s y = S.mul (S.add S.one (S.mul a s)) y := congrArg (fun z => S.mul z y) (S.star_eq _ _ hs)
    exact h1.trans (by rw [dist_r, one_mul, S.mul_assoc])
  have e2 : S.add (S.mul (S.add a b) (S.mul u s)) S.one = S.mul u s := by
    have h1 : S.mul u s = S.add y (S.mul a (S.mul u s)) := by rw [e, ← e3]
    conv => rhs; rw [h1, hy]
    rw [dist_r, S.add_comm S.one, S.add_assoc, S.add_assoc, S.add_comm S.one, add_left]
  apply le_antisymm
  · have := star_le (b := S.one) (x := S.mul u s) ht (le_of_eq e2)
    rwa [S.mul_one] at this
  · refine star_le hu ?_
    rw [S.mul_assoc]
    have h1 : S.add (S.mul s (S.mul b t)) s = S.mul s (S.add (S.mul b t) S.one) := by rw [S.dist, S.mul_one]
    rw [h1]
    refine star_le hs (le_of_eq ?_)
    have h2 := S.star_eq _ _ ht
    conv => rhs; rw [h2]
    rw [dist_r, S.add_comm S.one, S.add_assoc]
end SR
/-! ### M5: sizes of worths (plain Lean) -/
def bitK : Kd → Bool
  | .cnt => true | .lik => true | .cha => true | _ => false
theorem fits_of {k : Kd} {a b : Wo} (h : bitK k = true → sz a + sz b ≤ 8000) : Fits k a b := by
  cases k <;> first | trivial | skip
  · have := h rfl; show sz a + sz b ≤ 900000; omega
  · exact h rfl
  · exact h rfl
theorem fit1_of {k : Kd} {a : Wo} (h : bitK k = true → sz a ≤ 8000) : Fit1 k a := by cases k <;> first | trivial | exact h rfl
theorem sz_pos' (a : Wo) : 1 ≤ sz a := by cases a <;> simp only [sz] <;> omega
theorem lt_num (r : Rat) : r.num.natAbs < 2 ^ sz (.rat r) := Nat.lt_of_lt_of_le Nat.lt_log2_self (Nat.pow_le_pow_right (by decide) (by simp only [sz]; omega))
theorem lt_den (r : Rat) : r.den < 2 ^ sz (.rat r) := Nat.lt_of_lt_of_le Nat.lt_log2_self (Nat.pow_le_pow_right (by decide) (by simp only [sz]; omega))
theorem lt_int (i : Int) : i.natAbs < 2 ^ sz (.int i) := Nat.lt_log2_self
theorem mul_lt_pow {a b n m : Nat} (ha : a < 2 ^ n) (hb : b < 2 ^ m) : a * b < 2 ^ (n + m) := by
  rw [Nat.pow_add]
  by_cases h : b = 0
  · subst h; rw [Nat.mul_zero]; exact Nat.mul_pos (Nat.two_pow_pos _) (Nat.two_pow_pos _)
  · exact Nat.lt_of_lt_of_le (Nat.mul_lt_mul_of_pos_right ha (by omega)) (Nat.mul_le_mul_left _ (by omega))
theorem pow2_le {n m : Nat} (h : n ≤ m) : 2 ^ n ≤ 2 ^ m := Nat.pow_le_pow_right (by decide) h
theorem int_lt_pow {i : Int} {n : Nat} (h : 0 ≤ i) : i < 2 ^ n ↔ i.natAbs < 2 ^ n := by
  have e : ((2 ^ n : Nat) : Int) = (2 : Int) ^ n := Int.natCast_pow 2 n
  constructor
  · intro z; have : (i.natAbs : Int) < ((2 ^ n : Nat) : Int) := by rw [e]; omega
    omega
  · intro z; rw [← e]; omega
theorem sz_tog {k : Kd} {a b : Wo} (hb : bitK k = true) (ga : Good k a) (gb : Good k b) : sz (tog k a b) ≤ sz a + sz b + 1 := by
  have pa := sz_pos' a
  have pb := sz_pos' b
  cases k <;> first | cases hb | skip
  · obtain ⟨i, rfl, hi⟩ := good_cnt ga
    obtain ⟨j, rfl, hj⟩ := good_cnt gb
    rw [tog_cnt]
    have h1 := lt_int i
    have h2 := lt_int j
    have h3 := pow2_le (show sz (.int i) ≤ sz (.int i) + sz (.int j) by omega)
    have h4 := pow2_le (show sz (.int j) ≤ sz (.int i) + sz (.int j) by omega)
    have h5 : 2 ^ (sz (.int i) + sz (.int j) + 1) = 2 ^ (sz (.int i) + sz (.int j)) * 2 := Nat.pow_succ ..
    refine sz_int ?_ (by omega)
    unfold cntT
    split <;> omega
  · obtain ⟨r, rfl, hr⟩ := good_lik ga
    obtain ⟨s, rfl, hs⟩ := good_lik gb
    rw [tog_lik]; unfold likT; split <;> omega
  · obtain ⟨r, rfl, hr⟩ := good_cha ga
    obtain ⟨s, rfl, hs⟩ := good_cha gb
    rw [tog_cha, ← rat_add]
    have n0 := Rat.num_nonneg.2 hr
    have n1 := Rat.num_nonneg.2 hs
    have d0 := den_pos r
    have d1 := den_pos s
    have a1 := mul_lt_pow (lt_num r) (lt_den s)
    have a2 := mul_lt_pow (lt_num s) (lt_den r)
    have a3 := mul_lt_pow (lt_den r) (lt_den s)
    rw [Nat.add_comm] at a2
    have h5 : 2 ^ (sz (.rat r) + sz (.rat s) + 1) = 2 ^ (sz (.rat r) + sz (.rat s)) * 2 := Nat.pow_succ ..
    have m1 : 0 ≤ r.num * (s.den : Int) := Int.mul_nonneg n0 (by omega)
    have m2 : 0 ≤ s.num * (r.den : Int) := Int.mul_nonneg n1 (by omega)
    have m3 : 0 < (r.den : Int) * s.den := Int.mul_pos d0 d1
    refine sz_dvi (by omega) m3 ((int_lt_pow (by omega)).2 ?_) ((int_lt_pow (by omega)).2 ?_) (by omega)
    · have e1 : (r.num * (s.den : Int)).natAbs = r.num.natAbs * s.den := by rw [Int.natAbs_mul, Int.natAbs_natCast]
      have e2 : (s.num * (r.den : Int)).natAbs = s.num.natAbs * r.den := by rw [Int.natAbs_mul, Int.natAbs_natCast]
      omega
    · have e1 : ((r.den : Int) * s.den).natAbs = r.den * s.den := by rw [Int.natAbs_mul, Int.natAbs_natCast, Int.natAbs_natCast]
      omega
theorem sz_mulR {r s : Rat} (hr : 0 ≤ r) (hs : 0 ≤ s) : sz (.rat (r * s)) ≤ sz (.rat r) + sz (.rat s) := by
  have pa := sz_pos' (.rat r)
  have pb := sz_pos' (.rat s)
  rw [← rat_mul]
  have n0 := Rat.num_nonneg.2 hr
  have n1 := Rat.num_nonneg.2 hs
  have d0 := den_pos r
  have d1 := den_pos s
  have a1 := mul_lt_pow (lt_num r) (lt_num s)
  have a3 := mul_lt_pow (lt_den r) (lt_den s)
  have m1 : 0 ≤ r.num * s.num := Int.mul_nonneg n0 n1
  have m3 : 0 < (r.den : Int) * s.den := Int.mul_pos d0 d1
  refine sz_dvi m1 m3 ((int_lt_pow m1).2 ?_) ((int_lt_pow (by omega)).2 ?_) (by omega)
  · rw [Int.natAbs_mul]; exact a1
  · rw [Int.natAbs_mul, Int.natAbs_natCast, Int.natAbs_natCast]; exact a3
theorem sz_beh {k : Kd} {a b : Wo} (hb : bitK k = true) (ga : Good k a) (gb : Good k b) : sz (beh k a b) ≤ sz a + sz b := by
  have pa := sz_pos' a
  have pb := sz_pos' b
  cases k <;> first | cases hb | skip
  · obtain ⟨i, rfl, hi⟩ := good_cnt ga
    obtain ⟨j, rfl, hj⟩ := good_cnt gb
    rw [beh_cnt]
    have h2 : (1 : Nat) < 2 ^ (sz (.int i) + sz (.int j)) := Nat.one_lt_two_pow (by omega)
    refine sz_int ?_ (by omega)
    unfold cntB
    split
    · exact Nat.two_pow_pos _
    split
    · exact h2
    · rw [Int.natAbs_mul]; exact mul_lt_pow (lt_int i) (lt_int j)
  · obtain ⟨r, rfl, hr⟩ := good_lik ga
    obtain ⟨s, rfl, hs⟩ := good_lik gb
    exact sz_mulR hr.1 hs.1
  · obtain ⟨r, rfl, hr⟩ := good_cha ga
    obtain ⟨s, rfl, hs⟩ := good_cha gb
    exact sz_mulR hr hs
theorem sz_rnd {k : Kd} {a s : Wo} (hb : bitK k = true) (ga : Good k a) (h : rnd k a = some s) : sz s ≤ sz a := by
  have pa := sz_pos' a
  cases k <;> first | cases hb | skip
  · obtain ⟨i, rfl, hi⟩ := good_cnt ga
    cases h
    show sz (.int (if i = 0 then 1 else -1)) ≤ _
    have : sz (.int (if i = 0 then 1 else -1)) = 1 := by split <;> decide
    omega
  · cases h
    have : sz (restW .lik) = 1 := by decide
    have e : sz (.rat 1) = 1 := by decide
    omega
  · obtain ⟨r, rfl, hr⟩ := good_cha ga
    simp only [rnd] at h
    split at h
    · rename_i h1
      cases h
      rw [← rat_star r h1]
      have h2 := (rat_lt_one r).1 h1
      have n0 := Rat.num_nonneg.2 hr
      have d0 := den_pos r
      have l1 := lt_den r
      refine sz_dvi (by omega) (by omega) ((int_lt_pow (by omega)).2 ?_) ((int_lt_pow (by omega)).2 ?_) pa
      · rw [Int.natAbs_natCast]; exact l1
      · omega
    · cases h
theorem sz_rest (k : Kd) : sz (restW k) ≤ 31 := by cases k <;> first | decide | (show sz (.int _) ≤ 31; decide)
theorem sz_none (k : Kd) : sz (noneW k) ≤ 1 := by cases k <;> first | decide | (show sz (.int _) ≤ 1; decide)
/-! ### M6: drawn nets -/
/-- a road -/
structure Rw where
  s : Nat
  t : Nat
  w : Wo
/-- roads of the kind between n places -/
def RsOk (k : Kd) (n : Nat) (rs : List Rw) : Prop := ∀ r ∈ rs, Good k r.w ∧ r.s < n ∧ r.t < n
def wq : Wo → Rat
  | .rat r => r
  | _ => 0
/-- the shares of the roads from s, put together -/
def sumF (s : Nat) (a : Rat) (r : Rw) : Rat := if r.s = s then a + wq r.w else a
def sumW (s : Nat) (rs : List Rw) : Rat := rs.foldl (sumF s) 0
def thinOne (rs : List Rw) (r : Rw) : Rw := ⟨r.s, r.t, .rat (if 1 < sumW r.s rs then wq r.w / sumW r.s rs else wq r.w)⟩
def thin (rs : List Rw) : List Rw := rs.map (thinOne rs)
def drawR (ns : List Int) (o : Nat) (k : Kd) (n : Nat) (j : Nat) : Rw :=
  ⟨(cell ns (o + 1 + j) % n).toNat, (cell ns (o + 1 + j) / n % n).toNat, lawW k (cell ns (o + 1 + j) / (n * n))⟩
def drawN (ns : List Int) (o most : Nat) : Nat := (1 + cell ns o % most).toNat
def drawC (ns : List Int) (o most extra : Nat) : Nat := (cell ns o / most % (extra + 1)).toNat
def drawL0 (ns : List Int) (o : Nat) (k : Kd) (most extra : Nat) : List Rw := (List.range (drawC ns o most extra)).map (drawR ns o k (drawN ns o most))
def drawL (ns : List Int) (o : Nat) (k : Kd) (most extra : Nat) : List Rw := if k = .cha then thin (drawL0 ns o k most extra) else drawL0 ns o k most extra
/-- bits of a drawn road -/
def szB : Kd → Nat
  | .lik => 4 | .cnt => 100 | .cha => 24 | _ => 0
/-- what the laws rest on -/
structure NetD (k : Kd) (most extra n : Nat) (rs : List Rw) : Prop where
  n1 : 1 ≤ n
  nm : n ≤ most
  len : rs.length ≤ extra
  ok : RsOk k n rs
  sz : bitK k = true → ∀ r ∈ rs, sz r.w ≤ szB k
  cha : k = .cha → ∃ D : Nat → Nat, (∀ i, 1 ≤ D i ∧ D i < 2 ^ 23) ∧ (∀ r ∈ rs, ∃ a : Nat, wq r.w * (D r.s : Rat) = (a : Rat)) ∧ ∀ i, sumW i rs ≤ 1
theorem sumF_add (s : Nat) : ∀ (rs : List Rw) (a : Rat), rs.foldl (sumF s) a = a + sumW s rs
  | [], a => (Rat.add_zero a).symm
  | r :: rs, a => by
    show rs.foldl (sumF s) (sumF s a r) = a + rs.foldl (sumF s) (sumF s 0 r)
    rw [sumF_add s rs, sumF_add s rs]
    unfold sumF
    split
    · grind
    · grind
theorem sumW_cons (s : Nat) (r : Rw) (rs : List Rw) : sumW s (r :: rs) = (if r.s = s then wq r.w else 0) + sumW s rs := by
  show rs.foldl (sumF s) (sumF s 0 r) = _
  rw [sumF_add]
  unfold sumF
  split
  · grind
  · rfl
theorem wq_nonneg {a : Wo} (h : Good .cha a) : 0 ≤ wq a := by
  obtain ⟨r, rfl, h⟩ := good_cha h; exact h
theorem wq_eq {a : Wo} (h : Good .cha a) : a = .rat (wq a) := by
  obtain ⟨r, rfl, h⟩ := good_cha h; rfl
/-- drawn shares are of 27720 parts, and at most 8 -/
def P27 (q : Rat) : Prop := ∃ a : Nat, q * 27720 = (a : Rat) ∧ a ≤ 8 * 27720
theorem p27_div {t b : Int} (h0 : 0 ≤ t) (h8 : t ≤ 8) (b1 : 1 ≤ b) (b12 : b ≤ 12) : P27 (Rat.divInt t b) := by
  obtain ⟨n, rfl⟩ : ∃ n : Nat, t = n := ⟨t.toNat, by omega⟩
  have go : ∀ q : Nat, b * q = 27720 → P27 (Rat.divInt n b) := fun q hq => by
    refine ⟨n * q, ?_, ?_⟩
    · rw [Rat.divInt_eq_div]
      have hb : (b : Rat) ≠ 0 := by
        intro z
        have : b = 0 := by exact_mod_cast z
        omega
      have e : (b : Rat) * (q : Rat) = 27720 := by
        have := congrArg (fun z : Int => (z : Rat)) hq
        simpa only [Rat.intCast_mul, Rat.intCast_natCast, Rat.intCast_ofNat] using this
      rw [← e]
      have e2 : ((n * q : Nat) : Rat) = (n : Rat) * (q : Rat) := by norm_cast
      rw [e2, Rat.div_def]
      have e3 : ((n : Int) : Rat) = (n : Rat) := rfl
      rw [e3]
      have : (b : Rat)⁻¹ * b = 1 := Rat.inv_mul_cancel _ hb
      grind
    · have hn : n ≤ 8 := by omega
      have hq2 : q ≤ 27720 := by
        have : (1 : Int) * q ≤ b * q := Int.mul_le_mul_of_nonneg_right b1 (by omega)
        omega
      exact Nat.mul_le_mul hn hq2
  have hb : b = 1 ∨ b = 2 ∨ b = 3 ∨ b = 4 ∨ b = 5 ∨ b = 6 ∨ b = 7 ∨ b = 8 ∨ b = 9 ∨ b = 10 ∨ b = 11 ∨ b = 12 := by omega
  rcases hb with rfl | rfl | rfl | rfl | rfl | rfl | rfl | rfl | rfl | rfl | rfl | rfl
  · exact go 27720 (by decide)
  · exact go 13860 (by decide)
  · exact go 9240 (by decide)
  · exact go 6930 (by decide)
  · exact go 5544 (by decide)
  · exact go 4620 (by decide)
  · exact go 3960 (by decide)
  · exact go 3465 (by decide)
  · exact go 3080 (by decide)
  · exact go 2772 (by decide)
  · exact go 2520 (by decide)
  · exact go 2310 (by decide)
theorem p27_law (c : Int) : P27 (wq (lawW .cha c)) := by
  unfold lawW
  split
  · exact ⟨0, by show (0 : Rat) * 27720 = ((0 : Nat) : Rat); rw [Rat.zero_mul]; rfl, by decide⟩
  · split
    · exact ⟨27720, by show (1 : Rat) * 27720 = ((27720 : Nat) : Rat); rw [Rat.one_mul]; rfl, by decide⟩
    · show P27 (Rat.divInt (c / 6 % 9) (1 + c / 6 / 9 % 12))
      have h1 := Int.emod_nonneg (c / 6) (b := 9) (by omega)
      have h2 := Int.emod_lt_of_pos (c / 6) (b := 9) (by omega)
      have h3 := Int.emod_nonneg (c / 6 / 9) (b := 12) (by omega)
      have h4 := Int.emod_lt_of_pos (c / 6 / 9) (b := 12) (by omega)
      exact p27_div h1 (by omega) (by omega) (by omega)
theorem sum_p27 (s : Nat) : ∀ (rs : List Rw), (∀ r ∈ rs, P27 (wq r.w)) → ∃ a : Nat, sumW s rs * 27720 = (a : Rat) ∧ a ≤ rs.length * (8 * 27720)
  | [], _ => ⟨0, by show (0 : Rat) * 27720 = ((0 : Nat) : Rat); rw [Rat.zero_mul]; rfl, by decide⟩
  | r :: rs, h => by
    obtain ⟨a, ha, la⟩ := sum_p27 s rs fun x hx => h x (List.mem_cons_of_mem _ hx)
    obtain ⟨b, hb, lb⟩ := h r List.mem_cons_self
    rw [sumW_cons, List.length_cons]
    split
    · refine ⟨b + a, ?_, by omega⟩
      have e : ((b + a : Nat) : Rat) = (b : Rat) + (a : Rat) := by norm_cast
      rw [e, Rat.add_mul, ha, hb]
    · exact ⟨a, by rw [Rat.zero_add]; exact ha, Nat.le_trans la (Nat.mul_le_mul_right _ (Nat.le_succ _))⟩
theorem sum_thin (W : Rat) (f : Rw → Rw) (s : Nat) : ∀ (rs : List Rw), (∀ r ∈ rs, (f r).s = r.s ∧ (r.s = s → wq (f r).w = wq r.w / W)) → sumW s (rs.map f) = sumW s rs / W
  | [], _ => by show (0 : Rat) = 0 / W; rw [Rat.div_def, Rat.zero_mul]
  | r :: rs, h => by
    have ih := sum_thin W f s rs fun x hx => h x (List.mem_cons_of_mem _ hx)
    obtain ⟨h1, h2⟩ := h r List.mem_cons_self
    rw [List.map_cons, sumW_cons, sumW_cons, ih, h1]
    by_cases e : r.s = s
    · rw [if_pos e, if_pos e, h2 e, Rat.div_def, Rat.div_def, Rat.div_def, Rat.add_mul]
    · rw [if_neg e, if_neg e, Rat.zero_add, Rat.zero_add]
theorem nat_nonneg (a : Nat) : (0 : Rat) ≤ (a : Rat) := by exact_mod_cast Nat.zero_le a
/-- a share of D parts, at most 1, has at most as many bits as D -/
theorem sz_parts {q : Rat} {D a n : Nat} (hD : 1 ≤ D) (hn : D < 2 ^ n) (h : q * (D : Rat) = (a : Rat)) (h1 : q ≤ 1) (h0 : 0 ≤ q) : sz (.rat q) ≤ n := by
  have hD0 : (D : Rat) ≠ 0 := by
    intro z
    have : D = 0 := by exact_mod_cast z
    omega
  have e : q = Rat.divInt (a : Int) (D : Int) := by
    rw [Rat.divInt_eq_div, Rat.div_def]
    have e1 : ((D : Int) : Rat) = (D : Rat) := rfl
    have e2 : ((a : Int) : Rat) = (a : Rat) := rfl
    have := Rat.mul_inv_cancel _ hD0
    rw [e1, e2]
    grind
  have hden : q.den ≤ D := by
    have e3 := low_den (a : Int) (D : Int) (by omega)
    rw [← e] at e3
    have h4 := gcd_pos' (a : Int) (D : Int) (by omega)
    have : (D : Int) / (Int.gcd a D : Int) ≤ D := Int.ediv_le_self _ (by omega)
    omega
  have hnum := (rat_le_one q).1 h1
  have hnum0 := Rat.num_nonneg.2 h0
  have dp := q.den_pos
  have hl : ∀ m : Nat, m ≤ D → m.log2 + 1 ≤ n := fun m hm => by
    by_cases hm0 : m = 0
    · subst hm0
      have : n ≠ 0 := by rintro rfl; simp at hn; omega
      simp; omega
    · exact (Nat.log2_lt hm0).2 (Nat.lt_of_le_of_lt hm hn)
  have a1 := hl q.num.natAbs (by omega)
  have a2 := hl q.den hden
  simp only [sz]; omega
theorem thin_ok {rs : List Rw} {n : Nat} (h : RsOk .cha n rs) (hp : ∀ r ∈ rs, P27 (wq r.w)) (hl : rs.length ≤ 24) :
    RsOk .cha n (thin rs) ∧ (∃ D : Nat → Nat, (∀ i, 1 ≤ D i ∧ D i < 2 ^ 23) ∧ (∀ r ∈ thin rs, ∃ a : Nat, wq r.w * (D r.s : Rat) = (a : Rat)) ∧ ∀ i, sumW i (thin rs) ≤ 1) := by
  obtain ⟨T, hT⟩ : ∃ T : Nat → Nat, ∀ i, sumW i rs * 27720 = (T i : Rat) ∧ T i ≤ rs.length * (8 * 27720) := ⟨fun i => (sum_p27 i rs hp).choose, fun i => (sum_p27 i rs hp).choose_spec⟩
  have h27 : (27720 : Rat) = ((27720 : Nat) : Rat) := rfl
  have hlt : ∀ i, 1 < sumW i rs ↔ 27720 < T i := fun i => by
    have e := (hT i).1
    constructor
    · intro h1
      have : (27720 : Rat) < (T i : Rat) := by
        rw [← e]
        have := Rat.mul_lt_mul_of_pos_right h1 (show (0 : Rat) < 27720 by decide)
        rwa [Rat.one_mul] at this
      exact_mod_cast this
    · intro h1
      refine Rat.not_le.1 fun h2 => ?_
      have h3 := Rat.mul_le_mul_of_nonneg_right h2 (show (0 : Rat) ≤ 27720 by decide)
      rw [e, Rat.one_mul, h27] at h3
      have : T i ≤ 27720 := by exact_mod_cast h3
      omega
  have pos : ∀ i, 1 < sumW i rs → sumW i rs ≠ 0 := fun i h z => by
    rw [z] at h; exact absurd h (by decide)
  refine ⟨?_, fun i => if 27720 < T i then T i else 27720, fun i => ?_, ?_, fun i => ?_⟩
  · intro r hr
    obtain ⟨r0, h0, rfl⟩ := List.mem_map.1 hr
    obtain ⟨g, h1, h2⟩ := h r0 h0
    refine ⟨?_, h1, h2⟩
    show (0 : Rat) ≤ _
    split
    · rename_i hh
      rw [Rat.div_def]
      refine Rat.mul_nonneg (wq_nonneg g) (Rat.le_of_lt (Rat.inv_pos.2 ?_))
      have : (0 : Rat) < 1 := by decide
      grind
    · exact wq_nonneg g
  · have := (hT i).2
    have h3 : rs.length * (8 * 27720) ≤ 24 * (8 * 27720) := Nat.mul_le_mul_right _ hl
    dsimp only
    split <;> omega
  · intro r hr
    obtain ⟨r0, h0, rfl⟩ := List.mem_map.1 hr
    obtain ⟨a, ha, _⟩ := hp r0 h0
    refine ⟨a, ?_⟩
    show (if 1 < sumW r0.s rs then wq r0.w / sumW r0.s rs else wq r0.w) * (((if 27720 < T r0.s then T r0.s else 27720 : Nat)) : Rat) = (a : Rat)
    by_cases hh : 1 < sumW r0.s rs
    · rw [if_pos hh, if_pos ((hlt _).1 hh), ← (hT r0.s).1, Rat.div_def]
      have := Rat.inv_mul_cancel _ (pos _ hh)
      grind
    · rw [if_neg hh, if_neg fun z => hh ((hlt _).2 z)]
      exact ha
  · by_cases hh : 1 < sumW i rs
    · have := sum_thin (sumW i rs) (thinOne rs) i rs fun r _ => ⟨rfl, fun e => by
        show (if 1 < sumW r.s rs then wq r.w / sumW r.s rs else wq r.w) = _
        rw [e, if_pos hh]⟩
      show sumW i (rs.map (thinOne rs)) ≤ 1
      rw [this, Rat.div_def, Rat.mul_inv_cancel _ (pos _ hh)]
      exact Rat.le_refl
    · have := sum_thin 1 (thinOne rs) i rs fun r _ => ⟨rfl, fun e => by
        show (if 1 < sumW r.s rs then wq r.w / sumW r.s rs else wq r.w) = _
        rw [e, if_neg hh, Rat.div_def]; grind⟩
      show sumW i (rs.map (thinOne rs)) ≤ 1
      rw [this]
      have e1 : sumW i rs / 1 = sumW i rs := by rw [Rat.div_def]; grind
      rw [e1]
      exact Rat.not_lt.1 hh
theorem sumF_le (s : Nat) : ∀ (rs : List Rw), (∀ r ∈ rs, Good .cha r.w) → 0 ≤ sumW s rs ∧ ∀ r ∈ rs, r.s = s → wq r.w ≤ sumW s rs
  | [], _ => ⟨Rat.le_refl, fun r hr => absurd hr (by simp)⟩
  | x :: rs, h => by
    obtain ⟨h0, h1⟩ := sumF_le s rs fun r hr => h r (List.mem_cons_of_mem _ hr)
    have g := wq_nonneg (h x List.mem_cons_self)
    rw [sumW_cons]
    have hx : (0 : Rat) ≤ (if x.s = s then wq x.w else 0) := by split; exact g; exact Rat.le_refl
    refine ⟨Rat.add_nonneg hx h0, fun r hr e => ?_⟩
    rcases List.mem_cons.1 hr with rfl | hr
    · rw [if_pos e]; grind
    · have := h1 r hr e
      grind
theorem cha_sz {rs : List Rw} {n : Nat} (h : RsOk .cha n rs) {D : Nat → Nat} (hD : ∀ i, 1 ≤ D i ∧ D i < 2 ^ 23) (ha : ∀ r ∈ rs, ∃ a : Nat, wq r.w * (D r.s : Rat) = (a : Rat)) (h1 : ∀ i, sumW i rs ≤ 1) : ∀ r ∈ rs, sz r.w ≤ 24 := fun r hr => by
  obtain ⟨a, e⟩ := ha r hr
  obtain ⟨_, hs⟩ := sumF_le r.s rs fun x hx => (h x hx).1
  have g := (h r hr).1
  have := sz_parts (hD r.s).1 (hD r.s).2 e (Rat.le_trans (hs r hr rfl) (h1 r.s)) (wq_nonneg g)
  rw [wq_eq g]
  omega
theorem lik_sz (c : Int) : sz (lawW .lik c) ≤ 4 := by
  unfold lawW
  split
  · decide
  · split
    · decide
    · show sz (.rat (Rat.divInt (c / 6 % (1 + c / 6 / 7 % 12 + 1)) (1 + c / 6 / 7 % 12))) ≤ 4
      have hb0 : 0 ≤ c / 6 / 7 % 12 := Int.emod_nonneg _ (by decide)
      have hb1 : c / 6 / 7 % 12 < 12 := Int.emod_lt_of_pos _ (by decide)
      have h1 := Int.emod_nonneg (c / 6) (b := 1 + c / 6 / 7 % 12 + 1) (by omega)
      have h2 := Int.emod_lt_of_pos (c / 6) (b := 1 + c / 6 / 7 % 12 + 1) (by omega)
      have h16 : (2 : Int) ^ 4 = 16 := by decide
      exact Nat.le_trans (sz_dvi (n := 4) h1 (by omega) (by omega) (by omega) (by decide)) (by decide)
theorem netD_draw (ns : List Int) (o : Nat) {k : Kd} (hk : KOk k) {most extra : Nat} (hm : 1 ≤ most) (hx : k = .cha → extra ≤ 24) : NetD k most extra (drawN ns o most) (drawL ns o k most extra) := by
  have n0 : 0 ≤ cell ns o % (most : Int) := Int.emod_nonneg _ (by omega)
  have n1 : cell ns o % (most : Int) < most := Int.emod_lt_of_pos _ (by omega)
  have hn : 1 ≤ drawN ns o most ∧ drawN ns o most ≤ most := by unfold drawN; omega
  have c0 : 0 ≤ cell ns o / (most : Int) % ((extra : Int) + 1) := Int.emod_nonneg _ (by omega)
  have c1 : cell ns o / (most : Int) % ((extra : Int) + 1) < (extra : Int) + 1 := Int.emod_lt_of_pos _ (by omega)
  have hl0 : (drawL0 ns o k most extra).length ≤ extra := by
    unfold drawL0 drawC; rw [List.length_map, List.length_range]; omega
  have ok0 : RsOk k (drawN ns o most) (drawL0 ns o k most extra) := by
    intro r hr
    obtain ⟨j, _, rfl⟩ := List.mem_map.1 hr
    generalize drawN ns o most = n at hn
    have a0 := Int.emod_nonneg (cell ns (o + 1 + j)) (b := (n : Int)) (by omega)
    have a1 := Int.emod_lt_of_pos (cell ns (o + 1 + j)) (b := (n : Int)) (by omega)
    have b0 := Int.emod_nonneg (cell ns (o + 1 + j) / n) (b := (n : Int)) (by omega)
    have b1 := Int.emod_lt_of_pos (cell ns (o + 1 + j) / n) (b := (n : Int)) (by omega)
    refine ⟨good_law hk _, ?_, ?_⟩
    · show (cell ns (o + 1 + j) % (n : Int)).toNat < n; omega
    · show (cell ns (o + 1 + j) / (n : Int) % (n : Int)).toNat < n; omega
  by_cases hc : k = .cha
  · subst hc
    have hp : ∀ r ∈ drawL0 ns o .cha most extra, P27 (wq r.w) := by
      intro r hr
      obtain ⟨j, _, rfl⟩ := List.mem_map.1 hr
      exact p27_law _
    have hll := hx rfl
    obtain ⟨ok1, D, hD, ha, h1⟩ := thin_ok ok0 hp (by omega)
    have eL : drawL ns o .cha most extra = thin (drawL0 ns o .cha most extra) := by unfold drawL; rw [if_pos rfl]
    rw [eL]
    exact ⟨hn.1, hn.2, by unfold thin; rw [List.length_map]; exact hl0, ok1, fun _ => cha_sz ok1 hD ha h1, fun _ => ⟨D, hD, ha, h1⟩⟩
  · have eL : drawL ns o k most extra = drawL0 ns o k most extra := by unfold drawL; rw [if_neg hc]
    rw [eL]
    refine ⟨hn.1, hn.2, hl0, ok0, fun hb r hr => ?_, fun h => absurd h hc⟩
    obtain ⟨j, _, rfl⟩ := List.mem_map.1 hr
    cases k with
    | lik => exact lik_sz _
    | cnt => exact sz_law hk _
    | cha => exact absurd rfl hc
    | _ => cases hb
/-! ### W1: worths as values; shares -/
/-- v is the worth a -/
def Wv (H : Hp) (v : V) : Wo → Prop
  | .non => v = .non
  | .int i => v = .int i
  | .rat r => ∃ t, v = .ref t ∧ H t = some (.tup [.int r.num, .int r.den])
theorem Wv.same {H H' : Hp} {v : V} {a : Wo} (h : Wv H v a) (e : Same H H') : Wv H' v a := by
  cases a with
  | non => exact h
  | int i => exact h
  | rat r => obtain ⟨t, h1, h2⟩ := h; exact ⟨t, h1, e _ _ h2⟩
theorem same_upd {H : Hp} {p : Addr} {o : HO} (h : H p = none) : Same H (upd H p o) := fun b u e => by rw [upd_ne (ne_of_none e h)]; exact e
theorem same_new {H : Hp} {x dx C : Addr} {fs : List (Str × V)} (hx : H x = none) (hd : H dx = none) : Same H (upd (upd H dx (.own x)) x (.ins C dx fs)) := fun b o e => by
  rw [upd_ne (ne_of_none e hx), upd_ne (ne_of_none e hd)]; exact e
theorem sizeLt {n : Nat} (h : n < 10000) : n < sizeLine := by rw [sizeLine_eq]; omega
theorem ixN_nat {n i : Nat} (h : i < n) : ixN n (i : Int) = some i := by
  unfold ixN
  rw [if_pos (by omega), if_pos (by omega), Int.toNat_natCast]
/-- a pair of whole numbers -/
def Pr (H : Hp) (v : V) (p q : Int) : Prop := ∃ t, v = .ref t ∧ H t = some (.tup [.int p, .int q])
theorem Pr.same {H H' : Hp} {v : V} {p q : Int} (h : Pr H v p q) (e : Same H H') : Pr H' v p q := by
  obtain ⟨t, h1, h2⟩ := h; exact ⟨t, h1, e _ _ h2⟩
theorem Wv.pr {H : Hp} {v : V} {r : Rat} : Wv H v (.rat r) ↔ Pr H v r.num r.den := Iff.rfl
theorem at0 {x y : V} : atI [x, y] 0 = some x := atI_nat (j := 0) rfl
theorem at1 {x y : V} : atI [x, y] 1 = some y := atI_nat (j := 1) rfl
theorem size2 : (2 : Nat) ≤ sizeLine := by rw [sizeLine_eq]; decide
/-- common(a, b) -/
def spCommon : Sp := fun vs H Q _ => ∃ a b : Int, vs = [.int a, .int b] ∧ 0 ≤ a ∧ 0 ≤ b ∧ Q (.int (Int.gcd a b : Int)) H
/-- lowest(t, b) -/
def spLowest : Sp := fun vs H Q _ => ∃ t b : Int, vs = [.int t, .int b] ∧ 0 ≤ t ∧ 0 < b ∧ b.natAbs.log2 < 9000 ∧
  ∀ p, H p = none → Q (.ref p) (upd H p (.tup [.int (Rat.divInt t b).num, .int (Rat.divInt t b).den]))
/-- a deed of two shares -/
def spShare (f : Rat → Rat → Rat) (n : Nat) : Sp := fun vs H Q _ => ∃ (x y : V) (r s : Rat), vs = [x, y] ∧ Wv H x (.rat r) ∧ Wv H y (.rat s) ∧ 0 ≤ r ∧ 0 ≤ s ∧ sz (.rat r) + sz (.rat s) ≤ n ∧
  ∀ p, H p = none → Q (.ref p) (upd H p (.tup [.int (f r s).num, .int (f r s).den]))
def spLess : Sp := fun vs H Q _ => ∃ (x y : V) (r s : Rat), vs = [x, y] ∧ Wv H x (.rat r) ∧ Wv H y (.rat s) ∧ sz (.rat r) + sz (.rat s) ≤ 8000 ∧ Q (.bl (decide (r < s))) H
theorem log2_mono {a b : Nat} (h : a ≤ b) : a.log2 ≤ b.log2 := by
  by_cases h0 : a = 0
  · subst h0; simp
  · have hb : b ≠ 0 := by omega
    exact (Nat.le_log2 hb).2 (Nat.le_trans (Nat.log2_self_le h0) h)
theorem lt_sz_num (r : Rat) : r.num.natAbs < 2 ^ sz (.rat r) := by
  refine Nat.lt_of_lt_of_le (Nat.lt_log2_self) (Nat.pow_le_pow_right (by decide) ?_)
  simp only [sz]; omega
theorem lt_sz_den (r : Rat) : (r.den : Int).natAbs < 2 ^ sz (.rat r) := by
  rw [Int.natAbs_natCast]
  refine Nat.lt_of_lt_of_le (Nat.lt_log2_self) (Nat.pow_le_pow_right (by decide) ?_)
  simp only [sz]; omega
theorem sz_pos (a : Wo) : 0 < sz a := by cases a <;> simp only [sz] <;> omega
theorem lt_sz_int (i : Int) : i.natAbs < 2 ^ sz (.int i) := Nat.lt_log2_self
theorem mul_fit {a b : Int} {n m k : Nat} (ha : a.natAbs < 2 ^ n) (hb : b.natAbs < 2 ^ m) (h0 : 0 < n) (h1 : 0 < m) (h : n + m ≤ k) (hk : k ≤ 1000000) : L2.CMulW a b := wide_mul ha hb h0 h1 (by omega)
theorem den_fit {r s : Rat} {n : Nat} (h : sz (.rat r) + sz (.rat s) ≤ n) (hn : n ≤ 8000) : ((r.den : Int) * s.den).natAbs.log2 < 9000 := by
  have := wide_lt (lt_sz_den r) (lt_sz_den s)
  have h2 := PySem.Flt.log2_lt_of (n := ((r.den : Int) * s.den).natAbs) (k := sz (.rat r) + sz (.rat s)) (by have := sz_pos (.rat r); omega) this
  omega
section
variable {P : Program} {w : World} {K : PySem.W.Frag} {mg : Str → Option Value} {base : Heap}
theorem fc_common {f : Addr} {fd : FuncData} (D : Dfn K mg "common" s_common ["one", "other"] f fd) : Fc CX0 P w K mg base 1 "common" spCommon := by
  have sc : FnScope ["one", "other", "kept"] ["one", "other"] (defScope s_common) := ⟨rfl, rfl, rfl, by decide +kernel, rfl, by decide +kernel, by decide +kernel⟩
  refine fc0 D sc (fun vs H Q E h => ?_) (fun cdv A outer s H vs Q E hr h => ?_)
  · obtain ⟨a, b, rfl, _⟩ := h; rfl
  · obtain ⟨a, b, rfl, ha, hb, k⟩ := h
    refine ⟨_, pss_cons (ps_while PassesOwn.never (pt_cmpR op_ne (pv 1) pe_int (nomark _)) (pss_cons (ps_set (i := 2) sc.nd rfl (.inl rfl) (pe_op op_mod (pv 0) (pv 1)))
      (pss_cons (ps_set (i := 0) sc.nd rfl (.inl rfl) (pv 1)) (pss_one (ps_set (i := 1) sc.nd rfl (.inl rfl) (pv 2)))))) (pss_one (ps_ret (pv 0))), ?_⟩
    refine while_by (fun σ H' => ∃ (x y : Int) (v : Option V), σ = [some (.int x), some (.int y), v] ∧ H' = H ∧ 0 ≤ x ∧ 0 ≤ y ∧ Int.gcd x y = Int.gcd a b)
      (fun σ _ => match σ with | [_, some (.int y), _] => y.toNat | _ => 0) ⟨a, b, none, rfl, rfl, ha, hb, rfl⟩ ?_ ?_
    · rintro σ H' ⟨x, y, v, rfl, rfl, hx, hy, hg⟩
      refine ⟨_, rfl, rfl, _, rfl, ?_⟩
      by_cases h0 : y = 0
      · subst h0
        refine ⟨_, rfl, ?_⟩
        rw [Int.gcd_zero_right, ← Int.natCast_inj] at hg
        have e : x = (Int.gcd a b : Int) := by rw [← hg]; omega
        rw [e]; exact k
      · have hd : (!decide (V.int y = V.int 0)) = true := by simp [h0]
        show if (!decide (V.int y = V.int 0)) = true then _ else _
        rw [if_pos hd]
        refine ⟨_, rfl, _, rfl, _, _, rfl, rfl, (by omega : 0 < y), ?_⟩
        refine ⟨_, rfl, _, rfl, ⟨y, x % y, _, rfl, rfl, hy, Int.emod_nonneg _ h0, by rw [gcd_step]; exact hg⟩, ?_⟩
        have := Int.emod_lt_of_pos x (show 0 < y by omega)
        have := Int.emod_nonneg x h0
        show (x % y).toNat < y.toNat
        omega
    · rintro σ H' R R' hm ⟨v, e, h1, b, e2, h2⟩
      exact ⟨v, e, h1, b, e2, hm _ _ h2⟩
theorem fc_lowest {f : Addr} {fd : FuncData} (D : Dfn K mg "lowest" s_lowest ["top", "below"] f fd) (C : Fc CX0 P w K mg base 1 "common" spCommon) : Fc CX0 P w K mg base 2 "lowest" spLowest := by
  have sc : FnScope ["top", "below", "part"] ["top", "below"] (defScope s_lowest) := ⟨rfl, rfl, rfl, by decide +kernel, rfl, by decide +kernel, by decide +kernel⟩
  refine fc0 D sc (fun vs H Q E h => ?_) (fun cdv A outer s H vs Q E hr h => ?_)
  · obtain ⟨a, b, rfl, _⟩ := h; rfl
  · obtain ⟨a, b, rfl, ha, hb, hl, k⟩ := h
    refine ⟨_, pss_cons (ps_set (i := 2) sc.nd rfl (.inl rfl) (pe_f C hr (by decide) pass0 rfl (pa_cons (pv 0) (pa_cons (pv 1) pa_nil))))
      (pss_one (ps_ret (pe_tup (pa_cons (pe_op op_fdivW (pv 0) (pv 2)) (pa_cons (pe_op op_fdivW (pv 1) (pv 2)) pa_nil))))), ?_⟩
    have hg := gcd_pos' a b hb
    have hle := gcd_le' a b hb
    have hw : ∀ i, L2.CDivW i (Int.gcd a b : Int) := fun i => ⟨hg, Nat.lt_of_le_of_lt (log2_mono (by omega)) hl⟩
    refine ⟨_, rfl, _, rfl, a, b, rfl, ha, by omega, ?_⟩
    refine ⟨_, rfl, _, rfl, _, _, rfl, rfl, hw _, _, rfl, _, rfl, _, _, rfl, rfl, hw _, size2, fun p hp => ?_⟩
    have := k p hp
    rw [low_num a b hb, low_den a b hb] at this
    exact this
theorem fc_added {f : Addr} {fd : FuncData} (D : Dfn K mg "added" s_added ["one", "other"] f fd) (C : Fc CX0 P w K mg base 2 "lowest" spLowest) : Fc CX0 P w K mg base 3 "added" (spShare (· + ·) 8000) := by
  have sc : FnScope ["one", "other"] ["one", "other"] (defScope s_added) := ⟨rfl, rfl, rfl, by decide +kernel, rfl, by decide +kernel, by decide +kernel⟩
  refine fc0 D sc (fun vs H Q E h => ?_) (fun cdv A outer s H vs Q E hr h => ?_)
  · obtain ⟨x, y, r, s, rfl, _⟩ := h; rfl
  · obtain ⟨x, y, r, s, rfl, ⟨t, rfl, ht⟩, ⟨u, rfl, hu⟩, hr0, hs0, hsz, k⟩ := h
    refine ⟨_, pss_one (ps_ret (pe_f C hr (by decide) pass0 rfl (pa_cons (pe_op op_add (pe_op op_mulW (pe_ix ix_tup (pv 0) pe_int (fun _ _ => rfl)) (pe_ix ix_tup (pv 1) pe_int (fun _ _ => rfl))) (pe_op op_mulW (pe_ix ix_tup (pv 1) pe_int (fun _ _ => rfl)) (pe_ix ix_tup (pv 0) pe_int (fun _ _ => rfl))))
      (pa_cons (pe_op op_mulW (pe_ix ix_tup (pv 0) pe_int (fun _ _ => rfl)) (pe_ix ix_tup (pv 1) pe_int (fun _ _ => rfl))) pa_nil)))), ?_⟩
    have n0 := Rat.num_nonneg.2 hr0
    have n1 := Rat.num_nonneg.2 hs0
    have d0 := den_pos r
    have d1 := den_pos s
    have p0 := sz_pos (.rat r)
    have p1 := sz_pos (.rat s)
    refine ⟨_, rfl, t, _, _, _, rfl, rfl, SqT.of ht, at0, _, rfl, u, _, _, _, rfl, rfl, SqT.of hu, at1, _, _, rfl, rfl, mul_fit (lt_sz_num r) (lt_sz_den s) p0 p1 hsz (by decide), ?_⟩
    refine ⟨_, rfl, u, _, _, _, rfl, rfl, SqT.of hu, at0, _, rfl, t, _, _, _, rfl, rfl, SqT.of ht, at1, _, _, rfl, rfl, mul_fit (lt_sz_num s) (lt_sz_den r) p1 p0 (by omega) (by decide : 8000 ≤ _), _, _, rfl, rfl, ?_⟩
    refine ⟨_, rfl, t, _, _, _, rfl, rfl, SqT.of ht, at1, _, rfl, u, _, _, _, rfl, rfl, SqT.of hu, at1, _, _, rfl, rfl, mul_fit (lt_sz_den r) (lt_sz_den s) p0 p1 hsz (by decide), ?_⟩
    refine ⟨_, _, rfl, Int.add_nonneg (Int.mul_nonneg n0 (by omega)) (Int.mul_nonneg n1 (by omega)), Int.mul_pos d0 d1, den_fit hsz (by decide), fun p hp => ?_⟩
    rw [rat_add]
    exact k p hp
theorem fc_less {f : Addr} {fd : FuncData} (D : Dfn K mg "less" s_less ["one", "other"] f fd) : Fc CX0 P w K mg base 1 "less" spLess := by
  have sc : FnScope ["one", "other"] ["one", "other"] (defScope s_less) := ⟨rfl, rfl, rfl, by decide +kernel, rfl, by decide +kernel, by decide +kernel⟩
  refine fc0 D sc (fun vs H Q E h => ?_) (fun cdv A outer s H vs Q E hr h => ?_)
  · obtain ⟨x, y, r, s, rfl, _⟩ := h; rfl
  · obtain ⟨x, y, r, s, rfl, ⟨t, rfl, ht⟩, ⟨u, rfl, hu⟩, hsz, k⟩ := h
    refine ⟨_, pss_one (ps_ret (pe_cmpR op_lt (pe_op op_mulW (pe_ix ix_tup (pv 0) pe_int (fun _ _ => rfl)) (pe_ix ix_tup (pv 1) pe_int (fun _ _ => rfl))) (pe_op op_mulW (pe_ix ix_tup (pv 1) pe_int (fun _ _ => rfl)) (pe_ix ix_tup (pv 0) pe_int (fun _ _ => rfl))) (nomark _))), ?_⟩
    have p0 := sz_pos (.rat r)
    have p1 := sz_pos (.rat s)
    refine ⟨_, rfl, t, _, _, _, rfl, rfl, SqT.of ht, at0, _, rfl, u, _, _, _, rfl, rfl, SqT.of hu, at1, _, _, rfl, rfl, mul_fit (lt_sz_num r) (lt_sz_den s) p0 p1 hsz (by decide), ?_⟩
    refine ⟨_, rfl, u, _, _, _, rfl, rfl, SqT.of hu, at0, _, rfl, t, _, _, _, rfl, rfl, SqT.of ht, at1, _, _, rfl, rfl, mul_fit (lt_sz_num s) (lt_sz_den r) p1 p0 (by omega) (by decide : 8000 ≤ _), _, _, rfl, rfl, ?_⟩
    have e : decide (r < s) = decide (r.num * s.den < s.num * r.den) := by rw [decide_eq_decide]; exact Rat.lt_iff r s
    rw [e] at k
    exact k
end
/-! ### W2: the kinds' methods -/
/-- attributes of a kind -/
def kfs : Kd → List (Str × V)
  | .rst m => putF "m" (.int m) []
  | _ => []
/-- the kind k stands at x -/
def KindAt (A : Ad) (H : Hp) (x : Addr) (k : Kd) : Prop := Av k.x = true ∧ KOk k ∧ ∃ dx, H x = some (.ins (A.C k.x) dx (kfs k))
theorem KindAt.same {A : Ad} {H H' : Hp} {x : Addr} {k : Kd} (h : KindAt A H x k) (e : Same H H') : KindAt A H' x k := by
  obtain ⟨h0, h2, dx, h1⟩ := h; exact ⟨h0, h2, dx, e _ _ h1⟩
theorem kfs_no (k : Kd) {m : Str} (h : ¬ m = "m") : (kfs k).lookup m = none := by
  cases k <;> first | rfl | skip
  unfold kfs
  rw [lookup_putF, if_neg h]
  rfl
theorem kfs_m (m : Nat) : (kfs (.rst m)).lookup ("m" : Str) = some (.int m) := by
  unfold kfs
  rw [lookup_putF, if_pos rfl]
/-- k.m(): a worth -/
def spK0 (A : Ad) (i : Kx) (f : Kd → Wo) : Sp := fun vs H Q _ => ∃ (x : Addr) (k : Kd), vs = [.ref x] ∧ KindAt A H x k ∧ k.x = i ∧ ∀ H' z, Same H H' → Wv H' z (f k) → Q z H'
/-- k.m(a, b): a worth -/
def spK2 (A : Ad) (i : Kx) (f : Kd → Wo → Wo → Wo) : Sp := fun vs H Q _ => ∃ (x : Addr) (k : Kd) (u v : V) (a b : Wo), vs = [.ref x, u, v] ∧ KindAt A H x k ∧ k.x = i ∧ Wv H u a ∧ Wv H v b ∧ Good k a ∧ Good k b ∧ Fits k a b ∧
  ∀ H' z, Same H H' → Wv H' z (f k a b) → Q z H'
/-- k.rounds(a) -/
def spRnd (A : Ad) (nos : Addr) (i : Kx) : Sp := fun vs H Q E => ∃ (x : Addr) (k : Kd) (u : V) (a : Wo), vs = [.ref x, u] ∧ KindAt A H x k ∧ k.x = i ∧ Wv H u a ∧ Good k a ∧ Fit1 k a ∧
  (∀ s, rnd k a = some s → ∀ H' z, Same H H' → Wv H' z s → Q z H') ∧ (rnd k a = none → E (.ref nos) none H)
/-- k.picks() -/
def spPick (A : Ad) (i : Kx) : Sp := fun vs H Q _ => ∃ (x : Addr) (k : Kd), vs = [.ref x] ∧ KindAt A H x k ∧ k.x = i ∧ Q (.bl (pick k)) H
theorem ifT {c : Bool} {A B : Prop} (h : c = true) (q : A) : if c = true then A else B := by rw [if_pos h]; exact q
theorem ifF {c : Bool} {A B : Prop} (h : c = false) (q : B) : if c = true then A else B := by rw [h, if_neg Bool.false_ne_true]; exact q
theorem wv_tup {H : Hp} {p : Addr} {r : Rat} {P Q : Int} (h1 : P = r.num) (h2 : Q = r.den) : Wv (upd H p (.tup [.int P, .int Q])) (.ref p) (.rat r) := ⟨p, rfl, by rw [upd_same, h1, h2]⟩
theorem nn (i : Int) (h : 0 ≤ i) : ∃ n : Nat, i = (n : Int) := ⟨i.toNat, by omega⟩
theorem fsc {N P : List Str} {sc : Scope} (h : C8.scC N P sc = true) : FnScope N P sc := C8.fnScope_by h
theorem bor (a b : Nat) : Builtin.bitOr (a : Int) (b : Int) = ((a ||| b : Nat) : Int) := by
  rw [bitOr_nn (by omega) (by omega), Int.toNat_natCast, Int.toNat_natCast]
theorem band (a b : Nat) : Builtin.bitAnd (a : Int) (b : Int) = ((a &&& b : Nat) : Int) := by
  unfold Builtin.bitAnd
  rw [decide_eq_true (show (0 : Int) ≤ (a : Int) by omega), decide_eq_true (show (0 : Int) ≤ (b : Int) by omega)]
  simp
section
variable {P : Program} {w : World} {K : PySem.W.Frag} {mg : Str → Option Value} {base : Heap} {A : Ad} {f : Addr} {fd : FuncData}
/-- a method that hands back a written whole number -/
theorem len0 {i : Kx} {g : Kd → Wo} : ∀ vs H Q E, spK0 A i g vs H Q E → vs.length = ["self"].length := fun vs H Q E h => by
  obtain ⟨x, k, rfl, _⟩ := h; rfl
theorem len2 {i : Kx} {g : Kd → Wo → Wo → Wo} : ∀ vs H Q E, spK2 A i g vs H Q E → vs.length = ["self", "one", "other"].length := fun vs H Q E h => by
  obtain ⟨x, k, u, v, a, b, rfl, _⟩ := h; rfl
theorem lenR {i : Kx} {n : Addr} : ∀ vs H Q E, spRnd A n i vs H Q E → vs.length = ["self", "one"].length := fun vs H Q E h => by
  obtain ⟨x, k, u, a, rfl, _⟩ := h; rfl
theorem lenP {i : Kx} : ∀ vs H Q E, spPick A i vs H Q E → vs.length = ["self"].length := fun vs H Q E h => by
  obtain ⟨x, k, rfl, _⟩ := h; rfl
theorem mc_Fewest_rest (c : Cls K A.Fewest) (D : Mth K A.Fewest "rest" "Fewest.rest" s_Fewest_rest ["self"] f fd) : Mc CX0 P w K mg base 1 A.Fewest "rest" (spK0 A .few restW) := by
  refine mc0 (N := ["self"]) c D (fsc (by decide +kernel)) len0 (fun cdv _ outer s H vs Q E hr h => ?_)
  obtain ⟨x, k, rfl, hk, e, q⟩ := h
  cases k <;> cases e
  exact ⟨_, pss_one (ps_ret pe_int), q _ _ (Same.refl _) rfl⟩
theorem mc_Counted_rest (c : Cls K A.Counted) (D : Mth K A.Counted "rest" "Counted.rest" s_Counted_rest ["self"] f fd) : Mc CX0 P w K mg base 1 A.Counted "rest" (spK0 A .cnt restW) := by
  refine mc0 (N := ["self"]) c D (fsc (by decide +kernel)) len0 (fun cdv _ outer s H vs Q E hr h => ?_)
  obtain ⟨x, k, rfl, hk, e, q⟩ := h
  cases k <;> cases e
  exact ⟨_, pss_one (ps_ret pe_int), q _ _ (Same.refl _) rfl⟩
theorem mc_Musts_rest (c : Cls K A.Musts) (D : Mth K A.Musts "rest" "Musts.rest" s_Musts_rest ["self"] f fd) : Mc CX0 P w K mg base 1 A.Musts "rest" (spK0 A .mus restW) := by
  refine mc0 (N := ["self"]) c D (fsc (by decide +kernel)) len0 (fun cdv _ outer s H vs Q E hr h => ?_)
  obtain ⟨x, k, rfl, hk, e, q⟩ := h
  cases k <;> cases e
  exact ⟨_, pss_one (ps_ret pe_int), q _ _ (Same.refl _) rfl⟩
theorem mc_Rests_rest (c : Cls K A.Rests) (D : Mth K A.Rests "rest" "Rests.rest" s_Rests_rest ["self"] f fd) : Mc CX0 P w K mg base 1 A.Rests "rest" (spK0 A .rst restW) := by
  refine mc0 (N := ["self"]) c D (fsc (by decide +kernel)) len0 (fun cdv _ outer s H vs Q E hr h => ?_)
  obtain ⟨x, k, rfl, hk, e, q⟩ := h
  cases k <;> cases e
  exact ⟨_, pss_one (ps_ret pe_int), q _ _ (Same.refl _) rfl⟩
theorem mc_Likeliest_rest (c : Cls K A.Likeliest) (D : Mth K A.Likeliest "rest" "Likeliest.rest" s_Likeliest_rest ["self"] f fd) : Mc CX0 P w K mg base 1 A.Likeliest "rest" (spK0 A .lik restW) := by
  refine mc0 (N := ["self"]) c D (fsc (by decide +kernel)) len0 (fun cdv _ outer s H vs Q E hr h => ?_)
  obtain ⟨x, k, rfl, hk, e, q⟩ := h
  cases k <;> cases e
  exact ⟨_, pss_one (ps_ret (pe_tup (pa_cons pe_int (pa_cons pe_int pa_nil)))), size2, fun p hp => q _ _ (same_upd hp) (wv_tup (by decide) (by decide))⟩
theorem mc_Chances_rest (c : Cls K A.Chances) (D : Mth K A.Chances "rest" "Chances.rest" s_Chances_rest ["self"] f fd) : Mc CX0 P w K mg base 1 A.Chances "rest" (spK0 A .cha restW) := by
  refine mc0 (N := ["self"]) c D (fsc (by decide +kernel)) len0 (fun cdv _ outer s H vs Q E hr h => ?_)
  obtain ⟨x, k, rfl, hk, e, q⟩ := h
  cases k <;> cases e
  exact ⟨_, pss_one (ps_ret (pe_tup (pa_cons pe_int (pa_cons pe_int pa_nil)))), size2, fun p hp => q _ _ (same_upd hp) (wv_tup (by decide) (by decide))⟩
theorem mc_Widest_rest (c : Cls K A.Widest) (g : ∃ u, mg "WIDEST" = some u ∧ RelV (.int 1000000000) u) (D : Mth K A.Widest "rest" "Widest.rest" s_Widest_rest ["self"] f fd) : Mc CX0 P w K mg base 1 A.Widest "rest" (spK0 A .wid restW) := by
  refine mc0 (N := ["self"]) c D (fsc (by decide +kernel)) len0 (fun cdv _ outer s H vs Q E hr h => ?_)
  obtain ⟨x, k, rfl, hk, e, q⟩ := h
  cases k <;> cases e
  exact ⟨_, pss_one (ps_ret (C8.pe_gc rfl g)), q _ _ (Same.refl _) rfl⟩
end
/-! ### W3: rests behind one another; rounds; Rests(m) -/
theorem bit_test (a i : Nat) : decide (V.int (Builtin.bitAnd ((a : Int) / 2 ^ ((0 : Int) + (i : Nat)).toNat) 1) = V.int 1) = a.testBit i := by
  have e1 : ((0 : Int) + (i : Nat)).toNat = i := by omega
  have e2 : (a : Int) / 2 ^ i = ((a / 2 ^ i : Nat) : Int) := by
    rw [Int.natCast_ediv, Int.natCast_pow]; rfl
  rw [e1, e2, show (1 : Int) = ((1 : Nat) : Int) from rfl, band, Nat.and_one_is_mod]
  have h := Nat.testBit_eq_decide_div_mod_eq (x := a) (i := i)
  rw [h, decide_eq_decide, V.int.injEq]
  omega
theorem shl_one {i j m : Nat} : (1 : Int) * 2 ^ (((0 : Int) + (i : Nat) + ((0 : Int) + (j : Nat))) % (m : Int)).toNat = ((2 ^ ((i + j) % m) : Nat) : Int) := by
  have e : (((0 : Int) + (i : Nat) + ((0 : Int) + (j : Nat))) % (m : Int)).toNat = (i + j) % m := by
    have : ((0 : Int) + (i : Nat) + ((0 : Int) + (j : Nat))) = ((i + j : Nat) : Int) := by omega
    rw [this, ← Int.natCast_emod, Int.toNat_natCast]
  rw [e, Int.one_mul, Int.natCast_pow]; rfl
theorem shl_fit {x : Int} {m : Nat} (h0 : 0 < m) (hm : m ≤ 12) : L2.CPow 1 (x % (m : Int)) :=
  ⟨Int.emod_nonneg _ (by omega), by have := Int.emod_lt_of_pos x (show (0 : Int) < m by omega); omega, by decide⟩
section
variable {P : Program} {w : World} {K : PySem.W.Frag} {mg : Str → Option Value} {base : Heap} {A : Ad} {f : Addr} {fd : FuncData}
/-- Rests(m) -/
def spRests (A : Ad) : Sp := fun vs H Q E => ∃ (x dx : Addr) (m : Int), vs = [.ref x, .int m] ∧ H x = some (.ins A.Rests dx []) ∧
  ((1 ≤ m ∧ m ≤ 12) → Q .non (upd H x (.ins A.Rests dx (putF "m" (.int m) [])))) ∧ (¬ (1 ≤ m ∧ m ≤ 12) → E (.ref A.NoWorth) none H)
theorem nc_Rests (c : Clz K mg "Rests" A.Rests) (na : NoAttr K A.Rests "m") (z : Exz K mg "NoWorth" A.NoWorth) (D : Ini K A.Rests "Rests.__init__" s_Rests___init__ ["self", "m"] f fd) : Nc (L2.CX P w) P w K mg base 1 "Rests" A.Rests (spRests A) := by
  refine ⟨f, fd, _, D.F.okX (N := ["self", "m"]) (fsc (by decide +kernel)) (fun vs H Q E h => ?_) (fun cdv _ outer s H vs Q E hr h => ?_), D.M, c.g, D.b⟩
  · obtain ⟨x, dx, m, rfl, _⟩ := h; rfl
  · obtain ⟨x, dx, m, rfl, hx, q, qn⟩ := h
    refine ⟨_, pss_cons (ps_if (pt_not (pt_chain op_le op_le pe_int (pv 1) pe_int)) (pss_one (ps_raise rfl (takes_of rfl rfl rfl rfl) (pmk_own PySem.F.excBase_ValueError z.ex z.g z.kp (raises_own z.bs z.ty) rfl))) pss_nil)
      (pss_one (ps_fld (pv 0) (pv 1) rfl)), ?_⟩
    refine ⟨_, rfl, _, _, rfl, rfl, _, rfl, ?_⟩
    by_cases h1 : 1 ≤ m
    · refine ifT (decide_eq_true h1) ⟨_, _, rfl, rfl, _, rfl, ?_⟩
      by_cases h2 : m ≤ 12
      · exact ifF (by rw [decide_eq_true h2]; rfl) ⟨_, rfl, _, rfl, x, _, dx, [], rfl, hx, c.cl, na, (by show 0 < 1000; decide), q ⟨h1, h2⟩⟩
      · exact ifT (by rw [decide_eq_false h2]; rfl) (qn fun y => h2 y.2)
    · exact ifF (decide_eq_false h1) ⟨_, rfl, ifT rfl (qn fun y => h1 y.1)⟩
end
/-! k.m(e, ..) of any kind -/
section
variable {X : Cx} {CX : CXT} {j n : Nat} {A : Ad} {m : Str} {sp : Kx → Sp} {ES : L2.St → XK} {pos apos : Pos} {e o : Expr} {es : List Expr} {ta : TE} {t : TA}
def tKM (A : Ad) (sp : Kx → Sp) (ES : L2.St → XK) (ta : TE) (t : TA) : TE := fun σ H Q => ∃ k : Kd, Av k.x = true ∧ ta σ H fun x H1 => ∃ a, x = .ref a ∧ KindAt A H1 a k ∧ t σ H1 fun vs H2 => sp k.x (.ref a :: vs) H2 Q (ES σ)
theorem pe_km {pl : Sem Bool} (F : ∀ i, Av i = true → Mc CX X.prog X.w X.K X.mg X.base n (A.C i) m (sp i)) (hr : Room j X.A) (hk : n ≤ j) (hx : ∀ σ, PassesAt CX X σ (ES σ)) (ho : PE X o ta) (ha : PA X (e :: es) t) (hm : ¬ m = "m" := by decide +kernel)
    (hst : starEach (e :: es) X.env = (false, eval e X.env) :: starEach es X.env := by rfl) (hpl : (backTo pos (starEach es X.env)).any (·.1) = false := by rfl)
    (ht : eval (.Call (.Attribute o m apos) (e :: es) [] pos) X.env = (do
      let ov ← eval o X.env
      standAt apos.atName
      let (f, first) ← holding [ov] (getMethod ov m pl)
      callWith pos f first (backTo pos (starEach (e :: es) X.env)) (backToKw pos (keywordEach [] X.env))) := by rfl) :
    PE X (.Call (.Attribute o m apos) (e :: es) [] pos) (tKM A sp ES ta t) := by
  constructor
  rintro pins s σ H Q I ⟨k, hav, h⟩
  obtain ⟨f, fd, ps, G, c, hme, b⟩ := (F k.x hav).ex
  refine PySem.W.methodCall_KW (pl := pl) (thn (ho.run pins s σ H _ I h) ?_) ht
  rintro u s1 ⟨y, H1, I1, ry, a, rfl, ⟨_, _, dx, ea⟩, q⟩
  cases ry
  refine getmeth_ok I1 ea c hme (kfs_no k hm) ?_
  refine PySem.W.callWith_K (first := [.ref a]) (h₀ := X.base) I.ok.mod.kin hme.kp (thn (ha.run pos pins s1 σ H1 _ I1 q) ?_) hst hpl
  rintro us s2 ⟨vs, H2, I2, r, q2⟩
  exact ⟨I2.kIn, run_fnS (us := .ref a :: us) (vs := .ref a :: vs) G (hr.mono hk) b (hx σ) I2 (.cons rfl r) q2⟩
/-- k.m() -/
theorem pe_km0 {pl : Sem Bool} (F : ∀ i, Av i = true → Mc CX X.prog X.w X.K X.mg X.base n (A.C i) m (sp i)) (hr : Room j X.A) (hk : n ≤ j) (hx : ∀ σ, PassesAt CX X σ (ES σ)) (ho : PE X o ta) (hm : ¬ m = "m" := by decide +kernel)
    (ht : eval (.Call (.Attribute o m apos) [] [] pos) X.env = (do
      let ov ← eval o X.env
      standAt apos.atName
      let (f, first) ← holding [ov] (getMethod ov m pl)
      callWith pos f first (backTo pos (starEach [] X.env)) (backToKw pos (keywordEach [] X.env))) := by rfl) :
    PE X (.Call (.Attribute o m apos) [] [] pos) (tKM A sp ES ta tNil) := by
  constructor
  rintro pins s σ H Q I ⟨k, hav, h⟩
  obtain ⟨f, fd, ps, G, c, hme, b⟩ := (F k.x hav).ex
  refine PySem.W.methodCall_KW (pl := pl) (thn (ho.run pins s σ H _ I h) ?_) ht
  rintro u s1 ⟨y, H1, I1, ry, a, rfl, ⟨_, _, dx, ea⟩, q⟩
  cases ry
  refine getmeth_ok I1 ea c hme (kfs_no k hm) ?_
  exact PySem.W.callWith_K0 (first := [.ref a]) I1.kIn hme.kp (run_fnS (us := [.ref a]) (vs := [.ref a]) G (hr.mono hk) b (hx σ) I1 (.cons rfl .nil) q)
/-- nothing is raised -/
theorem passS {X : Cx} {E : L2.St → XK} : ∀ σ, PassesAt CX0 X σ (E σ) := fun _ _ _ _ _ _ _ h => h.elim
end
/-! ### W4: what is a worth -/
/-- what may be asked: nothing, a whole number, a pair of whole numbers -/
inductive Vx where
  | non | int (i : Int) | par (p q : Int)
def Wo.vx : Wo → Vx
  | .non => .non | .int i => .int i | .rat r => .par r.num r.den
def Vv (H : Hp) (v : V) : Vx → Prop
  | .non => v = .non
  | .int i => v = .int i
  | .par p q => Pr H v p q
theorem Vv.same {H H' : Hp} {v : V} {a : Vx} (h : Vv H v a) (e : Same H H') : Vv H' v a := by
  cases a with
  | non => exact h
  | int i => exact h
  | par p q => exact Pr.same h e
theorem Wv.vx {H : Hp} {v : V} {a : Wo} (h : Wv H v a) : Vv H v a.vx := by cases a <;> exact h
theorem vv_ty {K : PySem.W.Frag} {H : Hp} {v : V} {a : Vx} (h : Vv H v a) : ∃ t : String, TyX K H v (.type t) ∧ (a = .non ∧ t = "NoneType" ∨ (∃ i, a = .int i) ∧ t = "int" ∨ (∃ p q, a = .par p q) ∧ t = "tuple") := by
  cases a with
  | non => cases h; exact ⟨_, .base .non, .inl ⟨rfl, rfl⟩⟩
  | int i => cases h; exact ⟨_, .base (.int i), .inr (.inl ⟨⟨i, rfl⟩, rfl⟩)⟩
  | par p q => obtain ⟨t, rfl, ht⟩ := h; exact ⟨_, .base (.tup ht), .inr (.inr ⟨⟨p, q, rfl⟩, rfl⟩)⟩
/-- a pair in lowest terms -/
def shr (p q : Int) : Bool := if 0 ≤ p then if 0 < q then decide (Int.gcd p q = 1) else false else false
theorem shr_rat {r : Rat} (h : 0 ≤ r) : shr r.num r.den = true := by
  have h0 := Rat.num_nonneg.2 h
  have h1 := den_pos r
  unfold shr
  rw [if_pos h0, if_pos h1, decide_eq_true_eq]
  have := r.reduced
  rw [Int.gcd, Int.natAbs_natCast]
  exact this
theorem shr_of {p q : Int} (h : shr p q = true) : 0 ≤ p ∧ 0 < q ∧ Int.gcd p q = 1 := by
  unfold shr at h
  by_cases h0 : 0 ≤ p
  · rw [if_pos h0] at h
    by_cases h1 : 0 < q
    · rw [if_pos h1] at h; exact ⟨h0, h1, of_decide_eq_true h⟩
    · rw [if_neg h1] at h; cases h
  · rw [if_neg h0] at h; cases h
def isW : Kd → Vx → Bool
  | .few, .non => true
  | .few, .int i => decide (0 ≤ i)
  | .wid, .int i => if 0 ≤ i then decide (i ≤ 1000000000) else false
  | .cnt, .int i => decide (-1 ≤ i)
  | .lik, .par p q => if shr p q = true then decide (p ≤ q) else false
  | .cha, .par p q => shr p q
  | .mus, .non => true
  | .mus, .int i => decide (0 ≤ i)
  | .rst m, .int i => if 0 ≤ i then decide (i < 2 ^ m) else false
  | _, _ => false
theorem isW_good {k : Kd} {a : Wo} (g : Good k a) : isW k a.vx = true := by
  cases k <;> cases a <;> first | exact g.elim | skip
  case few.non => rfl
  case few.int => exact decide_eq_true g
  case wid.int => show (if _ then _ else _) = true; rw [if_pos g.1]; exact decide_eq_true g.2
  case cnt.int => exact decide_eq_true g
  case lik.rat => show (if _ then _ else _) = true; rw [if_pos (shr_rat g.1)]; exact decide_eq_true ((rat_le_one _).1 g.2)
  case cha.rat => exact shr_rat g
  case mus.non => rfl
  case mus.int => exact decide_eq_true g
  case rst.int => show (if _ then _ else _) = true; rw [if_pos g.1]; exact decide_eq_true g.2
/-- k.is_worth(some) -/
def spIs (A : Ad) (i : Kx) : Sp := fun vs H Q _ => ∃ (x : Addr) (k : Kd) (v : V) (a : Vx), vs = [.ref x, v] ∧ KindAt A H x k ∧ k.x = i ∧ Vv H v a ∧ Q (.bl (isW k a)) H
/-- is_share(some) -/
def shrV : Vx → Bool
  | .par p q => shr p q
  | _ => false
def spIsShare : Sp := fun vs H Q _ => ∃ (v : V) (a : Vx), vs = [v] ∧ Vv H v a ∧ Q (.bl (shrV a)) H
theorem lenI {A : Ad} {i : Kx} : ∀ vs H Q E, spIs A i vs H Q E → vs.length = ["self", "some"].length := fun vs H Q E h => by
  obtain ⟨x, k, v, a, rfl, _⟩ := h; rfl
section
variable {P : Program} {w : World} {K : PySem.W.Frag} {mg : Str → Option Value} {base : Heap} {A : Ad} {f : Addr} {fd : FuncData}
theorem fc_is_share (T : Tx K mg A) (C : Fc CX0 P w K mg base 1 "common" spCommon) (D : Dfn K mg "is_share" s_is_share ["some"] f fd) : Fc CX0 P w K mg base 2 "is_share" spIsShare := by
  refine fc0 (N := ["some"]) D (fsc (by decide +kernel)) (fun vs H Q E h => ?_) (fun cdv _ outer s H vs Q E hr h => ?_)
  · obtain ⟨v, a, rfl, _⟩ := h; rfl
  · obtain ⟨v, a, rfl, ha, q⟩ := h
    refine ⟨_, (pss_cons (ps_if (PW.pt (pw_or (pt_not (pt_val (pe_callB call_isi (by rfl) T.n_isinstance (by decide +kernel) (pa_cons (pv 0) (pa_cons (pe_bltn (v := .ty "tuple") (by rfl) T.n_tuple (by decide +kernel) rfl) pa_nil))))) (pw_or1 (pt_cmpR op_ne (pe_callB call_len_seq (by rfl) T.n_len PySem.boot_len (pa_cons (pv 0) pa_nil)) pe_int (nomark _))))) (pss_one (ps_ret pe_bl)) pss_nil) (pss_one (ps_ret (pe_and (pe_cmpR op_ge (pe_ix ix_tup (pv 0) pe_int (fun _ _ => rfl)) pe_int (nomark _)) (pe_and (pe_cmpR op_gt (pe_ix ix_tup (pv 0) pe_int (fun _ _ => rfl)) pe_int (nomark _)) (pe_one (pe_cmpR op_eq (pe_f C hr (by decide) pass0 rfl (pa_cons (pe_ix ix_tup (pv 0) pe_int (fun _ _ => rfl)) (pa_cons (pe_ix ix_tup (pv 0) pe_int (fun _ _ => rfl)) pa_nil))) pe_int (nomark _)))))))), ?_⟩
    cases a with
    | non => cases ha; exact ⟨_, rfl, _, _, _, _, false, rfl, .ty "tuple", .base .non, kit_ty (by decide +kernel), false, rfl, ifT rfl (ifT rfl q)⟩
    | int i => cases ha; exact ⟨_, rfl, _, _, _, _, false, rfl, .ty "tuple", .base (.int i), kit_ty (by decide +kernel), false, rfl, ifT rfl (ifT rfl q)⟩
    | par p r =>
      obtain ⟨pa, rfl, hpa⟩ := ha
      refine ⟨_, rfl, _, _, _, _, true, rfl, .ty "tuple", .base (.tup hpa), kit_ty (by decide +kernel), true, rfl, ifF rfl ⟨_, rfl, pa, _, rfl, .inr (SqT.of hpa), rfl, _, rfl, ifF rfl ?_⟩⟩
      have q' : Q (.bl (shr p r)) H := q
      unfold shr at q'
      refine ⟨_, rfl, pa, _, _, _, rfl, rfl, SqT.of hpa, at0, _, _, rfl, rfl, _, rfl, ?_⟩
      by_cases h0 : 0 ≤ p
      · rw [if_pos h0] at q'
        refine ifT (decide_eq_true h0) ⟨_, rfl, pa, _, _, _, rfl, rfl, SqT.of hpa, at1, _, _, rfl, rfl, _, rfl, ?_⟩
        by_cases h1 : 0 < r
        · rw [if_pos h1] at q'
          refine ifT (decide_eq_true h1) ⟨_, rfl, pa, _, _, _, rfl, rfl, SqT.of hpa, at0, _, rfl, pa, _, _, _, rfl, rfl, SqT.of hpa, at1, _, _, rfl, h0, Int.le_of_lt h1, rfl, ?_⟩
          have e : decide (V.int (Int.gcd p r : Int) = V.int 1) = decide (Int.gcd p r = 1) := by rw [decide_eq_decide, V.int.injEq]; omega
          rw [← e] at q'
          exact q'
        · rw [if_neg h1] at q'
          exact ifF (decide_eq_false h1) q'
      · rw [if_neg h0] at q'
        exact ifF (decide_eq_false h0) q'
theorem mc_Fewest_is_worth (T : Tx K mg A) (D : Mth K A.Fewest "is_worth" "Fewest.is_worth" s_Fewest_is_worth ["self", "some"] f fd) : Mc CX0 P w K mg base 1 A.Fewest "is_worth" (spIs A .few) := by
  refine mc0 (N := ["self", "some"]) T.c_Fewest.cl D (fsc (by decide +kernel)) lenI (fun cdv _ outer s H vs Q E hr h => ?_)
  obtain ⟨x, k, v, a, rfl, hk, e, ha, q⟩ := h
  cases k <;> cases e
  refine ⟨_, pss_one (ps_ret (pe_or (pe_cmpR op_isN (pv 1) pe_non (nomark _)) (pe_one (pe_and (pe_callB call_isi (by rfl) T.n_isinstance (by decide +kernel) (pa_cons (pv 1) (pa_cons (pe_bltn (v := .ty "int") (by rfl) T.n_int (by decide +kernel) rfl) pa_nil))) (pe_one (pe_cmpR op_ge (pv 1) pe_int (nomark _))))))), ?_⟩
  refine ⟨_, rfl, rfl, _, rfl, ?_⟩
  cases a with
  | non => cases ha; exact ifT rfl q
  | int i => cases ha; exact ifF rfl ⟨_, rfl, _, _, _, _, true, rfl, .ty "int", .base (.int i), kit_ty (by decide +kernel), true, rfl, ifT rfl ⟨_, rfl, _, _, rfl, rfl, q⟩⟩
  | par p r => obtain ⟨pa, rfl, hpa⟩ := ha; exact ifF rfl ⟨_, rfl, _, _, _, _, false, rfl, .ty "int", .base (.tup hpa), kit_ty (by decide +kernel), false, rfl, ifF rfl q⟩
theorem mc_Musts_is_worth (T : Tx K mg A) (D : Mth K A.Musts "is_worth" "Musts.is_worth" s_Musts_is_worth ["self", "some"] f fd) : Mc CX0 P w K mg base 1 A.Musts "is_worth" (spIs A .mus) := by
  refine mc0 (N := ["self", "some"]) T.c_Musts.cl D (fsc (by decide +kernel)) lenI (fun cdv _ outer s H vs Q E hr h => ?_)
  obtain ⟨x, k, v, a, rfl, hk, e, ha, q⟩ := h
  cases k <;> cases e
  refine ⟨_, pss_one (ps_ret (pe_or (pe_cmpR op_isN (pv 1) pe_non (nomark _)) (pe_one (pe_and (pe_callB call_isi (by rfl) T.n_isinstance (by decide +kernel) (pa_cons (pv 1) (pa_cons (pe_bltn (v := .ty "int") (by rfl) T.n_int (by decide +kernel) rfl) pa_nil))) (pe_one (pe_cmpR op_ge (pv 1) pe_int (nomark _))))))), ?_⟩
  refine ⟨_, rfl, rfl, _, rfl, ?_⟩
  cases a with
  | non => cases ha; exact ifT rfl q
  | int i => cases ha; exact ifF rfl ⟨_, rfl, _, _, _, _, true, rfl, .ty "int", .base (.int i), kit_ty (by decide +kernel), true, rfl, ifT rfl ⟨_, rfl, _, _, rfl, rfl, q⟩⟩
  | par p r => obtain ⟨pa, rfl, hpa⟩ := ha; exact ifF rfl ⟨_, rfl, _, _, _, _, false, rfl, .ty "int", .base (.tup hpa), kit_ty (by decide +kernel), false, rfl, ifF rfl q⟩
theorem mc_Counted_is_worth (T : Tx K mg A) (D : Mth K A.Counted "is_worth" "Counted.is_worth" s_Counted_is_worth ["self", "some"] f fd) : Mc CX0 P w K mg base 1 A.Counted "is_worth" (spIs A .cnt) := by
  refine mc0 (N := ["self", "some"]) T.c_Counted.cl D (fsc (by decide +kernel)) lenI (fun cdv _ outer s H vs Q E hr h => ?_)
  obtain ⟨x, k, v, a, rfl, hk, e, ha, q⟩ := h
  cases k <;> cases e
  refine ⟨_, pss_one (ps_ret (pe_and (pe_callB call_isi (by rfl) T.n_isinstance (by decide +kernel) (pa_cons (pv 1) (pa_cons (pe_bltn (v := .ty "int") (by rfl) T.n_int (by decide +kernel) rfl) pa_nil))) (pe_one (pe_cmpR op_ge (pv 1) (pe_un un_neg pe_int) (nomark _))))), ?_⟩
  cases a with
  | non => cases ha; exact ⟨_, rfl, _, _, _, _, false, rfl, .ty "int", .base .non, kit_ty (by decide +kernel), false, rfl, ifF rfl q⟩
  | int i => cases ha; exact ⟨_, rfl, _, _, _, _, true, rfl, .ty "int", .base (.int i), kit_ty (by decide +kernel), true, rfl, ifT rfl ⟨_, rfl, _, rfl, _, _, rfl, rfl, q⟩⟩
  | par p r => obtain ⟨pa, rfl, hpa⟩ := ha; exact ⟨_, rfl, _, _, _, _, false, rfl, .ty "int", .base (.tup hpa), kit_ty (by decide +kernel), false, rfl, ifF rfl q⟩
theorem mc_Widest_is_worth (T : Tx K mg A) (D : Mth K A.Widest "is_worth" "Widest.is_worth" s_Widest_is_worth ["self", "some"] f fd) : Mc CX0 P w K mg base 1 A.Widest "is_worth" (spIs A .wid) := by
  refine mc0 (N := ["self", "some"]) T.c_Widest.cl D (fsc (by decide +kernel)) lenI (fun cdv _ outer s H vs Q E hr h => ?_)
  obtain ⟨x, k, v, a, rfl, hk, e, ha, q⟩ := h
  cases k <;> cases e
  refine ⟨_, pss_one (ps_ret (pe_and (pe_callB call_isi (by rfl) T.n_isinstance (by decide +kernel) (pa_cons (pv 1) (pa_cons (pe_bltn (v := .ty "int") (by rfl) T.n_int (by decide +kernel) rfl) pa_nil))) (pe_one (pe_chain op_le op_le pe_int (pv 1) (C8.pe_gc rfl T.g_WIDEST))))), ?_⟩
  cases a with
  | non => cases ha; exact ⟨_, rfl, _, _, _, _, false, rfl, .ty "int", .base .non, kit_ty (by decide +kernel), false, rfl, ifF rfl q⟩
  | int i =>
    cases ha
    refine ⟨_, rfl, _, _, _, _, true, rfl, .ty "int", .base (.int i), kit_ty (by decide +kernel), true, rfl, ifT rfl ⟨_, rfl, _, _, rfl, rfl, _, rfl, ?_⟩⟩
    have q' : Q (.bl (if 0 ≤ i then decide (i ≤ 1000000000) else false)) H := q
    by_cases h : 0 ≤ i
    · rw [if_pos h] at q'; exact ifT (decide_eq_true h) ⟨_, _, rfl, rfl, q'⟩
    · rw [if_neg h] at q'; exact ifF (decide_eq_false h) q'
  | par p r => obtain ⟨pa, rfl, hpa⟩ := ha; exact ⟨_, rfl, _, _, _, _, false, rfl, .ty "int", .base (.tup hpa), kit_ty (by decide +kernel), false, rfl, ifF rfl q⟩
theorem mc_Rests_is_worth (T : Tx K mg A) (D : Mth K A.Rests "is_worth" "Rests.is_worth" s_Rests_is_worth ["self", "some"] f fd) : Mc CX0 P w K mg base 1 A.Rests "is_worth" (spIs A .rst) := by
  refine mc0 (N := ["self", "some"]) T.c_Rests.cl D (fsc (by decide +kernel)) lenI (fun cdv _ outer s H vs Q E hr h => ?_)
  obtain ⟨x, k, v, a, rfl, hk, e, ha, q⟩ := h
  cases k <;> cases e
  rename_i m
  obtain ⟨_, ⟨hm1, hm12⟩, dx, hx⟩ := hk
  refine ⟨_, pss_one (ps_ret (pe_and (pe_callB call_isi (by rfl) T.n_isinstance (by decide +kernel) (pa_cons (pv 1) (pa_cons (pe_bltn (v := .ty "int") (by rfl) T.n_int (by decide +kernel) rfl) pa_nil))) (pe_one (pe_chain op_le op_lt pe_int (pv 1) (pe_op op_shl pe_int (pe_fld (pv 0) rfl)))))), ?_⟩
  cases a with
  | non => cases ha; exact ⟨_, rfl, _, _, _, _, false, rfl, .ty "int", .base .non, kit_ty (by decide +kernel), false, rfl, ifF rfl q⟩
  | int i =>
    cases ha
    refine ⟨_, rfl, _, _, _, _, true, rfl, .ty "int", .base (.int i), kit_ty (by decide +kernel), true, rfl, ifT rfl ⟨_, rfl, _, _, rfl, rfl, _, rfl, ?_⟩⟩
    have q' : Q (.bl (if 0 ≤ i then decide (i < 2 ^ m) else false)) H := q
    by_cases h : 0 ≤ i
    · rw [if_pos h] at q'
      refine ifT (decide_eq_true h) ⟨_, rfl, x, A.Rests, dx, _, _, rfl, hx, T.c_Rests.cl, T.a_Rests_m, kfs_m m, _, _, rfl, rfl, ⟨by omega, by omega, by decide⟩, _, _, rfl, rfl, ?_⟩
      rw [Int.toNat_natCast, Int.one_mul]; exact q'
    · rw [if_neg h] at q'; exact ifF (decide_eq_false h) q'
  | par p r => obtain ⟨pa, rfl, hpa⟩ := ha; exact ⟨_, rfl, _, _, _, _, false, rfl, .ty "int", .base (.tup hpa), kit_ty (by decide +kernel), false, rfl, ifF rfl q⟩
theorem mc_Chances_is_worth (T : Tx K mg A) (C : Fc CX0 P w K mg base 2 "is_share" spIsShare) (D : Mth K A.Chances "is_worth" "Chances.is_worth" s_Chances_is_worth ["self", "some"] f fd) : Mc CX0 P w K mg base 3 A.Chances "is_worth" (spIs A .cha) := by
  refine mc0 (N := ["self", "some"]) T.c_Chances.cl D (fsc (by decide +kernel)) lenI (fun cdv _ outer s H vs Q E hr h => ?_)
  obtain ⟨x, k, v, a, rfl, hk, e, ha, q⟩ := h
  cases k <;> cases e
  refine ⟨_, pss_one (ps_ret (pe_f C hr (by decide) pass0 rfl (pa_cons (pv 1) pa_nil))), ?_⟩
  refine ⟨_, rfl, v, a, rfl, ha, ?_⟩
  cases a <;> exact q
theorem mc_Likeliest_is_worth (T : Tx K mg A) (C : Fc CX0 P w K mg base 2 "is_share" spIsShare) (D : Mth K A.Likeliest "is_worth" "Likeliest.is_worth" s_Likeliest_is_worth ["self", "some"] f fd) : Mc CX0 P w K mg base 3 A.Likeliest "is_worth" (spIs A .lik) := by
  refine mc0 (N := ["self", "some"]) T.c_Likeliest.cl D (fsc (by decide +kernel)) lenI (fun cdv _ outer s H vs Q E hr h => ?_)
  obtain ⟨x, k, v, a, rfl, hk, e, ha, q⟩ := h
  cases k <;> cases e
  refine ⟨_, pss_one (ps_ret (pe_and (pe_f C hr (by decide) pass0 rfl (pa_cons (pv 1) pa_nil)) (pe_one (pe_cmpR op_le (pe_ix ix_tup (pv 1) pe_int (fun _ _ => rfl)) (pe_ix ix_tup (pv 1) pe_int (fun _ _ => rfl)) (nomark _))))), ?_⟩
  refine ⟨_, rfl, v, a, rfl, ha, ?_⟩
  cases a with
  | non => exact ⟨_, rfl, ifF rfl q⟩
  | int i => exact ⟨_, rfl, ifF rfl q⟩
  | par p r =>
    obtain ⟨pa, rfl, hpa⟩ := ha
    have q' : Q (.bl (if shr p r = true then decide (p ≤ r) else false)) H := q
    refine ⟨_, rfl, ?_⟩
    by_cases h : shr p r = true
    · rw [if_pos h] at q'
      exact ifT h ⟨_, rfl, pa, _, _, _, rfl, rfl, SqT.of hpa, at0, _, rfl, pa, _, _, _, rfl, rfl, SqT.of hpa, at1, _, _, rfl, rfl, q'⟩
    · rw [if_neg h] at q'
      exact ifF (Bool.eq_false_iff.2 h) q'
end
section
variable {P : Program} {w : World} {K : PySem.W.Frag} {mg : Str → Option Value} {base : Heap} {A : Ad}
theorem th_common (T : Tx K mg A) : Fc CX0 P w K mg base 1 "common" spCommon := by
  obtain ⟨f, fd, D⟩ := T.d_common
  exact fc_common D
theorem th_lowest (T : Tx K mg A) : Fc CX0 P w K mg base 2 "lowest" spLowest := by
  obtain ⟨f, fd, D⟩ := T.d_lowest
  exact fc_lowest D (th_common T)
theorem th_added (T : Tx K mg A) : Fc CX0 P w K mg base 3 "added" (spShare (· + ·) 8000) := by
  obtain ⟨f, fd, D⟩ := T.d_added
  exact fc_added D (th_lowest T)
theorem th_less (T : Tx K mg A) : Fc CX0 P w K mg base 1 "less" spLess := by
  obtain ⟨f, fd, D⟩ := T.d_less
  exact fc_less D
theorem all_rest (T : Tx K mg A) : ∀ i, Av i = true → Mc CX0 P w K mg base 4 (A.C i) "rest" (spK0 A i restW) := fun i hi => by
  cases i
  case few => obtain ⟨f, fd, D⟩ := T.m_Fewest_rest; exact (mc_Fewest_rest T.c_Fewest.cl  D).mono (by decide)
  case wid => obtain ⟨f, fd, D⟩ := T.m_Widest_rest; exact (mc_Widest_rest T.c_Widest.cl T.g_WIDEST D).mono (by decide)
  case cnt => obtain ⟨f, fd, D⟩ := T.m_Counted_rest; exact (mc_Counted_rest T.c_Counted.cl  D).mono (by decide)
  case lik => obtain ⟨f, fd, D⟩ := T.m_Likeliest_rest; exact (mc_Likeliest_rest T.c_Likeliest.cl  D).mono (by decide)
  case cha => obtain ⟨f, fd, D⟩ := T.m_Chances_rest; exact (mc_Chances_rest T.c_Chances.cl  D).mono (by decide)
  case mus => obtain ⟨f, fd, D⟩ := T.m_Musts_rest; exact (mc_Musts_rest T.c_Musts.cl  D).mono (by decide)
  case rst => obtain ⟨f, fd, D⟩ := T.m_Rests_rest; exact (mc_Rests_rest T.c_Rests.cl  D).mono (by decide)
theorem th_is_share (T : Tx K mg A) : Fc CX0 P w K mg base 2 "is_share" spIsShare := by
  obtain ⟨f, fd, D⟩ := T.d_is_share
  exact fc_is_share T (th_common T) D
theorem all_is (T : Tx K mg A) : ∀ i, Av i = true → Mc CX0 P w K mg base 4 (A.C i) "is_worth" (spIs A i) := fun i hi => by
  cases i
  case few => obtain ⟨f, fd, D⟩ := T.m_Fewest_is_worth; exact (mc_Fewest_is_worth T D).mono (by decide)
  case wid => obtain ⟨f, fd, D⟩ := T.m_Widest_is_worth; exact (mc_Widest_is_worth T D).mono (by decide)
  case cnt => obtain ⟨f, fd, D⟩ := T.m_Counted_is_worth; exact (mc_Counted_is_worth T D).mono (by decide)
  case lik => obtain ⟨f, fd, D⟩ := T.m_Likeliest_is_worth; exact (mc_Likeliest_is_worth T (th_is_share T) D).mono (by decide)
  case cha => obtain ⟨f, fd, D⟩ := T.m_Chances_is_worth; exact (mc_Chances_is_worth T (th_is_share T) D).mono (by decide)
  case mus => obtain ⟨f, fd, D⟩ := T.m_Musts_is_worth; exact (mc_Musts_is_worth T D).mono (by decide)
  case rst => obtain ⟨f, fd, D⟩ := T.m_Rests_is_worth; exact (mc_Rests_is_worth T D).mono (by decide)
theorem cl_all (T : Tx K mg A) : ∀ i, Av i = true → ∃ x, Clz K mg x (A.C i) := by
  intro i hi
  cases i
  case few => exact ⟨_, T.c_Fewest⟩
  case wid => exact ⟨_, T.c_Widest⟩
  case cnt => exact ⟨_, T.c_Counted⟩
  case lik => exact ⟨_, T.c_Likeliest⟩
  case cha => exact ⟨_, T.c_Chances⟩
  case mus => exact ⟨_, T.c_Musts⟩
  case rst => exact ⟨_, T.c_Rests⟩
theorem kit_cha (T : Tx K mg A) : ∀ i, Av i = true → PySem.W.kitOne K (.ref (A.C i)) (.ref A.Chances) = some (decide (i = .cha)) := by
  intro i hi
  cases i
  case few => exact T.k_Fewest_Chances
  case wid => exact T.k_Widest_Chances
  case cnt => exact T.k_Counted_Chances
  case lik => exact T.k_Likeliest_Chances
  case cha => exact T.k_Chances_Chances
  case mus => exact T.k_Musts_Chances
  case rst => exact T.k_Rests_Chances
end
/-! ### W5: nets -/
/-- a road as it may be asked for -/
structure Rd where
  s : Int
  t : Int
  w : Vx
def Rw.rd (r : Rw) : Rd := ⟨r.s, r.t, r.w.vx⟩
def RdAt (H : Hp) (v : V) (r : Rd) : Prop := ∃ p y, v = .ref p ∧ H p = some (.tup [.int r.s, .int r.t, y]) ∧ Vv H y r.w
def RwAt (H : Hp) (v : V) (r : Rw) : Prop := ∃ p y, v = .ref p ∧ H p = some (.tup [.int r.s, .int r.t, y]) ∧ Wv H y r.w
theorem RdAt.same {H H' : Hp} {v : V} {r : Rd} (h : RdAt H v r) (e : Same H H') : RdAt H' v r := by
  obtain ⟨p, y, h1, h2, h3⟩ := h; exact ⟨p, y, h1, e _ _ h2, h3.same e⟩
theorem RwAt.same {H H' : Hp} {v : V} {r : Rw} (h : RwAt H v r) (e : Same H H') : RwAt H' v r := by
  obtain ⟨p, y, h1, h2, h3⟩ := h; exact ⟨p, y, h1, e _ _ h2, h3.same e⟩
theorem RwAt.rd {H : Hp} {v : V} {r : Rw} (h : RwAt H v r) : RdAt H v r.rd := by
  obtain ⟨p, y, h1, h2, h3⟩ := h; exact ⟨p, y, h1, h2, h3.vx⟩
theorem Al.same {H H' : Hp} {vs : List V} {rs : List Rw} (h : Al (RwAt H) vs rs) (e : Same H H') : Al (RwAt H') vs rs := h.imp fun _ _ z => z.same e
theorem Al.sameD {H H' : Hp} {vs : List V} {rs : List Rd} (h : Al (RdAt H) vs rs) (e : Same H H') : Al (RdAt H') vs rs := h.imp fun _ _ z => z.same e
theorem Al.rd {H : Hp} {vs : List V} {rs : List Rw} (h : Al (RwAt H) vs rs) : Al (RdAt H) vs (rs.map Rw.rd) := by
  refine ⟨by rw [h.1, List.length_map], fun i v r e1 e2 => ?_⟩
  rw [List.getElem?_map] at e2
  obtain ⟨r', h1, h2⟩ := h.get e1
  rw [h1] at e2
  cases e2
  exact h2.rd
/-- all tuples stand -/
def SameT (H H' : Hp) : Prop := ∀ b xs, H b = some (.tup xs) → H' b = some (.tup xs)
theorem SameT.trans {H H1 H2 : Hp} (a : SameT H H1) (b : SameT H1 H2) : SameT H H2 := fun c xs h => b c xs (a c xs h)
theorem same_t {H H' : Hp} (h : Same H H') : SameT H H' := fun b xs e => h b _ e
theorem sameT_lst {H : Hp} {l : Addr} {xs : List V} {o : HO} (h : H l = some (.lst xs)) : SameT H (upd H l o) := fun b ys e => by
  have ne : b ≠ l := by rintro rfl; rw [h] at e; cases e
  rw [upd_ne ne]; exact e
theorem same_at {H H' : Hp} {l : Addr} {o : HO} (s : Same H H') (h : H l = none) : Same H (upd H' l o) := fun b u e => by
  rw [upd_ne (ne_of_none e h)]; exact s _ _ e
theorem Wv.sameT {H H' : Hp} {v : V} {a : Wo} (h : Wv H v a) (e : SameT H H') : Wv H' v a := by
  cases a with
  | non => exact h
  | int i => exact h
  | rat r => obtain ⟨t, h1, h2⟩ := h; exact ⟨t, h1, e _ _ h2⟩
theorem RwAt.sameT {H H' : Hp} {v : V} {r : Rw} (h : RwAt H v r) (e : SameT H H') : RwAt H' v r := by
  obtain ⟨p, y, h1, h2, h3⟩ := h; exact ⟨p, y, h1, e _ _ h2, h3.sameT e⟩
theorem Al.sameT {H H' : Hp} {vs : List V} {rs : List Rw} (h : Al (RwAt H) vs rs) (e : SameT H H') : Al (RwAt H') vs rs := h.imp fun _ _ z => z.sameT e
theorem ix0 {x y z : V} : atI [x, y, z] 0 = some x := atI_nat (j := 0) rfl
theorem ix1 {x y z : V} : atI [x, y, z] 1 = some y := atI_nat (j := 1) rfl
theorem ix2 {x y z : V} : atI [x, y, z] 2 = some z := atI_nat (j := 2) rfl
/-- a share's number -/
def vr : Vx → Rat
  | .par p q => Rat.divInt p q
  | _ => 0
/-- the share of a road for the place p -/
def shOne (p : Int) (r : Rd) : Rat := if r.s = p ∧ isW .cha r.w = true then vr r.w else 0
def szOne (p : Int) (r : Rd) : Nat := if r.s = p ∧ isW .cha r.w = true then sz (.rat (vr r.w)) + 1 else 0
def shs (p : Int) (rs : List Rd) : Rat := rs.foldl (fun a r => a + shOne p r) 0
def shz (p : Int) (rs : List Rd) : Nat := rs.foldl (fun a r => a + szOne p r) 1
theorem low_same {p q : Int} (hq : 0 < q) : ((Rat.divInt p q).num = p ∧ ((Rat.divInt p q).den : Int) = q) ↔ Int.gcd p q = 1 := by
  rw [low_num p q hq, low_den p q hq]
  constructor
  · rintro ⟨_, h2⟩
    have h3 : (Int.gcd p q : Int) * (q / (Int.gcd p q : Int)) = q := Int.mul_ediv_cancel' (Int.gcd_dvd_right p q)
    rw [h2] at h3
    have h4 : ((Int.gcd p q : Int) - 1) * q = 0 := by grind
    rcases Int.mul_eq_zero.1 h4 with h | h <;> omega
  · intro h
    rw [h]; simp
/-- a share's value as the worth -/
theorem Vv.cha {H : Hp} {v : V} {a : Vx} (h : Vv H v a) (g : isW .cha a = true) : Wv H v (.rat (vr a)) ∧ 0 ≤ vr a := by
  cases a with
  | non => cases g
  | int i => cases g
  | par p q =>
    obtain ⟨h0, h1, h2⟩ := shr_of g
    obtain ⟨e1, e2⟩ := (low_same h1).2 h2
    refine ⟨?_, rat_dvi h0 h1⟩
    show Pr H v (Rat.divInt p q).num (Rat.divInt p q).den
    rw [e1, e2]
    exact h
/-- what is told of places and roads; some false: NoNet, some true: NoWorth -/
def inN (n : Int) (r : Rd) : Bool := if 0 ≤ r.s then if r.s < n then if 0 ≤ r.t then decide (r.t < n) else false else false else false
def overN (n : Int) (rs : List Rd) : Bool := (List.range n.toNat).any fun p => decide (1 < shs p rs)
def netR (k : Kd) (n : Int) (rs : List Rd) : Option Bool :=
  if ¬ (1 ≤ n ∧ n ≤ 8) ∨ 64 < rs.length then some false
  else if rs.all (inN n) = false then some false
  else if k = .cha ∧ overN n rs = true then some false
  else if rs.all (fun r => isW k r.w) = true then none else some true
/-- a net's attributes -/
def nfs (kx : Addr) (n : Int) (l : Addr) : List (Str × V) := putF "rows" (.ref l) (putF "many" (.int n) (putF "sort_of" (.ref kx) []))
/-- a net stands at x -/
def NetAt (A : Ad) (H : Hp) (x : Addr) (k : Kd) (n : Nat) (rs : List Rw) : Prop := RsOk k n rs ∧ ∃ dx kx l ys, H x = some (.ins A.Net dx (nfs kx n l)) ∧ KindAt A H kx k ∧ H l = some (.lst ys) ∧ Al (RwAt H) ys rs
theorem NetAt.same {A : Ad} {H H' : Hp} {x : Addr} {k : Kd} {n : Nat} {rs : List Rw} (h : NetAt A H x k n rs) (e : Same H H') : NetAt A H' x k n rs := by
  obtain ⟨h0, dx, kx, l, ys, h1, h2, h3, h4⟩ := h; exact ⟨h0, dx, kx, l, ys, e _ _ h1, h2.same e, e _ _ h3, h4.same e⟩
theorem nfs_sort (kx : Addr) (n : Int) (l : Addr) : (nfs kx n l).lookup ("sort_of" : Str) = some (.ref kx) := by
  unfold nfs
  rw [lookup_putF, if_neg (by decide +kernel), lookup_putF, if_neg (by decide +kernel), lookup_putF, if_pos rfl]
theorem nfs_many (kx : Addr) (n : Int) (l : Addr) : (nfs kx n l).lookup ("many" : Str) = some (.int n) := by
  unfold nfs
  rw [lookup_putF, if_neg (by decide +kernel), lookup_putF, if_pos rfl]
theorem nfs_rows (kx : Addr) (n : Int) (l : Addr) : (nfs kx n l).lookup ("rows" : Str) = some (.ref l) := by
  unfold nfs
  rw [lookup_putF, if_pos rfl]
theorem nfs_no (kx : Addr) (n : Int) (l : Addr) {m : Str} (h1 : ¬ m = "rows") (h2 : ¬ m = "many") (h3 : ¬ m = "sort_of") : (nfs kx n l).lookup m = none := by
  unfold nfs
  rw [lookup_putF, if_neg h1, lookup_putF, if_neg h2, lookup_putF, if_neg h3]; rfl
/-- what comes behind a statement that keeps the slots -/
theorem seq_split {t rest : TS} {D : Ends} {σ : L2.St} {H : Hp} (P : Prop) (cont : ∀ H1, Same H H1 → P → rest D σ H1) (h : ∀ R : TS, (∀ H1, Same H H1 → P → R D σ H1) → tSeq t R D σ H) : tSeq t rest D σ H := h rest cont
theorem upd_upd {H : Hp} {x : Addr} {o o' : HO} : upd (upd H x o) x o' = upd H x o' := by
  funext b
  by_cases h : b = x
  · subst h; rw [upd_same, upd_same]
  · rw [upd_ne h, upd_ne h, upd_ne h]
/-- all stands but x -/
def SameX (x : Addr) (H H' : Hp) : Prop := ∀ b o, b ≠ x → H b = some o → H' b = some o
/-- net.kind(), net.places(), net.roads(), net.ask(i) -/
def spNkind (A : Ad) : Sp := fun vs H Q _ => ∃ (x : Addr) (k : Kd) (n : Nat) (rs : List Rw), vs = [.ref x] ∧ NetAt A H x k n rs ∧ ∀ kx, KindAt A H kx k → Q (.ref kx) H
def spNplaces (A : Ad) : Sp := fun vs H Q _ => ∃ (x : Addr) (k : Kd) (n : Nat) (rs : List Rw), vs = [.ref x] ∧ NetAt A H x k n rs ∧ Q (.int n) H
def spNroads (A : Ad) : Sp := fun vs H Q _ => ∃ (x : Addr) (k : Kd) (n : Nat) (rs : List Rw), vs = [.ref x] ∧ NetAt A H x k n rs ∧ ∀ p ys, H p = none → Al (RwAt H) ys rs → Q (.ref p) (upd H p (.lst ys))
def spNask (A : Ad) (np : Addr) : Sp := fun vs H Q E => ∃ (x : Addr) (k : Kd) (n : Nat) (rs : List Rw) (i : Int), vs = [.ref x, .int i] ∧ NetAt A H x k n rs ∧ ((0 ≤ i ∧ i < n) → Q .non H) ∧ (¬ (0 ≤ i ∧ i < n) → E (.ref np) none H)
/-- self.ask_shares(kind, places, roads) -/
def spAskSh (A : Ad) (K : PySem.W.Frag) (no : Addr) : Sp := fun vs H Q E => ∃ (x kx la : Addr) (n : Nat) (ys : List V) (rs : List Rd), vs = [.ref x, .ref kx, .int n, .ref la] ∧ n ≤ 8 ∧ KindAt A H kx .cha ∧ SqL K H la ys ∧ Al (RdAt H) ys rs ∧ (∀ p, shz p rs ≤ 7000) ∧
  (overN n rs = false → ∀ H', Same H H' → Q .non H') ∧ (overN n rs = true → ∀ H', Same H H' → E (.ref no) none H')
/-- Net(kind, places, roads) -/
def spNet (A : Ad) (no nw : Addr) : Sp := fun vs H Q E => ∃ (x dx kx la : Addr) (k : Kd) (n : Int) (ys : List V) (rs : List Rd), vs = [.ref x, .ref kx, .int n, .ref la] ∧ H x = some (.ins A.Net dx []) ∧ KindAt A H kx k ∧ H la = some (.lst ys) ∧ Al (RdAt H) ys rs ∧ (k = .cha → ∀ p, shz p rs ≤ 7000) ∧
  (netR k n rs = none → ∀ H' l, SameX x H H' → H l = none → H' x = some (.ins A.Net dx (nfs kx n l)) → H' l = some (.lst ys) → Q .non H') ∧
  (netR k n rs = some false → ∀ H', Same H H' → E (.ref no) none H') ∧ (netR k n rs = some true → ∀ H', Same H H' → E (.ref nw) none H')
section
variable {P : Program} {w : World} {K : PySem.W.Frag} {mg : Str → Option Value} {base : Heap} {A : Ad} {f : Addr} {fd : FuncData}
theorem mc_Net_kind (T : Tx K mg A) (D : Mth K A.Net "kind" "Net.kind" s_Net_kind ["self"] f fd) : Mc CX0 P w K mg base 1 A.Net "kind" (spNkind A) := by
  refine mc0 (N := ["self"]) T.c_Net.cl D (fsc (by decide +kernel)) (fun vs H Q E h => ?_) (fun cdv _ outer s H vs Q E hr h => ?_)
  · obtain ⟨x, k, n, rs, rfl, _⟩ := h; rfl
  · obtain ⟨x, k, n, rs, rfl, ⟨_, dx, kx, l, ys, h1, h2, h3, h4⟩, q⟩ := h
    exact ⟨_, pss_one (ps_ret (pe_fld (pv 0) rfl)), _, rfl, x, A.Net, dx, _, _, rfl, h1, T.c_Net.cl, T.a_Net_sort_of, nfs_sort _ _ _, q kx h2⟩
theorem mc_Net_places (T : Tx K mg A) (D : Mth K A.Net "places" "Net.places" s_Net_places ["self"] f fd) : Mc CX0 P w K mg base 1 A.Net "places" (spNplaces A) := by
  refine mc0 (N := ["self"]) T.c_Net.cl D (fsc (by decide +kernel)) (fun vs H Q E h => ?_) (fun cdv _ outer s H vs Q E hr h => ?_)
  · obtain ⟨x, k, n, rs, rfl, _⟩ := h; rfl
  · obtain ⟨x, k, n, rs, rfl, ⟨_, dx, kx, l, ys, h1, h2, h3, h4⟩, q⟩ := h
    exact ⟨_, pss_one (ps_ret (pe_fld (pv 0) rfl)), _, rfl, x, A.Net, dx, _, _, rfl, h1, T.c_Net.cl, T.a_Net_many, nfs_many _ _ _, q⟩
theorem mc_Net_roads (T : Tx K mg A) (D : Mth K A.Net "roads" "Net.roads" s_Net_roads ["self"] f fd) : Mc CX0 P w K mg base 1 A.Net "roads" (spNroads A) := by
  refine mc0 (N := ["self"]) T.c_Net.cl D (fsc (by decide +kernel)) (fun vs H Q E h => ?_) (fun cdv _ outer s H vs Q E hr h => ?_)
  · obtain ⟨x, k, n, rs, rfl, _⟩ := h; rfl
  · obtain ⟨x, k, n, rs, rfl, ⟨_, dx, kx, l, ys, h1, h2, h3, h4⟩, q⟩ := h
    refine ⟨_, pss_one (ps_ret (pe_callTy call_list_of (by rfl) T.n_list (by decide +kernel) (pa_cons (pe_fld (pv 0) rfl) pa_nil))), ?_⟩
    exact ⟨_, rfl, x, A.Net, dx, _, _, rfl, h1, T.c_Net.cl, T.a_Net_rows, nfs_rows _ _ _, l, ys, rfl, .inl (SqL.of h3), fun p hp => q p ys hp h4⟩
theorem foldl_snoc {α β : Type} (g : β → α → β) (b : β) (l : List α) (i : Nat) {x : α} (h : l[i]? = some x) : (l.take (i + 1)).foldl g b = g ((l.take i).foldl g b) x := by
  have hi : i < l.length := (List.getElem?_eq_some_iff.1 h).1
  have e : l.take (i + 1) = l.take i ++ [x] := by
    rw [List.take_succ, h]; rfl
  rw [e, List.foldl_append]; rfl
theorem shs_nonneg (p : Int) : ∀ (rs : List Rd), 0 ≤ shs p rs := by
  intro rs
  have : ∀ (rs : List Rd) (a : Rat), 0 ≤ a → 0 ≤ rs.foldl (fun a r => a + shOne p r) a := by
    intro rs
    induction rs with
    | nil => intro a h; exact h
    | cons r rs ih =>
      intro a h
      refine ih _ (Rat.add_nonneg h ?_)
      unfold shOne
      split
      · rename_i hh
        cases hw : r.w with
        | non => exact Rat.le_refl
        | int i => exact Rat.le_refl
        | par s t =>
          have hg := hh.2
          rw [hw] at hg
          obtain ⟨h0, h1, _⟩ := shr_of hg
          exact rat_dvi h0 h1
      · exact Rat.le_refl
  exact this rs 0 Rat.le_refl
theorem shz_le (p : Int) (rs : List Rd) (i : Nat) : (rs.take i).foldl (fun a r => a + szOne p r) 1 ≤ shz p rs := by
  have : ∀ (rs : List Rd) (a : Nat), a ≤ rs.foldl (fun a r => a + szOne p r) a := by
    intro rs
    induction rs with
    | nil => intro a; exact Nat.le_refl _
    | cons r rs ih => intro a; exact Nat.le_trans (Nat.le_add_right a _) (ih _)
  unfold shz
  conv => rhs; rw [← List.take_append_drop i rs, List.foldl_append]
  exact this _ _
theorem mc_Net_ask_shares (T : Tx K mg A) (IS : ∀ i, Av i = true → Mc CX0 P w K mg base 4 (A.C i) "is_worth" (spIs A i)) (AD : Fc CX0 P w K mg base 3 "added" (spShare (· + ·) 8000)) (LE : Fc CX0 P w K mg base 1 "less" spLess)
    (D : Mth K A.Net "ask_shares" "Net.ask_shares" s_Net_ask_shares ["self", "kind", "places", "roads"] f fd) : Mc (L2.CX P w) P w K mg base 5 A.Net "ask_shares" (spAskSh A K A.NoNet) := by
  have sc : FnScope ["self", "kind", "places", "roads", "place", "whole", "road"] ["self", "kind", "places", "roads"] (defScope s_Net_ask_shares) := fsc (by decide +kernel)
  refine mcX T.c_Net.cl D sc (fun vs H Q E h => ?_) (fun cdv _ outer s H vs Q E hr h => ?_)
  · obtain ⟨x, kx, la, n, ys, rs, rfl, _⟩ := h; rfl
  · obtain ⟨x, kx, la, n, ys, rs, rfl, hn8, hk, hS, hR, hz, q, qn⟩ := h
    have z := T.x_NoNet
    refine ⟨_, pss_one (ps_for (passes_of rfl) rfl (pi_range1 (by rfl) T.n_range (pa_cons (pv 2) pa_nil)) (pg_name (i := 4) sc.nd rfl (.inl rfl)) (pss_cons (ps_set (i := 5) sc.nd rfl (.inl rfl) (pe_tup (pa_cons pe_int (pa_cons pe_int pa_nil)))) (pss_cons (ps_for (passes_of rfl) rfl (pi_list (pv 3)) (pg_name (i := 6) sc.nd rfl (.inl rfl)) (pss_one (ps_if (PW.pt (pw_and (pt_cmpR op_eq (pe_ix ix_tup (pv 6) pe_int (fun _ _ => rfl)) (pv 4) (nomark _)) (pw_and1 (pt_val (pe_km (ES := fun _ => E0) IS hr (by decide) passS (pv 1) (pa_cons (pe_ix ix_tup (pv 6) pe_int (fun _ _ => rfl)) pa_nil)))))) (pss_one (ps_set (i := 5) sc.nd rfl (.inl rfl) (pe_f AD hr (by decide) pass0 rfl (pa_cons (pv 5) (pa_cons (pe_ix ix_tup (pv 6) pe_int (fun _ _ => rfl)) pa_nil))))) pss_nil))) (pss_one (ps_if (pt_val (pe_f LE hr (by decide) pass0 rfl (pa_cons (pe_tup (pa_cons pe_int (pa_cons pe_int pa_nil))) (pa_cons (pv 5) pa_nil)))) (pss_one (ps_raise rfl (takes_of rfl rfl rfl rfl) (pmk_own PySem.F.excBase_ValueError z.ex z.g z.kp (raises_own z.bs z.ty) rfl))) pss_nil))))), ?_⟩
    refine ⟨_, rfl, (n : Int), rfl, by omega, by omega, for_range (lo := 0) (n := (n : Int).toNat)
      (fun i σ H' => ∃ v4 v5 v6 : Option V, σ = [some (.ref x), some (.ref kx), some (.int n), some (.ref la), v4, v5, v6] ∧ Same H H' ∧ ∀ p, p < i → ¬ 1 < shs (p : Int) rs) ⟨none, none, none, rfl, Same.refl _, fun p h => by omega⟩ ?_ ?_⟩
    · rintro i σ H' hi ⟨v4, v5, v6, rfl, s1, hp⟩
      rw [Int.toNat_natCast] at hi
      refine ⟨size2, fun t ht => ?_⟩
      have s2 := s1.trans (same_upd (o := HO.tup [.int 0, .int 1]) ht)
      have h5 : Wv (upd H' t (HO.tup [.int 0, .int 1])) (.ref t) (.rat 0) := wv_tup (by decide) (by decide)
      generalize upd H' t (HO.tup [.int 0, .int 1]) = H2 at s2 h5
      refine ⟨_, rfl, la, rfl, ⟨_, s2.seq hS⟩, for_list (K := K) (a := la) (xs := ys) (fun j σ H3 => ∃ (v5 : V) (v6 : Option V), σ = [some (.ref x), some (.ref kx), some (.int n), some (.ref la), some (.int (0 + i)), some v5, v6] ∧ Same H H3 ∧
          Wv H3 v5 (.rat ((rs.take j).foldl (fun a r => a + shOne (0 + i) r) 0)) ∧ sz (.rat ((rs.take j).foldl (fun a r => a + shOne (0 + i) r) 0)) ≤ (rs.take j).foldl (fun a r => a + szOne (0 + i) r) 1 ∧ 0 ≤ (rs.take j).foldl (fun a r => a + shOne (0 + i) r) 0)
        ⟨.ref t, v6, rfl, s2, by simpa using h5, (by show sz (.rat 0) ≤ 1; decide), by simp⟩ (fun _ _ _ _ ⟨_, _, _, s3, _⟩ => s3.seq hS) ?_ ?_⟩
      · rintro j y σ H3 hj ⟨v5, v6, rfl, s3, hv5, hz5, h05⟩
        obtain ⟨r, hrj, hR1⟩ := hR.get hj
        obtain ⟨p, yw, rfl, hp3, hw⟩ := hR1.same s3
        rw [foldl_snoc _ _ _ _ hrj, foldl_snoc _ _ _ _ hrj]
        have zle := shz_le (0 + i) rs j
        have zle2 := shz_le (0 + i) rs (j + 1)
        rw [foldl_snoc _ _ _ _ hrj] at zle2
        have hz1 := hz (0 + i)
        refine ⟨_, rfl, p, _, _, _, rfl, rfl, SqT.of hp3, ix0, _, rfl, rfl, _, rfl, ?_⟩
        by_cases hs : r.s = 0 + i
        · refine ifT (decide_eq_true (congrArg V.int hs)) ⟨.cha, hk.1, _, rfl, kx, rfl, hk.same s3, _, rfl, p, _, _, _, rfl, rfl, SqT.of hp3, ix2, kx, .cha, _, r.w, rfl, hk.same s3, rfl, hw, _, rfl, ?_⟩
          by_cases hg : isW .cha r.w = true
          · refine ifT hg ⟨_, rfl, _, rfl, p, _, _, _, rfl, rfl, SqT.of hp3, ix2, ?_⟩
            obtain ⟨hwr, h0⟩ := hw.cha hg
            have eo : shOne (0 + i) r = vr r.w := if_pos ⟨hs, hg⟩
            have ez : szOne (0 + i) r = sz (.rat (vr r.w)) + 1 := if_pos ⟨hs, hg⟩
            rw [eo, ez]
            rw [ez] at zle2
            generalize (rs.take j).foldl (fun a r => a + shOne (0 + i) r) 0 = S at hv5 hz5 h05
            generalize (rs.take j).foldl (fun a r => a + szOne (0 + i) r) 1 = Z at hz5 zle zle2
            refine ⟨_, _, S, vr r.w, rfl, hv5, hwr, h05, h0, by omega, fun p' hp' => ⟨_, _, rfl, s3.trans (same_upd hp'), wv_tup rfl rfl, ?_, Rat.add_nonneg h05 h0⟩⟩
            have := sz_tog (k := .cha) rfl (a := .rat S) (b := .rat (vr r.w)) h05 h0
            rw [tog_cha] at this
            omega
          · have eo : shOne (0 + i) r = 0 := if_neg fun y => hg y.2
            have ez : szOne (0 + i) r = 0 := if_neg fun y => hg y.2
            rw [eo, ez, Rat.add_zero, Nat.add_zero]
            exact ifF (Bool.eq_false_iff.2 hg) ⟨v5, _, rfl, s3, hv5, hz5, h05⟩
        · have eo : shOne (0 + i) r = 0 := if_neg fun y => hs y.1
          have ez : szOne (0 + i) r = 0 := if_neg fun y => hs y.1
          rw [eo, ez, Rat.add_zero, Nat.add_zero]
          exact ifF (decide_eq_false fun y => hs (V.int.inj y)) ⟨v5, _, rfl, s3, hv5, hz5, h05⟩
      · rintro σ H3 ⟨v5, v6, rfl, s3, hv5, hz5, h05⟩
        rw [show ys.length = rs.length from hR.1, List.take_length] at hv5 hz5 h05
        change Wv H3 v5 (.rat (shs (0 + i) rs)) at hv5
        have hz1 := hz (0 + i)
        have hz5' : sz (.rat (shs (0 + i) rs)) ≤ shz (0 + i) rs := hz5
        refine ⟨size2, fun t2 ht2 => ⟨_, rfl, _, _, 1, shs (0 + i) rs, rfl, wv_tup (by decide) (by decide), hv5.same (same_upd ht2), ?_, _, rfl, ?_⟩⟩
        · have : sz (.rat 1) ≤ 1 := by decide
          omega
        · have s4 := s3.trans (same_upd (o := HO.tup [.int 1, .int 1]) ht2)
          by_cases ho : 1 < shs (0 + i) rs
          · refine ifT (decide_eq_true ho) (qn ?_ _ s4)
            unfold overN
            rw [List.any_eq_true]
            refine ⟨i, by rw [List.mem_range, Int.toNat_natCast]; exact hi, ?_⟩
            rw [Int.zero_add] at ho
            exact decide_eq_true ho
          · refine ifF (decide_eq_false ho) ⟨_, _, _, rfl, s4, fun p hp' => ?_⟩
            by_cases e : p = i
            · subst e; rw [Int.zero_add] at ho; exact ho
            · exact hp p (by omega)
    · rintro σ H' ⟨v4, v5, v6, rfl, s1, hp⟩
      refine q ?_ _ s1
      unfold overN
      rw [List.any_eq_false]
      intro p hp'
      rw [List.mem_range, Int.toNat_natCast] at hp'
      rw [decide_eq_true_eq]
      exact hp p (by rw [Int.toNat_natCast]; exact hp')
theorem nc_Net (T : Tx K mg A) (IS : ∀ i, Av i = true → Mc CX0 P w K mg base 4 (A.C i) "is_worth" (spIs A i)) (AS : Mc (L2.CX P w) P w K mg base 5 A.Net "ask_shares" (spAskSh A K A.NoNet))
    (D : Ini K A.Net "Net.__init__" s_Net___init__ ["self", "kind", "places", "roads"] f fd) : Nc (L2.CX P w) P w K mg base 6 "Net" A.Net (spNet A A.NoNet A.NoWorth) := by
  have sc : FnScope ["self", "kind", "places", "roads", "road"] ["self", "kind", "places", "roads"] (defScope s_Net___init__) := fsc (by decide +kernel)
  have zn := T.x_NoNet
  have zw := T.x_NoWorth
  refine ⟨f, fd, _, D.F.okX (N := ["self", "kind", "places", "roads", "road"]) sc (fun vs H Q E h => ?_) (fun cdv _ outer s H vs Q E hr h => ?_), D.M, T.c_Net.g, D.b⟩
  · obtain ⟨x, dx, kx, la, k, n, ys, rs, rfl, _⟩ := h; rfl
  · obtain ⟨x, dx, kx, la, k, n, ys, rs, rfl, hx, hk, hS, hR, hz, q, qn, qw⟩ := h
    refine ⟨_, (pss_cons (ps_if (PW.pt (pw_or (pt_not (pt_chain op_le op_le pe_int (pv 2) (C8.pe_gc rfl T.g_MOST_PLACES))) (pw_or1 (pt_cmpR op_gt (pe_callB call_len_seq (by rfl) T.n_len PySem.boot_len (pa_cons (pv 3) pa_nil)) (C8.pe_gc rfl T.g_MOST_ROADS) (nomark _))))) (pss_one (ps_raise rfl (takes_of rfl rfl rfl rfl) (pmk_own PySem.F.excBase_ValueError zn.ex zn.g zn.kp (raises_own zn.bs zn.ty) rfl))) pss_nil) (pss_cons (ps_for (passes_of rfl) rfl (pi_list (pv 3)) (pg_name (i := 4) sc.nd rfl (.inl rfl)) (pss_one (ps_if (PW.pt (pw_or (pt_not (pt_chain op_le op_lt pe_int (pe_ix ix_tup (pv 4) pe_int (fun _ _ => rfl)) (pv 2))) (pw_or1 (pt_not (pt_chain op_le op_lt pe_int (pe_ix ix_tup (pv 4) pe_int (fun _ _ => rfl)) (pv 2)))))) (pss_one (ps_raise rfl (takes_of rfl rfl rfl rfl) (pmk_own PySem.F.excBase_ValueError zn.ex zn.g zn.kp (raises_own zn.bs zn.ty) rfl))) pss_nil))) (pss_cons (ps_if (pt_val (pe_callB call_isi (by rfl) T.n_isinstance (by decide +kernel) (pa_cons (pv 1) (pa_cons (pe_glob (v := .ref A.Chances) rfl T.c_Chances.g rfl) pa_nil)))) (pss_one (ps_expr (pe_m AS hr (by decide) passE (pv 0) (pa_cons (pv 1) (pa_cons (pv 2) (pa_cons (pv 3) pa_nil)))))) pss_nil) (pss_cons (ps_for (passes_of rfl) rfl (pi_list (pv 3)) (pg_name (i := 4) sc.nd rfl (.inl rfl)) (pss_one (ps_if (pt_not (pt_val (pe_km (ES := fun _ => E0) IS hr (by decide) passS (pv 1) (pa_cons (pe_ix ix_tup (pv 4) pe_int (fun _ _ => rfl)) pa_nil)))) (pss_one (ps_raise rfl (takes_of rfl rfl rfl rfl) (pmk_own PySem.F.excBase_ValueError zw.ex zw.g zw.kp (raises_own zw.bs zw.ty) rfl))) pss_nil))) (pss_cons (ps_fld (pv 0) (pv 1) rfl) (pss_cons (ps_fld (pv 0) (pv 2) rfl) (pss_one (ps_fld (pv 0) (pe_callTy call_list_of (by rfl) T.n_list (by decide +kernel) (pa_cons (pv 3) pa_nil)) rfl)))))))), ?_⟩
    have hin : ∀ {r : Rd}, inN n r = true ↔ ((0 ≤ r.s ∧ r.s < n) ∧ 0 ≤ r.t ∧ r.t < n) := fun {r} => by
      unfold inN
      by_cases a : 0 ≤ r.s <;> by_cases b : r.s < n <;> by_cases c : 0 ≤ r.t <;> by_cases d : r.t < n <;> simp [a, b, c, d]
    have bad1 : (¬ (1 ≤ n ∧ n ≤ 8) ∨ 64 < rs.length) → E (.ref A.NoNet) none H := fun h => qn (by unfold netR; rw [if_pos h]) H (Same.refl H)
    have hlen : ys.length = rs.length := hR.1
    by_cases hn : 1 ≤ n ∧ n ≤ 8
    case neg =>
      refine ⟨_, rfl, _, _, rfl, rfl, _, rfl, ?_⟩
      by_cases h1 : 1 ≤ n
      · refine ifT (decide_eq_true h1) ⟨_, _, rfl, rfl, _, rfl, ifT ?_ (ifT rfl (bad1 (.inl hn)))⟩
        rw [decide_eq_false fun y => hn ⟨h1, y⟩]; rfl
      · exact ifF (decide_eq_false h1) ⟨_, rfl, ifT rfl (ifT rfl (bad1 (.inl hn)))⟩
    by_cases hl : 64 < rs.length
    · refine ⟨_, rfl, _, _, rfl, rfl, _, rfl, ifT (decide_eq_true hn.1) ⟨_, _, rfl, rfl, _, rfl, ifF (by rw [decide_eq_true hn.2]; rfl) ?_⟩⟩
      exact ⟨_, rfl, la, _, rfl, .inl (SqL.of hS), _, _, rfl, rfl, _, rfl, ifT (decide_eq_true (by rw [hlen]; omega)) (bad1 (.inr hl))⟩
    refine ⟨_, rfl, _, _, rfl, rfl, _, rfl, ifT (decide_eq_true hn.1) ⟨_, _, rfl, rfl, _, rfl, ifF (by rw [decide_eq_true hn.2]; rfl) ?_⟩⟩
    refine ⟨_, rfl, la, _, rfl, .inl (SqL.of hS), _, _, rfl, rfl, _, rfl, ifF (decide_eq_false (by rw [hlen]; omega)) ?_⟩
    have e1 : ¬ (¬ (1 ≤ n ∧ n ≤ 8) ∨ 64 < rs.length) := fun h => h.elim (fun z => z hn) hl
    -- the ends
    refine ⟨_, rfl, la, rfl, ⟨_, SqL.of hS⟩, for_list (K := K) (a := la) (xs := ys) (fun j σ H' => ∃ v4 : Option V, σ = [some (.ref x), some (.ref kx), some (.int n), some (.ref la), v4] ∧ H' = H ∧ ∀ (j' : Nat) (r : Rd), j' < j → rs[j']? = some r → inN n r = true)
      ⟨none, rfl, rfl, fun _ _ h => by omega⟩ (fun _ _ _ _ ⟨_, _, e, _⟩ => by rw [e]; exact SqL.of hS) ?_ ?_⟩
    · rintro j y σ H' hj ⟨v4, rfl, rfl, hp⟩
      obtain ⟨r, hrj, p, yw, rfl, hpp, hw⟩ := hR.get hj
      have bad : inN n r = false → E (.ref A.NoNet) none H' := fun h => qn (by
        unfold netR
        rw [if_neg e1, if_pos]
        rw [List.all_eq_false]
        exact ⟨r, List.mem_of_getElem? hrj, by rw [h]; exact Bool.false_ne_true⟩) H' (Same.refl H')
      have notin : ¬ ((0 ≤ r.s ∧ r.s < n) ∧ 0 ≤ r.t ∧ r.t < n) → inN n r = false := fun h => Bool.eq_false_iff.2 fun z => h (hin.1 z)
      refine ⟨_, rfl, p, _, _, _, rfl, rfl, SqT.of hpp, ix0, _, _, rfl, rfl, _, rfl, ?_⟩
      by_cases a : 0 ≤ r.s
      · refine ifT (decide_eq_true a) ⟨_, rfl, _, _, rfl, rfl, _, rfl, ?_⟩
        by_cases b : r.s < n
        · refine ifF (by rw [decide_eq_true b]; rfl) ⟨_, rfl, p, _, _, _, rfl, rfl, SqT.of hpp, ix1, _, _, rfl, rfl, _, rfl, ?_⟩
          by_cases c : 0 ≤ r.t
          · refine ifT (decide_eq_true c) ⟨_, rfl, _, _, rfl, rfl, _, rfl, ?_⟩
            by_cases d : r.t < n
            · refine ifF (by rw [decide_eq_true d]; rfl) ⟨_, rfl, rfl, fun j' r' hj' hr' => ?_⟩
              by_cases e : j' = j
              · subst e; rw [hrj] at hr'; cases hr'; exact hin.2 ⟨⟨a, b⟩, c, d⟩
              · exact hp j' r' (by omega) hr'
            · exact ifT (by rw [decide_eq_false d]; rfl) (bad (notin fun h => d h.2.2))
          · exact ifF (decide_eq_false c) ⟨_, rfl, ifT rfl (bad (notin fun h => c h.2.1))⟩
        · exact ifT (by rw [decide_eq_false b]; rfl) (ifT rfl (bad (notin fun h => b h.1.2)))
      · exact ifF (decide_eq_false a) ⟨_, rfl, ifT rfl (ifT rfl (bad (notin fun h => a h.1.1)))⟩
    rintro σ H' ⟨v4, rfl, rfl, hp⟩
    have e2 : ¬ rs.all (inN n) = false := by
      rw [Bool.not_eq_false, List.all_eq_true]
      intro r hr
      obtain ⟨j, hj⟩ := List.getElem?_of_mem hr
      exact hp j r (by rw [hlen]; exact (List.getElem?_eq_some_iff.1 hj).1) hj
    -- the shares
    obtain ⟨hav, hko, dk, hxk⟩ := id hk
    obtain ⟨xn, cl⟩ := cl_all T k.x hav
    dsimp only
    refine seq_split (¬ (k = .cha ∧ overN n rs = true)) (fun H1 s1 e3 => ?_) (fun R cont => ?_)
    rotate_left
    · refine ⟨_, rfl, _, _, _, _, _, rfl, .own A.Chances, .base (.ins hxk cl.cl cl.ha T.hn T.ht cl.hm), kit_cha T k.x hav, _, rfl, ?_⟩
      by_cases hc : k = .cha
      · subst hc
        obtain ⟨m, rfl⟩ := nn n (by omega)
        refine ifT (decide_eq_true rfl) ⟨_, rfl, x, dx, _, rfl, hx, rfl, _, rfl, _, rfl, _, rfl, x, kx, la, m, ys, rs, rfl, by omega, hk, SqL.of hS, hR, hz rfl, fun ho H1 s1 => cont H1 s1 (fun z => by rw [ho] at z; exact Bool.noConfusion z.2), fun ho H1 s1 => qn ?_ H1 s1⟩
        unfold netR
        rw [if_neg e1, if_neg e2, if_pos ⟨rfl, ho⟩]
      · exact ifF (decide_eq_false fun z => hc (by cases k <;> first | rfl | cases z)) (cont _ (Same.refl _) fun z => hc z.1)
    have hk1 := hk.same s1
    have hR1 := hR.sameD s1
    have hS1 := s1 _ _ hS
    -- the worths
    refine ⟨_, rfl, la, rfl, ⟨_, SqL.of hS1⟩, for_list (K := K) (a := la) (xs := ys) (fun j σ H' => ∃ v4 : Option V, σ = [some (.ref x), some (.ref kx), some (.int n), some (.ref la), v4] ∧ H' = H1 ∧ ∀ (j' : Nat) (r : Rd), j' < j → rs[j']? = some r → isW k r.w = true)
      ⟨v4, rfl, rfl, fun _ _ h => by omega⟩ (fun _ _ _ _ ⟨_, _, e, _⟩ => by rw [e]; exact SqL.of hS1) ?_ ?_⟩
    · rintro j y σ H2 hj ⟨v4, rfl, rfl, hp⟩
      obtain ⟨r, hrj, p, yw, rfl, hpp, hw⟩ := hR1.get hj
      refine ⟨k, hav, _, rfl, kx, rfl, hk1, _, rfl, p, _, _, _, rfl, rfl, SqT.of hpp, ix2, kx, k, _, r.w, rfl, hk1, rfl, hw, _, rfl, ?_⟩
      by_cases hg : isW k r.w = true
      · refine ifF (by rw [hg]; rfl) ⟨_, rfl, rfl, fun j' r' hj' hr' => ?_⟩
        by_cases e : j' = j
        · subst e; rw [hrj] at hr'; cases hr'; exact hg
        · exact hp j' r' (by omega) hr'
      · refine ifT (by rw [Bool.eq_false_iff.2 hg]; rfl) (qw ?_ _ s1)
        unfold netR
        rw [if_neg e1, if_neg e2, if_neg e3, if_neg]
        intro z
        rw [List.all_eq_true] at z
        exact hg (z r (List.mem_of_getElem? hrj))
    rintro σ H2 ⟨v4, rfl, rfl, hp⟩
    have e4 : rs.all (fun r => isW k r.w) = true := by
      rw [List.all_eq_true]
      intro r hr
      obtain ⟨j, hj⟩ := List.getElem?_of_mem hr
      exact hp j r (by rw [hlen]; exact (List.getElem?_eq_some_iff.1 hj).1) hj
    have hx1 := s1 _ _ hx
    have ne : la ≠ x := by
      rintro rfl
      rw [hx1] at hS1; cases hS1
    refine ⟨_, rfl, _, rfl, x, _, dx, [], rfl, hx1, T.c_Net.cl, T.a_Net_sort_of, (by show 0 < 1000; decide), ?_⟩
    refine ⟨_, rfl, _, rfl, x, _, dx, _, rfl, upd_same, T.c_Net.cl, T.a_Net_many, (by show 1 < 1000; decide), ?_⟩
    rw [upd_upd]
    refine ⟨_, rfl, la, ys, rfl, .inl (SqL.of (by rw [upd_ne ne]; exact hS1)), fun l hl => ?_⟩
    have nl : l ≠ x := by
      rintro rfl
      rw [upd_same] at hl; cases hl
    rw [upd_ne nl] at hl
    refine ⟨_, rfl, x, _, dx, _, rfl, by rw [upd_ne (fun z => nl z.symm)]; exact upd_same, T.c_Net.cl, T.a_Net_rows, (by show 2 < 1000; decide), ?_⟩
    refine q ?_ _ l (fun b o hb e => ?_) (s1.free hl) ?_ ?_
    · unfold netR
      rw [if_neg e1, if_neg e2, if_neg e3, if_pos e4]
    · rw [upd_ne hb, upd_ne (ne_of_none (s1 _ _ e) hl), upd_ne hb]
      exact s1 _ _ e
    · exact upd_same
    · rw [upd_ne nl, upd_same]
theorem th_Nkind (T : Tx K mg A) : Mc CX0 P w K mg base 1 A.Net "kind" (spNkind A) := by
  obtain ⟨f, fd, D⟩ := T.m_Net_kind
  exact mc_Net_kind T D
theorem th_Nplaces (T : Tx K mg A) : Mc CX0 P w K mg base 1 A.Net "places" (spNplaces A) := by
  obtain ⟨f, fd, D⟩ := T.m_Net_places
  exact mc_Net_places T D
theorem th_Nroads (T : Tx K mg A) : Mc CX0 P w K mg base 1 A.Net "roads" (spNroads A) := by
  obtain ⟨f, fd, D⟩ := T.m_Net_roads
  exact mc_Net_roads T D
theorem th_Net (T : Tx K mg A) : Nc (L2.CX P w) P w K mg base 6 "Net" A.Net (spNet A A.NoNet A.NoWorth) := by
  obtain ⟨f, fd, D⟩ := T.m_Net_ask_shares
  obtain ⟨f2, fd2, D2⟩ := T.m_Net___init__
  exact nc_Net T (all_is T) (mc_Net_ask_shares T (all_is T) (th_added T) (th_less T) D) D2
end
/-- net.m(..) -/
theorem tm_net {A : Ad} {σ : L2.St} {H : Hp} {Q : VK} {E : XK} {i : Nat} {m : Str} {sp : Sp} {t : TA} {x : Addr} {k : Kd} {n : Nat} {rs : List Rw} (hi : σ[i]? = some (some (.ref x))) (h : NetAt A H x k n rs)
    (q : t σ H fun vs H2 => sp (.ref x :: vs ++ []) H2 Q E) (h1 : ¬ m = "rows" := by decide +kernel) (h2 : ¬ m = "many" := by decide +kernel) (h3 : ¬ m = "sort_of" := by decide +kernel) : tMeth A.Net m sp [] E (tVar i) t σ H Q := by
  obtain ⟨_, dx, kx, l, ys, e, _⟩ := h
  exact ⟨_, hi, x, dx, _, rfl, e, nfs_no _ _ _ h1 h2 h3, q⟩
/-! ### W6: ways walked -/
/-- a row of roads walked on -/
def wkW (k : Kd) (rs : List Rw) : Int → Wo → List Int → Option (Int × Wo)
  | p, w, [] => some (p, w)
  | p, w, j :: js => if 0 ≤ j then (match rs[j.toNat]? with
    | some r => if (r.s : Int) = p then wkW k rs r.t (beh k w r.w) js else none
    | none => none) else none
/-- what a net that is made stands for -/
structure NetF (k : Kd) (n : Nat) (rs : List Rw) : Prop where
  n1 : 1 ≤ n
  n8 : n ≤ 8
  len : rs.length ≤ 64
  ok : RsOk k n rs
  cha : k = .cha → (∀ i, sumW i rs ≤ 1) ∧ ∀ r ∈ rs, sz r.w ≤ 100
theorem NetD.f {k : Kd} {most extra n : Nat} {rs : List Rw} (h : NetD k most extra n rs) (hm : most ≤ 8) (hx : extra ≤ 40) : NetF k n rs :=
  ⟨h.n1, Nat.le_trans h.nm hm, by have := h.len; omega, h.ok, fun hc => by
    obtain ⟨D, h1, h2, h3⟩ := h.cha hc
    refine ⟨h3, fun r hr => ?_⟩
    have := h.sz (by rw [hc]; rfl) r hr
    rw [hc] at this
    exact Nat.le_trans this (by decide)⟩
theorem vr_vx {w : Wo} (h : Good .cha w) : vr w.vx = wq w := by
  obtain ⟨q, rfl, h0⟩ := good_cha h
  exact Rat.num_divInt_den q
theorem shs_eq (s : Nat) : ∀ (rs : List Rw) (a : Rat), (∀ r ∈ rs, Good .cha r.w) → (rs.map Rw.rd).foldl (fun a r => a + shOne s r) a = rs.foldl (sumF s) a
  | [], a, _ => rfl
  | r :: rs, a, h => by
    have g := h r List.mem_cons_self
    have e : a + shOne s r.rd = sumF s a r := by
      unfold shOne sumF
      by_cases hs : r.s = s
      · rw [if_pos ⟨by show (r.s : Int) = s; omega, isW_good g⟩, if_pos hs]
        show a + vr r.w.vx = _
        rw [vr_vx g]
      · rw [if_neg fun z => hs (by have : (r.s : Int) = s := z.1; omega), if_neg hs, Rat.add_zero]
    show (rs.map Rw.rd).foldl _ (a + shOne s r.rd) = rs.foldl (sumF s) (sumF s a r)
    rw [e]
    exact shs_eq s rs _ fun x hx => h x (List.mem_cons_of_mem _ hx)
theorem shz_bound (p : Int) : ∀ (rs : List Rw) (a : Nat), (∀ r ∈ rs, Good .cha r.w ∧ sz r.w ≤ 100) → (rs.map Rw.rd).foldl (fun a r => a + szOne p r) a ≤ a + 101 * rs.length
  | [], a, _ => Nat.le_refl _
  | r :: rs, a, h => by
    obtain ⟨g, z⟩ := h r List.mem_cons_self
    have e : szOne p r.rd ≤ 101 := by
      unfold szOne
      split
      · show sz (.rat (vr r.w.vx)) + 1 ≤ 101
        rw [vr_vx g, ← wq_eq g]; omega
      · omega
    have := shz_bound p rs (a + szOne p r.rd) fun x hx => h x (List.mem_cons_of_mem _ hx)
    rw [List.length_cons]
    show (rs.map Rw.rd).foldl _ (a + szOne p r.rd) ≤ _
    omega
theorem netR_ok {k : Kd} {n : Nat} {rs : List Rw} (h : NetF k n rs) : netR k n (rs.map Rw.rd) = none := by
  have h1 := h.n1
  have h8 := h.n8
  have hl := h.len
  unfold netR
  rw [if_neg (by rw [List.length_map]; omega), if_neg, if_neg, if_pos]
  · rw [List.all_eq_true]
    intro r hr
    obtain ⟨r0, h0, rfl⟩ := List.mem_map.1 hr
    exact isW_good (h.ok r0 h0).1
  · rintro ⟨hc, ho⟩
    unfold overN at ho
    rw [List.any_eq_true] at ho
    obtain ⟨p, hp, hlt⟩ := ho
    have hlt := of_decide_eq_true hlt
    have e : shs (p : Int) (rs.map Rw.rd) = sumW p rs := shs_eq p rs 0 fun r hr => by rw [← hc]; exact (h.ok r hr).1
    rw [e] at hlt
    exact Rat.not_le.2 hlt ((h.cha hc).1 p)
  · rw [Bool.not_eq_false, List.all_eq_true]
    intro r hr
    obtain ⟨r0, h0, rfl⟩ := List.mem_map.1 hr
    obtain ⟨_, hs, ht⟩ := h.ok r0 h0
    show inN n r0.rd = true
    unfold inN
    rw [if_pos (show (0 : Int) ≤ r0.rd.s from Int.natCast_nonneg r0.s), if_pos (show r0.rd.s < (n : Int) from Int.ofNat_lt.2 hs), if_pos (show (0 : Int) ≤ r0.rd.t from Int.natCast_nonneg r0.t)]
    exact decide_eq_true (show r0.rd.t < (n : Int) from Int.ofNat_lt.2 ht)
/-- Net(kind, places, roads) of what is a net -/
theorem mkNet {A : Ad} {no nw : Addr} {H : Hp} {QQ : Hp → Prop} {E : XK} {kx la x dx : Addr} {k : Kd} {n : Nat} {ys : List V} {rs : List Rw} (hF : NetF k n rs) (hk : KindAt A H kx k) (hS : H la = some (.lst ys)) (hR : Al (RwAt H) ys rs)
    (hx : H x = none) (hdx : H dx = none) (q : ∀ H', Same H H' → NetAt A H' x k n rs → QQ H') :
    spNet A no nw (.ref x :: ([.ref kx, .int n, .ref la] ++ [])) (upd (upd H dx (.own x)) x (.ins A.Net dx [])) (fun v H2 => v = .non ∧ QQ H2) E := by
  have s1 : Same H (upd (upd H dx (.own x)) x (.ins A.Net dx [])) := same_new hx hdx
  refine ⟨x, dx, kx, la, k, n, ys, rs.map Rw.rd, rfl, upd_same, hk.same s1, s1 _ _ hS, (hR.same s1).rd, fun hc p => ?_, fun _ H' l sx hl hx' hl' => ⟨rfl, ?_⟩, fun z => ?_, fun z => ?_⟩
  · have := shz_bound p rs 1 fun r hr => ⟨by rw [← hc]; exact (hF.ok r hr).1, (hF.cha hc).2 r hr⟩
    have hl := hF.len
    show (rs.map Rw.rd).foldl _ 1 ≤ 7000
    omega
  · have s2 : Same H H' := fun b o e => sx b o (ne_of_none e hx) (s1 _ _ e)
    exact q H' s2 ⟨hF.ok, dx, kx, l, ys, hx', hk.same s2, hl', hR.same s2⟩
  · rw [netR_ok hF] at z; cases z
  · rw [netR_ok hF] at z; cases z
/-- worth_of(net, place, row) -/
def spWorthOf (A : Ad) (K : PySem.W.Frag) (np nr : Addr) : Sp := fun vs H Q E => ∃ (x la : Addr) (k : Kd) (n : Nat) (rs : List Rw) (p : Int) (js : List Int) (B : Nat), vs = [.ref x, .int p, .ref la] ∧ NetAt A H x k n rs ∧ SqL K H la (js.map V.int) ∧ KOk k ∧
  rs.length ≤ 64 ∧ js.length ≤ 1000 ∧ (bitK k = true → (∀ r ∈ rs, sz r.w ≤ B) ∧ 31 + js.length * B + B ≤ 8000) ∧
  ((0 ≤ p ∧ p < n) → ∀ t wt, wkW k rs p (restW k) js = some (t, wt) → ∀ H' a z, Same H H' → H' a = some (.tup [.int t, z]) → Wv H' z wt → Q (.ref a) H') ∧
  ((0 ≤ p ∧ p < n) → wkW k rs p (restW k) js = none → ∀ H', Same H H' → E (.ref nr) none H') ∧ (¬ (0 ≤ p ∧ p < n) → E (.ref np) none H)
section
variable {P : Program} {w : World} {K : PySem.W.Frag} {mg : Str → Option Value} {base : Heap} {A : Ad} {f : Addr} {fd : FuncData}
end
/-! ### L1: what the laws' own helpers answer -/
theorem size7 : (7 : Nat) ≤ sizeLine := by rw [sizeLine_eq]; decide
theorem passL0 {X : Cx} : ∀ σ : L2.St, PassesAt (L2.CX X.prog X.w) X σ E0 := fun σ pins H s e s' I h => passL pins σ H s e s' I h
/-- _law_cell_at(script, i) -/
def spCell (K : PySem.W.Frag) : Sp := fun vs H Q _ => ∃ (a : Addr) (ns : List Int) (i : Nat), vs = [.ref a, .int i] ∧ SqL K H a (ns.map V.int) ∧ ns.length ≤ 63 ∧ Q (.int (cell ns i)) H
/-- _law_whole(found) -/
def spWhole (K : PySem.W.Frag) : Sp := fun vs H Q _ => ∃ (v : V) (t : String) (b : Bool), vs = [v] ∧ TyX K H v (.type t) ∧ (t = "int" ∧ b = true ∨ t = "NoneType" ∧ b = false ∨ t = "tuple" ∧ b = false ∨ t = "bool" ∧ b = false ∨ t = "list" ∧ b = false) ∧ Q (.bl b) H
/-- _law_kind(which, m) -/
def spKindL (A : Ad) : Sp := fun vs H Q _ => ∃ (k : Kd) (m : Int), vs = [.int (wh k), .int m] ∧ KOk k ∧ Av k.x = true ∧ (∀ m' : Nat, k = .rst m' → m = m') ∧ ∀ H' x, Same H H' → KindAt A H' x k → Q (.ref x) H'
/-- _law_none(which), _law_rest(which) -/
def spLaw0 (g : Kd → Wo) : Sp := fun vs H Q _ => ∃ k : Kd, vs = [.int (wh k)] ∧ ∀ H' z, Same H H' → Wv H' z (g k) → Q z H'
def spTogL : Sp := fun vs H Q _ => ∃ (k : Kd) (u v : V) (a b : Wo), vs = [.int (wh k), u, v] ∧ Wv H u a ∧ Wv H v b ∧ Good k a ∧ Good k b ∧ Fits k a b ∧ ∀ H' z, Same H H' → Wv H' z (tog k a b) → Q z H'
def spBehL : Sp := fun vs H Q _ => ∃ (k : Kd) (m : Int) (u v : V) (a b : Wo), vs = [.int (wh k), .int m, u, v] ∧ KOk k ∧ (∀ m' : Nat, k = .rst m' → m = m') ∧ Wv H u a ∧ Wv H v b ∧ Good k a ∧ Good k b ∧ Fits k a b ∧ ∀ H' z, Same H H' → Wv H' z (beh k a b) → Q z H'
def spWorthL : Sp := fun vs H Q _ => ∃ (k : Kd) (m c : Int), vs = [.int (wh k), .int m, .int c] ∧ KOk k ∧ (∀ m' : Nat, k = .rst m' → m = m') ∧ ∀ H' z, Same H H' → Wv H' z (lawW k c) → Q z H'
def spIsL : Sp := fun vs H Q _ => ∃ (u v : V) (a b : Wo), vs = [u, v] ∧ Wv H u a ∧ Wv H v b ∧ Q (.bl (decide (a = b))) H
def spRndL : Sp := fun vs H Q _ => ∃ (k : Kd) (m : Int) (u : V) (a : Wo), vs = [.int (wh k), .int m, u] ∧ KOk k ∧ (∀ m' : Nat, k = .rst m' → m = m') ∧ Wv H u a ∧ Good k a ∧ Fit1 k a ∧ ∀ H' z, Same H H' → Wv H' z ((rnd k a).getD .non) → Q z H'
theorem kd_dec {i j : Int} : decide (V.int i = V.int j) = decide (i = j) := by rw [decide_eq_decide, V.int.injEq]
/-- the type of a worth's value -/
theorem wv_ty {K : PySem.W.Frag} {H : Hp} {v : V} {a : Wo} (h : Wv H v a) : ∃ t : String, TyX K H v (.type t) ∧ (a = .non ∧ t = "NoneType" ∨ (∃ i, a = .int i) ∧ t = "int" ∨ (∃ r, a = .rat r) ∧ t = "tuple") := by
  cases a with
  | non => cases h; exact ⟨_, .base .non, .inl ⟨rfl, rfl⟩⟩
  | int i => cases h; exact ⟨_, .base (.int i), .inr (.inl ⟨⟨i, rfl⟩, rfl⟩)⟩
  | rat r => obtain ⟨t, rfl, ht⟩ := h; exact ⟨_, .base (.tup ht), .inr (.inr ⟨⟨r, rfl⟩, rfl⟩)⟩
section
variable {P : Program} {w : World} {K : PySem.W.Frag} {mg : Str → Option Value} {base : Heap} {A : Ad} {f : Addr} {fd : FuncData}
theorem fc_cell (hl : mg "len" = none) (D : Dfn K mg "_law_cell_at" s__law_cell_at ["script", "k"] f fd) : Fc CX0 P w K mg base 1 "_law_cell_at" (spCell K) := by
  refine fc0 (N := ["script", "k"]) D (fsc (by decide +kernel)) (fun vs H Q E h => ?_) (fun cdv _ outer s H vs Q E hr h => ?_)
  · obtain ⟨a, ns, i, rfl, _⟩ := h; rfl
  · obtain ⟨a, ns, i, rfl, hS, hn, q⟩ := h
    refine ⟨_, pss_cons (ps_if (pt_cmpR op_lt (pv 1) (pe_callB call_len_seq (by rfl) hl PySem.boot_len (pa_cons (pv 0) pa_nil)) (nomark _)) (pss_one (ps_ret (pe_ix ix_list (pv 0) (pv 1) (fun _ _ => rfl)))) pss_nil) (pss_one (ps_ret pe_int)), ?_⟩
    refine ⟨_, rfl, _, rfl, a, _, rfl, .inl hS, _, _, rfl, rfl, _, rfl, ?_⟩
    by_cases h : i < ns.length
    · refine ifT (decide_eq_true (by rw [List.length_map]; omega)) ⟨_, rfl, _, rfl, a, _, _, _, rfl, rfl, hS, atI_nat (j := i) (v := .int (cell ns i)) ?_, q⟩
      rw [List.getElem?_map, List.getElem?_eq_getElem h]
      simp [cell, List.getD, List.getElem?_eq_getElem h]
    · refine ifF (decide_eq_false (by rw [List.length_map]; omega)) ?_
      have e : cell ns i = 0 := by simp [cell, List.getD, List.getElem?_eq_none (Nat.le_of_not_lt h)]
      rw [e] at q; exact q
theorem kindAt_new {H : Hp} {k : Kd} {x dx : Addr} (hk : KOk k) (ha : Av k.x = true) (h : k.x ≠ .rst) : KindAt A (upd (upd H dx (.own x)) x (.ins (A.C k.x) dx [])) x k :=
  ⟨ha, hk, dx, by cases k <;> first | exact upd_same | exact absurd rfl h⟩
theorem fc_kind (T : Tx K mg A) (D : Dfn K mg "_law_kind" s__law_kind ["which", "m"] f fd) : Fc CX0 P w K mg base 3 "_law_kind" (spKindL A) := by
  have R : Nc (L2.CX P w) P w K mg base 1 "Rests" A.Rests (spRests A) := by
    obtain ⟨f, fd, D⟩ := T.m_Rests___init__
    exact nc_Rests T.c_Rests T.a_Rests_m T.x_NoWorth D
  refine fc0 (N := ["which", "m"]) D (fsc (by decide +kernel)) (fun vs H Q E h => ?_) (fun cdv _ outer s H vs Q E hr h => ?_)
  · obtain ⟨k, m, rfl, _⟩ := h; rfl
  · obtain ⟨k, m, rfl, hk, ha, hm, q⟩ := h
    refine ⟨_, pss_cons (ps_if (pt_cmpR op_eq (pv 0) pe_int (nomark _)) (pss_one (ps_ret (pe_new0 T.c_Fewest T.b_Fewest rfl))) pss_nil)
      (pss_cons (ps_if (pt_cmpR op_eq (pv 0) pe_int (nomark _)) (pss_one (ps_ret (pe_new0 T.c_Widest T.b_Widest rfl))) pss_nil)
      (pss_cons (ps_if (pt_cmpR op_eq (pv 0) pe_int (nomark _)) (pss_one (ps_ret (pe_new0 T.c_Counted T.b_Counted rfl))) pss_nil)
      (pss_cons (ps_if (pt_cmpR op_eq (pv 0) pe_int (nomark _)) (pss_one (ps_ret (pe_new0 T.c_Likeliest T.b_Likeliest rfl))) pss_nil)
      (pss_cons (ps_if (pt_cmpR op_eq (pv 0) pe_int (nomark _)) (pss_one (ps_ret (pe_new0 T.c_Chances T.b_Chances rfl))) pss_nil)
      (pss_cons (ps_if (pt_cmpR op_eq (pv 0) pe_int (nomark _)) (pss_one (ps_ret (pe_new0 T.c_Musts T.b_Musts rfl))) pss_nil)
      (pss_one (ps_ret (pe_nc R hr (by decide) passL rfl (pa_cons (pv 1) pa_nil))))))))), ?_⟩
    refine ⟨_, rfl, rfl, _, rfl, ?_⟩
    have fin : ∀ {k' : Kd}, k = k' → k'.x ≠ .rst → ∀ a dx, H a = none → H dx = none → dx ≠ a → Q (.ref a) (upd (upd H dx (.own a)) a (.ins (A.C k'.x) dx [])) :=
      fun e hne a dx ea ed _ => q _ _ (same_new ea ed) (by rw [e] at hk ha ⊢; exact kindAt_new hk ha hne)
    cases k with
    | few => exact ifT rfl (fin rfl (by decide))
    | wid => exact ifF rfl ⟨_, rfl, rfl, _, rfl, ifT rfl (fin rfl (by decide))⟩
    | cnt => exact ifF rfl ⟨_, rfl, rfl, _, rfl, ifF rfl ⟨_, rfl, rfl, _, rfl, ifT rfl (fin rfl (by decide))⟩⟩
    | lik => exact ifF rfl ⟨_, rfl, rfl, _, rfl, ifF rfl ⟨_, rfl, rfl, _, rfl, ifF rfl ⟨_, rfl, rfl, _, rfl, ifT rfl (fin rfl (by decide))⟩⟩⟩
    | cha => exact ifF rfl ⟨_, rfl, rfl, _, rfl, ifF rfl ⟨_, rfl, rfl, _, rfl, ifF rfl ⟨_, rfl, rfl, _, rfl, ifF rfl ⟨_, rfl, rfl, _, rfl, ifT rfl (fin rfl (by decide))⟩⟩⟩⟩
    | mus => exact ifF rfl ⟨_, rfl, rfl, _, rfl, ifF rfl ⟨_, rfl, rfl, _, rfl, ifF rfl ⟨_, rfl, rfl, _, rfl, ifF rfl ⟨_, rfl, rfl, _, rfl, ifF rfl ⟨_, rfl, rfl, _, rfl, ifT rfl (fin rfl (by decide))⟩⟩⟩⟩⟩
    | rst m' =>
      have em := hm m' rfl
      subst em
      have hk' : 1 ≤ m' ∧ m' ≤ 12 := hk
      refine ifF rfl ⟨_, rfl, rfl, _, rfl, ifF rfl ⟨_, rfl, rfl, _, rfl, ifF rfl ⟨_, rfl, rfl, _, rfl, ifF rfl ⟨_, rfl, rfl, _, rfl, ifF rfl ⟨_, rfl, rfl, _, rfl, ifF rfl ⟨_, rfl, ?_⟩⟩⟩⟩⟩⟩
      intro a dx ea ed ne
      refine ⟨a, dx, (m' : Int), rfl, upd_same, fun _ => ⟨rfl, ?_⟩, fun z => absurd ⟨by omega, by omega⟩ z⟩
      refine q _ _ (fun b o e => ?_) ⟨ha, hk, dx, upd_same⟩
      rw [upd_ne (ne_of_none e ea), upd_ne (ne_of_none e ea), upd_ne (ne_of_none e ed)]; exact e
theorem fc_share (D : Dfn K mg "_law_share" s__law_share ["top", "below"] f fd) : Fc CX0 P w K mg base 1 "_law_share" spLowest := by
  have sc : FnScope ["top", "below", "one", "other", "kept"] ["top", "below"] (defScope s__law_share) := fsc (by decide +kernel)
  refine fc0 D sc (fun vs H Q E h => ?_) (fun cdv _ outer s H vs Q E hr h => ?_)
  · obtain ⟨a, b, rfl, _⟩ := h; rfl
  · obtain ⟨a, b, rfl, ha, hb, hl, k⟩ := h
    refine ⟨_, pss_cons (ps_set (i := 2) sc.nd rfl (.inl rfl) (pv 0)) (pss_cons (ps_set (i := 3) sc.nd rfl (.inl rfl) (pv 1))
      (pss_cons (ps_while PassesOwn.never (pt_cmpR op_ne (pv 3) pe_int (nomark _)) (pss_cons (ps_set (i := 4) sc.nd rfl (.inl rfl) (pe_op op_mod (pv 2) (pv 3)))
        (pss_cons (ps_set (i := 2) sc.nd rfl (.inl rfl) (pv 3)) (pss_one (ps_set (i := 3) sc.nd rfl (.inl rfl) (pv 4))))))
      (pss_one (ps_ret (pe_tup (pa_cons (pe_op op_fdivW (pv 0) (pv 2)) (pa_cons (pe_op op_fdivW (pv 1) (pv 2)) pa_nil))))))), ?_⟩
    have hg := gcd_pos' a b hb
    have hle := gcd_le' a b hb
    have hw : ∀ i, L2.CDivW i (Int.gcd a b : Int) := fun i => ⟨hg, Nat.lt_of_le_of_lt (log2_mono (by omega)) hl⟩
    refine ⟨_, rfl, _, rfl, ?_⟩
    refine while_by (fun σ H' => ∃ (x y : Int) (v : Option V), σ = [some (.int a), some (.int b), some (.int x), some (.int y), v] ∧ H' = H ∧ 0 ≤ x ∧ 0 ≤ y ∧ Int.gcd x y = Int.gcd a b)
      (fun σ _ => match σ with | [_, _, _, some (.int y), _] => y.toNat | _ => 0) ⟨a, b, none, rfl, rfl, ha, by omega, rfl⟩ ?_ ?_
    · rintro σ H' ⟨x, y, v, rfl, rfl, hx, hy, hgx⟩
      refine ⟨_, rfl, rfl, _, rfl, ?_⟩
      by_cases h0 : y = 0
      · subst h0
        have e : x = (Int.gcd a b : Int) := by
          rw [Int.gcd_zero_right, ← Int.natCast_inj] at hgx
          rw [← hgx]; omega
        subst e
        refine ifF rfl ?_
        refine ⟨_, rfl, _, rfl, _, _, rfl, rfl, hw _, _, rfl, _, rfl, _, _, rfl, rfl, hw _, size2, fun p hp => ?_⟩
        have := k p hp
        rw [low_num a b hb, low_den a b hb] at this
        exact this
      · refine ifT (by simp [h0]) ⟨_, rfl, _, rfl, _, _, rfl, rfl, (by omega : 0 < y), ?_⟩
        refine ⟨_, rfl, _, rfl, ⟨y, x % y, _, rfl, rfl, hy, Int.emod_nonneg _ h0, by rw [gcd_step]; exact hgx⟩, ?_⟩
        have := Int.emod_lt_of_pos x (show 0 < y by omega)
        have := Int.emod_nonneg x h0
        show (x % y).toNat < y.toNat
        omega
    · rintro σ H' R R' hm ⟨v, e, h1, b, e2, h2⟩
      exact ⟨v, e, h1, b, e2, hm _ _ h2⟩
theorem fc_none (D : Dfn K mg "_law_none" s__law_none ["which"] f fd) : Fc CX0 P w K mg base 1 "_law_none" (spLaw0 noneW) := by
  refine fc0 (N := ["which"]) D (fsc (by decide +kernel)) (fun vs H Q E h => ?_) (fun cdv _ outer s H vs Q E hr h => ?_)
  · obtain ⟨k, rfl, _⟩ := h; rfl
  · obtain ⟨k, rfl, q⟩ := h
    refine ⟨_, pss_one (ps_ret (pe_ix ix_list (pe_lst (pa_cons pe_non (pa_cons pe_int (pa_cons pe_int (pa_cons (pe_tup (pa_cons pe_int (pa_cons pe_int pa_nil))) (pa_cons (pe_tup (pa_cons pe_int (pa_cons pe_int pa_nil))) (pa_cons pe_non (pa_cons pe_int pa_nil)))))))) (pv 0) (fun _ _ => rfl))), ?_⟩
    refine ⟨size2, fun p hp => ⟨size2, fun p2 hp2 => ⟨size7, fun l hl => ?_⟩⟩⟩
    have s1 := same_upd (o := HO.tup [.int 0, .int 1]) hp
    have s2 := same_upd (o := HO.tup [.int 0, .int 1]) hp2
    have s3 := same_upd (o := HO.lst [.non, .int 0, .int 0, .ref p, .ref p2, .non, .int 0]) hl
    have a1 := s3 _ _ (s2 _ _ (upd_same (H := H) (a := p) (o := HO.tup [.int 0, .int 1])))
    have a2 := s3 _ _ (upd_same (H := upd H p (.tup [.int 0, .int 1])) (a := p2) (o := HO.tup [.int 0, .int 1]))
    have fin := fun z hz => q _ z ((s1.trans s2).trans s3) hz
    cases k with
    | few => exact ⟨_, rfl, l, _, _, .non, rfl, rfl, SqL.of upd_same, atI_nat (j := 0) rfl, fin _ rfl⟩
    | wid => exact ⟨_, rfl, l, _, _, .int 0, rfl, rfl, SqL.of upd_same, atI_nat (j := 1) rfl, fin _ rfl⟩
    | cnt => exact ⟨_, rfl, l, _, _, .int 0, rfl, rfl, SqL.of upd_same, atI_nat (j := 2) rfl, fin _ rfl⟩
    | lik => exact ⟨_, rfl, l, _, _, .ref p, rfl, rfl, SqL.of upd_same, atI_nat (j := 3) rfl, fin _ ⟨p, rfl, a1⟩⟩
    | cha => exact ⟨_, rfl, l, _, _, .ref p2, rfl, rfl, SqL.of upd_same, atI_nat (j := 4) rfl, fin _ ⟨p2, rfl, a2⟩⟩
    | mus => exact ⟨_, rfl, l, _, _, .non, rfl, rfl, SqL.of upd_same, atI_nat (j := 5) rfl, fin _ rfl⟩
    | rst m => exact ⟨_, rfl, l, _, _, .int 0, rfl, rfl, SqL.of upd_same, atI_nat (j := 6) rfl, fin _ rfl⟩
theorem fc_rest (D : Dfn K mg "_law_rest" s__law_rest ["which"] f fd) : Fc CX0 P w K mg base 1 "_law_rest" (spLaw0 restW) := by
  refine fc0 (N := ["which"]) D (fsc (by decide +kernel)) (fun vs H Q E h => ?_) (fun cdv _ outer s H vs Q E hr h => ?_)
  · obtain ⟨k, rfl, _⟩ := h; rfl
  · obtain ⟨k, rfl, q⟩ := h
    refine ⟨_, pss_one (ps_ret (pe_ix ix_list (pe_lst (pa_cons pe_int (pa_cons (pe_op op_pow pe_int pe_int) (pa_cons pe_int (pa_cons (pe_tup (pa_cons pe_int (pa_cons pe_int pa_nil))) (pa_cons (pe_tup (pa_cons pe_int (pa_cons pe_int pa_nil))) (pa_cons pe_int (pa_cons pe_int pa_nil)))))))) (pv 0) (fun _ _ => rfl))), ?_⟩
    refine ⟨_, _, rfl, rfl, ⟨by decide, by decide, by decide⟩, size2, fun p hp => ⟨size2, fun p2 hp2 => ⟨size7, fun l hl => ?_⟩⟩⟩
    have s1 := same_upd (o := HO.tup [.int 1, .int 1]) hp
    have s2 := same_upd (o := HO.tup [.int 1, .int 1]) hp2
    have s3 := same_upd (o := HO.lst [.int 0, .int 1000000000, .int 1, .ref p, .ref p2, .int 0, .int 1]) hl
    have a1 := s3 _ _ (s2 _ _ (upd_same (H := H) (a := p) (o := HO.tup [.int 1, .int 1])))
    have a2 := s3 _ _ (upd_same (H := upd H p (.tup [.int 1, .int 1])) (a := p2) (o := HO.tup [.int 1, .int 1]))
    have fin := fun z hz => q _ z ((s1.trans s2).trans s3) hz
    cases k with
    | few => exact ⟨_, rfl, l, _, _, .int 0, rfl, rfl, SqL.of upd_same, atI_nat (j := 0) rfl, fin _ rfl⟩
    | wid => exact ⟨_, rfl, l, _, _, .int 1000000000, rfl, rfl, SqL.of upd_same, atI_nat (j := 1) rfl, fin _ rfl⟩
    | cnt => exact ⟨_, rfl, l, _, _, .int 1, rfl, rfl, SqL.of upd_same, atI_nat (j := 2) rfl, fin _ rfl⟩
    | lik => exact ⟨_, rfl, l, _, _, .ref p, rfl, rfl, SqL.of upd_same, atI_nat (j := 3) rfl, fin _ ⟨p, rfl, a1⟩⟩
    | cha => exact ⟨_, rfl, l, _, _, .ref p2, rfl, rfl, SqL.of upd_same, atI_nat (j := 4) rfl, fin _ ⟨p2, rfl, a2⟩⟩
    | mus => exact ⟨_, rfl, l, _, _, .int 0, rfl, rfl, SqL.of upd_same, atI_nat (j := 5) rfl, fin _ rfl⟩
    | rst m => exact ⟨_, rfl, l, _, _, .int 1, rfl, rfl, SqL.of upd_same, atI_nat (j := 6) rfl, fin _ rfl⟩
end
/-! ### L2: the laws' own together, behind, worth, is, rounds -/
section
variable {X : Cx}
/-- a name == a written number -/
theorem ptE (i : Nat) {x : Str} {p q pos : Pos} {n : Int} {j : Nat} (hN : X.N[i]? = some x := by rfl) (hv : Vis X.env.scope x := by first | exact Or.inl rfl | exact Or.inr (Or.inl rfl)) (hd : (x == ("__debug__" : Str)) = false := by decide)
    (hc : (x == ("__classdict__" : Str)) = false := by decide) : PT X (.Compare (.Name x p) [.Eq] [.Constant (.int n) j q] pos) (tTest (tOp rEq (tVar i) (tC (.int n)))) := pt_cmpR op_eq (pe_var hN hv hd hc) pe_int (nomark _)
/-- a name is None -/
theorem ptN (i : Nat) {x : Str} {p q pos : Pos} {j : Nat} (hN : X.N[i]? = some x := by rfl) (hv : Vis X.env.scope x := by first | exact Or.inl rfl | exact Or.inr (Or.inl rfl)) (hd : (x == ("__debug__" : Str)) = false := by decide)
    (hc : (x == ("__classdict__" : Str)) = false := by decide) : PT X (.Compare (.Name x p) [.Is] [.Constant .none j q] pos) (tTest (tOp (fun x y H Q => y = .non ∧ Q (.bl (decide (x = .non))) H) (tVar i) (tC .non))) := pt_cmpR op_isN (pe_var hN hv hd hc) pe_non (nomark _)
end
theorem skE {σ : L2.St} {H : Hp} {D : Ends} {t rest : TS} {i : Nat} {m n : Int} (hi : σ[i]? = some (some (.int m))) (hne : decide (V.int m = V.int n) = false) (q : rest D σ H) : tSeq (tIfS (tTest (tOp rEq (tVar i) (tC (.int n)))) t tNext) rest D σ H :=
  ⟨_, hi, rfl, _, rfl, ifF hne q⟩
theorem hitE {σ : L2.St} {H : Hp} {D : Ends} {t rest : TS} {i : Nat} {m n : Int} (hi : σ[i]? = some (some (.int m))) (he : decide (V.int m = V.int n) = true) (q : t { D with nx := rest D } σ H) : tSeq (tIfS (tTest (tOp rEq (tVar i) (tC (.int n)))) t tNext) rest D σ H :=
  ⟨_, hi, rfl, _, rfl, ifT he q⟩
/-- turned about -/
theorem rot_bits {m b i : Nat} (hb : b < 2 ^ m) (hi : i < m) (r : Nat) : ((b * 2 ^ i % 2 ^ m) ||| (b * 2 ^ i / 2 ^ m)).testBit r = true ↔ r < m ∧ ∃ j, j < m ∧ b.testBit j = true ∧ (i + j) % m = r := by
  rw [Nat.testBit_or, Nat.testBit_mod_two_pow, Nat.testBit_div_two_pow, Nat.mul_comm b, Nat.testBit_two_pow_mul, Nat.testBit_two_pow_mul]
  simp only [Bool.or_eq_true, Bool.and_eq_true, decide_eq_true_eq]
  constructor
  · rintro (⟨h1, h2, h3⟩ | ⟨h2, h3⟩)
    · refine ⟨h1, r - i, by omega, h3, ?_⟩
      rw [show i + (r - i) = r by omega, Nat.mod_eq_of_lt h1]
    · have hj : r + m - i < m := by
        refine Classical.byContradiction fun z => ?_
        rw [testBit_above hb (by omega)] at h3
        cases h3
      refine ⟨by omega, r + m - i, hj, h3, ?_⟩
      rw [show i + (r + m - i) = r + m by omega, Nat.add_mod_right, Nat.mod_eq_of_lt (by omega)]
  · rintro ⟨h1, j, hj, h2, h3⟩
    by_cases h : i + j < m
    · rw [Nat.mod_eq_of_lt h] at h3
      exact .inl ⟨h1, by omega, by rw [show r - i = j by omega]; exact h2⟩
    · have e : (i + j) % m = i + j - m := by
        rw [Nat.mod_eq_sub_mod (by omega), Nat.mod_eq_of_lt (by omega)]
      exact .inr ⟨by omega, by rw [show r + m - i = j by omega]; exact h2⟩
section
variable {P : Program} {w : World} {K : PySem.W.Frag} {mg : Str → Option Value} {base : Heap} {A : Ad} {f : Addr} {fd : FuncData}
theorem fc_togL (hmin : mg "min" = none) (hmax : mg "max" = none) (L : Fc CX0 P w K mg base 1 "_law_share" spLowest) (D : Dfn K mg "_law_tog" s__law_tog ["which", "one", "other"] f fd) : Fc CX0 P w K mg base 2 "_law_tog" spTogL := by
  refine fc0 (N := ["which", "one", "other"]) D (fsc (by decide +kernel)) (fun vs H Q E h => ?_) (fun cdv _ outer s H vs Q E hr h => ?_)
  · obtain ⟨k, u, v, a, b, rfl, _⟩ := h; rfl
  · obtain ⟨k, u, v, a, b, rfl, ha, hb, ga, gb, hf, q⟩ := h
    refine ⟨_, pss_cons (ps_if (PW.pt (pw_or (ptE 0) (pw_or1 (ptE 0))))
        (pss_cons (ps_if (PW.pt (pw_or (ptN 1) (pw_or1 (ptN 2)))) (pss_one (ps_ret (pe_ifExp (ptN 1) (pv 2) (pv 1)))) pss_nil)
          (pss_one (ps_ret (pe_ifExp (ptE 0) (pe_callB (call_min2 rfl) (by rfl) hmin (by decide +kernel) (pa_cons (pv 1) (pa_cons (pv 2) pa_nil))) (pe_op op_and (pv 1) (pv 2)))))) pss_nil)
      (pss_cons (ps_if (ptE 0) (pss_one (ps_ret (pe_callB (call_max2 rfl) (by rfl) hmax (by decide +kernel) (pa_cons (pv 1) (pa_cons (pv 2) pa_nil))))) pss_nil)
      (pss_cons (ps_if (ptE 0) (pss_one (ps_ret (pe_ifExp (pt_cmpR op_lt (pe_callB (call_min2 rfl) (by rfl) hmin (by decide +kernel) (pa_cons (pv 1) (pa_cons (pv 2) pa_nil))) pe_int (nomark _)) (pe_un un_neg pe_int) (pe_op op_add (pv 1) (pv 2))))) pss_nil)
      (pss_cons (ps_if (ptE 0) (pss_one (ps_ret (pe_ifExp (pt_cmpR op_ge (pe_op op_mulW (pe_ix ix_tup (pv 1) pe_int (fun _ _ => rfl)) (pe_ix ix_tup (pv 2) pe_int (fun _ _ => rfl))) (pe_op op_mulW (pe_ix ix_tup (pv 2) pe_int (fun _ _ => rfl)) (pe_ix ix_tup (pv 1) pe_int (fun _ _ => rfl))) (nomark _)) (pv 1) (pv 2)))) pss_nil)
      (pss_cons (ps_if (ptE 0) (pss_one (ps_ret (pe_f L hr (by decide) pass0 rfl (pa_cons (pe_op op_add (pe_op op_mulW (pe_ix ix_tup (pv 1) pe_int (fun _ _ => rfl)) (pe_ix ix_tup (pv 2) pe_int (fun _ _ => rfl))) (pe_op op_mulW (pe_ix ix_tup (pv 2) pe_int (fun _ _ => rfl)) (pe_ix ix_tup (pv 1) pe_int (fun _ _ => rfl))))
        (pa_cons (pe_op op_mulW (pe_ix ix_tup (pv 1) pe_int (fun _ _ => rfl)) (pe_ix ix_tup (pv 2) pe_int (fun _ _ => rfl))) pa_nil))))) pss_nil)
      (pss_one (ps_ret (pe_op op_or (pv 1) (pv 2)))))))), ?_⟩
    cases k with
    | few =>
      refine ⟨_, rfl, rfl, _, rfl, ifT rfl (ifT rfl ⟨_, rfl, rfl, _, rfl, ?_⟩)⟩
      cases a with
      | non => cases ha; exact ifT rfl (ifT rfl ⟨_, rfl, rfl, _, rfl, ifT rfl ⟨_, rfl, q _ _ (Same.refl _) (by cases b <;> exact hb)⟩⟩)
      | rat r => exact ga.elim
      | int i =>
        cases ha
        refine ifF rfl ⟨_, rfl, rfl, _, rfl, ?_⟩
        cases b with
        | non => cases hb; exact ifT rfl ⟨_, rfl, rfl, _, rfl, ifF rfl ⟨_, rfl, q _ _ (Same.refl _) rfl⟩⟩
        | rat r => exact gb.elim
        | int j => cases hb; exact ifF rfl ⟨_, rfl, rfl, _, rfl, ifT rfl ⟨_, rfl, _, rfl, _, _, rfl, q _ _ (Same.refl _) rfl⟩⟩
    | mus =>
      refine ⟨_, rfl, rfl, _, rfl, ifF rfl ⟨_, rfl, rfl, _, rfl, ifT rfl ⟨_, rfl, rfl, _, rfl, ?_⟩⟩⟩
      cases a with
      | non => cases ha; exact ifT rfl (ifT rfl ⟨_, rfl, rfl, _, rfl, ifT rfl ⟨_, rfl, q _ _ (Same.refl _) (by cases b <;> exact hb)⟩⟩)
      | rat r => exact ga.elim
      | int i =>
        cases ha
        refine ifF rfl ⟨_, rfl, rfl, _, rfl, ?_⟩
        cases b with
        | non => cases hb; exact ifT rfl ⟨_, rfl, rfl, _, rfl, ifF rfl ⟨_, rfl, q _ _ (Same.refl _) rfl⟩⟩
        | rat r => exact gb.elim
        | int j =>
          cases hb
          obtain ⟨n, rfl⟩ := nn i ga
          obtain ⟨m, rfl⟩ := nn j gb
          refine ifF rfl ⟨_, rfl, rfl, _, rfl, ifF rfl ⟨_, rfl, _, rfl, _, _, rfl, rfl, q _ _ (Same.refl _) ?_⟩⟩
          show Wv H (V.int (Builtin.bitAnd (n : Int) (m : Int))) _
          rw [band]; rfl
    | wid =>
      refine ⟨_, rfl, rfl, _, rfl, ifF rfl ⟨_, rfl, rfl, _, rfl, ifF rfl (hitE rfl rfl ?_)⟩⟩
      cases a <;> first | exact ga.elim | skip
      cases b <;> first | exact gb.elim | skip
      cases ha; cases hb
      exact ⟨_, rfl, _, rfl, _, _, rfl, q _ _ (Same.refl _) rfl⟩
    | cnt =>
      refine ⟨_, rfl, rfl, _, rfl, ifF rfl ⟨_, rfl, rfl, _, rfl, ifF rfl (skE rfl rfl (hitE rfl rfl ?_))⟩⟩
      cases a <;> first | exact ga.elim | skip
      cases b <;> first | exact gb.elim | skip
      cases ha; cases hb
      rename_i i j
      have ga' : -1 ≤ i := ga
      have gb' : -1 ≤ j := gb
      refine ⟨_, rfl, _, rfl, _, _, rfl, _, _, rfl, rfl, _, rfl, ?_⟩
      by_cases h : i = -1 ∨ j = -1
      · refine ifT (decide_eq_true (by split <;> omega)) ⟨_, rfl, q _ _ (Same.refl _) ?_⟩
        simp only [tog, if_pos h]; rfl
      · refine ifF (decide_eq_false (by split <;> omega)) ⟨_, rfl, _, rfl, _, _, rfl, rfl, q _ _ (Same.refl _) ?_⟩
        simp only [tog, if_neg h]; rfl
    | lik =>
      refine ⟨_, rfl, rfl, _, rfl, ifF rfl ⟨_, rfl, rfl, _, rfl, ifF rfl (skE rfl rfl (skE rfl rfl (hitE rfl rfl ?_)))⟩⟩
      cases a <;> first | exact ga.elim | skip
      cases b <;> first | exact gb.elim | skip
      rename_i r t
      obtain ⟨pa, rfl, hpa⟩ := ha
      obtain ⟨pb, rfl, hpb⟩ := hb
      have p0 := sz_pos (.rat r)
      have p1 := sz_pos (.rat t)
      have hf' : sz (.rat r) + sz (.rat t) ≤ 8000 := hf
      refine ⟨_, rfl, pa, _, _, _, rfl, rfl, SqT.of hpa, at0, _, rfl, pb, _, _, _, rfl, rfl, SqT.of hpb, at1, _, _, rfl, rfl, mul_fit (lt_sz_num r) (lt_sz_den t) p0 p1 hf' (by decide), ?_⟩
      refine ⟨_, rfl, pb, _, _, _, rfl, rfl, SqT.of hpb, at0, _, rfl, pa, _, _, _, rfl, rfl, SqT.of hpa, at1, _, _, rfl, rfl, mul_fit (lt_sz_num t) (lt_sz_den r) p1 p0 (by omega) (by decide : 8000 ≤ _), _, _, rfl, rfl, _, rfl, ?_⟩
      by_cases h : r < t
      · have h2 := (Rat.lt_iff r t).1 h
        exact ifF (decide_eq_false (by omega)) ⟨_, rfl, q _ _ (Same.refl _) (by simp only [tog, h, if_true]; exact ⟨pb, rfl, hpb⟩)⟩
      · have h2 : ¬ r.num * t.den < t.num * r.den := fun z => h ((Rat.lt_iff r t).2 z)
        exact ifT (decide_eq_true (by omega)) ⟨_, rfl, q _ _ (Same.refl _) (by simp only [tog, h, if_false]; exact ⟨pa, rfl, hpa⟩)⟩
    | cha =>
      refine ⟨_, rfl, rfl, _, rfl, ifF rfl ⟨_, rfl, rfl, _, rfl, ifF rfl (skE rfl rfl (skE rfl rfl (skE rfl rfl (hitE rfl rfl ?_))))⟩⟩
      cases a <;> first | exact ga.elim | skip
      cases b <;> first | exact gb.elim | skip
      rename_i r t
      obtain ⟨pa, rfl, hpa⟩ := ha
      obtain ⟨pb, rfl, hpb⟩ := hb
      have p0 := sz_pos (.rat r)
      have p1 := sz_pos (.rat t)
      have hf' : sz (.rat r) + sz (.rat t) ≤ 8000 := hf
      have n0 := Rat.num_nonneg.2 ga
      have n1 := Rat.num_nonneg.2 gb
      have d0 := den_pos r
      have d1 := den_pos t
      refine ⟨_, rfl, pa, _, _, _, rfl, rfl, SqT.of hpa, at0, _, rfl, pb, _, _, _, rfl, rfl, SqT.of hpb, at1, _, _, rfl, rfl, mul_fit (lt_sz_num r) (lt_sz_den t) p0 p1 hf' (by decide), ?_⟩
      refine ⟨_, rfl, pb, _, _, _, rfl, rfl, SqT.of hpb, at0, _, rfl, pa, _, _, _, rfl, rfl, SqT.of hpa, at1, _, _, rfl, rfl, mul_fit (lt_sz_num t) (lt_sz_den r) p1 p0 (by omega) (by decide : 8000 ≤ _), _, _, rfl, rfl, ?_⟩
      refine ⟨_, rfl, pa, _, _, _, rfl, rfl, SqT.of hpa, at1, _, rfl, pb, _, _, _, rfl, rfl, SqT.of hpb, at1, _, _, rfl, rfl, mul_fit (lt_sz_den r) (lt_sz_den t) p0 p1 hf' (by decide), ?_⟩
      refine ⟨_, _, rfl, Int.add_nonneg (Int.mul_nonneg n0 (by omega)) (Int.mul_nonneg n1 (by omega)), Int.mul_pos d0 d1, den_fit hf' (by decide), fun p hp => ?_⟩
      rw [rat_add]
      exact q _ _ (same_upd hp) (wv_tup rfl rfl)
    | rst m =>
      refine ⟨_, rfl, rfl, _, rfl, ifF rfl ⟨_, rfl, rfl, _, rfl, ifF rfl (skE rfl rfl (skE rfl rfl (skE rfl rfl (skE rfl rfl ?_))))⟩⟩
      cases a <;> first | exact ga.elim | skip
      cases b <;> first | exact gb.elim | skip
      cases ha; cases hb
      rename_i i j
      obtain ⟨n, rfl⟩ := nn i ga.1
      obtain ⟨l, rfl⟩ := nn j gb.1
      exact ⟨_, rfl, _, rfl, _, _, rfl, rfl, q _ _ (Same.refl _) (by show Wv H (V.int (Builtin.bitOr (n : Int) (l : Int))) _; rw [bor]; rfl)⟩
theorem fc_worthL (L : Fc CX0 P w K mg base 1 "_law_share" spLowest) (N0 : Fc CX0 P w K mg base 1 "_law_none" (spLaw0 noneW)) (R0 : Fc CX0 P w K mg base 1 "_law_rest" (spLaw0 restW)) (D : Dfn K mg "_law_worth" s__law_worth ["which", "m", "cell"] f fd) : Fc CX0 P w K mg base 2 "_law_worth" spWorthL := by
  have sc : FnScope ["which", "m", "cell", "left", "below"] ["which", "m", "cell"] (defScope s__law_worth) := fsc (by decide +kernel)
  refine fc0 D sc (fun vs H Q E h => ?_) (fun cdv _ outer s H vs Q E hr h => ?_)
  · obtain ⟨k, m, c, rfl, _⟩ := h; rfl
  · obtain ⟨k, mi, c, rfl, hk, hm, q⟩ := h
    refine ⟨_, pss_cons (ps_set (i := 3) sc.nd rfl (.inl rfl) (pe_op op_fdiv (pv 2) pe_int))
      (pss_cons (ps_if (pt_cmpR op_eq (pe_op op_mod (pv 2) pe_int) pe_int (nomark _)) (pss_one (ps_ret (pe_f N0 hr (by decide) pass0 rfl (pa_cons (pv 0) pa_nil)))) pss_nil)
      (pss_cons (ps_if (pt_cmpR op_eq (pe_op op_mod (pv 2) pe_int) pe_int (nomark _)) (pss_one (ps_ret (pe_f R0 hr (by decide) pass0 rfl (pa_cons (pv 0) pa_nil)))) pss_nil)
      (pss_cons (ps_if (ptE 0) (pss_one (ps_ret (pe_ifExp (pt_cmpR op_lt (pe_op op_mod (pv 2) pe_int) pe_int (nomark _)) (pe_op op_mod (pv 3) pe_int) (pe_op op_mod (pv 3) (pe_op op_pow pe_int pe_int))))) pss_nil)
      (pss_cons (ps_if (ptE 0) (pss_one (ps_ret (pe_ifExp (pt_cmpR op_lt (pe_op op_mod (pv 2) pe_int) pe_int (nomark _)) (pe_op op_mod (pv 3) pe_int) (pe_op op_mod (pv 3) (pe_op op_add (pe_op op_pow pe_int pe_int) pe_int))))) pss_nil)
      (pss_cons (ps_if (ptE 0) (pss_one (ps_ret (pe_ifExp (pt_cmpR op_lt (pe_op op_mod (pv 2) pe_int) pe_int (nomark _)) (pe_op op_sub (pe_op op_mod (pv 3) pe_int) pe_int) (pe_op op_mod (pv 3) (pe_op op_pow pe_int pe_int))))) pss_nil)
      (pss_cons (ps_if (ptE 0) (pss_cons (ps_set (i := 4) sc.nd rfl (.inl rfl) (pe_op op_add pe_int (pe_op op_mod (pe_op op_fdiv (pv 3) pe_int) pe_int)))
          (pss_one (ps_ret (pe_f L hr (by decide) pass0 rfl (pa_cons (pe_op op_mod (pv 3) (pe_op op_add (pv 4) pe_int)) (pa_cons (pv 4) pa_nil)))))) pss_nil)
      (pss_cons (ps_if (ptE 0) (pss_one (ps_ret (pe_f L hr (by decide) pass0 rfl (pa_cons (pe_op op_mod (pv 3) pe_int) (pa_cons (pe_op op_add pe_int (pe_op op_mod (pe_op op_fdiv (pv 3) pe_int) pe_int)) pa_nil))))) pss_nil)
      (pss_cons (ps_if (ptE 0) (pss_one (ps_ret (pe_ifExp (pt_cmpR op_lt (pe_op op_mod (pv 2) pe_int) pe_int (nomark _)) (pe_op op_mod (pv 3) pe_int) (pe_op op_mod (pv 3) (pe_op op_pow pe_int pe_int))))) pss_nil)
      (pss_one (ps_ret (pe_op op_mod (pv 3) (pe_op op_shl pe_int (pv 1))))))))))))), ?_⟩
    refine ⟨_, rfl, _, _, rfl, rfl, ⟨by decide, by decide⟩, ?_⟩
    refine ⟨_, rfl, _, _, rfl, rfl, (by show (0 : Int) < 6; decide), rfl, _, rfl, ?_⟩
    by_cases h1 : c % 6 = 1
    · refine ifT (decide_eq_true (congrArg V.int h1)) ⟨_, rfl, k, rfl, fun H' z s hz => q _ _ s ?_⟩
      simp only [lawW, if_pos h1]; exact hz
    refine ifF (decide_eq_false fun z => h1 (V.int.inj z)) ⟨_, rfl, _, _, rfl, rfl, (by show (0 : Int) < 6; decide), rfl, _, rfl, ?_⟩
    by_cases h2 : c % 6 = 2
    · refine ifT (decide_eq_true (congrArg V.int h2)) ⟨_, rfl, k, rfl, fun H' z s hz => q _ _ s ?_⟩
      simp only [lawW, if_neg h1, if_pos h2]; exact hz
    refine ifF (decide_eq_false fun z => h2 (V.int.inj z)) ?_
    have e0 : lawW k c = lawW2 k c := by unfold lawW; rw [if_neg h1, if_neg h2]
    rw [e0] at q
    have iq : ∀ i : Int, lawW2 k c = .int i → Q (.int i) H := fun i e => q _ _ (Same.refl _) (by rw [e]; rfl)
    have m5 : (0 : Int) < 6 := by decide
    cases k with
    | few =>
      refine hitE rfl rfl ⟨_, rfl, _, _, rfl, rfl, m5, _, _, rfl, rfl, _, rfl, ?_⟩
      by_cases h : c % 6 < 5
      · exact ifT (decide_eq_true h) ⟨_, rfl, _, _, rfl, rfl, (by show (0 : Int) < 20; decide), iq _ (by simp only [lawW2, if_pos h])⟩
      · exact ifF (decide_eq_false h) ⟨_, rfl, _, _, rfl, rfl, ⟨by decide, by decide, by decide⟩, _, _, rfl, rfl, (by show (0 : Int) < 10 ^ 30; decide), iq _ (by simp only [lawW2, if_neg h]; rfl)⟩
    | wid =>
      refine skE rfl rfl (hitE rfl rfl ⟨_, rfl, _, _, rfl, rfl, m5, _, _, rfl, rfl, _, rfl, ?_⟩)
      by_cases h : c % 6 < 5
      · exact ifT (decide_eq_true h) ⟨_, rfl, _, _, rfl, rfl, (by show (0 : Int) < 20; decide), iq _ (by simp only [lawW2, if_pos h])⟩
      · exact ifF (decide_eq_false h) ⟨_, rfl, _, _, rfl, rfl, ⟨by decide, by decide, by decide⟩, _, _, rfl, rfl, _, _, rfl, rfl, (by show (0 : Int) < 10 ^ 9 + 1; decide), iq _ (by simp only [lawW2, if_neg h]; rfl)⟩
    | cnt =>
      refine skE rfl rfl (skE rfl rfl (hitE rfl rfl ⟨_, rfl, _, _, rfl, rfl, m5, _, _, rfl, rfl, _, rfl, ?_⟩))
      by_cases h : c % 6 < 5
      · exact ifT (decide_eq_true h) ⟨_, rfl, _, _, rfl, rfl, (by show (0 : Int) < 5; decide), _, _, rfl, rfl, iq _ (by simp only [lawW2, if_pos h])⟩
      · exact ifF (decide_eq_false h) ⟨_, rfl, _, _, rfl, rfl, ⟨by decide, by decide, by decide⟩, _, _, rfl, rfl, (by show (0 : Int) < 10 ^ 30; decide), iq _ (by simp only [lawW2, if_neg h]; rfl)⟩
    | lik =>
      have hb0 : 0 ≤ c / 6 / 7 % 12 := Int.emod_nonneg _ (by decide)
      have hb1 : c / 6 / 7 % 12 < 12 := Int.emod_lt_of_pos _ (by decide)
      refine skE rfl rfl (skE rfl rfl (skE rfl rfl (hitE rfl rfl ⟨_, rfl, _, _, rfl, rfl, ⟨by decide, by decide⟩, _, _, rfl, rfl, (by show (0 : Int) < 12; decide), _, _, rfl, rfl, ?_⟩)))
      refine ⟨_, rfl, _, rfl, _, _, rfl, rfl, _, _, rfl, rfl, (by omega : (0 : Int) < 1 + c / 6 / 7 % 12 + 1), _, rfl, _, _, rfl, Int.emod_nonneg _ (by omega), by omega, ?_, fun p hp => q _ _ (same_upd hp) (wv_tup rfl rfl)⟩
      exact Nat.lt_of_le_of_lt (log2_mono (show (1 + c / 6 / 7 % 12).natAbs ≤ 12 by omega)) (by decide)
    | cha =>
      have hb0 : 0 ≤ c / 6 / 9 % 12 := Int.emod_nonneg _ (by decide)
      have hb1 : c / 6 / 9 % 12 < 12 := Int.emod_lt_of_pos _ (by decide)
      refine skE rfl rfl (skE rfl rfl (skE rfl rfl (skE rfl rfl (hitE rfl rfl ⟨_, rfl, _, _, rfl, rfl, (by show (0 : Int) < 9; decide), _, rfl, _, _, rfl, rfl, ⟨by decide, by decide⟩, _, _, rfl, rfl, (by show (0 : Int) < 12; decide), _, _, rfl, rfl, ?_⟩))))
      refine ⟨_, _, rfl, Int.emod_nonneg _ (by decide), by omega, ?_, fun p hp => q _ _ (same_upd hp) (wv_tup rfl rfl)⟩
      exact Nat.lt_of_le_of_lt (log2_mono (show (1 + c / 6 / 9 % 12).natAbs ≤ 12 by omega)) (by decide)
    | mus =>
      refine skE rfl rfl (skE rfl rfl (skE rfl rfl (skE rfl rfl (skE rfl rfl (hitE rfl rfl ⟨_, rfl, _, _, rfl, rfl, m5, _, _, rfl, rfl, _, rfl, ?_⟩)))))
      by_cases h : c % 6 < 5
      · exact ifT (decide_eq_true h) ⟨_, rfl, _, _, rfl, rfl, (by show (0 : Int) < 16; decide), iq _ (by simp only [lawW2, if_pos h])⟩
      · exact ifF (decide_eq_false h) ⟨_, rfl, _, _, rfl, rfl, ⟨by decide, by decide, by decide⟩, _, _, rfl, rfl, (by show (0 : Int) < 10 ^ 30; decide), iq _ (by simp only [lawW2, if_neg h]; rfl)⟩
    | rst m =>
      have em := hm m rfl
      subst em
      have hk' : 1 ≤ m ∧ m ≤ 12 := hk
      refine skE rfl rfl (skE rfl rfl (skE rfl rfl (skE rfl rfl (skE rfl rfl (skE rfl rfl ⟨_, rfl, _, rfl, _, _, rfl, rfl, ⟨by omega, by omega, by decide⟩, _, _, rfl, rfl, ?_, iq _ ?_⟩)))))
      · rw [Int.toNat_natCast, Int.one_mul]; exact Int.pow_pos (by decide)
      · rw [Int.toNat_natCast, Int.one_mul]; rfl
end
/-! ### L3: isinstance of a caught exception; the families for the laws' helpers -/
section
variable {X : Cx} {a : Addr} {oe : Obj} {pn : List (Addr × Obj)} {cls : Value} {d : Option Addr}
theorem call_isX (hz : Zc cls d oe) (hf : ∃ vs, oe.data = .fields vs) : CallR (X.suite a ((a, oe) :: pn)) (.builtin "isinstance") (fun xs H Q => ∃ D, cls = .ref D ∧ d = none ∧ ExcC X.K D ∧ rIsE X.K D a xs H Q) := by
  intro pins s σ H xs us Q I r h
  obtain ⟨D, rfl, rfl, hc, q⟩ := h
  exact call_isE hc hz hf pins s σ H xs us Q I r q
end
theorem cv_ref {C : Addr} : ∀ u, RelV (.ref C) u → u = .ref C := fun _ h => h
theorem cv_ty {n : String} : ∀ u, RelV (.ty n) u → u = .type n := fun _ h => h
/-! ### L4: the laws' drawn nets -/
/-- _law_thinned(many, roads) -/
def spThin : Sp := fun vs H Q _ => ∃ (many : Int) (la : Addr) (ys : List V) (rs : List Rw), vs = [.int many, .ref la] ∧ H la = some (.lst ys) ∧ Al (RwAt H) ys rs ∧ (∀ r ∈ rs, Good .cha r.w ∧ sz r.w ≤ 100) ∧ rs.length ≤ 40 ∧
  ∀ H' l zs, Same H H' → H l = none → H' l = some (.lst zs) → Al (RwAt H') zs (thin rs) → Q (.ref l) H'
/-- _law_net(script, at, which, m, most, extra) -/
def spNetL (K : PySem.W.Frag) : Sp := fun vs H Q _ => ∃ (a : Addr) (ns : List Int) (o : Nat) (k : Kd) (m : Int) (most extra : Nat), vs = [.ref a, .int o, .int (wh k), .int m, .int most, .int extra] ∧ SqL K H a (ns.map V.int) ∧ ns.length ≤ 63 ∧ KOk k ∧ (∀ m' : Nat, k = .rst m' → m = m') ∧
  1 ≤ most ∧ most ≤ 8 ∧ extra ≤ 40 ∧ ∀ H' p l ys, Same H H' → H l = none → H' p = some (.tup [.int (drawN ns o most), .ref l]) → H' l = some (.lst ys) → Al (RwAt H') ys (drawL ns o k most extra) → Q (.ref p) H'
theorem rat_quot {r s : Rat} (h : 0 < s) : Rat.divInt (r.num * s.den) (r.den * s.num) = r / s := by
  have hs : 0 < s.num := by
    rw [Rat.lt_iff] at h
    have h : (0 : Int) * s.den < s.num * 1 := h
    omega
  rw [Rat.div_def, Rat.inv_def, ← Rat.divInt_mul_divInt]
  · rw [Rat.num_divInt_den]
  all_goals first | omega | exact Int.ne_of_gt hs | (have := den_pos r; omega)
theorem size3' : (3 : Nat) ≤ sizeLine := by rw [sizeLine_eq]; decide
section
variable {P : Program} {w : World} {K : PySem.W.Frag} {mg : Str → Option Value} {base : Heap} {A : Ad} {f : Addr} {fd : FuncData}
theorem fc_thin (TG : Fc CX0 P w K mg base 2 "_law_tog" spTogL) (SH : Fc CX0 P w K mg base 1 "_law_share" spLowest) (D : Dfn K mg "_law_thinned" s__law_thinned ["many", "roads"] f fd) : Fc CX0 P w K mg base 3 "_law_thinned" spThin := by
  have sc : FnScope ["many", "roads", "found", "road", "whole", "other", "worth"] ["many", "roads"] (defScope s__law_thinned) := fsc (by decide +kernel)
  refine fc0 D sc (fun vs H Q E h => ?_) (fun cdv _ outer s H vs Q E hr h => ?_)
  · obtain ⟨many, la, ys, rs, rfl, _⟩ := h; rfl
  · obtain ⟨many, la, ys, rs, rfl, hS, hR, hg, hlen, q⟩ := h
    refine ⟨_, (pss_cons (ps_set (i := 2) sc.nd rfl (.inl rfl) (pe_lst pa_nil)) (pss_cons (ps_for PassesOwn.never rfl (pi_list (pv 1)) (pg_name (i := 3) sc.nd rfl (.inl rfl)) (pss_cons (ps_set (i := 4) sc.nd rfl (.inl rfl) (pe_tup (pa_cons pe_int (pa_cons pe_int pa_nil)))) (pss_cons (ps_for PassesOwn.never rfl (pi_list (pv 1)) (pg_name (i := 5) sc.nd rfl (.inl rfl)) (pss_one (ps_if (pt_cmpR op_eq (pe_ix ix_tup (pv 5) pe_int (fun _ _ => rfl)) (pe_ix ix_tup (pv 3) pe_int (fun _ _ => rfl)) (nomark _)) (pss_one (ps_set (i := 4) sc.nd rfl (.inl rfl) (pe_f TG hr (by decide) pass0 rfl (pa_cons pe_int (pa_cons (pv 4) (pa_cons (pe_ix ix_tup (pv 5) pe_int (fun _ _ => rfl)) pa_nil)))))) pss_nil))) (pss_cons (ps_set (i := 6) sc.nd rfl (.inl rfl) (pe_ix ix_tup (pv 3) pe_int (fun _ _ => rfl))) (pss_cons (ps_if (pt_cmpR op_gt (pe_ix ix_tup (pv 4) pe_int (fun _ _ => rfl)) (pe_ix ix_tup (pv 4) pe_int (fun _ _ => rfl)) (nomark _)) (pss_one (ps_set (i := 6) sc.nd rfl (.inl rfl) (pe_f SH hr (by decide) pass0 rfl (pa_cons (pe_op op_mulW (pe_ix ix_tup (pv 6) pe_int (fun _ _ => rfl)) (pe_ix ix_tup (pv 4) pe_int (fun _ _ => rfl))) (pa_cons (pe_op op_mulW (pe_ix ix_tup (pv 6) pe_int (fun _ _ => rfl)) (pe_ix ix_tup (pv 4) pe_int (fun _ _ => rfl))) pa_nil))))) pss_nil) (pss_one (ps_expr (pe_bm PySem.F.plainAttrs_list PySem.F.slot_list_append PySem.F.type_list_append mt_append (pv 2) (pa_cons (pe_tup (pa_cons (pe_ix ix_tup (pv 3) pe_int (fun _ _ => rfl)) (pa_cons (pe_ix ix_tup (pv 3) pe_int (fun _ _ => rfl)) (pa_cons (pv 6) pa_nil)))) pa_nil))))))))) (pss_one (ps_ret (pv 2))))), ?_⟩
    refine ⟨(by show 0 ≤ sizeLine; exact Nat.zero_le _), fun l hl => ?_⟩
    refine ⟨_, rfl, la, rfl, ⟨_, SqL.of (same_upd hl _ _ hS)⟩, for_list (K := K) (a := la) (xs := ys) (fun i σ H' => ∃ (v3 v4 v5 v6 : Option V) (zs : List V), σ = [some (.int many), some (.ref la), some (.ref l), v3, v4, v5, v6] ∧ Same H H' ∧ H' l = some (.lst zs) ∧ Al (RwAt H') zs ((rs.take i).map (thinOne rs)))
      ⟨none, none, none, none, [], rfl, same_upd hl, upd_same, Al.nil⟩ (fun _ _ _ _ ⟨_, _, _, _, _, _, e, _⟩ => SqL.of (e _ _ hS)) ?_ ?_⟩
    · rintro i y σ H1 hi ⟨v3, v4, v5, v6, zs, rfl, s1, hz, hA⟩
      obtain ⟨r, hri, hR1⟩ := hR.get hi
      refine ⟨size2, fun t ht => ?_⟩
      have s2 := same_upd (o := HO.tup [.int 0, .int 1]) ht
      have h4 : Wv (upd H1 t (HO.tup [.int 0, .int 1])) (.ref t) (.rat 0) := wv_tup (by decide) (by decide)
      generalize upd H1 t (HO.tup [.int 0, .int 1]) = H2 at s2 h4
      refine ⟨_, rfl, la, rfl, ⟨_, SqL.of (s2 _ _ (s1 _ _ hS))⟩, for_list (K := K) (a := la) (xs := ys) (fun j σ H3 => ∃ (v4 : V) (v5 : Option V), σ = [some (.int many), some (.ref la), some (.ref l), some y, some v4, v5, v6] ∧ Same H1 H3 ∧
          Wv H3 v4 (.rat ((rs.take j).foldl (sumF r.s) 0)) ∧ sz (.rat ((rs.take j).foldl (sumF r.s) 0)) ≤ 1 + j * 101 ∧ 0 ≤ (rs.take j).foldl (sumF r.s) 0)
        ⟨.ref t, v5, rfl, s2, by simpa using h4, (by show sz (.rat 0) ≤ 1 + 0 * 101; decide), by simp⟩ (fun _ _ _ _ ⟨_, _, _, e, _⟩ => SqL.of (e _ _ (s1 _ _ hS))) ?_ ?_⟩
      · rintro j y2 σ H3 hj ⟨v4, v5, rfl, s3, hv4, hz4, h04⟩
        obtain ⟨r2, hrj, hR2⟩ := hR.get hj
        obtain ⟨p1, w1, rfl, hp1, hw1⟩ := (hR1.same s1).same s3
        obtain ⟨p2, w2, rfl, hp2, hw2⟩ := (hR2.same s1).same s3
        obtain ⟨g2, z2⟩ := hg r2 (List.mem_of_getElem? hrj)
        have hj40 : j < rs.length := (List.getElem?_eq_some_iff.1 hrj).1
        rw [foldl_snoc _ _ _ _ hrj]
        generalize (rs.take j).foldl (sumF r.s) 0 = S at hv4 hz4 h04
        refine ⟨_, rfl, p2, _, _, _, rfl, rfl, SqT.of hp2, ix0, _, rfl, p1, _, _, _, rfl, rfl, SqT.of hp1, ix0, rfl, _, rfl, ?_⟩
        by_cases e : r2.s = r.s
        · refine ifT (decide_eq_true (by rw [e])) ⟨_, rfl, _, rfl, p2, _, _, _, rfl, rfl, SqT.of hp2, ix2, .cha, _, _, .rat S, r2.w, rfl, hv4, hw2, h04, g2, ?_, fun H4 z4 s4 hz4' => ⟨z4, _, rfl, s3.trans s4, ?_, ?_, ?_⟩⟩
          · show sz (.rat S) + sz r2.w ≤ 8000
            omega
          · rw [wq_eq g2, tog_cha] at hz4'
            show Wv H4 z4 (.rat (sumF r.s S r2))
            unfold sumF
            rw [if_pos e]; exact hz4'
          · show sz (.rat (sumF r.s S r2)) ≤ 1 + (j + 1) * 101
            have := sz_tog (k := .cha) rfl (a := .rat S) (b := r2.w) h04 g2
            rw [wq_eq g2, tog_cha, ← wq_eq g2] at this
            unfold sumF
            rw [if_pos e]; omega
          · show 0 ≤ sumF r.s S r2
            unfold sumF
            rw [if_pos e]; exact Rat.add_nonneg h04 (wq_nonneg g2)
        · refine ifF (decide_eq_false fun z => e (by have := V.int.inj z; omega)) ⟨v4, _, rfl, s3, ?_, ?_, ?_⟩
          · show Wv H3 v4 (.rat (sumF r.s S r2))
            unfold sumF
            rw [if_neg e]; exact hv4
          · show sz (.rat (sumF r.s S r2)) ≤ 1 + (j + 1) * 101
            unfold sumF
            rw [if_neg e]; omega
          · show 0 ≤ sumF r.s S r2
            unfold sumF
            rw [if_neg e]; exact h04
      · rintro σ H3 ⟨v4, v5, rfl, s3, hv4, hz4, h04⟩
        rw [show ys.length = rs.length from hR.1, List.take_length] at hv4 hz4 h04
        change Wv H3 v4 (.rat (sumW r.s rs)) at hv4
        change sz (.rat (sumW r.s rs)) ≤ _ at hz4
        change 0 ≤ sumW r.s rs at h04
        obtain ⟨p1, w1, rfl, hp1, hw1⟩ := (hR1.same s1).same s3
        obtain ⟨g1, z1⟩ := hg r (List.mem_of_getElem? hri)
        obtain ⟨t4, rfl, ht4⟩ := id hv4
        have hi40 : i < rs.length := (List.getElem?_eq_some_iff.1 hri).1
        have hS1 : sz (.rat (sumW r.s rs)) ≤ 4041 := by omega
        have hw1' : Wv H3 w1 (.rat (wq r.w)) := by rw [← wq_eq g1]; exact hw1
        have z1' : sz (.rat (wq r.w)) ≤ 100 := by rw [← wq_eq g1]; exact z1
        obtain ⟨t1, rfl, ht1⟩ := id hw1'
        have q0 := wq_nonneg g1
        have hlz : zs.length = i := by rw [hA.1, List.length_map, List.length_take]; omega
        -- the end of a turn
        have fin : ∀ (H4 : Hp) (z4 : V), Same H3 H4 → Wv H4 z4 (thinOne rs r).w → ∀ tp, H4 tp = none → ∃ (u3 u4 u5 u6 : Option V) (zs' : List V), [some (V.int many), some (.ref la), some (.ref l), some (.ref p1), some (.ref t4), v5, some z4] = [some (V.int many), some (.ref la), some (.ref l), u3, u4, u5, u6] ∧
            Same H (upd (upd H4 tp (.tup [.int r.s, .int r.t, z4])) l (.lst (zs ++ [.ref tp]))) ∧ (upd (upd H4 tp (.tup [.int r.s, .int r.t, z4])) l (.lst (zs ++ [.ref tp]))) l = some (.lst zs') ∧ Al (RwAt (upd (upd H4 tp (.tup [.int r.s, .int r.t, z4])) l (.lst (zs ++ [.ref tp])))) zs' ((rs.take (i + 1)).map (thinOne rs)) := by
          intro H4 z4 s4 hz4' tp htp
          have s14 := s3.trans s4
          have hl5 : (upd H4 tp (HO.tup [.int r.s, .int r.t, z4])) l = some (.lst zs) := same_upd htp _ _ (s14 _ _ hz)
          have sT := sameT_lst (o := .lst (zs ++ [.ref tp])) hl5
          have s15 : SameT H1 (upd (upd H4 tp (HO.tup [.int r.s, .int r.t, z4])) l (.lst (zs ++ [.ref tp]))) := (same_t (s14.trans (same_upd htp))).trans sT
          refine ⟨_, _, _, _, zs ++ [.ref tp], rfl, same_at ((s1.trans s14).trans (same_upd htp)) hl, upd_same, ?_⟩
          have e : (rs.take (i + 1)).map (thinOne rs) = (rs.take i).map (thinOne rs) ++ [thinOne rs r] := by
            rw [List.take_succ, hri, List.map_append]; rfl
          rw [e]
          exact (hA.sameT s15).snoc ⟨tp, z4, rfl, sT _ _ upd_same, (hz4'.sameT (same_t (same_upd htp))).sameT sT⟩
        refine ⟨_, rfl, p1, _, _, _, rfl, rfl, SqT.of hp1, ix2, ?_⟩
        refine ⟨_, rfl, t4, _, _, _, rfl, rfl, SqT.of ht4, at0, _, rfl, t4, _, _, _, rfl, rfl, SqT.of ht4, at1, _, _, rfl, rfl, _, rfl, ?_⟩
        have egt : (sumW r.s rs).num > ((sumW r.s rs).den : Int) ↔ 1 < sumW r.s rs := by
          rw [← Rat.not_le, rat_le_one]; omega
        by_cases hh : 1 < sumW r.s rs
        · have eo : (thinOne rs r).w = .rat (wq r.w / sumW r.s rs) := by unfold thinOne; rw [if_pos hh]
          have hp0 : 0 < sumW r.s rs := by have : (0 : Rat) < 1 := by decide
                                           grind
          have hn0 : 0 < (sumW r.s rs).num := by
            have h := hp0
            rw [Rat.lt_iff] at h
            have h : (0 : Int) * (sumW r.s rs).den < (sumW r.s rs).num * 1 := h
            omega
          have p0 := sz_pos (.rat (wq r.w))
          have p1' := sz_pos (.rat (sumW r.s rs))
          refine ifT (decide_eq_true (egt.2 hh)) ?_
          refine ⟨_, rfl, t1, _, _, _, rfl, rfl, SqT.of ht1, at0, _, rfl, t4, _, _, _, rfl, rfl, SqT.of ht4, at1, _, _, rfl, rfl, mul_fit (k := 8000) (lt_sz_num (wq r.w)) (lt_sz_den (sumW r.s rs)) p0 p1' (by omega) (by decide), ?_⟩
          refine ⟨_, rfl, t1, _, _, _, rfl, rfl, SqT.of ht1, at1, _, rfl, t4, _, _, _, rfl, rfl, SqT.of ht4, at0, _, _, rfl, rfl, mul_fit (k := 8000) (lt_sz_den (wq r.w)) (lt_sz_num (sumW r.s rs)) p0 p1' (by omega) (by decide), ?_⟩
          refine ⟨_, _, rfl, Int.mul_nonneg (Rat.num_nonneg.2 q0) (by have := den_pos (sumW r.s rs); omega), Int.mul_pos (den_pos _) hn0, ?_, fun p5 hp5 => ?_⟩
          · have := wide_lt (lt_sz_den (wq r.w)) (lt_sz_num (sumW r.s rs))
            have h2 := PySem.Flt.log2_lt_of (n := (((wq r.w).den : Int) * (sumW r.s rs).num).natAbs) (k := sz (.rat (wq r.w)) + sz (.rat (sumW r.s rs))) (by omega) this
            omega
          have hq := rat_quot (r := wq r.w) hp0
          have hw5 : Wv (upd H3 p5 (.tup [.int (Rat.divInt ((wq r.w).num * (sumW r.s rs).den) ((wq r.w).den * (sumW r.s rs).num)).num, .int (Rat.divInt ((wq r.w).num * (sumW r.s rs).den) ((wq r.w).den * (sumW r.s rs).num)).den])) (.ref p5) (thinOne rs r).w := by
            rw [eo]; exact wv_tup (by rw [hq]) (by rw [hq])
          have s5 := same_upd (o := HO.tup [.int (Rat.divInt ((wq r.w).num * (sumW r.s rs).den) ((wq r.w).den * (sumW r.s rs).num)).num, .int (Rat.divInt ((wq r.w).num * (sumW r.s rs).den) ((wq r.w).den * (sumW r.s rs).num)).den]) hp5
          have hz5 := s5 _ _ (s3 _ _ hz)
          have hp15 := s5 _ _ hp1
          generalize upd H3 p5 (.tup [.int (Rat.divInt ((wq r.w).num * (sumW r.s rs).den) ((wq r.w).den * (sumW r.s rs).num)).num, .int (Rat.divInt ((wq r.w).num * (sumW r.s rs).den) ((wq r.w).den * (sumW r.s rs).num)).den]) = H5 at hw5 s5 hz5 hp15
          refine ⟨_, rfl, .inl ⟨rfl, _, SqL.of hz5⟩, _, rfl, p1, _, _, _, rfl, rfl, SqT.of hp15, ix0, _, rfl, p1, _, _, _, rfl, rfl, SqT.of hp15, ix1, _, rfl, size3', fun tp htp => ⟨l, _, _, rfl, rfl, same_upd htp _ _ hz5, sizeLt (by omega), ?_⟩⟩
          exact fin H5 _ s5 hw5 tp htp
        · have eo : (thinOne rs r).w = .rat (wq r.w) := by unfold thinOne; rw [if_neg hh]
          refine ifF (decide_eq_false fun z => hh (egt.1 z)) ?_
          refine ⟨_, rfl, .inl ⟨rfl, _, SqL.of (s3 _ _ hz)⟩, _, rfl, p1, _, _, _, rfl, rfl, SqT.of hp1, ix0, _, rfl, p1, _, _, _, rfl, rfl, SqT.of hp1, ix1, _, rfl, size3', fun tp htp => ⟨l, _, _, rfl, rfl, same_upd htp _ _ (s3 _ _ hz), sizeLt (by omega), ?_⟩⟩
          exact fin H3 _ (Same.refl _) (by rw [eo]; exact hw1') tp htp
    · rintro σ H1 ⟨v3, v4, v5, v6, zs, rfl, s1, hz, hA⟩
      rw [show ys.length = rs.length from hR.1, List.take_length] at hA
      exact ⟨_, rfl, q H1 l zs s1 hl hz hA⟩
theorem wh_cha {k : Kd} : wh k = 4 ↔ k = .cha := by
  cases k <;> simp [wh]
theorem fc_netL (T : Tx K mg A) (CE : Fc CX0 P w K mg base 1 "_law_cell_at" (spCell K)) (WO : Fc CX0 P w K mg base 2 "_law_worth" spWorthL) (TH : Fc CX0 P w K mg base 3 "_law_thinned" spThin)
    (D : Dfn K mg "_law_net" s__law_net ["script", "at", "which", "m", "most", "extra"] f fd) : Fc CX0 P w K mg base 4 "_law_net" (spNetL K) := by
  have sc : FnScope ["script", "at", "which", "m", "most", "extra", "many", "roads", "k", "cell", "worth"] ["script", "at", "which", "m", "most", "extra"] (defScope s__law_net) := fsc (by decide +kernel)
  refine fc0 D sc (fun vs H Q E h => ?_) (fun cdv _ outer s H vs Q E hr h => ?_)
  · obtain ⟨a, ns, o, k, m, most, extra, rfl, _⟩ := h; rfl
  · obtain ⟨a, ns, o, k, m, most, extra, rfl, hS, hlen, hko, hmm, hm1, hm8, hx, q⟩ := h
    refine ⟨_, (pss_cons (ps_set (i := 6) sc.nd rfl (.inl rfl) (pe_op op_add pe_int (pe_op op_mod (pe_f CE hr (by decide) pass0 rfl (pa_cons (pv 0) (pa_cons (pv 1) pa_nil))) (pv 4)))) (pss_cons (ps_set (i := 7) sc.nd rfl (.inl rfl) (pe_lst pa_nil)) (pss_cons (ps_for PassesOwn.never rfl (pi_range1 (by rfl) T.n_range (pa_cons (pe_op op_mod (pe_op op_fdiv (pe_f CE hr (by decide) pass0 rfl (pa_cons (pv 0) (pa_cons (pv 1) pa_nil))) (pv 4)) (pe_op op_add (pv 5) pe_int)) pa_nil)) (pg_name (i := 8) sc.nd rfl (.inl rfl)) (pss_cons (ps_set (i := 9) sc.nd rfl (.inl rfl) (pe_f CE hr (by decide) pass0 rfl (pa_cons (pv 0) (pa_cons (pe_op op_add (pe_op op_add (pv 1) pe_int) (pv 8)) pa_nil)))) (pss_cons (ps_set (i := 10) sc.nd rfl (.inl rfl) (pe_f WO hr (by decide) pass0 rfl (pa_cons (pv 2) (pa_cons (pv 3) (pa_cons (pe_op op_fdiv (pv 9) (pe_op op_mul (pv 6) (pv 6))) pa_nil))))) (pss_one (ps_expr (pe_bm PySem.F.plainAttrs_list PySem.F.slot_list_append PySem.F.type_list_append mt_append (pv 7) (pa_cons (pe_tup (pa_cons (pe_op op_mod (pv 9) (pv 6)) (pa_cons (pe_op op_mod (pe_op op_fdiv (pv 9) (pv 6)) (pv 6)) (pa_cons (pv 10) pa_nil)))) pa_nil))))))) (pss_cons (ps_if (ptE 2) (pss_one (ps_set (i := 7) sc.nd rfl (.inl rfl) (pe_f TH hr (by decide) pass0 rfl (pa_cons (pv 6) (pa_cons (pv 7) pa_nil))))) pss_nil) (pss_one (ps_ret (pe_tup (pa_cons (pv 6) (pa_cons (pv 7) pa_nil))))))))), ?_⟩
    have n0 : 0 ≤ cell ns o % (most : Int) := Int.emod_nonneg _ (by omega)
    have n1 : cell ns o % (most : Int) < most := Int.emod_lt_of_pos _ (by omega)
    have c0 : 0 ≤ cell ns o / (most : Int) % ((extra : Int) + 1) := Int.emod_nonneg _ (by omega)
    have c1 : cell ns o / (most : Int) % ((extra : Int) + 1) < (extra : Int) + 1 := Int.emod_lt_of_pos _ (by omega)
    obtain ⟨n, hn⟩ : ∃ n, n = drawN ns o most := ⟨_, rfl⟩
    have hni : 1 + cell ns o % (most : Int) = (n : Int) := by rw [hn]; unfold drawN; omega
    have hn1 : 1 ≤ n ∧ n ≤ 8 := by omega
    refine ⟨_, rfl, _, rfl, a, ns, o, rfl, hS, hlen, _, rfl, _, _, rfl, rfl, (by omega : (0 : Int) < (most : Int)), _, _, rfl, rfl, ?_⟩
    refine ⟨(by show 0 ≤ sizeLine; exact Nat.zero_le _), fun l hl => ?_⟩
    have hS1 := (same_upd (o := HO.lst []) hl).seq hS
    refine ⟨_, rfl, _, rfl, a, ns, o, rfl, hS1, hlen, _, rfl, _, _, rfl, rfl, ⟨by omega, by omega⟩, _, rfl, _, _, rfl, rfl, _, _, rfl, rfl, (by omega : (0 : Int) < (extra : Int) + 1), _, rfl, by omega, by omega, ?_⟩
    refine for_range (lo := 0) (n := (cell ns o / (most : Int) % ((extra : Int) + 1)).toNat)
      (fun i σ H' => ∃ (v8 v9 v10 : Option V) (zs : List V), σ = [some (.ref a), some (.int o), some (.int (wh k)), some (.int m), some (.int most), some (.int extra), some (.int n), some (.ref l), v8, v9, v10] ∧ Same H H' ∧ H' l = some (.lst zs) ∧ Al (RwAt H') zs ((List.range i).map (drawR ns o k n)))
      ⟨none, none, none, [], congrArg (fun z => [some (V.ref a), some (.int (o : Int)), some (.int (wh k)), some (.int m), some (.int (most : Int)), some (.int (extra : Int)), some (.int z), some (.ref l), none, none, none]) hni, same_upd hl, upd_same, Al.nil⟩ ?_ ?_
    · rintro i σ H1 hi ⟨v8, v9, v10, zs, rfl, s1, hz, hA⟩
      have nn2 : (n : Int) * n ≤ 8 * 8 := Int.mul_le_mul (by omega) (by omega) (by omega) (by omega)
      have nn1 : (1 : Int) * 1 ≤ (n : Int) * n := Int.mul_le_mul (by omega) (by omega) (by omega) (by omega)
      have hlz : zs.length = i := by rw [hA.1, List.length_map, List.length_range]
      refine ⟨_, rfl, _, rfl, _, _, rfl, rfl, _, rfl, _, _, rfl, rfl, a, ns, o + 1 + i, congrArg (fun z => [V.ref a, V.int z]) (by omega), s1.seq hS, hlen, ?_⟩
      obtain ⟨c, hc⟩ : ∃ c, cell ns (o + 1 + i) = c := ⟨_, rfl⟩
      rw [hc]
      have a0 := Int.emod_nonneg c (b := (n : Int)) (by omega)
      have a1 := Int.emod_lt_of_pos c (b := (n : Int)) (by omega)
      have b0 := Int.emod_nonneg (c / n) (b := (n : Int)) (by omega)
      have b1 := Int.emod_lt_of_pos (c / n) (b := (n : Int)) (by omega)
      refine ⟨_, rfl, _, rfl, _, rfl, _, rfl, _, rfl, _, _, rfl, rfl, .inl ⟨by omega, by omega⟩, _, _, rfl, rfl, ⟨by omega, by omega⟩, k, m, _, rfl, hko, hmm, fun H2 z2 s2 hz2 => ?_⟩
      have hz3 := s2 _ _ hz
      refine ⟨_, rfl, .inl ⟨rfl, _, SqL.of hz3⟩, _, rfl, _, rfl, _, _, rfl, rfl, (by omega : (0 : Int) < (n : Int)), _, rfl, _, rfl, _, _, rfl, rfl, ⟨by omega, by omega⟩, _, rfl, _, _, rfl, rfl, (by omega : (0 : Int) < (n : Int)), _, rfl, size3', fun tp htp => ⟨l, _, _, rfl, rfl, same_upd htp _ _ hz3, sizeLt (by omega), ?_⟩⟩
      have s23 := s2.trans (same_upd (o := HO.tup [.int (c % n), .int (c / n % n), z2]) htp)
      have sT := sameT_lst (o := .lst (zs ++ [.ref tp])) (same_upd (o := HO.tup [.int (c % n), .int (c / n % n), z2]) htp _ _ hz3)
      refine ⟨_, _, _, zs ++ [.ref tp], rfl, same_at (s1.trans s23) hl, upd_same, ?_⟩
      rw [List.range_succ, List.map_append]
      refine (hA.sameT ((same_t s23).trans sT)).snoc ⟨tp, z2, rfl, sT _ _ ?_, ?_⟩
      · rw [upd_same]
        show some (HO.tup [.int (c % n), .int (c / n % n), z2]) = some (HO.tup [.int ((cell ns (o + 1 + i) % (n : Int)).toNat : Nat), .int ((cell ns (o + 1 + i) / (n : Int) % (n : Int)).toNat : Nat), z2])
        rw [hc, Int.toNat_of_nonneg a0, Int.toNat_of_nonneg b0]
      · have hz2' : Wv H2 z2 (drawR ns o k n i).w := by
          show Wv H2 z2 (lawW k (cell ns (o + 1 + i) / (n * n)))
          rw [hc]; exact hz2
        exact (hz2'.sameT (same_t (same_upd htp))).sameT sT
    · rintro σ H1 ⟨v8, v9, v10, zs, rfl, s1, hz, hA⟩
      have eL : (List.range (cell ns o / (most : Int) % ((extra : Int) + 1)).toNat).map (drawR ns o k n) = drawL0 ns o k most extra := by rw [hn]; rfl
      rw [eL] at hA
      refine ⟨_, rfl, rfl, _, rfl, ?_⟩
      by_cases hc : k = .cha
      · have ok0 : ∀ r ∈ drawL0 ns o k most extra, Good k r.w ∧ sz r.w ≤ 100 := fun r hr => by
          obtain ⟨j, _, rfl⟩ := List.mem_map.1 hr
          exact ⟨good_law hko _, sz_law hko _⟩
        have hl40 : (drawL0 ns o k most extra).length ≤ 40 := by
          unfold drawL0 drawC
          rw [List.length_map, List.length_range]; omega
        refine ifT (decide_eq_true (congrArg V.int (wh_cha.2 hc))) ⟨_, rfl, _, rfl, _, l, zs, drawL0 ns o k most extra, rfl, hz, hA, by rw [← hc]; exact ok0, hl40, fun H2 l2 zs2 s2 hl2 hz2 hA2 => ?_⟩
        refine ⟨_, rfl, _, rfl, size2, fun p hp => ?_⟩
        have s3 := same_upd (o := HO.tup [.int (n : Int), .ref l2]) hp
        refine q _ p l2 zs2 ((s1.trans s2).trans s3) (s1.free hl2) (by rw [upd_same, hn]) (s3 _ _ hz2) ?_
        unfold drawL
        rw [if_pos hc]
        exact hA2.same s3
      · refine ifF (decide_eq_false fun z => hc (wh_cha.1 (V.int.inj z))) ⟨_, rfl, _, rfl, size2, fun p hp => ?_⟩
        have s3 := same_upd (o := HO.tup [.int (n : Int), .ref l]) hp
        refine q _ p l zs (s1.trans s3) hl (by rw [upd_same, hn]) (s3 _ _ hz) ?_
        unfold drawL
        rw [if_neg hc]
        exact hA.same s3
end
/-! ### E1: what a reading evaluates to, where nothing that stands is turned -/
/-- a worth's data -/
def dw : Wo → PyData
  | .non => .none
  | .int i => .int i
  | .rat r => .tuple [.int r.num, .int r.den]
theorem dp_w {K : PySem.W.Frag} {H : Hp} {v : V} {a : Wo} (h : Wv H v a) : Dp K H v (dw a) := by
  cases a with
  | non => cases h; exact .non
  | int i => cases h; exact .int i
  | rat r => obtain ⟨t, rfl, ht⟩ := h; exact .tup (SqT.of ht) (.cons (.int _) (.cons (.int _) .nil))
theorem shaped_w (a : Wo) : SeqAt.shaped (dw a) = true := by
  cases a <;> simp [dw, SeqAt.shaped, PyData.canLay0, PyData.canLayAll0, PyData.depth, PyData.depthAll]
theorem eqv_w (a b : Wo) : PyData.eqv (dw a) (dw b) = decide (a = b) := by
  cases a <;> cases b <;> simp only [dw, PyData.eqv, PyData.eqvAll, Bool.and_true]
  all_goals first | (symm; exact decide_eq_false (fun z => nomatch z)) | skip
  · simp
  · rw [Bool.eq_iff_iff, beq_iff_eq, decide_eq_true_eq, Wo.int.injEq]
  · rw [Bool.eq_iff_iff, Bool.and_eq_true, beq_iff_eq, beq_iff_eq, decide_eq_true_eq, Wo.rat.injEq]
    constructor
    · rintro ⟨h1, h2⟩; exact Rat.ext h1 (by omega)
    · rintro rfl; exact ⟨rfl, rfl⟩
theorem eqD_w {K : PySem.W.Frag} {H : Hp} {u v : V} {a b : Wo} {Q : VK} (ha : Wv H u a) (hb : Wv H v b) (q : Q (.bl (decide (a = b))) H) : rEqD K u v H Q :=
  ⟨_, _, dp_w ha, dp_w hb, shaped_w a, shaped_w b, by rw [eqv_w]; exact q⟩
theorem neD_w {K : PySem.W.Frag} {H : Hp} {u v : V} {a b : Wo} {Q : VK} (ha : Wv H u a) (hb : Wv H v b) (q : Q (.bl (!decide (a = b))) H) : rNeD K u v H Q :=
  ⟨_, _, dp_w ha, dp_w hb, shaped_w a, shaped_w b, by rw [eqv_w]; exact q⟩
/-- from H0 on the reading gives the worth a -/
def EvW (te : TE) (σ : L2.St) (H0 : Hp) (a : Wo) : Prop := ∀ (H : Hp) (Q : VK), Same H0 H → (∀ H' z, Same H H' → Wv H' z a → Q z H') → te σ H Q
theorem EvW.more {te : TE} {σ : L2.St} {H0 H1 : Hp} {a : Wo} (h : EvW te σ H0 a) (s : Same H0 H1) : EvW te σ H1 a := fun H Q s1 q => h H Q (s.trans s1) q
theorem ev_var {σ : L2.St} {H0 : Hp} {i : Nat} {v : V} {a : Wo} (hi : σ[i]? = some (some v)) (h : Wv H0 v a) : EvW (tVar i) σ H0 a := fun H Q s q => ⟨v, hi, q H v (Same.refl _) (h.same s)⟩
section
variable {A : Ad} {σ : L2.St} {H0 : Hp} {i : Nat} {x : Addr} {k : Kd} {ES : L2.St → XK}
theorem ev_k0 {g : Kd → Wo} (hi : σ[i]? = some (some (.ref x))) (hk : KindAt A H0 x k) : EvW (tKM A (fun i => spK0 A i g) ES (tVar i) tNil) σ H0 (g k) := fun H Q s q =>
  ⟨k, hk.1, _, hi, x, rfl, hk.same s, x, k, rfl, hk.same s, rfl, q⟩
theorem ev_k2 {g : Kd → Wo → Wo → Wo} {te1 te2 : TE} {a b : Wo} (hi : σ[i]? = some (some (.ref x))) (hk : KindAt A H0 x k) (h1 : EvW te1 σ H0 a) (h2 : EvW te2 σ H0 b) (ga : Good k a) (gb : Good k b) (hf : Fits k a b) :
    EvW (tKM A (fun i => spK2 A i g) ES (tVar i) (tCons te1 (tCons te2 tNil))) σ H0 (g k a b) := fun H Q s q =>
  ⟨k, hk.1, _, hi, x, rfl, hk.same s, h1 H _ s fun H1 z1 s1 w1 => h2 H1 _ (s.trans s1) fun H2 z2 s2 w2 =>
    ⟨x, k, z1, z2, a, b, rfl, hk.same ((s.trans s1).trans s2), rfl, w1.same s2, w2, ga, gb, hf, fun H3 z3 s3 w3 => q H3 z3 ((s1.trans s2).trans s3) w3⟩⟩
/-- if X != Y: .. -/
theorem ev_ne {K : PySem.W.Frag} {te1 te2 : TE} {a b : Wo} {Q : Bool → Hp → Prop} {H : Hp} (s : Same H0 H) (h1 : EvW te1 σ H0 a) (h2 : EvW te2 σ H0 b) (q : ∀ H', Same H H' → Q (!decide (a = b)) H') : tTest (tOp (rNeD K) te1 te2) σ H Q :=
  h1 H _ s fun H1 z1 s1 w1 => h2 H1 _ (s.trans s1) fun H2 z2 s2 w2 => neD_w (w1.same s2) w2 ⟨_, rfl, q H2 (s1.trans s2)⟩
theorem sk_ne {K : PySem.W.Frag} {te1 te2 : TE} {a b : Wo} {D : Ends} {t rest : TS} {H : Hp} (s : Same H0 H) (h1 : EvW te1 σ H0 a) (h2 : EvW te2 σ H0 b) (e : a = b) (q : ∀ H', Same H H' → rest D σ H') :
    tSeq (tIfS (tTest (tOp (rNeD K) te1 te2)) t tNext) rest D σ H := ev_ne s h1 h2 fun H' s' => ifF (by rw [decide_eq_true e]; rfl) (q H' s')
end
/-! ### E2: lists of whole numbers; tuples of truths; parts of lists -/
theorem atI_in {l : List V} {j : Int} (h0 : 0 ≤ j) (h1 : j < (l.length : Nat)) : ∃ v, v ∈ l ∧ atI l j = some v := by
  obtain ⟨n, rfl⟩ := nn j h0
  have hn : n < l.length := by omega
  exact ⟨l[n], List.getElem_mem hn, atI_nat (List.getElem?_eq_getElem hn)⟩
theorem atI_ints {l : List Int} {j : Int} (h0 : 0 ≤ j) (h1 : j < (l.length : Nat)) : ∃ b, b ∈ l ∧ atI (l.map V.int) j = some (.int b) := by
  obtain ⟨v, hv, e⟩ := atI_in (l := l.map V.int) h0 (by rw [List.length_map]; exact h1)
  obtain ⟨b, hb, rfl⟩ := List.mem_map.1 hv
  exact ⟨b, hb, e⟩
theorem atI_end {l : List Int} {b : Int} : atI ((l ++ [b]).map V.int) (-1) = some (.int b) := by
  rw [List.map_append]; exact atI_last _ _
theorem atI_intsN {l : List Int} {t : Nat} {b : Int} (h : l[t]? = some b) : atI (l.map V.int) (t : Int) = some (.int b) := atI_nat (by rw [List.getElem?_map, h]; rfl)
theorem cut_take {xs : List V} {t : Nat} (h : t ≤ xs.length) : cutV xs none (some (t : Int)) = xs.take t := by
  unfold cutV
  rw [HT.sIx_none, HT.sIx_nat, List.drop_zero, Nat.sub_zero, Nat.min_eq_left h]
theorem cut_drop {xs : List V} {t : Nat} (h : t ≤ xs.length) : cutV xs (some (t : Int)) none = xs.drop t := by
  unfold cutV
  rw [HT.sIx_none, HT.sIx_nat, Nat.min_eq_left h, List.take_of_length_le]
  rw [List.length_drop]; omega
section
variable {K : PySem.W.Frag} {H : Hp}
theorem dpAll_ints : ∀ js : List Int, DpAll K H (js.map V.int) (js.map PyData.int)
  | [] => .nil
  | j :: js => .cons (.int j) (dpAll_ints js)
theorem dp_ints {a : Addr} {js : List Int} (h : H a = some (.lst (js.map V.int))) : Dp K H (.ref a) (.list (js.map .int)) := .lst (SqL.of h) (dpAll_ints js)
theorem dp_b3 {a : Addr} {x y z : Bool} (h : H a = some (.tup [.bl x, .bl y, .bl z])) : Dp K H (.ref a) (.tuple [.bool x, .bool y, .bool z]) := .tup (SqT.of h) (.cons (.bl _) (.cons (.bl _) (.cons (.bl _) .nil)))
end
theorem eqv_ints : ∀ js : List Int, PyData.eqvAll (js.map PyData.int) (js.map PyData.int) = true
  | [] => rfl
  | j :: js => by
    rw [List.map_cons]
    simp only [PyData.eqvAll, PyData.eqv, beq_self_eq_true, Bool.true_and]
    exact eqv_ints js
theorem lay_ints : ∀ js : List Int, PyData.canLayAll0 (js.map PyData.int) = true ∧ PyData.depthAll (js.map PyData.int) ≤ 1
  | [] => by simp [PyData.canLayAll0, PyData.depthAll]
  | j :: js => by
    have := lay_ints js
    rw [List.map_cons]
    simp only [PyData.canLayAll0, PyData.canLay0, PyData.depthAll, PyData.depth, Bool.true_and]
    exact ⟨this.1, Nat.max_le.2 ⟨Nat.zero_le _, this.2⟩⟩
theorem shaped_ints (js : List Int) : SeqAt.shaped (.list (js.map .int)) = true := by
  have h := lay_ints js
  have h2 : PyData.depthAll (js.map PyData.int) + 1 ≤ 64 := by have := h.2; omega
  have e1 : PyData.canLay0 (.list (js.map PyData.int)) = true := by simp only [PyData.canLay0]; exact h.1
  have e2 : PyData.depth (.list (js.map PyData.int)) ≤ 64 := by simp only [PyData.depth]; exact h2
  unfold SeqAt.shaped
  rw [e1, decide_eq_true e2]; rfl
theorem shaped_b3 (x y z : Bool) : SeqAt.shaped (.tuple [.bool x, .bool y, .bool z]) = true := by
  simp [SeqAt.shaped, PyData.canLay0, PyData.canLayAll0, PyData.depth, PyData.depthAll]
theorem eqv_b3 (x y z : Bool) : PyData.eqv (.tuple [.bool x, .bool y, .bool z]) (.tuple [.bool x, .bool y, .bool z]) = true := by
  simp [PyData.eqv, PyData.eqvAll]
/-- an int list grows -/
theorem map_snoc {js : List Int} {b : Int} : js.map V.int ++ [V.int b] = (js ++ [b]).map V.int := by rw [List.map_append]; rfl
theorem wkW_append {k : Kd} {rs : List Rw} : ∀ (js : List Int) (p : Int) (w : Wo) (ls : List Int), wkW k rs p w (js ++ ls) = (wkW k rs p w js).bind fun z => wkW k rs z.1 z.2 ls
  | [], p, w, ls => rfl
  | j :: js, p, w, ls => by
    show (if 0 ≤ j then _ else none) = Option.bind (if 0 ≤ j then _ else none) _
    by_cases h : 0 ≤ j
    · rw [if_pos h, if_pos h]
      cases rs[j.toNat]? with
      | none => rfl
      | some r =>
        show (if (r.s : Int) = p then _ else none) = Option.bind (if (r.s : Int) = p then _ else none) _
        by_cases h2 : (r.s : Int) = p
        · rw [if_pos h2, if_pos h2]; exact wkW_append js _ _ ls
        · rw [if_neg h2, if_neg h2]; rfl
    · rw [if_neg h, if_neg h]; rfl
theorem wkW_good {k : Kd} {n : Nat} {rs : List Rw} (ok : RsOk k n rs) : ∀ (js : List Int) (p : Int) (w : Wo), Good k w → ∀ t wt, wkW k rs p w js = some (t, wt) → Good k wt
  | [], p, w, g, t, wt, h => by cases h; exact g
  | j :: js, p, w, g, t, wt, h => by
    change (if 0 ≤ j then _ else none) = _ at h
    by_cases h0 : 0 ≤ j
    · rw [if_pos h0] at h
      cases e : rs[j.toNat]? with
      | none => rw [e] at h; cases h
      | some r =>
        rw [e] at h
        change (if (r.s : Int) = p then _ else none) = _ at h
        by_cases h2 : (r.s : Int) = p
        · rw [if_pos h2] at h
          exact wkW_good ok js _ _ (good_beh g (ok r (List.mem_of_getElem? e)).1) t wt h
        · rw [if_neg h2] at h; cases h
    · rw [if_neg h0] at h; cases h
theorem wkW_sz {k : Kd} {n : Nat} {rs : List Rw} (ok : RsOk k n rs) (hb : bitK k = true) {B : Nat} (hB : ∀ r ∈ rs, sz r.w ≤ B) : ∀ (js : List Int) (p : Int) (w : Wo), Good k w → ∀ t wt, wkW k rs p w js = some (t, wt) → sz wt ≤ sz w + js.length * B
  | [], p, w, g, t, wt, h => by cases h; simp
  | j :: js, p, w, g, t, wt, h => by
    change (if 0 ≤ j then _ else none) = _ at h
    by_cases h0 : 0 ≤ j
    · rw [if_pos h0] at h
      cases e : rs[j.toNat]? with
      | none => rw [e] at h; cases h
      | some r =>
        rw [e] at h
        change (if (r.s : Int) = p then _ else none) = _ at h
        by_cases h2 : (r.s : Int) = p
        · rw [if_pos h2] at h
          have gr := (ok r (List.mem_of_getElem? e)).1
          have := wkW_sz ok hb hB js _ _ (good_beh g gr) t wt h
          have := sz_beh hb g gr
          have := hB r (List.mem_of_getElem? e)
          rw [List.length_cons, Nat.succ_mul]
          omega
        · rw [if_neg h2] at h; cases h
    · rw [if_neg h0] at h; cases h
theorem szB_le (k : Kd) : szB k ≤ 100 := by cases k <;> simp [szB]
/-! ### E3: data that are like themselves: rows, tables -/
/-- data of at most c levels, like itself -/
structure Nice (c : Nat) (d : PyData) : Prop where
  eq : PyData.eqv d d = true
  lay : PyData.canLay0 d = true
  dep : PyData.depth d ≤ c
theorem Nice.sh {c : Nat} {d : PyData} (h : Nice c d) (hc : c ≤ 64) : SeqAt.shaped d = true := by
  unfold SeqAt.shaped
  rw [h.lay, decide_eq_true (Nat.le_trans h.dep hc)]; rfl
theorem nice_all {c : Nat} : ∀ {ds : List PyData}, (∀ d ∈ ds, Nice c d) → PyData.eqvAll ds ds = true ∧ PyData.canLayAll0 ds = true ∧ PyData.depthAll ds ≤ c
  | [], _ => by simp [PyData.eqvAll, PyData.canLayAll0, PyData.depthAll]
  | d :: ds, h => by
    have h1 := h d List.mem_cons_self
    obtain ⟨a, b, e⟩ := nice_all fun x hx => h x (List.mem_cons_of_mem _ hx)
    simp only [PyData.eqvAll, PyData.canLayAll0, PyData.depthAll, h1.eq, h1.lay, a, b, Bool.true_and, true_and]
    exact Nat.max_le.2 ⟨h1.dep, e⟩
theorem nice_lst {c : Nat} {ds : List PyData} (h : ∀ d ∈ ds, Nice c d) : Nice (c + 1) (.list ds) := by
  obtain ⟨a, b, e⟩ := nice_all h
  exact ⟨by simp only [PyData.eqv]; exact a, by simp only [PyData.canLay0]; exact b, by simp only [PyData.depth]; omega⟩
theorem nice_tup {c : Nat} {ds : List PyData} (h : ∀ d ∈ ds, Nice c d) : Nice (c + 1) (.tuple ds) := by
  obtain ⟨a, b, e⟩ := nice_all h
  exact ⟨by simp only [PyData.eqv]; exact a, by simp only [PyData.canLay0]; exact b, by simp only [PyData.depth]; omega⟩
theorem nice_int (i : Int) : Nice 0 (.int i) := ⟨by simp [PyData.eqv], by simp [PyData.canLay0], by simp [PyData.depth]⟩
theorem nice_w (a : Wo) : Nice 1 (dw a) := by
  refine ⟨by rw [eqv_w]; exact decide_eq_true rfl, ?_, ?_⟩
  · cases a <;> simp [dw, PyData.canLay0, PyData.canLayAll0]
  · cases a <;> simp [dw, PyData.depth, PyData.depthAll]
/-- a row's data, a table's -/
def dRow (n : Nat) (f : Nat → Wo) : PyData := .list ((List.range n).map fun i => dw (f i))
def dMat (m n : Nat) (F : Nat → Nat → Wo) : PyData := .list ((List.range m).map fun i => dRow n (F i))
theorem nice_row (n : Nat) (f : Nat → Wo) : Nice 2 (dRow n f) := nice_lst fun d hd => by
  obtain ⟨i, _, rfl⟩ := List.mem_map.1 hd; exact nice_w _
theorem nice_mat (m n : Nat) (F : Nat → Nat → Wo) : Nice 3 (dMat m n F) := nice_lst fun d hd => by
  obtain ⟨i, _, rfl⟩ := List.mem_map.1 hd; exact nice_row _ _
section
variable {K : PySem.W.Frag} {H : Hp}
theorem dpAll_by {vs : List V} {n : Nat} {g : Nat → PyData} (hl : vs.length = n) (h : ∀ i v, vs[i]? = some v → Dp K H v (g i)) : DpAll K H vs ((List.range n).map g) := by
  induction vs generalizing n g with
  | nil => cases hl; exact .nil
  | cons v vs ih =>
    cases n with
    | zero => cases hl
    | succ n =>
      rw [List.range_succ_eq_map, List.map_cons, List.map_map]
      exact .cons (h 0 v rfl) (ih (Nat.succ.inj hl) fun i u hu => h (i + 1) u hu)
theorem eqD_nice {c : Nat} {u v : V} {d : PyData} {Q : VK} (hc : c ≤ 64) (n : Nice c d) (ha : Dp K H u d) (hb : Dp K H v d) (q : Q (.bl true) H) : rEqD K u v H Q :=
  ⟨_, _, ha, hb, n.sh hc, n.sh hc, by rw [n.eq]; exact q⟩
theorem neD_nice {c : Nat} {u v : V} {d : PyData} {Q : VK} (hc : c ≤ 64) (n : Nice c d) (ha : Dp K H u d) (hb : Dp K H v d) (q : Q (.bl false) H) : rNeD K u v H Q :=
  ⟨_, _, ha, hb, n.sh hc, n.sh hc, by rw [n.eq]; exact q⟩
end
/-! ### L7: more words of walks -/
def rListOf (K : PySem.W.Frag) : List V → Hp → VK → Prop := fun xs H Q => ∃ p ys, xs = [.ref p] ∧ (SqL K H p ys ∨ SqT K H p ys) ∧ ∀ l, H l = none → Q (.ref l) (upd H l (.lst ys))
theorem call_listOf {X : Cx} : CallR X (.type "list") (rListOf X.K) := call_list_of
theorem seq_splitS {t rest : TS} {D : Ends} {σ : L2.St} {H : Hp} (i : Nat) (PM : V → Hp → Prop) (cont : ∀ z H', PM z H' → rest D (σ.set i (some z)) H') (h : ∀ R : TS, (∀ z H', PM z H' → R D (σ.set i (some z)) H') → tSeq t R D σ H) : tSeq t rest D σ H := h rest cont
section
variable {α : Type} {R : V → α → Prop} {vs ws : List V} {rs qs : List α}
theorem Al.append (h : Al R vs rs) (h2 : Al R ws qs) : Al R (vs ++ ws) (rs ++ qs) := by
  refine ⟨by rw [List.length_append, List.length_append, h.1, h2.1], fun i v r e1 e2 => ?_⟩
  by_cases hi : i < vs.length
  · rw [List.getElem?_append_left hi] at e1
    rw [List.getElem?_append_left (by rw [← h.1]; exact hi)] at e2
    exact h.2 i v r e1 e2
  · rw [List.getElem?_append_right (by omega)] at e1
    rw [List.getElem?_append_right (by rw [← h.1]; omega)] at e2
    rw [h.1] at e1
    exact h2.2 _ v r e1 e2
theorem Al.take (h : Al R vs rs) (t : Nat) : Al R (vs.take t) (rs.take t) := by
  refine ⟨by rw [List.length_take, List.length_take, h.1], fun i v r e1 e2 => ?_⟩
  have hi : i < t := by
    have := (List.getElem?_eq_some_iff.1 e1).1
    rw [List.length_take] at this; omega
  rw [List.getElem?_take_of_lt hi] at e1 e2
  exact h.2 i v r e1 e2
theorem Al.drop (h : Al R vs rs) (t : Nat) : Al R (vs.drop t) (rs.drop t) := by
  refine ⟨by rw [List.length_drop, List.length_drop, h.1], fun i v r e1 e2 => ?_⟩
  rw [List.getElem?_drop] at e1 e2
  exact h.2 _ v r e1 e2
theorem Al.reverse (h : Al R vs rs) : Al R vs.reverse rs.reverse := by
  refine ⟨by rw [List.length_reverse, List.length_reverse, h.1], fun i v r e1 e2 => ?_⟩
  have hi : i < vs.length := by
    have := (List.getElem?_eq_some_iff.1 e1).1
    rwa [List.length_reverse] at this
  rw [List.getElem?_reverse hi] at e1
  rw [List.getElem?_reverse (by rw [← h.1]; exact hi), ← h.1] at e2
  exact h.2 _ v r e1 e2
end
theorem add_z (i : Nat) : (0 : Int) + (i : Int) = (i : Int) := Int.zero_add _
theorem atI_mapN {α : Type} {f : α → V} {l : List α} {t : Nat} {b : α} (h : l[t]? = some b) : atI (l.map f) (t : Int) = some (f b) := atI_nat (by rw [List.getElem?_map, h]; rfl)
/-! ### K2: a def that is called in an except suite with the exception that the suite holds -/
section
open L2H
/-- such a def: it promises by the exception's class -/
abbrev SpE := Value → Option Addr → Hp → VK → Prop
structure FnE (P : Program) (w : World) (K : PySem.W.Frag) (mg : Str → Option Value) (base : Heap) (k : Nat) (f : Addr) (fd : FuncData) (x : Str) (sp : SpE) : Prop where
  run : ∀ (A : Around) (outer : List Env) (s : Shared) (H : Hp) (args : Args) (a : Addr) (oe : Obj) (cls : Value) (d : Option Addr) (Q : VK), RoomH k A → Zc cls d oe → (∃ vs, oe.data = .fields vs) → PinOk outer H s (a, oe) → Env0 P w K mg base A outer s H → BindsTo s fd args ([x].zip [.ref a]) → sp cls d H Q →
    codeAny (model P w) A (.call (.ref f) args) (CR CX0 outer P w H s Q E0) s
theorem call_isP {X : Cx} {a : Addr} {oe : Obj} {cls : Value} {d : Option Addr} (hp : (a, oe) ∈ X.pn) (hz : Zc cls d oe) (hf : ∃ vs, oe.data = .fields vs) : CallR X (.builtin "isinstance") (fun xs H Q => ∃ D, cls = .ref D ∧ d = none ∧ ExcC X.K D ∧ rIsE X.K D a xs H Q) := by
  intro pins s σ H xs us Q I r h
  obtain ⟨D, rfl, rfl, C, c, cv, b, rfl, hcv, e, q⟩ := h
  cases r with
  | cons rx rr =>
    cases rr with
    | cons rt rr =>
      cases rr
      cases rx
      have ec := hcv _ rt
      subst ec
      obtain ⟨hget, _⟩ := I.pin (a, oe) (List.mem_append.mpr (.inl hp))
      obtain ⟨vs, hv⟩ := hf
      have J : PySem.W.InstAt s.heap a oe D none := by
        obtain ⟨oc, od, oda, osl⟩ := oe
        obtain ⟨h1, h2⟩ := hz
        dsimp only at h1 h2 hv
        subst h1 h2 hv
        exact ⟨hget, rfl, rfl, trivial⟩
      exact PySem.W.kia_one (PySem.W.handS_kitx_exc C.hg C.hk C.hs C.hd C.ha C.hn C.ht C.hm) I.kIn J e (fun z => nomatch z) fun tk => ⟨.bl b, H, I.kept (t' := tk) fun _ _ z => z, rfl, q⟩
theorem fn_ofE {P : Program} {w : World} {K : PySem.W.Frag} {mg : Str → Option Value} {base : Heap} {k : Nat} {f : Addr} {fd : FuncData} {x y : Str} {st : Stmt} {N : List Str} {sp : SpE} (D : Dfn K mg x st [y] f fd) (S : FnScope N [y] (defScope st))
    (hbody : ∀ (cdv : Value) (A : Around) (outer : List Env) (s : Shared) (H : Hp) (a : Addr) (oe : Obj) (cls : Value) (d : Option Addr) (Q : VK), Zc cls d oe → (∃ vs, oe.data = .fields vs) → RoomH k (A.deeper (envOfC x (defScope st) s.heap.objs.size f cdv)) → sp cls d H Q →
      ∃ t, PSs (cxH CX0 P w K mg base N x (defScope st) f cdv A outer s H E0 (a, oe)) (defBody st) t ∧ t { nx := fun _ H' => Q .non H', rt := Q } (L2.start N [.ref a]) H) : FnE P w K mg base (k + 1) f fd y sp := by
  obtain ⟨oc, od, kV, doc, pm, an, cdv, ct, osl, rfl, lk, hcd⟩ := D.F.ex
  refine ⟨fun A outer s H args a oe cls d Q hr hz hf hpin e0 hb hsp => ?_⟩
  have r : Vals [V.ref a] [Value.ref a] := .cons rfl .nil
  have KX : K.In s.heap := e0.mod.kin.keeps fun b o e => (e0.bs b o e).1
  have lim : s.heap.NoLimit := e0.mod.nolimit.keeps fun b o e => (e0.bs b o e).1
  have hkind : ∀ z ∈ [y].zip [Value.ref a], (defScope st).names.lookup z.1 = some .local ∨ ((defScope st).names.lookup z.1 = some .cell ∧ ((cellsFrom (s.heap.objs.size + 1) (defScope st).names []).lookup z.1).isSome = true) := fun ⟨n, v⟩ hy => by
    rcases S.par n (List.of_mem_zip hy).1 with q | q
    · exact .inl q
    · exact .inr ⟨q, PySem.W.cellsFrom_some _ _ _ (.inl q)⟩
  refine codeAny_call_function hr.depth (KX _ _ lk) rfl S.co S.gen rfl (PySem.W.codeRec_of KX hcd) (hb _ _ _ _ ?_)
  refine wpAny_newFunctionEnv_cells S.kind hkind fun env he s1 x1 => ?_
  subst he
  refine ⟨lim.keeps x1.toInCall.keep, codeAny_func ?_⟩
  obtain ⟨t, ht, hq⟩ := hbody cdv A outer s H a oe cls d Q hz hf (hr.deeper _) hsp
  have I : Inv (cxH CX0 P w K mg base N x (defScope st) f cdv A outer s H E0 (a, oe)) [] (L2.start N [.ref a]) H s1 := inv_startH S hpin e0 rfl r x1
  refine wpAny_mono (ht.run [] s1 (L2.start N [.ref a]) H _ I hq) (fun fl s' hs => ?_) fun e s' hs => hs
  have fin : ∀ {σ' : L2.St} {H' : Hp} {v : V} {u : Value}, Inv (cxH CX0 P w K mg base N x (defScope st) f cdv A outer s H E0 (a, oe)) [] σ' H' s' → RelV v u → Q v H' → CE outer P w H s Q u s' :=
    fun {σ' H' v u} J rv q => ⟨v, H', J.os, J.bare, J.base, J.hok, rv, q⟩
  cases fl with
  | ret u =>
    obtain ⟨v, σ', H', J, rv, q⟩ := hs
    exact fin J rv q
  | next =>
    obtain ⟨σ', H', J, q⟩ := hs
    exact fin (v := V.non) (u := Value.none) J rfl q
  | brk =>
    obtain ⟨_, _, _, q⟩ := hs
    exact False.elim q
  | cont =>
    obtain ⟨_, _, _, q⟩ := hs
    exact False.elim q
/-- what may be called so by the name x -/
structure FcE (P : Program) (w : World) (K : PySem.W.Frag) (mg : Str → Option Value) (base : Heap) (k : Nat) (x : Str) (sp : SpE) : Prop where
  ex : ∃ (f : Addr) (fd : FuncData) (y : Str), FnE P w K mg base k f fd y sp ∧ mg x = some (.ref f) ∧ PySem.W.keepIn K (.ref f) = true ∧ Binds K fd [y] []
variable {X : Cx} {k j : Nat} {x : Str} {sp : SpE} {p pos : Pos} {e : Expr} {te : TE} {a : Addr} {oe : Obj} {cls : Value} {d : Option Addr}
def tCallE (cls : Value) (d : Option Addr) (a : Addr) (sp : SpE) (te : TE) : TE := fun σ H Q => te σ H fun v H1 => [v] = [V.ref a] ∧ sp cls d H1 Q
theorem roomS {A : Around} (r : Room j A) (h : k ≤ j) (v : Option Value) : RoomH k (A.mark v) := ⟨by have := (r.mono h).dp; exact this, by have := (r.mono h).un; exact this⟩
theorem pe_fE (F : FcE X.prog X.w X.K X.mg X.base k x sp) (hr : RoomH k X.A) (hp : (a, oe) ∈ X.pn) (hz : Zc cls d oe) (hf : ∃ vs, oe.data = .fields vs) (hg : Gl X x) (ha : PE X e te)
    (hdb : (x == ("__debug__" : Str)) = false := by decide) (he : starEach [e] X.env = (false, eval e X.env) :: starEach [] X.env := by rfl) (hpl : (backTo pos (starEach [] X.env)).any (·.1) = false := by rfl) :
    PE X (.Call (.Name x p) [e] [] pos) (tCallE cls d a sp te) := by
  obtain ⟨f, fd, y, G, hm, hk, hb⟩ := F.ex
  refine ⟨fun pins s σ H Q I h => ?_⟩
  have hA : PA X [e] (tCons te tNil) := pa_cons ha pa_nil (hs := he)
  refine wpAny_Call_Name_kw (ld_glob I hg hm ?_ hdb)
  refine PySem.W.callWith_K (h₀ := X.base) I.ok.mod.kin hk (thn (hA.run pos pins s σ H (fun vs H1 => vs = [.ref a] ∧ sp cls d H1 Q) I ?_) fun us s1 ⟨vs, H1, I1, r, q⟩ => ⟨I1.kIn, ?_⟩) he hpl
  · exact h
  · obtain ⟨rfl, q⟩ := q
    cases r with
    | cons r0 rr =>
    cases rr
    cases r0
    have b := hb s1 [.ref a] I1.kIn rfl
    rw [List.append_nil] at b
    have P1 := I1.pin (a, oe) (List.mem_append_left _ hp)
    have hpin : PinOk X.stack H1 s1 (a, oe) := ⟨P1.1, P1.2.1, fun hm => (List.mem_cons.mp (I1.stkSub a hm)).elim P1.2.2.1 P1.2.2.2.1, P1.2.2.2.2⟩
    refine wpAny_call (codeAny_mono (G.run X.A X.stack s1 H1 ⟨[.ref a], []⟩ a oe cls d Q hr hz hf hpin I1.env0 b q) fun r s' hq => ?_)
    cases r with
    | error e => exact hq.elim
    | ok fl =>
      cases fl with
      | ret u => exact I1.after hq
      | next => exact False.elim hq
      | brk => exact False.elim hq
      | cont => exact False.elim hq
end
/-! ### the law -/
def spLaw (K : PySem.W.Frag) : Sp := fun vs H Q _ => ∃ (a : Addr) (ns : List Int), vs = [.ref a] ∧ SqL K H a (ns.map V.int) ∧ ns.length ≤ 63 ∧ ∀ H', Q (.bl true) H'
def spWhich (K : PySem.W.Frag) (A : Ad) : SpE := fun cls d H Q => ∃ (D : Addr) (b0 b1 : Bool), cls = .ref D ∧ d = none ∧ ExcC K D ∧ PySem.W.kitOne K (.ref D) (.ref A.NoNet) = some b0 ∧ PySem.W.kitOne K (.ref D) (.ref A.NoWorth) = some b1 ∧ PySem.W.kitOne K (.ref D) (.type "ValueError") = some true ∧
  ∀ H' p, Same H H' → H' p = some (.tup [.bl b0, .bl b1, .bl true]) → Q (.ref p) H'
/-! what is no net -/
theorem netR_no {k : Kd} {n : Int} {rs : List Rd} (h : ¬ (1 ≤ n ∧ n ≤ 8) ∨ 64 < rs.length) : netR k n rs = some false := by unfold netR; rw [if_pos h]
theorem netR_off {k : Kd} {n : Int} {rs : List Rd} {r : Rd} (hr : r ∈ rs) (h : inN n r = false) : netR k n rs = some false := by
  unfold netR
  split
  · rfl
  · rw [if_pos (List.all_eq_false.2 ⟨r, hr, by rw [h]; exact Bool.false_ne_true⟩)]
theorem netR_over {n : Int} {rs : List Rd} (h : overN n rs = true) : netR .cha n rs = some false := by
  unfold netR
  split
  · rfl
  · split
    · rfl
    · rw [if_pos ⟨rfl, h⟩]
theorem shs_app (p : Int) (l1 l2 : List Rd) : ∀ a, (l1 ++ l2).foldl (fun a r => a + shOne p r) a = l2.foldl (fun a r => a + shOne p r) (l1.foldl (fun a r => a + shOne p r) a) := fun a => List.foldl_append
theorem shs_ins {p : Int} {l1 l2 : List Rd} {b : Rd} (h : isW .cha b.w = false) : shs p (l1 ++ b :: l2) = shs p (l1 ++ l2) := by
  unfold shs
  rw [shs_app, shs_app]
  have : shOne p b = 0 := by unfold shOne; rw [if_neg fun z => by rw [h] at z; exact Bool.false_ne_true z.2]
  show l2.foldl _ (_ + shOne p b) = _
  rw [this, Rat.add_zero]
theorem netR_bad {k : Kd} {n : Int} {l1 l2 : List Rd} {b : Rd} (h : netR k n (l1 ++ l2) = none) (hl : (l1 ++ l2).length ≤ 63) (hi : inN n b = true) (hw : isW k b.w = false) : netR k n (l1 ++ b :: l2) = some true := by
  unfold netR at h
  split at h
  · cases h
  rename_i c1
  split at h
  · cases h
  rename_i c2
  split at h
  · cases h
  rename_i c3
  rw [Bool.not_eq_false, List.all_append, Bool.and_eq_true] at c2
  unfold netR
  rw [if_neg, if_neg, if_neg, if_neg]
  · rw [Bool.not_eq_true, List.all_eq_false]
    exact ⟨b, by simp, by rw [hw]; exact Bool.false_ne_true⟩
  · rintro ⟨rfl, ho⟩
    refine c3 ⟨rfl, ?_⟩
    rw [← ho]
    unfold overN
    congr 1
    funext p
    rw [shs_ins hw]
  · rw [Bool.not_eq_false, List.all_append, List.all_cons, c2.1, hi, c2.2]; rfl
  · rintro (z | z)
    · exact c1 (.inl z)
    · rw [List.length_append, List.length_cons] at z
      rw [List.length_append] at hl
      omega
theorem shz_cap (p : Int) : ∀ (rs : List Rd) (a : Nat), (∀ r ∈ rs, szOne p r ≤ 101) → rs.foldl (fun a r => a + szOne p r) a ≤ a + 101 * rs.length
  | [], a, _ => Nat.le_refl _
  | r :: rs, a, h => by
    have e := h r List.mem_cons_self
    have := shz_cap p rs (a + szOne p r) fun x hx => h x (List.mem_cons_of_mem _ hx)
    rw [List.length_cons]
    show rs.foldl _ (a + szOne p r) ≤ _
    omega
theorem shz_65 {rs : List Rd} (h : ∀ p, ∀ r ∈ rs, szOne p r ≤ 101) (hl : rs.length ≤ 65) (p : Int) : shz p rs ≤ 7000 := by
  have := shz_cap p rs 1 (h p)
  have : 101 * rs.length ≤ 101 * 65 := Nat.mul_le_mul_left _ hl
  show rs.foldl _ 1 ≤ _
  omega
theorem szOne_bad {p : Int} {r : Rd} (h : isW .cha r.w = false) : szOne p r ≤ 101 := by
  unfold szOne; rw [if_neg fun z => by rw [h] at z; exact Bool.false_ne_true z.2]; omega
theorem szOne_rw {p : Int} {r : Rw} (g : Good .cha r.w) (h : sz r.w ≤ 100) : szOne p r.rd ≤ 101 := by
  unfold szOne
  split
  · show sz (.rat (vr r.w.vx)) + 1 ≤ 101
    rw [vr_vx g, ← wq_eq g]; omega
  · omega
theorem over_two {n : Nat} {rs : List Rw} (hn : 1 ≤ n) (g : ∀ r ∈ rs, Good .cha r.w) : overN n (rs.map Rw.rd ++ [⟨0, 0, .par 1 2⟩, ⟨0, 0, .par 2 3⟩]) = true := by
  unfold overN
  rw [List.any_eq_true]
  refine ⟨0, List.mem_range.2 (by omega), decide_eq_true ?_⟩
  unfold shs
  rw [shs_app]
  have e : (rs.map Rw.rd).foldl (fun a r => a + shOne ((0 : Nat) : Int) r) 0 = sumW 0 rs := shs_eq 0 rs 0 g
  rw [e]
  have s0 := (sumF_le 0 rs g).1
  have a1 : shOne ((0 : Nat) : Int) ⟨0, 0, .par 1 2⟩ = 1 / 2 := by decide +kernel
  have a2 : shOne ((0 : Nat) : Int) ⟨0, 0, .par 2 3⟩ = 2 / 3 := by decide +kernel
  show 1 < sumW 0 rs + shOne ((0 : Nat) : Int) ⟨0, 0, .par 1 2⟩ + shOne ((0 : Nat) : Int) ⟨0, 0, .par 2 3⟩
  rw [a1, a2]
  grind
theorem inN_s {n e : Int} (h : e < 0 ∨ n ≤ e) (t : Int) (x : Vx) : inN n ⟨e, t, x⟩ = false := by
  unfold inN
  show (if 0 ≤ e then _ else false) = false
  by_cases h0 : 0 ≤ e
  · rw [if_pos h0, if_neg (show ¬ e < n by omega)]
  · rw [if_neg h0]
theorem inN_t {n e : Int} (h : e < 0 ∨ n ≤ e) (s : Int) (x : Vx) : inN n ⟨s, e, x⟩ = false := by
  unfold inN
  show (if 0 ≤ s then if s < n then if 0 ≤ e then decide (e < n) else false else false else false) = false
  split
  · split
    · by_cases h0 : 0 ≤ e
      · rw [if_pos h0]; exact decide_eq_false (by omega)
      · rw [if_neg h0]
    · rfl
  · rfl
/-- of the roads handed in: what is told -/
def Due (k : Kd) (mn : Int) (rds : List Rd) (b0 b1 b2 : Bool) : Prop := (b0 = true ∧ b1 = false ∧ b2 = true ∧ netR k mn rds = some false) ∨ (b0 = false ∧ b1 = true ∧ b2 = true ∧ netR k mn rds = some true)
theorem szOne_fine {p : Int} {r : Rd} (h : r.w = (noneW .cha).vx) : szOne p r ≤ 101 := by
  unfold szOne
  split
  · rw [h]; decide +kernel
  · omega
theorem al_rep {α : Type} {R : V → α → Prop} {v : V} {r : α} (h : R v r) (m : Nat) : Al R (List.replicate m v) (List.replicate m r) := by
  refine ⟨by rw [List.length_replicate, List.length_replicate], fun i v' r' e1 e2 => ?_⟩
  rw [List.getElem?_replicate] at e1 e2
  split at e1
  · rename_i hi
    rw [if_pos hi] at e2
    cases e1; cases e2; exact h
  · cases e1
theorem seq_splitT {t rest : TS} {D : Ends} {σ : L2.St} {H : Hp} (PM : L2.St → Hp → Prop) (cont : ∀ σ' H', PM σ' H' → rest D σ' H') (h : ∀ R : TS, (∀ σ' H', PM σ' H' → R D σ' H') → tSeq t R D σ H) : tSeq t rest D σ H := h rest cont
def spTurned (K : PySem.W.Frag) : Sp := fun vs H Q _ => ∃ (a : Addr) (ns : List Int) (k : Kd) (n : Nat) (la : Addr) (ys : List V) (rs : List Rw), vs = [.ref a, .int (wh k), .int n, .ref la] ∧ SqL K H a (ns.map V.int) ∧ ns.length ≤ 63 ∧ KOk k ∧ NetF k n rs ∧ rs.length ≤ 20 ∧ H la = some (.lst ys) ∧ Al (RwAt H) ys rs ∧
  ∀ H' p q (mn : Int) l' zs (rds : List Rd) b0 b1 b2, Same H H' → H' p = some (.tup [.int mn, .ref l', .ref q]) → H' q = some (.tup [.bl b0, .bl b1, .bl b2]) → H' l' = some (.lst zs) → Al (RdAt H') zs rds → rds.length ≤ 65 → (k = .cha → ∀ p, ∀ r ∈ rds, szOne p r ≤ 101) →
    ((b0 = false ∧ b1 = false ∧ b2 = false ∧ mn = n ∧ zs = ys ∧ rds = rs.map Rw.rd) ∨ Due k mn rds b0 b1 b2) → Q (.ref p) H'
def dRw (r : Rw) : PyData := .tuple [.int r.s, .int r.t, dw r.w]
theorem nice_rw (r : Rw) : Nice 2 (dRw r) := nice_tup fun d hd => by
  simp only [List.mem_cons, List.not_mem_nil, or_false] at hd
  rcases hd with rfl | rfl | rfl
  · exact ⟨(nice_int _).1, (nice_int _).2, by have := (nice_int (r.s : Int)).3; omega⟩
  · exact ⟨(nice_int _).1, (nice_int _).2, by have := (nice_int (r.t : Int)).3; omega⟩
  · exact nice_w _
theorem nice_rws (rs : List Rw) : Nice 3 (.list (rs.map dRw)) := nice_lst fun d hd => by
  obtain ⟨r, _, rfl⟩ := List.mem_map.1 hd; exact nice_rw r
theorem nice_b3 {x y z : Bool} : Nice 1 (.tuple [.bool x, .bool y, .bool z]) := nice_tup fun d hd => by
  have hb : ∀ b : Bool, Nice 0 (.bool b) := fun b => ⟨by simp [PyData.eqv], by simp [PyData.canLay0], by simp [PyData.depth]⟩
  simp only [List.mem_cons, List.not_mem_nil, or_false] at hd
  rcases hd with rfl | rfl | rfl <;> exact hb _
section
variable {K : PySem.W.Frag} {H : Hp}
theorem dp_rw {v : V} {r : Rw} (h : RwAt H v r) : Dp K H v (dRw r) := by
  obtain ⟨p, y, rfl, hp, hw⟩ := h
  exact .tup (SqT.of hp) (.cons (.int _) (.cons (.int _) (.cons (dp_w hw) .nil)))
theorem dpAll_rws : ∀ {ys : List V} {rs : List Rw}, Al (RwAt H) ys rs → DpAll K H ys (rs.map dRw)
  | [], [], _ => .nil
  | [], _ :: _, h => by have := h.1; simp at this
  | _ :: _, [], h => by have := h.1; simp at this
  | y :: ys, r :: rs, h => .cons (dp_rw (h.2 0 y r rfl rfl)) (dpAll_rws ⟨Nat.succ.inj h.1, fun i v q h1 h2 => h.2 (i + 1) v q h1 h2⟩)
theorem dp_rws {a : Addr} {ys : List V} {rs : List Rw} (ha : H a = some (.lst ys)) (h : Al (RwAt H) ys rs) : Dp K H (.ref a) (.list (rs.map dRw)) := .lst (SqL.of ha) (dpAll_rws h)
end
section
variable {P : Program} {w : World} {K : PySem.W.Frag} {mg : Str → Option Value} {base : Heap} {A : Ad} {f : Addr} {fd : FuncData}
theorem fe_which (T : Tx K mg A) (D : Dfn K mg "_law_which" s__law_which ["e"] f fd) : FcE P w K mg base 1 "_law_which" (spWhich K A) := by
  have sc : FnScope ["e"] ["e"] (defScope s__law_which) := fsc (by decide +kernel)
  refine ⟨f, fd, "e", fn_ofE D sc fun cdv _ outer s H a oe cls d Q hz hf hr h => ?_, D.g, D.F.kp, D.b⟩
  obtain ⟨D, b0, b1, rfl, rfl, hC, h0, h1, h2, q⟩ := h
  refine ⟨_, (pss_one (ps_ret (pe_tup (pa_cons (pe_callB (call_isP List.mem_cons_self hz hf) (by rfl) T.n_isinstance (by decide +kernel) (pa_cons (pv 0) (pa_cons (pe_glob (v := .ref A.NoNet) rfl T.x_NoNet.g rfl) pa_nil))) (pa_cons (pe_callB (call_isP List.mem_cons_self hz hf) (by rfl) T.n_isinstance (by decide +kernel) (pa_cons (pv 0) (pa_cons (pe_glob (v := .ref A.NoWorth) rfl T.x_NoWorth.g rfl) pa_nil))) (pa_cons (pe_callB (call_isP List.mem_cons_self hz hf) (by rfl) T.n_isinstance (by decide +kernel) (pa_cons (pv 0) (pa_cons (pe_bltn (v := .ty "ValueError") (by rfl) T.n_ValueError (by decide +kernel) rfl) pa_nil))) pa_nil)))))), ?_⟩
  refine ⟨_, rfl, D, rfl, rfl, hC, _, _, _, rfl, cv_ref, h0, ?_⟩
  refine ⟨_, rfl, D, rfl, rfl, hC, _, _, _, rfl, cv_ref, h1, ?_⟩
  refine ⟨_, rfl, D, rfl, rfl, hC, _, _, _, rfl, cv_ty, h2, size3', fun p hp => q _ _ (same_upd hp) upd_same⟩
theorem fc_turned (T : Tx K mg A) (CE : Fc CX0 P w K mg base 1 "_law_cell_at" (spCell K)) (NO : Fc CX0 P w K mg base 1 "_law_none" (spLaw0 noneW)) (D : Dfn K mg "_law_turned" s__law_turned ["script", "which", "many", "roads"] f fd) : Fc CX0 P w K mg base 2 "_law_turned" (spTurned K) := by
  have sc : FnScope ["script", "which", "many", "roads", "way", "cell", "far", "due", "worth", "end", "at", "fine", "road"] ["script", "which", "many", "roads"] (defScope s__law_turned) := fsc (by decide +kernel)
  refine fc0 D sc (fun vs H Q E h => ?_) (fun cdv _ outer s H vs Q E hr h => ?_)
  · obtain ⟨a, ns, k, n, la, ys, rs, rfl, _⟩ := h; rfl
  · obtain ⟨a, ns, k, n, la, ys, rs, rfl, hS, hlen, hko, hF, hl20, hL, hA, q⟩ := h
    refine ⟨_, (pss_cons (ps_set (i := 4) sc.nd rfl (.inl rfl) (pe_op op_mod (pe_f CE hr (by decide) pass0 rfl (pa_cons (pv 0) (pa_cons pe_int pa_nil))) pe_int)) (pss_cons (ps_set (i := 5) sc.nd rfl (.inl rfl) (pe_f CE hr (by decide) pass0 rfl (pa_cons (pv 0) (pa_cons pe_int pa_nil)))) (pss_cons (ps_set (i := 6) sc.nd rfl (.inl rfl) (pe_op op_mod (pe_f CE hr (by decide) pass0 rfl (pa_cons (pv 0) (pa_cons pe_int pa_nil))) (pe_op op_pow pe_int pe_int))) (pss_cons (ps_set (i := 7) sc.nd rfl (.inl rfl) (pe_tup (pa_cons pe_bl (pa_cons pe_bl (pa_cons pe_bl pa_nil))))) (pss_cons (ps_set (i := 8) sc.nd rfl (.inl rfl) (pe_ix ix_list (pe_lst (pa_cons (pe_op op_sub (pe_un un_neg pe_int) (pv 6)) (pa_cons (pe_tup (pa_cons pe_int (pa_cons pe_int pa_nil))) (pa_cons (pe_tup (pa_cons pe_int (pa_cons pe_int pa_nil))) pa_nil)))) (pe_op op_mod (pe_op op_fdiv (pv 5) pe_int) pe_int) (fun _ _ => rfl))) (pss_cons (ps_if (pt_cmpR op_in_seq (pv 1) (pe_tup (pa_cons pe_int (pa_cons pe_int pa_nil))) (by rfl)) (pss_one (ps_set (i := 8) sc.nd rfl (.inl rfl) (pe_ix ix_list (pe_lst (pa_cons (pe_tup (pa_cons pe_int (pa_cons pe_int pa_nil))) (pa_cons (pe_op op_sub (pe_un un_neg pe_int) (pv 6)) (pa_cons pe_non (pa_cons (pe_tup (pa_cons pe_int (pa_cons pe_int pa_nil))) (pa_cons (pe_tup (pa_cons (pe_un un_neg pe_int) (pa_cons pe_int pa_nil))) pa_nil)))))) (pe_op op_mod (pe_op op_fdiv (pv 5) pe_int) pe_int) (fun _ _ => rfl)))) pss_nil) (pss_cons (ps_set (i := 9) sc.nd rfl (.inl rfl) (pe_ix ix_list (pe_lst (pa_cons (pe_op op_sub (pe_un un_neg pe_int) (pv 6)) (pa_cons (pv 2) (pa_cons (pe_op op_add (pv 2) (pv 6)) pa_nil)))) (pe_op op_mod (pe_op op_fdiv (pv 5) pe_int) pe_int) (fun _ _ => rfl))) (pss_cons (ps_set (i := 10) sc.nd rfl (.inl rfl) (pe_op op_mod (pv 5) (pe_op op_add (pe_callB call_len_seq (by rfl) T.n_len PySem.boot_len (pa_cons (pv 3) pa_nil)) pe_int))) (pss_cons (ps_set (i := 11) sc.nd rfl (.inl rfl) (pe_f NO hr (by decide) pass0 rfl (pa_cons (pv 1) pa_nil))) (pss_cons (ps_if (ptE 4) (pss_cons (ps_set (i := 2) sc.nd rfl (.inl rfl) (pe_ix ix_list (pe_lst (pa_cons pe_int (pa_cons (pe_op op_sub (pe_un un_neg pe_int) (pv 6)) (pa_cons pe_int (pa_cons (pe_op op_add pe_int (pv 6)) pa_nil))))) (pe_op op_mod (pv 5) pe_int) (fun _ _ => rfl))) (pss_one (ps_set (i := 7) sc.nd rfl (.inl rfl) (pe_tup (pa_cons pe_bl (pa_cons pe_bl (pa_cons pe_bl pa_nil))))))) pss_nil) (pss_cons (ps_if (ptE 4) (pss_cons (ps_set (i := 3) sc.nd rfl (.inl rfl) (pe_slice sl_list (pe_op op_cat (pv 3) (pe_op op_rep (pe_lst (pa_cons (pe_tup (pa_cons pe_int (pa_cons pe_int (pa_cons (pv 11) pa_nil)))) pa_nil)) pe_int)) po_none (po_some pe_int))) (pss_one (ps_set (i := 7) sc.nd rfl (.inl rfl) (pe_tup (pa_cons pe_bl (pa_cons pe_bl (pa_cons pe_bl pa_nil))))))) pss_nil) (pss_cons (ps_if (ptE 4) (pss_cons (ps_set (i := 12) sc.nd rfl (.inl rfl) (pe_ix ix_list (pe_lst (pa_cons (pe_tup (pa_cons (pv 9) (pa_cons pe_int (pa_cons (pv 11) pa_nil)))) (pa_cons (pe_tup (pa_cons pe_int (pa_cons (pv 9) (pa_cons (pv 11) pa_nil)))) pa_nil))) (pe_op op_mod (pe_op op_fdiv (pv 5) pe_int) pe_int) (fun _ _ => rfl))) (pss_cons (ps_set (i := 3) sc.nd rfl (.inl rfl) (pe_op op_cat (pe_op op_cat (pe_slice sl_list (pv 3) po_none (po_some (pv 10))) (pe_lst (pa_cons (pv 12) pa_nil))) (pe_slice sl_list (pv 3) (po_some (pv 10)) po_none))) (pss_one (ps_set (i := 7) sc.nd rfl (.inl rfl) (pe_tup (pa_cons pe_bl (pa_cons pe_bl (pa_cons pe_bl pa_nil)))))))) pss_nil) (pss_cons (ps_if (ptE 4) (pss_cons (ps_set (i := 3) sc.nd rfl (.inl rfl) (pe_op op_cat (pe_op op_cat (pe_slice sl_list (pv 3) po_none (po_some (pv 10))) (pe_lst (pa_cons (pe_tup (pa_cons pe_int (pa_cons (pe_op op_sub (pv 2) pe_int) (pa_cons (pv 8) pa_nil)))) pa_nil))) (pe_slice sl_list (pv 3) (po_some (pv 10)) po_none))) (pss_one (ps_set (i := 7) sc.nd rfl (.inl rfl) (pe_tup (pa_cons pe_bl (pa_cons pe_bl (pa_cons pe_bl pa_nil))))))) pss_nil) (pss_cons (ps_if (ptE 4) (pss_cons (ps_set (i := 3) sc.nd rfl (.inl rfl) (pe_op op_cat (pe_op op_cat (pe_op op_cat (pe_slice sl_list (pv 3) po_none (po_some (pv 10))) (pe_lst (pa_cons (pe_tup (pa_cons pe_int (pa_cons (pe_op op_sub (pv 2) pe_int) (pa_cons (pv 8) pa_nil)))) pa_nil))) (pe_slice sl_list (pv 3) (po_some (pv 10)) po_none)) (pe_lst (pa_cons (pe_tup (pa_cons (pv 9) (pa_cons pe_int (pa_cons (pv 11) pa_nil)))) pa_nil)))) (pss_one (ps_set (i := 7) sc.nd rfl (.inl rfl) (pe_tup (pa_cons pe_bl (pa_cons pe_bl (pa_cons pe_bl pa_nil))))))) pss_nil) (pss_one (ps_ret (pe_tup (pa_cons (pv 2) (pa_cons (pv 3) (pa_cons (pv 7) pa_nil)))))))))))))))))))), ?_⟩
    have w0 : 0 ≤ cell ns 1 % 6 := Int.emod_nonneg _ (by decide)
    have w6 : cell ns 1 % 6 < 6 := Int.emod_lt_of_pos _ (by decide)
    have f0 : 0 ≤ cell ns 3 % 10 ^ (59 : Int).toNat := Int.emod_nonneg _ (by decide)
    have ylen : ys.length = rs.length := hA.1
    refine seq_splitT (fun σ' H' => H' = H ∧ ∃ wy, 0 ≤ wy ∧ wy < 6 ∧ σ' = [some (.ref a), some (.int (wh k)), some (.int n), some (.ref la), some (.int wy), none, none, none, none, none, none, none, none]) (fun σ H4 h4 => ?_) (fun R cont => ⟨_, rfl, a, ns, 1, rfl, hS, hlen, _, _, rfl, rfl, (by show (0 : Int) < 6; decide), cont _ _ ⟨rfl, cell ns 1 % 6, w0, w6, rfl⟩⟩)
    obtain ⟨rfl, wy, w0, w6, rfl⟩ := h4
    refine seq_splitT (fun σ' H' => H' = H4 ∧ ∃ c, σ' = [some (.ref a), some (.int (wh k)), some (.int n), some (.ref la), some (.int wy), some (.int c), none, none, none, none, none, none, none]) (fun σ H5 h5 => ?_) (fun R cont => ⟨_, rfl, a, ns, 2, rfl, hS, hlen, cont _ _ ⟨rfl, cell ns 2, rfl⟩⟩)
    obtain ⟨rfl, c, rfl⟩ := h5
    refine seq_splitT (fun σ' H' => H' = H5 ∧ ∃ far, 0 ≤ far ∧ σ' = [some (.ref a), some (.int (wh k)), some (.int n), some (.ref la), some (.int wy), some (.int c), some (.int far), none, none, none, none, none, none]) (fun σ H6 h6 => ?_) (fun R cont => ?_)
    rotate_left
    · refine ⟨_, rfl, a, ns, 3, rfl, hS, hlen, _, _, rfl, rfl, ⟨by decide, by decide, by decide⟩, _, _, rfl, rfl, (by show (0 : Int) < 10 ^ 59; decide), ?_⟩
      exact cont _ _ ⟨rfl, cell ns 3 % 10 ^ (59 : Int).toNat, f0, rfl⟩
    obtain ⟨rfl, far, f0, rfl⟩ := h6
    refine seq_splitT (fun σ' H' => Same H6 H' ∧ ∃ d0, H' d0 = some (.tup [.bl false, .bl false, .bl false]) ∧ σ' = [some (.ref a), some (.int (wh k)), some (.int n), some (.ref la), some (.int wy), some (.int c), some (.int far), some (.ref d0), none, none, none, none, none]) (fun σ H1 h1 => ?_) (fun R cont => ?_)
    rotate_left
    · refine ⟨size3', fun d0 hd0 => ?_⟩
      exact cont _ _ ⟨same_upd hd0, d0, upd_same, rfl⟩
    obtain ⟨s1, d0, hd1, rfl⟩ := h1
    refine seq_splitT (fun σ' H' => Same H1 H' ∧ ∃ z wx, Vv H' z wx ∧ (k ≠ .lik → k ≠ .cha → isW k wx = false) ∧ σ' = [some (.ref a), some (.int (wh k)), some (.int n), some (.ref la), some (.int wy), some (.int c), some (.int far), some (.ref d0), some z, none, none, none, none]) (fun σ H2 h2 => ?_) (fun R cont => ?_)
    rotate_left
    · refine ⟨_, rfl, _, rfl, _, _, rfl, rfl, size2, fun t1 ht1 => ⟨size2, fun t2 ht2 => ⟨Nat.le_of_lt (sizeLt (n := 3) (by decide)), fun l hl => ?_⟩⟩⟩
      have u1 := same_upd (o := HO.tup [V.int 2, V.int 4]) ht1
      have u2 := same_upd (o := HO.tup [V.int 1, V.int 1]) ht2
      have u3 := same_upd (o := HO.lst [V.int (-2 - far), .ref t1, .ref t2]) hl
      have v1 := u3 _ _ (u2 _ _ (upd_same (H := H1) (a := t1) (o := HO.tup [V.int 2, V.int 4])))
      have v2 := u3 _ _ (upd_same (a := t2) (o := HO.tup [V.int 1, V.int 1]))
      obtain ⟨y, hy, e⟩ := atI_in (l := [.int (-2 - far), .ref t1, .ref t2]) (Int.emod_nonneg (c / 7) (show (3 : Int) ≠ 0 by decide)) (Int.emod_lt_of_pos _ (by decide))
      refine ⟨_, rfl, _, _, rfl, rfl, ⟨by decide, by decide⟩, _, _, rfl, rfl, (by show (0 : Int) < 3; decide), l, _, _, _, rfl, rfl, SqL.of upd_same, e, cont _ _ ⟨(u1.trans u2).trans u3, y, ?_⟩⟩
      simp only [List.mem_cons, List.not_mem_nil, or_false] at hy
      rcases hy with rfl | rfl | rfl
      · refine ⟨.int (-2 - far), rfl, fun n1 n2 => ?_, rfl⟩
        cases k <;> simp [isW] <;> omega
      · refine ⟨.par 2 4, ⟨t1, rfl, v1⟩, fun n1 n2 => ?_, rfl⟩
        cases k <;> simp [isW] at n1 n2 ⊢
      · refine ⟨.par 1 1, ⟨t2, rfl, v2⟩, fun n1 n2 => ?_, rfl⟩
        cases k <;> simp [isW] at n1 n2 ⊢
    obtain ⟨s2, z8, wx0, hwx0, hwk0, rfl⟩ := h2
    refine seq_splitT (fun σ' H' => Same H2 H' ∧ ∃ z wx, Vv H' z wx ∧ isW k wx = false ∧ σ' = [some (.ref a), some (.int (wh k)), some (.int n), some (.ref la), some (.int wy), some (.int c), some (.int far), some (.ref d0), some z, none, none, none, none]) (fun σ H3 h3 => ?_) (fun R cont => ?_)
    rotate_left
    · refine ⟨_, rfl, size2, fun t0 ht0 => ⟨t0, _, rfl, .inr (SqT.of upd_same), rfl, rfl, _, rfl, ?_⟩⟩
      have u0 := same_upd (o := HO.tup [V.int 3, V.int 4]) ht0
      generalize upd H2 t0 (HO.tup [V.int 3, V.int 4]) = H3 at u0 ⊢
      by_cases hk : k = .lik ∨ k = .cha
      · refine ifT (by rcases hk with rfl | rfl <;> rfl) ?_
        refine ⟨size2, fun t1 ht1 => ⟨_, rfl, _, rfl, _, _, rfl, rfl, size2, fun t2 ht2 => ⟨_, rfl, size2, fun t3 ht3 => ⟨Nat.le_of_lt (sizeLt (n := 5) (by decide)), fun l hl => ?_⟩⟩⟩⟩
        have u1 := same_upd (o := HO.tup [V.int 1, V.int 0]) ht1
        have u2 := same_upd (o := HO.tup [V.int 2, V.int 4]) ht2
        have u3 := same_upd (o := HO.tup [V.int (-1), V.int 2]) ht3
        have u4 := same_upd (o := HO.lst [.ref t1, V.int (-2 - far), .non, .ref t2, .ref t3]) hl
        have v1 := u4 _ _ (u3 _ _ (u2 _ _ (upd_same (H := H3) (a := t1) (o := HO.tup [V.int 1, V.int 0]))))
        have v2 := u4 _ _ (u3 _ _ (upd_same (a := t2) (o := HO.tup [V.int 2, V.int 4])))
        have v3 := u4 _ _ (upd_same (a := t3) (o := HO.tup [V.int (-1), V.int 2]))
        obtain ⟨y, hy, e⟩ := atI_in (l := [.ref t1, V.int (-2 - far), .non, .ref t2, .ref t3]) (Int.emod_nonneg (c / 7) (show (5 : Int) ≠ 0 by decide)) (Int.emod_lt_of_pos _ (by decide))
        refine ⟨_, rfl, _, _, rfl, rfl, ⟨by decide, by decide⟩, _, _, rfl, rfl, (by show (0 : Int) < 5; decide), l, _, _, _, rfl, rfl, SqL.of upd_same, e, cont _ _ ⟨(((u0.trans u1).trans u2).trans u3).trans u4, y, ?_⟩⟩
        simp only [List.mem_cons, List.not_mem_nil, or_false] at hy
        rcases hy with rfl | rfl | rfl | rfl | rfl
        · refine ⟨.par 1 0, ⟨t1, rfl, v1⟩, ?_, rfl⟩
          rcases hk with rfl | rfl <;> decide +kernel
        · refine ⟨.int (-2 - far), rfl, ?_, rfl⟩
          rcases hk with rfl | rfl <;> rfl
        · refine ⟨.non, rfl, ?_, rfl⟩
          rcases hk with rfl | rfl <;> rfl
        · refine ⟨.par 2 4, ⟨t2, rfl, v2⟩, ?_, rfl⟩
          rcases hk with rfl | rfl <;> decide +kernel
        · refine ⟨.par (-1) 2, ⟨t3, rfl, v3⟩, ?_, rfl⟩
          rcases hk with rfl | rfl <;> decide +kernel
      · exact ifF (by cases k <;> first | rfl | exact absurd (Or.inl rfl) hk | exact absurd (Or.inr rfl) hk) (cont _ H3 ⟨u0, z8, wx0, hwx0.same u0, hwk0 (fun z => hk (.inl z)) (fun z => hk (.inr z)), rfl⟩)
    obtain ⟨s3, z8', wx, hwx, hwk, rfl⟩ := h3
    have hL3 := s3 _ _ (s2 _ _ (s1 _ _ hL))
    refine seq_splitT (fun σ' H' => Same H3 H' ∧ ∃ e : Int, (e < 0 ∨ (n : Int) ≤ e) ∧ σ' = [some (.ref a), some (.int (wh k)), some (.int n), some (.ref la), some (.int wy), some (.int c), some (.int far), some (.ref d0), some z8', some (.int e), none, none, none]) (fun σ H4 h4 => ?_) (fun R cont => ?_)
    rotate_left
    · refine ⟨_, rfl, _, rfl, _, _, rfl, rfl, _, rfl, _, rfl, _, rfl, _, _, rfl, rfl, Nat.le_of_lt (sizeLt (n := 3) (by decide)), fun l hl => ?_⟩
      obtain ⟨y, hy, ey⟩ := atI_in (l := [.int (-1 - far), .int n, .int (n + far)]) (Int.emod_nonneg (c / 40) (show (3 : Int) ≠ 0 by decide)) (Int.emod_lt_of_pos _ (by decide))
      obtain ⟨i, rfl, hi⟩ : ∃ i : Int, y = .int i ∧ (i < 0 ∨ (n : Int) ≤ i) := by
        simp only [List.mem_cons, List.not_mem_nil, or_false] at hy
        rcases hy with h | h | h <;> exact ⟨_, h, by omega⟩
      refine ⟨_, rfl, _, _, rfl, rfl, ⟨by decide, by decide⟩, _, _, rfl, rfl, (by show (0 : Int) < 3; decide), l, _, _, _, rfl, rfl, SqL.of upd_same, ey, ?_⟩
      exact cont _ _ ⟨same_upd hl, i, hi, rfl⟩
    obtain ⟨s4, e, he, rfl⟩ := h4
    have hL4 := s4 _ _ hL3
    refine seq_splitT (fun σ' H' => H' = H4 ∧ ∃ at' : Nat, at' ≤ ys.length ∧ σ' = [some (.ref a), some (.int (wh k)), some (.int n), some (.ref la), some (.int wy), some (.int c), some (.int far), some (.ref d0), some z8', some (.int e), some (.int at'), none, none]) (fun σ H5 h5 => ?_) (fun R cont => ?_)
    rotate_left
    · refine ⟨_, rfl, _, rfl, la, _, rfl, .inl (SqL.of hL4), _, _, rfl, rfl, _, _, rfl, rfl, (by omega : (0 : Int) < (ys.length : Nat) + 1), ?_⟩
      have b0 : 0 ≤ c % ((ys.length : Int) + 1) := Int.emod_nonneg _ (by omega)
      have b1 : c % ((ys.length : Int) + 1) < (ys.length : Int) + 1 := Int.emod_lt_of_pos _ (by omega)
      obtain ⟨at', hat'⟩ := nn _ b0
      refine cont _ _ ⟨rfl, at', by omega, ?_⟩
      rw [← hat']; rfl
    obtain ⟨rfl, at', hat, rfl⟩ := h5
    refine seq_splitT (fun σ' H' => Same H5 H' ∧ ∃ zf, Wv H' zf (noneW k) ∧ σ' = [some (.ref a), some (.int (wh k)), some (.int n), some (.ref la), some (.int wy), some (.int c), some (.int far), some (.ref d0), some z8', some (.int e), some (.int at'), some zf, none]) (fun σ H6' h6 => ?_) (fun R cont => ?_)
    rotate_left
    · refine ⟨_, rfl, k, rfl, fun H6' z s6 hz => ?_⟩
      exact cont _ _ ⟨s6, z, hz, rfl⟩
    obtain ⟨s5, zf, hzf, rfl⟩ := h6
    have s15 := ((s2.trans s3).trans s4).trans s5
    have s05 := s1.trans s15
    have hL5 := s5 _ _ hL4
    have hA5 := (hA.same s05).rd
    have hd5 := s15 _ _ hd1
    have hw5 := (hwx.same s4).same s5
    have hf5 := hzf.vx
    have hn1 := hF.n1
    have hn8 := hF.n8
    have hall := netR_ok hF
    have hsz : k = .cha → ∀ p, ∀ r ∈ rs.map Rw.rd, szOne p r ≤ 101 := fun hc p r hr => by
      obtain ⟨r0, h0, rfl⟩ := List.mem_map.1 hr
      have := (hF.ok r0 h0).1
      rw [hc] at this
      exact szOne_rw this ((hF.cha hc).2 r0 h0)
    have rl : (rs.map Rw.rd).length = ys.length := by rw [List.length_map]; exact ylen.symm
    obtain ⟨rds, hrds⟩ : ∃ rds, rds = rs.map Rw.rd := ⟨_, rfl⟩
    rw [← hrds] at hA5 hall hsz rl
    have ecut1 : cutV ys none (some (at' : Int)) = ys.take at' := cut_take hat
    have ecut2 : cutV ys (some (at' : Int)) none = ys.drop at' := cut_drop hat
    have hy20 : ys.length ≤ 20 := by omega
    have esp : rds.take at' ++ rds.drop at' = rds := List.take_append_drop _ _
    clear hwx hzf s2 s3 s4 s5 hL3 hL4
    have wc : wy = 0 ∨ wy = 1 ∨ wy = 2 ∨ wy = 3 ∨ wy = 4 ∨ wy = 5 := by omega
    rcases wc with rfl | rfl | rfl | rfl | rfl | rfl
    · refine ⟨_, rfl, rfl, _, rfl, ifF (decide_eq_false (by simp)) ?_⟩
      refine ⟨_, rfl, rfl, _, rfl, ifF (decide_eq_false (by simp)) ?_⟩
      refine ⟨_, rfl, rfl, _, rfl, ifF (decide_eq_false (by simp)) ?_⟩
      refine ⟨_, rfl, rfl, _, rfl, ifF (decide_eq_false (by simp)) ?_⟩
      refine ⟨_, rfl, rfl, _, rfl, ifF (decide_eq_false (by simp)) ?_⟩
      refine ⟨_, rfl, _, rfl, _, rfl, size3', fun p hp => ?_⟩
      have u := same_upd (o := HO.tup [.int (n : Int), .ref la, .ref d0]) hp
      exact q _ p d0 n la ys rds false false false (s05.trans u) upd_same (u _ _ hd5) (u _ _ hL5) (hA5.imp fun _ _ z => z.same u) (by omega) hsz (.inl ⟨rfl, rfl, rfl, rfl, rfl, hrds⟩)
    · refine ⟨_, rfl, rfl, _, rfl, ifT (decide_eq_true rfl) ?_⟩
      refine ⟨_, rfl, _, rfl, _, _, rfl, rfl, _, rfl, _, _, rfl, rfl, Nat.le_of_lt (sizeLt (n := 4) (by decide)), fun l hl => ?_⟩
      obtain ⟨y, hy, ey⟩ := atI_in (l := [.int 0, .int (-1 - far), .int 9, .int (9 + far)]) (Int.emod_nonneg c (show (4 : Int) ≠ 0 by decide)) (Int.emod_lt_of_pos _ (by decide))
      obtain ⟨i, rfl, hi⟩ : ∃ i : Int, y = .int i ∧ ¬ (1 ≤ i ∧ i ≤ 8) := by
        simp only [List.mem_cons, List.not_mem_nil, or_false] at hy
        rcases hy with h | h | h | h <;> exact ⟨_, h, by omega⟩
      refine ⟨_, rfl, _, _, rfl, rfl, (by show (0 : Int) < 4; decide), l, _, _, _, rfl, rfl, SqL.of upd_same, ey, ?_⟩
      have g1 := same_upd (o := HO.lst [.int 0, .int (-1 - far), .int 9, .int (9 + far)]) hl
      generalize upd H6' l (HO.lst [.int 0, .int (-1 - far), .int 9, .int (9 + far)]) = G1 at g1 ⊢
      have gT := s05.trans g1
      have gL := g1 _ _ hL5
      have gA := hA5.imp fun _ _ z => z.same g1
      refine ⟨size3', fun d1 hd1' => ?_⟩
      have v1 := same_upd (o := HO.tup [.bl true, .bl false, .bl true]) hd1'
      have dd : (upd G1 d1 (HO.tup [.bl true, .bl false, .bl true])) d1 = _ := upd_same
      generalize upd G1 d1 (HO.tup [.bl true, .bl false, .bl true]) = G9 at v1 dd ⊢
      refine ⟨_, rfl, rfl, _, rfl, ifF (decide_eq_false (by simp)) ?_⟩
      refine ⟨_, rfl, rfl, _, rfl, ifF (decide_eq_false (by simp)) ?_⟩
      refine ⟨_, rfl, rfl, _, rfl, ifF (decide_eq_false (by simp)) ?_⟩
      refine ⟨_, rfl, rfl, _, rfl, ifF (decide_eq_false (by simp)) ?_⟩
      refine ⟨_, rfl, _, rfl, _, rfl, size3', fun p hp => ?_⟩
      have u := same_upd (o := HO.tup [.int i, .ref la, .ref d1]) hp
      exact q _ p d1 i la ys rds true false true ((gT.trans v1).trans u) upd_same (u _ _ dd) (u _ _ (v1 _ _ gL)) ((gA.imp fun _ _ z => z.same v1).imp fun _ _ z => z.same u) (by omega) hsz (.inr (.inl ⟨rfl, rfl, rfl, netR_no (.inl hi)⟩))
    · refine ⟨_, rfl, rfl, _, rfl, ifF (decide_eq_false (by simp)) ?_⟩
      refine ⟨_, rfl, rfl, _, rfl, ifT (decide_eq_true rfl) ?_⟩
      refine ⟨_, rfl, _, rfl, size3', fun t1 ht1 => ⟨Nat.le_of_lt (sizeLt (n := 1) (by decide)), fun l hl => ?_⟩⟩
      have g1 := (same_upd (o := HO.tup [.int 0, .int 0, zf]) ht1).trans (same_upd (o := HO.lst [.ref t1]) hl)
      have e1 := same_upd (o := HO.lst [.ref t1]) hl _ _ (upd_same (H := H6') (a := t1) (o := HO.tup [.int 0, .int 0, zf]))
      have e2 : (upd (upd H6' t1 (HO.tup [.int 0, .int 0, zf])) l (HO.lst [.ref t1])) l = _ := upd_same
      generalize upd (upd H6' t1 (HO.tup [.int 0, .int 0, zf])) l (HO.lst [.ref t1]) = G1 at g1 e1 e2 ⊢
      refine ⟨l, 65, _, rfl, rfl, e2, by decide, by decide, Nat.le_of_lt (sizeLt (n := 65) (by decide)), fun r hr' => ?_⟩
      have er : (List.replicate (65 : Int).toNat [V.ref t1]).flatten = List.replicate 65 (V.ref t1) := List.flatten_replicate_singleton
      rw [er]
      have g2 := same_upd (o := HO.lst (List.replicate 65 (V.ref t1))) hr'
      have e3 : (upd G1 r (HO.lst (List.replicate 65 (V.ref t1)))) r = _ := upd_same
      generalize upd G1 r (HO.lst (List.replicate 65 (V.ref t1))) = G2 at g2 e3 ⊢
      have g12 := g1.trans g2
      refine ⟨la, r, ys, _, rfl, rfl, g12 _ _ hL5, e3, Nat.le_of_lt (sizeLt (by rw [List.length_replicate]; omega)), fun r2 hr2 => ?_⟩
      have g3 := same_upd (o := HO.lst (ys ++ List.replicate 65 (V.ref t1))) hr2
      have e4 : (upd G2 r2 (HO.lst (ys ++ List.replicate 65 (V.ref t1)))) r2 = _ := upd_same
      generalize upd G2 r2 (HO.lst (ys ++ List.replicate 65 (V.ref t1))) = G3 at g3 e4 ⊢
      refine ⟨_, rfl, r2, _, rfl, SqL.of e4, fun r3 hr3 => ?_⟩
      have ec : cutV (ys ++ List.replicate 65 (V.ref t1)) none (some 65) = (ys ++ List.replicate 65 (V.ref t1)).take 65 := cut_take (t := 65) (by rw [List.length_append, List.length_replicate]; omega)
      rw [ec]
      have g4 := same_upd (o := HO.lst ((ys ++ List.replicate 65 (V.ref t1)).take 65)) hr3
      have gL : (upd G3 r3 (HO.lst ((ys ++ List.replicate 65 (V.ref t1)).take 65))) r3 = _ := upd_same
      generalize upd G3 r3 (HO.lst ((ys ++ List.replicate 65 (V.ref t1)).take 65)) = G4 at g4 gL ⊢
      have g14 := (g12.trans g3).trans g4
      have gT := s05.trans g14
      have fi : RdAt G4 (.ref t1) ⟨0, 0, (noneW k).vx⟩ := ⟨t1, zf, rfl, ((g2.trans g3).trans g4) _ _ e1, hf5.same g14⟩
      have gA := (((hA5.imp fun _ _ z => z.same g14).append (al_rep fi 65)).take 65)
      have ln : ((rds ++ List.replicate 65 (⟨0, 0, (noneW k).vx⟩ : Rd)).take 65).length = 65 := by
        rw [List.length_take, List.length_append, List.length_replicate]; omega
      refine ⟨size3', fun d1 hd1' => ?_⟩
      have v1 := same_upd (o := HO.tup [.bl true, .bl false, .bl true]) hd1'
      have dd : (upd G4 d1 (HO.tup [.bl true, .bl false, .bl true])) d1 = _ := upd_same
      generalize upd G4 d1 (HO.tup [.bl true, .bl false, .bl true]) = G9 at v1 dd ⊢
      refine ⟨_, rfl, rfl, _, rfl, ifF (decide_eq_false (by simp)) ?_⟩
      refine ⟨_, rfl, rfl, _, rfl, ifF (decide_eq_false (by simp)) ?_⟩
      refine ⟨_, rfl, rfl, _, rfl, ifF (decide_eq_false (by simp)) ?_⟩
      refine ⟨_, rfl, _, rfl, _, rfl, size3', fun p hp => ?_⟩
      have u := same_upd (o := HO.tup [.int n, .ref r3, .ref d1]) hp
      exact q _ p d1 n r3 _ _ true false true ((gT.trans v1).trans u) upd_same (u _ _ dd) (u _ _ (v1 _ _ gL)) ((gA.imp fun _ _ z => z.same v1).imp fun _ _ z => z.same u) (by omega) (fun hc p r hr => by
        rcases List.mem_append.1 (List.mem_of_mem_take hr) with h | h
        · exact hsz hc p r h
        · rw [(List.mem_replicate.1 h).2]; exact szOne_fine (by rw [hc])) (.inr (.inl ⟨rfl, rfl, rfl, netR_no (.inr (by omega))⟩))
    · refine ⟨_, rfl, rfl, _, rfl, ifF (decide_eq_false (by simp)) ?_⟩
      refine ⟨_, rfl, rfl, _, rfl, ifF (decide_eq_false (by simp)) ?_⟩
      refine ⟨_, rfl, rfl, _, rfl, ifT (decide_eq_true rfl) ?_⟩
      refine ⟨_, rfl, _, rfl, size3', fun t1 ht1 => ⟨_, rfl, _, rfl, size3', fun t2 ht2 => ⟨Nat.le_of_lt (sizeLt (n := 2) (by decide)), fun l hl => ?_⟩⟩⟩
      have a1 := same_upd (o := HO.tup [.int e, .int 0, zf]) ht1
      have a2 := same_upd (o := HO.tup [.int 0, .int e, zf]) ht2
      have a3 := same_upd (o := HO.lst [.ref t1, .ref t2]) hl
      have b1 := a3 _ _ (a2 _ _ (upd_same (H := H6') (a := t1) (o := HO.tup [.int e, .int 0, zf])))
      have b2 := a3 _ _ (upd_same (a := t2) (o := HO.tup [.int 0, .int e, zf]))
      have a13 := (a1.trans a2).trans a3
      obtain ⟨v, hy, ey⟩ := atI_in (l := [.ref t1, .ref t2]) (Int.emod_nonneg (c / 120) (show (2 : Int) ≠ 0 by decide)) (Int.emod_lt_of_pos _ (by decide))
      refine ⟨_, rfl, _, _, rfl, rfl, ⟨by decide, by decide⟩, _, _, rfl, rfl, (by show (0 : Int) < 2; decide), l, _, _, _, rfl, rfl, SqL.of upd_same, ey, ?_⟩
      obtain ⟨rb, hv0, hin, hwf⟩ : ∃ rb, RdAt (upd (upd (upd H6' t1 (HO.tup [.int e, .int 0, zf])) t2 (HO.tup [.int 0, .int e, zf])) l (HO.lst [.ref t1, .ref t2])) v rb ∧ inN n rb = false ∧ rb.w = (noneW k).vx := by
        simp only [List.mem_cons, List.not_mem_nil, or_false] at hy
        rcases hy with rfl | rfl
        · exact ⟨⟨e, 0, (noneW k).vx⟩, ⟨t1, zf, rfl, b1, hf5.same a13⟩, inN_s he _ _, rfl⟩
        · exact ⟨⟨0, e, (noneW k).vx⟩, ⟨t2, zf, rfl, b2, hf5.same a13⟩, inN_t he _ _, rfl⟩
      generalize upd (upd (upd H6' t1 (HO.tup [.int e, .int 0, zf])) t2 (HO.tup [.int 0, .int e, zf])) l (HO.lst [.ref t1, .ref t2]) = G0 at a13 hv0 ⊢
      clear a1 a2 a3 b1 b2
      refine ⟨_, rfl, _, rfl, _, rfl, la, _, rfl, SqL.of (a13 _ _ hL5), fun c1 hc1 => ?_⟩
      rw [ecut1]
      have g1 := a13.trans (same_upd (o := HO.lst (ys.take at')) hc1)
      have g1' := same_upd (o := HO.lst (ys.take at')) hc1
      have e1 : (upd G0 c1 (HO.lst (ys.take at'))) c1 = _ := upd_same
      generalize upd G0 c1 (HO.lst (ys.take at')) = G1 at g1 g1' e1 ⊢
      refine ⟨_, rfl, Nat.le_of_lt (sizeLt (n := 1) (by decide)), fun c2 hc2 => ?_⟩
      have hv := hv0.same g1'
      have g2 := g1
      have e1' := e1
      have hrbz : k = .cha → ∀ p, szOne p rb ≤ 101 := fun hc p => szOne_fine (by rw [hwf, hc])
      have g3' := same_upd (o := HO.lst [v]) hc2
      have e3 := g3' _ _ e1'
      have e2 : (upd G1 c2 (HO.lst [v])) c2 = _ := upd_same
      generalize upd G1 c2 (HO.lst [v]) = G3 at g3' e3 e2 ⊢
      refine ⟨c1, c2, _, _, rfl, rfl, e3, e2, Nat.le_of_lt (sizeLt (by rw [List.length_take]; show _ + 1 < _; omega)), fun c3 hc3 => ?_⟩
      have g4' := same_upd (o := HO.lst (ys.take at' ++ [v])) hc3
      have e4 : (upd G3 c3 (HO.lst (ys.take at' ++ [v]))) c3 = _ := upd_same
      generalize upd G3 c3 (HO.lst (ys.take at' ++ [v])) = G4 at g4' e4 ⊢
      have g24 := g3'.trans g4'
      refine ⟨_, rfl, _, rfl, _, rfl, la, _, rfl, SqL.of (g24 _ _ (g2 _ _ hL5)), fun c4 hc4 => ?_⟩
      rw [ecut2]
      have g5' := same_upd (o := HO.lst (ys.drop at')) hc4
      have e5 := g5' _ _ e4
      have e6 : (upd G4 c4 (HO.lst (ys.drop at'))) c4 = _ := upd_same
      generalize upd G4 c4 (HO.lst (ys.drop at')) = G5 at g5' e5 e6 ⊢
      refine ⟨c3, c4, _, _, rfl, rfl, e5, e6, Nat.le_of_lt (sizeLt (by rw [List.length_append, List.length_take, List.length_drop]; show _ + 1 + _ < _; omega)), fun c5 hc5 => ?_⟩
      have g6' := same_upd (o := HO.lst (ys.take at' ++ [v] ++ ys.drop at')) hc5
      have gL : (upd G5 c5 (HO.lst (ys.take at' ++ [v] ++ ys.drop at'))) c5 = _ := upd_same
      generalize upd G5 c5 (HO.lst (ys.take at' ++ [v] ++ ys.drop at')) = G6 at g6' gL ⊢
      have g26 := (g24.trans g5').trans g6'
      have g06 := g2.trans g26
      have gT := s05.trans g06
      have hA6 := hA5.imp fun _ _ z => z.same g06
      have gA := ((hA6.take at').append (Al.nil.snoc (hv.same g26))).append (hA6.drop at')
      have ei : rds.take at' ++ ([] ++ [rb]) ++ rds.drop at' = rds.take at' ++ rb :: rds.drop at' := by rw [List.nil_append, List.append_assoc]; rfl
      rw [ei] at gA
      have ln : (rds.take at' ++ rb :: rds.drop at').length = rds.length + 1 := by
        rw [List.length_append, List.length_cons, List.length_take, List.length_drop]; omega
      have szi : k = .cha → ∀ p, ∀ r ∈ rds.take at' ++ rb :: rds.drop at', szOne p r ≤ 101 := fun hc p r hr => by
        rcases List.mem_append.1 hr with h | h
        · exact hsz hc p r (List.mem_of_mem_take h)
        · rcases List.mem_cons.1 h with rfl | h
          · exact hrbz hc p
          · exact hsz hc p r (List.mem_of_mem_drop h)
      refine ⟨size3', fun d1 hd1' => ?_⟩
      have v1 := same_upd (o := HO.tup [.bl true, .bl false, .bl true]) hd1'
      have dd : (upd G6 d1 (HO.tup [.bl true, .bl false, .bl true])) d1 = _ := upd_same
      generalize upd G6 d1 (HO.tup [.bl true, .bl false, .bl true]) = G9 at v1 dd ⊢
      refine ⟨_, rfl, rfl, _, rfl, ifF (decide_eq_false (by simp)) ?_⟩
      refine ⟨_, rfl, rfl, _, rfl, ifF (decide_eq_false (by simp)) ?_⟩
      refine ⟨_, rfl, _, rfl, _, rfl, size3', fun p hp => ?_⟩
      have u := same_upd (o := HO.tup [.int n, .ref c5, .ref d1]) hp
      exact q _ p d1 n c5 _ _ true false true ((gT.trans v1).trans u) upd_same (u _ _ dd) (u _ _ (v1 _ _ gL)) ((gA.imp fun _ _ z => z.same v1).imp fun _ _ z => z.same u) (by omega) szi (.inr (.inl ⟨rfl, rfl, rfl, netR_off (r := rb) (List.mem_append_right _ List.mem_cons_self) hin⟩))
    · refine ⟨_, rfl, rfl, _, rfl, ifF (decide_eq_false (by simp)) ?_⟩
      refine ⟨_, rfl, rfl, _, rfl, ifF (decide_eq_false (by simp)) ?_⟩
      refine ⟨_, rfl, rfl, _, rfl, ifF (decide_eq_false (by simp)) ?_⟩
      refine ⟨_, rfl, rfl, _, rfl, ifT (decide_eq_true rfl) ?_⟩
      refine ⟨_, rfl, _, rfl, _, rfl, la, _, rfl, SqL.of ((Same.refl H6') _ _ hL5), fun c1 hc1 => ?_⟩
      rw [ecut1]
      have g1 := (Same.refl H6').trans (same_upd (o := HO.lst (ys.take at')) hc1)
      have g1' := same_upd (o := HO.lst (ys.take at')) hc1
      have e1 : (upd H6' c1 (HO.lst (ys.take at'))) c1 = _ := upd_same
      generalize upd H6' c1 (HO.lst (ys.take at')) = G1 at g1 g1' e1 ⊢
      refine ⟨_, rfl, _, _, rfl, rfl, _, rfl, size3', fun t1 ht1 => ?_⟩
      dsimp only [tNil, List.append_nil]
      refine ⟨Nat.le_of_lt (sizeLt (n := 1) (by decide)), fun c2 hc2 => ?_⟩
      have g2' := same_upd (o := HO.tup [.int 0, .int ((n : Int) - 1), z8']) ht1
      have e1' := g2' _ _ e1
      have g2 := g1.trans g2'
      obtain ⟨v, hvv⟩ : ∃ v, v = V.ref t1 := ⟨_, rfl⟩
      obtain ⟨rb, hrb⟩ : ∃ rb : Rd, rb = ⟨0, (n : Int) - 1, wx⟩ := ⟨_, rfl⟩
      have hv : RdAt (upd G1 t1 (HO.tup [.int 0, .int ((n : Int) - 1), z8'])) v rb := by
        rw [hrb]; exact ⟨t1, z8', hvv, upd_same, hw5.same g2⟩
      have hbw : isW k rb.w = false := by rw [hrb]; exact hwk
      have hrbz : k = .cha → ∀ p, szOne p rb ≤ 101 := fun hc p => szOne_bad (by rw [← hc]; exact hbw)
      have hin : inN n rb = true := by
        rw [hrb]; unfold inN
        rw [if_pos (show (0 : Int) ≤ 0 by omega), if_pos (show (0 : Int) < n by omega), if_pos (show (0 : Int) ≤ (n : Int) - 1 by omega)]
        exact decide_eq_true (show (n : Int) - 1 < n by omega)
      rw [← hvv]
      generalize upd G1 t1 (HO.tup [.int 0, .int ((n : Int) - 1), z8']) = G2 at g2' e1' g2 hv hc2 ⊢
      have g3' := same_upd (o := HO.lst [v]) hc2
      have e3 := g3' _ _ e1'
      have e2 : (upd G2 c2 (HO.lst [v])) c2 = _ := upd_same
      generalize upd G2 c2 (HO.lst [v]) = G3 at g3' e3 e2 ⊢
      refine ⟨c1, c2, _, _, rfl, rfl, e3, e2, Nat.le_of_lt (sizeLt (by rw [List.length_take]; show _ + 1 < _; omega)), fun c3 hc3 => ?_⟩
      have g4' := same_upd (o := HO.lst (ys.take at' ++ [v])) hc3
      have e4 : (upd G3 c3 (HO.lst (ys.take at' ++ [v]))) c3 = _ := upd_same
      generalize upd G3 c3 (HO.lst (ys.take at' ++ [v])) = G4 at g4' e4 ⊢
      have g24 := g3'.trans g4'
      refine ⟨_, rfl, _, rfl, _, rfl, la, _, rfl, SqL.of (g24 _ _ (g2 _ _ hL5)), fun c4 hc4 => ?_⟩
      rw [ecut2]
      have g5' := same_upd (o := HO.lst (ys.drop at')) hc4
      have e5 := g5' _ _ e4
      have e6 : (upd G4 c4 (HO.lst (ys.drop at'))) c4 = _ := upd_same
      generalize upd G4 c4 (HO.lst (ys.drop at')) = G5 at g5' e5 e6 ⊢
      refine ⟨c3, c4, _, _, rfl, rfl, e5, e6, Nat.le_of_lt (sizeLt (by rw [List.length_append, List.length_take, List.length_drop]; show _ + 1 + _ < _; omega)), fun c5 hc5 => ?_⟩
      have g6' := same_upd (o := HO.lst (ys.take at' ++ [v] ++ ys.drop at')) hc5
      have gL : (upd G5 c5 (HO.lst (ys.take at' ++ [v] ++ ys.drop at'))) c5 = _ := upd_same
      generalize upd G5 c5 (HO.lst (ys.take at' ++ [v] ++ ys.drop at')) = G6 at g6' gL ⊢
      have g26 := (g24.trans g5').trans g6'
      have g06 := g2.trans g26
      have gT := s05.trans g06
      have hA6 := hA5.imp fun _ _ z => z.same g06
      have gA := ((hA6.take at').append (Al.nil.snoc (hv.same g26))).append (hA6.drop at')
      have ei : rds.take at' ++ ([] ++ [rb]) ++ rds.drop at' = rds.take at' ++ rb :: rds.drop at' := by rw [List.nil_append, List.append_assoc]; rfl
      rw [ei] at gA
      have ln : (rds.take at' ++ rb :: rds.drop at').length = rds.length + 1 := by
        rw [List.length_append, List.length_cons, List.length_take, List.length_drop]; omega
      have szi : k = .cha → ∀ p, ∀ r ∈ rds.take at' ++ rb :: rds.drop at', szOne p r ≤ 101 := fun hc p r hr => by
        rcases List.mem_append.1 hr with h | h
        · exact hsz hc p r (List.mem_of_mem_take h)
        · rcases List.mem_cons.1 h with rfl | h
          · exact hrbz hc p
          · exact hsz hc p r (List.mem_of_mem_drop h)
      refine ⟨size3', fun d1 hd1' => ?_⟩
      have v1 := same_upd (o := HO.tup [.bl false, .bl true, .bl true]) hd1'
      have dd : (upd G6 d1 (HO.tup [.bl false, .bl true, .bl true])) d1 = _ := upd_same
      generalize upd G6 d1 (HO.tup [.bl false, .bl true, .bl true]) = G9 at v1 dd ⊢
      refine ⟨_, rfl, rfl, _, rfl, ifF (decide_eq_false (by simp)) ?_⟩
      refine ⟨_, rfl, _, rfl, _, rfl, size3', fun p hp => ?_⟩
      have u := same_upd (o := HO.tup [.int n, .ref c5, .ref d1]) hp
      exact q _ p d1 n c5 _ _ false true true ((gT.trans v1).trans u) upd_same (u _ _ dd) (u _ _ (v1 _ _ gL)) ((gA.imp fun _ _ z => z.same v1).imp fun _ _ z => z.same u) (by omega) szi (.inr (.inr ⟨rfl, rfl, rfl, netR_bad (by rw [esp]; exact hall) (by rw [esp]; omega) hin hbw⟩))
    · refine ⟨_, rfl, rfl, _, rfl, ifF (decide_eq_false (by simp)) ?_⟩
      refine ⟨_, rfl, rfl, _, rfl, ifF (decide_eq_false (by simp)) ?_⟩
      refine ⟨_, rfl, rfl, _, rfl, ifF (decide_eq_false (by simp)) ?_⟩
      refine ⟨_, rfl, rfl, _, rfl, ifF (decide_eq_false (by simp)) ?_⟩
      refine ⟨_, rfl, rfl, _, rfl, ifT (decide_eq_true rfl) ?_⟩
      refine ⟨_, rfl, _, rfl, _, rfl, la, _, rfl, SqL.of ((Same.refl H6') _ _ hL5), fun c1 hc1 => ?_⟩
      rw [ecut1]
      have g1 := (Same.refl H6').trans (same_upd (o := HO.lst (ys.take at')) hc1)
      have g1' := same_upd (o := HO.lst (ys.take at')) hc1
      have e1 : (upd H6' c1 (HO.lst (ys.take at'))) c1 = _ := upd_same
      generalize upd H6' c1 (HO.lst (ys.take at')) = G1 at g1 g1' e1 ⊢
      refine ⟨_, rfl, _, _, rfl, rfl, _, rfl, size3', fun t1 ht1 => ?_⟩
      dsimp only [tNil, List.append_nil]
      refine ⟨Nat.le_of_lt (sizeLt (n := 1) (by decide)), fun c2 hc2 => ?_⟩
      have g2' := same_upd (o := HO.tup [.int 0, .int ((n : Int) - 1), z8']) ht1
      have e1' := g2' _ _ e1
      have g2 := g1.trans g2'
      obtain ⟨v, hvv⟩ : ∃ v, v = V.ref t1 := ⟨_, rfl⟩
      obtain ⟨rb, hrb⟩ : ∃ rb : Rd, rb = ⟨0, (n : Int) - 1, wx⟩ := ⟨_, rfl⟩
      have hv : RdAt (upd G1 t1 (HO.tup [.int 0, .int ((n : Int) - 1), z8'])) v rb := by
        rw [hrb]; exact ⟨t1, z8', hvv, upd_same, hw5.same g2⟩
      have hbw : isW k rb.w = false := by rw [hrb]; exact hwk
      have hrbz : k = .cha → ∀ p, szOne p rb ≤ 101 := fun hc p => szOne_bad (by rw [← hc]; exact hbw)
      have hin : inN n rb = true := by
        rw [hrb]; unfold inN
        rw [if_pos (show (0 : Int) ≤ 0 by omega), if_pos (show (0 : Int) < n by omega), if_pos (show (0 : Int) ≤ (n : Int) - 1 by omega)]
        exact decide_eq_true (show (n : Int) - 1 < n by omega)
      rw [← hvv]
      generalize upd G1 t1 (HO.tup [.int 0, .int ((n : Int) - 1), z8']) = G2 at g2' e1' g2 hv hc2 ⊢
      have g3' := same_upd (o := HO.lst [v]) hc2
      have e3 := g3' _ _ e1'
      have e2 : (upd G2 c2 (HO.lst [v])) c2 = _ := upd_same
      generalize upd G2 c2 (HO.lst [v]) = G3 at g3' e3 e2 ⊢
      refine ⟨c1, c2, _, _, rfl, rfl, e3, e2, Nat.le_of_lt (sizeLt (by rw [List.length_take]; show _ + 1 < _; omega)), fun c3 hc3 => ?_⟩
      have g4' := same_upd (o := HO.lst (ys.take at' ++ [v])) hc3
      have e4 : (upd G3 c3 (HO.lst (ys.take at' ++ [v]))) c3 = _ := upd_same
      generalize upd G3 c3 (HO.lst (ys.take at' ++ [v])) = G4 at g4' e4 ⊢
      have g24 := g3'.trans g4'
      refine ⟨_, rfl, _, rfl, _, rfl, la, _, rfl, SqL.of (g24 _ _ (g2 _ _ hL5)), fun c4 hc4 => ?_⟩
      rw [ecut2]
      have g5' := same_upd (o := HO.lst (ys.drop at')) hc4
      have e5 := g5' _ _ e4
      have e6 : (upd G4 c4 (HO.lst (ys.drop at'))) c4 = _ := upd_same
      generalize upd G4 c4 (HO.lst (ys.drop at')) = G5 at g5' e5 e6 ⊢
      refine ⟨c3, c4, _, _, rfl, rfl, e5, e6, Nat.le_of_lt (sizeLt (by rw [List.length_append, List.length_take, List.length_drop]; show _ + 1 + _ < _; omega)), fun c5 hc5 => ?_⟩
      have g6' := same_upd (o := HO.lst (ys.take at' ++ [v] ++ ys.drop at')) hc5
      have gL : (upd G5 c5 (HO.lst (ys.take at' ++ [v] ++ ys.drop at'))) c5 = _ := upd_same
      generalize upd G5 c5 (HO.lst (ys.take at' ++ [v] ++ ys.drop at')) = G6 at g6' gL ⊢
      have g26 := (g24.trans g5').trans g6'
      have g06 := g2.trans g26
      have gT := s05.trans g06
      have hA6 := hA5.imp fun _ _ z => z.same g06
      have gA := ((hA6.take at').append (Al.nil.snoc (hv.same g26))).append (hA6.drop at')
      have ei : rds.take at' ++ ([] ++ [rb]) ++ rds.drop at' = rds.take at' ++ rb :: rds.drop at' := by rw [List.nil_append, List.append_assoc]; rfl
      rw [ei] at gA
      have ln : (rds.take at' ++ rb :: rds.drop at').length = rds.length + 1 := by
        rw [List.length_append, List.length_cons, List.length_take, List.length_drop]; omega
      have szi : k = .cha → ∀ p, ∀ r ∈ rds.take at' ++ rb :: rds.drop at', szOne p r ≤ 101 := fun hc p r hr => by
        rcases List.mem_append.1 hr with h | h
        · exact hsz hc p r (List.mem_of_mem_take h)
        · rcases List.mem_cons.1 h with rfl | h
          · exact hrbz hc p
          · exact hsz hc p r (List.mem_of_mem_drop h)
      refine ⟨_, rfl, _, rfl, size3', fun t7 ht7 => ?_⟩
      dsimp only [tNil, List.append_nil]
      refine ⟨Nat.le_of_lt (sizeLt (n := 1) (by decide)), fun c7 hc7 => ?_⟩
      have k1 := same_upd (o := HO.tup [.int e, .int 0, zf]) ht7
      have k2 := same_upd (o := HO.lst [.ref t7]) hc7
      have f1 := k2 _ _ (upd_same (H := G6) (a := t7) (o := HO.tup [.int e, .int 0, zf]))
      have f2 : (upd (upd G6 t7 (HO.tup [.int e, .int 0, zf])) c7 (HO.lst [.ref t7])) c7 = _ := upd_same
      have k12 := k1.trans k2
      generalize upd (upd G6 t7 (HO.tup [.int e, .int 0, zf])) c7 (HO.lst [.ref t7]) = G7 at f1 f2 k12 ⊢
      have f3 := k12 _ _ gL
      refine ⟨c5, c7, _, _, rfl, rfl, f3, f2, Nat.le_of_lt (sizeLt (by rw [List.length_append, List.length_append, List.length_take, List.length_drop]; show _ + 1 + _ + 1 < _; omega)), fun c8 hc8 => ?_⟩
      have k3 := same_upd (o := HO.lst (ys.take at' ++ [v] ++ ys.drop at' ++ [.ref t7])) hc8
      have gL : (upd G7 c8 (HO.lst (ys.take at' ++ [v] ++ ys.drop at' ++ [.ref t7]))) c8 = _ := upd_same
      generalize upd G7 c8 (HO.lst (ys.take at' ++ [v] ++ ys.drop at' ++ [.ref t7])) = G8 at k3 gL ⊢
      have k13 := k12.trans k3
      have gT := gT.trans k13
      have fi : RdAt G8 (.ref t7) ⟨e, 0, (noneW k).vx⟩ := ⟨t7, zf, rfl, k3 _ _ f1, (hf5.same g06).same k13⟩
      have gA := (gA.imp fun _ _ z => z.same k13).snoc fi
      have ln2 : (rds.take at' ++ rb :: rds.drop at' ++ [(⟨e, 0, (noneW k).vx⟩ : Rd)]).length = rds.length + 2 := by
        rw [List.length_append, ln]; rfl
      have szi2 : k = .cha → ∀ p, ∀ r ∈ rds.take at' ++ rb :: rds.drop at' ++ [(⟨e, 0, (noneW k).vx⟩ : Rd)], szOne p r ≤ 101 := fun hc p r hr => by
        rcases List.mem_append.1 hr with h | h
        · exact szi hc p r h
        · rw [List.mem_singleton.1 h]; exact szOne_fine (by rw [hc])
      refine ⟨size3', fun d1 hd1' => ?_⟩
      have v1 := same_upd (o := HO.tup [.bl true, .bl false, .bl true]) hd1'
      have dd : (upd G8 d1 (HO.tup [.bl true, .bl false, .bl true])) d1 = _ := upd_same
      generalize upd G8 d1 (HO.tup [.bl true, .bl false, .bl true]) = G9 at v1 dd ⊢
      refine ⟨_, rfl, _, rfl, _, rfl, size3', fun p hp => ?_⟩
      have u := same_upd (o := HO.tup [.int n, .ref c8, .ref d1]) hp
      exact q _ p d1 n c8 _ _ true false true ((gT.trans v1).trans u) upd_same (u _ _ dd) (u _ _ (v1 _ _ gL)) ((gA.imp fun _ _ z => z.same v1).imp fun _ _ z => z.same u) (by omega) szi2 (.inr (.inl ⟨rfl, rfl, rfl, netR_off (r := ⟨e, 0, (noneW k).vx⟩) (List.mem_append_right _ List.mem_cons_self) (inN_s he _ _)⟩))
theorem ok_law (T : Tx K mg A) (F : Fun K "law" "law" s_law f fd) : FnOk P w K mg base CX0 20 f fd ["script"] (spLaw K) := by
  obtain ⟨_, _, D1⟩ := T.d__law_cell_at
  obtain ⟨_, _, D3⟩ := T.d__law_kind
  obtain ⟨_, _, D4⟩ := T.d__law_share
  obtain ⟨_, _, D5⟩ := T.d__law_none
  obtain ⟨_, _, D6⟩ := T.d__law_rest
  obtain ⟨_, _, D7⟩ := T.d__law_tog
  obtain ⟨_, _, D9⟩ := T.d__law_worth
  obtain ⟨_, _, D11⟩ := T.d__law_thinned
  obtain ⟨_, _, D12⟩ := T.d__law_net
  obtain ⟨_, _, D13⟩ := T.d__law_which
  obtain ⟨_, _, D14⟩ := T.d__law_turned
  have CE : Fc CX0 P w K mg base 1 "_law_cell_at" (spCell K) := fc_cell T.n_len D1
  have KI : Fc CX0 P w K mg base 3 "_law_kind" (spKindL A) := fc_kind T D3
  have SH : Fc CX0 P w K mg base 1 "_law_share" spLowest := fc_share D4
  have NO : Fc CX0 P w K mg base 1 "_law_none" (spLaw0 noneW) := fc_none D5
  have RE : Fc CX0 P w K mg base 1 "_law_rest" (spLaw0 restW) := fc_rest D6
  have TG : Fc CX0 P w K mg base 2 "_law_tog" spTogL := fc_togL T.n_min T.n_max SH D7
  have WO : Fc CX0 P w K mg base 2 "_law_worth" spWorthL := fc_worthL SH NO RE D9
  have TH : Fc CX0 P w K mg base 3 "_law_thinned" spThin := fc_thin TG SH D11
  have NL : Fc CX0 P w K mg base 4 "_law_net" (spNetL K) := fc_netL T CE WO TH D12
  have WH : FcE P w K mg base 1 "_law_which" (spWhich K A) := fe_which T D13
  have TU : Fc CX0 P w K mg base 2 "_law_turned" (spTurned K) := fc_turned T CE NO D14
  have NN : Nc (L2.CX P w) P w K mg base 6 "Net" A.Net (spNet A A.NoNet A.NoWorth) := th_Net T
  have sc : FnScope ["script", "which", "m", "kind", "drawn", "turned", "told", "handed", "net", "e"] ["script"] (defScope s_law) := fsc (by decide +kernel)
  refine F.ok (k := 19) sc (fun vs H Q E h => ?_) (fun cdv _ outer s H vs Q E hr h => ?_)
  · obtain ⟨a, ns, rfl, _⟩ := h; rfl
  · obtain ⟨a, ns, rfl, hS, hlen, q⟩ := h
    refine ⟨_, (pss_cons (ps_set (i := 1) sc.nd rfl (.inl rfl) (pe_op op_mod (pe_f CE hr (by decide) pass0 rfl (pa_cons (pv 0) (pa_cons pe_int pa_nil))) pe_int)) (pss_cons (ps_set (i := 2) sc.nd rfl (.inl rfl) (pe_op op_add pe_int (pe_op op_mod (pe_op op_fdiv (pe_f CE hr (by decide) pass0 rfl (pa_cons (pv 0) (pa_cons pe_int pa_nil))) pe_int) pe_int))) (pss_cons (ps_set (i := 3) sc.nd rfl (.inl rfl) (pe_f KI hr (by decide) pass0 rfl (pa_cons (pv 1) (pa_cons (pv 2) pa_nil)))) (pss_cons (ps_set (i := 4) sc.nd rfl (.inl rfl) (pe_f NL hr (by decide) pass0 rfl (pa_cons (pv 0) (pa_cons pe_int (pa_cons (pv 1) (pa_cons (pv 2) (pa_cons pe_int (pa_cons pe_int pa_nil)))))))) (pss_cons (ps_set (i := 5) sc.nd rfl (.inl rfl) (pe_f TU hr (by decide) pass0 rfl (pa_cons (pv 0) (pa_cons (pv 1) (pa_cons (pe_ix ix_tup (pv 4) pe_int (fun _ _ => rfl)) (pa_cons (pe_ix ix_tup (pv 4) pe_int (fun _ _ => rfl)) pa_nil)))))) (pss_cons (ps_set (i := 6) sc.nd rfl (.inl rfl) (pe_tup (pa_cons pe_bl (pa_cons pe_bl (pa_cons pe_bl pa_nil))))) (pss_cons (ps_set (i := 7) sc.nd rfl (.inl rfl) (pe_callTy call_listOf (by rfl) T.n_list (by decide +kernel) (pa_cons (pe_ix ix_tup (pv 5) pe_int (fun _ _ => rfl)) pa_nil))) (pss_cons (ps_try_as (i := 9) (tb := fun W => tSeq (tAsg (tNew A.Net (spNet A A.NoNet A.NoWorth) (WE W) (tCons (tVar 3) (tCons (tOp (rIxT K) (tVar 5) (tC (.int 0))) (tCons (tVar 7) tNil)))) (gName 8))
          (tSeq (tDrop (tBM0 K "list" rClear (tVar 7)))
          (tSeq (tIfS (tOr (tTest (tOp (rNeD K) (tKM A (fun i => spK0 A i restW) (fun _ => E0) (tMeth A.Net "kind" (spNkind A) [] E0 (tVar 8) tNil) tNil) (tCall (spLaw0 restW) [] E0 (tCons (tVar 1) tNil)))) (tOr (tTest (tOp rNe (tMeth A.Net "places" (spNplaces A) [] E0 (tVar 8) tNil) (tOp (rIxT K) (tVar 4) (tC (.int 0))))) (tTest (tOp (rNeD K) (tMeth A.Net "roads" (spNroads A) [] E0 (tVar 8) tNil) (tOp (rIxT K) (tVar 4) (tC (.int 1))))))) (tRet (tC (.bl false))) tNext)
          (tSeq (tDrop (tBM0 K "list" rClear (tMeth A.Net "roads" (spNroads A) [] E0 (tVar 8) tNil)))
          (tIfS (tTest (tOp (rNeD K) (tMeth A.Net "roads" (spNroads A) [] E0 (tVar 8) tNil) (tOp (rIxT K) (tVar 4) (tC (.int 1))))) (tRet (tC (.bl false))) tNext))))) (Wout := fun _ _ _ _ => False) rfl rfl sc.nd rfl rfl ⟨rfl, by decide, .inl T.x_SumError.g⟩ takes0
        (fun W pn xe tk _ => (pss_cons (ps_set (i := 8) sc.nd rfl (.inl rfl) (by exact (pe_ncS NN hr (by decide) (fun σ => passAt tk σ) rfl (pa_cons (pv 3) (pa_cons (pe_ix ix_tup (pv 5) pe_int (fun _ _ => rfl)) (pa_cons (pv 7) pa_nil)))))) (pss_cons (ps_expr (pe_bm0 PySem.F.plainAttrs_list PySem.F.slot_list_clear PySem.F.type_list_clear mt_clear (pv 7))) (pss_cons (ps_if (PW.pt (pw_or (pt_cmpR (op_neD hr.units) (pe_km0 (ES := fun _ => E0) (all_rest T) hr (by decide) passS (pe_m0 (th_Nkind T) hr (by decide) pass0 (pv 8))) (pe_f RE hr (by decide) pass0 rfl (pa_cons (pv 1) pa_nil)) (nomark _)) (pw_or (pt_cmpR op_ne (pe_m0 (th_Nplaces T) hr (by decide) pass0 (pv 8)) (pe_ix ix_tup (pv 4) pe_int (fun _ _ => rfl)) (nomark _)) (pw_or1 (pt_cmpR (op_neD hr.units) (pe_m0 (th_Nroads T) hr (by decide) pass0 (pv 8)) (pe_ix ix_tup (pv 4) pe_int (fun _ _ => rfl)) (nomark _)))))) (pss_one (ps_ret pe_bl)) pss_nil) (pss_cons (ps_expr (pe_bm0 PySem.F.plainAttrs_list PySem.F.slot_list_clear PySem.F.type_list_clear mt_clear (pe_m0 (th_Nroads T) hr (by decide) pass0 (pv 8)))) (pss_one (ps_if (pt_cmpR (op_neD hr.units) (pe_m0 (th_Nroads T) hr (by decide) pass0 (pv 8)) (pe_ix ix_tup (pv 4) pe_int (fun _ _ => rfl)) (nomark _)) (pss_one (ps_ret pe_bl)) pss_nil)))))))
        (fun a oe cls d pn hz hf => pss_one (ps_set (i := 6) sc.nd rfl (.inl rfl) (pe_fE WH (roomS hr (by decide) _) List.mem_cons_self hz hf rfl (pv 9))))) (pss_cons (ps_if (pt_cmpR (op_neD hr.units) (pv 6) (pe_ix ix_tup (pv 5) pe_int (fun _ _ => rfl)) (nomark _)) (pss_one (ps_ret pe_bl)) pss_nil) (pss_cons (ps_if (PW.pt (pw_and (ptE 1) (pw_and1 (pt_cmpR (op_eqD hr.units) (pv 6) (pe_tup (pa_cons pe_bl (pa_cons pe_bl (pa_cons pe_bl pa_nil)))) (nomark _))))) (pss_cons (ps_try_as (i := 9) (tb := fun W => tDrop (tNew A.Net (spNet A A.NoNet A.NoWorth) (WE W) (tCons (tVar 3) (tCons (tOp (rIxT K) (tVar 4) (tC (.int 0))) (tCons (tOp rCat (tOp (rIxT K) (tVar 4) (tC (.int 1))) (tLst (tCons (tTup (tCons (tC (.int 0)) (tCons (tC (.int 0)) (tCons (tTup (tCons (tC (.int 1)) (tCons (tC (.int 2)) tNil))) tNil)))) (tCons (tTup (tCons (tC (.int 0)) (tCons (tC (.int 0)) (tCons (tTup (tCons (tC (.int 2)) (tCons (tC (.int 3)) tNil))) tNil)))) tNil)))) tNil))))) (Wout := fun _ _ _ _ => False) rfl rfl sc.nd rfl rfl ⟨rfl, by decide, .inl T.x_SumError.g⟩ takes0
          (fun W pn xe tk _ => pss_one (ps_expr (by exact (pe_ncS NN hr (by decide) (fun σ => passAt tk σ) rfl (pa_cons (pv 3) (pa_cons (pe_ix ix_tup (pv 4) pe_int (fun _ _ => rfl)) (pa_cons (pe_op op_cat (pe_ix ix_tup (pv 4) pe_int (fun _ _ => rfl)) (pe_lst (pa_cons (pe_tup (pa_cons pe_int (pa_cons pe_int (pa_cons (pe_tup (pa_cons pe_int (pa_cons pe_int pa_nil))) pa_nil)))) (pa_cons (pe_tup (pa_cons pe_int (pa_cons pe_int (pa_cons (pe_tup (pa_cons pe_int (pa_cons pe_int pa_nil))) pa_nil)))) pa_nil)))) pa_nil)))))))
          (fun a oe cls d pn hz hf => pss_one (ps_ret (pe_cmpR (r := rEqD K) (op_eqD hr.units) (pe_fE WH (roomS hr (by decide) _) List.mem_cons_self hz hf rfl (pv 9)) (pe_tup (pa_cons pe_bl (pa_cons pe_bl (pa_cons pe_bl pa_nil)))) (nomark _))))) (pss_one (ps_ret pe_bl))) pss_nil) (pss_one (ps_ret pe_bl)))))))))))), ?_⟩
    have w0 : 0 ≤ cell ns 0 % 7 := Int.emod_nonneg _ (by decide)
    have w6 : cell ns 0 % 7 ≤ 6 := by have := Int.emod_lt_of_pos (cell ns 0) (show (0 : Int) < 7 by decide); omega
    have m0 : 0 ≤ cell ns 0 / 7 % 12 := Int.emod_nonneg _ (by decide)
    have m11 : cell ns 0 / 7 % 12 < 12 := Int.emod_lt_of_pos _ (by decide)
    obtain ⟨k, hk⟩ : ∃ k, kd (cell ns 0 % 7) (1 + cell ns 0 / 7 % 12) = k := ⟨_, rfl⟩
    have hwk : wh k = cell ns 0 % 7 := by rw [← hk]; exact wh_kd w0 w6
    have hko : KOk k := by rw [← hk]; exact kd_ok (by omega) (by omega)
    have hmm : ∀ m' : Nat, k = .rst m' → 1 + cell ns 0 / 7 % 12 = m' := fun m' e => kd_rst (by omega) (hk.trans e)
    have hav : Av k.x = true := by cases k <;> rfl
    have N := netD_draw ns 4 hko (most := 8) (extra := 20) (by decide) (fun _ => by decide)
    refine ⟨_, rfl, a, ns, 0, rfl, hS, hlen, _, _, rfl, rfl, (by show (0 : Int) < 7; decide), ?_⟩
    refine ⟨_, rfl, a, ns, 0, rfl, hS, hlen, _, _, rfl, rfl, ⟨by decide, by decide⟩, _, _, rfl, rfl, (by show (0 : Int) < 12; decide), _, _, rfl, rfl, ?_⟩
    refine ⟨_, rfl, _, rfl, k, _, by rw [hwk]; rfl, hko, hav, hmm, fun H1 kx s1 hkx => ?_⟩
    refine ⟨_, rfl, _, rfl, _, rfl, a, ns, 4, k, _, 8, 20, by rw [hwk]; rfl, s1.seq hS, hlen, hko, hmm, by decide, by decide, by decide, fun H2 p l ys s2 hl hp hl1 hA => ?_⟩
    generalize drawN ns 4 8 = n at N hp
    generalize drawL ns 4 k 8 20 = rs at N hA
    have F := N.f (by decide) (by decide)
    have hn1 := F.n1
    have hn8 := F.n8
    have rl20 := N.len
    have ylen : ys.length = rs.length := hA.1
    refine ⟨_, rfl, _, rfl, _, rfl, p, _, _, _, rfl, rfl, SqT.of hp, at0, _, rfl, p, _, _, _, rfl, rfl, SqT.of hp, at1, a, ns, k, n, l, ys, rs, by rw [hwk]; rfl, (s1.trans s2).seq hS, hlen, hko, F, rl20, hl1, hA, fun H3 p5 qd mn l' zs rds b0 b1 b2 s3 hp5 hqd hl' hA' hlen' hsz' hcase => ?_⟩
    refine ⟨size3', fun t6 ht6 => ?_⟩
    have s4 := same_upd (o := HO.tup [.bl false, .bl false, .bl false]) ht6
    have ht : (upd H3 t6 (HO.tup [.bl false, .bl false, .bl false])) t6 = _ := upd_same
    generalize upd H3 t6 (HO.tup [.bl false, .bl false, .bl false]) = H4 at s4 ht ⊢
    refine ⟨_, rfl, p5, _, _, _, rfl, rfl, SqT.of (s4 _ _ hp5), ix1, l', zs, rfl, .inl (SqL.of (s4 _ _ hl')), fun l7 hl7 => ?_⟩
    have s5 := same_upd (o := HO.lst zs) hl7
    have h7 : (upd H4 l7 (HO.lst zs)) l7 = _ := upd_same
    generalize upd H4 l7 (HO.lst zs) = H5 at s5 h7 ⊢
    have s24 := s3.trans s4
    have hp4 := s24 _ _ hp
    have hl4 := s24 _ _ hl1
    have hA4 := hA.same s24
    have hk4 := (hkx.same s2).same s24
    have hp54 := s4 _ _ hp5
    have hqd4 := s4 _ _ hqd
    have hA4' := hA'.imp fun _ _ z => z.same s4
    dsimp only [tAsg, gName]
    refine seq_splitT (fun σ' H' => Same H4 H' ∧ ∃ (t6 : Addr) (v8 : Option V), H' t6 = some (.tup [.bl b0, .bl b1, .bl b2]) ∧ σ' = [some (.ref a), some (.int (cell ns 0 % 7)), some (.int (1 + cell ns 0 / 7 % 12)), some (.ref kx), some (.ref p), some (.ref p5), some (.ref t6), some (.ref l7), v8, none]) (fun σ H6 h6 => ?_) (fun R cont => ?_)
    rotate_left
    · rcases hcase with ⟨rfl, rfl, rfl, rfl, rfl, rfl⟩ | hdue
      · refine ⟨_, rfl, _, rfl, p5, _, _, _, rfl, rfl, SqT.of (s5 _ _ hp54), ix0, _, rfl, fun x dx hxn hdxn _ => ?_⟩
        have hxl : l7 ≠ x := by rintro rfl; rw [h7] at hxn; cases hxn
        have s6 := same_new (C := A.Net) (fs := []) hxn hdxn
        refine ⟨x, dx, kx, l7, k, n, zs, rs.map Rw.rd, rfl, upd_same, (hk4.same s5).same s6, s6 _ _ h7, (hA4'.imp fun _ _ z => z.same s5).imp fun _ _ z => z.same s6, fun hc => shz_65 (hsz' hc) hlen', fun _ H7 ln sX hln hx7 hl7' => ?_, fun hn => absurd ((netR_ok F).symm.trans hn) (by simp), fun hn => absurd ((netR_ok F).symm.trans hn) (by simp)⟩
        have s45 := s5.trans s6
        have s47 : Same H4 H7 := fun b' o e => sX b' o (by rintro rfl; rw [s5 _ _ e] at hxn; cases hxn) (s45 b' o e)
        have h77 := sX l7 _ hxl (s6 _ _ h7)
        have hll : ln ≠ l7 := by rintro rfl; rw [s6 _ _ h7] at hln; cases hln
        refine ⟨rfl, _, rfl, .inl ⟨rfl, _, SqL.of h77⟩, l7, _, rfl, rfl, h77, ?_⟩
        have s48 : Same H4 (upd H7 l7 (.lst [])) := same_at s47 hl7
        have hN8 : NetAt A (upd H7 l7 (.lst [])) x k n rs := ⟨F.ok, dx, kx, ln, zs, by rw [upd_ne hxl.symm]; exact hx7, hk4.same s48, by rw [upd_ne hll]; exact hl7', hA4.same s48⟩
        generalize upd H7 l7 (HO.lst []) = H8 at s48 hN8 ⊢
        refine ⟨k, hav, tm_net rfl hN8 ⟨x, k, n, rs, rfl, hN8, fun kx2 hkx2 => ⟨kx2, rfl, hkx2, kx2, k, rfl, hkx2, rfl, fun H9 z9 s9 hz9 => ⟨_, rfl, k, by rw [hwk]; rfl, fun H10 z10 s10 hz10 => neD_w (hz9.same s10) hz10 ⟨_, rfl, ifF (by rw [decide_eq_true rfl]; rfl) ?_⟩⟩⟩⟩⟩
        have s810 := s9.trans s10
        have hN10 := hN8.same s810
        have s410 := s48.trans s810
        refine tm_net rfl hN10 ⟨x, k, n, rs, rfl, hN10, _, rfl, p, _, _, _, rfl, rfl, SqT.of (s410 _ _ hp4), at0, rfl, _, rfl, ifF (by simp) ?_⟩
        refine tm_net rfl hN10 ⟨x, k, n, rs, rfl, hN10, fun pr ysr hpr hAr => ⟨_, rfl, p, _, _, _, rfl, rfl, SqT.of (same_upd hpr _ _ (s410 _ _ hp4)), at1, neD_nice (by decide) (nice_rws rs) (dp_rws upd_same (hAr.same (same_upd hpr))) (dp_rws (same_upd hpr _ _ (s410 _ _ hl4)) ((hA4.same s410).same (same_upd hpr))) ⟨_, rfl, ifF rfl ?_⟩⟩⟩
        have s11 := same_upd (o := HO.lst ysr) hpr
        generalize upd H10 pr (HO.lst ysr) = H11 at s11 ⊢
        have hN11 := hN10.same s11
        refine tm_net rfl hN11 ⟨x, k, n, rs, rfl, hN11, fun pq ysq hpq hAq => ⟨.inl ⟨rfl, _, SqL.of upd_same⟩, pq, _, rfl, rfl, upd_same, ?_⟩⟩
        have s12 : Same H11 (upd (upd H11 pq (.lst ysq)) pq (.lst [])) := same_at (same_upd hpq) hpq
        generalize upd (upd H11 pq (HO.lst ysq)) pq (HO.lst []) = H12 at s12 ⊢
        have hN12 := hN11.same s12
        have s412 := (s410.trans s11).trans s12
        refine tm_net rfl hN12 ⟨x, k, n, rs, rfl, hN12, fun pr ysr hpr hAr => ⟨_, rfl, p, _, _, _, rfl, rfl, SqT.of (same_upd hpr _ _ (s412 _ _ hp4)), at1, neD_nice (by decide) (nice_rws rs) (dp_rws upd_same (hAr.same (same_upd hpr))) (dp_rws (same_upd hpr _ _ (s412 _ _ hl4)) ((hA4.same s412).same (same_upd hpr))) ⟨_, rfl, ifF rfl ?_⟩⟩⟩
        exact cont _ _ ⟨s412.trans (same_upd hpr), t6, _, same_upd hpr _ _ (s412 _ _ ht), rfl⟩
      · refine ⟨_, rfl, _, rfl, p5, _, _, _, rfl, rfl, SqT.of (s5 _ _ hp54), ix0, _, rfl, fun x dx hxn hdxn _ => ?_⟩
        have s6 := same_new (C := A.Net) (fs := []) hxn hdxn
        have s46 := s5.trans s6
        rcases hdue with ⟨rfl, rfl, rfl, he⟩ | ⟨rfl, rfl, rfl, he⟩
        · refine ⟨x, dx, kx, l7, k, mn, zs, rds, rfl, upd_same, (hk4.same s5).same s6, s6 _ _ h7, (hA4'.imp fun _ _ z => z.same s5).imp fun _ _ z => z.same s6, fun hc => shz_65 (hsz' hc) hlen', fun hn => absurd (he.symm.trans hn) (by simp), fun _ H7 s7 => ?_, fun hn => absurd (he.symm.trans hn) (by simp)⟩
          refine ⟨true, T.e_NoNet_SumError, fun _ a0 _ => ?_, fun z => Bool.noConfusion z⟩
          refine ⟨_, rfl, rfl, A.NoNet, true, false, rfl, rfl, T.x_NoNet.ec, T.k_NoNet_NoNet, T.k_NoNet_NoWorth, T.v_NoNet, fun H8 pw s8 hpw => ?_⟩
          exact cont _ _ ⟨(s46.trans s7).trans s8, pw, _, hpw, rfl⟩
        · refine ⟨x, dx, kx, l7, k, mn, zs, rds, rfl, upd_same, (hk4.same s5).same s6, s6 _ _ h7, (hA4'.imp fun _ _ z => z.same s5).imp fun _ _ z => z.same s6, fun hc => shz_65 (hsz' hc) hlen', fun hn => absurd (he.symm.trans hn) (by simp), fun hn => absurd (he.symm.trans hn) (by simp), fun _ H7 s7 => ?_⟩
          refine ⟨true, T.e_NoWorth_SumError, fun _ a0 _ => ?_, fun z => Bool.noConfusion z⟩
          refine ⟨_, rfl, rfl, A.NoWorth, false, true, rfl, rfl, T.x_NoWorth.ec, T.k_NoWorth_NoNet, T.k_NoWorth_NoWorth, T.v_NoWorth, fun H8 pw s8 hpw => ?_⟩
          exact cont _ _ ⟨(s46.trans s7).trans s8, pw, _, hpw, rfl⟩
    obtain ⟨s46, t6, v8, ht6', rfl⟩ := h6
    refine ⟨_, rfl, _, rfl, p5, _, _, _, rfl, rfl, SqT.of (s46 _ _ hp54), ix2, neD_nice (by decide) nice_b3 (dp_b3 ht6') (dp_b3 (s46 _ _ hqd4)) ⟨_, rfl, ifF rfl ?_⟩⟩
    refine ⟨_, rfl, rfl, _, rfl, ?_⟩
    by_cases hc : k = .cha
    case neg => exact ifF (decide_eq_false fun e => hc (by have := V.int.inj e; rw [← hwk] at this; cases k <;> simp [wh] at this ⊢)) (ifF rfl (q _))
    refine ifT (by rw [← hwk, hc]; rfl) ⟨_, rfl, size3', fun tt htt => ?_⟩
    have s7 := same_upd (o := HO.tup [.bl false, .bl false, .bl false]) htt
    have htv : (upd H6 tt (HO.tup [.bl false, .bl false, .bl false])) tt = _ := upd_same
    generalize upd H6 tt (HO.tup [.bl false, .bl false, .bl false]) = H7 at s7 htv ⊢
    have s47 := s46.trans s7
    rcases hcase with ⟨rfl, rfl, rfl, rfl, rfl, rfl⟩ | hdue
    · refine eqD_nice (by decide) nice_b3 (dp_b3 (s7 _ _ ht6')) (dp_b3 htv) ⟨_, rfl, ifT rfl ?_⟩
      subst hc
      refine ⟨_, rfl, _, rfl, p, _, _, _, rfl, rfl, SqT.of (s47 _ _ hp4), at0, _, rfl, p, _, _, _, rfl, rfl, SqT.of (s47 _ _ hp4), at1, size2, fun ta hta => ⟨size3', fun tb htb => ⟨size2, fun tc htc => ⟨size3', fun td htd => ⟨size2, fun le hle => ?_⟩⟩⟩⟩⟩
      have u1 := same_upd (o := HO.tup [V.int 1, V.int 2]) hta
      have u2 := same_upd (o := HO.tup [V.int 0, V.int 0, .ref ta]) htb
      have u3 := same_upd (o := HO.tup [V.int 2, V.int 3]) htc
      have u4 := same_upd (o := HO.tup [V.int 0, V.int 0, .ref tc]) htd
      have u5 := same_upd (o := HO.lst [.ref tb, .ref td]) hle
      have va := u5 _ _ (u4 _ _ (u3 _ _ (u2 _ _ (upd_same (H := H7) (a := ta) (o := HO.tup [V.int 1, V.int 2])))))
      have vb := u5 _ _ (u4 _ _ (u3 _ _ (upd_same (a := tb) (o := HO.tup [V.int 0, V.int 0, .ref ta]))))
      have vc := u5 _ _ (u4 _ _ (upd_same (a := tc) (o := HO.tup [V.int 2, V.int 3])))
      have vd := u5 _ _ (upd_same (a := td) (o := HO.tup [V.int 0, V.int 0, .ref tc]))
      have ve : (upd (upd (upd (upd (upd H7 ta (HO.tup [V.int 1, V.int 2])) tb (HO.tup [V.int 0, V.int 0, .ref ta])) tc (HO.tup [V.int 2, V.int 3])) td (HO.tup [V.int 0, V.int 0, .ref tc])) le (HO.lst [.ref tb, .ref td])) le = _ := upd_same
      have u15 := (((u1.trans u2).trans u3).trans u4).trans u5
      generalize upd (upd (upd (upd (upd H7 ta (HO.tup [V.int 1, V.int 2])) tb (HO.tup [V.int 0, V.int 0, .ref ta])) tc (HO.tup [V.int 2, V.int 3])) td (HO.tup [V.int 0, V.int 0, .ref tc])) le (HO.lst [.ref tb, .ref td]) = H8 at u15 va vb vc vd ve ⊢
      clear u1 u2 u3 u4 u5
      have s48 := s47.trans u15
      refine ⟨l, le, _, _, rfl, rfl, s48 _ _ hl4, ve, Nat.le_of_lt (sizeLt (by rw [ylen]; show _ + 2 < _; omega)), fun lc hlc x dx hxn hdxn _ => ?_⟩
      have u6 := same_upd (o := HO.lst (zs ++ [.ref tb, .ref td])) hlc
      have hlcv : (upd H8 lc (HO.lst (zs ++ [.ref tb, .ref td]))) lc = _ := upd_same
      have s9 := same_new (C := A.Net) (fs := []) hxn hdxn
      have s89 := u6.trans s9
      have s49 := s48.trans s89
      have r1 : RdAt (upd (upd (upd H8 lc (HO.lst (zs ++ [.ref tb, .ref td]))) dx (.own x)) x (.ins A.Net dx [])) (.ref tb) ⟨0, 0, .par 1 2⟩ := ⟨tb, .ref ta, rfl, s89 _ _ vb, ta, rfl, s89 _ _ va⟩
      have r2 : RdAt (upd (upd (upd H8 lc (HO.lst (zs ++ [.ref tb, .ref td]))) dx (.own x)) x (.ins A.Net dx [])) (.ref td) ⟨0, 0, .par 2 3⟩ := ⟨td, .ref tc, rfl, s89 _ _ vd, tc, rfl, s89 _ _ vc⟩
      have he := netR_over (over_two hn1 fun r hr => (F.ok r hr).1)
      have z2 : ∀ p, ∀ r ∈ rs.map Rw.rd ++ [(⟨0, 0, .par 1 2⟩ : Rd), ⟨0, 0, .par 2 3⟩], szOne p r ≤ 101 := fun p r hr => by
        rcases List.mem_append.1 hr with h | h
        · exact hsz' rfl p r h
        · simp only [List.mem_cons, List.not_mem_nil, or_false] at h
          rcases h with rfl | rfl
          · unfold szOne; split
            · decide +kernel
            · omega
          · unfold szOne; split
            · decide +kernel
            · omega
      have al2 : Al (RdAt (upd (upd (upd H8 lc (HO.lst (zs ++ [.ref tb, .ref td]))) dx (.own x)) x (.ins A.Net dx []))) [.ref tb, .ref td] [(⟨0, 0, .par 1 2⟩ : Rd), ⟨0, 0, .par 2 3⟩] := (Al.nil.snoc r1).snoc r2
      refine ⟨x, dx, kx, lc, .cha, n, _, rs.map Rw.rd ++ [⟨0, 0, .par 1 2⟩, ⟨0, 0, .par 2 3⟩], rfl, upd_same, hk4.same s49, s9 _ _ hlcv, ((hA4.same s49).rd).append al2, fun _ => shz_65 z2 (by rw [List.length_append, List.length_map]; show _ + 2 ≤ _; omega), fun hn => absurd (he.symm.trans hn) (by simp), fun _ H9 s9' => ?_, fun hn => absurd (he.symm.trans hn) (by simp)⟩
      refine ⟨true, T.e_NoNet_SumError, fun _ a0 _ => ?_, fun z => Bool.noConfusion z⟩
      refine ⟨_, rfl, rfl, A.NoNet, true, false, rfl, rfl, T.x_NoNet.ec, T.k_NoNet_NoNet, T.k_NoNet_NoWorth, T.v_NoNet, fun H10 pw s10 hpw => ⟨size3', fun tq htq => ?_⟩⟩
      exact eqD_nice (by decide) nice_b3 (dp_b3 (same_upd htq _ _ hpw)) (dp_b3 upd_same) (q _)
    · refine ⟨_, _, dp_b3 (s7 _ _ ht6'), dp_b3 htv, nice_b3.sh (by decide), nice_b3.sh (by decide), ?_⟩
      rcases hdue with ⟨rfl, rfl, rfl, he⟩ | ⟨rfl, rfl, rfl, he⟩
      · exact ⟨_, rfl, ifF (by simp [PyData.eqv, PyData.eqvAll]) (q _)⟩
      · exact ⟨_, rfl, ifF (by simp [PyData.eqv, PyData.eqvAll]) (q _)⟩
end
theorem fin {l : PySem.W.OpenLaw} {w : World} {K : PySem.W.Frag} {h : Heap} {mg : Str → Option Value} {fa : Addr} (X : K.In h) (G : h.Ns mainGlobals mg) (hfa : mg "law" = some (.ref fa))
  {zSumError zNoNet zNoWorth zKind zFewest zWidest zCounted zLikeliest zChances zMusts zRests zNet : Addr}
  {f_common : Addr} {od_common an_common : Option Addr} {sl_common : Array (Option Value)} {oc_common kV_common dc_common pm_common cd_common ct_common : Value}
  {f_lowest : Addr} {od_lowest an_lowest : Option Addr} {sl_lowest : Array (Option Value)} {oc_lowest kV_lowest dc_lowest pm_lowest cd_lowest ct_lowest : Value}
  {f_is_share : Addr} {od_is_share an_is_share : Option Addr} {sl_is_share : Array (Option Value)} {oc_is_share kV_is_share dc_is_share pm_is_share cd_is_share ct_is_share : Value}
  {f_added : Addr} {od_added an_added : Option Addr} {sl_added : Array (Option Value)} {oc_added kV_added dc_added pm_added cd_added ct_added : Value}
  {f_less : Addr} {od_less an_less : Option Addr} {sl_less : Array (Option Value)} {oc_less kV_less dc_less pm_less cd_less ct_less : Value}
  {f__law_cell_at : Addr} {od__law_cell_at an__law_cell_at : Option Addr} {sl__law_cell_at : Array (Option Value)} {oc__law_cell_at kV__law_cell_at dc__law_cell_at pm__law_cell_at cd__law_cell_at ct__law_cell_at : Value}
  {f__law_kind : Addr} {od__law_kind an__law_kind : Option Addr} {sl__law_kind : Array (Option Value)} {oc__law_kind kV__law_kind dc__law_kind pm__law_kind cd__law_kind ct__law_kind : Value}
  {f__law_share : Addr} {od__law_share an__law_share : Option Addr} {sl__law_share : Array (Option Value)} {oc__law_share kV__law_share dc__law_share pm__law_share cd__law_share ct__law_share : Value}
  {f__law_none : Addr} {od__law_none an__law_none : Option Addr} {sl__law_none : Array (Option Value)} {oc__law_none kV__law_none dc__law_none pm__law_none cd__law_none ct__law_none : Value}
  {f__law_rest : Addr} {od__law_rest an__law_rest : Option Addr} {sl__law_rest : Array (Option Value)} {oc__law_rest kV__law_rest dc__law_rest pm__law_rest cd__law_rest ct__law_rest : Value}
  {f__law_tog : Addr} {od__law_tog an__law_tog : Option Addr} {sl__law_tog : Array (Option Value)} {oc__law_tog kV__law_tog dc__law_tog pm__law_tog cd__law_tog ct__law_tog : Value}
  {f__law_worth : Addr} {od__law_worth an__law_worth : Option Addr} {sl__law_worth : Array (Option Value)} {oc__law_worth kV__law_worth dc__law_worth pm__law_worth cd__law_worth ct__law_worth : Value}
  {f__law_thinned : Addr} {od__law_thinned an__law_thinned : Option Addr} {sl__law_thinned : Array (Option Value)} {oc__law_thinned kV__law_thinned dc__law_thinned pm__law_thinned cd__law_thinned ct__law_thinned : Value}
  {f__law_net : Addr} {od__law_net an__law_net : Option Addr} {sl__law_net : Array (Option Value)} {oc__law_net kV__law_net dc__law_net pm__law_net cd__law_net ct__law_net : Value}
  {f__law_which : Addr} {od__law_which an__law_which : Option Addr} {sl__law_which : Array (Option Value)} {oc__law_which kV__law_which dc__law_which pm__law_which cd__law_which ct__law_which : Value}
  {f__law_turned : Addr} {od__law_turned an__law_turned : Option Addr} {sl__law_turned : Array (Option Value)} {oc__law_turned kV__law_turned dc__law_turned pm__law_turned cd__law_turned ct__law_turned : Value}
  {f_law : Addr} {od_law an_law : Option Addr} {sl_law : Array (Option Value)} {oc_law kV_law dc_law pm_law cd_law ct_law : Value}
  {f_Fewest_rest : Addr} {od_Fewest_rest an_Fewest_rest : Option Addr} {sl_Fewest_rest : Array (Option Value)} {oc_Fewest_rest kV_Fewest_rest dc_Fewest_rest pm_Fewest_rest cd_Fewest_rest ct_Fewest_rest : Value}
  {f_Fewest_is_worth : Addr} {od_Fewest_is_worth an_Fewest_is_worth : Option Addr} {sl_Fewest_is_worth : Array (Option Value)} {oc_Fewest_is_worth kV_Fewest_is_worth dc_Fewest_is_worth pm_Fewest_is_worth cd_Fewest_is_worth ct_Fewest_is_worth : Value}
  {f_Widest_rest : Addr} {od_Widest_rest an_Widest_rest : Option Addr} {sl_Widest_rest : Array (Option Value)} {oc_Widest_rest kV_Widest_rest dc_Widest_rest pm_Widest_rest cd_Widest_rest ct_Widest_rest : Value}
  {f_Widest_is_worth : Addr} {od_Widest_is_worth an_Widest_is_worth : Option Addr} {sl_Widest_is_worth : Array (Option Value)} {oc_Widest_is_worth kV_Widest_is_worth dc_Widest_is_worth pm_Widest_is_worth cd_Widest_is_worth ct_Widest_is_worth : Value}
  {f_Counted_rest : Addr} {od_Counted_rest an_Counted_rest : Option Addr} {sl_Counted_rest : Array (Option Value)} {oc_Counted_rest kV_Counted_rest dc_Counted_rest pm_Counted_rest cd_Counted_rest ct_Counted_rest : Value}
  {f_Counted_is_worth : Addr} {od_Counted_is_worth an_Counted_is_worth : Option Addr} {sl_Counted_is_worth : Array (Option Value)} {oc_Counted_is_worth kV_Counted_is_worth dc_Counted_is_worth pm_Counted_is_worth cd_Counted_is_worth ct_Counted_is_worth : Value}
  {f_Likeliest_rest : Addr} {od_Likeliest_rest an_Likeliest_rest : Option Addr} {sl_Likeliest_rest : Array (Option Value)} {oc_Likeliest_rest kV_Likeliest_rest dc_Likeliest_rest pm_Likeliest_rest cd_Likeliest_rest ct_Likeliest_rest : Value}
  {f_Likeliest_is_worth : Addr} {od_Likeliest_is_worth an_Likeliest_is_worth : Option Addr} {sl_Likeliest_is_worth : Array (Option Value)} {oc_Likeliest_is_worth kV_Likeliest_is_worth dc_Likeliest_is_worth pm_Likeliest_is_worth cd_Likeliest_is_worth ct_Likeliest_is_worth : Value}
  {f_Chances_rest : Addr} {od_Chances_rest an_Chances_rest : Option Addr} {sl_Chances_rest : Array (Option Value)} {oc_Chances_rest kV_Chances_rest dc_Chances_rest pm_Chances_rest cd_Chances_rest ct_Chances_rest : Value}
  {f_Chances_is_worth : Addr} {od_Chances_is_worth an_Chances_is_worth : Option Addr} {sl_Chances_is_worth : Array (Option Value)} {oc_Chances_is_worth kV_Chances_is_worth dc_Chances_is_worth pm_Chances_is_worth cd_Chances_is_worth ct_Chances_is_worth : Value}
  {f_Musts_rest : Addr} {od_Musts_rest an_Musts_rest : Option Addr} {sl_Musts_rest : Array (Option Value)} {oc_Musts_rest kV_Musts_rest dc_Musts_rest pm_Musts_rest cd_Musts_rest ct_Musts_rest : Value}
  {f_Musts_is_worth : Addr} {od_Musts_is_worth an_Musts_is_worth : Option Addr} {sl_Musts_is_worth : Array (Option Value)} {oc_Musts_is_worth kV_Musts_is_worth dc_Musts_is_worth pm_Musts_is_worth cd_Musts_is_worth ct_Musts_is_worth : Value}
  {f_Rests___init__ : Addr} {od_Rests___init__ an_Rests___init__ : Option Addr} {sl_Rests___init__ : Array (Option Value)} {oc_Rests___init__ kV_Rests___init__ dc_Rests___init__ pm_Rests___init__ cd_Rests___init__ ct_Rests___init__ : Value}
  {f_Rests_rest : Addr} {od_Rests_rest an_Rests_rest : Option Addr} {sl_Rests_rest : Array (Option Value)} {oc_Rests_rest kV_Rests_rest dc_Rests_rest pm_Rests_rest cd_Rests_rest ct_Rests_rest : Value}
  {f_Rests_is_worth : Addr} {od_Rests_is_worth an_Rests_is_worth : Option Addr} {sl_Rests_is_worth : Array (Option Value)} {oc_Rests_is_worth kV_Rests_is_worth dc_Rests_is_worth pm_Rests_is_worth cd_Rests_is_worth ct_Rests_is_worth : Value}
  {f_Net___init__ : Addr} {od_Net___init__ an_Net___init__ : Option Addr} {sl_Net___init__ : Array (Option Value)} {oc_Net___init__ kV_Net___init__ dc_Net___init__ pm_Net___init__ cd_Net___init__ ct_Net___init__ : Value}
  {f_Net_ask_shares : Addr} {od_Net_ask_shares an_Net_ask_shares : Option Addr} {sl_Net_ask_shares : Array (Option Value)} {oc_Net_ask_shares kV_Net_ask_shares dc_Net_ask_shares pm_Net_ask_shares cd_Net_ask_shares ct_Net_ask_shares : Value}
  {f_Net_kind : Addr} {od_Net_kind an_Net_kind : Option Addr} {sl_Net_kind : Array (Option Value)} {oc_Net_kind kV_Net_kind dc_Net_kind pm_Net_kind cd_Net_kind ct_Net_kind : Value}
  {f_Net_places : Addr} {od_Net_places an_Net_places : Option Addr} {sl_Net_places : Array (Option Value)} {oc_Net_places kV_Net_places dc_Net_places pm_Net_places cd_Net_places ct_Net_places : Value}
  {f_Net_roads : Addr} {od_Net_roads an_Net_roads : Option Addr} {sl_Net_roads : Array (Option Value)} {oc_Net_roads kV_Net_roads dc_Net_roads pm_Net_roads cd_Net_roads ct_Net_roads : Value}
  {tkWIDEST : Tok}
  {tkMOST_PLACES : Tok}
  {tkMOST_ROADS : Tok}
  (g_SumError : PySem.W.nsIn K mainGlobals "SumError" = some (some (.ref zSumError)))
  (g_NoNet : PySem.W.nsIn K mainGlobals "NoNet" = some (some (.ref zNoNet)))
  (g_NoWorth : PySem.W.nsIn K mainGlobals "NoWorth" = some (some (.ref zNoWorth)))
  (g_Kind : PySem.W.nsIn K mainGlobals "Kind" = some (some (.ref zKind)))
  (g_Fewest : PySem.W.nsIn K mainGlobals "Fewest" = some (some (.ref zFewest)))
  (g_Widest : PySem.W.nsIn K mainGlobals "Widest" = some (some (.ref zWidest)))
  (g_Counted : PySem.W.nsIn K mainGlobals "Counted" = some (some (.ref zCounted)))
  (g_Likeliest : PySem.W.nsIn K mainGlobals "Likeliest" = some (some (.ref zLikeliest)))
  (g_Chances : PySem.W.nsIn K mainGlobals "Chances" = some (some (.ref zChances)))
  (g_Musts : PySem.W.nsIn K mainGlobals "Musts" = some (some (.ref zMusts)))
  (g_Rests : PySem.W.nsIn K mainGlobals "Rests" = some (some (.ref zRests)))
  (g_Net : PySem.W.nsIn K mainGlobals "Net" = some (some (.ref zNet)))
  (a_common : PySem.W.nsIn K mainGlobals "common" = some (some (.ref f_common)))
  (l_common : K.lookup f_common = some ⟨oc_common, od_common, .func (PySem.W.fnOf "common" "common" (defArgs s_common) (defBody s_common) (defScope s_common) .none kV_common dc_common pm_common an_common cd_common ct_common), sl_common⟩)
  (c_common : PySem.W.codeIn K cd_common "common" = true)
  (k_common : PySem.W.keepIn K (.ref f_common) = true)
  (a_lowest : PySem.W.nsIn K mainGlobals "lowest" = some (some (.ref f_lowest)))
  (l_lowest : K.lookup f_lowest = some ⟨oc_lowest, od_lowest, .func (PySem.W.fnOf "lowest" "lowest" (defArgs s_lowest) (defBody s_lowest) (defScope s_lowest) .none kV_lowest dc_lowest pm_lowest an_lowest cd_lowest ct_lowest), sl_lowest⟩)
  (c_lowest : PySem.W.codeIn K cd_lowest "lowest" = true)
  (k_lowest : PySem.W.keepIn K (.ref f_lowest) = true)
  (a_is_share : PySem.W.nsIn K mainGlobals "is_share" = some (some (.ref f_is_share)))
  (l_is_share : K.lookup f_is_share = some ⟨oc_is_share, od_is_share, .func (PySem.W.fnOf "is_share" "is_share" (defArgs s_is_share) (defBody s_is_share) (defScope s_is_share) .none kV_is_share dc_is_share pm_is_share an_is_share cd_is_share ct_is_share), sl_is_share⟩)
  (c_is_share : PySem.W.codeIn K cd_is_share "is_share" = true)
  (k_is_share : PySem.W.keepIn K (.ref f_is_share) = true)
  (a_added : PySem.W.nsIn K mainGlobals "added" = some (some (.ref f_added)))
  (l_added : K.lookup f_added = some ⟨oc_added, od_added, .func (PySem.W.fnOf "added" "added" (defArgs s_added) (defBody s_added) (defScope s_added) .none kV_added dc_added pm_added an_added cd_added ct_added), sl_added⟩)
  (c_added : PySem.W.codeIn K cd_added "added" = true)
  (k_added : PySem.W.keepIn K (.ref f_added) = true)
  (a_less : PySem.W.nsIn K mainGlobals "less" = some (some (.ref f_less)))
  (l_less : K.lookup f_less = some ⟨oc_less, od_less, .func (PySem.W.fnOf "less" "less" (defArgs s_less) (defBody s_less) (defScope s_less) .none kV_less dc_less pm_less an_less cd_less ct_less), sl_less⟩)
  (c_less : PySem.W.codeIn K cd_less "less" = true)
  (k_less : PySem.W.keepIn K (.ref f_less) = true)
  (a__law_cell_at : PySem.W.nsIn K mainGlobals "_law_cell_at" = some (some (.ref f__law_cell_at)))
  (l__law_cell_at : K.lookup f__law_cell_at = some ⟨oc__law_cell_at, od__law_cell_at, .func (PySem.W.fnOf "_law_cell_at" "_law_cell_at" (defArgs s__law_cell_at) (defBody s__law_cell_at) (defScope s__law_cell_at) .none kV__law_cell_at dc__law_cell_at pm__law_cell_at an__law_cell_at cd__law_cell_at ct__law_cell_at), sl__law_cell_at⟩)
  (c__law_cell_at : PySem.W.codeIn K cd__law_cell_at "_law_cell_at" = true)
  (k__law_cell_at : PySem.W.keepIn K (.ref f__law_cell_at) = true)
  (a__law_kind : PySem.W.nsIn K mainGlobals "_law_kind" = some (some (.ref f__law_kind)))
  (l__law_kind : K.lookup f__law_kind = some ⟨oc__law_kind, od__law_kind, .func (PySem.W.fnOf "_law_kind" "_law_kind" (defArgs s__law_kind) (defBody s__law_kind) (defScope s__law_kind) .none kV__law_kind dc__law_kind pm__law_kind an__law_kind cd__law_kind ct__law_kind), sl__law_kind⟩)
  (c__law_kind : PySem.W.codeIn K cd__law_kind "_law_kind" = true)
  (k__law_kind : PySem.W.keepIn K (.ref f__law_kind) = true)
  (a__law_share : PySem.W.nsIn K mainGlobals "_law_share" = some (some (.ref f__law_share)))
  (l__law_share : K.lookup f__law_share = some ⟨oc__law_share, od__law_share, .func (PySem.W.fnOf "_law_share" "_law_share" (defArgs s__law_share) (defBody s__law_share) (defScope s__law_share) .none kV__law_share dc__law_share pm__law_share an__law_share cd__law_share ct__law_share), sl__law_share⟩)
  (c__law_share : PySem.W.codeIn K cd__law_share "_law_share" = true)
  (k__law_share : PySem.W.keepIn K (.ref f__law_share) = true)
  (a__law_none : PySem.W.nsIn K mainGlobals "_law_none" = some (some (.ref f__law_none)))
  (l__law_none : K.lookup f__law_none = some ⟨oc__law_none, od__law_none, .func (PySem.W.fnOf "_law_none" "_law_none" (defArgs s__law_none) (defBody s__law_none) (defScope s__law_none) .none kV__law_none dc__law_none pm__law_none an__law_none cd__law_none ct__law_none), sl__law_none⟩)
  (c__law_none : PySem.W.codeIn K cd__law_none "_law_none" = true)
  (k__law_none : PySem.W.keepIn K (.ref f__law_none) = true)
  (a__law_rest : PySem.W.nsIn K mainGlobals "_law_rest" = some (some (.ref f__law_rest)))
  (l__law_rest : K.lookup f__law_rest = some ⟨oc__law_rest, od__law_rest, .func (PySem.W.fnOf "_law_rest" "_law_rest" (defArgs s__law_rest) (defBody s__law_rest) (defScope s__law_rest) .none kV__law_rest dc__law_rest pm__law_rest an__law_rest cd__law_rest ct__law_rest), sl__law_rest⟩)
  (c__law_rest : PySem.W.codeIn K cd__law_rest "_law_rest" = true)
  (k__law_rest : PySem.W.keepIn K (.ref f__law_rest) = true)
  (a__law_tog : PySem.W.nsIn K mainGlobals "_law_tog" = some (some (.ref f__law_tog)))
  (l__law_tog : K.lookup f__law_tog = some ⟨oc__law_tog, od__law_tog, .func (PySem.W.fnOf "_law_tog" "_law_tog" (defArgs s__law_tog) (defBody s__law_tog) (defScope s__law_tog) .none kV__law_tog dc__law_tog pm__law_tog an__law_tog cd__law_tog ct__law_tog), sl__law_tog⟩)
  (c__law_tog : PySem.W.codeIn K cd__law_tog "_law_tog" = true)
  (k__law_tog : PySem.W.keepIn K (.ref f__law_tog) = true)
  (a__law_worth : PySem.W.nsIn K mainGlobals "_law_worth" = some (some (.ref f__law_worth)))
  (l__law_worth : K.lookup f__law_worth = some ⟨oc__law_worth, od__law_worth, .func (PySem.W.fnOf "_law_worth" "_law_worth" (defArgs s__law_worth) (defBody s__law_worth) (defScope s__law_worth) .none kV__law_worth dc__law_worth pm__law_worth an__law_worth cd__law_worth ct__law_worth), sl__law_worth⟩)
  (c__law_worth : PySem.W.codeIn K cd__law_worth "_law_worth" = true)
  (k__law_worth : PySem.W.keepIn K (.ref f__law_worth) = true)
  (a__law_thinned : PySem.W.nsIn K mainGlobals "_law_thinned" = some (some (.ref f__law_thinned)))
  (l__law_thinned : K.lookup f__law_thinned = some ⟨oc__law_thinned, od__law_thinned, .func (PySem.W.fnOf "_law_thinned" "_law_thinned" (defArgs s__law_thinned) (defBody s__law_thinned) (defScope s__law_thinned) .none kV__law_thinned dc__law_thinned pm__law_thinned an__law_thinned cd__law_thinned ct__law_thinned), sl__law_thinned⟩)
  (c__law_thinned : PySem.W.codeIn K cd__law_thinned "_law_thinned" = true)
  (k__law_thinned : PySem.W.keepIn K (.ref f__law_thinned) = true)
  (a__law_net : PySem.W.nsIn K mainGlobals "_law_net" = some (some (.ref f__law_net)))
  (l__law_net : K.lookup f__law_net = some ⟨oc__law_net, od__law_net, .func (PySem.W.fnOf "_law_net" "_law_net" (defArgs s__law_net) (defBody s__law_net) (defScope s__law_net) .none kV__law_net dc__law_net pm__law_net an__law_net cd__law_net ct__law_net), sl__law_net⟩)
  (c__law_net : PySem.W.codeIn K cd__law_net "_law_net" = true)
  (k__law_net : PySem.W.keepIn K (.ref f__law_net) = true)
  (a__law_which : PySem.W.nsIn K mainGlobals "_law_which" = some (some (.ref f__law_which)))
  (l__law_which : K.lookup f__law_which = some ⟨oc__law_which, od__law_which, .func (PySem.W.fnOf "_law_which" "_law_which" (defArgs s__law_which) (defBody s__law_which) (defScope s__law_which) .none kV__law_which dc__law_which pm__law_which an__law_which cd__law_which ct__law_which), sl__law_which⟩)
  (c__law_which : PySem.W.codeIn K cd__law_which "_law_which" = true)
  (k__law_which : PySem.W.keepIn K (.ref f__law_which) = true)
  (a__law_turned : PySem.W.nsIn K mainGlobals "_law_turned" = some (some (.ref f__law_turned)))
  (l__law_turned : K.lookup f__law_turned = some ⟨oc__law_turned, od__law_turned, .func (PySem.W.fnOf "_law_turned" "_law_turned" (defArgs s__law_turned) (defBody s__law_turned) (defScope s__law_turned) .none kV__law_turned dc__law_turned pm__law_turned an__law_turned cd__law_turned ct__law_turned), sl__law_turned⟩)
  (c__law_turned : PySem.W.codeIn K cd__law_turned "_law_turned" = true)
  (k__law_turned : PySem.W.keepIn K (.ref f__law_turned) = true)
  (a_law : PySem.W.nsIn K mainGlobals "law" = some (some (.ref f_law)))
  (l_law : K.lookup f_law = some ⟨oc_law, od_law, .func (PySem.W.fnOf "law" "law" (defArgs s_law) (defBody s_law) (defScope s_law) .none kV_law dc_law pm_law an_law cd_law ct_law), sl_law⟩)
  (c_law : PySem.W.codeIn K cd_law "law" = true)
  (k_law : PySem.W.keepIn K (.ref f_law) = true)
  (p1Kind : PySem.W.plainGet K zKind Str.empty = true)
  (p2Kind : PySem.W.hasDictIn K zKind = true)
  (p3Kind : PySem.W.plainOver K zKind = true)
  (p4Kind : PySem.W.findIn K (.ref zKind) "__setattr__" = some (some (.builtin "object.__setattr__")))
  (q1Kind : PySem.W.keepIn K (.ref zKind) = true)
  (q2Kind : PySem.W.makesIn K zKind = true)
  (q3Kind : PySem.W.findIn K (.ref zKind) "__class__" = some (some (.builtin "object.__class__")))
  (q4Kind : PySem.W.mroIn K zKind (.type "object") = some true)
  (q5Kind : PySem.W.findIn K (.ref zKind) "__init__" = some (some (.builtin "object.__init__")))
  (p1Fewest : PySem.W.plainGet K zFewest Str.empty = true)
  (p2Fewest : PySem.W.hasDictIn K zFewest = true)
  (p3Fewest : PySem.W.plainOver K zFewest = true)
  (p4Fewest : PySem.W.findIn K (.ref zFewest) "__setattr__" = some (some (.builtin "object.__setattr__")))
  (q1Fewest : PySem.W.keepIn K (.ref zFewest) = true)
  (q2Fewest : PySem.W.makesIn K zFewest = true)
  (q3Fewest : PySem.W.findIn K (.ref zFewest) "__class__" = some (some (.builtin "object.__class__")))
  (q4Fewest : PySem.W.mroIn K zFewest (.type "object") = some true)
  (q5Fewest : PySem.W.findIn K (.ref zFewest) "__init__" = some (some (.builtin "object.__init__")))
  (p1Widest : PySem.W.plainGet K zWidest Str.empty = true)
  (p2Widest : PySem.W.hasDictIn K zWidest = true)
  (p3Widest : PySem.W.plainOver K zWidest = true)
  (p4Widest : PySem.W.findIn K (.ref zWidest) "__setattr__" = some (some (.builtin "object.__setattr__")))
  (q1Widest : PySem.W.keepIn K (.ref zWidest) = true)
  (q2Widest : PySem.W.makesIn K zWidest = true)
  (q3Widest : PySem.W.findIn K (.ref zWidest) "__class__" = some (some (.builtin "object.__class__")))
  (q4Widest : PySem.W.mroIn K zWidest (.type "object") = some true)
  (q5Widest : PySem.W.findIn K (.ref zWidest) "__init__" = some (some (.builtin "object.__init__")))
  (p1Counted : PySem.W.plainGet K zCounted Str.empty = true)
  (p2Counted : PySem.W.hasDictIn K zCounted = true)
  (p3Counted : PySem.W.plainOver K zCounted = true)
  (p4Counted : PySem.W.findIn K (.ref zCounted) "__setattr__" = some (some (.builtin "object.__setattr__")))
  (q1Counted : PySem.W.keepIn K (.ref zCounted) = true)
  (q2Counted : PySem.W.makesIn K zCounted = true)
  (q3Counted : PySem.W.findIn K (.ref zCounted) "__class__" = some (some (.builtin "object.__class__")))
  (q4Counted : PySem.W.mroIn K zCounted (.type "object") = some true)
  (q5Counted : PySem.W.findIn K (.ref zCounted) "__init__" = some (some (.builtin "object.__init__")))
  (p1Likeliest : PySem.W.plainGet K zLikeliest Str.empty = true)
  (p2Likeliest : PySem.W.hasDictIn K zLikeliest = true)
  (p3Likeliest : PySem.W.plainOver K zLikeliest = true)
  (p4Likeliest : PySem.W.findIn K (.ref zLikeliest) "__setattr__" = some (some (.builtin "object.__setattr__")))
  (q1Likeliest : PySem.W.keepIn K (.ref zLikeliest) = true)
  (q2Likeliest : PySem.W.makesIn K zLikeliest = true)
  (q3Likeliest : PySem.W.findIn K (.ref zLikeliest) "__class__" = some (some (.builtin "object.__class__")))
  (q4Likeliest : PySem.W.mroIn K zLikeliest (.type "object") = some true)
  (q5Likeliest : PySem.W.findIn K (.ref zLikeliest) "__init__" = some (some (.builtin "object.__init__")))
  (p1Chances : PySem.W.plainGet K zChances Str.empty = true)
  (p2Chances : PySem.W.hasDictIn K zChances = true)
  (p3Chances : PySem.W.plainOver K zChances = true)
  (p4Chances : PySem.W.findIn K (.ref zChances) "__setattr__" = some (some (.builtin "object.__setattr__")))
  (q1Chances : PySem.W.keepIn K (.ref zChances) = true)
  (q2Chances : PySem.W.makesIn K zChances = true)
  (q3Chances : PySem.W.findIn K (.ref zChances) "__class__" = some (some (.builtin "object.__class__")))
  (q4Chances : PySem.W.mroIn K zChances (.type "object") = some true)
  (q5Chances : PySem.W.findIn K (.ref zChances) "__init__" = some (some (.builtin "object.__init__")))
  (p1Musts : PySem.W.plainGet K zMusts Str.empty = true)
  (p2Musts : PySem.W.hasDictIn K zMusts = true)
  (p3Musts : PySem.W.plainOver K zMusts = true)
  (p4Musts : PySem.W.findIn K (.ref zMusts) "__setattr__" = some (some (.builtin "object.__setattr__")))
  (q1Musts : PySem.W.keepIn K (.ref zMusts) = true)
  (q2Musts : PySem.W.makesIn K zMusts = true)
  (q3Musts : PySem.W.findIn K (.ref zMusts) "__class__" = some (some (.builtin "object.__class__")))
  (q4Musts : PySem.W.mroIn K zMusts (.type "object") = some true)
  (q5Musts : PySem.W.findIn K (.ref zMusts) "__init__" = some (some (.builtin "object.__init__")))
  (p1Rests : PySem.W.plainGet K zRests Str.empty = true)
  (p2Rests : PySem.W.hasDictIn K zRests = true)
  (p3Rests : PySem.W.plainOver K zRests = true)
  (p4Rests : PySem.W.findIn K (.ref zRests) "__setattr__" = some (some (.builtin "object.__setattr__")))
  (q1Rests : PySem.W.keepIn K (.ref zRests) = true)
  (q2Rests : PySem.W.makesIn K zRests = true)
  (q3Rests : PySem.W.findIn K (.ref zRests) "__class__" = some (some (.builtin "object.__class__")))
  (q4Rests : PySem.W.mroIn K zRests (.type "object") = some true)
  (p1Net : PySem.W.plainGet K zNet Str.empty = true)
  (p2Net : PySem.W.hasDictIn K zNet = true)
  (p3Net : PySem.W.plainOver K zNet = true)
  (p4Net : PySem.W.findIn K (.ref zNet) "__setattr__" = some (some (.builtin "object.__setattr__")))
  (q1Net : PySem.W.keepIn K (.ref zNet) = true)
  (q2Net : PySem.W.makesIn K zNet = true)
  (q3Net : PySem.W.findIn K (.ref zNet) "__class__" = some (some (.builtin "object.__class__")))
  (q4Net : PySem.W.mroIn K zNet (.type "object") = some true)
  (a_Fewest_rest : PySem.W.findIn K (.ref zFewest) "rest" = some (some (.ref f_Fewest_rest)))
  (i_Fewest_rest : PySem.W.isFn K (.ref f_Fewest_rest) = true)
  (l_Fewest_rest : K.lookup f_Fewest_rest = some ⟨oc_Fewest_rest, od_Fewest_rest, .func (PySem.W.fnOf "rest" "Fewest.rest" (defArgs s_Fewest_rest) (defBody s_Fewest_rest) (defScope s_Fewest_rest) .none kV_Fewest_rest dc_Fewest_rest pm_Fewest_rest an_Fewest_rest cd_Fewest_rest ct_Fewest_rest), sl_Fewest_rest⟩)
  (c_Fewest_rest : PySem.W.codeIn K cd_Fewest_rest "Fewest.rest" = true)
  (k_Fewest_rest : PySem.W.keepIn K (.ref f_Fewest_rest) = true)
  (a_Fewest_is_worth : PySem.W.findIn K (.ref zFewest) "is_worth" = some (some (.ref f_Fewest_is_worth)))
  (i_Fewest_is_worth : PySem.W.isFn K (.ref f_Fewest_is_worth) = true)
  (l_Fewest_is_worth : K.lookup f_Fewest_is_worth = some ⟨oc_Fewest_is_worth, od_Fewest_is_worth, .func (PySem.W.fnOf "is_worth" "Fewest.is_worth" (defArgs s_Fewest_is_worth) (defBody s_Fewest_is_worth) (defScope s_Fewest_is_worth) .none kV_Fewest_is_worth dc_Fewest_is_worth pm_Fewest_is_worth an_Fewest_is_worth cd_Fewest_is_worth ct_Fewest_is_worth), sl_Fewest_is_worth⟩)
  (c_Fewest_is_worth : PySem.W.codeIn K cd_Fewest_is_worth "Fewest.is_worth" = true)
  (k_Fewest_is_worth : PySem.W.keepIn K (.ref f_Fewest_is_worth) = true)
  (a_Widest_rest : PySem.W.findIn K (.ref zWidest) "rest" = some (some (.ref f_Widest_rest)))
  (i_Widest_rest : PySem.W.isFn K (.ref f_Widest_rest) = true)
  (l_Widest_rest : K.lookup f_Widest_rest = some ⟨oc_Widest_rest, od_Widest_rest, .func (PySem.W.fnOf "rest" "Widest.rest" (defArgs s_Widest_rest) (defBody s_Widest_rest) (defScope s_Widest_rest) .none kV_Widest_rest dc_Widest_rest pm_Widest_rest an_Widest_rest cd_Widest_rest ct_Widest_rest), sl_Widest_rest⟩)
  (c_Widest_rest : PySem.W.codeIn K cd_Widest_rest "Widest.rest" = true)
  (k_Widest_rest : PySem.W.keepIn K (.ref f_Widest_rest) = true)
  (a_Widest_is_worth : PySem.W.findIn K (.ref zWidest) "is_worth" = some (some (.ref f_Widest_is_worth)))
  (i_Widest_is_worth : PySem.W.isFn K (.ref f_Widest_is_worth) = true)
  (l_Widest_is_worth : K.lookup f_Widest_is_worth = some ⟨oc_Widest_is_worth, od_Widest_is_worth, .func (PySem.W.fnOf "is_worth" "Widest.is_worth" (defArgs s_Widest_is_worth) (defBody s_Widest_is_worth) (defScope s_Widest_is_worth) .none kV_Widest_is_worth dc_Widest_is_worth pm_Widest_is_worth an_Widest_is_worth cd_Widest_is_worth ct_Widest_is_worth), sl_Widest_is_worth⟩)
  (c_Widest_is_worth : PySem.W.codeIn K cd_Widest_is_worth "Widest.is_worth" = true)
  (k_Widest_is_worth : PySem.W.keepIn K (.ref f_Widest_is_worth) = true)
  (a_Counted_rest : PySem.W.findIn K (.ref zCounted) "rest" = some (some (.ref f_Counted_rest)))
  (i_Counted_rest : PySem.W.isFn K (.ref f_Counted_rest) = true)
  (l_Counted_rest : K.lookup f_Counted_rest = some ⟨oc_Counted_rest, od_Counted_rest, .func (PySem.W.fnOf "rest" "Counted.rest" (defArgs s_Counted_rest) (defBody s_Counted_rest) (defScope s_Counted_rest) .none kV_Counted_rest dc_Counted_rest pm_Counted_rest an_Counted_rest cd_Counted_rest ct_Counted_rest), sl_Counted_rest⟩)
  (c_Counted_rest : PySem.W.codeIn K cd_Counted_rest "Counted.rest" = true)
  (k_Counted_rest : PySem.W.keepIn K (.ref f_Counted_rest) = true)
  (a_Counted_is_worth : PySem.W.findIn K (.ref zCounted) "is_worth" = some (some (.ref f_Counted_is_worth)))
  (i_Counted_is_worth : PySem.W.isFn K (.ref f_Counted_is_worth) = true)
  (l_Counted_is_worth : K.lookup f_Counted_is_worth = some ⟨oc_Counted_is_worth, od_Counted_is_worth, .func (PySem.W.fnOf "is_worth" "Counted.is_worth" (defArgs s_Counted_is_worth) (defBody s_Counted_is_worth) (defScope s_Counted_is_worth) .none kV_Counted_is_worth dc_Counted_is_worth pm_Counted_is_worth an_Counted_is_worth cd_Counted_is_worth ct_Counted_is_worth), sl_Counted_is_worth⟩)
  (c_Counted_is_worth : PySem.W.codeIn K cd_Counted_is_worth "Counted.is_worth" = true)
  (k_Counted_is_worth : PySem.W.keepIn K (.ref f_Counted_is_worth) = true)
  (a_Likeliest_rest : PySem.W.findIn K (.ref zLikeliest) "rest" = some (some (.ref f_Likeliest_rest)))
  (i_Likeliest_rest : PySem.W.isFn K (.ref f_Likeliest_rest) = true)
  (l_Likeliest_rest : K.lookup f_Likeliest_rest = some ⟨oc_Likeliest_rest, od_Likeliest_rest, .func (PySem.W.fnOf "rest" "Likeliest.rest" (defArgs s_Likeliest_rest) (defBody s_Likeliest_rest) (defScope s_Likeliest_rest) .none kV_Likeliest_rest dc_Likeliest_rest pm_Likeliest_rest an_Likeliest_rest cd_Likeliest_rest ct_Likeliest_rest), sl_Likeliest_rest⟩)
  (c_Likeliest_rest : PySem.W.codeIn K cd_Likeliest_rest "Likeliest.rest" = true)
  (k_Likeliest_rest : PySem.W.keepIn K (.ref f_Likeliest_rest) = true)
  (a_Likeliest_is_worth : PySem.W.findIn K (.ref zLikeliest) "is_worth" = some (some (.ref f_Likeliest_is_worth)))
  (i_Likeliest_is_worth : PySem.W.isFn K (.ref f_Likeliest_is_worth) = true)
  (l_Likeliest_is_worth : K.lookup f_Likeliest_is_worth = some ⟨oc_Likeliest_is_worth, od_Likeliest_is_worth, .func (PySem.W.fnOf "is_worth" "Likeliest.is_worth" (defArgs s_Likeliest_is_worth) (defBody s_Likeliest_is_worth) (defScope s_Likeliest_is_worth) .none kV_Likeliest_is_worth dc_Likeliest_is_worth pm_Likeliest_is_worth an_Likeliest_is_worth cd_Likeliest_is_worth ct_Likeliest_is_worth), sl_Likeliest_is_worth⟩)
  (c_Likeliest_is_worth : PySem.W.codeIn K cd_Likeliest_is_worth "Likeliest.is_worth" = true)
  (k_Likeliest_is_worth : PySem.W.keepIn K (.ref f_Likeliest_is_worth) = true)
  (a_Chances_rest : PySem.W.findIn K (.ref zChances) "rest" = some (some (.ref f_Chances_rest)))
  (i_Chances_rest : PySem.W.isFn K (.ref f_Chances_rest) = true)
  (l_Chances_rest : K.lookup f_Chances_rest = some ⟨oc_Chances_rest, od_Chances_rest, .func (PySem.W.fnOf "rest" "Chances.rest" (defArgs s_Chances_rest) (defBody s_Chances_rest) (defScope s_Chances_rest) .none kV_Chances_rest dc_Chances_rest pm_Chances_rest an_Chances_rest cd_Chances_rest ct_Chances_rest), sl_Chances_rest⟩)
  (c_Chances_rest : PySem.W.codeIn K cd_Chances_rest "Chances.rest" = true)
  (k_Chances_rest : PySem.W.keepIn K (.ref f_Chances_rest) = true)
  (a_Chances_is_worth : PySem.W.findIn K (.ref zChances) "is_worth" = some (some (.ref f_Chances_is_worth)))
  (i_Chances_is_worth : PySem.W.isFn K (.ref f_Chances_is_worth) = true)
  (l_Chances_is_worth : K.lookup f_Chances_is_worth = some ⟨oc_Chances_is_worth, od_Chances_is_worth, .func (PySem.W.fnOf "is_worth" "Chances.is_worth" (defArgs s_Chances_is_worth) (defBody s_Chances_is_worth) (defScope s_Chances_is_worth) .none kV_Chances_is_worth dc_Chances_is_worth pm_Chances_is_worth an_Chances_is_worth cd_Chances_is_worth ct_Chances_is_worth), sl_Chances_is_worth⟩)
  (c_Chances_is_worth : PySem.W.codeIn K cd_Chances_is_worth "Chances.is_worth" = true)
  (k_Chances_is_worth : PySem.W.keepIn K (.ref f_Chances_is_worth) = true)
  (a_Musts_rest : PySem.W.findIn K (.ref zMusts) "rest" = some (some (.ref f_Musts_rest)))
  (i_Musts_rest : PySem.W.isFn K (.ref f_Musts_rest) = true)
  (l_Musts_rest : K.lookup f_Musts_rest = some ⟨oc_Musts_rest, od_Musts_rest, .func (PySem.W.fnOf "rest" "Musts.rest" (defArgs s_Musts_rest) (defBody s_Musts_rest) (defScope s_Musts_rest) .none kV_Musts_rest dc_Musts_rest pm_Musts_rest an_Musts_rest cd_Musts_rest ct_Musts_rest), sl_Musts_rest⟩)
  (c_Musts_rest : PySem.W.codeIn K cd_Musts_rest "Musts.rest" = true)
  (k_Musts_rest : PySem.W.keepIn K (.ref f_Musts_rest) = true)
  (a_Musts_is_worth : PySem.W.findIn K (.ref zMusts) "is_worth" = some (some (.ref f_Musts_is_worth)))
  (i_Musts_is_worth : PySem.W.isFn K (.ref f_Musts_is_worth) = true)
  (l_Musts_is_worth : K.lookup f_Musts_is_worth = some ⟨oc_Musts_is_worth, od_Musts_is_worth, .func (PySem.W.fnOf "is_worth" "Musts.is_worth" (defArgs s_Musts_is_worth) (defBody s_Musts_is_worth) (defScope s_Musts_is_worth) .none kV_Musts_is_worth dc_Musts_is_worth pm_Musts_is_worth an_Musts_is_worth cd_Musts_is_worth ct_Musts_is_worth), sl_Musts_is_worth⟩)
  (c_Musts_is_worth : PySem.W.codeIn K cd_Musts_is_worth "Musts.is_worth" = true)
  (k_Musts_is_worth : PySem.W.keepIn K (.ref f_Musts_is_worth) = true)
  (a_Rests___init__ : PySem.W.findIn K (.ref zRests) "__init__" = some (some (.ref f_Rests___init__)))
  (i_Rests___init__ : PySem.W.isFn K (.ref f_Rests___init__) = true)
  (l_Rests___init__ : K.lookup f_Rests___init__ = some ⟨oc_Rests___init__, od_Rests___init__, .func (PySem.W.fnOf "__init__" "Rests.__init__" (defArgs s_Rests___init__) (defBody s_Rests___init__) (defScope s_Rests___init__) .none kV_Rests___init__ dc_Rests___init__ pm_Rests___init__ an_Rests___init__ cd_Rests___init__ ct_Rests___init__), sl_Rests___init__⟩)
  (c_Rests___init__ : PySem.W.codeIn K cd_Rests___init__ "Rests.__init__" = true)
  (k_Rests___init__ : PySem.W.keepIn K (.ref f_Rests___init__) = true)
  (a_Rests_rest : PySem.W.findIn K (.ref zRests) "rest" = some (some (.ref f_Rests_rest)))
  (i_Rests_rest : PySem.W.isFn K (.ref f_Rests_rest) = true)
  (l_Rests_rest : K.lookup f_Rests_rest = some ⟨oc_Rests_rest, od_Rests_rest, .func (PySem.W.fnOf "rest" "Rests.rest" (defArgs s_Rests_rest) (defBody s_Rests_rest) (defScope s_Rests_rest) .none kV_Rests_rest dc_Rests_rest pm_Rests_rest an_Rests_rest cd_Rests_rest ct_Rests_rest), sl_Rests_rest⟩)
  (c_Rests_rest : PySem.W.codeIn K cd_Rests_rest "Rests.rest" = true)
  (k_Rests_rest : PySem.W.keepIn K (.ref f_Rests_rest) = true)
  (a_Rests_is_worth : PySem.W.findIn K (.ref zRests) "is_worth" = some (some (.ref f_Rests_is_worth)))
  (i_Rests_is_worth : PySem.W.isFn K (.ref f_Rests_is_worth) = true)
  (l_Rests_is_worth : K.lookup f_Rests_is_worth = some ⟨oc_Rests_is_worth, od_Rests_is_worth, .func (PySem.W.fnOf "is_worth" "Rests.is_worth" (defArgs s_Rests_is_worth) (defBody s_Rests_is_worth) (defScope s_Rests_is_worth) .none kV_Rests_is_worth dc_Rests_is_worth pm_Rests_is_worth an_Rests_is_worth cd_Rests_is_worth ct_Rests_is_worth), sl_Rests_is_worth⟩)
  (c_Rests_is_worth : PySem.W.codeIn K cd_Rests_is_worth "Rests.is_worth" = true)
  (k_Rests_is_worth : PySem.W.keepIn K (.ref f_Rests_is_worth) = true)
  (a_Net___init__ : PySem.W.findIn K (.ref zNet) "__init__" = some (some (.ref f_Net___init__)))
  (i_Net___init__ : PySem.W.isFn K (.ref f_Net___init__) = true)
  (l_Net___init__ : K.lookup f_Net___init__ = some ⟨oc_Net___init__, od_Net___init__, .func (PySem.W.fnOf "__init__" "Net.__init__" (defArgs s_Net___init__) (defBody s_Net___init__) (defScope s_Net___init__) .none kV_Net___init__ dc_Net___init__ pm_Net___init__ an_Net___init__ cd_Net___init__ ct_Net___init__), sl_Net___init__⟩)
  (c_Net___init__ : PySem.W.codeIn K cd_Net___init__ "Net.__init__" = true)
  (k_Net___init__ : PySem.W.keepIn K (.ref f_Net___init__) = true)
  (a_Net_ask_shares : PySem.W.findIn K (.ref zNet) "ask_shares" = some (some (.ref f_Net_ask_shares)))
  (i_Net_ask_shares : PySem.W.isFn K (.ref f_Net_ask_shares) = true)
  (l_Net_ask_shares : K.lookup f_Net_ask_shares = some ⟨oc_Net_ask_shares, od_Net_ask_shares, .func (PySem.W.fnOf "ask_shares" "Net.ask_shares" (defArgs s_Net_ask_shares) (defBody s_Net_ask_shares) (defScope s_Net_ask_shares) .none kV_Net_ask_shares dc_Net_ask_shares pm_Net_ask_shares an_Net_ask_shares cd_Net_ask_shares ct_Net_ask_shares), sl_Net_ask_shares⟩)
  (c_Net_ask_shares : PySem.W.codeIn K cd_Net_ask_shares "Net.ask_shares" = true)
  (k_Net_ask_shares : PySem.W.keepIn K (.ref f_Net_ask_shares) = true)
  (a_Net_kind : PySem.W.findIn K (.ref zNet) "kind" = some (some (.ref f_Net_kind)))
  (i_Net_kind : PySem.W.isFn K (.ref f_Net_kind) = true)
  (l_Net_kind : K.lookup f_Net_kind = some ⟨oc_Net_kind, od_Net_kind, .func (PySem.W.fnOf "kind" "Net.kind" (defArgs s_Net_kind) (defBody s_Net_kind) (defScope s_Net_kind) .none kV_Net_kind dc_Net_kind pm_Net_kind an_Net_kind cd_Net_kind ct_Net_kind), sl_Net_kind⟩)
  (c_Net_kind : PySem.W.codeIn K cd_Net_kind "Net.kind" = true)
  (k_Net_kind : PySem.W.keepIn K (.ref f_Net_kind) = true)
  (a_Net_places : PySem.W.findIn K (.ref zNet) "places" = some (some (.ref f_Net_places)))
  (i_Net_places : PySem.W.isFn K (.ref f_Net_places) = true)
  (l_Net_places : K.lookup f_Net_places = some ⟨oc_Net_places, od_Net_places, .func (PySem.W.fnOf "places" "Net.places" (defArgs s_Net_places) (defBody s_Net_places) (defScope s_Net_places) .none kV_Net_places dc_Net_places pm_Net_places an_Net_places cd_Net_places ct_Net_places), sl_Net_places⟩)
  (c_Net_places : PySem.W.codeIn K cd_Net_places "Net.places" = true)
  (k_Net_places : PySem.W.keepIn K (.ref f_Net_places) = true)
  (a_Net_roads : PySem.W.findIn K (.ref zNet) "roads" = some (some (.ref f_Net_roads)))
  (i_Net_roads : PySem.W.isFn K (.ref f_Net_roads) = true)
  (l_Net_roads : K.lookup f_Net_roads = some ⟨oc_Net_roads, od_Net_roads, .func (PySem.W.fnOf "roads" "Net.roads" (defArgs s_Net_roads) (defBody s_Net_roads) (defScope s_Net_roads) .none kV_Net_roads dc_Net_roads pm_Net_roads an_Net_roads cd_Net_roads ct_Net_roads), sl_Net_roads⟩)
  (c_Net_roads : PySem.W.codeIn K cd_Net_roads "Net.roads" = true)
  (k_Net_roads : PySem.W.keepIn K (.ref f_Net_roads) = true)
  (e0SumError : PySem.W.keepIn K (.ref zSumError) = true)
  (e1SumError : PySem.W.excIn K zSumError [.type "ValueError", .type "Exception", .type "BaseException", .type "object"] "ValueError.__new__" = true)
  (e2SumError : PySem.W.subIn K (.ref zSumError) (.type "BaseException") = some true)
  (e3SumError : PySem.W.typeIn K (.ref zSumError) = some (.type "type"))
  (e4SumError : PySem.W.isClsIn K zSumError = true)
  (e5SumError : PySem.W.findIn K (.ref zSumError) "__getattribute__" = some (some (.builtin "BaseException.__getattribute__")))
  (e6SumError : PySem.W.findIn K (.ref zSumError) "__getattr__" = some none)
  (e7SumError : PySem.W.hasDictIn K zSumError = true)
  (e8SumError : PySem.W.findIn K (.ref zSumError) "__class__" = some (some (.builtin "object.__class__")))
  (e9SumError : PySem.W.mroIn K zSumError (.type "object") = some true)
  (e0NoNet : PySem.W.keepIn K (.ref zNoNet) = true)
  (e1NoNet : PySem.W.excIn K zNoNet [.type "ValueError", .type "Exception", .type "BaseException", .type "object"] "ValueError.__new__" = true)
  (e2NoNet : PySem.W.subIn K (.ref zNoNet) (.type "BaseException") = some true)
  (e3NoNet : PySem.W.typeIn K (.ref zNoNet) = some (.type "type"))
  (e4NoNet : PySem.W.isClsIn K zNoNet = true)
  (e5NoNet : PySem.W.findIn K (.ref zNoNet) "__getattribute__" = some (some (.builtin "BaseException.__getattribute__")))
  (e6NoNet : PySem.W.findIn K (.ref zNoNet) "__getattr__" = some none)
  (e7NoNet : PySem.W.hasDictIn K zNoNet = true)
  (e8NoNet : PySem.W.findIn K (.ref zNoNet) "__class__" = some (some (.builtin "object.__class__")))
  (e9NoNet : PySem.W.mroIn K zNoNet (.type "object") = some true)
  (e0NoWorth : PySem.W.keepIn K (.ref zNoWorth) = true)
  (e1NoWorth : PySem.W.excIn K zNoWorth [.type "ValueError", .type "Exception", .type "BaseException", .type "object"] "ValueError.__new__" = true)
  (e2NoWorth : PySem.W.subIn K (.ref zNoWorth) (.type "BaseException") = some true)
  (e3NoWorth : PySem.W.typeIn K (.ref zNoWorth) = some (.type "type"))
  (e4NoWorth : PySem.W.isClsIn K zNoWorth = true)
  (e5NoWorth : PySem.W.findIn K (.ref zNoWorth) "__getattribute__" = some (some (.builtin "BaseException.__getattribute__")))
  (e6NoWorth : PySem.W.findIn K (.ref zNoWorth) "__getattr__" = some none)
  (e7NoWorth : PySem.W.hasDictIn K zNoWorth = true)
  (e8NoWorth : PySem.W.findIn K (.ref zNoWorth) "__class__" = some (some (.builtin "object.__class__")))
  (e9NoWorth : PySem.W.mroIn K zNoWorth (.type "object") = some true)
  (r1Chances : PySem.W.isClsIn K zChances = true)
  (r2Chances : PySem.W.typeIn K (.ref zChances) = some (.type "type"))
  (s_Fewest_Chances : PySem.W.subIn K (.ref zFewest) (.ref zChances) = some false)
  (ne_Fewest_Chances : zFewest ≠ zChances)
  (s_Widest_Chances : PySem.W.subIn K (.ref zWidest) (.ref zChances) = some false)
  (ne_Widest_Chances : zWidest ≠ zChances)
  (s_Counted_Chances : PySem.W.subIn K (.ref zCounted) (.ref zChances) = some false)
  (ne_Counted_Chances : zCounted ≠ zChances)
  (s_Likeliest_Chances : PySem.W.subIn K (.ref zLikeliest) (.ref zChances) = some false)
  (ne_Likeliest_Chances : zLikeliest ≠ zChances)
  (s_Chances_Chances : PySem.W.subIn K (.ref zChances) (.ref zChances) = some true)
  (s_Musts_Chances : PySem.W.subIn K (.ref zMusts) (.ref zChances) = some false)
  (ne_Musts_Chances : zMusts ≠ zChances)
  (s_Rests_Chances : PySem.W.subIn K (.ref zRests) (.ref zChances) = some false)
  (ne_Rests_Chances : zRests ≠ zChances)
  (s_SumError_NoNet : PySem.W.subIn K (.ref zSumError) (.ref zNoNet) = some false)
  (ne_SumError_NoNet : zSumError ≠ zNoNet)
  (s_NoNet_NoNet : PySem.W.subIn K (.ref zNoNet) (.ref zNoNet) = some true)
  (s_NoWorth_NoNet : PySem.W.subIn K (.ref zNoWorth) (.ref zNoNet) = some false)
  (ne_NoWorth_NoNet : zNoWorth ≠ zNoNet)
  (s_SumError_NoWorth : PySem.W.subIn K (.ref zSumError) (.ref zNoWorth) = some false)
  (ne_SumError_NoWorth : zSumError ≠ zNoWorth)
  (s_NoNet_NoWorth : PySem.W.subIn K (.ref zNoNet) (.ref zNoWorth) = some false)
  (ne_NoNet_NoWorth : zNoNet ≠ zNoWorth)
  (s_NoWorth_NoWorth : PySem.W.subIn K (.ref zNoWorth) (.ref zNoWorth) = some true)
  (s_SumError_SumError : PySem.W.subIn K (.ref zSumError) (.ref zSumError) = some true)
  (s_NoNet_SumError : PySem.W.subIn K (.ref zNoNet) (.ref zSumError) = some true)
  (s_NoWorth_SumError : PySem.W.subIn K (.ref zNoWorth) (.ref zSumError) = some true)
  (v_SumError : PySem.W.subIn K (.ref zSumError) (.type "ValueError") = some true)
  (v_NoNet : PySem.W.subIn K (.ref zNoNet) (.type "ValueError") = some true)
  (v_NoWorth : PySem.W.subIn K (.ref zNoWorth) (.type "ValueError") = some true)
  (at_Net_many : PySem.W.findIn K (.ref zNet) "many" = some none)
  (at_Net_rows : PySem.W.findIn K (.ref zNet) "rows" = some none)
  (at_Net_sort_of : PySem.W.findIn K (.ref zNet) "sort_of" = some none)
  (at_Rests_m : PySem.W.findIn K (.ref zRests) "m" = some none)
  (n_len : PySem.W.nsIn K mainGlobals "len" = some none)
  (n_range : PySem.W.nsIn K mainGlobals "range" = some none)
  (n_isinstance : PySem.W.nsIn K mainGlobals "isinstance" = some none)
  (n_min : PySem.W.nsIn K mainGlobals "min" = some none)
  (n_max : PySem.W.nsIn K mainGlobals "max" = some none)
  (n_list : PySem.W.nsIn K mainGlobals "list" = some none)
  (n_tuple : PySem.W.nsIn K mainGlobals "tuple" = some none)
  (n_int : PySem.W.nsIn K mainGlobals "int" = some none)
  (n_ValueError : PySem.W.nsIn K mainGlobals "ValueError" = some none)
  (n_WIDEST : PySem.W.nsIn K mainGlobals "WIDEST" = some (some (.int 1000000000 tkWIDEST)))
  (n_MOST_PLACES : PySem.W.nsIn K mainGlobals "MOST_PLACES" = some (some (.int 8 tkMOST_PLACES)))
  (n_MOST_ROADS : PySem.W.nsIn K mainGlobals "MOST_ROADS" = some (some (.int 64 tkMOST_ROADS)))
  (hn : PySem.W.specialIn K (.builtin "object.__class__") "__get__" = some (some (.builtin "getset_descriptor.__get__")))
  (ht : PySem.W.takesIn K (.builtin "object.__class__") = some true)
  : ∃ fd : FuncData, (∀ (s : Shared) (v : Value), BindsTo s fd ⟨[v], []⟩ [("script", v)]) ∧ ∀ base : Heap, K.In base → base.Ns mainGlobals mg → FnOk l.prog w K mg base CX0 20 fa fd ["script"] (spLaw K) := by
  have e := hfa.symm.trans (PySem.W.mg_of X G a_law)
  cases e
  have TT : Tx K mg ⟨zSumError, zNoNet, zNoWorth, zKind, zFewest, zWidest, zCounted, zLikeliest, zChances, zMusts, zRests, zNet⟩ := by
    constructor
    · exact ⟨_, _, ⟨PySem.W.mg_of X G a_common, fun_mk l_common c_common k_common, (Fun.binds (fun_mk l_common c_common k_common) (ps := ["one", "other"]) fun _ _ _ _ _ _ us hl => match us, hl with | [_, _], _ => rfl)⟩⟩
    · exact ⟨_, _, ⟨PySem.W.mg_of X G a_lowest, fun_mk l_lowest c_lowest k_lowest, (Fun.binds (fun_mk l_lowest c_lowest k_lowest) (ps := ["top", "below"]) fun _ _ _ _ _ _ us hl => match us, hl with | [_, _], _ => rfl)⟩⟩
    · exact ⟨_, _, ⟨PySem.W.mg_of X G a_is_share, fun_mk l_is_share c_is_share k_is_share, (Fun.binds (fun_mk l_is_share c_is_share k_is_share) (ps := ["some"]) fun _ _ _ _ _ _ us hl => match us, hl with | [_], _ => rfl)⟩⟩
    · exact ⟨_, _, ⟨PySem.W.mg_of X G a_added, fun_mk l_added c_added k_added, (Fun.binds (fun_mk l_added c_added k_added) (ps := ["one", "other"]) fun _ _ _ _ _ _ us hl => match us, hl with | [_, _], _ => rfl)⟩⟩
    · exact ⟨_, _, ⟨PySem.W.mg_of X G a_less, fun_mk l_less c_less k_less, (Fun.binds (fun_mk l_less c_less k_less) (ps := ["one", "other"]) fun _ _ _ _ _ _ us hl => match us, hl with | [_, _], _ => rfl)⟩⟩
    · exact ⟨_, _, ⟨PySem.W.mg_of X G a__law_cell_at, fun_mk l__law_cell_at c__law_cell_at k__law_cell_at, (Fun.binds (fun_mk l__law_cell_at c__law_cell_at k__law_cell_at) (ps := ["script", "k"]) fun _ _ _ _ _ _ us hl => match us, hl with | [_, _], _ => rfl)⟩⟩
    · exact ⟨_, _, ⟨PySem.W.mg_of X G a__law_kind, fun_mk l__law_kind c__law_kind k__law_kind, (Fun.binds (fun_mk l__law_kind c__law_kind k__law_kind) (ps := ["which", "m"]) fun _ _ _ _ _ _ us hl => match us, hl with | [_, _], _ => rfl)⟩⟩
    · exact ⟨_, _, ⟨PySem.W.mg_of X G a__law_share, fun_mk l__law_share c__law_share k__law_share, (Fun.binds (fun_mk l__law_share c__law_share k__law_share) (ps := ["top", "below"]) fun _ _ _ _ _ _ us hl => match us, hl with | [_, _], _ => rfl)⟩⟩
    · exact ⟨_, _, ⟨PySem.W.mg_of X G a__law_none, fun_mk l__law_none c__law_none k__law_none, (Fun.binds (fun_mk l__law_none c__law_none k__law_none) (ps := ["which"]) fun _ _ _ _ _ _ us hl => match us, hl with | [_], _ => rfl)⟩⟩
    · exact ⟨_, _, ⟨PySem.W.mg_of X G a__law_rest, fun_mk l__law_rest c__law_rest k__law_rest, (Fun.binds (fun_mk l__law_rest c__law_rest k__law_rest) (ps := ["which"]) fun _ _ _ _ _ _ us hl => match us, hl with | [_], _ => rfl)⟩⟩
    · exact ⟨_, _, ⟨PySem.W.mg_of X G a__law_tog, fun_mk l__law_tog c__law_tog k__law_tog, (Fun.binds (fun_mk l__law_tog c__law_tog k__law_tog) (ps := ["which", "one", "other"]) fun _ _ _ _ _ _ us hl => match us, hl with | [_, _, _], _ => rfl)⟩⟩
    · exact ⟨_, _, ⟨PySem.W.mg_of X G a__law_worth, fun_mk l__law_worth c__law_worth k__law_worth, (Fun.binds (fun_mk l__law_worth c__law_worth k__law_worth) (ps := ["which", "m", "cell"]) fun _ _ _ _ _ _ us hl => match us, hl with | [_, _, _], _ => rfl)⟩⟩
    · exact ⟨_, _, ⟨PySem.W.mg_of X G a__law_thinned, fun_mk l__law_thinned c__law_thinned k__law_thinned, (Fun.binds (fun_mk l__law_thinned c__law_thinned k__law_thinned) (ps := ["many", "roads"]) fun _ _ _ _ _ _ us hl => match us, hl with | [_, _], _ => rfl)⟩⟩
    · exact ⟨_, _, ⟨PySem.W.mg_of X G a__law_net, fun_mk l__law_net c__law_net k__law_net, (Fun.binds (fun_mk l__law_net c__law_net k__law_net) (ps := ["script", "at", "which", "m", "most", "extra"]) fun _ _ _ _ _ _ us hl => match us, hl with | [_, _, _, _, _, _], _ => rfl)⟩⟩
    · exact ⟨_, _, ⟨PySem.W.mg_of X G a__law_which, fun_mk l__law_which c__law_which k__law_which, (Fun.binds (fun_mk l__law_which c__law_which k__law_which) (ps := ["e"]) fun _ _ _ _ _ _ us hl => match us, hl with | [_], _ => rfl)⟩⟩
    · exact ⟨_, _, ⟨PySem.W.mg_of X G a__law_turned, fun_mk l__law_turned c__law_turned k__law_turned, (Fun.binds (fun_mk l__law_turned c__law_turned k__law_turned) (ps := ["script", "which", "many", "roads"]) fun _ _ _ _ _ _ us hl => match us, hl with | [_, _, _, _], _ => rfl)⟩⟩
    · exact ⟨PySem.W.mg_of X G g_Kind, ⟨p1Kind, p2Kind, p3Kind, p4Kind⟩, q1Kind, q2Kind, q3Kind, q4Kind⟩
    · exact ⟨q5Kind⟩
    · exact ⟨PySem.W.mg_of X G g_Fewest, ⟨p1Fewest, p2Fewest, p3Fewest, p4Fewest⟩, q1Fewest, q2Fewest, q3Fewest, q4Fewest⟩
    · exact ⟨q5Fewest⟩
    · exact ⟨PySem.W.mg_of X G g_Widest, ⟨p1Widest, p2Widest, p3Widest, p4Widest⟩, q1Widest, q2Widest, q3Widest, q4Widest⟩
    · exact ⟨q5Widest⟩
    · exact ⟨PySem.W.mg_of X G g_Counted, ⟨p1Counted, p2Counted, p3Counted, p4Counted⟩, q1Counted, q2Counted, q3Counted, q4Counted⟩
    · exact ⟨q5Counted⟩
    · exact ⟨PySem.W.mg_of X G g_Likeliest, ⟨p1Likeliest, p2Likeliest, p3Likeliest, p4Likeliest⟩, q1Likeliest, q2Likeliest, q3Likeliest, q4Likeliest⟩
    · exact ⟨q5Likeliest⟩
    · exact ⟨PySem.W.mg_of X G g_Chances, ⟨p1Chances, p2Chances, p3Chances, p4Chances⟩, q1Chances, q2Chances, q3Chances, q4Chances⟩
    · exact ⟨q5Chances⟩
    · exact ⟨PySem.W.mg_of X G g_Musts, ⟨p1Musts, p2Musts, p3Musts, p4Musts⟩, q1Musts, q2Musts, q3Musts, q4Musts⟩
    · exact ⟨q5Musts⟩
    · exact ⟨PySem.W.mg_of X G g_Rests, ⟨p1Rests, p2Rests, p3Rests, p4Rests⟩, q1Rests, q2Rests, q3Rests, q4Rests⟩
    · exact ⟨PySem.W.mg_of X G g_Net, ⟨p1Net, p2Net, p3Net, p4Net⟩, q1Net, q2Net, q3Net, q4Net⟩
    · exact ⟨_, _, ⟨⟨a_Fewest_rest, i_Fewest_rest, k_Fewest_rest⟩, fun_mk l_Fewest_rest c_Fewest_rest k_Fewest_rest, (Fun.binds (fun_mk l_Fewest_rest c_Fewest_rest k_Fewest_rest) (ps := ["self"]) fun _ _ _ _ _ _ us hl => match us, hl with | [_], _ => rfl)⟩⟩
    · exact ⟨_, _, ⟨⟨a_Fewest_is_worth, i_Fewest_is_worth, k_Fewest_is_worth⟩, fun_mk l_Fewest_is_worth c_Fewest_is_worth k_Fewest_is_worth, (Fun.binds (fun_mk l_Fewest_is_worth c_Fewest_is_worth k_Fewest_is_worth) (ps := ["self", "some"]) fun _ _ _ _ _ _ us hl => match us, hl with | [_, _], _ => rfl)⟩⟩
    · exact ⟨_, _, ⟨⟨a_Widest_rest, i_Widest_rest, k_Widest_rest⟩, fun_mk l_Widest_rest c_Widest_rest k_Widest_rest, (Fun.binds (fun_mk l_Widest_rest c_Widest_rest k_Widest_rest) (ps := ["self"]) fun _ _ _ _ _ _ us hl => match us, hl with | [_], _ => rfl)⟩⟩
    · exact ⟨_, _, ⟨⟨a_Widest_is_worth, i_Widest_is_worth, k_Widest_is_worth⟩, fun_mk l_Widest_is_worth c_Widest_is_worth k_Widest_is_worth, (Fun.binds (fun_mk l_Widest_is_worth c_Widest_is_worth k_Widest_is_worth) (ps := ["self", "some"]) fun _ _ _ _ _ _ us hl => match us, hl with | [_, _], _ => rfl)⟩⟩
    · exact ⟨_, _, ⟨⟨a_Counted_rest, i_Counted_rest, k_Counted_rest⟩, fun_mk l_Counted_rest c_Counted_rest k_Counted_rest, (Fun.binds (fun_mk l_Counted_rest c_Counted_rest k_Counted_rest) (ps := ["self"]) fun _ _ _ _ _ _ us hl => match us, hl with | [_], _ => rfl)⟩⟩
    · exact ⟨_, _, ⟨⟨a_Counted_is_worth, i_Counted_is_worth, k_Counted_is_worth⟩, fun_mk l_Counted_is_worth c_Counted_is_worth k_Counted_is_worth, (Fun.binds (fun_mk l_Counted_is_worth c_Counted_is_worth k_Counted_is_worth) (ps := ["self", "some"]) fun _ _ _ _ _ _ us hl => match us, hl with | [_, _], _ => rfl)⟩⟩
    · exact ⟨_, _, ⟨⟨a_Likeliest_rest, i_Likeliest_rest, k_Likeliest_rest⟩, fun_mk l_Likeliest_rest c_Likeliest_rest k_Likeliest_rest, (Fun.binds (fun_mk l_Likeliest_rest c_Likeliest_rest k_Likeliest_rest) (ps := ["self"]) fun _ _ _ _ _ _ us hl => match us, hl with | [_], _ => rfl)⟩⟩
    · exact ⟨_, _, ⟨⟨a_Likeliest_is_worth, i_Likeliest_is_worth, k_Likeliest_is_worth⟩, fun_mk l_Likeliest_is_worth c_Likeliest_is_worth k_Likeliest_is_worth, (Fun.binds (fun_mk l_Likeliest_is_worth c_Likeliest_is_worth k_Likeliest_is_worth) (ps := ["self", "some"]) fun _ _ _ _ _ _ us hl => match us, hl with | [_, _], _ => rfl)⟩⟩
    · exact ⟨_, _, ⟨⟨a_Chances_rest, i_Chances_rest, k_Chances_rest⟩, fun_mk l_Chances_rest c_Chances_rest k_Chances_rest, (Fun.binds (fun_mk l_Chances_rest c_Chances_rest k_Chances_rest) (ps := ["self"]) fun _ _ _ _ _ _ us hl => match us, hl with | [_], _ => rfl)⟩⟩
    · exact ⟨_, _, ⟨⟨a_Chances_is_worth, i_Chances_is_worth, k_Chances_is_worth⟩, fun_mk l_Chances_is_worth c_Chances_is_worth k_Chances_is_worth, (Fun.binds (fun_mk l_Chances_is_worth c_Chances_is_worth k_Chances_is_worth) (ps := ["self", "some"]) fun _ _ _ _ _ _ us hl => match us, hl with | [_, _], _ => rfl)⟩⟩
    · exact ⟨_, _, ⟨⟨a_Musts_rest, i_Musts_rest, k_Musts_rest⟩, fun_mk l_Musts_rest c_Musts_rest k_Musts_rest, (Fun.binds (fun_mk l_Musts_rest c_Musts_rest k_Musts_rest) (ps := ["self"]) fun _ _ _ _ _ _ us hl => match us, hl with | [_], _ => rfl)⟩⟩
    · exact ⟨_, _, ⟨⟨a_Musts_is_worth, i_Musts_is_worth, k_Musts_is_worth⟩, fun_mk l_Musts_is_worth c_Musts_is_worth k_Musts_is_worth, (Fun.binds (fun_mk l_Musts_is_worth c_Musts_is_worth k_Musts_is_worth) (ps := ["self", "some"]) fun _ _ _ _ _ _ us hl => match us, hl with | [_, _], _ => rfl)⟩⟩
    · exact ⟨_, _, ⟨⟨q2Rests, a_Rests___init__, i_Rests___init__, q1Rests⟩, fun_mk l_Rests___init__ c_Rests___init__ k_Rests___init__, (Fun.binds (fun_mk l_Rests___init__ c_Rests___init__ k_Rests___init__) (ps := ["self", "m"]) fun _ _ _ _ _ _ us hl => match us, hl with | [_, _], _ => rfl)⟩⟩
    · exact ⟨_, _, ⟨⟨a_Rests_rest, i_Rests_rest, k_Rests_rest⟩, fun_mk l_Rests_rest c_Rests_rest k_Rests_rest, (Fun.binds (fun_mk l_Rests_rest c_Rests_rest k_Rests_rest) (ps := ["self"]) fun _ _ _ _ _ _ us hl => match us, hl with | [_], _ => rfl)⟩⟩
    · exact ⟨_, _, ⟨⟨a_Rests_is_worth, i_Rests_is_worth, k_Rests_is_worth⟩, fun_mk l_Rests_is_worth c_Rests_is_worth k_Rests_is_worth, (Fun.binds (fun_mk l_Rests_is_worth c_Rests_is_worth k_Rests_is_worth) (ps := ["self", "some"]) fun _ _ _ _ _ _ us hl => match us, hl with | [_, _], _ => rfl)⟩⟩
    · exact ⟨_, _, ⟨⟨q2Net, a_Net___init__, i_Net___init__, q1Net⟩, fun_mk l_Net___init__ c_Net___init__ k_Net___init__, (Fun.binds (fun_mk l_Net___init__ c_Net___init__ k_Net___init__) (ps := ["self", "kind", "places", "roads"]) fun _ _ _ _ _ _ us hl => match us, hl with | [_, _, _, _], _ => rfl)⟩⟩
    · exact ⟨_, _, ⟨⟨a_Net_ask_shares, i_Net_ask_shares, k_Net_ask_shares⟩, fun_mk l_Net_ask_shares c_Net_ask_shares k_Net_ask_shares, (Fun.binds (fun_mk l_Net_ask_shares c_Net_ask_shares k_Net_ask_shares) (ps := ["self", "kind", "places", "roads"]) fun _ _ _ _ _ _ us hl => match us, hl with | [_, _, _, _], _ => rfl)⟩⟩
    · exact ⟨_, _, ⟨⟨a_Net_kind, i_Net_kind, k_Net_kind⟩, fun_mk l_Net_kind c_Net_kind k_Net_kind, (Fun.binds (fun_mk l_Net_kind c_Net_kind k_Net_kind) (ps := ["self"]) fun _ _ _ _ _ _ us hl => match us, hl with | [_], _ => rfl)⟩⟩
    · exact ⟨_, _, ⟨⟨a_Net_places, i_Net_places, k_Net_places⟩, fun_mk l_Net_places c_Net_places k_Net_places, (Fun.binds (fun_mk l_Net_places c_Net_places k_Net_places) (ps := ["self"]) fun _ _ _ _ _ _ us hl => match us, hl with | [_], _ => rfl)⟩⟩
    · exact ⟨_, _, ⟨⟨a_Net_roads, i_Net_roads, k_Net_roads⟩, fun_mk l_Net_roads c_Net_roads k_Net_roads, (Fun.binds (fun_mk l_Net_roads c_Net_roads k_Net_roads) (ps := ["self"]) fun _ _ _ _ _ _ us hl => match us, hl with | [_], _ => rfl)⟩⟩
    · exact ⟨PySem.W.mg_of X G g_SumError, e0SumError, e1SumError, e2SumError, e3SumError, e4SumError, ⟨e5SumError, e6SumError, e2SumError, e7SumError, e8SumError, hn, ht, e9SumError⟩⟩
    · exact ⟨PySem.W.mg_of X G g_NoNet, e0NoNet, e1NoNet, e2NoNet, e3NoNet, e4NoNet, ⟨e5NoNet, e6NoNet, e2NoNet, e7NoNet, e8NoNet, hn, ht, e9NoNet⟩⟩
    · exact ⟨PySem.W.mg_of X G g_NoWorth, e0NoWorth, e1NoWorth, e2NoWorth, e3NoWorth, e4NoWorth, ⟨e5NoWorth, e6NoWorth, e2NoWorth, e7NoWorth, e8NoWorth, hn, ht, e9NoWorth⟩⟩
    · exact kit_ref r1Chances r2Chances s_Fewest_Chances (.inl ne_Fewest_Chances)
    · exact kit_ref r1Chances r2Chances s_Widest_Chances (.inl ne_Widest_Chances)
    · exact kit_ref r1Chances r2Chances s_Counted_Chances (.inl ne_Counted_Chances)
    · exact kit_ref r1Chances r2Chances s_Likeliest_Chances (.inl ne_Likeliest_Chances)
    · exact kit_ref r1Chances r2Chances s_Chances_Chances (.inr rfl)
    · exact kit_ref r1Chances r2Chances s_Musts_Chances (.inl ne_Musts_Chances)
    · exact kit_ref r1Chances r2Chances s_Rests_Chances (.inl ne_Rests_Chances)
    · exact kit_ref e4NoNet e3NoNet s_SumError_NoNet (.inl ne_SumError_NoNet)
    · exact kit_ref e4NoNet e3NoNet s_NoNet_NoNet (.inr rfl)
    · exact kit_ref e4NoNet e3NoNet s_NoWorth_NoNet (.inl ne_NoWorth_NoNet)
    · exact kit_ref e4NoWorth e3NoWorth s_SumError_NoWorth (.inl ne_SumError_NoWorth)
    · exact kit_ref e4NoWorth e3NoWorth s_NoNet_NoWorth (.inl ne_NoNet_NoWorth)
    · exact kit_ref e4NoWorth e3NoWorth s_NoWorth_NoWorth (.inr rfl)
    · exact kit_ref e4SumError e3SumError s_SumError_SumError (.inr rfl)
    · exact kit_ref e4SumError e3SumError s_NoNet_SumError (.inr rfl)
    · exact kit_ref e4SumError e3SumError s_NoWorth_SumError (.inr rfl)
    · exact exm_of_kit e2SumError e4SumError e3SumError s_SumError_SumError
    · exact exm_of_kit e2SumError e4SumError e3SumError s_NoNet_SumError
    · exact exm_of_kit e2SumError e4SumError e3SumError s_NoWorth_SumError
    · exact kit_val v_SumError
    · exact kit_val v_NoNet
    · exact kit_val v_NoWorth
    · exact at_Net_many
    · exact at_Net_rows
    · exact at_Net_sort_of
    · exact at_Rests_m
    · exact PySem.W.mg_none_of X G n_len
    · exact PySem.W.mg_none_of X G n_range
    · exact PySem.W.mg_none_of X G n_isinstance
    · exact PySem.W.mg_none_of X G n_min
    · exact PySem.W.mg_none_of X G n_max
    · exact PySem.W.mg_none_of X G n_list
    · exact PySem.W.mg_none_of X G n_tuple
    · exact PySem.W.mg_none_of X G n_int
    · exact PySem.W.mg_none_of X G n_ValueError
    · exact ⟨_, PySem.W.mg_of X G n_WIDEST, ⟨_, rfl⟩⟩
    · exact ⟨_, PySem.W.mg_of X G n_MOST_PLACES, ⟨_, rfl⟩⟩
    · exact ⟨_, PySem.W.mg_of X G n_MOST_ROADS, ⟨_, rfl⟩⟩
    · exact hn
    · exact ht
  exact ⟨PySem.W.fnOf "law" "law" (defArgs s_law) (defBody s_law) (defScope s_law) .none kV_law dc_law pm_law an_law cd_law ct_law, fun s v => .of_eq rfl, fun base _ _ => ok_law TT (fun_mk (st := s_law) l_law c_law k_law)⟩
theorem walk {l : PySem.W.OpenLaw} {q : Program} {loose : List Str} {XP : (Str → Option Value) → Heap → Prop} {YP : World → Heap → Prop} {d : DefRec} {K : Params → PySem.W.Frag} (hn : l.most = some 63) (hdf : d.params.defaults = [])
    (hY : ∀ (w : World) (h : Heap), YP w h → (K w.params).In h)
    (F : ∀ (w : World) (mg : Str → Option Value) (fa : Addr) (h : Heap), (K w.params).In h → h.Ns mainGlobals mg → mg d.name = some (.ref fa) →
      ∃ fd : FuncData, (∀ (s : Shared) (u : Value), BindsTo s fd ⟨[u], []⟩ [("script", u)]) ∧ ∀ base : Heap, (K w.params).In base → base.Ns mainGlobals mg → FnOk l.prog w (K w.params) mg base CX0 20 fa fd ["script"] (spLaw (K w.params))) :
    PySem.W.WalkO q loose XP YP l.row.toRowW d [] (fun f vs => PySem.call f vs) :=
  L2.walk_of (n := 63) (k := 20) (x := "script") (CX := fun _ => CX0) (sp := fun w => spLaw (K w.params)) hn (by decide) hdf ⟨rfl, by decide, by decide⟩ hY F (fun _ _ a ns hl _ hS => ⟨a, ns, rfl, hS, hl, fun _ => rfl⟩) fun _ _ _ _ _ z => z
end Ws
open PySem PySem.W PyProof.Rows in
open_top whead for PySem.Challenge.rw_waysum_k04_nets
open PySem PySem.W PyProof.Rows in
set_option maxRecDepth 100000 in
set_option maxHeartbeats 0 in
theorem PySem.Challenge.cw_waysum_k04_nets_holds : PySem.Challenge.rw_waysum_k04_nets.Holds := by
  refine whead ?_
  k_fill
  refine Ws.walk (l := PySem.Challenge.rw_waysum_k04_nets) rfl rfl (fun w h Y => PySem.W.kIn_of Y) ?F
  case F =>
    intro w mg fa h KX G hmg
    refine' Ws.fin KX G hmg ?g_SumError ?g_NoNet ?g_NoWorth ?g_Kind ?g_Fewest ?g_Widest ?g_Counted ?g_Likeliest ?g_Chances ?g_Musts ?g_Rests ?g_Net ?a_common ?l_common ?c_common ?k_common ?a_lowest ?l_lowest ?c_lowest ?k_lowest ?a_is_share ?l_is_share ?c_is_share ?k_is_share ?a_added ?l_added ?c_added ?k_added ?a_less ?l_less ?c_less ?k_less ?a__law_cell_at ?l__law_cell_at ?c__law_cell_at ?k__law_cell_at ?a__law_kind ?l__law_kind ?c__law_kind ?k__law_kind ?a__law_share ?l__law_share ?c__law_share ?k__law_share ?a__law_none ?l__law_none ?c__law_none ?k__law_none ?a__law_rest ?l__law_rest ?c__law_rest ?k__law_rest ?a__law_tog ?l__law_tog ?c__law_tog ?k__law_tog ?a__law_worth ?l__law_worth ?c__law_worth ?k__law_worth ?a__law_thinned ?l__law_thinned ?c__law_thinned ?k__law_thinned ?a__law_net ?l__law_net ?c__law_net ?k__law_net ?a__law_which ?l__law_which ?c__law_which ?k__law_which ?a__law_turned ?l__law_turned ?c__law_turned ?k__law_turned ?a_law ?l_law ?c_law ?k_law ?p1Kind ?p2Kind ?p3Kind ?p4Kind ?q1Kind ?q2Kind ?q3Kind ?q4Kind ?q5Kind ?p1Fewest ?p2Fewest ?p3Fewest ?p4Fewest ?q1Fewest ?q2Fewest ?q3Fewest ?q4Fewest ?q5Fewest ?p1Widest ?p2Widest ?p3Widest ?p4Widest ?q1Widest ?q2Widest ?q3Widest ?q4Widest ?q5Widest ?p1Counted ?p2Counted ?p3Counted ?p4Counted ?q1Counted ?q2Counted ?q3Counted ?q4Counted ?q5Counted ?p1Likeliest ?p2Likeliest ?p3Likeliest ?p4Likeliest ?q1Likeliest ?q2Likeliest ?q3Likeliest ?q4Likeliest ?q5Likeliest ?p1Chances ?p2Chances ?p3Chances ?p4Chances ?q1Chances ?q2Chances ?q3Chances ?q4Chances ?q5Chances ?p1Musts ?p2Musts ?p3Musts ?p4Musts ?q1Musts ?q2Musts ?q3Musts ?q4Musts ?q5Musts ?p1Rests ?p2Rests ?p3Rests ?p4Rests ?q1Rests ?q2Rests ?q3Rests ?q4Rests ?p1Net ?p2Net ?p3Net ?p4Net ?q1Net ?q2Net ?q3Net ?q4Net ?a_Fewest_rest ?i_Fewest_rest ?l_Fewest_rest ?c_Fewest_rest ?k_Fewest_rest ?a_Fewest_is_worth ?i_Fewest_is_worth ?l_Fewest_is_worth ?c_Fewest_is_worth ?k_Fewest_is_worth ?a_Widest_rest ?i_Widest_rest ?l_Widest_rest ?c_Widest_rest ?k_Widest_rest ?a_Widest_is_worth ?i_Widest_is_worth ?l_Widest_is_worth ?c_Widest_is_worth ?k_Widest_is_worth ?a_Counted_rest ?i_Counted_rest ?l_Counted_rest ?c_Counted_rest ?k_Counted_rest ?a_Counted_is_worth ?i_Counted_is_worth ?l_Counted_is_worth ?c_Counted_is_worth ?k_Counted_is_worth ?a_Likeliest_rest ?i_Likeliest_rest ?l_Likeliest_rest ?c_Likeliest_rest ?k_Likeliest_rest ?a_Likeliest_is_worth ?i_Likeliest_is_worth ?l_Likeliest_is_worth ?c_Likeliest_is_worth ?k_Likeliest_is_worth ?a_Chances_rest ?i_Chances_rest ?l_Chances_rest ?c_Chances_rest ?k_Chances_rest ?a_Chances_is_worth ?i_Chances_is_worth ?l_Chances_is_worth ?c_Chances_is_worth ?k_Chances_is_worth ?a_Musts_rest ?i_Musts_rest ?l_Musts_rest ?c_Musts_rest ?k_Musts_rest ?a_Musts_is_worth ?i_Musts_is_worth ?l_Musts_is_worth ?c_Musts_is_worth ?k_Musts_is_worth ?a_Rests___init__ ?i_Rests___init__ ?l_Rests___init__ ?c_Rests___init__ ?k_Rests___init__ ?a_Rests_rest ?i_Rests_rest ?l_Rests_rest ?c_Rests_rest ?k_Rests_rest ?a_Rests_is_worth ?i_Rests_is_worth ?l_Rests_is_worth ?c_Rests_is_worth ?k_Rests_is_worth ?a_Net___init__ ?i_Net___init__ ?l_Net___init__ ?c_Net___init__ ?k_Net___init__ ?a_Net_ask_shares ?i_Net_ask_shares ?l_Net_ask_shares ?c_Net_ask_shares ?k_Net_ask_shares ?a_Net_kind ?i_Net_kind ?l_Net_kind ?c_Net_kind ?k_Net_kind ?a_Net_places ?i_Net_places ?l_Net_places ?c_Net_places ?k_Net_places ?a_Net_roads ?i_Net_roads ?l_Net_roads ?c_Net_roads ?k_Net_roads ?e0SumError ?e1SumError ?e2SumError ?e3SumError ?e4SumError ?e5SumError ?e6SumError ?e7SumError ?e8SumError ?e9SumError ?e0NoNet ?e1NoNet ?e2NoNet ?e3NoNet ?e4NoNet ?e5NoNet ?e6NoNet ?e7NoNet ?e8NoNet ?e9NoNet ?e0NoWorth ?e1NoWorth ?e2NoWorth ?e3NoWorth ?e4NoWorth ?e5NoWorth ?e6NoWorth ?e7NoWorth ?e8NoWorth ?e9NoWorth ?r1Chances ?r2Chances ?s_Fewest_Chances ?ne_Fewest_Chances ?s_Widest_Chances ?ne_Widest_Chances ?s_Counted_Chances ?ne_Counted_Chances ?s_Likeliest_Chances ?ne_Likeliest_Chances ?s_Chances_Chances ?s_Musts_Chances ?ne_Musts_Chances ?s_Rests_Chances ?ne_Rests_Chances ?s_SumError_NoNet ?ne_SumError_NoNet ?s_NoNet_NoNet ?s_NoWorth_NoNet ?ne_NoWorth_NoNet ?s_SumError_NoWorth ?ne_SumError_NoWorth ?s_NoNet_NoWorth ?ne_NoNet_NoWorth ?s_NoWorth_NoWorth ?s_SumError_SumError ?s_NoNet_SumError ?s_NoWorth_SumError ?v_SumError ?v_NoNet ?v_NoWorth ?at_Net_many ?at_Net_rows ?at_Net_sort_of ?at_Rests_m ?n_len ?n_range ?n_isinstance ?n_min ?n_max ?n_list ?n_tuple ?n_int ?n_ValueError ?n_WIDEST ?n_MOST_PLACES ?n_MOST_ROADS ?hn ?ht
    (case g_SumError => k_is)
    (case g_NoNet => k_is)
    (case g_NoWorth => k_is)
    (case g_Kind => k_is)
    (case g_Fewest => k_is)
    (case g_Widest => k_is)
    (case g_Counted => k_is)
    (case g_Likeliest => k_is)
    (case g_Chances => k_is)
    (case g_Musts => k_is)
    (case g_Rests => k_is)
    (case g_Net => k_is)
    (case a_common => k_is)
    (case l_common => k_is)
    (case c_common => k_is)
    (case k_common => k_is)
    (case a_lowest => k_is)
    (case l_lowest => k_is)
    (case c_lowest => k_is)
    (case k_lowest => k_is)
    (case a_is_share => k_is)
    (case l_is_share => k_is)
    (case c_is_share => k_is)
    (case k_is_share => k_is)
    (case a_added => k_is)
    (case l_added => k_is)
    (case c_added => k_is)
    (case k_added => k_is)
    (case a_less => k_is)
    (case l_less => k_is)
    (case c_less => k_is)
    (case k_less => k_is)
    (case a__law_cell_at => k_is)
    (case l__law_cell_at => k_is)
    (case c__law_cell_at => k_is)
    (case k__law_cell_at => k_is)
    (case a__law_kind => k_is)
    (case l__law_kind => k_is)
    (case c__law_kind => k_is)
    (case k__law_kind => k_is)
    (case a__law_share => k_is)
    (case l__law_share => k_is)
    (case c__law_share => k_is)
    (case k__law_share => k_is)
    (case a__law_none => k_is)
    (case l__law_none => k_is)
    (case c__law_none => k_is)
    (case k__law_none => k_is)
    (case a__law_rest => k_is)
    (case l__law_rest => k_is)
    (case c__law_rest => k_is)
    (case k__law_rest => k_is)
    (case a__law_tog => k_is)
    (case l__law_tog => k_is)
    (case c__law_tog => k_is)
    (case k__law_tog => k_is)
    (case a__law_worth => k_is)
    (case l__law_worth => k_is)
    (case c__law_worth => k_is)
    (case k__law_worth => k_is)
    (case a__law_thinned => k_is)
    (case l__law_thinned => k_is)
    (case c__law_thinned => k_is)
    (case k__law_thinned => k_is)
    (case a__law_net => k_is)
    (case l__law_net => k_is)
    (case c__law_net => k_is)
    (case k__law_net => k_is)
    (case a__law_which => k_is)
    (case l__law_which => k_is)
    (case c__law_which => k_is)
    (case k__law_which => k_is)
    (case a__law_turned => k_is)
    (case l__law_turned => k_is)
    (case c__law_turned => k_is)
    (case k__law_turned => k_is)
    (case a_law => k_is)
    (case l_law => k_is)
    (case c_law => k_is)
    (case k_law => k_is)
    (case p1Kind => k_is)
    (case p2Kind => k_is)
    (case p3Kind => k_is)
    (case p4Kind => k_is)
    (case q1Kind => k_is)
    (case q2Kind => k_is)
    (case q3Kind => k_is)
    (case q4Kind => k_is)
    (case q5Kind => k_is)
    (case p1Fewest => k_is)
    (case p2Fewest => k_is)
    (case p3Fewest => k_is)
    (case p4Fewest => k_is)
    (case q1Fewest => k_is)
    (case q2Fewest => k_is)
    (case q3Fewest => k_is)
    (case q4Fewest => k_is)
    (case q5Fewest => k_is)
    (case p1Widest => k_is)
    (case p2Widest => k_is)
    (case p3Widest => k_is)
    (case p4Widest => k_is)
    (case q1Widest => k_is)
    (case q2Widest => k_is)
    (case q3Widest => k_is)
    (case q4Widest => k_is)
    (case q5Widest => k_is)
    (case p1Counted => k_is)
    (case p2Counted => k_is)
    (case p3Counted => k_is)
    (case p4Counted => k_is)
    (case q1Counted => k_is)
    (case q2Counted => k_is)
    (case q3Counted => k_is)
    (case q4Counted => k_is)
    (case q5Counted => k_is)
    (case p1Likeliest => k_is)
    (case p2Likeliest => k_is)
    (case p3Likeliest => k_is)
    (case p4Likeliest => k_is)
    (case q1Likeliest => k_is)
    (case q2Likeliest => k_is)
    (case q3Likeliest => k_is)
    (case q4Likeliest => k_is)
    (case q5Likeliest => k_is)
    (case p1Chances => k_is)
    (case p2Chances => k_is)
    (case p3Chances => k_is)
    (case p4Chances => k_is)
    (case q1Chances => k_is)
    (case q2Chances => k_is)
    (case q3Chances => k_is)
    (case q4Chances => k_is)
    (case q5Chances => k_is)
    (case p1Musts => k_is)
    (case p2Musts => k_is)
    (case p3Musts => k_is)
    (case p4Musts => k_is)
    (case q1Musts => k_is)
    (case q2Musts => k_is)
    (case q3Musts => k_is)
    (case q4Musts => k_is)
    (case q5Musts => k_is)
    (case p1Rests => k_is)
    (case p2Rests => k_is)
    (case p3Rests => k_is)
    (case p4Rests => k_is)
    (case q1Rests => k_is)
    (case q2Rests => k_is)
    (case q3Rests => k_is)
    (case q4Rests => k_is)
    (case p1Net => k_is)
    (case p2Net => k_is)
    (case p3Net => k_is)
    (case p4Net => k_is)
    (case q1Net => k_is)
    (case q2Net => k_is)
    (case q3Net => k_is)
    (case q4Net => k_is)
    (case a_Fewest_rest => k_is)
    (case i_Fewest_rest => k_is)
    (case l_Fewest_rest => k_is)
    (case c_Fewest_rest => k_is)
    (case k_Fewest_rest => k_is)
    (case a_Fewest_is_worth => k_is)
    (case i_Fewest_is_worth => k_is)
    (case l_Fewest_is_worth => k_is)
    (case c_Fewest_is_worth => k_is)
    (case k_Fewest_is_worth => k_is)
    (case a_Widest_rest => k_is)
    (case i_Widest_rest => k_is)
    (case l_Widest_rest => k_is)
    (case c_Widest_rest => k_is)
    (case k_Widest_rest => k_is)
    (case a_Widest_is_worth => k_is)
    (case i_Widest_is_worth => k_is)
    (case l_Widest_is_worth => k_is)
    (case c_Widest_is_worth => k_is)
    (case k_Widest_is_worth => k_is)
    (case a_Counted_rest => k_is)
    (case i_Counted_rest => k_is)
    (case l_Counted_rest => k_is)
    (case c_Counted_rest => k_is)
    (case k_Counted_rest => k_is)
    (case a_Counted_is_worth => k_is)
    (case i_Counted_is_worth => k_is)
    (case l_Counted_is_worth => k_is)
    (case c_Counted_is_worth => k_is)
    (case k_Counted_is_worth => k_is)
    (case a_Likeliest_rest => k_is)
    (case i_Likeliest_rest => k_is)
    (case l_Likeliest_rest => k_is)
    (case c_Likeliest_rest => k_is)
    (case k_Likeliest_rest => k_is)
    (case a_Likeliest_is_worth => k_is)
    (case i_Likeliest_is_worth => k_is)
    (case l_Likeliest_is_worth => k_is)
    (case c_Likeliest_is_worth => k_is)
    (case k_Likeliest_is_worth => k_is)
    (case a_Chances_rest => k_is)
    (case i_Chances_rest => k_is)
    (case l_Chances_rest => k_is)
    (case c_Chances_rest => k_is)
    (case k_Chances_rest => k_is)
    (case a_Chances_is_worth => k_is)
    (case i_Chances_is_worth => k_is)
    (case l_Chances_is_worth => k_is)
    (case c_Chances_is_worth => k_is)
    (case k_Chances_is_worth => k_is)
    (case a_Musts_rest => k_is)
    (case i_Musts_rest => k_is)
    (case l_Musts_rest => k_is)
    (case c_Musts_rest => k_is)
    (case k_Musts_rest => k_is)
    (case a_Musts_is_worth => k_is)
    (case i_Musts_is_worth => k_is)
    (case l_Musts_is_worth => k_is)
    (case c_Musts_is_worth => k_is)
    (case k_Musts_is_worth => k_is)
    (case a_Rests___init__ => k_is)
    (case i_Rests___init__ => k_is)
    (case l_Rests___init__ => k_is)
    (case c_Rests___init__ => k_is)
    (case k_Rests___init__ => k_is)
    (case a_Rests_rest => k_is)
    (case i_Rests_rest => k_is)
    (case l_Rests_rest => k_is)
    (case c_Rests_rest => k_is)
    (case k_Rests_rest => k_is)
    (case a_Rests_is_worth => k_is)
    (case i_Rests_is_worth => k_is)
    (case l_Rests_is_worth => k_is)
    (case c_Rests_is_worth => k_is)
    (case k_Rests_is_worth => k_is)
    (case a_Net___init__ => k_is)
    (case i_Net___init__ => k_is)
    (case l_Net___init__ => k_is)
    (case c_Net___init__ => k_is)
    (case k_Net___init__ => k_is)
    (case a_Net_ask_shares => k_is)
    (case i_Net_ask_shares => k_is)
    (case l_Net_ask_shares => k_is)
    (case c_Net_ask_shares => k_is)
    (case k_Net_ask_shares => k_is)
    (case a_Net_kind => k_is)
    (case i_Net_kind => k_is)
    (case l_Net_kind => k_is)
    (case c_Net_kind => k_is)
    (case k_Net_kind => k_is)
    (case a_Net_places => k_is)
    (case i_Net_places => k_is)
    (case l_Net_places => k_is)
    (case c_Net_places => k_is)
    (case k_Net_places => k_is)
    (case a_Net_roads => k_is)
    (case i_Net_roads => k_is)
    (case l_Net_roads => k_is)
    (case c_Net_roads => k_is)
    (case k_Net_roads => k_is)
    (case e0SumError => k_is)
    (case e1SumError => k_exc)
    (case e2SumError => k_is)
    (case e3SumError => k_is)
    (case e4SumError => k_is)
    (case e5SumError => k_is)
    (case e6SumError => k_is)
    (case e7SumError => k_is)
    (case e8SumError => k_is)
    (case e9SumError => k_is)
    (case e0NoNet => k_is)
    (case e1NoNet => k_exc)
    (case e2NoNet => k_is)
    (case e3NoNet => k_is)
    (case e4NoNet => k_is)
    (case e5NoNet => k_is)
    (case e6NoNet => k_is)
    (case e7NoNet => k_is)
    (case e8NoNet => k_is)
    (case e9NoNet => k_is)
    (case e0NoWorth => k_is)
    (case e1NoWorth => k_exc)
    (case e2NoWorth => k_is)
    (case e3NoWorth => k_is)
    (case e4NoWorth => k_is)
    (case e5NoWorth => k_is)
    (case e6NoWorth => k_is)
    (case e7NoWorth => k_is)
    (case e8NoWorth => k_is)
    (case e9NoWorth => k_is)
    (case r1Chances => k_is)
    (case r2Chances => k_is)
    (case s_Fewest_Chances => k_is)
    (case ne_Fewest_Chances => decide)
    (case s_Widest_Chances => k_is)
    (case ne_Widest_Chances => decide)
    (case s_Counted_Chances => k_is)
    (case ne_Counted_Chances => decide)
    (case s_Likeliest_Chances => k_is)
    (case ne_Likeliest_Chances => decide)
    (case s_Chances_Chances => k_is)
    (case s_Musts_Chances => k_is)
    (case ne_Musts_Chances => decide)
    (case s_Rests_Chances => k_is)
    (case ne_Rests_Chances => decide)
    (case s_SumError_NoNet => k_is)
    (case ne_SumError_NoNet => decide)
    (case s_NoNet_NoNet => k_is)
    (case s_NoWorth_NoNet => k_is)
    (case ne_NoWorth_NoNet => decide)
    (case s_SumError_NoWorth => k_is)
    (case ne_SumError_NoWorth => decide)
    (case s_NoNet_NoWorth => k_is)
    (case ne_NoNet_NoWorth => decide)
    (case s_NoWorth_NoWorth => k_is)
    (case s_SumError_SumError => k_is)
    (case s_NoNet_SumError => k_is)
    (case s_NoWorth_SumError => k_is)
    (case v_SumError => k_is)
    (case v_NoNet => k_is)
    (case v_NoWorth => k_is)
    (case at_Net_many => k_is)
    (case at_Net_rows => k_is)
    (case at_Net_sort_of => k_is)
    (case at_Rests_m => k_is)
    (case n_len => k_is)
    (case n_range => k_is)
    (case n_isinstance => k_is)
    (case n_min => k_is)
    (case n_max => k_is)
    (case n_list => k_is)
    (case n_tuple => k_is)
    (case n_int => k_is)
    (case n_ValueError => k_is)
    (case n_WIDEST => k_is)
    (case n_MOST_PLACES => k_is)
    (case n_MOST_ROADS => k_is)
    (case hn => k_is)
    (case ht => k_is)
#print axioms PySem.Challenge.cw_waysum_k04_nets_holds
