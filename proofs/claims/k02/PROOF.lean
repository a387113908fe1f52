import PyProof.Rows.All
import Wide.All
import OpenK.AllK
import Wide.FinOn
import HandS.ForMost
import HandS.ForExc
import HandS.Wide
import HandS.WideBits
import HandS.IsInst
import HandS.ExcIs
import HandS.HotCalls
import HandS.Codes
import HandS.TupLe
import PySem.Challenge.RW_waysum_k02_what_is_a_worth
set_option Elab.async false
set_option linter.all false
set_option maxRecDepth 100000
set_option maxHeartbeats 4000000
set_option autoImplicit false
namespace Ws
open PySem PySem.Spec PyProof.Rows L2
/-- the i-th statement of the text's top -/
def topS (i : Nat) : Stmt := PySem.Challenge.pw_waysum_k02_what_is_a_worth.main.body.getD i (.Pass ⟨0, 0, 0, 0⟩)
abbrev s_common : Stmt := topS 6
abbrev s_is_share : Stmt := topS 7
abbrev s__law_cell_at : Stmt := topS 19
abbrev s__law_kind : Stmt := topS 20
abbrev s__law_share : Stmt := topS 21
abbrev s__law_none : Stmt := topS 22
abbrev s__law_rest : Stmt := topS 23
abbrev s__law_worth : Stmt := topS 24
abbrev s__law_some : Stmt := topS 25
abbrev s__law_due : Stmt := topS 26
abbrev s__law_refused : Stmt := topS 27
abbrev s_law : Stmt := topS 28
abbrev s_Fewest_is_worth : Stmt := inClass (topS 11) 3
abbrev s_Widest_is_worth : Stmt := inClass (topS 12) 3
abbrev s_Counted_is_worth : Stmt := inClass (topS 13) 2
abbrev s_Likeliest_is_worth : Stmt := inClass (topS 14) 3
abbrev s_Chances_is_worth : Stmt := inClass (topS 15) 2
abbrev s_Musts_is_worth : Stmt := inClass (topS 16) 2
abbrev s_Rests___init__ : Stmt := inClass (topS 17) 0
abbrev s_Rests_is_worth : Stmt := inClass (topS 17) 3
/-! ### M1: worths, deeds (plain Lean) -/
/-- the seven kinds -/
inductive Kd where
  | few | wid | cnt | lik | cha | mus | rst (m : Nat)
  deriving DecidableEq
/-- their classes -/
inductive Kx where
  | few | wid | cnt | lik | cha | mus | rst
  deriving DecidableEq
def Kd.x : Kd → Kx
  | .few => .few | .wid => .wid | .cnt => .cnt | .lik => .lik | .cha => .cha | .mus => .mus | .rst _ => .rst
/-- rests by 1 to 12 -/
def KOk : Kd → Prop
  | .rst m => 1 ≤ m ∧ m ≤ 12
  | _ => True
/-- a worth -/
inductive Wo where
  | non | int (i : Int) | rat (r : Rat)
  deriving DecidableEq
def noneW : Kd → Wo
  | .few => .non | .wid => .int 0 | .cnt => .int 0 | .lik => .rat 0 | .cha => .rat 0 | .mus => .non | .rst _ => .int 0
def restW : Kd → Wo
  | .few => .int 0 | .wid => .int 1000000000 | .cnt => .int 1 | .lik => .rat 1 | .cha => .rat 1 | .mus => .int 0 | .rst _ => .int 1
/-- a worth of the kind -/
def Good : Kd → Wo → Prop
  | .few, .non => True
  | .few, .int i => 0 ≤ i
  | .wid, .int i => 0 ≤ i ∧ i ≤ 1000000000
  | .cnt, .int i => -1 ≤ i
  | .lik, .rat r => 0 ≤ r ∧ r ≤ 1
  | .cha, .rat r => 0 ≤ r
  | .mus, .non => True
  | .mus, .int i => 0 ≤ i
  | .rst m, .int i => 0 ≤ i ∧ i < 2 ^ m
  | _, _ => False
/-- the number whose bits below n are told -/
def bitsOf : Nat → (Nat → Bool) → Nat
  | 0, _ => 0
  | n + 1, p => bitsOf n p ||| (if p n then 2 ^ n else 0)
theorem bitsOf_lt : ∀ (n : Nat) (p : Nat → Bool), bitsOf n p < 2 ^ n
  | 0, _ => by show 0 < 1; decide
  | n + 1, p => by
    unfold bitsOf
    have h := bitsOf_lt n p
    refine Nat.or_lt_two_pow (by rw [Nat.pow_succ]; omega) ?_
    split
    · exact Nat.pow_lt_pow_right (by decide) (by omega)
    · exact Nat.two_pow_pos _
theorem testBit_bitsOf : ∀ (n : Nat) (p : Nat → Bool) (r : Nat), (bitsOf n p).testBit r = (decide (r < n) && p r)
  | 0, p, r => by simp [bitsOf]
  | n + 1, p, r => by
    unfold bitsOf
    rw [Nat.testBit_or, testBit_bitsOf n p r]
    by_cases h : r = n
    · subst h
      cases e : p r <;> simp
    · have h2 : decide (r < n + 1) = decide (r < n) := by
        rw [decide_eq_decide]; omega
      rw [h2]
      have h3 : (if p n then 2 ^ n else 0).testBit r = false := by
        split
        · rw [Nat.testBit_two_pow]; exact decide_eq_false (fun e => h e.symm)
        · exact Nat.zero_testBit r
      rw [h3, Bool.or_false]
theorem testBit_above {a m r : Nat} (h : a < 2 ^ m) (hr : m ≤ r) : a.testBit r = false :=
  Nat.testBit_lt_two_pow (Nat.lt_of_lt_of_le h (Nat.pow_le_pow_right (by decide) hr))
/-- rests behind one another -/
def rbeh (m a b : Nat) : Nat := bitsOf m fun r => (List.range m).any fun i => (List.range m).any fun j => a.testBit i && b.testBit j && (i + j) % m == r
theorem testBit_rbeh (m a b r : Nat) : (rbeh m a b).testBit r = true ↔ r < m ∧ ∃ i j, i < m ∧ j < m ∧ a.testBit i = true ∧ b.testBit j = true ∧ (i + j) % m = r := by
  unfold rbeh
  rw [testBit_bitsOf]
  simp only [Bool.and_eq_true, decide_eq_true_eq, List.any_eq_true, List.mem_range, beq_iff_eq]
  constructor
  · rintro ⟨h, i, hi, j, hj, ⟨ha, hb⟩, e⟩
    exact ⟨h, i, j, hi, hj, ha, hb, e⟩
  · rintro ⟨h, i, j, hi, hj, ha, hb, e⟩
    exact ⟨h, i, hi, j, hj, ⟨ha, hb⟩, e⟩
theorem rbeh_lt (m a b : Nat) : rbeh m a b < 2 ^ m := bitsOf_lt _ _
/-- rounds of rests: n turns -/
def riter (m a : Nat) : Nat → Nat
  | 0 => 1
  | n + 1 => riter m a n ||| rbeh m (riter m a n) a
def rstar (m a : Nat) : Nat := riter m a m
/-- together -/
def tog : Kd → Wo → Wo → Wo
  | .few, .non, b => b
  | .few, a, .non => a
  | .few, .int i, .int j => .int (if j < i then j else i)
  | .wid, .int i, .int j => .int (if j > i then j else i)
  | .cnt, .int i, .int j => if i = -1 ∨ j = -1 then .int (-1) else .int (i + j)
  | .lik, .rat r, .rat s => if r < s then .rat s else .rat r
  | .cha, .rat r, .rat s => .rat (r + s)
  | .mus, .non, b => b
  | .mus, a, .non => a
  | .mus, .int i, .int j => .int ((i.toNat &&& j.toNat : Nat) : Int)
  | .rst _, .int i, .int j => .int ((i.toNat ||| j.toNat : Nat) : Int)
  | _, a, _ => a
/-- behind -/
def beh : Kd → Wo → Wo → Wo
  | .few, .int i, .int j => .int (i + j)
  | .few, _, _ => .non
  | .wid, .int i, .int j => .int (if j < i then j else i)
  | .cnt, .int i, .int j => if i = 0 ∨ j = 0 then .int 0 else if i = -1 ∨ j = -1 then .int (-1) else .int (i * j)
  | .lik, .rat r, .rat s => .rat (r * s)
  | .cha, .rat r, .rat s => .rat (r * s)
  | .mus, .int i, .int j => .int ((i.toNat ||| j.toNat : Nat) : Int)
  | .mus, _, _ => .non
  | .rst m, .int i, .int j => .int (rbeh m i.toNat j.toNat : Nat)
  | _, a, _ => a
/-- rounds; none: no sum -/
def rnd : Kd → Wo → Option Wo
  | .few, _ => some (.int 0)
  | .wid, _ => some (.int 1000000000)
  | .cnt, .int i => some (.int (if i = 0 then 1 else -1))
  | .lik, _ => some (.rat 1)
  | .cha, .rat r => if r < 1 then some (.rat (1 / (1 - r))) else none
  | .mus, _ => some (.int 0)
  | .rst m, .int i => some (.int (rstar m i.toNat : Nat))
  | _, a => some a
/-- does the kind pick -/
def pick : Kd → Bool
  | .few => true | .wid => true | .lik => true | _ => false
/-- a number of bits -/
def sz : Wo → Nat
  | .non => 1
  | .int i => i.natAbs.log2 + 1
  | .rat r => max (r.num.natAbs.log2 + 1) (r.den.log2 + 1)
/-- what the deeds ask of sizes -/
def Fits : Kd → Wo → Wo → Prop
  | .lik, a, b => sz a + sz b ≤ 8000
  | .cha, a, b => sz a + sz b ≤ 8000
  | .cnt, a, b => sz a + sz b ≤ 900000
  | _, _, _ => True
/-- of one worth -/
def Fit1 : Kd → Wo → Prop
  | .cha, a => sz a ≤ 8000
  | _, _ => True
/-! rounds of rests -/
theorem riter_lt {m : Nat} (h : 1 ≤ m) (a : Nat) : ∀ n, riter m a n < 2 ^ m
  | 0 => by show 1 < 2 ^ m; exact Nat.one_lt_two_pow (by omega)
  | n + 1 => Nat.or_lt_two_pow (riter_lt h a n) (rbeh_lt m _ a)
theorem riter_sub (m a n r : Nat) (h : (riter m a n).testBit r = true) : (riter m a (n + 1)).testBit r = true := by
  show (riter m a n ||| rbeh m (riter m a n) a).testBit r = true
  rw [Nat.testBit_or, h, Bool.true_or]
def cnt (F : Nat) : Nat → Nat
  | 0 => 0
  | m + 1 => cnt F m + (if F.testBit m then 1 else 0)
theorem cnt_le (F : Nat) : ∀ m, cnt F m ≤ m
  | 0 => Nat.le_refl 0
  | m + 1 => by
    have := cnt_le F m
    unfold cnt
    split <;> omega
theorem cnt_mono {F G : Nat} (h : ∀ r, F.testBit r = true → G.testBit r = true) : ∀ m, cnt F m ≤ cnt G m
  | 0 => Nat.le_refl 0
  | m + 1 => by
    have := cnt_mono h m
    unfold cnt
    by_cases e : F.testBit m = true
    · rw [if_pos e, if_pos (h m e)]; omega
    · rw [if_neg e]; omega
theorem cnt_lt {F G : Nat} (h : ∀ r, F.testBit r = true → G.testBit r = true) : ∀ m r, r < m → F.testBit r = false → G.testBit r = true → cnt F m < cnt G m
  | 0, r, hr, _, _ => by omega
  | m + 1, r, hr, h1, h2 => by
    unfold cnt
    by_cases e : r = m
    · subst e
      have := cnt_mono h r
      rw [h1, h2]
      simp
      omega
    · have := cnt_lt h m r (by omega) h1 h2
      by_cases e : F.testBit m = true
      · rw [if_pos e, if_pos (h m e)]; omega
      · rw [if_neg e]; omega
theorem riter_still {m a n : Nat} (h : riter m a (n + 1) = riter m a n) : ∀ k, riter m a (n + k) = riter m a n
  | 0 => rfl
  | k + 1 => by
    have ih := riter_still h k
    show riter m a (n + k) ||| rbeh m (riter m a (n + k)) a = _
    rw [ih]
    exact h
theorem riter_grows {m a : Nat} (hm : 1 ≤ m) : ∀ n, (∀ j, j < n → riter m a (j + 1) ≠ riter m a j) → n + 1 ≤ cnt (riter m a n) m
  | 0, _ => by
    have h : cnt 0 m < cnt 1 m := cnt_lt (F := 0) (G := 1) (fun r h => by simp at h) m 0 (by omega) (by simp) (by simp)
    show 0 + 1 ≤ cnt 1 m
    omega
  | n + 1, h => by
    have ih := riter_grows hm n fun j hj => h j (by omega)
    have ne := h n (by omega)
    obtain ⟨r, hr⟩ : ∃ r, (riter m a (n + 1)).testBit r ≠ (riter m a n).testBit r := by
      refine Classical.byContradiction fun z => ne (Nat.eq_of_testBit_eq fun r => ?_)
      exact Classical.byContradiction fun y => z ⟨r, y⟩
    have h1 : (riter m a n).testBit r = false := by
      cases e : (riter m a n).testBit r with
      | false => rfl
      | true => exact absurd ((riter_sub m a n r e).trans e.symm) hr
    have h2 : (riter m a (n + 1)).testBit r = true := by
      cases e : (riter m a (n + 1)).testBit r with
      | true => rfl
      | false => exact absurd (e.trans h1.symm) hr
    have hrm : r < m := by
      refine Classical.byContradiction fun z => ?_
      rw [testBit_above (riter_lt hm a (n + 1)) (by omega)] at h2
      cases h2
    have := cnt_lt (riter_sub m a n) m r hrm h1 h2
    omega
theorem riter_stops {m a : Nat} (hm : 1 ≤ m) : ∃ n, n < m ∧ riter m a (n + 1) = riter m a n := by
  refine Classical.byContradiction fun z => ?_
  have := riter_grows (a := a) hm m fun j hj e => z ⟨j, hj, e⟩
  have := cnt_le (riter m a m) m
  omega
theorem riter_end {m a n : Nat} (hm : 1 ≤ m) (h : riter m a (n + 1) = riter m a n) : riter m a n = rstar m a := by
  obtain ⟨j, hj, e⟩ := riter_stops (a := a) hm
  have e1 := riter_still e (m - j)
  rw [show j + (m - j) = m by omega] at e1
  show riter m a n = riter m a m
  rw [e1]
  by_cases hn : n ≤ j
  · have := riter_still h (j - n)
    rw [show n + (j - n) = j by omega] at this
    exact this.symm
  · have := riter_still e (n - j)
    rw [show j + (n - j) = n by omega] at this
    exact this
theorem rstar_fix {m a : Nat} (hm : 1 ≤ m) : rstar m a ||| rbeh m (rstar m a) a = rstar m a := by
  obtain ⟨j, hj, e⟩ := riter_stops (a := a) hm
  have e1 := riter_still e (m - j)
  have e2 := riter_still e (m + 1 - j)
  rw [show j + (m - j) = m by omega] at e1
  rw [show j + (m + 1 - j) = m + 1 by omega] at e2
  show riter m a (m + 1) = riter m a m
  rw [e1, e2]
theorem rstar_lt {m : Nat} (h : 1 ≤ m) (a : Nat) : rstar m a < 2 ^ m := riter_lt h a m
/-! the laws' own numbers for the kinds -/
def wh : Kd → Int
  | .few => 0 | .wid => 1 | .cnt => 2 | .lik => 3 | .cha => 4 | .mus => 5 | .rst _ => 6
def kd (w m : Int) : Kd := if w = 0 then .few else if w = 1 then .wid else if w = 2 then .cnt else if w = 3 then .lik else if w = 4 then .cha else if w = 5 then .mus else .rst m.toNat
theorem wh_kd {w m : Int} (h0 : 0 ≤ w) (h6 : w ≤ 6) : wh (kd w m) = w := by
  unfold kd
  by_cases e0 : w = 0
  · subst e0; rfl
  by_cases e1 : w = 1
  · subst e1; rfl
  by_cases e2 : w = 2
  · subst e2; rfl
  by_cases e3 : w = 3
  · subst e3; rfl
  by_cases e4 : w = 4
  · subst e4; rfl
  by_cases e5 : w = 5
  · subst e5; rfl
  rw [if_neg e0, if_neg e1, if_neg e2, if_neg e3, if_neg e4, if_neg e5]
  show (6 : Int) = w
  omega
theorem kd_rst {w m : Int} (hm : 0 ≤ m) {m' : Nat} (h : kd w m = .rst m') : m = (m' : Int) := by
  unfold kd at h
  by_cases e0 : w = 0
  · rw [if_pos e0] at h; cases h
  by_cases e1 : w = 1
  · rw [if_neg e0, if_pos e1] at h; cases h
  by_cases e2 : w = 2
  · rw [if_neg e0, if_neg e1, if_pos e2] at h; cases h
  by_cases e3 : w = 3
  · rw [if_neg e0, if_neg e1, if_neg e2, if_pos e3] at h; cases h
  by_cases e4 : w = 4
  · rw [if_neg e0, if_neg e1, if_neg e2, if_neg e3, if_pos e4] at h; cases h
  by_cases e5 : w = 5
  · rw [if_neg e0, if_neg e1, if_neg e2, if_neg e3, if_neg e4, if_pos e5] at h; cases h
  rw [if_neg e0, if_neg e1, if_neg e2, if_neg e3, if_neg e4, if_neg e5] at h
  injection h with h
  omega
theorem kd_ok {w m : Int} (h1 : 1 ≤ m) (h12 : m ≤ 12) : KOk (kd w m) := by
  cases e : kd w m with
  | rst m' => have := kd_rst (by omega) e; exact ⟨by omega, by omega⟩
  | _ => trivial
/-- a cell of the script -/
def cell (ns : List Int) (i : Nat) : Int := ns.getD i 0
/-- a drawn worth -/
def lawW2 (k : Kd) (c : Int) : Wo :=
  match k with
  | .few => .int (if c % 6 < 5 then c / 6 % 20 else c / 6 % 10 ^ 30)
  | .wid => .int (if c % 6 < 5 then c / 6 % 20 else c / 6 % (10 ^ 9 + 1))
  | .cnt => .int (if c % 6 < 5 then c / 6 % 5 - 1 else c / 6 % 10 ^ 30)
  | .lik => .rat (Rat.divInt (c / 6 % (1 + c / 6 / 7 % 12 + 1)) (1 + c / 6 / 7 % 12))
  | .cha => .rat (Rat.divInt (c / 6 % 9) (1 + c / 6 / 9 % 12))
  | .mus => .int (if c % 6 < 5 then c / 6 % 16 else c / 6 % 10 ^ 30)
  | .rst m => .int (c / 6 % 2 ^ m)
def lawW (k : Kd) (c : Int) : Wo := if c % 6 = 1 then noneW k else if c % 6 = 2 then restW k else lawW2 k c
theorem good_none (k : Kd) : Good k (noneW k) := by
  cases k <;> simp [noneW, Good]
  all_goals first | decide | exact Nat.two_pow_pos _ | skip
  · rename_i m; exact_mod_cast Nat.two_pow_pos m
theorem good_rest {k : Kd} (h : KOk k) : Good k (restW k) := by
  cases k <;> simp [restW, Good]
  all_goals first | decide | skip
  · rename_i m
    have : 1 < 2 ^ m := Nat.one_lt_two_pow (by have := h.1; omega)
    exact_mod_cast this
/-! ### K0: words for defs, methods, classes; calls that may raise; instances of classes without an __init__ -/
section
variable {P : Program} {w : World} {K : PySem.W.Frag} {mg : Str → Option Value} {base : Heap}
/-- a def of the module's top -/
structure Dfn (K : PySem.W.Frag) (mg : Str → Option Value) (x : Str) (st : Stmt) (ps : List Str) (f : Addr) (fd : FuncData) : Prop where
  g : mg x = some (.ref f)
  F : Fun K x x st f fd
  b : Binds K fd ps []
/-- a method of the class at C -/
structure Mth (K : PySem.W.Frag) (C : Addr) (m qual : Str) (st : Stmt) (ps : List Str) (f : Addr) (fd : FuncData) : Prop where
  me : Meth K C m f
  F : Fun K m qual st f fd
  b : Binds K fd ps []
/-- a class of the program's own -/
structure Clz (K : PySem.W.Frag) (mg : Str → Option Value) (x : Str) (C : Addr) : Prop where
  g : mg x = some (.ref C)
  cl : Cls K C
  kp : PySem.W.keepIn K (.ref C) = true
  mks : PySem.W.makesIn K C = true
  ha : PySem.W.findIn K (.ref C) "__class__" = some (some (.builtin "object.__class__"))
  hm : PySem.W.mroIn K C (.type "object") = some true
/-- it has no __init__ of its own -/
structure Bare (K : PySem.W.Frag) (C : Addr) : Prop where
  ini : PySem.W.findIn K (.ref C) "__init__" = some (some (.builtin "object.__init__"))
/-- what may be called by the name x: it keeps the promise sp -/
structure Fc (CX : CXT) (P : Program) (w : World) (K : PySem.W.Frag) (mg : Str → Option Value) (base : Heap) (k : Nat) (x : Str) (sp : Sp) : Prop where
  ex : ∃ (f : Addr) (fd : FuncData) (ps : List Str), FnOk P w K mg base CX k f fd ps sp ∧ mg x = some (.ref f) ∧ PySem.W.keepIn K (.ref f) = true ∧ Binds K fd ps []
structure Mc (CX : CXT) (P : Program) (w : World) (K : PySem.W.Frag) (mg : Str → Option Value) (base : Heap) (k : Nat) (C : Addr) (m : Str) (sp : Sp) : Prop where
  ex : ∃ (f : Addr) (fd : FuncData) (ps : List Str), FnOk P w K mg base CX k f fd ps sp ∧ Cls K C ∧ Meth K C m f ∧ Binds K fd ps []
theorem Fc.imp {CX : CXT} {k : Nat} {x : Str} {sp sp' : Sp} (F : Fc CX P w K mg base k x sp) (h : ∀ vs H Q E, sp' vs H Q E → sp vs H Q E) : Fc CX P w K mg base k x sp' := by
  obtain ⟨f, fd, ps, G, r⟩ := F.ex
  exact ⟨f, fd, ps, G.imp h, r⟩
theorem Mc.imp {CX : CXT} {k : Nat} {C : Addr} {x : Str} {sp sp' : Sp} (F : Mc CX P w K mg base k C x sp) (h : ∀ vs H Q E, sp' vs H Q E → sp vs H Q E) : Mc CX P w K mg base k C x sp' := by
  obtain ⟨f, fd, ps, G, r⟩ := F.ex
  exact ⟨f, fd, ps, G.imp h, r⟩
theorem Mc.mono {CX : CXT} {j k : Nat} {C : Addr} {x : Str} {sp : Sp} (F : Mc CX P w K mg base j C x sp) (h : j ≤ k) : Mc CX P w K mg base k C x sp := by
  obtain ⟨f, fd, ps, G, r⟩ := F.ex
  exact ⟨f, fd, ps, G.mono h, r⟩
/-- what raises nothing may stand where something may be raised -/
theorem anyCX {CX : CXT} {k : Nat} {f : Addr} {fd : FuncData} {ps : List Str} {sp : Sp} (F : FnOk P w K mg base CX0 k f fd ps sp) : FnOk P w K mg base CX k f fd ps sp :=
  ⟨F.len, fun A outer s H args us vs Q E hr he hb hv hs => codeAny_mono (F.run A outer s H args us vs Q E hr he hb hv hs) fun r s' h => by
    cases r with
    | error e => exact False.elim h
    | ok fl => cases fl <;> exact h⟩
theorem Fc.any {CX : CXT} {k : Nat} {x : Str} {sp : Sp} (F : Fc CX0 P w K mg base k x sp) : Fc CX P w K mg base k x sp := by
  obtain ⟨f, fd, ps, G, r⟩ := F.ex
  exact ⟨f, fd, ps, anyCX G, r⟩
theorem Mc.any {CX : CXT} {k : Nat} {C : Addr} {x : Str} {sp : Sp} (F : Mc CX0 P w K mg base k C x sp) : Mc CX P w K mg base k C x sp := by
  obtain ⟨f, fd, ps, G, r⟩ := F.ex
  exact ⟨f, fd, ps, anyCX G, r⟩
/-- by its body: nothing is raised -/
theorem fc0 {x : Str} {st : Stmt} {ps N : List Str} {f : Addr} {fd : FuncData} {k : Nat} {sp : Sp} (D : Dfn K mg x st ps f fd) (S : FnScope N ps (defScope st)) (len : ∀ vs H Q E, sp vs H Q E → vs.length = ps.length)
    (body : ∀ (cdv : Value) (A : Around) (outer : List Env) (s : Shared) (H : Hp) (vs : List V) (Q : VK) (E : XK), Room k (A.deeper (envOfC x (defScope st) s.heap.objs.size f cdv)) → sp vs H Q E →
      ∃ t, PSs (cxOf CX0 P w K mg base N x (defScope st) f cdv A outer s H E).nox (defBody st) t ∧ t { nx := fun _ H' => Q .non H', rt := Q } (start N vs) H) : Fc CX0 P w K mg base (k + 1) x sp :=
  ⟨f, fd, ps, D.F.ok S len body, D.g, D.F.kp, D.b⟩
theorem mc0 {C : Addr} {m qual : Str} {st : Stmt} {ps N : List Str} {f : Addr} {fd : FuncData} {k : Nat} {sp : Sp} (c : Cls K C) (D : Mth K C m qual st ps f fd) (S : FnScope N ps (defScope st)) (len : ∀ vs H Q E, sp vs H Q E → vs.length = ps.length)
    (body : ∀ (cdv : Value) (A : Around) (outer : List Env) (s : Shared) (H : Hp) (vs : List V) (Q : VK) (E : XK), Room k (A.deeper (envOfC qual (defScope st) s.heap.objs.size f cdv)) → sp vs H Q E →
      ∃ t, PSs (cxOf CX0 P w K mg base N qual (defScope st) f cdv A outer s H E).nox (defBody st) t ∧ t { nx := fun _ H' => Q .non H', rt := Q } (start N vs) H) : Mc CX0 P w K mg base (k + 1) C m sp :=
  ⟨f, fd, ps, D.F.ok S len body, c, D.me, D.b⟩
/-- by its body: something may be raised -/
theorem fcX {x : Str} {st : Stmt} {ps N : List Str} {f : Addr} {fd : FuncData} {k : Nat} {sp : Sp} (D : Dfn K mg x st ps f fd) (S : FnScope N ps (defScope st)) (len : ∀ vs H Q E, sp vs H Q E → vs.length = ps.length)
    (body : ∀ (cdv : Value) (A : Around) (outer : List Env) (s : Shared) (H : Hp) (vs : List V) (Q : VK) (E : XK), Room k (A.deeper (envOfC x (defScope st) s.heap.objs.size f cdv)) → sp vs H Q E →
      ∃ t, PSs (cxOf (L2.CX P w) P w K mg base N x (defScope st) f cdv A outer s H E) (defBody st) t ∧ t { nx := fun _ H' => Q .non H', rt := Q } (start N vs) H) : Fc (L2.CX P w) P w K mg base (k + 1) x sp :=
  ⟨f, fd, ps, D.F.okX S len body, D.g, D.F.kp, D.b⟩
theorem mcX {C : Addr} {m qual : Str} {st : Stmt} {ps N : List Str} {f : Addr} {fd : FuncData} {k : Nat} {sp : Sp} (c : Cls K C) (D : Mth K C m qual st ps f fd) (S : FnScope N ps (defScope st)) (len : ∀ vs H Q E, sp vs H Q E → vs.length = ps.length)
    (body : ∀ (cdv : Value) (A : Around) (outer : List Env) (s : Shared) (H : Hp) (vs : List V) (Q : VK) (E : XK), Room k (A.deeper (envOfC qual (defScope st) s.heap.objs.size f cdv)) → sp vs H Q E →
      ∃ t, PSs (cxOf (L2.CX P w) P w K mg base N qual (defScope st) f cdv A outer s H E) (defBody st) t ∧ t { nx := fun _ H' => Q .non H', rt := Q } (start N vs) H) : Mc (L2.CX P w) P w K mg base (k + 1) C m sp :=
  ⟨f, fd, ps, D.F.okX S len body, c, D.me, D.b⟩
end
section
variable {X : Cx} {CX : CXT} {k j : Nat} {C : Addr} {x m : Str} {sp : Sp} {E : XK} {ES : L2.St → XK} {p pos apos : Pos} {e o : Expr} {es : List Expr} {ta : TE} {t : TA}
/-- f(e, ..) -/
theorem pe_f (F : Fc CX X.prog X.w X.K X.mg X.base k x sp) (hr : Room j X.A) (hk : k ≤ j) (hx : Passes CX X E) (hg : Gl X x) (ha : PA X (e :: es) t)
    (hdb : (x == ("__debug__" : Str)) = false := by decide) (he : starEach (e :: es) X.env = (false, eval e X.env) :: starEach es X.env := by rfl) (hpl : (backTo pos (starEach es X.env)).any (·.1) = false := by rfl) :
    PE X (.Call (.Name x p) (e :: es) [] pos) (tCall sp [] E t) := by
  obtain ⟨f, fd, ps, G, hm, kp, b⟩ := F.ex
  exact pe_call G (hr.mono hk) hg hm kp b .nil hx ha hdb he hpl
/-- .. what is raised is wished for at the slots -/
theorem pe_fS (F : Fc CX X.prog X.w X.K X.mg X.base k x sp) (hr : Room j X.A) (hk : k ≤ j) (hx : ∀ σ, PassesAt CX X σ (ES σ)) (hg : Gl X x) (ha : PA X (e :: es) t)
    (hdb : (x == ("__debug__" : Str)) = false := by decide) (he : starEach (e :: es) X.env = (false, eval e X.env) :: starEach es X.env := by rfl) (hpl : (backTo pos (starEach es X.env)).any (·.1) = false := by rfl) :
    PE X (.Call (.Name x p) (e :: es) [] pos) (tCallS sp ES t) := by
  obtain ⟨f, fd, ps, G, hm, kp, b⟩ := F.ex
  exact pe_callS G (hr.mono hk) hg hm kp b hx ha hdb he hpl
/-- o.m(e, ..) -/
theorem pe_m {pl : Sem Bool} (F : Mc CX X.prog X.w X.K X.mg X.base k C m sp) (hr : Room j X.A) (hk : k ≤ j) (hx : Passes CX X E) (ho : PE X o ta) (ha : PA X (e :: es) t)
    (hst : starEach (e :: es) X.env = (false, eval e X.env) :: starEach es X.env := by rfl) (hpl : (backTo pos (starEach es X.env)).any (·.1) = false := by rfl)
    (ht : eval (.Call (.Attribute o m apos) (e :: es) [] pos) X.env = (do
      let ov ← eval o X.env
      standAt apos.atName
      let (f, first) ← holding [ov] (getMethod ov m pl)
      callWith pos f first (backTo pos (starEach (e :: es) X.env)) (backToKw pos (keywordEach [] X.env))) := by rfl) :
    PE X (.Call (.Attribute o m apos) (e :: es) [] pos) (tMeth C m sp [] E ta t) := by
  obtain ⟨f, fd, ps, G, c, hm, b⟩ := F.ex
  exact pe_meth (pl := pl) ho c hm G (hr.mono hk) b .nil hx ha hst hpl ht
/-- o.m() -/
theorem pe_m0 {pl : Sem Bool} (F : Mc CX X.prog X.w X.K X.mg X.base k C m sp) (hr : Room j X.A) (hk : k ≤ j) (hx : Passes CX X E) (ho : PE X o ta)
    (ht : eval (.Call (.Attribute o m apos) [] [] pos) X.env = (do
      let ov ← eval o X.env
      standAt apos.atName
      let (f, first) ← holding [ov] (getMethod ov m pl)
      callWith pos f first (backTo pos (starEach [] X.env)) (backToKw pos (keywordEach [] X.env))) := by rfl) :
    PE X (.Call (.Attribute o m apos) [] [] pos) (tMeth C m sp [] E ta tNil) := by
  obtain ⟨f, fd, ps, G, c, hm, b⟩ := F.ex
  exact pe_meth0 (pl := pl) ho c hm G (hr.mono hk) b .nil hx ht
/-- .. what is raised is wished for at the slots -/
def tMethS (C : Addr) (m : Str) (sp : Sp) (ES : L2.St → XK) (ta : TE) (t : TA) : TE := fun σ H Q => ta σ H fun x H1 => ∃ a dx fs, x = .ref a ∧ H1 a = some (.ins C dx fs) ∧ fs.lookup m = none ∧ t σ H1 fun vs H2 => sp (x :: vs) H2 Q (ES σ)
theorem pe_mS {pl : Sem Bool} (F : Mc CX X.prog X.w X.K X.mg X.base k C m sp) (hr : Room j X.A) (hk : k ≤ j) (hx : ∀ σ, PassesAt CX X σ (ES σ)) (ho : PE X o ta) (ha : PA X (e :: es) t)
    (hst : starEach (e :: es) X.env = (false, eval e X.env) :: starEach es X.env := by rfl) (hpl : (backTo pos (starEach es X.env)).any (·.1) = false := by rfl)
    (ht : eval (.Call (.Attribute o m apos) (e :: es) [] pos) X.env = (do
      let ov ← eval o X.env
      standAt apos.atName
      let (f, first) ← holding [ov] (getMethod ov m pl)
      callWith pos f first (backTo pos (starEach (e :: es) X.env)) (backToKw pos (keywordEach [] X.env))) := by rfl) :
    PE X (.Call (.Attribute o m apos) (e :: es) [] pos) (tMethS C m sp ES ta t) := by
  obtain ⟨f, fd, ps, G, c, hm, b⟩ := F.ex
  constructor
  intro pins s σ H Q I h
  refine PySem.W.methodCall_KW (pl := pl) (thn (ho.run pins s σ H _ I h) ?_) ht
  rintro u s1 ⟨y, H1, I1, ry, a, dx, fs, rfl, ea, l, q⟩
  cases ry
  refine getmeth_ok I1 ea c hm l ?_
  refine PySem.W.callWith_K (first := [.ref a]) (h₀ := X.base) I.ok.mod.kin hm.kp (thn (ha.run pos pins s1 σ H1 _ I1 q) ?_) hst hpl
  rintro us s2 ⟨vs, H2, I2, r, q2⟩
  exact ⟨I2.kIn, run_fnS (us := .ref a :: us) (vs := .ref a :: vs) G (hr.mono hk) b (hx σ) I2 (.cons rfl r) q2⟩
/-- a reading out of a family -/
theorem pe_any {ι : Type} {T : ι → TE} (h : ∀ i, PE X e (T i)) : PE X e (fun σ H Q => ∃ i, T i σ H Q) := ⟨fun pins s σ H Q I ⟨i, q⟩ => (h i).run pins s σ H Q I q⟩
theorem pe_imp {T T' : TE} (h : PE X e T) (hi : ∀ σ H Q, T' σ H Q → T σ H Q) : PE X e T' := ⟨fun pins s σ H Q I q => h.run pins s σ H Q I (hi σ H Q q)⟩
theorem ps_any {st : Stmt} {ι : Type} {T : ι → TS} (h : ∀ i, PS X st (T i)) : PS X st (fun D σ H => ∃ i, T i D σ H) := ⟨fun pins s σ H D I ⟨i, q⟩ => (h i).run pins s σ H D I q⟩
/-- C(), C without an __init__ -/
theorem pe_new0 (c : Clz X.K X.mg x C) (b : Bare X.K C) (hg : Gl X x) (hdb : (x == ("__debug__" : Str)) = false := by decide) :
    PE X (.Call (.Name x p) [] [] pos) (fun _ H Q => ∀ a dx, H a = none → H dx = none → dx ≠ a → Q (.ref a) (upd (upd H dx (.own a)) a (.ins C dx []))) := by
  constructor
  intro pins s σ H Q I h
  refine wpAny_Call_Name_kw (ld_glob I hg c.g ?_ hdb)
  refine PySem.W.callWith_K0 I.kIn c.kp (wpAny_call ?_)
  have I2 := Inv.made (C := C) I
  have KX := I2.kIn
  refine make_map0 I.kIn c.mks b.ini (fun self => PySem.W.Looks.of_pure (PySem.W.oi_bind self)) ?_
  have e2 : ((s.heap.push PySem.W.emptyDict).push (PySem.W.instObj C s.heap.objs.size)).get? (s.heap.objs.size + 1) = some (PySem.W.instObj C s.heap.objs.size) := by
    have := Heap.get?_push_size (s.heap.push PySem.W.emptyDict) (o := PySem.W.instObj C s.heap.objs.size) rfl
    rwa [Heap.size_push] at this
  have t1 : PySem.W.Looks (model X.prog X.w) ((s.heap.push PySem.W.emptyDict).push (PySem.W.instObj C s.heap.objs.size)) (typeOf (.ref (s.heap.objs.size + 1))) (.ref C) := (PySem.W.Looks.ld e2).andThen .now
  have t2 : PySem.W.Looks (model X.prog X.w) ((s.heap.push PySem.W.emptyDict).push (PySem.W.instObj C s.heap.objs.size)) (isInstance (.ref (s.heap.objs.size + 1)) (.type "object")) true := t1.andThen (PySem.W.looks_mroIn KX c.hm)
  refine codeAny_call_builtin PySem.W.oi_plain PySem.W.entry_oi (@PySem.W.check_slot (model X.prog X.w) _ _ _ "object.__init__" "object" "__init__" (.ref (s.heap.objs.size + 1)) [] [] _ PySem.W.oi_kind PySem.W.oi_split t2 (PySem.W.oi_args _) ?_)
  rw [PySem.W.oi_run]
  exact wpAny_pure ⟨rfl, V.ref (s.heap.objs.size + 1), _, I2, rfl, h _ _ (I.hok.fresh (Nat.le_succ _)) (I.hok.fresh (Nat.le_refl _)) (Nat.ne_of_lt (Nat.lt_succ_self _))⟩
end
/-- an __init__ -/
structure Ini (K : PySem.W.Frag) (C : Addr) (qual : Str) (st : Stmt) (ps : List Str) (f : Addr) (fd : FuncData) : Prop where
  M : Mk K C f
  F : Fun K "__init__" qual st f fd
  b : Binds K fd ps []
/-- an exception's class -/
structure Exz (K : PySem.W.Frag) (mg : Str → Option Value) (x : Str) (C : Addr) : Prop where
  g : mg x = some (.ref C)
  kp : PySem.W.keepIn K (.ref C) = true
  ex : PySem.W.excIn K C [.type "ValueError", .type "Exception", .type "BaseException", .type "object"] "ValueError.__new__" = true
  bs : PySem.W.subIn K (.ref C) (.type "BaseException") = some true
  ty : PySem.W.typeIn K (.ref C) = some (.type "type")
  is : PySem.W.isClsIn K C = true
  ec : ExcC K C
theorem kit_ref {K : PySem.W.Frag} {C D : Addr} {b : Bool} (h1 : PySem.W.isClsIn K D = true) (h2 : PySem.W.typeIn K (.ref D) = some (.type "type")) (h3 : PySem.W.subIn K (.ref C) (.ref D) = some b) (h4 : C ≠ D ∨ b = true) : PySem.W.kitOne K (.ref C) (.ref D) = some b := by
  unfold PySem.W.kitOne
  by_cases e : C = D
  · subst e
    rw [if_pos (by simp)]
    rcases h4 with h | h
    · exact absurd rfl h
    · rw [h]
  · have ne : ((Value.ref C : Value) == .ref D) = false := by simp [e]
    rw [ne, if_neg Bool.false_ne_true]
    unfold PySem.W.kitCls
    have h1' : (PySem.W.clsIn K D).isSome = true := h1
    have e2 : ((PySem.W.clsIn K D).isSome && PySem.W.typeIn K (.ref D) == some (.type "type")) = true := by rw [h1', h2] <;> rfl
    show (if ((PySem.W.clsIn K D).isSome && PySem.W.typeIn K (.ref D) == some (.type "type")) = true then PySem.W.subIn K (.ref C) (.ref D) else none) = some b
    rw [if_pos e2]
    exact h3
theorem kit_val {K : PySem.W.Frag} {C : Addr} (h : PySem.W.subIn K (.ref C) (.type "ValueError") = some true) : PySem.W.kitOne K (.ref C) (.type "ValueError") = some true := by
  unfold PySem.W.kitOne
  have ne : ((Value.ref C : Value) == .type "ValueError") = false := by simp
  rw [ne, if_neg Bool.false_ne_true]
  show (if PySem.W.kitMeta "ValueError" = true then PySem.W.subIn K (.ref C) (.type "ValueError") else none) = some true
  rw [if_pos (by decide +kernel)]
  exact h
theorem exm_of_kit {K : PySem.W.Frag} {C D : Addr} {b : Bool} (hb : PySem.W.subIn K (.ref D) (.type "BaseException") = some true) (h1 : PySem.W.isClsIn K D = true) (h2 : PySem.W.typeIn K (.ref D) = some (.type "type")) (h3 : PySem.W.subIn K (.ref C) (.ref D) = some b) : PySem.W.exmOne K (.ref C) (.ref D) = some b := by
  unfold PySem.W.exmOne
  have e1 : (PySem.W.subIn K (.ref D) (.type "BaseException") == some true) = true := by rw [hb] <;> rfl
  rw [if_pos e1]
  unfold PySem.W.kitCls
  have h1' : (PySem.W.clsIn K D).isSome = true := h1
  have e2 : ((PySem.W.clsIn K D).isSome && PySem.W.typeIn K (.ref D) == some (.type "type")) = true := by rw [h1', h2] <;> rfl
  show (if ((PySem.W.clsIn K D).isSome && PySem.W.typeIn K (.ref D) == some (.type "type")) = true then PySem.W.subIn K (.ref C) (.ref D) else none) = some b
  rw [if_pos e2]
  exact h3
/-- C(e, ..) -/
structure Nc (CX : CXT) (P : Program) (w : World) (K : PySem.W.Frag) (mg : Str → Option Value) (base : Heap) (k : Nat) (x : Str) (C : Addr) (sp : Sp) : Prop where
  ex : ∃ (f : Addr) (fd : FuncData) (ps : List Str), FnOk P w K mg base CX k f fd ps sp ∧ Mk K C f ∧ mg x = some (.ref C) ∧ Binds K fd ps []
section
variable {X : Cx} {CX : CXT} {k j : Nat} {C : Addr} {x : Str} {sp : Sp} {E : XK} {ES : L2.St → XK} {p pos : Pos} {e : Expr} {es : List Expr} {t : TA}
theorem pe_nc (F : Nc CX X.prog X.w X.K X.mg X.base k x C sp) (hr : Room j X.A) (hk : k + 1 ≤ j) (hx : Passes CX X E) (hg : Gl X x) (ha : PA X (e :: es) t)
    (hdb : (x == ("__debug__" : Str)) = false := by decide) (he : starEach (e :: es) X.env = (false, eval e X.env) :: starEach es X.env := by rfl) (hpl : (backTo pos (starEach es X.env)).any (·.1) = false := by rfl) :
    PE X (.Call (.Name x p) (e :: es) [] pos) (tMake C sp [] E t) := by
  obtain ⟨f, fd, ps, G, M, hm, b⟩ := F.ex
  exact pe_make M G (hr.mono hk) hg hm b .nil hx ha hdb he hpl
/-- .. what is raised is wished for at the slots -/
def tNew (C : Addr) (sp : Sp) (ES : L2.St → XK) (t : TA) : TE := fun σ H Q => t σ H fun vs H1 => ∀ a d, H1 a = none → H1 d = none → d ≠ a → sp (.ref a :: vs) (upd (upd H1 d (.own a)) a (.ins C d [])) (fun z H2 => z = .non ∧ Q (.ref a) H2) (ES σ)
theorem pe_ncS (F : Nc CX X.prog X.w X.K X.mg X.base k x C sp) (hr : Room j X.A) (hk : k + 1 ≤ j) (hx : ∀ σ, PassesAt CX X σ (ES σ)) (hg : Gl X x) (ha : PA X (e :: es) t)
    (hdb : (x == ("__debug__" : Str)) = false := by decide) (he : starEach (e :: es) X.env = (false, eval e X.env) :: starEach es X.env := by rfl) (hpl : (backTo pos (starEach es X.env)).any (·.1) = false := by rfl) :
    PE X (.Call (.Name x p) (e :: es) [] pos) (tNew C sp ES t) := by
  obtain ⟨f, fd, ps, G, M, hm, b⟩ := F.ex
  constructor
  intro pins s σ H Q I h
  refine wpAny_Call_Name_kw (ld_glob I hg hm ?_ hdb)
  refine PySem.W.callWith_K (h₀ := X.base) I.ok.mod.kin M.kp (thn (ha.run pos pins s σ H _ I h) ?_) he hpl
  rintro us s1 ⟨vs, H1, J, r, q⟩
  refine ⟨J.kIn, wpAny_call ?_⟩
  have J2 := J.made (C := C)
  have q1 := q _ _ (J.hok.fresh (Nat.le_succ _)) (J.hok.fresh (Nat.le_refl _)) (Nat.ne_of_lt (Nat.lt_succ_self _))
  have r1 : Vals (V.ref (s1.heap.objs.size + 1) :: vs) (Value.ref (s1.heap.objs.size + 1) :: us) := .cons rfl r
  have n1 := r1.length.symm.trans (G.len _ _ _ _ q1)
  have b1 := b _ (Value.ref (s1.heap.objs.size + 1) :: us) J2.kIn (by rw [List.append_nil]; exact n1)
  rw [List.append_nil] at b1
  refine make_map (f := f) J.kIn M.makes M.init (beq_iff_eq.mp M.fn) (codeAny_mono (G.run _ X.stack _ _ ⟨_, []⟩ _ _ _ _ ((hr.mono hk).make C us []) (J2.env0.make C us []) b1 r1 q1) ?_)
  rintro (e | fl) s' h'
  · exact hx σ _ _ _ e s' J2 h'
  · cases fl with
    | ret u =>
      obtain ⟨z, H', J3, rz, ez, q3⟩ := J2.after h'
      subst ez
      exact ⟨rz, V.ref (s1.heap.objs.size + 1), H', J3, rfl, q3⟩
    | next => exact h'.elim
    | brk => exact h'.elim
    | cont => exact h'.elim
end
/-- where the classes stand -/
structure Ad where
  SumError : Addr
  NoNet : Addr
  NoWorth : Addr
  Kind : Addr
  Fewest : Addr
  Widest : Addr
  Counted : Addr
  Likeliest : Addr
  Chances : Addr
  Musts : Addr
  Rests : Addr
/-- the kinds that the text has -/
def Av : Kx → Bool
  | .few => true
  | .wid => true
  | .cnt => true
  | .lik => true
  | .cha => true
  | .mus => true
  | .rst => true
def Ad.C (A : Ad) : Kx → Addr
  | .few => A.Fewest
  | .wid => A.Widest
  | .cnt => A.Counted
  | .lik => A.Likeliest
  | .cha => A.Chances
  | .mus => A.Musts
  | .rst => A.Rests
/-- what the top has written -/
structure Tx (K : PySem.W.Frag) (mg : Str → Option Value) (A : Ad) : Prop where
  d_common : ∃ f fd, Dfn K mg "common" s_common ["one", "other"] f fd
  d_is_share : ∃ f fd, Dfn K mg "is_share" s_is_share ["some"] f fd
  d__law_cell_at : ∃ f fd, Dfn K mg "_law_cell_at" s__law_cell_at ["script", "k"] f fd
  d__law_kind : ∃ f fd, Dfn K mg "_law_kind" s__law_kind ["which", "m"] f fd
  d__law_share : ∃ f fd, Dfn K mg "_law_share" s__law_share ["top", "below"] f fd
  d__law_none : ∃ f fd, Dfn K mg "_law_none" s__law_none ["which"] f fd
  d__law_rest : ∃ f fd, Dfn K mg "_law_rest" s__law_rest ["which"] f fd
  d__law_worth : ∃ f fd, Dfn K mg "_law_worth" s__law_worth ["which", "m", "cell"] f fd
  d__law_some : ∃ f fd, Dfn K mg "_law_some" s__law_some ["m", "cell"] f fd
  d__law_due : ∃ f fd, Dfn K mg "_law_due" s__law_due ["which", "m", "some"] f fd
  d__law_refused : ∃ f fd, Dfn K mg "_law_refused" s__law_refused ["m"] f fd
  c_Kind : Clz K mg "Kind" A.Kind
  b_Kind : Bare K A.Kind
  c_Fewest : Clz K mg "Fewest" A.Fewest
  b_Fewest : Bare K A.Fewest
  c_Widest : Clz K mg "Widest" A.Widest
  b_Widest : Bare K A.Widest
  c_Counted : Clz K mg "Counted" A.Counted
  b_Counted : Bare K A.Counted
  c_Likeliest : Clz K mg "Likeliest" A.Likeliest
  b_Likeliest : Bare K A.Likeliest
  c_Chances : Clz K mg "Chances" A.Chances
  b_Chances : Bare K A.Chances
  c_Musts : Clz K mg "Musts" A.Musts
  b_Musts : Bare K A.Musts
  c_Rests : Clz K mg "Rests" A.Rests
  m_Fewest_is_worth : ∃ f fd, Mth K A.Fewest "is_worth" "Fewest.is_worth" s_Fewest_is_worth ["self", "some"] f fd
  m_Widest_is_worth : ∃ f fd, Mth K A.Widest "is_worth" "Widest.is_worth" s_Widest_is_worth ["self", "some"] f fd
  m_Counted_is_worth : ∃ f fd, Mth K A.Counted "is_worth" "Counted.is_worth" s_Counted_is_worth ["self", "some"] f fd
  m_Likeliest_is_worth : ∃ f fd, Mth K A.Likeliest "is_worth" "Likeliest.is_worth" s_Likeliest_is_worth ["self", "some"] f fd
  m_Chances_is_worth : ∃ f fd, Mth K A.Chances "is_worth" "Chances.is_worth" s_Chances_is_worth ["self", "some"] f fd
  m_Musts_is_worth : ∃ f fd, Mth K A.Musts "is_worth" "Musts.is_worth" s_Musts_is_worth ["self", "some"] f fd
  m_Rests___init__ : ∃ f fd, Ini K A.Rests "Rests.__init__" s_Rests___init__ ["self", "m"] f fd
  m_Rests_is_worth : ∃ f fd, Mth K A.Rests "is_worth" "Rests.is_worth" s_Rests_is_worth ["self", "some"] f fd
  x_SumError : Exz K mg "SumError" A.SumError
  x_NoNet : Exz K mg "NoNet" A.NoNet
  x_NoWorth : Exz K mg "NoWorth" A.NoWorth
  k_SumError_NoNet : PySem.W.kitOne K (.ref A.SumError) (.ref A.NoNet) = some false
  k_NoNet_NoNet : PySem.W.kitOne K (.ref A.NoNet) (.ref A.NoNet) = some true
  k_NoWorth_NoNet : PySem.W.kitOne K (.ref A.NoWorth) (.ref A.NoNet) = some false
  k_SumError_NoWorth : PySem.W.kitOne K (.ref A.SumError) (.ref A.NoWorth) = some false
  k_NoNet_NoWorth : PySem.W.kitOne K (.ref A.NoNet) (.ref A.NoWorth) = some false
  k_NoWorth_NoWorth : PySem.W.kitOne K (.ref A.NoWorth) (.ref A.NoWorth) = some true
  k_SumError_SumError : PySem.W.kitOne K (.ref A.SumError) (.ref A.SumError) = some true
  k_NoNet_SumError : PySem.W.kitOne K (.ref A.NoNet) (.ref A.SumError) = some true
  k_NoWorth_SumError : PySem.W.kitOne K (.ref A.NoWorth) (.ref A.SumError) = some true
  e_SumError_SumError : PySem.W.exmOne K (.ref A.SumError) (.ref A.SumError) = some true
  e_NoNet_SumError : PySem.W.exmOne K (.ref A.NoNet) (.ref A.SumError) = some true
  e_NoWorth_SumError : PySem.W.exmOne K (.ref A.NoWorth) (.ref A.SumError) = some true
  v_SumError : PySem.W.kitOne K (.ref A.SumError) (.type "ValueError") = some true
  v_NoNet : PySem.W.kitOne K (.ref A.NoNet) (.type "ValueError") = some true
  v_NoWorth : PySem.W.kitOne K (.ref A.NoWorth) (.type "ValueError") = some true
  a_Rests_m : NoAttr K A.Rests "m"
  n_len : mg "len" = none
  n_isinstance : mg "isinstance" = none
  n_tuple : mg "tuple" = none
  n_int : mg "int" = none
  n_bool : mg "bool" = none
  n_ValueError : mg "ValueError" = none
  g_WIDEST : ∃ u, mg "WIDEST" = some u ∧ RelV (.int 1000000000) u
  hn : PySem.W.specialIn K (.builtin "object.__class__") "__get__" = some (some (.builtin "getset_descriptor.__get__"))
  ht : PySem.W.takesIn K (.builtin "object.__class__") = some true
/-! ### M2: shares as numbers -/
theorem low_num (t b : Int) (hb : 0 < b) : (Rat.divInt t b).num = t / (Int.gcd t b : Int) := by
  rw [Rat.num_divInt, Int.sign_eq_one_of_pos hb, Int.one_mul, Int.gcd_comm]
theorem low_den (t b : Int) (hb : 0 < b) : ((Rat.divInt t b).den : Int) = b / (Int.gcd t b : Int) := by
  rw [Rat.den_divInt, if_neg (by omega), Int.natCast_ediv, Int.gcd_comm, Int.natAbs_of_nonneg (by omega)]
theorem rat_add (r s : Rat) : Rat.divInt (r.num * s.den + s.num * r.den) (r.den * s.den) = r + s := by
  rw [Rat.add_def', ← Rat.divInt_ofNat, Int.natCast_mul]
theorem rat_mul (r s : Rat) : Rat.divInt (r.num * s.num) (r.den * s.den) = r * s := by
  rw [Rat.mul_def', ← Rat.divInt_ofNat, Int.natCast_mul]
theorem den_pos (r : Rat) : (0 : Int) < r.den := by have := r.den_pos; omega
theorem rat_lt_one (r : Rat) : r < 1 ↔ r.num < r.den := by
  rw [Rat.lt_iff]
  show r.num * 1 < 1 * (r.den : Int) ↔ _
  omega
theorem rat_le_one (r : Rat) : r ≤ 1 ↔ r.num ≤ r.den := by
  rw [Rat.le_iff]
  show r.num * 1 ≤ 1 * (r.den : Int) ↔ _
  omega
theorem rat_star (r : Rat) (h : r < 1) : Rat.divInt r.den (r.den - r.num) = 1 / (1 - r) := by
  have h1 := (rat_lt_one r).1 h
  have hd := den_pos r
  have e : (1 : Rat) - r = Rat.divInt (r.den - r.num) r.den := by
    have e1 : (1 : Rat) = Rat.divInt r.den r.den := (Rat.divInt_self' (by omega)).symm
    have e2 : r = Rat.divInt r.num r.den := (Rat.num_divInt_den r).symm
    conv => lhs; rw [e1]; arg 2; rw [e2]
    rw [Rat.sub_eq_add_neg, Rat.neg_divInt, Rat.divInt_add_divInt _ _ (by omega) (by omega)]
    have : (r.den : Int) * r.den + -r.num * r.den = (r.den - r.num) * r.den := by grind
    rw [this, Rat.divInt_mul_right (by omega)]
  rw [e, Rat.div_def, Rat.inv_divInt, Rat.one_mul]
theorem gcd_step (a b : Int) : Int.gcd b (a % b) = Int.gcd a b := by
  rw [Int.gcd_comm b, Int.emod_def]; simp
theorem gcd_pos' (a b : Int) (h : 0 < b) : (0 : Int) < (Int.gcd a b : Int) := by
  have := Int.gcd_pos_of_ne_zero_right a (b := b) (by omega)
  omega
theorem gcd_le' (a b : Int) (h : 0 < b) : (Int.gcd a b : Int) ≤ b := Int.gcd_le_right a h
theorem rat_dvi {t b : Int} (ht : 0 ≤ t) (hb : 0 < b) : 0 ≤ Rat.divInt t b := by
  rw [← Rat.num_nonneg, Rat.num_divInt, Int.sign_eq_one_of_pos hb, Int.one_mul]
  exact Int.ediv_nonneg ht (by omega)
theorem rat_dvi1 {t b : Int} (htb : t ≤ b) (hb : 0 < b) : Rat.divInt t b ≤ 1 := by
  rw [rat_le_one, low_num t b hb, low_den t b hb]
  exact Int.ediv_le_ediv (gcd_pos' t b hb) htb
theorem good_law {k : Kd} (h : KOk k) (c : Int) : Good k (lawW k c) := by
  unfold lawW
  split
  · exact good_none k
  split
  · exact good_rest h
  have hp : (0 : Int) < 10 ^ 30 := by decide
  cases k with
  | few => show 0 ≤ (if c % 6 < 5 then c / 6 % 20 else c / 6 % 10 ^ 30); split <;> exact Int.emod_nonneg _ (by decide)
  | wid =>
    show 0 ≤ (if c % 6 < 5 then c / 6 % 20 else c / 6 % (10 ^ 9 + 1)) ∧ (if c % 6 < 5 then c / 6 % 20 else c / 6 % (10 ^ 9 + 1)) ≤ 1000000000
    split <;> omega
  | cnt => show -1 ≤ (if c % 6 < 5 then c / 6 % 5 - 1 else c / 6 % 10 ^ 30); split <;> omega
  | lik =>
    have hb0 : 0 ≤ c / 6 / 7 % 12 := Int.emod_nonneg _ (by decide)
    have h1 := Int.emod_nonneg (c / 6) (b := 1 + c / 6 / 7 % 12 + 1) (by omega)
    have h2 := Int.emod_lt_of_pos (c / 6) (b := 1 + c / 6 / 7 % 12 + 1) (by omega)
    exact ⟨rat_dvi h1 (by omega), rat_dvi1 (by omega) (by omega)⟩
  | cha =>
    have hb0 : 0 ≤ c / 6 / 9 % 12 := Int.emod_nonneg _ (by decide)
    exact rat_dvi (Int.emod_nonneg _ (by decide)) (by omega)
  | mus => show 0 ≤ (if c % 6 < 5 then c / 6 % 16 else c / 6 % 10 ^ 30); split <;> exact Int.emod_nonneg _ (by decide)
  | rst m => exact ⟨Int.emod_nonneg _ (by have : (0 : Int) < 2 ^ m := Int.pow_pos (by decide); omega), Int.emod_lt_of_pos _ (Int.pow_pos (by decide))⟩
theorem sz_int {i : Int} {n : Nat} (h : i.natAbs < 2 ^ n) (hn : 0 < n) : sz (.int i) ≤ n := by
  simp only [sz]
  by_cases h0 : i.natAbs = 0
  · rw [h0]; simp; omega
  · have := (Nat.log2_lt h0).2 h
    omega
theorem log2_lt_of {a n : Nat} (h : a < 2 ^ n) (hn : 0 < n) : a.log2 < n := by
  by_cases h0 : a = 0
  · rw [h0]; simpa using hn
  · exact (Nat.log2_lt h0).2 h
theorem sz_rat {r : Rat} {n : Nat} (h : r.num.natAbs < 2 ^ n) (h2 : r.den < 2 ^ n) (hn : 0 < n) : sz (.rat r) ≤ n := by
  simp only [sz]
  have := log2_lt_of h hn
  have := log2_lt_of h2 hn
  omega
theorem dvi_num_le {t b : Int} (ht : 0 ≤ t) (hb : 0 < b) : (Rat.divInt t b).num ≤ t ∧ 0 ≤ (Rat.divInt t b).num := by
  rw [low_num t b hb]
  exact ⟨Int.ediv_le_self _ ht, Int.ediv_nonneg ht (by omega)⟩
theorem dvi_den_le {t b : Int} (hb : 0 < b) : ((Rat.divInt t b).den : Int) ≤ b := by
  rw [low_den t b hb]
  exact Int.ediv_le_self _ (by omega)
theorem sz_dvi {t b : Int} {n : Nat} (ht : 0 ≤ t) (hb : 0 < b) (h1 : t < 2 ^ n) (h2 : b < 2 ^ n) (hn : 0 < n) : sz (.rat (Rat.divInt t b)) ≤ n := by
  have a := dvi_num_le ht hb
  have c := dvi_den_le (t := t) hb
  refine sz_rat ?_ ?_ hn
  · have : ((Rat.divInt t b).num.natAbs : Int) < ((2 ^ n : Nat) : Int) := by rw [Int.natCast_pow]; show _ < (2 : Int) ^ n; omega
    omega
  · have : ((Rat.divInt t b).den : Int) < ((2 ^ n : Nat) : Int) := by rw [Int.natCast_pow]; show _ < (2 : Int) ^ n; omega
    omega
theorem sz_law {k : Kd} (h : KOk k) (c : Int) : sz (lawW k c) ≤ 100 := by
  unfold lawW
  split
  · cases k <;> first | decide | (show sz (.int _) ≤ 100; decide)
  split
  · cases k <;> first | decide | (show sz (.int _) ≤ 100; decide)
  have hp : (10 : Int) ^ 30 < 2 ^ 100 := by decide
  have hp9 : (10 : Int) ^ 9 + 1 < 2 ^ 100 := by decide
  have hp2 : ((2 : Nat) ^ 100 : Nat) = (2 : Int) ^ 100 := by decide
  have ib : ∀ {i : Int}, -1 ≤ i → i < 2 ^ 100 → sz (.int i) ≤ 100 := fun h0 h1 => sz_int (by omega) (by decide)
  have lt30 : ∀ x : Int, x % 10 ^ 30 < 2 ^ 100 := fun x => Int.lt_trans (Int.emod_lt_of_pos _ (by decide)) hp
  have nn30 : ∀ x : Int, 0 ≤ x % 10 ^ 30 := fun x => Int.emod_nonneg _ (by decide)
  cases k with
  | few =>
    refine ib ?_ ?_
    · show -1 ≤ (if c % 6 < 5 then c / 6 % 20 else c / 6 % 10 ^ 30); have := nn30 (c / 6); split <;> omega
    · show (if c % 6 < 5 then c / 6 % 20 else c / 6 % 10 ^ 30) < 2 ^ 100; have := lt30 (c / 6); split <;> omega
  | wid =>
    refine ib ?_ ?_
    · show -1 ≤ (if c % 6 < 5 then c / 6 % 20 else c / 6 % (10 ^ 9 + 1)); split <;> omega
    · show (if c % 6 < 5 then c / 6 % 20 else c / 6 % (10 ^ 9 + 1)) < 2 ^ 100; split <;> omega
  | cnt =>
    refine ib ?_ ?_
    · show -1 ≤ (if c % 6 < 5 then c / 6 % 5 - 1 else c / 6 % 10 ^ 30); have := nn30 (c / 6); split <;> omega
    · show (if c % 6 < 5 then c / 6 % 5 - 1 else c / 6 % 10 ^ 30) < 2 ^ 100; have := lt30 (c / 6); split <;> omega
  | lik =>
    have hb0 : 0 ≤ c / 6 / 7 % 12 := Int.emod_nonneg _ (by decide)
    have hb1 : c / 6 / 7 % 12 < 12 := Int.emod_lt_of_pos _ (by decide)
    have h1 := Int.emod_nonneg (c / 6) (b := 1 + c / 6 / 7 % 12 + 1) (by omega)
    have h2 := Int.emod_lt_of_pos (c / 6) (b := 1 + c / 6 / 7 % 12 + 1) (by omega)
    have h16 : (2 : Int) ^ 4 = 16 := by decide
    exact Nat.le_trans (sz_dvi (n := 4) h1 (by omega) (by omega) (by omega) (by decide)) (by decide)
  | cha =>
    have hb0 : 0 ≤ c / 6 / 9 % 12 := Int.emod_nonneg _ (by decide)
    have hb1 : c / 6 / 9 % 12 < 12 := Int.emod_lt_of_pos _ (by decide)
    have h16 : (2 : Int) ^ 4 = 16 := by decide
    exact Nat.le_trans (sz_dvi (n := 4) (Int.emod_nonneg _ (by decide)) (by omega) (by omega) (by omega) (by decide)) (by decide)
  | mus =>
    refine ib ?_ ?_
    · show -1 ≤ (if c % 6 < 5 then c / 6 % 16 else c / 6 % 10 ^ 30); have := nn30 (c / 6); split <;> omega
    · show (if c % 6 < 5 then c / 6 % 16 else c / 6 % 10 ^ 30) < 2 ^ 100; have := lt30 (c / 6); split <;> omega
  | rst m =>
    have hm : (2 : Nat) ^ m ≤ 2 ^ 12 := Nat.pow_le_pow_right (by decide) h.2
    have hm' : (2 : Int) ^ m ≤ 2 ^ 12 := by exact_mod_cast hm
    have h0 : (0 : Int) < 2 ^ m := Int.pow_pos (by decide)
    have h1 := Int.emod_nonneg (c / 6) (b := 2 ^ m) (by omega)
    have h2 := Int.emod_lt_of_pos (c / 6) h0
    have h4 : (2 : Int) ^ 12 < 2 ^ 100 := by decide
    exact ib (show -1 ≤ c / 6 % 2 ^ m by omega) (show c / 6 % 2 ^ m < 2 ^ 100 by omega)
theorem fits_small {k : Kd} {a b : Wo} (ha : sz a ≤ 4000) (hb : sz b ≤ 4000) : Fits k a b := by cases k <;> first | trivial | (show sz a + sz b ≤ _; omega)
theorem fit1_small {k : Kd} {a : Wo} (ha : sz a ≤ 4000) : Fit1 k a := by cases k <;> first | trivial | (show sz a ≤ _; omega)
/-! ### W1: worths as values; shares -/
/-- v is the worth a -/
def Wv (H : Hp) (v : V) : Wo → Prop
  | .non => v = .non
  | .int i => v = .int i
  | .rat r => ∃ t, v = .ref t ∧ H t = some (.tup [.int r.num, .int r.den])
theorem Wv.same {H H' : Hp} {v : V} {a : Wo} (h : Wv H v a) (e : Same H H') : Wv H' v a := by
  cases a with
  | non => exact h
  | int i => exact h
  | rat r => obtain ⟨t, h1, h2⟩ := h; exact ⟨t, h1, e _ _ h2⟩
theorem same_upd {H : Hp} {p : Addr} {o : HO} (h : H p = none) : Same H (upd H p o) := fun b u e => by rw [upd_ne (ne_of_none e h)]; exact e
/-- a pair of whole numbers -/
def Pr (H : Hp) (v : V) (p q : Int) : Prop := ∃ t, v = .ref t ∧ H t = some (.tup [.int p, .int q])
theorem Pr.same {H H' : Hp} {v : V} {p q : Int} (h : Pr H v p q) (e : Same H H') : Pr H' v p q := by
  obtain ⟨t, h1, h2⟩ := h; exact ⟨t, h1, e _ _ h2⟩
theorem Wv.pr {H : Hp} {v : V} {r : Rat} : Wv H v (.rat r) ↔ Pr H v r.num r.den := Iff.rfl
theorem at0 {x y : V} : atI [x, y] 0 = some x := atI_nat (j := 0) rfl
theorem at1 {x y : V} : atI [x, y] 1 = some y := atI_nat (j := 1) rfl
theorem size2 : (2 : Nat) ≤ sizeLine := by rw [sizeLine_eq]; decide
/-- common(a, b) -/
def spCommon : Sp := fun vs H Q _ => ∃ a b : Int, vs = [.int a, .int b] ∧ 0 ≤ a ∧ 0 ≤ b ∧ Q (.int (Int.gcd a b : Int)) H
/-- lowest(t, b) -/
def spLowest : Sp := fun vs H Q _ => ∃ t b : Int, vs = [.int t, .int b] ∧ 0 ≤ t ∧ 0 < b ∧ b.natAbs.log2 < 9000 ∧
  ∀ p, H p = none → Q (.ref p) (upd H p (.tup [.int (Rat.divInt t b).num, .int (Rat.divInt t b).den]))
/-- a deed of two shares -/
def spShare (f : Rat → Rat → Rat) (n : Nat) : Sp := fun vs H Q _ => ∃ (x y : V) (r s : Rat), vs = [x, y] ∧ Wv H x (.rat r) ∧ Wv H y (.rat s) ∧ 0 ≤ r ∧ 0 ≤ s ∧ sz (.rat r) + sz (.rat s) ≤ n ∧
  ∀ p, H p = none → Q (.ref p) (upd H p (.tup [.int (f r s).num, .int (f r s).den]))
def spLess : Sp := fun vs H Q _ => ∃ (x y : V) (r s : Rat), vs = [x, y] ∧ Wv H x (.rat r) ∧ Wv H y (.rat s) ∧ sz (.rat r) + sz (.rat s) ≤ 8000 ∧ Q (.bl (decide (r < s))) H
theorem log2_mono {a b : Nat} (h : a ≤ b) : a.log2 ≤ b.log2 := by
  by_cases h0 : a = 0
  · subst h0; simp
  · have hb : b ≠ 0 := by omega
    exact (Nat.le_log2 hb).2 (Nat.le_trans (Nat.log2_self_le h0) h)
theorem lt_sz_num (r : Rat) : r.num.natAbs < 2 ^ sz (.rat r) := by
  refine Nat.lt_of_lt_of_le (Nat.lt_log2_self) (Nat.pow_le_pow_right (by decide) ?_)
  simp only [sz]; omega
theorem lt_sz_den (r : Rat) : (r.den : Int).natAbs < 2 ^ sz (.rat r) := by
  rw [Int.natAbs_natCast]
  refine Nat.lt_of_lt_of_le (Nat.lt_log2_self) (Nat.pow_le_pow_right (by decide) ?_)
  simp only [sz]; omega
theorem sz_pos (a : Wo) : 0 < sz a := by cases a <;> simp only [sz] <;> omega
theorem lt_sz_int (i : Int) : i.natAbs < 2 ^ sz (.int i) := Nat.lt_log2_self
theorem mul_fit {a b : Int} {n m k : Nat} (ha : a.natAbs < 2 ^ n) (hb : b.natAbs < 2 ^ m) (h0 : 0 < n) (h1 : 0 < m) (h : n + m ≤ k) (hk : k ≤ 1000000) : L2.CMulW a b := wide_mul ha hb h0 h1 (by omega)
theorem den_fit {r s : Rat} {n : Nat} (h : sz (.rat r) + sz (.rat s) ≤ n) (hn : n ≤ 8000) : ((r.den : Int) * s.den).natAbs.log2 < 9000 := by
  have := wide_lt (lt_sz_den r) (lt_sz_den s)
  have h2 := PySem.Flt.log2_lt_of (n := ((r.den : Int) * s.den).natAbs) (k := sz (.rat r) + sz (.rat s)) (by have := sz_pos (.rat r); omega) this
  omega
section
variable {P : Program} {w : World} {K : PySem.W.Frag} {mg : Str → Option Value} {base : Heap}
theorem fc_common {f : Addr} {fd : FuncData} (D : Dfn K mg "common" s_common ["one", "other"] f fd) : Fc CX0 P w K mg base 1 "common" spCommon := by
  have sc : FnScope ["one", "other", "kept"] ["one", "other"] (defScope s_common) := ⟨rfl, rfl, rfl, by decide +kernel, rfl, by decide +kernel, by decide +kernel⟩
  refine fc0 D sc (fun vs H Q E h => ?_) (fun cdv A outer s H vs Q E hr h => ?_)
  · obtain ⟨a, b, rfl, _⟩ := h; rfl
  · obtain ⟨a, b, rfl, ha, hb, k⟩ := h
    refine ⟨_, pss_cons (ps_while PassesOwn.never (pt_cmpR op_ne (pv 1) pe_int (nomark _)) (pss_cons (ps_set (i := 2) sc.nd rfl (.inl rfl) (pe_op op_mod (pv 0) (pv 1)))
      (pss_cons (ps_set (i := 0) sc.nd rfl (.inl rfl) (pv 1)) (pss_one (ps_set (i := 1) sc.nd rfl (.inl rfl) (pv 2)))))) (pss_one (ps_ret (pv 0))), ?_⟩
    refine while_by (fun σ H' => ∃ (x y : Int) (v : Option V), σ = [some (.int x), some (.int y), v] ∧ H' = H ∧ 0 ≤ x ∧ 0 ≤ y ∧ Int.gcd x y = Int.gcd a b)
      (fun σ _ => match σ with | [_, some (.int y), _] => y.toNat | _ => 0) ⟨a, b, none, rfl, rfl, ha, hb, rfl⟩ ?_ ?_
    · rintro σ H' ⟨x, y, v, rfl, rfl, hx, hy, hg⟩
      refine ⟨_, rfl, rfl, _, rfl, ?_⟩
      by_cases h0 : y = 0
      · subst h0
        refine ⟨_, rfl, ?_⟩
        rw [Int.gcd_zero_right, ← Int.natCast_inj] at hg
        have e : x = (Int.gcd a b : Int) := by rw [← hg]; omega
        rw [e]; exact k
      · have hd : (!decide (V.int y = V.int 0)) = true := by simp [h0]
        show if (!decide (V.int y = V.int 0)) = true then _ else _
        rw [if_pos hd]
        refine ⟨_, rfl, _, rfl, _, _, rfl, rfl, (by omega : 0 < y), ?_⟩
        refine ⟨_, rfl, _, rfl, ⟨y, x % y, _, rfl, rfl, hy, Int.emod_nonneg _ h0, by rw [gcd_step]; exact hg⟩, ?_⟩
        have := Int.emod_lt_of_pos x (show 0 < y by omega)
        have := Int.emod_nonneg x h0
        show (x % y).toNat < y.toNat
        omega
    · rintro σ H' R R' hm ⟨v, e, h1, b, e2, h2⟩
      exact ⟨v, e, h1, b, e2, hm _ _ h2⟩
end
/-! ### W2: the kinds' methods -/
/-- attributes of a kind -/
def kfs : Kd → List (Str × V)
  | .rst m => putF "m" (.int m) []
  | _ => []
/-- the kind k stands at x -/
def KindAt (A : Ad) (H : Hp) (x : Addr) (k : Kd) : Prop := Av k.x = true ∧ KOk k ∧ ∃ dx, H x = some (.ins (A.C k.x) dx (kfs k))
theorem KindAt.same {A : Ad} {H H' : Hp} {x : Addr} {k : Kd} (h : KindAt A H x k) (e : Same H H') : KindAt A H' x k := by
  obtain ⟨h0, h2, dx, h1⟩ := h; exact ⟨h0, h2, dx, e _ _ h1⟩
theorem kfs_no (k : Kd) {m : Str} (h : ¬ m = "m") : (kfs k).lookup m = none := by
  cases k <;> first | rfl | skip
  unfold kfs
  rw [lookup_putF, if_neg h]
  rfl
theorem kfs_m (m : Nat) : (kfs (.rst m)).lookup ("m" : Str) = some (.int m) := by
  unfold kfs
  rw [lookup_putF, if_pos rfl]
/-- k.m(): a worth -/
def spK0 (A : Ad) (i : Kx) (f : Kd → Wo) : Sp := fun vs H Q _ => ∃ (x : Addr) (k : Kd), vs = [.ref x] ∧ KindAt A H x k ∧ k.x = i ∧ ∀ H' z, Same H H' → Wv H' z (f k) → Q z H'
/-- k.m(a, b): a worth -/
def spK2 (A : Ad) (i : Kx) (f : Kd → Wo → Wo → Wo) : Sp := fun vs H Q _ => ∃ (x : Addr) (k : Kd) (u v : V) (a b : Wo), vs = [.ref x, u, v] ∧ KindAt A H x k ∧ k.x = i ∧ Wv H u a ∧ Wv H v b ∧ Good k a ∧ Good k b ∧ Fits k a b ∧
  ∀ H' z, Same H H' → Wv H' z (f k a b) → Q z H'
/-- k.rounds(a) -/
def spRnd (A : Ad) (nos : Addr) (i : Kx) : Sp := fun vs H Q E => ∃ (x : Addr) (k : Kd) (u : V) (a : Wo), vs = [.ref x, u] ∧ KindAt A H x k ∧ k.x = i ∧ Wv H u a ∧ Good k a ∧ Fit1 k a ∧
  (∀ s, rnd k a = some s → ∀ H' z, Same H H' → Wv H' z s → Q z H') ∧ (rnd k a = none → E (.ref nos) none H)
/-- k.picks() -/
def spPick (A : Ad) (i : Kx) : Sp := fun vs H Q _ => ∃ (x : Addr) (k : Kd), vs = [.ref x] ∧ KindAt A H x k ∧ k.x = i ∧ Q (.bl (pick k)) H
theorem ifT {c : Bool} {A B : Prop} (h : c = true) (q : A) : if c = true then A else B := by rw [if_pos h]; exact q
theorem ifF {c : Bool} {A B : Prop} (h : c = false) (q : B) : if c = true then A else B := by rw [h, if_neg Bool.false_ne_true]; exact q
theorem wv_tup {H : Hp} {p : Addr} {r : Rat} {P Q : Int} (h1 : P = r.num) (h2 : Q = r.den) : Wv (upd H p (.tup [.int P, .int Q])) (.ref p) (.rat r) := ⟨p, rfl, by rw [upd_same, h1, h2]⟩
theorem nn (i : Int) (h : 0 ≤ i) : ∃ n : Nat, i = (n : Int) := ⟨i.toNat, by omega⟩
theorem fsc {N P : List Str} {sc : Scope} (h : C8.scC N P sc = true) : FnScope N P sc := C8.fnScope_by h
theorem bor (a b : Nat) : Builtin.bitOr (a : Int) (b : Int) = ((a ||| b : Nat) : Int) := by
  rw [bitOr_nn (by omega) (by omega), Int.toNat_natCast, Int.toNat_natCast]
theorem band (a b : Nat) : Builtin.bitAnd (a : Int) (b : Int) = ((a &&& b : Nat) : Int) := by
  unfold Builtin.bitAnd
  rw [decide_eq_true (show (0 : Int) ≤ (a : Int) by omega), decide_eq_true (show (0 : Int) ≤ (b : Int) by omega)]
  simp
section
variable {P : Program} {w : World} {K : PySem.W.Frag} {mg : Str → Option Value} {base : Heap} {A : Ad} {f : Addr} {fd : FuncData}
/-- a method that hands back a written whole number -/
theorem len0 {i : Kx} {g : Kd → Wo} : ∀ vs H Q E, spK0 A i g vs H Q E → vs.length = ["self"].length := fun vs H Q E h => by
  obtain ⟨x, k, rfl, _⟩ := h; rfl
theorem len2 {i : Kx} {g : Kd → Wo → Wo → Wo} : ∀ vs H Q E, spK2 A i g vs H Q E → vs.length = ["self", "one", "other"].length := fun vs H Q E h => by
  obtain ⟨x, k, u, v, a, b, rfl, _⟩ := h; rfl
theorem lenR {i : Kx} {n : Addr} : ∀ vs H Q E, spRnd A n i vs H Q E → vs.length = ["self", "one"].length := fun vs H Q E h => by
  obtain ⟨x, k, u, a, rfl, _⟩ := h; rfl
theorem lenP {i : Kx} : ∀ vs H Q E, spPick A i vs H Q E → vs.length = ["self"].length := fun vs H Q E h => by
  obtain ⟨x, k, rfl, _⟩ := h; rfl
end
/-! ### W3: rests behind one another; rounds; Rests(m) -/
theorem bit_test (a i : Nat) : decide (V.int (Builtin.bitAnd ((a : Int) / 2 ^ ((0 : Int) + (i : Nat)).toNat) 1) = V.int 1) = a.testBit i := by
  have e1 : ((0 : Int) + (i : Nat)).toNat = i := by omega
  have e2 : (a : Int) / 2 ^ i = ((a / 2 ^ i : Nat) : Int) := by
    rw [Int.natCast_ediv, Int.natCast_pow]; rfl
  rw [e1, e2, show (1 : Int) = ((1 : Nat) : Int) from rfl, band, Nat.and_one_is_mod]
  have h := Nat.testBit_eq_decide_div_mod_eq (x := a) (i := i)
  rw [h, decide_eq_decide, V.int.injEq]
  omega
theorem shl_one {i j m : Nat} : (1 : Int) * 2 ^ (((0 : Int) + (i : Nat) + ((0 : Int) + (j : Nat))) % (m : Int)).toNat = ((2 ^ ((i + j) % m) : Nat) : Int) := by
  have e : (((0 : Int) + (i : Nat) + ((0 : Int) + (j : Nat))) % (m : Int)).toNat = (i + j) % m := by
    have : ((0 : Int) + (i : Nat) + ((0 : Int) + (j : Nat))) = ((i + j : Nat) : Int) := by omega
    rw [this, ← Int.natCast_emod, Int.toNat_natCast]
  rw [e, Int.one_mul, Int.natCast_pow]; rfl
theorem shl_fit {x : Int} {m : Nat} (h0 : 0 < m) (hm : m ≤ 12) : L2.CPow 1 (x % (m : Int)) :=
  ⟨Int.emod_nonneg _ (by omega), by have := Int.emod_lt_of_pos x (show (0 : Int) < m by omega); omega, by decide⟩
section
variable {P : Program} {w : World} {K : PySem.W.Frag} {mg : Str → Option Value} {base : Heap} {A : Ad} {f : Addr} {fd : FuncData}
/-- Rests(m) -/
def spRests (A : Ad) : Sp := fun vs H Q E => ∃ (x dx : Addr) (m : Int), vs = [.ref x, .int m] ∧ H x = some (.ins A.Rests dx []) ∧
  ((1 ≤ m ∧ m ≤ 12) → Q .non (upd H x (.ins A.Rests dx (putF "m" (.int m) [])))) ∧ (¬ (1 ≤ m ∧ m ≤ 12) → E (.ref A.NoWorth) none H)
theorem nc_Rests (c : Clz K mg "Rests" A.Rests) (na : NoAttr K A.Rests "m") (z : Exz K mg "NoWorth" A.NoWorth) (D : Ini K A.Rests "Rests.__init__" s_Rests___init__ ["self", "m"] f fd) : Nc (L2.CX P w) P w K mg base 1 "Rests" A.Rests (spRests A) := by
  refine ⟨f, fd, _, D.F.okX (N := ["self", "m"]) (fsc (by decide +kernel)) (fun vs H Q E h => ?_) (fun cdv _ outer s H vs Q E hr h => ?_), D.M, c.g, D.b⟩
  · obtain ⟨x, dx, m, rfl, _⟩ := h; rfl
  · obtain ⟨x, dx, m, rfl, hx, q, qn⟩ := h
    refine ⟨_, pss_cons (ps_if (pt_not (pt_chain op_le op_le pe_int (pv 1) pe_int)) (pss_one (ps_raise rfl (takes_of rfl rfl rfl rfl) (pmk_own PySem.F.excBase_ValueError z.ex z.g z.kp (raises_own z.bs z.ty) rfl))) pss_nil)
      (pss_one (ps_fld (pv 0) (pv 1) rfl)), ?_⟩
    refine ⟨_, rfl, _, _, rfl, rfl, _, rfl, ?_⟩
    by_cases h1 : 1 ≤ m
    · refine ifT (decide_eq_true h1) ⟨_, _, rfl, rfl, _, rfl, ?_⟩
      by_cases h2 : m ≤ 12
      · exact ifF (by rw [decide_eq_true h2]; rfl) ⟨_, rfl, _, rfl, x, _, dx, [], rfl, hx, c.cl, na, (by show 0 < 1000; decide), q ⟨h1, h2⟩⟩
      · exact ifT (by rw [decide_eq_false h2]; rfl) (qn fun y => h2 y.2)
    · exact ifF (decide_eq_false h1) ⟨_, rfl, ifT rfl (qn fun y => h1 y.1)⟩
end
/-! k.m(e, ..) of any kind -/
section
variable {X : Cx} {CX : CXT} {j n : Nat} {A : Ad} {m : Str} {sp : Kx → Sp} {ES : L2.St → XK} {pos apos : Pos} {e o : Expr} {es : List Expr} {ta : TE} {t : TA}
def tKM (A : Ad) (sp : Kx → Sp) (ES : L2.St → XK) (ta : TE) (t : TA) : TE := fun σ H Q => ∃ k : Kd, Av k.x = true ∧ ta σ H fun x H1 => ∃ a, x = .ref a ∧ KindAt A H1 a k ∧ t σ H1 fun vs H2 => sp k.x (.ref a :: vs) H2 Q (ES σ)
theorem pe_km {pl : Sem Bool} (F : ∀ i, Av i = true → Mc CX X.prog X.w X.K X.mg X.base n (A.C i) m (sp i)) (hr : Room j X.A) (hk : n ≤ j) (hx : ∀ σ, PassesAt CX X σ (ES σ)) (ho : PE X o ta) (ha : PA X (e :: es) t) (hm : ¬ m = "m" := by decide +kernel)
    (hst : starEach (e :: es) X.env = (false, eval e X.env) :: starEach es X.env := by rfl) (hpl : (backTo pos (starEach es X.env)).any (·.1) = false := by rfl)
    (ht : eval (.Call (.Attribute o m apos) (e :: es) [] pos) X.env = (do
      let ov ← eval o X.env
      standAt apos.atName
      let (f, first) ← holding [ov] (getMethod ov m pl)
      callWith pos f first (backTo pos (starEach (e :: es) X.env)) (backToKw pos (keywordEach [] X.env))) := by rfl) :
    PE X (.Call (.Attribute o m apos) (e :: es) [] pos) (tKM A sp ES ta t) := by
  constructor
  rintro pins s σ H Q I ⟨k, hav, h⟩
  obtain ⟨f, fd, ps, G, c, hme, b⟩ := (F k.x hav).ex
  refine PySem.W.methodCall_KW (pl := pl) (thn (ho.run pins s σ H _ I h) ?_) ht
  rintro u s1 ⟨y, H1, I1, ry, a, rfl, ⟨_, _, dx, ea⟩, q⟩
  cases ry
  refine getmeth_ok I1 ea c hme (kfs_no k hm) ?_
  refine PySem.W.callWith_K (first := [.ref a]) (h₀ := X.base) I.ok.mod.kin hme.kp (thn (ha.run pos pins s1 σ H1 _ I1 q) ?_) hst hpl
  rintro us s2 ⟨vs, H2, I2, r, q2⟩
  exact ⟨I2.kIn, run_fnS (us := .ref a :: us) (vs := .ref a :: vs) G (hr.mono hk) b (hx σ) I2 (.cons rfl r) q2⟩
/-- k.m() -/
theorem pe_km0 {pl : Sem Bool} (F : ∀ i, Av i = true → Mc CX X.prog X.w X.K X.mg X.base n (A.C i) m (sp i)) (hr : Room j X.A) (hk : n ≤ j) (hx : ∀ σ, PassesAt CX X σ (ES σ)) (ho : PE X o ta) (hm : ¬ m = "m" := by decide +kernel)
    (ht : eval (.Call (.Attribute o m apos) [] [] pos) X.env = (do
      let ov ← eval o X.env
      standAt apos.atName
      let (f, first) ← holding [ov] (getMethod ov m pl)
      callWith pos f first (backTo pos (starEach [] X.env)) (backToKw pos (keywordEach [] X.env))) := by rfl) :
    PE X (.Call (.Attribute o m apos) [] [] pos) (tKM A sp ES ta tNil) := by
  constructor
  rintro pins s σ H Q I ⟨k, hav, h⟩
  obtain ⟨f, fd, ps, G, c, hme, b⟩ := (F k.x hav).ex
  refine PySem.W.methodCall_KW (pl := pl) (thn (ho.run pins s σ H _ I h) ?_) ht
  rintro u s1 ⟨y, H1, I1, ry, a, rfl, ⟨_, _, dx, ea⟩, q⟩
  cases ry
  refine getmeth_ok I1 ea c hme (kfs_no k hm) ?_
  exact PySem.W.callWith_K0 (first := [.ref a]) I1.kIn hme.kp (run_fnS (us := [.ref a]) (vs := [.ref a]) G (hr.mono hk) b (hx σ) I1 (.cons rfl .nil) q)
/-- nothing is raised -/
theorem passS {X : Cx} {E : L2.St → XK} : ∀ σ, PassesAt CX0 X σ (E σ) := fun _ _ _ _ _ _ _ h => h.elim
end
/-! ### W4: what is a worth -/
/-- what may be asked: nothing, a whole number, a pair of whole numbers -/
inductive Vx where
  | non | int (i : Int) | par (p q : Int)
def Wo.vx : Wo → Vx
  | .non => .non | .int i => .int i | .rat r => .par r.num r.den
def Vv (H : Hp) (v : V) : Vx → Prop
  | .non => v = .non
  | .int i => v = .int i
  | .par p q => Pr H v p q
theorem Vv.same {H H' : Hp} {v : V} {a : Vx} (h : Vv H v a) (e : Same H H') : Vv H' v a := by
  cases a with
  | non => exact h
  | int i => exact h
  | par p q => exact Pr.same h e
theorem Wv.vx {H : Hp} {v : V} {a : Wo} (h : Wv H v a) : Vv H v a.vx := by cases a <;> exact h
theorem vv_ty {K : PySem.W.Frag} {H : Hp} {v : V} {a : Vx} (h : Vv H v a) : ∃ t : String, TyX K H v (.type t) ∧ (a = .non ∧ t = "NoneType" ∨ (∃ i, a = .int i) ∧ t = "int" ∨ (∃ p q, a = .par p q) ∧ t = "tuple") := by
  cases a with
  | non => cases h; exact ⟨_, .base .non, .inl ⟨rfl, rfl⟩⟩
  | int i => cases h; exact ⟨_, .base (.int i), .inr (.inl ⟨⟨i, rfl⟩, rfl⟩)⟩
  | par p q => obtain ⟨t, rfl, ht⟩ := h; exact ⟨_, .base (.tup ht), .inr (.inr ⟨⟨p, q, rfl⟩, rfl⟩)⟩
/-- a pair in lowest terms -/
def shr (p q : Int) : Bool := if 0 ≤ p then if 0 < q then decide (Int.gcd p q = 1) else false else false
theorem shr_rat {r : Rat} (h : 0 ≤ r) : shr r.num r.den = true := by
  have h0 := Rat.num_nonneg.2 h
  have h1 := den_pos r
  unfold shr
  rw [if_pos h0, if_pos h1, decide_eq_true_eq]
  have := r.reduced
  rw [Int.gcd, Int.natAbs_natCast]
  exact this
theorem shr_of {p q : Int} (h : shr p q = true) : 0 ≤ p ∧ 0 < q ∧ Int.gcd p q = 1 := by
  unfold shr at h
  by_cases h0 : 0 ≤ p
  · rw [if_pos h0] at h
    by_cases h1 : 0 < q
    · rw [if_pos h1] at h; exact ⟨h0, h1, of_decide_eq_true h⟩
    · rw [if_neg h1] at h; cases h
  · rw [if_neg h0] at h; cases h
def isW : Kd → Vx → Bool
  | .few, .non => true
  | .few, .int i => decide (0 ≤ i)
  | .wid, .int i => if 0 ≤ i then decide (i ≤ 1000000000) else false
  | .cnt, .int i => decide (-1 ≤ i)
  | .lik, .par p q => if shr p q = true then decide (p ≤ q) else false
  | .cha, .par p q => shr p q
  | .mus, .non => true
  | .mus, .int i => decide (0 ≤ i)
  | .rst m, .int i => if 0 ≤ i then decide (i < 2 ^ m) else false
  | _, _ => false
theorem isW_good {k : Kd} {a : Wo} (g : Good k a) : isW k a.vx = true := by
  cases k <;> cases a <;> first | exact g.elim | skip
  case few.non => rfl
  case few.int => exact decide_eq_true g
  case wid.int => show (if _ then _ else _) = true; rw [if_pos g.1]; exact decide_eq_true g.2
  case cnt.int => exact decide_eq_true g
  case lik.rat => show (if _ then _ else _) = true; rw [if_pos (shr_rat g.1)]; exact decide_eq_true ((rat_le_one _).1 g.2)
  case cha.rat => exact shr_rat g
  case mus.non => rfl
  case mus.int => exact decide_eq_true g
  case rst.int => show (if _ then _ else _) = true; rw [if_pos g.1]; exact decide_eq_true g.2
/-- k.is_worth(some) -/
def spIs (A : Ad) (i : Kx) : Sp := fun vs H Q _ => ∃ (x : Addr) (k : Kd) (v : V) (a : Vx), vs = [.ref x, v] ∧ KindAt A H x k ∧ k.x = i ∧ Vv H v a ∧ Q (.bl (isW k a)) H
/-- is_share(some) -/
def shrV : Vx → Bool
  | .par p q => shr p q
  | _ => false
def spIsShare : Sp := fun vs H Q _ => ∃ (v : V) (a : Vx), vs = [v] ∧ Vv H v a ∧ Q (.bl (shrV a)) H
theorem lenI {A : Ad} {i : Kx} : ∀ vs H Q E, spIs A i vs H Q E → vs.length = ["self", "some"].length := fun vs H Q E h => by
  obtain ⟨x, k, v, a, rfl, _⟩ := h; rfl
section
variable {P : Program} {w : World} {K : PySem.W.Frag} {mg : Str → Option Value} {base : Heap} {A : Ad} {f : Addr} {fd : FuncData}
theorem fc_is_share (T : Tx K mg A) (C : Fc CX0 P w K mg base 1 "common" spCommon) (D : Dfn K mg "is_share" s_is_share ["some"] f fd) : Fc CX0 P w K mg base 2 "is_share" spIsShare := by
  refine fc0 (N := ["some"]) D (fsc (by decide +kernel)) (fun vs H Q E h => ?_) (fun cdv _ outer s H vs Q E hr h => ?_)
  · obtain ⟨v, a, rfl, _⟩ := h; rfl
  · obtain ⟨v, a, rfl, ha, q⟩ := h
    refine ⟨_, (pss_cons (ps_if (PW.pt (pw_or (pt_not (pt_val (pe_callB call_isi (by rfl) T.n_isinstance (by decide +kernel) (pa_cons (pv 0) (pa_cons (pe_bltn (v := .ty "tuple") (by rfl) T.n_tuple (by decide +kernel) rfl) pa_nil))))) (pw_or1 (pt_cmpR op_ne (pe_callB call_len_seq (by rfl) T.n_len PySem.boot_len (pa_cons (pv 0) pa_nil)) pe_int (nomark _))))) (pss_one (ps_ret pe_bl)) pss_nil) (pss_one (ps_ret (pe_and (pe_cmpR op_ge (pe_ix ix_tup (pv 0) pe_int (fun _ _ => rfl)) pe_int (nomark _)) (pe_and (pe_cmpR op_gt (pe_ix ix_tup (pv 0) pe_int (fun _ _ => rfl)) pe_int (nomark _)) (pe_one (pe_cmpR op_eq (pe_f C hr (by decide) pass0 rfl (pa_cons (pe_ix ix_tup (pv 0) pe_int (fun _ _ => rfl)) (pa_cons (pe_ix ix_tup (pv 0) pe_int (fun _ _ => rfl)) pa_nil))) pe_int (nomark _)))))))), ?_⟩
    cases a with
    | non => cases ha; exact ⟨_, rfl, _, _, _, _, false, rfl, .ty "tuple", .base .non, kit_ty (by decide +kernel), false, rfl, ifT rfl (ifT rfl q)⟩
    | int i => cases ha; exact ⟨_, rfl, _, _, _, _, false, rfl, .ty "tuple", .base (.int i), kit_ty (by decide +kernel), false, rfl, ifT rfl (ifT rfl q)⟩
    | par p r =>
      obtain ⟨pa, rfl, hpa⟩ := ha
      refine ⟨_, rfl, _, _, _, _, true, rfl, .ty "tuple", .base (.tup hpa), kit_ty (by decide +kernel), true, rfl, ifF rfl ⟨_, rfl, pa, _, rfl, .inr (SqT.of hpa), rfl, _, rfl, ifF rfl ?_⟩⟩
      have q' : Q (.bl (shr p r)) H := q
      unfold shr at q'
      refine ⟨_, rfl, pa, _, _, _, rfl, rfl, SqT.of hpa, at0, _, _, rfl, rfl, _, rfl, ?_⟩
      by_cases h0 : 0 ≤ p
      · rw [if_pos h0] at q'
        refine ifT (decide_eq_true h0) ⟨_, rfl, pa, _, _, _, rfl, rfl, SqT.of hpa, at1, _, _, rfl, rfl, _, rfl, ?_⟩
        by_cases h1 : 0 < r
        · rw [if_pos h1] at q'
          refine ifT (decide_eq_true h1) ⟨_, rfl, pa, _, _, _, rfl, rfl, SqT.of hpa, at0, _, rfl, pa, _, _, _, rfl, rfl, SqT.of hpa, at1, _, _, rfl, h0, Int.le_of_lt h1, rfl, ?_⟩
          have e : decide (V.int (Int.gcd p r : Int) = V.int 1) = decide (Int.gcd p r = 1) := by rw [decide_eq_decide, V.int.injEq]; omega
          rw [← e] at q'
          exact q'
        · rw [if_neg h1] at q'
          exact ifF (decide_eq_false h1) q'
      · rw [if_neg h0] at q'
        exact ifF (decide_eq_false h0) q'
theorem mc_Fewest_is_worth (T : Tx K mg A) (D : Mth K A.Fewest "is_worth" "Fewest.is_worth" s_Fewest_is_worth ["self", "some"] f fd) : Mc CX0 P w K mg base 1 A.Fewest "is_worth" (spIs A .few) := by
  refine mc0 (N := ["self", "some"]) T.c_Fewest.cl D (fsc (by decide +kernel)) lenI (fun cdv _ outer s H vs Q E hr h => ?_)
  obtain ⟨x, k, v, a, rfl, hk, e, ha, q⟩ := h
  cases k <;> cases e
  refine ⟨_, pss_one (ps_ret (pe_or (pe_cmpR op_isN (pv 1) pe_non (nomark _)) (pe_one (pe_and (pe_callB call_isi (by rfl) T.n_isinstance (by decide +kernel) (pa_cons (pv 1) (pa_cons (pe_bltn (v := .ty "int") (by rfl) T.n_int (by decide +kernel) rfl) pa_nil))) (pe_one (pe_cmpR op_ge (pv 1) pe_int (nomark _))))))), ?_⟩
  refine ⟨_, rfl, rfl, _, rfl, ?_⟩
  cases a with
  | non => cases ha; exact ifT rfl q
  | int i => cases ha; exact ifF rfl ⟨_, rfl, _, _, _, _, true, rfl, .ty "int", .base (.int i), kit_ty (by decide +kernel), true, rfl, ifT rfl ⟨_, rfl, _, _, rfl, rfl, q⟩⟩
  | par p r => obtain ⟨pa, rfl, hpa⟩ := ha; exact ifF rfl ⟨_, rfl, _, _, _, _, false, rfl, .ty "int", .base (.tup hpa), kit_ty (by decide +kernel), false, rfl, ifF rfl q⟩
theorem mc_Musts_is_worth (T : Tx K mg A) (D : Mth K A.Musts "is_worth" "Musts.is_worth" s_Musts_is_worth ["self", "some"] f fd) : Mc CX0 P w K mg base 1 A.Musts "is_worth" (spIs A .mus) := by
  refine mc0 (N := ["self", "some"]) T.c_Musts.cl D (fsc (by decide +kernel)) lenI (fun cdv _ outer s H vs Q E hr h => ?_)
  obtain ⟨x, k, v, a, rfl, hk, e, ha, q⟩ := h
  cases k <;> cases e
  refine ⟨_, pss_one (ps_ret (pe_or (pe_cmpR op_isN (pv 1) pe_non (nomark _)) (pe_one (pe_and (pe_callB call_isi (by rfl) T.n_isinstance (by decide +kernel) (pa_cons (pv 1) (pa_cons (pe_bltn (v := .ty "int") (by rfl) T.n_int (by decide +kernel) rfl) pa_nil))) (pe_one (pe_cmpR op_ge (pv 1) pe_int (nomark _))))))), ?_⟩
  refine ⟨_, rfl, rfl, _, rfl, ?_⟩
  cases a with
  | non => cases ha; exact ifT rfl q
  | int i => cases ha; exact ifF rfl ⟨_, rfl, _, _, _, _, true, rfl, .ty "int", .base (.int i), kit_ty (by decide +kernel), true, rfl, ifT rfl ⟨_, rfl, _, _, rfl, rfl, q⟩⟩
  | par p r => obtain ⟨pa, rfl, hpa⟩ := ha; exact ifF rfl ⟨_, rfl, _, _, _, _, false, rfl, .ty "int", .base (.tup hpa), kit_ty (by decide +kernel), false, rfl, ifF rfl q⟩
theorem mc_Counted_is_worth (T : Tx K mg A) (D : Mth K A.Counted "is_worth" "Counted.is_worth" s_Counted_is_worth ["self", "some"] f fd) : Mc CX0 P w K mg base 1 A.Counted "is_worth" (spIs A .cnt) := by
  refine mc0 (N := ["self", "some"]) T.c_Counted.cl D (fsc (by decide +kernel)) lenI (fun cdv _ outer s H vs Q E hr h => ?_)
  obtain ⟨x, k, v, a, rfl, hk, e, ha, q⟩ := h
  cases k <;> cases e
  refine ⟨_, pss_one (ps_ret (pe_and (pe_callB call_isi (by rfl) T.n_isinstance (by decide +kernel) (pa_cons (pv 1) (pa_cons (pe_bltn (v := .ty "int") (by rfl) T.n_int (by decide +kernel) rfl) pa_nil))) (pe_one (pe_cmpR op_ge (pv 1) (pe_un un_neg pe_int) (nomark _))))), ?_⟩
  cases a with
  | non => cases ha; exact ⟨_, rfl, _, _, _, _, false, rfl, .ty "int", .base .non, kit_ty (by decide +kernel), false, rfl, ifF rfl q⟩
  | int i => cases ha; exact ⟨_, rfl, _, _, _, _, true, rfl, .ty "int", .base (.int i), kit_ty (by decide +kernel), true, rfl, ifT rfl ⟨_, rfl, _, rfl, _, _, rfl, rfl, q⟩⟩
  | par p r => obtain ⟨pa, rfl, hpa⟩ := ha; exact ⟨_, rfl, _, _, _, _, false, rfl, .ty "int", .base (.tup hpa), kit_ty (by decide +kernel), false, rfl, ifF rfl q⟩
theorem mc_Widest_is_worth (T : Tx K mg A) (D : Mth K A.Widest "is_worth" "Widest.is_worth" s_Widest_is_worth ["self", "some"] f fd) : Mc CX0 P w K mg base 1 A.Widest "is_worth" (spIs A .wid) := by
  refine mc0 (N := ["self", "some"]) T.c_Widest.cl D (fsc (by decide +kernel)) lenI (fun cdv _ outer s H vs Q E hr h => ?_)
  obtain ⟨x, k, v, a, rfl, hk, e, ha, q⟩ := h
  cases k <;> cases e
  refine ⟨_, pss_one (ps_ret (pe_and (pe_callB call_isi (by rfl) T.n_isinstance (by decide +kernel) (pa_cons (pv 1) (pa_cons (pe_bltn (v := .ty "int") (by rfl) T.n_int (by decide +kernel) rfl) pa_nil))) (pe_one (pe_chain op_le op_le pe_int (pv 1) (C8.pe_gc rfl T.g_WIDEST))))), ?_⟩
  cases a with
  | non => cases ha; exact ⟨_, rfl, _, _, _, _, false, rfl, .ty "int", .base .non, kit_ty (by decide +kernel), false, rfl, ifF rfl q⟩
  | int i =>
    cases ha
    refine ⟨_, rfl, _, _, _, _, true, rfl, .ty "int", .base (.int i), kit_ty (by decide +kernel), true, rfl, ifT rfl ⟨_, rfl, _, _, rfl, rfl, _, rfl, ?_⟩⟩
    have q' : Q (.bl (if 0 ≤ i then decide (i ≤ 1000000000) else false)) H := q
    by_cases h : 0 ≤ i
    · rw [if_pos h] at q'; exact ifT (decide_eq_true h) ⟨_, _, rfl, rfl, q'⟩
    · rw [if_neg h] at q'; exact ifF (decide_eq_false h) q'
  | par p r => obtain ⟨pa, rfl, hpa⟩ := ha; exact ⟨_, rfl, _, _, _, _, false, rfl, .ty "int", .base (.tup hpa), kit_ty (by decide +kernel), false, rfl, ifF rfl q⟩
theorem mc_Rests_is_worth (T : Tx K mg A) (D : Mth K A.Rests "is_worth" "Rests.is_worth" s_Rests_is_worth ["self", "some"] f fd) : Mc CX0 P w K mg base 1 A.Rests "is_worth" (spIs A .rst) := by
  refine mc0 (N := ["self", "some"]) T.c_Rests.cl D (fsc (by decide +kernel)) lenI (fun cdv _ outer s H vs Q E hr h => ?_)
  obtain ⟨x, k, v, a, rfl, hk, e, ha, q⟩ := h
  cases k <;> cases e
  rename_i m
  obtain ⟨_, ⟨hm1, hm12⟩, dx, hx⟩ := hk
  refine ⟨_, pss_one (ps_ret (pe_and (pe_callB call_isi (by rfl) T.n_isinstance (by decide +kernel) (pa_cons (pv 1) (pa_cons (pe_bltn (v := .ty "int") (by rfl) T.n_int (by decide +kernel) rfl) pa_nil))) (pe_one (pe_chain op_le op_lt pe_int (pv 1) (pe_op op_shl pe_int (pe_fld (pv 0) rfl)))))), ?_⟩
  cases a with
  | non => cases ha; exact ⟨_, rfl, _, _, _, _, false, rfl, .ty "int", .base .non, kit_ty (by decide +kernel), false, rfl, ifF rfl q⟩
  | int i =>
    cases ha
    refine ⟨_, rfl, _, _, _, _, true, rfl, .ty "int", .base (.int i), kit_ty (by decide +kernel), true, rfl, ifT rfl ⟨_, rfl, _, _, rfl, rfl, _, rfl, ?_⟩⟩
    have q' : Q (.bl (if 0 ≤ i then decide (i < 2 ^ m) else false)) H := q
    by_cases h : 0 ≤ i
    · rw [if_pos h] at q'
      refine ifT (decide_eq_true h) ⟨_, rfl, x, A.Rests, dx, _, _, rfl, hx, T.c_Rests.cl, T.a_Rests_m, kfs_m m, _, _, rfl, rfl, ⟨by omega, by omega, by decide⟩, _, _, rfl, rfl, ?_⟩
      rw [Int.toNat_natCast, Int.one_mul]; exact q'
    · rw [if_neg h] at q'; exact ifF (decide_eq_false h) q'
  | par p r => obtain ⟨pa, rfl, hpa⟩ := ha; exact ⟨_, rfl, _, _, _, _, false, rfl, .ty "int", .base (.tup hpa), kit_ty (by decide +kernel), false, rfl, ifF rfl q⟩
theorem mc_Chances_is_worth (T : Tx K mg A) (C : Fc CX0 P w K mg base 2 "is_share" spIsShare) (D : Mth K A.Chances "is_worth" "Chances.is_worth" s_Chances_is_worth ["self", "some"] f fd) : Mc CX0 P w K mg base 3 A.Chances "is_worth" (spIs A .cha) := by
  refine mc0 (N := ["self", "some"]) T.c_Chances.cl D (fsc (by decide +kernel)) lenI (fun cdv _ outer s H vs Q E hr h => ?_)
  obtain ⟨x, k, v, a, rfl, hk, e, ha, q⟩ := h
  cases k <;> cases e
  refine ⟨_, pss_one (ps_ret (pe_f C hr (by decide) pass0 rfl (pa_cons (pv 1) pa_nil))), ?_⟩
  refine ⟨_, rfl, v, a, rfl, ha, ?_⟩
  cases a <;> exact q
theorem mc_Likeliest_is_worth (T : Tx K mg A) (C : Fc CX0 P w K mg base 2 "is_share" spIsShare) (D : Mth K A.Likeliest "is_worth" "Likeliest.is_worth" s_Likeliest_is_worth ["self", "some"] f fd) : Mc CX0 P w K mg base 3 A.Likeliest "is_worth" (spIs A .lik) := by
  refine mc0 (N := ["self", "some"]) T.c_Likeliest.cl D (fsc (by decide +kernel)) lenI (fun cdv _ outer s H vs Q E hr h => ?_)
  obtain ⟨x, k, v, a, rfl, hk, e, ha, q⟩ := h
  cases k <;> cases e
  refine ⟨_, pss_one (ps_ret (pe_and (pe_f C hr (by decide) pass0 rfl (pa_cons (pv 1) pa_nil)) (pe_one (pe_cmpR op_le (pe_ix ix_tup (pv 1) pe_int (fun _ _ => rfl)) (pe_ix ix_tup (pv 1) pe_int (fun _ _ => rfl)) (nomark _))))), ?_⟩
  refine ⟨_, rfl, v, a, rfl, ha, ?_⟩
  cases a with
  | non => exact ⟨_, rfl, ifF rfl q⟩
  | int i => exact ⟨_, rfl, ifF rfl q⟩
  | par p r =>
    obtain ⟨pa, rfl, hpa⟩ := ha
    have q' : Q (.bl (if shr p r = true then decide (p ≤ r) else false)) H := q
    refine ⟨_, rfl, ?_⟩
    by_cases h : shr p r = true
    · rw [if_pos h] at q'
      exact ifT h ⟨_, rfl, pa, _, _, _, rfl, rfl, SqT.of hpa, at0, _, rfl, pa, _, _, _, rfl, rfl, SqT.of hpa, at1, _, _, rfl, rfl, q'⟩
    · rw [if_neg h] at q'
      exact ifF (Bool.eq_false_iff.2 h) q'
end
section
variable {P : Program} {w : World} {K : PySem.W.Frag} {mg : Str → Option Value} {base : Heap} {A : Ad}
theorem th_common (T : Tx K mg A) : Fc CX0 P w K mg base 1 "common" spCommon := by
  obtain ⟨f, fd, D⟩ := T.d_common
  exact fc_common D
theorem th_is_share (T : Tx K mg A) : Fc CX0 P w K mg base 2 "is_share" spIsShare := by
  obtain ⟨f, fd, D⟩ := T.d_is_share
  exact fc_is_share T (th_common T) D
theorem all_is (T : Tx K mg A) : ∀ i, Av i = true → Mc CX0 P w K mg base 4 (A.C i) "is_worth" (spIs A i) := fun i hi => by
  cases i
  case few => obtain ⟨f, fd, D⟩ := T.m_Fewest_is_worth; exact (mc_Fewest_is_worth T D).mono (by decide)
  case wid => obtain ⟨f, fd, D⟩ := T.m_Widest_is_worth; exact (mc_Widest_is_worth T D).mono (by decide)
  case cnt => obtain ⟨f, fd, D⟩ := T.m_Counted_is_worth; exact (mc_Counted_is_worth T D).mono (by decide)
  case lik => obtain ⟨f, fd, D⟩ := T.m_Likeliest_is_worth; exact (mc_Likeliest_is_worth T (th_is_share T) D).mono (by decide)
  case cha => obtain ⟨f, fd, D⟩ := T.m_Chances_is_worth; exact (mc_Chances_is_worth T (th_is_share T) D).mono (by decide)
  case mus => obtain ⟨f, fd, D⟩ := T.m_Musts_is_worth; exact (mc_Musts_is_worth T D).mono (by decide)
  case rst => obtain ⟨f, fd, D⟩ := T.m_Rests_is_worth; exact (mc_Rests_is_worth T D).mono (by decide)
end
/-! ### L1: what the laws' own helpers answer -/
theorem size7 : (7 : Nat) ≤ sizeLine := by rw [sizeLine_eq]; decide
theorem passL0 {X : Cx} : ∀ σ : L2.St, PassesAt (L2.CX X.prog X.w) X σ E0 := fun σ pins H s e s' I h => passL pins σ H s e s' I h
/-- _law_cell_at(script, i) -/
def spCell (K : PySem.W.Frag) : Sp := fun vs H Q _ => ∃ (a : Addr) (ns : List Int) (i : Nat), vs = [.ref a, .int i] ∧ SqL K H a (ns.map V.int) ∧ ns.length ≤ 63 ∧ Q (.int (cell ns i)) H
/-- _law_whole(found) -/
def spWhole (K : PySem.W.Frag) : Sp := fun vs H Q _ => ∃ (v : V) (t : String) (b : Bool), vs = [v] ∧ TyX K H v (.type t) ∧ (t = "int" ∧ b = true ∨ t = "NoneType" ∧ b = false ∨ t = "tuple" ∧ b = false ∨ t = "bool" ∧ b = false ∨ t = "list" ∧ b = false) ∧ Q (.bl b) H
/-- _law_kind(which, m) -/
def spKindL (A : Ad) : Sp := fun vs H Q _ => ∃ (k : Kd) (m : Int), vs = [.int (wh k), .int m] ∧ KOk k ∧ Av k.x = true ∧ (∀ m' : Nat, k = .rst m' → m = m') ∧ ∀ H' x, Same H H' → KindAt A H' x k → Q (.ref x) H'
/-- _law_none(which), _law_rest(which) -/
def spLaw0 (g : Kd → Wo) : Sp := fun vs H Q _ => ∃ k : Kd, vs = [.int (wh k)] ∧ ∀ H' z, Same H H' → Wv H' z (g k) → Q z H'
def spTogL : Sp := fun vs H Q _ => ∃ (k : Kd) (u v : V) (a b : Wo), vs = [.int (wh k), u, v] ∧ Wv H u a ∧ Wv H v b ∧ Good k a ∧ Good k b ∧ Fits k a b ∧ ∀ H' z, Same H H' → Wv H' z (tog k a b) → Q z H'
def spBehL : Sp := fun vs H Q _ => ∃ (k : Kd) (m : Int) (u v : V) (a b : Wo), vs = [.int (wh k), .int m, u, v] ∧ KOk k ∧ (∀ m' : Nat, k = .rst m' → m = m') ∧ Wv H u a ∧ Wv H v b ∧ Good k a ∧ Good k b ∧ Fits k a b ∧ ∀ H' z, Same H H' → Wv H' z (beh k a b) → Q z H'
def spWorthL : Sp := fun vs H Q _ => ∃ (k : Kd) (m c : Int), vs = [.int (wh k), .int m, .int c] ∧ KOk k ∧ (∀ m' : Nat, k = .rst m' → m = m') ∧ ∀ H' z, Same H H' → Wv H' z (lawW k c) → Q z H'
def spIsL : Sp := fun vs H Q _ => ∃ (u v : V) (a b : Wo), vs = [u, v] ∧ Wv H u a ∧ Wv H v b ∧ Q (.bl (decide (a = b))) H
def spRndL : Sp := fun vs H Q _ => ∃ (k : Kd) (m : Int) (u : V) (a : Wo), vs = [.int (wh k), .int m, u] ∧ KOk k ∧ (∀ m' : Nat, k = .rst m' → m = m') ∧ Wv H u a ∧ Good k a ∧ Fit1 k a ∧ ∀ H' z, Same H H' → Wv H' z ((rnd k a).getD .non) → Q z H'
theorem kd_dec {i j : Int} : decide (V.int i = V.int j) = decide (i = j) := by rw [decide_eq_decide, V.int.injEq]
/-- the type of a worth's value -/
theorem wv_ty {K : PySem.W.Frag} {H : Hp} {v : V} {a : Wo} (h : Wv H v a) : ∃ t : String, TyX K H v (.type t) ∧ (a = .non ∧ t = "NoneType" ∨ (∃ i, a = .int i) ∧ t = "int" ∨ (∃ r, a = .rat r) ∧ t = "tuple") := by
  cases a with
  | non => cases h; exact ⟨_, .base .non, .inl ⟨rfl, rfl⟩⟩
  | int i => cases h; exact ⟨_, .base (.int i), .inr (.inl ⟨⟨i, rfl⟩, rfl⟩)⟩
  | rat r => obtain ⟨t, rfl, ht⟩ := h; exact ⟨_, .base (.tup ht), .inr (.inr ⟨⟨r, rfl⟩, rfl⟩)⟩
section
variable {P : Program} {w : World} {K : PySem.W.Frag} {mg : Str → Option Value} {base : Heap} {A : Ad} {f : Addr} {fd : FuncData}
theorem fc_cell (hl : mg "len" = none) (D : Dfn K mg "_law_cell_at" s__law_cell_at ["script", "k"] f fd) : Fc CX0 P w K mg base 1 "_law_cell_at" (spCell K) := by
  refine fc0 (N := ["script", "k"]) D (fsc (by decide +kernel)) (fun vs H Q E h => ?_) (fun cdv _ outer s H vs Q E hr h => ?_)
  · obtain ⟨a, ns, i, rfl, _⟩ := h; rfl
  · obtain ⟨a, ns, i, rfl, hS, hn, q⟩ := h
    refine ⟨_, pss_cons (ps_if (pt_cmpR op_lt (pv 1) (pe_callB call_len_seq (by rfl) hl PySem.boot_len (pa_cons (pv 0) pa_nil)) (nomark _)) (pss_one (ps_ret (pe_ix ix_list (pv 0) (pv 1) (fun _ _ => rfl)))) pss_nil) (pss_one (ps_ret pe_int)), ?_⟩
    refine ⟨_, rfl, _, rfl, a, _, rfl, .inl hS, _, _, rfl, rfl, _, rfl, ?_⟩
    by_cases h : i < ns.length
    · refine ifT (decide_eq_true (by rw [List.length_map]; omega)) ⟨_, rfl, _, rfl, a, _, _, _, rfl, rfl, hS, atI_nat (j := i) (v := .int (cell ns i)) ?_, q⟩
      rw [List.getElem?_map, List.getElem?_eq_getElem h]
      simp [cell, List.getD, List.getElem?_eq_getElem h]
    · refine ifF (decide_eq_false (by rw [List.length_map]; omega)) ?_
      have e : cell ns i = 0 := by simp [cell, List.getD, List.getElem?_eq_none (Nat.le_of_not_lt h)]
      rw [e] at q; exact q
theorem kindAt_new {H : Hp} {k : Kd} {x dx : Addr} (hk : KOk k) (ha : Av k.x = true) (h : k.x ≠ .rst) : KindAt A (upd (upd H dx (.own x)) x (.ins (A.C k.x) dx [])) x k :=
  ⟨ha, hk, dx, by cases k <;> first | exact upd_same | exact absurd rfl h⟩
theorem same_new {H : Hp} {x dx C : Addr} {fs : List (Str × V)} (hx : H x = none) (hd : H dx = none) : Same H (upd (upd H dx (.own x)) x (.ins C dx fs)) := fun b o e => by
  rw [upd_ne (ne_of_none e hx), upd_ne (ne_of_none e hd)]; exact e
theorem fc_kind (T : Tx K mg A) (D : Dfn K mg "_law_kind" s__law_kind ["which", "m"] f fd) : Fc CX0 P w K mg base 3 "_law_kind" (spKindL A) := by
  have R : Nc (L2.CX P w) P w K mg base 1 "Rests" A.Rests (spRests A) := by
    obtain ⟨f, fd, D⟩ := T.m_Rests___init__
    exact nc_Rests T.c_Rests T.a_Rests_m T.x_NoWorth D
  refine fc0 (N := ["which", "m"]) D (fsc (by decide +kernel)) (fun vs H Q E h => ?_) (fun cdv _ outer s H vs Q E hr h => ?_)
  · obtain ⟨k, m, rfl, _⟩ := h; rfl
  · obtain ⟨k, m, rfl, hk, ha, hm, q⟩ := h
    refine ⟨_, pss_cons (ps_if (pt_cmpR op_eq (pv 0) pe_int (nomark _)) (pss_one (ps_ret (pe_new0 T.c_Fewest T.b_Fewest rfl))) pss_nil)
      (pss_cons (ps_if (pt_cmpR op_eq (pv 0) pe_int (nomark _)) (pss_one (ps_ret (pe_new0 T.c_Widest T.b_Widest rfl))) pss_nil)
      (pss_cons (ps_if (pt_cmpR op_eq (pv 0) pe_int (nomark _)) (pss_one (ps_ret (pe_new0 T.c_Counted T.b_Counted rfl))) pss_nil)
      (pss_cons (ps_if (pt_cmpR op_eq (pv 0) pe_int (nomark _)) (pss_one (ps_ret (pe_new0 T.c_Likeliest T.b_Likeliest rfl))) pss_nil)
      (pss_cons (ps_if (pt_cmpR op_eq (pv 0) pe_int (nomark _)) (pss_one (ps_ret (pe_new0 T.c_Chances T.b_Chances rfl))) pss_nil)
      (pss_cons (ps_if (pt_cmpR op_eq (pv 0) pe_int (nomark _)) (pss_one (ps_ret (pe_new0 T.c_Musts T.b_Musts rfl))) pss_nil)
      (pss_one (ps_ret (pe_nc R hr (by decide) passL rfl (pa_cons (pv 1) pa_nil))))))))), ?_⟩
    refine ⟨_, rfl, rfl, _, rfl, ?_⟩
    have fin : ∀ {k' : Kd}, k = k' → k'.x ≠ .rst → ∀ a dx, H a = none → H dx = none → dx ≠ a → Q (.ref a) (upd (upd H dx (.own a)) a (.ins (A.C k'.x) dx [])) :=
      fun e hne a dx ea ed _ => q _ _ (same_new ea ed) (by rw [e] at hk ha ⊢; exact kindAt_new hk ha hne)
    cases k with
    | few => exact ifT rfl (fin rfl (by decide))
    | wid => exact ifF rfl ⟨_, rfl, rfl, _, rfl, ifT rfl (fin rfl (by decide))⟩
    | cnt => exact ifF rfl ⟨_, rfl, rfl, _, rfl, ifF rfl ⟨_, rfl, rfl, _, rfl, ifT rfl (fin rfl (by decide))⟩⟩
    | lik => exact ifF rfl ⟨_, rfl, rfl, _, rfl, ifF rfl ⟨_, rfl, rfl, _, rfl, ifF rfl ⟨_, rfl, rfl, _, rfl, ifT rfl (fin rfl (by decide))⟩⟩⟩
    | cha => exact ifF rfl ⟨_, rfl, rfl, _, rfl, ifF rfl ⟨_, rfl, rfl, _, rfl, ifF rfl ⟨_, rfl, rfl, _, rfl, ifF rfl ⟨_, rfl, rfl, _, rfl, ifT rfl (fin rfl (by decide))⟩⟩⟩⟩
    | mus => exact ifF rfl ⟨_, rfl, rfl, _, rfl, ifF rfl ⟨_, rfl, rfl, _, rfl, ifF rfl ⟨_, rfl, rfl, _, rfl, ifF rfl ⟨_, rfl, rfl, _, rfl, ifF rfl ⟨_, rfl, rfl, _, rfl, ifT rfl (fin rfl (by decide))⟩⟩⟩⟩⟩
    | rst m' =>
      have em := hm m' rfl
      subst em
      have hk' : 1 ≤ m' ∧ m' ≤ 12 := hk
      refine ifF rfl ⟨_, rfl, rfl, _, rfl, ifF rfl ⟨_, rfl, rfl, _, rfl, ifF rfl ⟨_, rfl, rfl, _, rfl, ifF rfl ⟨_, rfl, rfl, _, rfl, ifF rfl ⟨_, rfl, rfl, _, rfl, ifF rfl ⟨_, rfl, ?_⟩⟩⟩⟩⟩⟩
      intro a dx ea ed ne
      refine ⟨a, dx, (m' : Int), rfl, upd_same, fun _ => ⟨rfl, ?_⟩, fun z => absurd ⟨by omega, by omega⟩ z⟩
      refine q _ _ (fun b o e => ?_) ⟨ha, hk, dx, upd_same⟩
      rw [upd_ne (ne_of_none e ea), upd_ne (ne_of_none e ea), upd_ne (ne_of_none e ed)]; exact e
theorem fc_share (D : Dfn K mg "_law_share" s__law_share ["top", "below"] f fd) : Fc CX0 P w K mg base 1 "_law_share" spLowest := by
  have sc : FnScope ["top", "below", "one", "other", "kept"] ["top", "below"] (defScope s__law_share) := fsc (by decide +kernel)
  refine fc0 D sc (fun vs H Q E h => ?_) (fun cdv _ outer s H vs Q E hr h => ?_)
  · obtain ⟨a, b, rfl, _⟩ := h; rfl
  · obtain ⟨a, b, rfl, ha, hb, hl, k⟩ := h
    refine ⟨_, pss_cons (ps_set (i := 2) sc.nd rfl (.inl rfl) (pv 0)) (pss_cons (ps_set (i := 3) sc.nd rfl (.inl rfl) (pv 1))
      (pss_cons (ps_while PassesOwn.never (pt_cmpR op_ne (pv 3) pe_int (nomark _)) (pss_cons (ps_set (i := 4) sc.nd rfl (.inl rfl) (pe_op op_mod (pv 2) (pv 3)))
        (pss_cons (ps_set (i := 2) sc.nd rfl (.inl rfl) (pv 3)) (pss_one (ps_set (i := 3) sc.nd rfl (.inl rfl) (pv 4))))))
      (pss_one (ps_ret (pe_tup (pa_cons (pe_op op_fdivW (pv 0) (pv 2)) (pa_cons (pe_op op_fdivW (pv 1) (pv 2)) pa_nil))))))), ?_⟩
    have hg := gcd_pos' a b hb
    have hle := gcd_le' a b hb
    have hw : ∀ i, L2.CDivW i (Int.gcd a b : Int) := fun i => ⟨hg, Nat.lt_of_le_of_lt (log2_mono (by omega)) hl⟩
    refine ⟨_, rfl, _, rfl, ?_⟩
    refine while_by (fun σ H' => ∃ (x y : Int) (v : Option V), σ = [some (.int a), some (.int b), some (.int x), some (.int y), v] ∧ H' = H ∧ 0 ≤ x ∧ 0 ≤ y ∧ Int.gcd x y = Int.gcd a b)
      (fun σ _ => match σ with | [_, _, _, some (.int y), _] => y.toNat | _ => 0) ⟨a, b, none, rfl, rfl, ha, by omega, rfl⟩ ?_ ?_
    · rintro σ H' ⟨x, y, v, rfl, rfl, hx, hy, hgx⟩
      refine ⟨_, rfl, rfl, _, rfl, ?_⟩
      by_cases h0 : y = 0
      · subst h0
        have e : x = (Int.gcd a b : Int) := by
          rw [Int.gcd_zero_right, ← Int.natCast_inj] at hgx
          rw [← hgx]; omega
        subst e
        refine ifF rfl ?_
        refine ⟨_, rfl, _, rfl, _, _, rfl, rfl, hw _, _, rfl, _, rfl, _, _, rfl, rfl, hw _, size2, fun p hp => ?_⟩
        have := k p hp
        rw [low_num a b hb, low_den a b hb] at this
        exact this
      · refine ifT (by simp [h0]) ⟨_, rfl, _, rfl, _, _, rfl, rfl, (by omega : 0 < y), ?_⟩
        refine ⟨_, rfl, _, rfl, ⟨y, x % y, _, rfl, rfl, hy, Int.emod_nonneg _ h0, by rw [gcd_step]; exact hgx⟩, ?_⟩
        have := Int.emod_lt_of_pos x (show 0 < y by omega)
        have := Int.emod_nonneg x h0
        show (x % y).toNat < y.toNat
        omega
    · rintro σ H' R R' hm ⟨v, e, h1, b, e2, h2⟩
      exact ⟨v, e, h1, b, e2, hm _ _ h2⟩
theorem fc_none (D : Dfn K mg "_law_none" s__law_none ["which"] f fd) : Fc CX0 P w K mg base 1 "_law_none" (spLaw0 noneW) := by
  refine fc0 (N := ["which"]) D (fsc (by decide +kernel)) (fun vs H Q E h => ?_) (fun cdv _ outer s H vs Q E hr h => ?_)
  · obtain ⟨k, rfl, _⟩ := h; rfl
  · obtain ⟨k, rfl, q⟩ := h
    refine ⟨_, pss_one (ps_ret (pe_ix ix_list (pe_lst (pa_cons pe_non (pa_cons pe_int (pa_cons pe_int (pa_cons (pe_tup (pa_cons pe_int (pa_cons pe_int pa_nil))) (pa_cons (pe_tup (pa_cons pe_int (pa_cons pe_int pa_nil))) (pa_cons pe_non (pa_cons pe_int pa_nil)))))))) (pv 0) (fun _ _ => rfl))), ?_⟩
    refine ⟨size2, fun p hp => ⟨size2, fun p2 hp2 => ⟨size7, fun l hl => ?_⟩⟩⟩
    have s1 := same_upd (o := HO.tup [.int 0, .int 1]) hp
    have s2 := same_upd (o := HO.tup [.int 0, .int 1]) hp2
    have s3 := same_upd (o := HO.lst [.non, .int 0, .int 0, .ref p, .ref p2, .non, .int 0]) hl
    have a1 := s3 _ _ (s2 _ _ (upd_same (H := H) (a := p) (o := HO.tup [.int 0, .int 1])))
    have a2 := s3 _ _ (upd_same (H := upd H p (.tup [.int 0, .int 1])) (a := p2) (o := HO.tup [.int 0, .int 1]))
    have fin := fun z hz => q _ z ((s1.trans s2).trans s3) hz
    cases k with
    | few => exact ⟨_, rfl, l, _, _, .non, rfl, rfl, SqL.of upd_same, atI_nat (j := 0) rfl, fin _ rfl⟩
    | wid => exact ⟨_, rfl, l, _, _, .int 0, rfl, rfl, SqL.of upd_same, atI_nat (j := 1) rfl, fin _ rfl⟩
    | cnt => exact ⟨_, rfl, l, _, _, .int 0, rfl, rfl, SqL.of upd_same, atI_nat (j := 2) rfl, fin _ rfl⟩
    | lik => exact ⟨_, rfl, l, _, _, .ref p, rfl, rfl, SqL.of upd_same, atI_nat (j := 3) rfl, fin _ ⟨p, rfl, a1⟩⟩
    | cha => exact ⟨_, rfl, l, _, _, .ref p2, rfl, rfl, SqL.of upd_same, atI_nat (j := 4) rfl, fin _ ⟨p2, rfl, a2⟩⟩
    | mus => exact ⟨_, rfl, l, _, _, .non, rfl, rfl, SqL.of upd_same, atI_nat (j := 5) rfl, fin _ rfl⟩
    | rst m => exact ⟨_, rfl, l, _, _, .int 0, rfl, rfl, SqL.of upd_same, atI_nat (j := 6) rfl, fin _ rfl⟩
theorem fc_rest (D : Dfn K mg "_law_rest" s__law_rest ["which"] f fd) : Fc CX0 P w K mg base 1 "_law_rest" (spLaw0 restW) := by
  refine fc0 (N := ["which"]) D (fsc (by decide +kernel)) (fun vs H Q E h => ?_) (fun cdv _ outer s H vs Q E hr h => ?_)
  · obtain ⟨k, rfl, _⟩ := h; rfl
  · obtain ⟨k, rfl, q⟩ := h
    refine ⟨_, pss_one (ps_ret (pe_ix ix_list (pe_lst (pa_cons pe_int (pa_cons (pe_op op_pow pe_int pe_int) (pa_cons pe_int (pa_cons (pe_tup (pa_cons pe_int (pa_cons pe_int pa_nil))) (pa_cons (pe_tup (pa_cons pe_int (pa_cons pe_int pa_nil))) (pa_cons pe_int (pa_cons pe_int pa_nil)))))))) (pv 0) (fun _ _ => rfl))), ?_⟩
    refine ⟨_, _, rfl, rfl, ⟨by decide, by decide, by decide⟩, size2, fun p hp => ⟨size2, fun p2 hp2 => ⟨size7, fun l hl => ?_⟩⟩⟩
    have s1 := same_upd (o := HO.tup [.int 1, .int 1]) hp
    have s2 := same_upd (o := HO.tup [.int 1, .int 1]) hp2
    have s3 := same_upd (o := HO.lst [.int 0, .int 1000000000, .int 1, .ref p, .ref p2, .int 0, .int 1]) hl
    have a1 := s3 _ _ (s2 _ _ (upd_same (H := H) (a := p) (o := HO.tup [.int 1, .int 1])))
    have a2 := s3 _ _ (upd_same (H := upd H p (.tup [.int 1, .int 1])) (a := p2) (o := HO.tup [.int 1, .int 1]))
    have fin := fun z hz => q _ z ((s1.trans s2).trans s3) hz
    cases k with
    | few => exact ⟨_, rfl, l, _, _, .int 0, rfl, rfl, SqL.of upd_same, atI_nat (j := 0) rfl, fin _ rfl⟩
    | wid => exact ⟨_, rfl, l, _, _, .int 1000000000, rfl, rfl, SqL.of upd_same, atI_nat (j := 1) rfl, fin _ rfl⟩
    | cnt => exact ⟨_, rfl, l, _, _, .int 1, rfl, rfl, SqL.of upd_same, atI_nat (j := 2) rfl, fin _ rfl⟩
    | lik => exact ⟨_, rfl, l, _, _, .ref p, rfl, rfl, SqL.of upd_same, atI_nat (j := 3) rfl, fin _ ⟨p, rfl, a1⟩⟩
    | cha => exact ⟨_, rfl, l, _, _, .ref p2, rfl, rfl, SqL.of upd_same, atI_nat (j := 4) rfl, fin _ ⟨p2, rfl, a2⟩⟩
    | mus => exact ⟨_, rfl, l, _, _, .int 0, rfl, rfl, SqL.of upd_same, atI_nat (j := 5) rfl, fin _ rfl⟩
    | rst m => exact ⟨_, rfl, l, _, _, .int 1, rfl, rfl, SqL.of upd_same, atI_nat (j := 6) rfl, fin _ rfl⟩
end
/-! ### L2: the laws' own together, behind, worth, is, rounds -/
section
variable {X : Cx}
/-- a name == a written number -/
theorem ptE (i : Nat) {x : Str} {p q pos : Pos} {n : Int} {j : Nat} (hN : X.N[i]? = some x := by rfl) (hv : Vis X.env.scope x := by first | exact Or.inl rfl | exact Or.inr (Or.inl rfl)) (hd : (x == ("__debug__" : Str)) = false := by decide)
    (hc : (x == ("__classdict__" : Str)) = false := by decide) : PT X (.Compare (.Name x p) [.Eq] [.Constant (.int n) j q] pos) (tTest (tOp rEq (tVar i) (tC (.int n)))) := pt_cmpR op_eq (pe_var hN hv hd hc) pe_int (nomark _)
/-- a name is None -/
theorem ptN (i : Nat) {x : Str} {p q pos : Pos} {j : Nat} (hN : X.N[i]? = some x := by rfl) (hv : Vis X.env.scope x := by first | exact Or.inl rfl | exact Or.inr (Or.inl rfl)) (hd : (x == ("__debug__" : Str)) = false := by decide)
    (hc : (x == ("__classdict__" : Str)) = false := by decide) : PT X (.Compare (.Name x p) [.Is] [.Constant .none j q] pos) (tTest (tOp (fun x y H Q => y = .non ∧ Q (.bl (decide (x = .non))) H) (tVar i) (tC .non))) := pt_cmpR op_isN (pe_var hN hv hd hc) pe_non (nomark _)
end
theorem skE {σ : L2.St} {H : Hp} {D : Ends} {t rest : TS} {i : Nat} {m n : Int} (hi : σ[i]? = some (some (.int m))) (hne : decide (V.int m = V.int n) = false) (q : rest D σ H) : tSeq (tIfS (tTest (tOp rEq (tVar i) (tC (.int n)))) t tNext) rest D σ H :=
  ⟨_, hi, rfl, _, rfl, ifF hne q⟩
theorem hitE {σ : L2.St} {H : Hp} {D : Ends} {t rest : TS} {i : Nat} {m n : Int} (hi : σ[i]? = some (some (.int m))) (he : decide (V.int m = V.int n) = true) (q : t { D with nx := rest D } σ H) : tSeq (tIfS (tTest (tOp rEq (tVar i) (tC (.int n)))) t tNext) rest D σ H :=
  ⟨_, hi, rfl, _, rfl, ifT he q⟩
/-- turned about -/
theorem rot_bits {m b i : Nat} (hb : b < 2 ^ m) (hi : i < m) (r : Nat) : ((b * 2 ^ i % 2 ^ m) ||| (b * 2 ^ i / 2 ^ m)).testBit r = true ↔ r < m ∧ ∃ j, j < m ∧ b.testBit j = true ∧ (i + j) % m = r := by
  rw [Nat.testBit_or, Nat.testBit_mod_two_pow, Nat.testBit_div_two_pow, Nat.mul_comm b, Nat.testBit_two_pow_mul, Nat.testBit_two_pow_mul]
  simp only [Bool.or_eq_true, Bool.and_eq_true, decide_eq_true_eq]
  constructor
  · rintro (⟨h1, h2, h3⟩ | ⟨h2, h3⟩)
    · refine ⟨h1, r - i, by omega, h3, ?_⟩
      rw [show i + (r - i) = r by omega, Nat.mod_eq_of_lt h1]
    · have hj : r + m - i < m := by
        refine Classical.byContradiction fun z => ?_
        rw [testBit_above hb (by omega)] at h3
        cases h3
      refine ⟨by omega, r + m - i, hj, h3, ?_⟩
      rw [show i + (r + m - i) = r + m by omega, Nat.add_mod_right, Nat.mod_eq_of_lt (by omega)]
  · rintro ⟨h1, j, hj, h2, h3⟩
    by_cases h : i + j < m
    · rw [Nat.mod_eq_of_lt h] at h3
      exact .inl ⟨h1, by omega, by rw [show r - i = j by omega]; exact h2⟩
    · have e : (i + j) % m = i + j - m := by
        rw [Nat.mod_eq_sub_mod (by omega), Nat.mod_eq_of_lt (by omega)]
      exact .inr ⟨by omega, by rw [show r + m - i = j by omega]; exact h2⟩
section
variable {P : Program} {w : World} {K : PySem.W.Frag} {mg : Str → Option Value} {base : Heap} {A : Ad} {f : Addr} {fd : FuncData}
theorem fc_worthL (L : Fc CX0 P w K mg base 1 "_law_share" spLowest) (N0 : Fc CX0 P w K mg base 1 "_law_none" (spLaw0 noneW)) (R0 : Fc CX0 P w K mg base 1 "_law_rest" (spLaw0 restW)) (D : Dfn K mg "_law_worth" s__law_worth ["which", "m", "cell"] f fd) : Fc CX0 P w K mg base 2 "_law_worth" spWorthL := by
  have sc : FnScope ["which", "m", "cell", "left", "below"] ["which", "m", "cell"] (defScope s__law_worth) := fsc (by decide +kernel)
  refine fc0 D sc (fun vs H Q E h => ?_) (fun cdv _ outer s H vs Q E hr h => ?_)
  · obtain ⟨k, m, c, rfl, _⟩ := h; rfl
  · obtain ⟨k, mi, c, rfl, hk, hm, q⟩ := h
    refine ⟨_, pss_cons (ps_set (i := 3) sc.nd rfl (.inl rfl) (pe_op op_fdiv (pv 2) pe_int))
      (pss_cons (ps_if (pt_cmpR op_eq (pe_op op_mod (pv 2) pe_int) pe_int (nomark _)) (pss_one (ps_ret (pe_f N0 hr (by decide) pass0 rfl (pa_cons (pv 0) pa_nil)))) pss_nil)
      (pss_cons (ps_if (pt_cmpR op_eq (pe_op op_mod (pv 2) pe_int) pe_int (nomark _)) (pss_one (ps_ret (pe_f R0 hr (by decide) pass0 rfl (pa_cons (pv 0) pa_nil)))) pss_nil)
      (pss_cons (ps_if (ptE 0) (pss_one (ps_ret (pe_ifExp (pt_cmpR op_lt (pe_op op_mod (pv 2) pe_int) pe_int (nomark _)) (pe_op op_mod (pv 3) pe_int) (pe_op op_mod (pv 3) (pe_op op_pow pe_int pe_int))))) pss_nil)
      (pss_cons (ps_if (ptE 0) (pss_one (ps_ret (pe_ifExp (pt_cmpR op_lt (pe_op op_mod (pv 2) pe_int) pe_int (nomark _)) (pe_op op_mod (pv 3) pe_int) (pe_op op_mod (pv 3) (pe_op op_add (pe_op op_pow pe_int pe_int) pe_int))))) pss_nil)
      (pss_cons (ps_if (ptE 0) (pss_one (ps_ret (pe_ifExp (pt_cmpR op_lt (pe_op op_mod (pv 2) pe_int) pe_int (nomark _)) (pe_op op_sub (pe_op op_mod (pv 3) pe_int) pe_int) (pe_op op_mod (pv 3) (pe_op op_pow pe_int pe_int))))) pss_nil)
      (pss_cons (ps_if (ptE 0) (pss_cons (ps_set (i := 4) sc.nd rfl (.inl rfl) (pe_op op_add pe_int (pe_op op_mod (pe_op op_fdiv (pv 3) pe_int) pe_int)))
          (pss_one (ps_ret (pe_f L hr (by decide) pass0 rfl (pa_cons (pe_op op_mod (pv 3) (pe_op op_add (pv 4) pe_int)) (pa_cons (pv 4) pa_nil)))))) pss_nil)
      (pss_cons (ps_if (ptE 0) (pss_one (ps_ret (pe_f L hr (by decide) pass0 rfl (pa_cons (pe_op op_mod (pv 3) pe_int) (pa_cons (pe_op op_add pe_int (pe_op op_mod (pe_op op_fdiv (pv 3) pe_int) pe_int)) pa_nil))))) pss_nil)
      (pss_cons (ps_if (ptE 0) (pss_one (ps_ret (pe_ifExp (pt_cmpR op_lt (pe_op op_mod (pv 2) pe_int) pe_int (nomark _)) (pe_op op_mod (pv 3) pe_int) (pe_op op_mod (pv 3) (pe_op op_pow pe_int pe_int))))) pss_nil)
      (pss_one (ps_ret (pe_op op_mod (pv 3) (pe_op op_shl pe_int (pv 1))))))))))))), ?_⟩
    refine ⟨_, rfl, _, _, rfl, rfl, ⟨by decide, by decide⟩, ?_⟩
    refine ⟨_, rfl, _, _, rfl, rfl, (by show (0 : Int) < 6; decide), rfl, _, rfl, ?_⟩
    by_cases h1 : c % 6 = 1
    · refine ifT (decide_eq_true (congrArg V.int h1)) ⟨_, rfl, k, rfl, fun H' z s hz => q _ _ s ?_⟩
      simp only [lawW, if_pos h1]; exact hz
    refine ifF (decide_eq_false fun z => h1 (V.int.inj z)) ⟨_, rfl, _, _, rfl, rfl, (by show (0 : Int) < 6; decide), rfl, _, rfl, ?_⟩
    by_cases h2 : c % 6 = 2
    · refine ifT (decide_eq_true (congrArg V.int h2)) ⟨_, rfl, k, rfl, fun H' z s hz => q _ _ s ?_⟩
      simp only [lawW, if_neg h1, if_pos h2]; exact hz
    refine ifF (decide_eq_false fun z => h2 (V.int.inj z)) ?_
    have e0 : lawW k c = lawW2 k c := by unfold lawW; rw [if_neg h1, if_neg h2]
    rw [e0] at q
    have iq : ∀ i : Int, lawW2 k c = .int i → Q (.int i) H := fun i e => q _ _ (Same.refl _) (by rw [e]; rfl)
    have m5 : (0 : Int) < 6 := by decide
    cases k with
    | few =>
      refine hitE rfl rfl ⟨_, rfl, _, _, rfl, rfl, m5, _, _, rfl, rfl, _, rfl, ?_⟩
      by_cases h : c % 6 < 5
      · exact ifT (decide_eq_true h) ⟨_, rfl, _, _, rfl, rfl, (by show (0 : Int) < 20; decide), iq _ (by simp only [lawW2, if_pos h])⟩
      · exact ifF (decide_eq_false h) ⟨_, rfl, _, _, rfl, rfl, ⟨by decide, by decide, by decide⟩, _, _, rfl, rfl, (by show (0 : Int) < 10 ^ 30; decide), iq _ (by simp only [lawW2, if_neg h]; rfl)⟩
    | wid =>
      refine skE rfl rfl (hitE rfl rfl ⟨_, rfl, _, _, rfl, rfl, m5, _, _, rfl, rfl, _, rfl, ?_⟩)
      by_cases h : c % 6 < 5
      · exact ifT (decide_eq_true h) ⟨_, rfl, _, _, rfl, rfl, (by show (0 : Int) < 20; decide), iq _ (by simp only [lawW2, if_pos h])⟩
      · exact ifF (decide_eq_false h) ⟨_, rfl, _, _, rfl, rfl, ⟨by decide, by decide, by decide⟩, _, _, rfl, rfl, _, _, rfl, rfl, (by show (0 : Int) < 10 ^ 9 + 1; decide), iq _ (by simp only [lawW2, if_neg h]; rfl)⟩
    | cnt =>
      refine skE rfl rfl (skE rfl rfl (hitE rfl rfl ⟨_, rfl, _, _, rfl, rfl, m5, _, _, rfl, rfl, _, rfl, ?_⟩))
      by_cases h : c % 6 < 5
      · exact ifT (decide_eq_true h) ⟨_, rfl, _, _, rfl, rfl, (by show (0 : Int) < 5; decide), _, _, rfl, rfl, iq _ (by simp only [lawW2, if_pos h])⟩
      · exact ifF (decide_eq_false h) ⟨_, rfl, _, _, rfl, rfl, ⟨by decide, by decide, by decide⟩, _, _, rfl, rfl, (by show (0 : Int) < 10 ^ 30; decide), iq _ (by simp only [lawW2, if_neg h]; rfl)⟩
    | lik =>
      have hb0 : 0 ≤ c / 6 / 7 % 12 := Int.emod_nonneg _ (by decide)
      have hb1 : c / 6 / 7 % 12 < 12 := Int.emod_lt_of_pos _ (by decide)
      refine skE rfl rfl (skE rfl rfl (skE rfl rfl (hitE rfl rfl ⟨_, rfl, _, _, rfl, rfl, ⟨by decide, by decide⟩, _, _, rfl, rfl, (by show (0 : Int) < 12; decide), _, _, rfl, rfl, ?_⟩)))
      refine ⟨_, rfl, _, rfl, _, _, rfl, rfl, _, _, rfl, rfl, (by omega : (0 : Int) < 1 + c / 6 / 7 % 12 + 1), _, rfl, _, _, rfl, Int.emod_nonneg _ (by omega), by omega, ?_, fun p hp => q _ _ (same_upd hp) (wv_tup rfl rfl)⟩
      exact Nat.lt_of_le_of_lt (log2_mono (show (1 + c / 6 / 7 % 12).natAbs ≤ 12 by omega)) (by decide)
    | cha =>
      have hb0 : 0 ≤ c / 6 / 9 % 12 := Int.emod_nonneg _ (by decide)
      have hb1 : c / 6 / 9 % 12 < 12 := Int.emod_lt_of_pos _ (by decide)
      refine skE rfl rfl (skE rfl rfl (skE rfl rfl (skE rfl rfl (hitE rfl rfl ⟨_, rfl, _, _, rfl, rfl, (by show (0 : Int) < 9; decide), _, rfl, _, _, rfl, rfl, ⟨by decide, by decide⟩, _, _, rfl, rfl, (by show (0 : Int) < 12; decide), _, _, rfl, rfl, ?_⟩))))
      refine ⟨_, _, rfl, Int.emod_nonneg _ (by decide), by omega, ?_, fun p hp => q _ _ (same_upd hp) (wv_tup rfl rfl)⟩
      exact Nat.lt_of_le_of_lt (log2_mono (show (1 + c / 6 / 9 % 12).natAbs ≤ 12 by omega)) (by decide)
    | mus =>
      refine skE rfl rfl (skE rfl rfl (skE rfl rfl (skE rfl rfl (skE rfl rfl (hitE rfl rfl ⟨_, rfl, _, _, rfl, rfl, m5, _, _, rfl, rfl, _, rfl, ?_⟩)))))
      by_cases h : c % 6 < 5
      · exact ifT (decide_eq_true h) ⟨_, rfl, _, _, rfl, rfl, (by show (0 : Int) < 16; decide), iq _ (by simp only [lawW2, if_pos h])⟩
      · exact ifF (decide_eq_false h) ⟨_, rfl, _, _, rfl, rfl, ⟨by decide, by decide, by decide⟩, _, _, rfl, rfl, (by show (0 : Int) < 10 ^ 30; decide), iq _ (by simp only [lawW2, if_neg h]; rfl)⟩
    | rst m =>
      have em := hm m rfl
      subst em
      have hk' : 1 ≤ m ∧ m ≤ 12 := hk
      refine skE rfl rfl (skE rfl rfl (skE rfl rfl (skE rfl rfl (skE rfl rfl (skE rfl rfl ⟨_, rfl, _, rfl, _, _, rfl, rfl, ⟨by omega, by omega, by decide⟩, _, _, rfl, rfl, ?_, iq _ ?_⟩)))))
      · rw [Int.toNat_natCast, Int.one_mul]; exact Int.pow_pos (by decide)
      · rw [Int.toNat_natCast, Int.one_mul]; rfl
end
/-! ### L3: isinstance of a caught exception; the families for the laws' helpers -/
section
variable {X : Cx} {a : Addr} {oe : Obj} {pn : List (Addr × Obj)} {cls : Value} {d : Option Addr}
theorem call_isX (hz : Zc cls d oe) (hf : ∃ vs, oe.data = .fields vs) : CallR (X.suite a ((a, oe) :: pn)) (.builtin "isinstance") (fun xs H Q => ∃ D, cls = .ref D ∧ d = none ∧ ExcC X.K D ∧ rIsE X.K D a xs H Q) := by
  intro pins s σ H xs us Q I r h
  obtain ⟨D, rfl, rfl, hc, q⟩ := h
  exact call_isE hc hz hf pins s σ H xs us Q I r q
end
theorem cv_ref {C : Addr} : ∀ u, RelV (.ref C) u → u = .ref C := fun _ h => h
theorem cv_ty {n : String} : ∀ u, RelV (.ty n) u → u = .type n := fun _ h => h
/-! ### the law -/
theorem size10 : (10 : Nat) ≤ sizeLine := by rw [sizeLine_eq]; decide
theorem size3 : (3 : Nat) ≤ sizeLine := by rw [sizeLine_eq]; decide
theorem size4 : (4 : Nat) ≤ sizeLine := by rw [sizeLine_eq]; decide
def smallV : Vx → Prop
  | .par p q => p.natAbs ≤ 100 ∧ q.natAbs ≤ 100
  | _ => True
def spSomeL : Sp := fun vs H Q _ => ∃ (m : Nat) (c : Int), vs = [.int m, .int c] ∧ m ≤ 12 ∧ ∀ H' z a, Same H H' → Vv H' z a → smallV a → Q z H'
def spDueL : Sp := fun vs H Q _ => ∃ (k : Kd) (m : Int) (v : V) (a : Vx), vs = [.int (wh k), .int m, v] ∧ KOk k ∧ (∀ m' : Nat, k = .rst m' → m = m') ∧ Vv H v a ∧ smallV a ∧ ∀ H', Same H H' → Q (.bl (isW k a)) H'
def spRef : Sp := fun vs H Q _ => ∃ m : Int, vs = [.int m] ∧ ¬ (1 ≤ m ∧ m ≤ 12) ∧ ∀ H', Same H H' → Q (.bl true) H'
def spLaw (K : PySem.W.Frag) : Sp := fun vs H Q _ => ∃ (a : Addr) (ns : List Int), vs = [.ref a] ∧ SqL K H a (ns.map V.int) ∧ ns.length ≤ 63 ∧ ∀ H', Q (.bl true) H'
theorem dp_par {K : PySem.W.Frag} {H : Hp} {v : V} {p q : Int} (h : Pr H v p q) : Dp K H v (.tuple [.int p, .int q]) := by
  obtain ⟨t, rfl, ht⟩ := h
  exact .tup (SqT.of ht) (.cons (.int _) (.cons (.int _) .nil))
theorem eqv_par (p q r t : Int) : PyData.eqv (.tuple [.int p, .int q]) (.tuple [.int r, .int t]) = decide (p = r ∧ q = t) := by
  simp only [PyData.eqv, PyData.eqvAll, Bool.and_true]
  rw [Bool.eq_iff_iff, Bool.and_eq_true, beq_iff_eq, beq_iff_eq, decide_eq_true_eq]
theorem shaped_par (p q : Int) : SeqAt.shaped (.tuple [.int p, .int q]) = true := by
  simp [SeqAt.shaped, PyData.canLay0, PyData.canLayAll0, PyData.depth, PyData.depthAll]
theorem low_same {p q : Int} (hq : 0 < q) : ((Rat.divInt p q).num = p ∧ ((Rat.divInt p q).den : Int) = q) ↔ Int.gcd p q = 1 := by
  rw [low_num p q hq, low_den p q hq]
  constructor
  · rintro ⟨_, h2⟩
    have h3 : (Int.gcd p q : Int) * (q / (Int.gcd p q : Int)) = q := Int.mul_ediv_cancel' (Int.gcd_dvd_right p q)
    rw [h2] at h3
    have h4 : ((Int.gcd p q : Int) - 1) * q = 0 := by grind
    rcases Int.mul_eq_zero.1 h4 with h | h <;> omega
  · intro h
    rw [h]; simp
theorem atI_in {l : List V} {j : Int} (h0 : 0 ≤ j) (h1 : j < (l.length : Nat)) : ∃ v, v ∈ l ∧ atI l j = some v := by
  obtain ⟨n, rfl⟩ := nn j h0
  have hn : n < l.length := by omega
  exact ⟨l[n], List.getElem_mem hn, atI_nat (List.getElem?_eq_getElem hn)⟩
theorem skE2 {σ : L2.St} {H : Hp} {D : Ends} {t rest : TS} {i : Nat} {m n n2 : Int} (hi : σ[i]? = some (some (.int m))) (h1 : decide (V.int m = V.int n) = false) (h2 : decide (V.int m = V.int n2) = false) (q : rest D σ H) :
    tSeq (tIfS (tOr (tTest (tOp rEq (tVar i) (tC (.int n)))) (tTest (tOp rEq (tVar i) (tC (.int n2))))) t tNext) rest D σ H :=
  ⟨_, hi, rfl, _, rfl, ifF h1 ⟨_, hi, rfl, _, rfl, ifF h2 q⟩⟩
section
variable {P : Program} {w : World} {K : PySem.W.Frag} {mg : Str → Option Value} {base : Heap} {A : Ad} {f : Addr} {fd : FuncData}
theorem fc_some (D : Dfn K mg "_law_some" s__law_some ["m", "cell"] f fd) : Fc CX0 P w K mg base 1 "_law_some" spSomeL := by
  have sc : FnScope ["m", "cell", "left", "some"] ["m", "cell"] (defScope s__law_some) := fsc (by decide +kernel)
  refine fc0 D sc (fun vs H Q E h => ?_) (fun cdv _ outer s H vs Q E hr h => ?_)
  · obtain ⟨m, c, rfl, _⟩ := h; rfl
  · obtain ⟨m, c, rfl, hm, q⟩ := h
    refine ⟨_, (pss_cons (ps_set (i := 2) sc.nd rfl (.inl rfl) (pe_op op_fdiv (pv 1) pe_int)) (pss_cons (ps_if (pt_cmpR op_eq (pe_op op_mod (pv 1) pe_int) pe_int (nomark _)) (pss_cons (ps_set (i := 3) sc.nd rfl (.inl rfl) (pe_lst (pa_cons pe_int (pa_cons (pe_un un_neg pe_int) (pa_cons (pe_un un_neg pe_int) (pa_cons pe_int (pa_cons (pe_op op_pow pe_int pe_int) (pa_cons (pe_op op_add (pe_op op_pow pe_int pe_int) pe_int) (pa_cons (pe_op op_sub (pe_op op_shl pe_int (pv 0)) pe_int) (pa_cons (pe_op op_shl pe_int (pv 0)) (pa_cons (pe_op op_pow pe_int pe_int) (pa_cons (pe_un un_neg (pe_op op_pow pe_int pe_int)) pa_nil)))))))))))) (pss_one (ps_ret (pe_ix ix_list (pv 3) (pe_op op_mod (pv 2) pe_int) (fun _ _ => rfl))))) pss_nil) (pss_cons (ps_if (pt_cmpR op_eq (pe_op op_mod (pv 1) pe_int) pe_int (nomark _)) (pss_one (ps_ret (pe_op op_sub (pe_op op_mod (pv 2) pe_int) pe_int))) pss_nil) (pss_cons (ps_if (pt_cmpR op_eq (pe_op op_mod (pv 1) pe_int) pe_int (nomark _)) (pss_one (ps_ret (pe_tup (pa_cons (pe_op op_sub (pe_op op_mod (pv 2) pe_int) pe_int) (pa_cons (pe_op op_sub (pe_op op_mod (pe_op op_fdiv (pv 2) pe_int) pe_int) pe_int) pa_nil))))) pss_nil) (pss_one (ps_ret pe_non)))))), ?_⟩
    have d4 : (0 : Int) < 4 := by decide
    refine ⟨_, rfl, _, _, rfl, rfl, ⟨by decide, by decide⟩, _, rfl, _, _, rfl, rfl, d4, rfl, _, rfl, ?_⟩
    by_cases h0 : c % 4 = 0
    · refine ifT (decide_eq_true (congrArg V.int h0)) ?_
      have pw : L2.CPow 10 9 := ⟨by decide, by decide, by decide⟩
      have pw2 : L2.CPow 10 40 := ⟨by decide, by decide, by decide⟩
      have sh : L2.CPow 1 (m : Int) := ⟨by omega, by omega, by decide⟩
      refine ⟨_, rfl, _, rfl, _, _, rfl, rfl, pw, _, _, rfl, rfl, pw, _, _, rfl, rfl, _, rfl, _, _, rfl, rfl, sh, _, _, rfl, rfl, _, rfl, _, _, rfl, rfl, sh, _, _, rfl, rfl, pw2, _, _, rfl, rfl, pw2, _, rfl, size10, fun l hl => ?_⟩
      refine ⟨_, rfl, _, rfl, _, _, rfl, rfl, (by show (0 : Int) < 10; decide), ?_⟩
      have i0 : 0 ≤ c / 4 % 10 := Int.emod_nonneg _ (by decide)
      have i9 : c / 4 % 10 < 10 := Int.emod_lt_of_pos _ (by decide)
      obtain ⟨y, hy, e⟩ := atI_in (l := [.int 0, .int (-1), .int (-2), .int 1, .int (10 ^ (9 : Int).toNat), .int (10 ^ (9 : Int).toNat + 1), .int (1 * 2 ^ (m : Int).toNat - 1), .int (1 * 2 ^ (m : Int).toNat), .int (10 ^ (40 : Int).toNat), .int (-(10 ^ (40 : Int).toNat))]) i0 i9
      obtain ⟨i, rfl⟩ : ∃ i, y = .int i := by
        simp only [List.mem_cons, List.not_mem_nil, or_false] at hy
        rcases hy with h | h | h | h | h | h | h | h | h | h <;> exact ⟨_, h⟩
      exact ⟨l, _, _, _, rfl, rfl, SqL.of upd_same, e, q _ _ (.int i) (same_upd hl) rfl trivial⟩
    · refine ifF (decide_eq_false fun z => h0 (V.int.inj z)) ⟨_, rfl, _, _, rfl, rfl, d4, rfl, _, rfl, ?_⟩
      by_cases h1 : c % 4 = 1
      · exact ifT (decide_eq_true (congrArg V.int h1)) ⟨_, rfl, _, _, rfl, rfl, (by show (0 : Int) < 3000; decide), _, _, rfl, rfl, q _ _ (.int _) (Same.refl _) rfl trivial⟩
      · refine ifF (decide_eq_false fun z => h1 (V.int.inj z)) ⟨_, rfl, _, _, rfl, rfl, d4, rfl, _, rfl, ?_⟩
        by_cases h2 : c % 4 = 2
        · have a0 : 0 ≤ c / 4 % 14 := Int.emod_nonneg _ (by decide)
          have a1 : c / 4 % 14 < 14 := Int.emod_lt_of_pos _ (by decide)
          have b0 : 0 ≤ c / 4 / 14 % 14 := Int.emod_nonneg _ (by decide)
          have b1 : c / 4 / 14 % 14 < 14 := Int.emod_lt_of_pos _ (by decide)
          refine ifT (decide_eq_true (congrArg V.int h2)) ⟨_, rfl, _, _, rfl, rfl, (by show (0 : Int) < 14; decide), _, _, rfl, rfl, _, rfl, _, _, rfl, rfl, ⟨by decide, by decide⟩, _, _, rfl, rfl, (by show (0 : Int) < 14; decide), _, _, rfl, rfl, size2, fun p hp => ?_⟩
          exact q _ _ (.par (c / 4 % 14 - 2) (c / 4 / 14 % 14 - 2)) (same_upd hp) ⟨p, rfl, upd_same⟩ ⟨by omega, by omega⟩
        · exact ifF (decide_eq_false fun z => h2 (V.int.inj z)) (q _ _ .non (Same.refl _) rfl trivial)
theorem fc_due (T : Tx K mg A) (L : Fc CX0 P w K mg base 1 "_law_share" spLowest) (D : Dfn K mg "_law_due" s__law_due ["which", "m", "some"] f fd) : Fc CX0 P w K mg base 2 "_law_due" spDueL := by
  have sc : FnScope ["which", "m", "some"] ["which", "m", "some"] (defScope s__law_due) := fsc (by decide +kernel)
  refine fc0 D sc (fun vs H Q E h => ?_) (fun cdv _ outer s H vs Q E hr h => ?_)
  · obtain ⟨k, m, v, a, rfl, _⟩ := h; rfl
  · obtain ⟨k, m, v, a, rfl, hk, hm, ha, hs, q⟩ := h
    refine ⟨_, (pss_cons (ps_if (PW.pt (pw_or (ptE 0) (pw_or1 (ptE 0)))) (pss_one (ps_ret (pe_or (pe_cmpR op_isN (pv 2) pe_non (nomark _)) (pe_one (pe_and (pe_not (pe_callB call_isi (by rfl) T.n_isinstance (by decide +kernel) (pa_cons (pv 2) (pa_cons (pe_bltn (v := .ty "tuple") (by rfl) T.n_tuple (by decide +kernel) rfl) pa_nil)))) (pe_one (pe_cmpR op_ge (pv 2) pe_int (nomark _)))))))) pss_nil) (pss_cons (ps_if (PW.pt (pw_or (ptE 0) (pw_or1 (ptE 0)))) (pss_cons (ps_if (PW.pt (pw_or (ptN 2) (pw_or (pt_not (pt_val (pe_callB call_isi (by rfl) T.n_isinstance (by decide +kernel) (pa_cons (pv 2) (pa_cons (pe_bltn (v := .ty "tuple") (by rfl) T.n_tuple (by decide +kernel) rfl) pa_nil))))) (pw_or (pt_cmpR op_lt (pe_ix ix_tup (pv 2) pe_int (fun _ _ => rfl)) pe_int (nomark _)) (pw_or1 (pt_cmpR op_lt (pe_ix ix_tup (pv 2) pe_int (fun _ _ => rfl)) pe_int (nomark _))))))) (pss_one (ps_ret pe_bl)) pss_nil) (pss_cons (ps_if (pt_cmpR (op_neD hr.units) (pe_f L hr (by decide) pass0 rfl (pa_cons (pe_ix ix_tup (pv 2) pe_int (fun _ _ => rfl)) (pa_cons (pe_ix ix_tup (pv 2) pe_int (fun _ _ => rfl)) pa_nil))) (pv 2) (nomark _)) (pss_one (ps_ret pe_bl)) pss_nil) (pss_one (ps_ret (pe_or (pe_cmpR op_eq (pv 0) pe_int (nomark _)) (pe_one (pe_cmpR op_le (pe_ix ix_tup (pv 2) pe_int (fun _ _ => rfl)) (pe_ix ix_tup (pv 2) pe_int (fun _ _ => rfl)) (nomark _)))))))) pss_nil) (pss_cons (ps_if (PW.pt (pw_or (ptN 2) (pw_or1 (pt_val (pe_callB call_isi (by rfl) T.n_isinstance (by decide +kernel) (pa_cons (pv 2) (pa_cons (pe_bltn (v := .ty "tuple") (by rfl) T.n_tuple (by decide +kernel) rfl) pa_nil))))))) (pss_one (ps_ret pe_bl)) pss_nil) (pss_cons (ps_if (ptE 0) (pss_one (ps_ret (pe_chain op_le op_le pe_int (pv 2) (pe_op op_pow pe_int pe_int)))) pss_nil) (pss_cons (ps_if (ptE 0) (pss_one (ps_ret (pe_cmpR op_ge (pv 2) (pe_un un_neg pe_int) (nomark _)))) pss_nil) (pss_one (ps_ret (pe_chain op_le op_lt pe_int (pv 2) (pe_op op_shl pe_int (pv 1)))))))))), ?_⟩
    -- whole numbers from 0 on, or None
    have few : (k = .few ∨ k = .mus) → (tRet (tOrV (tOp (fun x y H Q => y = .non ∧ Q (.bl (decide (x = .non))) H) (tVar 2) (tC .non)) (tAndV (tNotV (tCB (rIsi K) (tCons (tVar 2) (tCons (tC (.ty "tuple")) tNil)))) (tOp (rI0 fun i j => .bl (decide (i ≥ j))) (tVar 2) (tC (.int 0)))))) { nx := fun _ H' => Q .non H', rt := Q } [some (.int (wh k)), some (.int m), some v] H := by
      intro hk'
      have e : ∀ a, isW k a = (match a with | .non => true | .int i => decide (0 ≤ i) | _ => false) := by rcases hk' with rfl | rfl <;> intro a <;> cases a <;> rfl
      rw [e] at q
      refine ⟨_, rfl, rfl, _, rfl, ?_⟩
      cases a with
      | non => cases ha; exact ifT rfl (q _ (Same.refl _))
      | int i => cases ha; exact ifF rfl ⟨_, rfl, _, _, _, _, false, rfl, .ty "tuple", .base (.int i), kit_ty (by decide +kernel), _, rfl, _, rfl, ifT rfl ⟨_, rfl, _, _, rfl, rfl, q _ (Same.refl _)⟩⟩
      | par p r => obtain ⟨pa, rfl, hpa⟩ := ha; exact ifF rfl ⟨_, rfl, _, _, _, _, true, rfl, .ty "tuple", .base (.tup hpa), kit_ty (by decide +kernel), _, rfl, _, rfl, ifF rfl (q _ (Same.refl _))⟩
    cases k with
    | few => exact ⟨_, rfl, rfl, _, rfl, ifT rfl (ifT rfl (few (.inl rfl)))⟩
    | mus => exact ⟨_, rfl, rfl, _, rfl, ifF rfl ⟨_, rfl, rfl, _, rfl, ifT rfl (few (.inr rfl))⟩⟩
    | wid =>
      refine skE2 rfl rfl rfl ⟨_, rfl, rfl, _, rfl, ifF rfl ⟨_, rfl, rfl, _, rfl, ifF rfl ?_⟩⟩
      refine ⟨_, rfl, rfl, _, rfl, ?_⟩
      cases a with
      | non => cases ha; exact ifT rfl (ifT rfl (q _ (Same.refl _)))
      | par p r => obtain ⟨pa, rfl, hpa⟩ := ha; exact ifF rfl ⟨_, rfl, _, _, _, _, true, rfl, .ty "tuple", .base (.tup hpa), kit_ty (by decide +kernel), _, rfl, ifT rfl (q _ (Same.refl _))⟩
      | int i =>
        cases ha
        refine ifF rfl ⟨_, rfl, _, _, _, _, false, rfl, .ty "tuple", .base (.int i), kit_ty (by decide +kernel), _, rfl, ifF rfl (hitE rfl rfl ⟨_, rfl, _, _, rfl, rfl, _, rfl, ?_⟩)⟩
        have q' := q H (Same.refl _)
        change Q (.bl (if 0 ≤ i then decide (i ≤ 1000000000) else false)) H at q'
        by_cases h : 0 ≤ i
        · rw [if_pos h] at q'; exact ifT (decide_eq_true h) ⟨_, _, rfl, rfl, ⟨by decide, by decide, by decide⟩, _, _, rfl, rfl, q'⟩
        · rw [if_neg h] at q'; exact ifF (decide_eq_false h) q'
    | cnt =>
      refine skE2 rfl rfl rfl ⟨_, rfl, rfl, _, rfl, ifF rfl ⟨_, rfl, rfl, _, rfl, ifF rfl ?_⟩⟩
      refine ⟨_, rfl, rfl, _, rfl, ?_⟩
      cases a with
      | non => cases ha; exact ifT rfl (ifT rfl (q _ (Same.refl _)))
      | par p r => obtain ⟨pa, rfl, hpa⟩ := ha; exact ifF rfl ⟨_, rfl, _, _, _, _, true, rfl, .ty "tuple", .base (.tup hpa), kit_ty (by decide +kernel), _, rfl, ifT rfl (q _ (Same.refl _))⟩
      | int i =>
        cases ha
        refine ifF rfl ⟨_, rfl, _, _, _, _, false, rfl, .ty "tuple", .base (.int i), kit_ty (by decide +kernel), _, rfl, ifF rfl (skE rfl rfl (hitE rfl rfl ⟨_, rfl, _, rfl, _, _, rfl, rfl, q _ (Same.refl _)⟩))⟩
    | rst m' =>
      have em := hm m' rfl
      subst em
      have hk' : 1 ≤ m' ∧ m' ≤ 12 := hk
      refine skE2 rfl rfl rfl ⟨_, rfl, rfl, _, rfl, ifF rfl ⟨_, rfl, rfl, _, rfl, ifF rfl ?_⟩⟩
      refine ⟨_, rfl, rfl, _, rfl, ?_⟩
      cases a with
      | non => cases ha; exact ifT rfl (ifT rfl (q _ (Same.refl _)))
      | par p r => obtain ⟨pa, rfl, hpa⟩ := ha; exact ifF rfl ⟨_, rfl, _, _, _, _, true, rfl, .ty "tuple", .base (.tup hpa), kit_ty (by decide +kernel), _, rfl, ifT rfl (q _ (Same.refl _))⟩
      | int i =>
        cases ha
        refine ifF rfl ⟨_, rfl, _, _, _, _, false, rfl, .ty "tuple", .base (.int i), kit_ty (by decide +kernel), _, rfl, ifF rfl (skE rfl rfl (skE rfl rfl ⟨_, rfl, _, _, rfl, rfl, _, rfl, ?_⟩))⟩
        have q' := q H (Same.refl _)
        change Q (.bl (if 0 ≤ i then decide (i < 2 ^ m') else false)) H at q'
        by_cases h : 0 ≤ i
        · rw [if_pos h] at q'
          refine ifT (decide_eq_true h) ⟨_, rfl, _, _, rfl, rfl, ⟨by omega, by omega, by decide⟩, _, _, rfl, rfl, ?_⟩
          rw [Int.toNat_natCast, Int.one_mul]; exact q'
        · rw [if_neg h] at q'; exact ifF (decide_eq_false h) q'
    | lik =>
      refine skE2 rfl rfl rfl ⟨_, rfl, rfl, _, rfl, ifT rfl (ifT rfl ?_)⟩
      refine ⟨_, rfl, rfl, _, rfl, ?_⟩
      cases a with
      | non => cases ha; exact ifT rfl (ifT rfl (q _ (Same.refl _)))
      | int i => cases ha; exact ifF rfl ⟨_, rfl, _, _, _, _, false, rfl, .ty "tuple", .base (.int i), kit_ty (by decide +kernel), _, rfl, ifT rfl (ifT rfl (q _ (Same.refl _)))⟩
      | par p r =>
        obtain ⟨pa, rfl, hpa⟩ := id ha
        refine ifF rfl ⟨_, rfl, _, _, _, _, true, rfl, .ty "tuple", .base (.tup hpa), kit_ty (by decide +kernel), _, rfl, ifF rfl ?_⟩
        have q' : ∀ H', Same H H' → Q (.bl (if shr p r = true then decide (p ≤ r) else false)) H' := q
        refine ⟨_, rfl, pa, _, _, _, rfl, rfl, SqT.of hpa, at0, _, _, rfl, rfl, _, rfl, ?_⟩
        by_cases h0 : 0 ≤ p
        · refine ifF (decide_eq_false (by omega)) ⟨_, rfl, pa, _, _, _, rfl, rfl, SqT.of hpa, at1, _, _, rfl, rfl, _, rfl, ?_⟩
          by_cases h1 : 0 < r
          · refine ifF (decide_eq_false (by omega)) ?_
            refine ⟨_, rfl, pa, _, _, _, rfl, rfl, SqT.of hpa, at0, _, rfl, pa, _, _, _, rfl, rfl, SqT.of hpa, at1, p, r, rfl, h0, h1, Nat.lt_of_le_of_lt (log2_mono hs.2) (by decide), fun t ht => ?_⟩
            have ha1 : Pr (upd H t (.tup [.int (Rat.divInt p r).num, .int (Rat.divInt p r).den])) (.ref pa) p r := ha.same (same_upd ht)
            refine ⟨_, rfl, _, _, dp_par ⟨t, rfl, upd_same⟩, dp_par ha1, shaped_par _ _, shaped_par _ _, ?_⟩
            rw [eqv_par]
            refine ⟨_, rfl, ?_⟩
            have q2 := q' _ (same_upd (o := .tup [.int (Rat.divInt p r).num, .int (Rat.divInt p r).den]) ht)
            have es : shr p r = decide (Int.gcd p r = 1) := by unfold shr; rw [if_pos h0, if_pos h1]
            rw [es] at q2
            by_cases h2 : Int.gcd p r = 1
            · rw [decide_eq_true h2, if_pos rfl] at q2
              refine ifF (by rw [decide_eq_true ((low_same h1).2 h2)]; rfl) ⟨_, rfl, rfl, _, rfl, ifF rfl ?_⟩
              have hpa1 : (upd H t (.tup [.int (Rat.divInt p r).num, .int (Rat.divInt p r).den])) pa = some (.tup [.int p, .int r]) := same_upd ht _ _ hpa
              exact ⟨_, rfl, pa, _, _, _, rfl, rfl, SqT.of hpa1, at0, _, rfl, pa, _, _, _, rfl, rfl, SqT.of hpa1, at1, _, _, rfl, rfl, q2⟩
            · rw [decide_eq_false h2, if_neg Bool.false_ne_true] at q2
              exact ifT (by rw [decide_eq_false fun z => h2 ((low_same h1).1 z)]; rfl) q2
          · refine ifT (decide_eq_true (by omega)) ?_
            have q2 := q' _ (Same.refl _)
            have es : shr p r = false := by unfold shr; rw [if_pos h0, if_neg h1]
            rw [es] at q2; exact q2
        · refine ifT (decide_eq_true (by omega)) (ifT rfl ?_)
          have q2 := q' _ (Same.refl _)
          have es : shr p r = false := by unfold shr; rw [if_neg h0]
          rw [es] at q2; exact q2
    | cha =>
      refine skE2 rfl rfl rfl ⟨_, rfl, rfl, _, rfl, ifF rfl ⟨_, rfl, rfl, _, rfl, ifT rfl ?_⟩⟩
      refine ⟨_, rfl, rfl, _, rfl, ?_⟩
      cases a with
      | non => cases ha; exact ifT rfl (ifT rfl (q _ (Same.refl _)))
      | int i => cases ha; exact ifF rfl ⟨_, rfl, _, _, _, _, false, rfl, .ty "tuple", .base (.int i), kit_ty (by decide +kernel), _, rfl, ifT rfl (ifT rfl (q _ (Same.refl _)))⟩
      | par p r =>
        obtain ⟨pa, rfl, hpa⟩ := id ha
        refine ifF rfl ⟨_, rfl, _, _, _, _, true, rfl, .ty "tuple", .base (.tup hpa), kit_ty (by decide +kernel), _, rfl, ifF rfl ?_⟩
        have q' : ∀ H', Same H H' → Q (.bl (shr p r)) H' := q
        refine ⟨_, rfl, pa, _, _, _, rfl, rfl, SqT.of hpa, at0, _, _, rfl, rfl, _, rfl, ?_⟩
        by_cases h0 : 0 ≤ p
        · refine ifF (decide_eq_false (by omega)) ⟨_, rfl, pa, _, _, _, rfl, rfl, SqT.of hpa, at1, _, _, rfl, rfl, _, rfl, ?_⟩
          by_cases h1 : 0 < r
          · refine ifF (decide_eq_false (by omega)) ?_
            refine ⟨_, rfl, pa, _, _, _, rfl, rfl, SqT.of hpa, at0, _, rfl, pa, _, _, _, rfl, rfl, SqT.of hpa, at1, p, r, rfl, h0, h1, Nat.lt_of_le_of_lt (log2_mono hs.2) (by decide), fun t ht => ?_⟩
            have ha1 : Pr (upd H t (.tup [.int (Rat.divInt p r).num, .int (Rat.divInt p r).den])) (.ref pa) p r := ha.same (same_upd ht)
            refine ⟨_, rfl, _, _, dp_par ⟨t, rfl, upd_same⟩, dp_par ha1, shaped_par _ _, shaped_par _ _, ?_⟩
            rw [eqv_par]
            refine ⟨_, rfl, ?_⟩
            have q2 := q' _ (same_upd (o := .tup [.int (Rat.divInt p r).num, .int (Rat.divInt p r).den]) ht)
            have es : shr p r = decide (Int.gcd p r = 1) := by unfold shr; rw [if_pos h0, if_pos h1]
            rw [es] at q2
            by_cases h2 : Int.gcd p r = 1
            · rw [decide_eq_true h2] at q2
              exact ifF (by rw [decide_eq_true ((low_same h1).2 h2)]; rfl) ⟨_, rfl, rfl, _, rfl, ifT rfl q2⟩
            · rw [decide_eq_false h2] at q2
              exact ifT (by rw [decide_eq_false fun z => h2 ((low_same h1).1 z)]; rfl) q2
          · refine ifT (decide_eq_true (by omega)) ?_
            have q2 := q' _ (Same.refl _)
            have es : shr p r = false := by unfold shr; rw [if_pos h0, if_neg h1]
            rw [es] at q2; exact q2
        · refine ifT (decide_eq_true (by omega)) (ifT rfl ?_)
          have q2 := q' _ (Same.refl _)
          have es : shr p r = false := by unfold shr; rw [if_neg h0]
          rw [es] at q2; exact q2
theorem fc_ref (T : Tx K mg A) (D : Dfn K mg "_law_refused" s__law_refused ["m"] f fd) : Fc CX0 P w K mg base 3 "_law_refused" spRef := by
  have R : Nc (L2.CX P w) P w K mg base 1 "Rests" A.Rests (spRests A) := by
    obtain ⟨f, fd, D⟩ := T.m_Rests___init__
    exact nc_Rests T.c_Rests T.a_Rests_m T.x_NoWorth D
  have sc : FnScope ["m", "told", "e"] ["m"] (defScope s__law_refused) := fsc (by decide +kernel)
  refine fc0 D sc (fun vs H Q E h => ?_) (fun cdv _ outer s H vs Q E hr h => ?_)
  · obtain ⟨m, rfl, _⟩ := h; rfl
  · obtain ⟨m, rfl, hm, q⟩ := h
    refine ⟨_, (pss_cons (ps_set (i := 1) sc.nd rfl (.inl rfl) pe_non) (pss_cons (ps_try_as (i := 2) (tb := fun W => tDrop (tNew A.Rests (spRests A) (WE W) (tCons (tVar 0) tNil))) (Wout := fun _ _ _ _ => False) rfl rfl sc.nd rfl rfl ⟨rfl, by decide, .inl T.x_SumError.g⟩ takes0
        (fun W pn xe tk _ => pss_one (ps_expr (by exact (pe_ncS R hr (by decide) (fun σ => passAt tk σ) rfl (pa_cons (pv 0) pa_nil)))))
        (fun a oe cls d pn hz hf => pss_one (ps_set (i := 1) sc.nd rfl (.inl rfl) (pe_tup (pa_cons (pe_callB (call_isX hz hf) (by rfl) T.n_isinstance (by decide +kernel) (pa_cons (pv 2) (pa_cons (pe_glob (v := .ref A.NoWorth) rfl T.x_NoWorth.g rfl) pa_nil))) (pa_cons (pe_callB (call_isX hz hf) (by rfl) T.n_isinstance (by decide +kernel) (pa_cons (pv 2) (pa_cons (pe_bltn (v := .ty "ValueError") (by rfl) T.n_ValueError (by decide +kernel) rfl) pa_nil))) (pa_cons (pe_callB (call_isX hz hf) (by rfl) T.n_isinstance (by decide +kernel) (pa_cons (pv 2) (pa_cons (pe_glob (v := .ref A.NoNet) rfl T.x_NoNet.g rfl) pa_nil))) pa_nil))))))) (pss_one (ps_ret (pe_cmpR (op_eqD hr.units) (pv 1) (pe_tup (pa_cons pe_bl (pa_cons pe_bl (pa_cons pe_bl pa_nil)))) (nomark _)))))), ?_⟩
    refine ⟨_, rfl, fun x dx hx hdx ne => ⟨x, dx, m, rfl, upd_same, fun h => absurd h hm, fun _ => ?_⟩⟩
    refine ⟨true, T.e_NoWorth_SumError, fun _ a0 _ => ?_, fun z => Bool.noConfusion z⟩
    refine ⟨_, rfl, A.NoWorth, rfl, rfl, T.x_NoWorth.ec, _, _, true, rfl, cv_ref, T.k_NoWorth_NoWorth, ?_⟩
    refine ⟨_, rfl, A.NoWorth, rfl, rfl, T.x_NoWorth.ec, _, _, true, rfl, cv_ty, T.v_NoWorth, ?_⟩
    refine ⟨_, rfl, A.NoWorth, rfl, rfl, T.x_NoWorth.ec, _, _, false, rfl, cv_ref, T.k_NoWorth_NoNet, size3, fun p hp => ?_⟩
    refine ⟨_, rfl, size3, fun p2 hp2 => ?_⟩
    have d1 : Dp K (upd (upd (upd (upd H dx (.own x)) x (.ins A.Rests dx [])) p (.tup [.bl true, .bl true, .bl false])) p2 (.tup [.bl true, .bl true, .bl false])) (.ref p) (.tuple [.bool true, .bool true, .bool false]) :=
      .tup (SqT.of (same_upd hp2 _ _ upd_same)) (.cons (.bl _) (.cons (.bl _) (.cons (.bl _) .nil)))
    have d2 : Dp K (upd (upd (upd (upd H dx (.own x)) x (.ins A.Rests dx [])) p (.tup [.bl true, .bl true, .bl false])) p2 (.tup [.bl true, .bl true, .bl false])) (.ref p2) (.tuple [.bool true, .bool true, .bool false]) :=
      .tup (SqT.of upd_same) (.cons (.bl _) (.cons (.bl _) (.cons (.bl _) .nil)))
    refine ⟨_, _, d1, d2, by decide, by decide, ?_⟩
    exact q _ ((same_new (C := A.Rests) (fs := []) hx hdx).trans ((same_upd hp).trans (same_upd hp2)))
theorem ok_law (T : Tx K mg A) (F : Fun K "law" "law" s_law f fd) : FnOk P w K mg base CX0 20 f fd ["script"] (spLaw K) := by
  obtain ⟨_, _, D1⟩ := T.d__law_cell_at
  obtain ⟨_, _, D3⟩ := T.d__law_kind
  obtain ⟨_, _, D4⟩ := T.d__law_share
  obtain ⟨_, _, D5⟩ := T.d__law_none
  obtain ⟨_, _, D6⟩ := T.d__law_rest
  obtain ⟨_, _, D9⟩ := T.d__law_worth
  obtain ⟨_, _, D10⟩ := T.d__law_some
  obtain ⟨_, _, D11⟩ := T.d__law_due
  obtain ⟨_, _, D12⟩ := T.d__law_refused
  have CE : Fc CX0 P w K mg base 1 "_law_cell_at" (spCell K) := fc_cell T.n_len D1
  have KI : Fc CX0 P w K mg base 3 "_law_kind" (spKindL A) := fc_kind T D3
  have SH : Fc CX0 P w K mg base 1 "_law_share" spLowest := fc_share D4
  have NO : Fc CX0 P w K mg base 1 "_law_none" (spLaw0 noneW) := fc_none D5
  have RE : Fc CX0 P w K mg base 1 "_law_rest" (spLaw0 restW) := fc_rest D6
  have WO : Fc CX0 P w K mg base 2 "_law_worth" spWorthL := fc_worthL SH NO RE D9
  have SO : Fc CX0 P w K mg base 1 "_law_some" spSomeL := fc_some D10
  have DU : Fc CX0 P w K mg base 2 "_law_due" spDueL := fc_due T SH D11
  have RF : Fc CX0 P w K mg base 3 "_law_refused" spRef := fc_ref T D12
  have sc : FnScope ["script", "which", "m", "kind", "some", "found", "worth", "far"] ["script"] (defScope s_law) := fsc (by decide +kernel)
  refine F.ok (k := 19) sc (fun vs H Q E h => ?_) (fun cdv _ outer s H vs Q E hr h => ?_)
  · obtain ⟨a, ns, rfl, _⟩ := h; rfl
  · obtain ⟨a, ns, rfl, hS, hlen, q⟩ := h
    refine ⟨_, (pss_cons (ps_set (i := 1) sc.nd rfl (.inl rfl) (pe_op op_mod (pe_f CE hr (by decide) pass0 rfl (pa_cons (pv 0) (pa_cons pe_int pa_nil))) pe_int)) (pss_cons (ps_set (i := 2) sc.nd rfl (.inl rfl) (pe_op op_add pe_int (pe_op op_mod (pe_op op_fdiv (pe_f CE hr (by decide) pass0 rfl (pa_cons (pv 0) (pa_cons pe_int pa_nil))) pe_int) pe_int))) (pss_cons (ps_set (i := 3) sc.nd rfl (.inl rfl) (pe_f KI hr (by decide) pass0 rfl (pa_cons (pv 1) (pa_cons (pv 2) pa_nil)))) (pss_cons (ps_set (i := 4) sc.nd rfl (.inl rfl) (pe_f SO hr (by decide) pass0 rfl (pa_cons (pv 2) (pa_cons (pe_f CE hr (by decide) pass0 rfl (pa_cons (pv 0) (pa_cons pe_int pa_nil))) pa_nil)))) (pss_cons (ps_set (i := 5) sc.nd rfl (.inl rfl) (pe_km (ES := fun _ => E0) (all_is T) hr (by decide) passS (pv 3) (pa_cons (pv 4) pa_nil))) (pss_cons (ps_if (PW.pt (pw_or (pt_not (pt_val (pe_callB call_isi (by rfl) T.n_isinstance (by decide +kernel) (pa_cons (pv 5) (pa_cons (pe_bltn (v := .ty "bool") (by rfl) T.n_bool (by decide +kernel) rfl) pa_nil))))) (pw_or1 (pt_cmpR op_ne (pv 5) (pe_f DU hr (by decide) pass0 rfl (pa_cons (pv 1) (pa_cons (pv 2) (pa_cons (pv 4) pa_nil)))) (nomark _))))) (pss_one (ps_ret pe_bl)) pss_nil) (pss_cons (ps_for PassesOwn.never rfl (pi_list (pe_lst (pa_cons (pe_f NO hr (by decide) pass0 rfl (pa_cons (pv 1) pa_nil)) (pa_cons (pe_f RE hr (by decide) pass0 rfl (pa_cons (pv 1) pa_nil)) (pa_cons (pe_f WO hr (by decide) pass0 rfl (pa_cons (pv 1) (pa_cons (pv 2) (pa_cons (pe_f CE hr (by decide) pass0 rfl (pa_cons (pv 0) (pa_cons pe_int pa_nil))) pa_nil)))) pa_nil))))) (pg_name (i := 6) sc.nd rfl (.inl rfl))
        (pss_one (ps_if (pt_cmpR op_isnot_bl (pe_km (ES := fun _ => E0) (all_is T) hr (by decide) passS (pv 3) (pa_cons (pv 6) pa_nil)) pe_bl (nomark _)) (pss_one (ps_ret pe_bl)) pss_nil))) (pss_cons (ps_set (i := 7) sc.nd rfl (.inl rfl) (pe_op op_mod (pe_f CE hr (by decide) pass0 rfl (pa_cons (pv 0) (pa_cons pe_int pa_nil))) (pe_op op_pow pe_int pe_int))) (pss_one (ps_ret (pe_f RF hr (by decide) pass0 rfl (pa_cons (pe_ix ix_list (pe_lst (pa_cons pe_int (pa_cons pe_int (pa_cons (pe_op op_sub (pe_un un_neg pe_int) (pv 7)) (pa_cons (pe_op op_add pe_int (pv 7)) pa_nil))))) (pe_op op_mod (pe_f CE hr (by decide) pass0 rfl (pa_cons (pv 0) (pa_cons pe_int pa_nil))) pe_int) (fun _ _ => rfl)) pa_nil)))))))))))), ?_⟩
    have w0 : 0 ≤ cell ns 0 % 7 := Int.emod_nonneg _ (by decide)
    have w6 : cell ns 0 % 7 ≤ 6 := by have := Int.emod_lt_of_pos (cell ns 0) (show (0 : Int) < 7 by decide); omega
    have m0 : 0 ≤ cell ns 0 / 7 % 12 := Int.emod_nonneg _ (by decide)
    have m11 : cell ns 0 / 7 % 12 < 12 := Int.emod_lt_of_pos _ (by decide)
    obtain ⟨k, hk⟩ : ∃ k, kd (cell ns 0 % 7) (1 + cell ns 0 / 7 % 12) = k := ⟨_, rfl⟩
    have hwk : wh k = cell ns 0 % 7 := by rw [← hk]; exact wh_kd w0 w6
    have hko : KOk k := by rw [← hk]; exact kd_ok (by omega) (by omega)
    have hmm : ∀ m' : Nat, k = .rst m' → 1 + cell ns 0 / 7 % 12 = m' := fun m' e => kd_rst (by omega) (hk.trans e)
    have hav : Av k.x = true := by cases k <;> rfl
    obtain ⟨mn, hmn⟩ := nn (1 + cell ns 0 / 7 % 12) (by omega)
    refine ⟨_, rfl, a, ns, 0, rfl, hS, hlen, _, _, rfl, rfl, (by show (0 : Int) < 7; decide), ?_⟩
    refine ⟨_, rfl, a, ns, 0, rfl, hS, hlen, _, _, rfl, rfl, ⟨by decide, by decide⟩, _, _, rfl, rfl, (by show (0 : Int) < 12; decide), _, _, rfl, rfl, ?_⟩
    refine ⟨_, rfl, _, rfl, k, _, by rw [hwk]; rfl, hko, hav, hmm, fun H1 x s1 hx => ?_⟩
    refine ⟨_, rfl, _, rfl, a, ns, 1, rfl, s1.seq hS, hlen, mn, _, by rw [← hmn]; rfl, by omega, fun H2 z2 v2 s2 hv2 sm2 => ?_⟩
    have hx2 := hx.same s2
    refine ⟨k, hav, _, rfl, x, rfl, hx2, _, rfl, x, k, _, v2, rfl, hx2, rfl, hv2, ?_⟩
    refine ⟨_, rfl, _, _, _, _, true, rfl, .ty "bool", .base (.bl _), kit_ty (by decide +kernel), true, rfl, ifF rfl ?_⟩
    refine ⟨_, rfl, _, rfl, _, rfl, _, rfl, k, _, _, v2, by rw [hwk]; rfl, hko, hmm, hv2, sm2, fun H3 s3 => ⟨rfl, _, rfl, ifF (by simp) ?_⟩⟩
    have s13 := (s1.trans s2).trans s3
    have hx3 := hx2.same s3
    refine ⟨_, rfl, k, by rw [hwk]; rfl, fun H4 z4 s4 h4 => ⟨_, rfl, k, by rw [hwk]; rfl, fun H5 z5 s5 h5 => ⟨_, rfl, _, rfl, _, rfl, a, ns, 2, rfl, ((s13.trans s4).trans s5).seq hS, hlen, k, _, _, by rw [hwk]; rfl, hko, hmm, fun H6 z6 s6 h6 => ⟨size3, fun l hl => ?_⟩⟩⟩⟩
    have hx6 := (((hx3.same s4).same s5).same s6).same (same_upd (o := HO.lst [z4, z5, z6]) hl)
    have g4 := ((h4.same s5).same s6).same (same_upd (o := HO.lst [z4, z5, z6]) hl)
    have g5 := (h5.same s6).same (same_upd (o := HO.lst [z4, z5, z6]) hl)
    have g6 := h6.same (same_upd (o := HO.lst [z4, z5, z6]) hl)
    have hS6 := ((((s13.trans s4).trans s5).trans s6).trans (same_upd (o := HO.lst [z4, z5, z6]) hl)).seq hS
    have hL : (upd H6 l (HO.lst [z4, z5, z6])) l = some (.lst [z4, z5, z6]) := upd_same
    generalize upd H6 l (HO.lst [z4, z5, z6]) = H8 at hx6 g4 g5 g6 hL hS6
    have items : ∀ (i : Nat) (y : V), [z4, z5, z6][i]? = some y → ∃ b, Wv H8 y b ∧ Good k b := by
      intro i y h
      match i, h with
      | 0, h => cases h; exact ⟨_, g4, good_none k⟩
      | 1, h => cases h; exact ⟨_, g5, good_rest hko⟩
      | 2, h => cases h; exact ⟨_, g6, good_law hko _⟩
      | i + 3, h => simp at h
    refine ⟨l, rfl, ⟨_, SqL.of hL⟩, for_list (K := K) (a := l) (xs := [z4, z5, z6]) (fun i σ H' => ∃ v6 : Option V, σ = [some (.ref a), some (.int (cell ns 0 % 7)), some (.int (1 + cell ns 0 / 7 % 12)), some (.ref x), some z2, some (.bl (isW k v2)), v6, none] ∧ H' = H8)
      ⟨none, rfl, rfl⟩ (fun i σ H' _ ⟨_, _, e⟩ => SqL.of (by rw [e]; exact hL)) ?_ ?_⟩
    · rintro i y σ H' hi ⟨v6, rfl, rfl⟩
      obtain ⟨b, hb, gb⟩ := items i y hi
      refine ⟨k, hav, _, rfl, x, rfl, hx6, _, rfl, x, k, _, b.vx, rfl, hx6, rfl, hb.vx, ?_⟩
      rw [isW_good gb]
      exact ⟨_, _, rfl, rfl, _, rfl, ifF rfl ⟨_, rfl, rfl⟩⟩
    · rintro σ H' ⟨v6, rfl, rfl⟩
      refine ⟨_, rfl, a, ns, 3, rfl, hS6, hlen, _, _, rfl, rfl, ⟨by decide, by decide, by decide⟩, _, _, rfl, rfl, (by show (0 : Int) < 10 ^ 59; decide), ?_⟩
      have f0 : 0 ≤ cell ns 3 % 10 ^ (59 : Int).toNat := Int.emod_nonneg _ (by decide)
      have j0 : 0 ≤ cell ns 4 % 4 := Int.emod_nonneg _ (by decide)
      have j3 : cell ns 4 % 4 < 4 := Int.emod_lt_of_pos _ (by decide)
      refine ⟨_, rfl, _, rfl, _, _, rfl, rfl, _, rfl, _, _, rfl, rfl, size4, fun l2 hl2 => ⟨_, rfl, a, ns, 4, rfl, (same_upd hl2).seq hS6, hlen, _, _, rfl, rfl, (by show (0 : Int) < 4; decide), ?_⟩⟩
      obtain ⟨y, hy, e⟩ := atI_in (l := [.int 0, .int 13, .int (-1 - cell ns 3 % 10 ^ (59 : Int).toNat), .int (13 + cell ns 3 % 10 ^ (59 : Int).toNat)]) j0 j3
      obtain ⟨i, rfl, hi⟩ : ∃ i, y = .int i ∧ ¬ (1 ≤ i ∧ i ≤ 12) := by
        simp only [List.mem_cons, List.not_mem_nil, or_false] at hy
        rcases hy with h | h | h | h <;> exact ⟨_, h, by omega⟩
      exact ⟨l2, _, _, _, rfl, rfl, SqL.of upd_same, e, i, rfl, hi, fun H' _ => q H'⟩
end
theorem fin {l : PySem.W.OpenLaw} {w : World} {K : PySem.W.Frag} {h : Heap} {mg : Str → Option Value} {fa : Addr} (X : K.In h) (G : h.Ns mainGlobals mg) (hfa : mg "law" = some (.ref fa))
  {zSumError zNoNet zNoWorth zKind zFewest zWidest zCounted zLikeliest zChances zMusts zRests : Addr}
  {f_common : Addr} {od_common an_common : Option Addr} {sl_common : Array (Option Value)} {oc_common kV_common dc_common pm_common cd_common ct_common : Value}
  {f_is_share : Addr} {od_is_share an_is_share : Option Addr} {sl_is_share : Array (Option Value)} {oc_is_share kV_is_share dc_is_share pm_is_share cd_is_share ct_is_share : Value}
  {f__law_cell_at : Addr} {od__law_cell_at an__law_cell_at : Option Addr} {sl__law_cell_at : Array (Option Value)} {oc__law_cell_at kV__law_cell_at dc__law_cell_at pm__law_cell_at cd__law_cell_at ct__law_cell_at : Value}
  {f__law_kind : Addr} {od__law_kind an__law_kind : Option Addr} {sl__law_kind : Array (Option Value)} {oc__law_kind kV__law_kind dc__law_kind pm__law_kind cd__law_kind ct__law_kind : Value}
  {f__law_share : Addr} {od__law_share an__law_share : Option Addr} {sl__law_share : Array (Option Value)} {oc__law_share kV__law_share dc__law_share pm__law_share cd__law_share ct__law_share : Value}
  {f__law_none : Addr} {od__law_none an__law_none : Option Addr} {sl__law_none : Array (Option Value)} {oc__law_none kV__law_none dc__law_none pm__law_none cd__law_none ct__law_none : Value}
  {f__law_rest : Addr} {od__law_rest an__law_rest : Option Addr} {sl__law_rest : Array (Option Value)} {oc__law_rest kV__law_rest dc__law_rest pm__law_rest cd__law_rest ct__law_rest : Value}
  {f__law_worth : Addr} {od__law_worth an__law_worth : Option Addr} {sl__law_worth : Array (Option Value)} {oc__law_worth kV__law_worth dc__law_worth pm__law_worth cd__law_worth ct__law_worth : Value}
  {f__law_some : Addr} {od__law_some an__law_some : Option Addr} {sl__law_some : Array (Option Value)} {oc__law_some kV__law_some dc__law_some pm__law_some cd__law_some ct__law_some : Value}
  {f__law_due : Addr} {od__law_due an__law_due : Option Addr} {sl__law_due : Array (Option Value)} {oc__law_due kV__law_due dc__law_due pm__law_due cd__law_due ct__law_due : Value}
  {f__law_refused : Addr} {od__law_refused an__law_refused : Option Addr} {sl__law_refused : Array (Option Value)} {oc__law_refused kV__law_refused dc__law_refused pm__law_refused cd__law_refused ct__law_refused : Value}
  {f_law : Addr} {od_law an_law : Option Addr} {sl_law : Array (Option Value)} {oc_law kV_law dc_law pm_law cd_law ct_law : Value}
  {f_Fewest_is_worth : Addr} {od_Fewest_is_worth an_Fewest_is_worth : Option Addr} {sl_Fewest_is_worth : Array (Option Value)} {oc_Fewest_is_worth kV_Fewest_is_worth dc_Fewest_is_worth pm_Fewest_is_worth cd_Fewest_is_worth ct_Fewest_is_worth : Value}
  {f_Widest_is_worth : Addr} {od_Widest_is_worth an_Widest_is_worth : Option Addr} {sl_Widest_is_worth : Array (Option Value)} {oc_Widest_is_worth kV_Widest_is_worth dc_Widest_is_worth pm_Widest_is_worth cd_Widest_is_worth ct_Widest_is_worth : Value}
  {f_Counted_is_worth : Addr} {od_Counted_is_worth an_Counted_is_worth : Option Addr} {sl_Counted_is_worth : Array (Option Value)} {oc_Counted_is_worth kV_Counted_is_worth dc_Counted_is_worth pm_Counted_is_worth cd_Counted_is_worth ct_Counted_is_worth : Value}
  {f_Likeliest_is_worth : Addr} {od_Likeliest_is_worth an_Likeliest_is_worth : Option Addr} {sl_Likeliest_is_worth : Array (Option Value)} {oc_Likeliest_is_worth kV_Likeliest_is_worth dc_Likeliest_is_worth pm_Likeliest_is_worth cd_Likeliest_is_worth ct_Likeliest_is_worth : Value}
  {f_Chances_is_worth : Addr} {od_Chances_is_worth an_Chances_is_worth : Option Addr} {sl_Chances_is_worth : Array (Option Value)} {oc_Chances_is_worth kV_Chances_is_worth dc_Chances_is_worth pm_Chances_is_worth cd_Chances_is_worth ct_Chances_is_worth : Value}
  {f_Musts_is_worth : Addr} {od_Musts_is_worth an_Musts_is_worth : Option Addr} {sl_Musts_is_worth : Array (Option Value)} {oc_Musts_is_worth kV_Musts_is_worth dc_Musts_is_worth pm_Musts_is_worth cd_Musts_is_worth ct_Musts_is_worth : Value}
  {f_Rests___init__ : Addr} {od_Rests___init__ an_Rests___init__ : Option Addr} {sl_Rests___init__ : Array (Option Value)} {oc_Rests___init__ kV_Rests___init__ dc_Rests___init__ pm_Rests___init__ cd_Rests___init__ ct_Rests___init__ : Value}
  {f_Rests_is_worth : Addr} {od_Rests_is_worth an_Rests_is_worth : Option Addr} {sl_Rests_is_worth : Array (Option Value)} {oc_Rests_is_worth kV_Rests_is_worth dc_Rests_is_worth pm_Rests_is_worth cd_Rests_is_worth ct_Rests_is_worth : Value}
  {tkWIDEST : Tok}
  (g_SumError : PySem.W.nsIn K mainGlobals "SumError" = some (some (.ref zSumError)))
  (g_NoNet : PySem.W.nsIn K mainGlobals "NoNet" = some (some (.ref zNoNet)))
  (g_NoWorth : PySem.W.nsIn K mainGlobals "NoWorth" = some (some (.ref zNoWorth)))
  (g_Kind : PySem.W.nsIn K mainGlobals "Kind" = some (some (.ref zKind)))
  (g_Fewest : PySem.W.nsIn K mainGlobals "Fewest" = some (some (.ref zFewest)))
  (g_Widest : PySem.W.nsIn K mainGlobals "Widest" = some (some (.ref zWidest)))
  (g_Counted : PySem.W.nsIn K mainGlobals "Counted" = some (some (.ref zCounted)))
  (g_Likeliest : PySem.W.nsIn K mainGlobals "Likeliest" = some (some (.ref zLikeliest)))
  (g_Chances : PySem.W.nsIn K mainGlobals "Chances" = some (some (.ref zChances)))
  (g_Musts : PySem.W.nsIn K mainGlobals "Musts" = some (some (.ref zMusts)))
  (g_Rests : PySem.W.nsIn K mainGlobals "Rests" = some (some (.ref zRests)))
  (a_common : PySem.W.nsIn K mainGlobals "common" = some (some (.ref f_common)))
  (l_common : K.lookup f_common = some ⟨oc_common, od_common, .func (PySem.W.fnOf "common" "common" (defArgs s_common) (defBody s_common) (defScope s_common) .none kV_common dc_common pm_common an_common cd_common ct_common), sl_common⟩)
  (c_common : PySem.W.codeIn K cd_common "common" = true)
  (k_common : PySem.W.keepIn K (.ref f_common) = true)
  (a_is_share : PySem.W.nsIn K mainGlobals "is_share" = some (some (.ref f_is_share)))
  (l_is_share : K.lookup f_is_share = some ⟨oc_is_share, od_is_share, .func (PySem.W.fnOf "is_share" "is_share" (defArgs s_is_share) (defBody s_is_share) (defScope s_is_share) .none kV_is_share dc_is_share pm_is_share an_is_share cd_is_share ct_is_share), sl_is_share⟩)
  (c_is_share : PySem.W.codeIn K cd_is_share "is_share" = true)
  (k_is_share : PySem.W.keepIn K (.ref f_is_share) = true)
  (a__law_cell_at : PySem.W.nsIn K mainGlobals "_law_cell_at" = some (some (.ref f__law_cell_at)))
  (l__law_cell_at : K.lookup f__law_cell_at = some ⟨oc__law_cell_at, od__law_cell_at, .func (PySem.W.fnOf "_law_cell_at" "_law_cell_at" (defArgs s__law_cell_at) (defBody s__law_cell_at) (defScope s__law_cell_at) .none kV__law_cell_at dc__law_cell_at pm__law_cell_at an__law_cell_at cd__law_cell_at ct__law_cell_at), sl__law_cell_at⟩)
  (c__law_cell_at : PySem.W.codeIn K cd__law_cell_at "_law_cell_at" = true)
  (k__law_cell_at : PySem.W.keepIn K (.ref f__law_cell_at) = true)
  (a__law_kind : PySem.W.nsIn K mainGlobals "_law_kind" = some (some (.ref f__law_kind)))
  (l__law_kind : K.lookup f__law_kind = some ⟨oc__law_kind, od__law_kind, .func (PySem.W.fnOf "_law_kind" "_law_kind" (defArgs s__law_kind) (defBody s__law_kind) (defScope s__law_kind) .none kV__law_kind dc__law_kind pm__law_kind an__law_kind cd__law_kind ct__law_kind), sl__law_kind⟩)
  (c__law_kind : PySem.W.codeIn K cd__law_kind "_law_kind" = true)
  (k__law_kind : PySem.W.keepIn K (.ref f__law_kind) = true)
  (a__law_share : PySem.W.nsIn K mainGlobals "_law_share" = some (some (.ref f__law_share)))
  (l__law_share : K.lookup f__law_share = some ⟨oc__law_share, od__law_share, .func (PySem.W.fnOf "_law_share" "_law_share" (defArgs s__law_share) (defBody s__law_share) (defScope s__law_share) .none kV__law_share dc__law_share pm__law_share an__law_share cd__law_share ct__law_share), sl__law_share⟩)
  (c__law_share : PySem.W.codeIn K cd__law_share "_law_share" = true)
  (k__law_share : PySem.W.keepIn K (.ref f__law_share) = true)
  (a__law_none : PySem.W.nsIn K mainGlobals "_law_none" = some (some (.ref f__law_none)))
  (l__law_none : K.lookup f__law_none = some ⟨oc__law_none, od__law_none, .func (PySem.W.fnOf "_law_none" "_law_none" (defArgs s__law_none) (defBody s__law_none) (defScope s__law_none) .none kV__law_none dc__law_none pm__law_none an__law_none cd__law_none ct__law_none), sl__law_none⟩)
  (c__law_none : PySem.W.codeIn K cd__law_none "_law_none" = true)
  (k__law_none : PySem.W.keepIn K (.ref f__law_none) = true)
  (a__law_rest : PySem.W.nsIn K mainGlobals "_law_rest" = some (some (.ref f__law_rest)))
  (l__law_rest : K.lookup f__law_rest = some ⟨oc__law_rest, od__law_rest, .func (PySem.W.fnOf "_law_rest" "_law_rest" (defArgs s__law_rest) (defBody s__law_rest) (defScope s__law_rest) .none kV__law_rest dc__law_rest pm__law_rest an__law_rest cd__law_rest ct__law_rest), sl__law_rest⟩)
  (c__law_rest : PySem.W.codeIn K cd__law_rest "_law_rest" = true)
  (k__law_rest : PySem.W.keepIn K (.ref f__law_rest) = true)
  (a__law_worth : PySem.W.nsIn K mainGlobals "_law_worth" = some (some (.ref f__law_worth)))
  (l__law_worth : K.lookup f__law_worth = some ⟨oc__law_worth, od__law_worth, .func (PySem.W.fnOf "_law_worth" "_law_worth" (defArgs s__law_worth) (defBody s__law_worth) (defScope s__law_worth) .none kV__law_worth dc__law_worth pm__law_worth an__law_worth cd__law_worth ct__law_worth), sl__law_worth⟩)
  (c__law_worth : PySem.W.codeIn K cd__law_worth "_law_worth" = true)
  (k__law_worth : PySem.W.keepIn K (.ref f__law_worth) = true)
  (a__law_some : PySem.W.nsIn K mainGlobals "_law_some" = some (some (.ref f__law_some)))
  (l__law_some : K.lookup f__law_some = some ⟨oc__law_some, od__law_some, .func (PySem.W.fnOf "_law_some" "_law_some" (defArgs s__law_some) (defBody s__law_some) (defScope s__law_some) .none kV__law_some dc__law_some pm__law_some an__law_some cd__law_some ct__law_some), sl__law_some⟩)
  (c__law_some : PySem.W.codeIn K cd__law_some "_law_some" = true)
  (k__law_some : PySem.W.keepIn K (.ref f__law_some) = true)
  (a__law_due : PySem.W.nsIn K mainGlobals "_law_due" = some (some (.ref f__law_due)))
  (l__law_due : K.lookup f__law_due = some ⟨oc__law_due, od__law_due, .func (PySem.W.fnOf "_law_due" "_law_due" (defArgs s__law_due) (defBody s__law_due) (defScope s__law_due) .none kV__law_due dc__law_due pm__law_due an__law_due cd__law_due ct__law_due), sl__law_due⟩)
  (c__law_due : PySem.W.codeIn K cd__law_due "_law_due" = true)
  (k__law_due : PySem.W.keepIn K (.ref f__law_due) = true)
  (a__law_refused : PySem.W.nsIn K mainGlobals "_law_refused" = some (some (.ref f__law_refused)))
  (l__law_refused : K.lookup f__law_refused = some ⟨oc__law_refused, od__law_refused, .func (PySem.W.fnOf "_law_refused" "_law_refused" (defArgs s__law_refused) (defBody s__law_refused) (defScope s__law_refused) .none kV__law_refused dc__law_refused pm__law_refused an__law_refused cd__law_refused ct__law_refused), sl__law_refused⟩)
  (c__law_refused : PySem.W.codeIn K cd__law_refused "_law_refused" = true)
  (k__law_refused : PySem.W.keepIn K (.ref f__law_refused) = true)
  (a_law : PySem.W.nsIn K mainGlobals "law" = some (some (.ref f_law)))
  (l_law : K.lookup f_law = some ⟨oc_law, od_law, .func (PySem.W.fnOf "law" "law" (defArgs s_law) (defBody s_law) (defScope s_law) .none kV_law dc_law pm_law an_law cd_law ct_law), sl_law⟩)
  (c_law : PySem.W.codeIn K cd_law "law" = true)
  (k_law : PySem.W.keepIn K (.ref f_law) = true)
  (p1Kind : PySem.W.plainGet K zKind Str.empty = true)
  (p2Kind : PySem.W.hasDictIn K zKind = true)
  (p3Kind : PySem.W.plainOver K zKind = true)
  (p4Kind : PySem.W.findIn K (.ref zKind) "__setattr__" = some (some (.builtin "object.__setattr__")))
  (q1Kind : PySem.W.keepIn K (.ref zKind) = true)
  (q2Kind : PySem.W.makesIn K zKind = true)
  (q3Kind : PySem.W.findIn K (.ref zKind) "__class__" = some (some (.builtin "object.__class__")))
  (q4Kind : PySem.W.mroIn K zKind (.type "object") = some true)
  (q5Kind : PySem.W.findIn K (.ref zKind) "__init__" = some (some (.builtin "object.__init__")))
  (p1Fewest : PySem.W.plainGet K zFewest Str.empty = true)
  (p2Fewest : PySem.W.hasDictIn K zFewest = true)
  (p3Fewest : PySem.W.plainOver K zFewest = true)
  (p4Fewest : PySem.W.findIn K (.ref zFewest) "__setattr__" = some (some (.builtin "object.__setattr__")))
  (q1Fewest : PySem.W.keepIn K (.ref zFewest) = true)
  (q2Fewest : PySem.W.makesIn K zFewest = true)
  (q3Fewest : PySem.W.findIn K (.ref zFewest) "__class__" = some (some (.builtin "object.__class__")))
  (q4Fewest : PySem.W.mroIn K zFewest (.type "object") = some true)
  (q5Fewest : PySem.W.findIn K (.ref zFewest) "__init__" = some (some (.builtin "object.__init__")))
  (p1Widest : PySem.W.plainGet K zWidest Str.empty = true)
  (p2Widest : PySem.W.hasDictIn K zWidest = true)
  (p3Widest : PySem.W.plainOver K zWidest = true)
  (p4Widest : PySem.W.findIn K (.ref zWidest) "__setattr__" = some (some (.builtin "object.__setattr__")))
  (q1Widest : PySem.W.keepIn K (.ref zWidest) = true)
  (q2Widest : PySem.W.makesIn K zWidest = true)
  (q3Widest : PySem.W.findIn K (.ref zWidest) "__class__" = some (some (.builtin "object.__class__")))
  (q4Widest : PySem.W.mroIn K zWidest (.type "object") = some true)
  (q5Widest : PySem.W.findIn K (.ref zWidest) "__init__" = some (some (.builtin "object.__init__")))
  (p1Counted : PySem.W.plainGet K zCounted Str.empty = true)
  (p2Counted : PySem.W.hasDictIn K zCounted = true)
  (p3Counted : PySem.W.plainOver K zCounted = true)
  (p4Counted : PySem.W.findIn K (.ref zCounted) "__setattr__" = some (some (.builtin "object.__setattr__")))
  (q1Counted : PySem.W.keepIn K (.ref zCounted) = true)
  (q2Counted : PySem.W.makesIn K zCounted = true)
  (q3Counted : PySem.W.findIn K (.ref zCounted) "__class__" = some (some (.builtin "object.__class__")))
  (q4Counted : PySem.W.mroIn K zCounted (.type "object") = some true)
  (q5Counted : PySem.W.findIn K (.ref zCounted) "__init__" = some (some (.builtin "object.__init__")))
  (p1Likeliest : PySem.W.plainGet K zLikeliest Str.empty = true)
  (p2Likeliest : PySem.W.hasDictIn K zLikeliest = true)
  (p3Likeliest : PySem.W.plainOver K zLikeliest = true)
  (p4Likeliest : PySem.W.findIn K (.ref zLikeliest) "__setattr__" = some (some (.builtin "object.__setattr__")))
  (q1Likeliest : PySem.W.keepIn K (.ref zLikeliest) = true)
  (q2Likeliest : PySem.W.makesIn K zLikeliest = true)
  (q3Likeliest : PySem.W.findIn K (.ref zLikeliest) "__class__" = some (some (.builtin "object.__class__")))
  (q4Likeliest : PySem.W.mroIn K zLikeliest (.type "object") = some true)
  (q5Likeliest : PySem.W.findIn K (.ref zLikeliest) "__init__" = some (some (.builtin "object.__init__")))
  (p1Chances : PySem.W.plainGet K zChances Str.empty = true)
  (p2Chances : PySem.W.hasDictIn K zChances = true)
  (p3Chances : PySem.W.plainOver K zChances = true)
  (p4Chances : PySem.W.findIn K (.ref zChances) "__setattr__" = some (some (.builtin "object.__setattr__")))
  (q1Chances : PySem.W.keepIn K (.ref zChances) = true)
  (q2Chances : PySem.W.makesIn K zChances = true)
  (q3Chances : PySem.W.findIn K (.ref zChances) "__class__" = some (some (.builtin "object.__class__")))
  (q4Chances : PySem.W.mroIn K zChances (.type "object") = some true)
  (q5Chances : PySem.W.findIn K (.ref zChances) "__init__" = some (some (.builtin "object.__init__")))
  (p1Musts : PySem.W.plainGet K zMusts Str.empty = true)
  (p2Musts : PySem.W.hasDictIn K zMusts = true)
  (p3Musts : PySem.W.plainOver K zMusts = true)
  (p4Musts : PySem.W.findIn K (.ref zMusts) "__setattr__" = some (some (.builtin "object.__setattr__")))
  (q1Musts : PySem.W.keepIn K (.ref zMusts) = true)
  (q2Musts : PySem.W.makesIn K zMusts = true)
  (q3Musts : PySem.W.findIn K (.ref zMusts) "__class__" = some (some (.builtin "object.__class__")))
  (q4Musts : PySem.W.mroIn K zMusts (.type "object") = some true)
  (q5Musts : PySem.W.findIn K (.ref zMusts) "__init__" = some (some (.builtin "object.__init__")))
  (p1Rests : PySem.W.plainGet K zRests Str.empty = true)
  (p2Rests : PySem.W.hasDictIn K zRests = true)
  (p3Rests : PySem.W.plainOver K zRests = true)
  (p4Rests : PySem.W.findIn K (.ref zRests) "__setattr__" = some (some (.builtin "object.__setattr__")))
  (q1Rests : PySem.W.keepIn K (.ref zRests) = true)
  (q2Rests : PySem.W.makesIn K zRests = true)
  (q3Rests : PySem.W.findIn K (.ref zRests) "__class__" = some (some (.builtin "object.__class__")))
  (q4Rests : PySem.W.mroIn K zRests (.type "object") = some true)
  (a_Fewest_is_worth : PySem.W.findIn K (.ref zFewest) "is_worth" = some (some (.ref f_Fewest_is_worth)))
  (i_Fewest_is_worth : PySem.W.isFn K (.ref f_Fewest_is_worth) = true)
  (l_Fewest_is_worth : K.lookup f_Fewest_is_worth = some ⟨oc_Fewest_is_worth, od_Fewest_is_worth, .func (PySem.W.fnOf "is_worth" "Fewest.is_worth" (defArgs s_Fewest_is_worth) (defBody s_Fewest_is_worth) (defScope s_Fewest_is_worth) .none kV_Fewest_is_worth dc_Fewest_is_worth pm_Fewest_is_worth an_Fewest_is_worth cd_Fewest_is_worth ct_Fewest_is_worth), sl_Fewest_is_worth⟩)
  (c_Fewest_is_worth : PySem.W.codeIn K cd_Fewest_is_worth "Fewest.is_worth" = true)
  (k_Fewest_is_worth : PySem.W.keepIn K (.ref f_Fewest_is_worth) = true)
  (a_Widest_is_worth : PySem.W.findIn K (.ref zWidest) "is_worth" = some (some (.ref f_Widest_is_worth)))
  (i_Widest_is_worth : PySem.W.isFn K (.ref f_Widest_is_worth) = true)
  (l_Widest_is_worth : K.lookup f_Widest_is_worth = some ⟨oc_Widest_is_worth, od_Widest_is_worth, .func (PySem.W.fnOf "is_worth" "Widest.is_worth" (defArgs s_Widest_is_worth) (defBody s_Widest_is_worth) (defScope s_Widest_is_worth) .none kV_Widest_is_worth dc_Widest_is_worth pm_Widest_is_worth an_Widest_is_worth cd_Widest_is_worth ct_Widest_is_worth), sl_Widest_is_worth⟩)
  (c_Widest_is_worth : PySem.W.codeIn K cd_Widest_is_worth "Widest.is_worth" = true)
  (k_Widest_is_worth : PySem.W.keepIn K (.ref f_Widest_is_worth) = true)
  (a_Counted_is_worth : PySem.W.findIn K (.ref zCounted) "is_worth" = some (some (.ref f_Counted_is_worth)))
  (i_Counted_is_worth : PySem.W.isFn K (.ref f_Counted_is_worth) = true)
  (l_Counted_is_worth : K.lookup f_Counted_is_worth = some ⟨oc_Counted_is_worth, od_Counted_is_worth, .func (PySem.W.fnOf "is_worth" "Counted.is_worth" (defArgs s_Counted_is_worth) (defBody s_Counted_is_worth) (defScope s_Counted_is_worth) .none kV_Counted_is_worth dc_Counted_is_worth pm_Counted_is_worth an_Counted_is_worth cd_Counted_is_worth ct_Counted_is_worth), sl_Counted_is_worth⟩)
  (c_Counted_is_worth : PySem.W.codeIn K cd_Counted_is_worth "Counted.is_worth" = true)
  (k_Counted_is_worth : PySem.W.keepIn K (.ref f_Counted_is_worth) = true)
  (a_Likeliest_is_worth : PySem.W.findIn K (.ref zLikeliest) "is_worth" = some (some (.ref f_Likeliest_is_worth)))
  (i_Likeliest_is_worth : PySem.W.isFn K (.ref f_Likeliest_is_worth) = true)
  (l_Likeliest_is_worth : K.lookup f_Likeliest_is_worth = some ⟨oc_Likeliest_is_worth, od_Likeliest_is_worth, .func (PySem.W.fnOf "is_worth" "Likeliest.is_worth" (defArgs s_Likeliest_is_worth) (defBody s_Likeliest_is_worth) (defScope s_Likeliest_is_worth) .none kV_Likeliest_is_worth dc_Likeliest_is_worth pm_Likeliest_is_worth an_Likeliest_is_worth cd_Likeliest_is_worth ct_Likeliest_is_worth), sl_Likeliest_is_worth⟩)
  (c_Likeliest_is_worth : PySem.W.codeIn K cd_Likeliest_is_worth "Likeliest.is_worth" = true)
  (k_Likeliest_is_worth : PySem.W.keepIn K (.ref f_Likeliest_is_worth) = true)
  (a_Chances_is_worth : PySem.W.findIn K (.ref zChances) "is_worth" = some (some (.ref f_Chances_is_worth)))
  (i_Chances_is_worth : PySem.W.isFn K (.ref f_Chances_is_worth) = true)
  (l_Chances_is_worth : K.lookup f_Chances_is_worth = some ⟨oc_Chances_is_worth, od_Chances_is_worth, .func (PySem.W.fnOf "is_worth" "Chances.is_worth" (defArgs s_Chances_is_worth) (defBody s_Chances_is_worth) (defScope s_Chances_is_worth) .none kV_Chances_is_worth dc_Chances_is_worth pm_Chances_is_worth an_Chances_is_worth cd_Chances_is_worth ct_Chances_is_worth), sl_Chances_is_worth⟩)
  (c_Chances_is_worth : PySem.W.codeIn K cd_Chances_is_worth "Chances.is_worth" = true)
  (k_Chances_is_worth : PySem.W.keepIn K (.ref f_Chances_is_worth) = true)
  (a_Musts_is_worth : PySem.W.findIn K (.ref zMusts) "is_worth" = some (some (.ref f_Musts_is_worth)))
  (i_Musts_is_worth : PySem.W.isFn K (.ref f_Musts_is_worth) = true)
  (l_Musts_is_worth : K.lookup f_Musts_is_worth = some ⟨oc_Musts_is_worth, od_Musts_is_worth, .func (PySem.W.fnOf "is_worth" "Musts.is_worth" (defArgs s_Musts_is_worth) (defBody s_Musts_is_worth) (defScope s_Musts_is_worth) .none kV_Musts_is_worth dc_Musts_is_worth pm_Musts_is_worth an_Musts_is_worth cd_Musts_is_worth ct_Musts_is_worth), sl_Musts_is_worth⟩)
  (c_Musts_is_worth : PySem.W.codeIn K cd_Musts_is_worth "Musts.is_worth" = true)
  (k_Musts_is_worth : PySem.W.keepIn K (.ref f_Musts_is_worth) = true)
  (a_Rests___init__ : PySem.W.findIn K (.ref zRests) "__init__" = some (some (.ref f_Rests___init__)))
  (i_Rests___init__ : PySem.W.isFn K (.ref f_Rests___init__) = true)
  (l_Rests___init__ : K.lookup f_Rests___init__ = some ⟨oc_Rests___init__, od_Rests___init__, .func (PySem.W.fnOf "__init__" "Rests.__init__" (defArgs s_Rests___init__) (defBody s_Rests___init__) (defScope s_Rests___init__) .none kV_Rests___init__ dc_Rests___init__ pm_Rests___init__ an_Rests___init__ cd_Rests___init__ ct_Rests___init__), sl_Rests___init__⟩)
  (c_Rests___init__ : PySem.W.codeIn K cd_Rests___init__ "Rests.__init__" = true)
  (k_Rests___init__ : PySem.W.keepIn K (.ref f_Rests___init__) = true)
  (a_Rests_is_worth : PySem.W.findIn K (.ref zRests) "is_worth" = some (some (.ref f_Rests_is_worth)))
  (i_Rests_is_worth : PySem.W.isFn K (.ref f_Rests_is_worth) = true)
  (l_Rests_is_worth : K.lookup f_Rests_is_worth = some ⟨oc_Rests_is_worth, od_Rests_is_worth, .func (PySem.W.fnOf "is_worth" "Rests.is_worth" (defArgs s_Rests_is_worth) (defBody s_Rests_is_worth) (defScope s_Rests_is_worth) .none kV_Rests_is_worth dc_Rests_is_worth pm_Rests_is_worth an_Rests_is_worth cd_Rests_is_worth ct_Rests_is_worth), sl_Rests_is_worth⟩)
  (c_Rests_is_worth : PySem.W.codeIn K cd_Rests_is_worth "Rests.is_worth" = true)
  (k_Rests_is_worth : PySem.W.keepIn K (.ref f_Rests_is_worth) = true)
  (e0SumError : PySem.W.keepIn K (.ref zSumError) = true)
  (e1SumError : PySem.W.excIn K zSumError [.type "ValueError", .type "Exception", .type "BaseException", .type "object"] "ValueError.__new__" = true)
  (e2SumError : PySem.W.subIn K (.ref zSumError) (.type "BaseException") = some true)
  (e3SumError : PySem.W.typeIn K (.ref zSumError) = some (.type "type"))
  (e4SumError : PySem.W.isClsIn K zSumError = true)
  (e5SumError : PySem.W.findIn K (.ref zSumError) "__getattribute__" = some (some (.builtin "BaseException.__getattribute__")))
  (e6SumError : PySem.W.findIn K (.ref zSumError) "__getattr__" = some none)
  (e7SumError : PySem.W.hasDictIn K zSumError = true)
  (e8SumError : PySem.W.findIn K (.ref zSumError) "__class__" = some (some (.builtin "object.__class__")))
  (e9SumError : PySem.W.mroIn K zSumError (.type "object") = some true)
  (e0NoNet : PySem.W.keepIn K (.ref zNoNet) = true)
  (e1NoNet : PySem.W.excIn K zNoNet [.type "ValueError", .type "Exception", .type "BaseException", .type "object"] "ValueError.__new__" = true)
  (e2NoNet : PySem.W.subIn K (.ref zNoNet) (.type "BaseException") = some true)
  (e3NoNet : PySem.W.typeIn K (.ref zNoNet) = some (.type "type"))
  (e4NoNet : PySem.W.isClsIn K zNoNet = true)
  (e5NoNet : PySem.W.findIn K (.ref zNoNet) "__getattribute__" = some (some (.builtin "BaseException.__getattribute__")))
  (e6NoNet : PySem.W.findIn K (.ref zNoNet) "__getattr__" = some none)
  (e7NoNet : PySem.W.hasDictIn K zNoNet = true)
  (e8NoNet : PySem.W.findIn K (.ref zNoNet) "__class__" = some (some (.builtin "object.__class__")))
  (e9NoNet : PySem.W.mroIn K zNoNet (.type "object") = some true)
  (e0NoWorth : PySem.W.keepIn K (.ref zNoWorth) = true)
  (e1NoWorth : PySem.W.excIn K zNoWorth [.type "ValueError", .type "Exception", .type "BaseException", .type "object"] "ValueError.__new__" = true)
  (e2NoWorth : PySem.W.subIn K (.ref zNoWorth) (.type "BaseException") = some true)
  (e3NoWorth : PySem.W.typeIn K (.ref zNoWorth) = some (.type "type"))
  (e4NoWorth : PySem.W.isClsIn K zNoWorth = true)
  (e5NoWorth : PySem.W.findIn K (.ref zNoWorth) "__getattribute__" = some (some (.builtin "BaseException.__getattribute__")))
  (e6NoWorth : PySem.W.findIn K (.ref zNoWorth) "__getattr__" = some none)
  (e7NoWorth : PySem.W.hasDictIn K zNoWorth = true)
  (e8NoWorth : PySem.W.findIn K (.ref zNoWorth) "__class__" = some (some (.builtin "object.__class__")))
  (e9NoWorth : PySem.W.mroIn K zNoWorth (.type "object") = some true)
  (s_SumError_NoNet : PySem.W.subIn K (.ref zSumError) (.ref zNoNet) = some false)
  (ne_SumError_NoNet : zSumError ≠ zNoNet)
  (s_NoNet_NoNet : PySem.W.subIn K (.ref zNoNet) (.ref zNoNet) = some true)
  (s_NoWorth_NoNet : PySem.W.subIn K (.ref zNoWorth) (.ref zNoNet) = some false)
  (ne_NoWorth_NoNet : zNoWorth ≠ zNoNet)
  (s_SumError_NoWorth : PySem.W.subIn K (.ref zSumError) (.ref zNoWorth) = some false)
  (ne_SumError_NoWorth : zSumError ≠ zNoWorth)
  (s_NoNet_NoWorth : PySem.W.subIn K (.ref zNoNet) (.ref zNoWorth) = some false)
  (ne_NoNet_NoWorth : zNoNet ≠ zNoWorth)
  (s_NoWorth_NoWorth : PySem.W.subIn K (.ref zNoWorth) (.ref zNoWorth) = some true)
  (s_SumError_SumError : PySem.W.subIn K (.ref zSumError) (.ref zSumError) = some true)
  (s_NoNet_SumError : PySem.W.subIn K (.ref zNoNet) (.ref zSumError) = some true)
  (s_NoWorth_SumError : PySem.W.subIn K (.ref zNoWorth) (.ref zSumError) = some true)
  (v_SumError : PySem.W.subIn K (.ref zSumError) (.type "ValueError") = some true)
  (v_NoNet : PySem.W.subIn K (.ref zNoNet) (.type "ValueError") = some true)
  (v_NoWorth : PySem.W.subIn K (.ref zNoWorth) (.type "ValueError") = some true)
  (at_Rests_m : PySem.W.findIn K (.ref zRests) "m" = some none)
  (n_len : PySem.W.nsIn K mainGlobals "len" = some none)
  (n_isinstance : PySem.W.nsIn K mainGlobals "isinstance" = some none)
  (n_tuple : PySem.W.nsIn K mainGlobals "tuple" = some none)
  (n_int : PySem.W.nsIn K mainGlobals "int" = some none)
  (n_bool : PySem.W.nsIn K mainGlobals "bool" = some none)
  (n_ValueError : PySem.W.nsIn K mainGlobals "ValueError" = some none)
  (n_WIDEST : PySem.W.nsIn K mainGlobals "WIDEST" = some (some (.int 1000000000 tkWIDEST)))
  (hn : PySem.W.specialIn K (.builtin "object.__class__") "__get__" = some (some (.builtin "getset_descriptor.__get__")))
  (ht : PySem.W.takesIn K (.builtin "object.__class__") = some true)
  : ∃ fd : FuncData, (∀ (s : Shared) (v : Value), BindsTo s fd ⟨[v], []⟩ [("script", v)]) ∧ ∀ base : Heap, K.In base → base.Ns mainGlobals mg → FnOk l.prog w K mg base CX0 20 fa fd ["script"] (spLaw K) := by
  have e := hfa.symm.trans (PySem.W.mg_of X G a_law)
  cases e
  have TT : Tx K mg ⟨zSumError, zNoNet, zNoWorth, zKind, zFewest, zWidest, zCounted, zLikeliest, zChances, zMusts, zRests⟩ := by
    constructor
    · exact ⟨_, _, ⟨PySem.W.mg_of X G a_common, fun_mk l_common c_common k_common, (Fun.binds (fun_mk l_common c_common k_common) (ps := ["one", "other"]) fun _ _ _ _ _ _ us hl => match us, hl with | [_, _], _ => rfl)⟩⟩
    · exact ⟨_, _, ⟨PySem.W.mg_of X G a_is_share, fun_mk l_is_share c_is_share k_is_share, (Fun.binds (fun_mk l_is_share c_is_share k_is_share) (ps := ["some"]) fun _ _ _ _ _ _ us hl => match us, hl with | [_], _ => rfl)⟩⟩
    · exact ⟨_, _, ⟨PySem.W.mg_of X G a__law_cell_at, fun_mk l__law_cell_at c__law_cell_at k__law_cell_at, (Fun.binds (fun_mk l__law_cell_at c__law_cell_at k__law_cell_at) (ps := ["script", "k"]) fun _ _ _ _ _ _ us hl => match us, hl with | [_, _], _ => rfl)⟩⟩
    · exact ⟨_, _, ⟨PySem.W.mg_of X G a__law_kind, fun_mk l__law_kind c__law_kind k__law_kind, (Fun.binds (fun_mk l__law_kind c__law_kind k__law_kind) (ps := ["which", "m"]) fun _ _ _ _ _ _ us hl => match us, hl with | [_, _], _ => rfl)⟩⟩
    · exact ⟨_, _, ⟨PySem.W.mg_of X G a__law_share, fun_mk l__law_share c__law_share k__law_share, (Fun.binds (fun_mk l__law_share c__law_share k__law_share) (ps := ["top", "below"]) fun _ _ _ _ _ _ us hl => match us, hl with | [_, _], _ => rfl)⟩⟩
    · exact ⟨_, _, ⟨PySem.W.mg_of X G a__law_none, fun_mk l__law_none c__law_none k__law_none, (Fun.binds (fun_mk l__law_none c__law_none k__law_none) (ps := ["which"]) fun _ _ _ _ _ _ us hl => match us, hl with | [_], _ => rfl)⟩⟩
    · exact ⟨_, _, ⟨PySem.W.mg_of X G a__law_rest, fun_mk l__law_rest c__law_rest k__law_rest, (Fun.binds (fun_mk l__law_rest c__law_rest k__law_rest) (ps := ["which"]) fun _ _ _ _ _ _ us hl => match us, hl with | [_], _ => rfl)⟩⟩
    · exact ⟨_, _, ⟨PySem.W.mg_of X G a__law_worth, fun_mk l__law_worth c__law_worth k__law_worth, (Fun.binds (fun_mk l__law_worth c__law_worth k__law_worth) (ps := ["which", "m", "cell"]) fun _ _ _ _ _ _ us hl => match us, hl with | [_, _, _], _ => rfl)⟩⟩
    · exact ⟨_, _, ⟨PySem.W.mg_of X G a__law_some, fun_mk l__law_some c__law_some k__law_some, (Fun.binds (fun_mk l__law_some c__law_some k__law_some) (ps := ["m", "cell"]) fun _ _ _ _ _ _ us hl => match us, hl with | [_, _], _ => rfl)⟩⟩
    · exact ⟨_, _, ⟨PySem.W.mg_of X G a__law_due, fun_mk l__law_due c__law_due k__law_due, (Fun.binds (fun_mk l__law_due c__law_due k__law_due) (ps := ["which", "m", "some"]) fun _ _ _ _ _ _ us hl => match us, hl with | [_, _, _], _ => rfl)⟩⟩
    · exact ⟨_, _, ⟨PySem.W.mg_of X G a__law_refused, fun_mk l__law_refused c__law_refused k__law_refused, (Fun.binds (fun_mk l__law_refused c__law_refused k__law_refused) (ps := ["m"]) fun _ _ _ _ _ _ us hl => match us, hl with | [_], _ => rfl)⟩⟩
    · exact ⟨PySem.W.mg_of X G g_Kind, ⟨p1Kind, p2Kind, p3Kind, p4Kind⟩, q1Kind, q2Kind, q3Kind, q4Kind⟩
    · exact ⟨q5Kind⟩
    · exact ⟨PySem.W.mg_of X G g_Fewest, ⟨p1Fewest, p2Fewest, p3Fewest, p4Fewest⟩, q1Fewest, q2Fewest, q3Fewest, q4Fewest⟩
    · exact ⟨q5Fewest⟩
    · exact ⟨PySem.W.mg_of X G g_Widest, ⟨p1Widest, p2Widest, p3Widest, p4Widest⟩, q1Widest, q2Widest, q3Widest, q4Widest⟩
    · exact ⟨q5Widest⟩
    · exact ⟨PySem.W.mg_of X G g_Counted, ⟨p1Counted, p2Counted, p3Counted, p4Counted⟩, q1Counted, q2Counted, q3Counted, q4Counted⟩
    · exact ⟨q5Counted⟩
    · exact ⟨PySem.W.mg_of X G g_Likeliest, ⟨p1Likeliest, p2Likeliest, p3Likeliest, p4Likeliest⟩, q1Likeliest, q2Likeliest, q3Likeliest, q4Likeliest⟩
    · exact ⟨q5Likeliest⟩
    · exact ⟨PySem.W.mg_of X G g_Chances, ⟨p1Chances, p2Chances, p3Chances, p4Chances⟩, q1Chances, q2Chances, q3Chances, q4Chances⟩
    · exact ⟨q5Chances⟩
    · exact ⟨PySem.W.mg_of X G g_Musts, ⟨p1Musts, p2Musts, p3Musts, p4Musts⟩, q1Musts, q2Musts, q3Musts, q4Musts⟩
    · exact ⟨q5Musts⟩
    · exact ⟨PySem.W.mg_of X G g_Rests, ⟨p1Rests, p2Rests, p3Rests, p4Rests⟩, q1Rests, q2Rests, q3Rests, q4Rests⟩
    · exact ⟨_, _, ⟨⟨a_Fewest_is_worth, i_Fewest_is_worth, k_Fewest_is_worth⟩, fun_mk l_Fewest_is_worth c_Fewest_is_worth k_Fewest_is_worth, (Fun.binds (fun_mk l_Fewest_is_worth c_Fewest_is_worth k_Fewest_is_worth) (ps := ["self", "some"]) fun _ _ _ _ _ _ us hl => match us, hl with | [_, _], _ => rfl)⟩⟩
    · exact ⟨_, _, ⟨⟨a_Widest_is_worth, i_Widest_is_worth, k_Widest_is_worth⟩, fun_mk l_Widest_is_worth c_Widest_is_worth k_Widest_is_worth, (Fun.binds (fun_mk l_Widest_is_worth c_Widest_is_worth k_Widest_is_worth) (ps := ["self", "some"]) fun _ _ _ _ _ _ us hl => match us, hl with | [_, _], _ => rfl)⟩⟩
    · exact ⟨_, _, ⟨⟨a_Counted_is_worth, i_Counted_is_worth, k_Counted_is_worth⟩, fun_mk l_Counted_is_worth c_Counted_is_worth k_Counted_is_worth, (Fun.binds (fun_mk l_Counted_is_worth c_Counted_is_worth k_Counted_is_worth) (ps := ["self", "some"]) fun _ _ _ _ _ _ us hl => match us, hl with | [_, _], _ => rfl)⟩⟩
    · exact ⟨_, _, ⟨⟨a_Likeliest_is_worth, i_Likeliest_is_worth, k_Likeliest_is_worth⟩, fun_mk l_Likeliest_is_worth c_Likeliest_is_worth k_Likeliest_is_worth, (Fun.binds (fun_mk l_Likeliest_is_worth c_Likeliest_is_worth k_Likeliest_is_worth) (ps := ["self", "some"]) fun _ _ _ _ _ _ us hl => match us, hl with | [_, _], _ => rfl)⟩⟩
    · exact ⟨_, _, ⟨⟨a_Chances_is_worth, i_Chances_is_worth, k_Chances_is_worth⟩, fun_mk l_Chances_is_worth c_Chances_is_worth k_Chances_is_worth, (Fun.binds (fun_mk l_Chances_is_worth c_Chances_is_worth k_Chances_is_worth) (ps := ["self", "some"]) fun _ _ _ _ _ _ us hl => match us, hl with | [_, _], _ => rfl)⟩⟩
    · exact ⟨_, _, ⟨⟨a_Musts_is_worth, i_Musts_is_worth, k_Musts_is_worth⟩, fun_mk l_Musts_is_worth c_Musts_is_worth k_Musts_is_worth, (Fun.binds (fun_mk l_Musts_is_worth c_Musts_is_worth k_Musts_is_worth) (ps := ["self", "some"]) fun _ _ _ _ _ _ us hl => match us, hl with | [_, _], _ => rfl)⟩⟩
    · exact ⟨_, _, ⟨⟨q2Rests, a_Rests___init__, i_Rests___init__, q1Rests⟩, fun_mk l_Rests___init__ c_Rests___init__ k_Rests___init__, (Fun.binds (fun_mk l_Rests___init__ c_Rests___init__ k_Rests___init__) (ps := ["self", "m"]) fun _ _ _ _ _ _ us hl => match us, hl with | [_, _], _ => rfl)⟩⟩
    · exact ⟨_, _, ⟨⟨a_Rests_is_worth, i_Rests_is_worth, k_Rests_is_worth⟩, fun_mk l_Rests_is_worth c_Rests_is_worth k_Rests_is_worth, (Fun.binds (fun_mk l_Rests_is_worth c_Rests_is_worth k_Rests_is_worth) (ps := ["self", "some"]) fun _ _ _ _ _ _ us hl => match us, hl with | [_, _], _ => rfl)⟩⟩
    · exact ⟨PySem.W.mg_of X G g_SumError, e0SumError, e1SumError, e2SumError, e3SumError, e4SumError, ⟨e5SumError, e6SumError, e2SumError, e7SumError, e8SumError, hn, ht, e9SumError⟩⟩
    · exact ⟨PySem.W.mg_of X G g_NoNet, e0NoNet, e1NoNet, e2NoNet, e3NoNet, e4NoNet, ⟨e5NoNet, e6NoNet, e2NoNet, e7NoNet, e8NoNet, hn, ht, e9NoNet⟩⟩
    · exact ⟨PySem.W.mg_of X G g_NoWorth, e0NoWorth, e1NoWorth, e2NoWorth, e3NoWorth, e4NoWorth, ⟨e5NoWorth, e6NoWorth, e2NoWorth, e7NoWorth, e8NoWorth, hn, ht, e9NoWorth⟩⟩
    · exact kit_ref e4NoNet e3NoNet s_SumError_NoNet (.inl ne_SumError_NoNet)
    · exact kit_ref e4NoNet e3NoNet s_NoNet_NoNet (.inr rfl)
    · exact kit_ref e4NoNet e3NoNet s_NoWorth_NoNet (.inl ne_NoWorth_NoNet)
    · exact kit_ref e4NoWorth e3NoWorth s_SumError_NoWorth (.inl ne_SumError_NoWorth)
    · exact kit_ref e4NoWorth e3NoWorth s_NoNet_NoWorth (.inl ne_NoNet_NoWorth)
    · exact kit_ref e4NoWorth e3NoWorth s_NoWorth_NoWorth (.inr rfl)
    · exact kit_ref e4SumError e3SumError s_SumError_SumError (.inr rfl)
    · exact kit_ref e4SumError e3SumError s_NoNet_SumError (.inr rfl)
    · exact kit_ref e4SumError e3SumError s_NoWorth_SumError (.inr rfl)
    · exact exm_of_kit e2SumError e4SumError e3SumError s_SumError_SumError
    · exact exm_of_kit e2SumError e4SumError e3SumError s_NoNet_SumError
    · exact exm_of_kit e2SumError e4SumError e3SumError s_NoWorth_SumError
    · exact kit_val v_SumError
    · exact kit_val v_NoNet
    · exact kit_val v_NoWorth
    · exact at_Rests_m
    · exact PySem.W.mg_none_of X G n_len
    · exact PySem.W.mg_none_of X G n_isinstance
    · exact PySem.W.mg_none_of X G n_tuple
    · exact PySem.W.mg_none_of X G n_int
    · exact PySem.W.mg_none_of X G n_bool
    · exact PySem.W.mg_none_of X G n_ValueError
    · exact ⟨_, PySem.W.mg_of X G n_WIDEST, ⟨_, rfl⟩⟩
    · exact hn
    · exact ht
  exact ⟨PySem.W.fnOf "law" "law" (defArgs s_law) (defBody s_law) (defScope s_law) .none kV_law dc_law pm_law an_law cd_law ct_law, fun s v => .of_eq rfl, fun base _ _ => ok_law TT (fun_mk (st := s_law) l_law c_law k_law)⟩
theorem walk {l : PySem.W.OpenLaw} {q : Program} {loose : List Str} {XP : (Str → Option Value) → Heap → Prop} {YP : World → Heap → Prop} {d : DefRec} {K : Params → PySem.W.Frag} (hn : l.most = some 63) (hdf : d.params.defaults = [])
    (hY : ∀ (w : World) (h : Heap), YP w h → (K w.params).In h)
    (F : ∀ (w : World) (mg : Str → Option Value) (fa : Addr) (h : Heap), (K w.params).In h → h.Ns mainGlobals mg → mg d.name = some (.ref fa) →
      ∃ fd : FuncData, (∀ (s : Shared) (u : Value), BindsTo s fd ⟨[u], []⟩ [("script", u)]) ∧ ∀ base : Heap, (K w.params).In base → base.Ns mainGlobals mg → FnOk l.prog w (K w.params) mg base CX0 20 fa fd ["script"] (spLaw (K w.params))) :
    PySem.W.WalkO q loose XP YP l.row.toRowW d [] (fun f vs => PySem.call f vs) :=
  L2.walk_of (n := 63) (k := 20) (x := "script") (CX := fun _ => CX0) (sp := fun w => spLaw (K w.params)) hn (by decide) hdf ⟨rfl, by decide, by decide⟩ hY F (fun _ _ a ns hl _ hS => ⟨a, ns, rfl, hS, hl, fun _ => rfl⟩) fun _ _ _ _ _ z => z
end Ws
open PySem PySem.W PyProof.Rows in
open_top whead for PySem.Challenge.rw_waysum_k02_what_is_a_worth
open PySem PySem.W PyProof.Rows in
set_option maxRecDepth 100000 in
set_option maxHeartbeats 0 in
theorem PySem.Challenge.cw_waysum_k02_what_is_a_worth_holds : PySem.Challenge.rw_waysum_k02_what_is_a_worth.Holds := by
  refine whead ?_
  k_fill
  refine Ws.walk (l := PySem.Challenge.rw_waysum_k02_what_is_a_worth) rfl rfl (fun w h Y => PySem.W.kIn_of Y) ?F
  case F =>
    intro w mg fa h KX G hmg
    refine' Ws.fin KX G hmg ?g_SumError ?g_NoNet ?g_NoWorth ?g_Kind ?g_Fewest ?g_Widest ?g_Counted ?g_Likeliest ?g_Chances ?g_Musts ?g_Rests ?a_common ?l_common ?c_common ?k_common ?a_is_share ?l_is_share ?c_is_share ?k_is_share ?a__law_cell_at ?l__law_cell_at ?c__law_cell_at ?k__law_cell_at ?a__law_kind ?l__law_kind ?c__law_kind ?k__law_kind ?a__law_share ?l__law_share ?c__law_share ?k__law_share ?a__law_none ?l__law_none ?c__law_none ?k__law_none ?a__law_rest ?l__law_rest ?c__law_rest ?k__law_rest ?a__law_worth ?l__law_worth ?c__law_worth ?k__law_worth ?a__law_some ?l__law_some ?c__law_some ?k__law_some ?a__law_due ?l__law_due ?c__law_due ?k__law_due ?a__law_refused ?l__law_refused ?c__law_refused ?k__law_refused ?a_law ?l_law ?c_law ?k_law ?p1Kind ?p2Kind ?p3Kind ?p4Kind ?q1Kind ?q2Kind ?q3Kind ?q4Kind ?q5Kind ?p1Fewest ?p2Fewest ?p3Fewest ?p4Fewest ?q1Fewest ?q2Fewest ?q3Fewest ?q4Fewest ?q5Fewest ?p1Widest ?p2Widest ?p3Widest ?p4Widest ?q1Widest ?q2Widest ?q3Widest ?q4Widest ?q5Widest ?p1Counted ?p2Counted ?p3Counted ?p4Counted ?q1Counted ?q2Counted ?q3Counted ?q4Counted ?q5Counted ?p1Likeliest ?p2Likeliest ?p3Likeliest ?p4Likeliest ?q1Likeliest ?q2Likeliest ?q3Likeliest ?q4Likeliest ?q5Likeliest ?p1Chances ?p2Chances ?p3Chances ?p4Chances ?q1Chances ?q2Chances ?q3Chances ?q4Chances ?q5Chances ?p1Musts ?p2Musts ?p3Musts ?p4Musts ?q1Musts ?q2Musts ?q3Musts ?q4Musts ?q5Musts ?p1Rests ?p2Rests ?p3Rests ?p4Rests ?q1Rests ?q2Rests ?q3Rests ?q4Rests ?a_Fewest_is_worth ?i_Fewest_is_worth ?l_Fewest_is_worth ?c_Fewest_is_worth ?k_Fewest_is_worth ?a_Widest_is_worth ?i_Widest_is_worth ?l_Widest_is_worth ?c_Widest_is_worth ?k_Widest_is_worth ?a_Counted_is_worth ?i_Counted_is_worth ?l_Counted_is_worth ?c_Counted_is_worth ?k_Counted_is_worth ?a_Likeliest_is_worth ?i_Likeliest_is_worth ?l_Likeliest_is_worth ?c_Likeliest_is_worth ?k_Likeliest_is_worth ?a_Chances_is_worth ?i_Chances_is_worth ?l_Chances_is_worth ?c_Chances_is_worth ?k_Chances_is_worth ?a_Musts_is_worth ?i_Musts_is_worth ?l_Musts_is_worth ?c_Musts_is_worth ?k_Musts_is_worth ?a_Rests___init__ ?i_Rests___init__ ?l_Rests___init__ ?c_Rests___init__ ?k_Rests___init__ ?a_Rests_is_worth ?i_Rests_is_worth ?l_Rests_is_worth ?c_Rests_is_worth ?k_Rests_is_worth ?e0SumError ?e1SumError ?e2SumError ?e3SumError ?e4SumError ?e5SumError ?e6SumError ?e7SumError ?e8SumError ?e9SumError ?e0NoNet ?e1NoNet ?e2NoNet ?e3NoNet ?e4NoNet ?e5NoNet ?e6NoNet ?e7NoNet ?e8NoNet ?e9NoNet ?e0NoWorth ?e1NoWorth ?e2NoWorth ?e3NoWorth ?e4NoWorth ?e5NoWorth ?e6NoWorth ?e7NoWorth ?e8NoWorth ?e9NoWorth ?s_SumError_NoNet ?ne_SumError_NoNet ?s_NoNet_NoNet ?s_NoWorth_NoNet ?ne_NoWorth_NoNet ?s_SumError_NoWorth ?ne_SumError_NoWorth ?s_NoNet_NoWorth ?ne_NoNet_NoWorth ?s_NoWorth_NoWorth ?s_SumError_SumError ?s_NoNet_SumError ?s_NoWorth_SumError ?v_SumError ?v_NoNet ?v_NoWorth ?at_Rests_m ?n_len ?n_isinstance ?n_tuple ?n_int ?n_bool ?n_ValueError ?n_WIDEST ?hn ?ht
    (case g_SumError => k_is)
    (case g_NoNet => k_is)
    (case g_NoWorth => k_is)
    (case g_Kind => k_is)
    (case g_Fewest => k_is)
    (case g_Widest => k_is)
    (case g_Counted => k_is)
    (case g_Likeliest => k_is)
    (case g_Chances => k_is)
    (case g_Musts => k_is)
    (case g_Rests => k_is)
    (case a_common => k_is)
    (case l_common => k_is)
    (case c_common => k_is)
    (case k_common => k_is)
    (case a_is_share => k_is)
    (case l_is_share => k_is)
    (case c_is_share => k_is)
    (case k_is_share => k_is)
    (case a__law_cell_at => k_is)
    (case l__law_cell_at => k_is)
    (case c__law_cell_at => k_is)
    (case k__law_cell_at => k_is)
    (case a__law_kind => k_is)
    (case l__law_kind => k_is)
    (case c__law_kind => k_is)
    (case k__law_kind => k_is)
    (case a__law_share => k_is)
    (case l__law_share => k_is)
    (case c__law_share => k_is)
    (case k__law_share => k_is)
    (case a__law_none => k_is)
    (case l__law_none => k_is)
    (case c__law_none => k_is)
    (case k__law_none => k_is)
    (case a__law_rest => k_is)
    (case l__law_rest => k_is)
    (case c__law_rest => k_is)
    (case k__law_rest => k_is)
    (case a__law_worth => k_is)
    (case l__law_worth => k_is)
    (case c__law_worth => k_is)
    (case k__law_worth => k_is)
    (case a__law_some => k_is)
    (case l__law_some => k_is)
    (case c__law_some => k_is)
    (case k__law_some => k_is)
    (case a__law_due => k_is)
    (case l__law_due => k_is)
    (case c__law_due => k_is)
    (case k__law_due => k_is)
    (case a__law_refused => k_is)
    (case l__law_refused => k_is)
    (case c__law_refused => k_is)
    (case k__law_refused => k_is)
    (case a_law => k_is)
    (case l_law => k_is)
    (case c_law => k_is)
    (case k_law => k_is)
    (case p1Kind => k_is)
    (case p2Kind => k_is)
    (case p3Kind => k_is)
    (case p4Kind => k_is)
    (case q1Kind => k_is)
    (case q2Kind => k_is)
    (case q3Kind => k_is)
    (case q4Kind => k_is)
    (case q5Kind => k_is)
    (case p1Fewest => k_is)
    (case p2Fewest => k_is)
    (case p3Fewest => k_is)
    (case p4Fewest => k_is)
    (case q1Fewest => k_is)
    (case q2Fewest => k_is)
    (case q3Fewest => k_is)
    (case q4Fewest => k_is)
    (case q5Fewest => k_is)
    (case p1Widest => k_is)
    (case p2Widest => k_is)
    (case p3Widest => k_is)
    (case p4Widest => k_is)
    (case q1Widest => k_is)
    (case q2Widest => k_is)
    (case q3Widest => k_is)
    (case q4Widest => k_is)
    (case q5Widest => k_is)
    (case p1Counted => k_is)
    (case p2Counted => k_is)
    (case p3Counted => k_is)
    (case p4Counted => k_is)
    (case q1Counted => k_is)
    (case q2Counted => k_is)
    (case q3Counted => k_is)
    (case q4Counted => k_is)
    (case q5Counted => k_is)
    (case p1Likeliest => k_is)
    (case p2Likeliest => k_is)
    (case p3Likeliest => k_is)
    (case p4Likeliest => k_is)
    (case q1Likeliest => k_is)
    (case q2Likeliest => k_is)
    (case q3Likeliest => k_is)
    (case q4Likeliest => k_is)
    (case q5Likeliest => k_is)
    (case p1Chances => k_is)
    (case p2Chances => k_is)
    (case p3Chances => k_is)
    (case p4Chances => k_is)
    (case q1Chances => k_is)
    (case q2Chances => k_is)
    (case q3Chances => k_is)
    (case q4Chances => k_is)
    (case q5Chances => k_is)
    (case p1Musts => k_is)
    (case p2Musts => k_is)
    (case p3Musts => k_is)
    (case p4Musts => k_is)
    (case q1Musts => k_is)
    (case q2Musts => k_is)
    (case q3Musts => k_is)
    (case q4Musts => k_is)
    (case q5Musts => k_is)
    (case p1Rests => k_is)
    (case p2Rests => k_is)
    (case p3Rests => k_is)
    (case p4Rests => k_is)
    (case q1Rests => k_is)
    (case q2Rests => k_is)
    (case q3Rests => k_is)
    (case q4Rests => k_is)
    (case a_Fewest_is_worth => k_is)
    (case i_Fewest_is_worth => k_is)
    (case l_Fewest_is_worth => k_is)
    (case c_Fewest_is_worth => k_is)
    (case k_Fewest_is_worth => k_is)
    (case a_Widest_is_worth => k_is)
    (case i_Widest_is_worth => k_is)
    (case l_Widest_is_worth => k_is)
    (case c_Widest_is_worth => k_is)
    (case k_Widest_is_worth => k_is)
    (case a_Counted_is_worth => k_is)
    (case i_Counted_is_worth => k_is)
    (case l_Counted_is_worth => k_is)
    (case c_Counted_is_worth => k_is)
    (case k_Counted_is_worth => k_is)
    (case a_Likeliest_is_worth => k_is)
    (case i_Likeliest_is_worth => k_is)
    (case l_Likeliest_is_worth => k_is)
    (case c_Likeliest_is_worth => k_is)
    (case k_Likeliest_is_worth => k_is)
    (case a_Chances_is_worth => k_is)
    (case i_Chances_is_worth => k_is)
    (case l_Chances_is_worth => k_is)
    (case c_Chances_is_worth => k_is)
    (case k_Chances_is_worth => k_is)
    (case a_Musts_is_worth => k_is)
    (case i_Musts_is_worth => k_is)
    (case l_Musts_is_worth => k_is)
    (case c_Musts_is_worth => k_is)
    (case k_Musts_is_worth => k_is)
    (case a_Rests___init__ => k_is)
    (case i_Rests___init__ => k_is)
    (case l_Rests___init__ => k_is)
    (case c_Rests___init__ => k_is)
    (case k_Rests___init__ => k_is)
    (case a_Rests_is_worth => k_is)
    (case i_Rests_is_worth => k_is)
    (case l_Rests_is_worth => k_is)
    (case c_Rests_is_worth => k_is)
    (case k_Rests_is_worth => k_is)
    (case e0SumError => k_is)
    (case e1SumError => k_exc)
    (case e2SumError => k_is)
    (case e3SumError => k_is)
    (case e4SumError => k_is)
    (case e5SumError => k_is)
    (case e6SumError => k_is)
    (case e7SumError => k_is)
    (case e8SumError => k_is)
    (case e9SumError => k_is)
    (case e0NoNet => k_is)
    (case e1NoNet => k_exc)
    (case e2NoNet => k_is)
    (case e3NoNet => k_is)
    (case e4NoNet => k_is)
    (case e5NoNet => k_is)
    (case e6NoNet => k_is)
    (case e7NoNet => k_is)
    (case e8NoNet => k_is)
    (case e9NoNet => k_is)
    (case e0NoWorth => k_is)
    (case e1NoWorth => k_exc)
    (case e2NoWorth => k_is)
    (case e3NoWorth => k_is)
    (case e4NoWorth => k_is)
    (case e5NoWorth => k_is)
    (case e6NoWorth => k_is)
    (case e7NoWorth => k_is)
    (case e8NoWorth => k_is)
    (case e9NoWorth => k_is)
    (case s_SumError_NoNet => k_is)
    (case ne_SumError_NoNet => decide)
    (case s_NoNet_NoNet => k_is)
    (case s_NoWorth_NoNet => k_is)
    (case ne_NoWorth_NoNet => decide)
    (case s_SumError_NoWorth => k_is)
    (case ne_SumError_NoWorth => decide)
    (case s_NoNet_NoWorth => k_is)
    (case ne_NoNet_NoWorth => decide)
    (case s_NoWorth_NoWorth => k_is)
    (case s_SumError_SumError => k_is)
    (case s_NoNet_SumError => k_is)
    (case s_NoWorth_SumError => k_is)
    (case v_SumError => k_is)
    (case v_NoNet => k_is)
    (case v_NoWorth => k_is)
    (case at_Rests_m => k_is)
    (case n_len => k_is)
    (case n_isinstance => k_is)
    (case n_tuple => k_is)
    (case n_int => k_is)
    (case n_bool => k_is)
    (case n_ValueError => k_is)
    (case n_WIDEST => k_is)
    (case hn => k_is)
    (case ht => k_is)
#print axioms PySem.Challenge.cw_waysum_k02_what_is_a_worth_holds
