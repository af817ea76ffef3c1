import PyProof.Rows.All
import PySr59
import Wide.All
import OpenK.AllK
import Wide.FinOn
import KE.KStateDown
import KE.OsHead
import HandS.ForSpec
import HandS.Defaults
import HandS.HeadHook2
import HandS.Head4
import PySem.Challenge.RW_fewcoins_s01_answers
import HandS.ForMost
import HandS.Evl
import HandS.NoneIn
import HandS.Conv
import HandS.Wide
import HandS.CallLocal
import HandS.Strs
import HandS.SetFor
import HandS.SortInts
import HandS.TupSets
import KE.OsArith
import KE.BitLaws
import HandS.Text
set_option Elab.async false
set_option linter.all false
set_option maxRecDepth 100000
set_option maxHeartbeats 4000000
/-! M1: the field and the coins, in plain Lean: what the program's loops compute is what the specification says. -/
namespace Fc
open Sr59 (twice mul pow poly up xor1 Space part valueAt)
/-! ### looking through all numbers below a bound -/
def chk (p : Nat → Bool) : Nat → Bool
  | 0 => true
  | n + 1 => p n && chk p n
theorem chk_ok {p : Nat → Bool} : ∀ {n : Nat}, chk p n = true → ∀ i, i < n → p i = true
  | 0, _, i, hi => absurd hi (Nat.not_lt_zero i)
  | n + 1, h, i, hi => by
    have h' : (p n && chk p n) = true := h
    rw [Bool.and_eq_true] at h'
    by_cases e : i = n
    · subst e; exact h'.1
    · exact chk_ok h'.2 i (by omega)
/-! ### the product's loop -/
/-- what is found, and the part, behind i places -/
def pr (m x y : Nat) : Nat → Nat × Nat
  | 0 => (0, x)
  | i + 1 => (if y / 2 ^ i % 2 = 1 then Nat.xor (pr m x y i).1 (pr m x y i).2 else (pr m x y i).1, twice m (pr m x y i).2)
def mOk (m : Nat) : Prop := 1 ≤ m ∧ m ≤ 6
def chk2 (m : Nat) (p : Nat → Nat → Bool) : Bool := chk (fun x => chk (fun y => p x y) (2 ^ m)) (2 ^ m)
theorem chk2_ok {m : Nat} {p : Nat → Nat → Bool} (h : chk2 m p = true) {x y : Nat} (hx : x < 2 ^ m) (hy : y < 2 ^ m) : p x y = true :=
  chk_ok (chk_ok h x hx) y hy
def mulB (m x y : Nat) : Bool := (pr m x y m).1 == mul m x y && Nat.blt (mul m x y) (2 ^ m)
theorem mulB_1 : chk2 1 (mulB 1) = true := by decide +kernel
theorem mulB_2 : chk2 2 (mulB 2) = true := by decide +kernel
theorem mulB_3 : chk2 3 (mulB 3) = true := by decide +kernel
theorem mulB_4 : chk2 4 (mulB 4) = true := by decide +kernel
theorem mulB_5 : chk2 5 (mulB 5) = true := by decide +kernel
theorem mulB_6 : chk2 6 (mulB 6) = true := by decide +kernel
theorem six {P : Nat → Prop} {m : Nat} (h : mOk m) (h1 : P 1) (h2 : P 2) (h3 : P 3) (h4 : P 4) (h5 : P 5) (h6 : P 6) : P m := by
  obtain ⟨a, b⟩ := h
  match m, a, b with
  | 1, _, _ => exact h1
  | 2, _, _ => exact h2
  | 3, _, _ => exact h3
  | 4, _, _ => exact h4
  | 5, _, _ => exact h5
  | 6, _, _ => exact h6
theorem mulB_all {m : Nat} (h : mOk m) : chk2 m (mulB m) = true := six (P := fun m => chk2 m (mulB m) = true) h mulB_1 mulB_2 mulB_3 mulB_4 mulB_5 mulB_6
theorem blt_lt {a b : Nat} (h : Nat.blt a b = true) : a < b := by
  unfold Nat.blt at h
  exact Nat.le_of_ble_eq_true h
theorem pr_mul {m x y : Nat} (h : mOk m) (hx : x < 2 ^ m) (hy : y < 2 ^ m) : (pr m x y m).1 = mul m x y := by
  have q := chk2_ok (mulB_all h) hx hy
  unfold mulB at q
  rw [Bool.and_eq_true] at q
  exact eq_of_beq q.1
theorem mul_lt {m x y : Nat} (h : mOk m) (hx : x < 2 ^ m) (hy : y < 2 ^ m) : mul m x y < 2 ^ m := by
  have q := chk2_ok (mulB_all h) hx hy
  unfold mulB at q
  rw [Bool.and_eq_true] at q
  exact blt_lt q.2
def oneB (m x : Nat) : Bool := mul m x 1 == x && mul m 1 x == x && mul m 0 x == 0 && Nat.blt (twice m x) (2 ^ m)
theorem oneB_all {m : Nat} (h : mOk m) : chk (oneB m) (2 ^ m) = true :=
  six (P := fun m => chk (oneB m) (2 ^ m) = true) h (by decide +kernel) (by decide +kernel) (by decide +kernel) (by decide +kernel) (by decide +kernel) (by decide +kernel)
theorem one_facts {m x : Nat} (h : mOk m) (hx : x < 2 ^ m) : mul m x 1 = x ∧ mul m 1 x = x ∧ mul m 0 x = 0 ∧ twice m x < 2 ^ m := by
  have q := chk_ok (oneB_all h) x hx
  unfold oneB at q
  simp only [Bool.and_eq_true] at q
  exact ⟨eq_of_beq q.1.1.1, eq_of_beq q.1.1.2, eq_of_beq q.1.2, blt_lt q.2⟩
theorem one_lt {m : Nat} (h : mOk m) : 1 < 2 ^ m := by
  obtain ⟨a, b⟩ := h
  have : 2 ^ 1 ≤ 2 ^ m := Nat.pow_le_pow_right (by decide) a
  omega
theorem pow_lt {m x : Nat} (h : mOk m) (hx : x < 2 ^ m) : ∀ e, pow m x e < 2 ^ m
  | 0 => one_lt h
  | e + 1 => mul_lt h (pow_lt h hx e) hx
theorem pr_part_lt {m x y : Nat} (h : mOk m) (hx : x < 2 ^ m) : ∀ i, (pr m x y i).2 < 2 ^ m
  | 0 => hx
  | i + 1 => (one_facts h (pr_part_lt h hx i)).2.2.2
theorem pr_found_lt {m x y : Nat} (h : mOk m) (hx : x < 2 ^ m) : ∀ i, (pr m x y i).1 < 2 ^ m
  | 0 => Nat.two_pow_pos m
  | i + 1 => by
    show (if y / 2 ^ i % 2 = 1 then Nat.xor (pr m x y i).1 (pr m x y i).2 else (pr m x y i).1) < 2 ^ m
    split
    · exact Nat.xor_lt_two_pow (pr_found_lt h hx i) (pr_part_lt h hx i)
    · exact pr_found_lt h hx i
/-! ### k by k -/
/-- the loop of plain_coin -/
def lp (m i : Nat) : List Nat → Nat → Nat → Nat
  | [], _, r => r
  | n :: l, f, r => lp m i l (mul m f i) (Nat.xor r (mul m n f))
/-- the specification's, from the last number on -/
def hn (m i : Nat) : List Nat → Nat
  | [] => 0
  | n :: l => Nat.xor (mul m (hn m i l) i) n
def triB (m x y z : Nat) : Bool := mul m (mul m x y) z == mul m x (mul m y z) && mul m x y == mul m y x && mul m (Nat.xor x y) z == Nat.xor (mul m x z) (mul m y z)
def chk3 (m : Nat) : Bool := chk (fun x => chk2 m (triB m x)) (2 ^ m)
theorem tri_all {m : Nat} (h1 : 1 ≤ m) (h3 : m ≤ 3) : chk3 m = true := by
  match m, h1, h3 with
  | 1, _, _ => decide +kernel
  | 2, _, _ => decide +kernel
  | 3, _, _ => decide +kernel
theorem tri_facts {m x y z : Nat} (h1 : 1 ≤ m) (h3 : m ≤ 3) (hx : x < 2 ^ m) (hy : y < 2 ^ m) (hz : z < 2 ^ m) :
    mul m (mul m x y) z = mul m x (mul m y z) ∧ mul m x y = mul m y x ∧ mul m (Nat.xor x y) z = Nat.xor (mul m x z) (mul m y z) := by
  have q := chk2_ok (chk_ok (tri_all h1 h3) x hx) hy hz
  unfold triB at q
  simp only [Bool.and_eq_true] at q
  exact ⟨eq_of_beq q.1.1, eq_of_beq q.1.2, eq_of_beq q.2⟩
theorem hn_lt {m i : Nat} (h : mOk m) (hi : i < 2 ^ m) : ∀ {l : List Nat}, (∀ n ∈ l, n < 2 ^ m) → hn m i l < 2 ^ m
  | [], _ => Nat.two_pow_pos m
  | n :: l, hl => Nat.xor_lt_two_pow (mul_lt h (hn_lt h hi fun k hk => hl k (List.mem_cons_of_mem _ hk)) hi) (hl n List.mem_cons_self)
theorem lp_hn {m i : Nat} (h1 : 1 ≤ m) (h3 : m ≤ 3) (hi : i < 2 ^ m) : ∀ (l : List Nat) (f r : Nat), (∀ n ∈ l, n < 2 ^ m) → f < 2 ^ m → lp m i l f r = Nat.xor r (mul m (hn m i l) f)
  | [], f, r, _, hf => by
    have h : mOk m := ⟨h1, by omega⟩
    show r = Nat.xor r (mul m 0 f)
    rw [(one_facts h hf).2.2.1]
    exact (Nat.xor_zero r).symm
  | n :: l, f, r, hl, hf => by
    have h : mOk m := ⟨h1, by omega⟩
    have hl' : ∀ k ∈ l, k < 2 ^ m := fun k hk => hl k (List.mem_cons_of_mem _ hk)
    have hn' : n < 2 ^ m := hl n List.mem_cons_self
    have hh : hn m i l < 2 ^ m := hn_lt h hi hl'
    have hfi : mul m f i < 2 ^ m := mul_lt h hf hi
    show lp m i l (mul m f i) (Nat.xor r (mul m n f)) = Nat.xor r (mul m (Nat.xor (mul m (hn m i l) i) n) f)
    rw [lp_hn h1 h3 hi l _ _ hl' hfi]
    rw [(tri_facts h1 h3 (mul_lt h hh hi) hn' hf).2.2, (tri_facts h1 h3 hh hi hf).1, (tri_facts h1 h3 hf hi hi).2.1]
    show Nat.xor (Nat.xor r (mul m n f)) (mul m (hn m i l) (mul m i f)) = Nat.xor r (Nat.xor (mul m (hn m i l) (mul m i f)) (mul m n f))
    have e1 : Nat.xor (Nat.xor r (mul m n f)) (mul m (hn m i l) (mul m i f)) = Nat.xor r (Nat.xor (mul m n f) (mul m (hn m i l) (mul m i f))) := Nat.xor_assoc _ _ _
    have e2 : Nat.xor (mul m n f) (mul m (hn m i l) (mul m i f)) = Nat.xor (mul m (hn m i l) (mul m i f)) (mul m n f) := Nat.xor_comm _ _
    rw [e1, e2]
theorem zxor (a : Nat) : Nat.xor 0 a = a := Nat.zero_xor a
/-- what begin lets be told of m and k -/
structure MkOk (m k : Nat) : Prop where
  m1 : 1 ≤ m
  m6 : m ≤ 6
  k1 : 1 ≤ k
  mk10 : m * k ≤ 10
theorem MkOk.m {m k : Nat} (h : MkOk m k) : mOk m := ⟨h.m1, h.m6⟩
theorem lp_is {m k i : Nat} (h : MkOk m k) (hi : i < 2 ^ m) {l : List Nat} (hk : l.length = k) (hl : ∀ n ∈ l, n < 2 ^ m) : lp m i l 1 0 = hn m i l := by
  have hm := h.m
  by_cases h3 : m ≤ 3
  · rw [lp_hn h.m1 h3 hi l 1 0 hl (one_lt hm), zxor, (one_facts hm (hn_lt hm hi hl)).1]
  · have h4 : 4 ≤ m := by omega
    have hk2 : k ≤ 2 := by
      have := h.mk10
      have q : 4 * k ≤ m * k := Nat.mul_le_mul_right k h4
      omega
    have hk1 := h.k1
    match l, hk, hl with
    | [], e, _ =>
      simp at e
      omega
    | [a], _, hl =>
      have ha := hl a (by simp)
      show Nat.xor 0 (mul m a 1) = Nat.xor (mul m 0 i) a
      rw [(one_facts hm ha).1, (one_facts hm hi).2.2.1]
    | [a, b], _, hl =>
      have ha := hl a (by simp)
      have hb := hl b (by simp)
      show Nat.xor (Nat.xor 0 (mul m a 1)) (mul m b (mul m 1 i)) = Nat.xor (mul m (Nat.xor (mul m 0 i) b) i) a
      rw [(one_facts hm ha).1, (one_facts hm hi).2.2.1, (one_facts hm hi).2.1, zxor, zxor]
      exact Nat.xor_comm _ _
    | a :: b :: c :: l, e, _ =>
      simp only [List.length_cons] at e
      omega
theorem hn_foldr (m i : Nat) : ∀ l : List Nat, hn m i l = l.foldr (fun n r => xor1 (mul m r i) n) 0
  | [] => rfl
  | n :: l => by
    show Nat.xor (mul m (hn m i l) i) n = Nat.xor (mul m (l.foldr (fun n r => xor1 (mul m r i) n) 0) i) n
    rw [hn_foldr m i l]
/-- a seed's numbers -/
def nums (s : Space) (x : Nat) : List Nat := (List.range s.k).map (part s x)
theorem nums_len (s : Space) (x : Nat) : (nums s x).length = s.k := by
  unfold nums
  rw [List.length_map, List.length_range]
theorem nums_lt (s : Space) (x : Nat) : ∀ n ∈ nums s x, n < 2 ^ s.m := fun n hn => by
  unfold nums at hn
  obtain ⟨j, _, rfl⟩ := List.mem_map.mp hn
  exact Nat.mod_lt _ (Nat.two_pow_pos _)
theorem value_is (s : Space) (x i : Nat) : valueAt s x i = hn s.m i (nums s x) := by
  unfold valueAt nums
  rw [hn_foldr, List.foldr_map, List.foldl_reverse]
theorem plain_is {s : Space} {x i : Nat} (h : MkOk s.m s.k) (hi : i < 2 ^ s.m) : lp s.m i (nums s x) 1 0 = valueAt s x i := by
  rw [lp_is h hi (nums_len s x) (nums_lt s x), value_is]
/-! ### faint -/
/-- whether an odd number of the lowest digits are 1, as 0 or 1 -/
def pb : Nat → Nat → Nat
  | 0, _ => 0
  | f + 1, n => Nat.xor (n % 2) (pb f (n / 2))
def oddB (m x y : Nat) : Bool := pb m (Nat.land x y) == (if Sr59.odd m x y then 1 else 0)
theorem oddB_all {m : Nat} (h1 : 1 ≤ m) (h4 : m ≤ 4) : chk2 m (oddB m) = true := by
  match m, h1, h4 with
  | 1, _, _ => decide +kernel
  | 2, _, _ => decide +kernel
  | 3, _, _ => decide +kernel
  | 4, _, _ => decide +kernel
theorem pb_odd {m x y : Nat} (h1 : 1 ≤ m) (h4 : m ≤ 4) (hx : x < 2 ^ m) (hy : y < 2 ^ m) : pb m (Nat.land x y) = if Sr59.odd m x y then 1 else 0 :=
  eq_of_beq (chk2_ok (oddB_all h1 h4) hx hy)
/-! ### what begin lets be told -/
structure SpOk (s : Space) : Prop where
  sz : MkOk s.m s.k
  f : s.faint = true → s.k = 2 ∧ s.m ≤ 4
/-- a seed's coins, as the program has them -/
def rowI (s : Space) (x : Nat) : List Int := (Sr59.row s x).map Sr58.bit
def rowsI (s : Space) : List (List Int) := (List.range (Sr59.seeds s)).map (rowI s)
def tableI (m : Nat) : List (List Int) := (List.range (2 ^ m)).map fun x => (List.range (2 ^ m)).map fun y => ((mul m x y : Nat) : Int)
theorem coin_plain {s : Space} {x i : Nat} (h : SpOk s) (hf : s.faint = false) (hi : i < 2 ^ s.m) : ((lp s.m i (nums s x) 1 0 % 2 : Nat) : Int) = Sr58.bit (Sr59.coin s x i) := by
  have e : Sr59.coin s x i = up (valueAt s x i) 0 := by
    unfold Sr59.coin
    rw [hf]
    rfl
  rw [e, plain_is h.sz hi]
  unfold up Sr58.bit
  rw [Nat.pow_zero, Nat.div_one]
  have q : valueAt s x i % 2 < 2 := Nat.mod_lt _ (by decide)
  by_cases c : valueAt s x i % 2 = 1
  · rw [c]; rfl
  · have c0 : valueAt s x i % 2 = 0 := by omega
    rw [c0]; rfl
theorem coin_faint {s : Space} {x i : Nat} (h : SpOk s) (hf : s.faint = true) : ((pb s.m (Nat.land (pow s.m (part s x 0) i) (part s x 1)) : Nat) : Int) = Sr58.bit (Sr59.coin s x i) := by
  have e : Sr59.coin s x i = Sr59.odd s.m (pow s.m (part s x 0) i) (part s x 1) := by
    unfold Sr59.coin
    rw [hf]
    rfl
  have hp : ∀ j, part s x j < 2 ^ s.m := fun j => Nat.mod_lt _ (Nat.two_pow_pos _)
  rw [e, pb_odd h.sz.m1 (h.f hf).2 (pow_lt h.sz.m (hp 0) i) (hp 1)]
  unfold Sr58.bit
  split <;> rfl
end Fc
/-! M2: fractions by the rationals, and the ways to choose, in plain Lean. -/
namespace Fc
open Sr58 (Frac frac plus times whole total)
/-! ### a fraction of the specification is a rational number -/
def toF (q : Rat) : Frac := ⟨q.num, q.den⟩
theorem toF_inj {a b : Rat} (h : toF a = toF b) : a = b := Rat.ext (congrArg Frac.n h) (congrArg Frac.d h)
theorem gcd_pos {n : Int} {d : Nat} (h : d ≠ 0) : 0 < Nat.gcd n.natAbs d := Nat.gcd_pos_of_pos_right _ (Nat.pos_of_ne_zero h)
theorem div_gcd_pos {n : Int} {d : Nat} (h : d ≠ 0) : 0 < d / Nat.gcd n.natAbs d := Nat.div_pos (Nat.le_of_dvd (Nat.pos_of_ne_zero h) (Nat.gcd_dvd_right _ _)) (gcd_pos h)
theorem frac_parts {n : Int} {d : Nat} (h : d ≠ 0) : frac n d = ⟨n / (Nat.gcd n.natAbs d : Int), d / Nat.gcd n.natAbs d⟩ := by
  unfold frac
  have h1 := gcd_pos (n := n) h
  have h2 := div_gcd_pos (n := n) h
  simp only
  rw [if_neg (by omega), if_neg (by omega)]
theorem frac_mk {n : Int} {d : Nat} (h : d ≠ 0) : frac n d = toF (mkRat n d) := by
  unfold mkRat toF
  rw [dif_neg h, Rat.normalize_eq, frac_parts h]
theorem plus_toF (a b : Rat) : plus (toF a) (toF b) = toF (a + b) := by
  show frac (a.num * (b.den : Int) + b.num * (a.den : Int)) (a.den * b.den) = toF (a + b)
  have h : a.den * b.den ≠ 0 := Nat.mul_ne_zero a.den_nz b.den_nz
  rw [frac_mk h, Rat.add_def]
  unfold mkRat
  rw [dif_neg h]
theorem times_toF (a b : Rat) : times (toF a) (toF b) = toF (a * b) := by
  show frac (a.num * b.num) (a.den * b.den) = toF (a * b)
  have h : a.den * b.den ≠ 0 := Nat.mul_ne_zero a.den_nz b.den_nz
  rw [frac_mk h, Rat.mul_def]
  unfold mkRat
  rw [dif_neg h]
theorem whole_toF (n : Int) : whole n = toF (mkRat n 1) := by
  rw [← frac_mk (by decide), frac_parts (by decide)]
  simp [whole]
theorem zero_mk (d : Nat) : mkRat 0 d = 0 := Rat.zero_mkRat d
theorem whole_zero : whole 0 = toF 0 := by rw [whole_toF, zero_mk]
def rsum (l : List Rat) : Rat := l.foldr (· + ·) 0
theorem foldl_plus : ∀ (l : List Rat) (a : Rat), (l.map toF).foldl plus (toF a) = toF (a + rsum l)
  | [], a => by
    show toF a = toF (a + 0)
    rw [Rat.add_zero]
  | x :: l, a => by
    show (l.map toF).foldl plus (plus (toF a) (toF x)) = toF (a + (x + rsum l))
    rw [plus_toF, foldl_plus l, Rat.add_assoc]
theorem total_toF (l : List Rat) : total (l.map toF) = toF (rsum l) := by
  unfold total
  rw [whole_zero, foldl_plus, Rat.zero_add]
theorem mk_add {n k : Int} {d : Nat} (h : d ≠ 0) : mkRat n d + mkRat k d = mkRat (n + k) d := by
  rw [Rat.mkRat_add_mkRat _ _ h h, Rat.mkRat_eq_iff (Nat.mul_ne_zero h h) h]
  rw [← Int.add_mul, Int.natCast_mul, Int.mul_assoc, Int.mul_comm (d : Int)]
theorem rsum_mk {α : Type} (f : α → Int) {d : Nat} (h : d ≠ 0) : ∀ l : List α, rsum (l.map fun x => mkRat (f x) d) = mkRat (l.map f).sum d
  | [] => by
    show (0 : Rat) = mkRat 0 d
    rw [zero_mk]
  | x :: l => by
    show mkRat (f x) d + rsum (l.map fun x => mkRat (f x) d) = mkRat (f x :: l.map f).sum d
    rw [rsum_mk f h l, mk_add h, List.sum_cons]
/-! ### the ways to choose -/
def ch : Nat → Nat → Nat
  | _, 0 => 1
  | 0, _ + 1 => 0
  | n + 1, k + 1 => ch n k + ch n (k + 1)
theorem ch_zero (n : Nat) : ch n 0 = 1 := by cases n <;> rfl
theorem ch_more : ∀ (n k : Nat), n < k → ch n k = 0
  | 0, 0, h => absurd h (by decide)
  | 0, k + 1, _ => rfl
  | n + 1, 0, h => absurd h (by omega)
  | n + 1, k + 1, h => by
    show ch n k + ch n (k + 1) = 0
    rw [ch_more n k (by omega), ch_more n (k + 1) (by omega)]
theorem ch_self : ∀ n : Nat, ch n n = 1
  | 0 => rfl
  | n + 1 => by
    show ch n n + ch n (n + 1) = 1
    rw [ch_self n, ch_more n (n + 1) (by omega)]
theorem ch_step : ∀ (n p : Nat), ch n (p + 1) * (p + 1) = ch n p * (n - p)
  | 0, 0 => rfl
  | 0, p + 1 => by
    show 0 * (p + 2) = 0 * (0 - (p + 1))
    rw [Nat.zero_mul, Nat.zero_mul]
  | n + 1, 0 => by
    have h := ch_step n 0
    rw [ch_zero, Nat.one_mul, Nat.sub_zero, Nat.zero_add, Nat.mul_one] at h
    show (ch n 0 + ch n 1) * 1 = ch (n + 1) 0 * (n + 1)
    rw [ch_zero, ch_zero, h]
    omega
  | n + 1, p + 1 => by
    have h1 := ch_step n p
    have h2 := ch_step n (p + 1)
    show (ch n (p + 1) + ch n (p + 2)) * (p + 2) = (ch n p + ch n (p + 1)) * (n + 1 - (p + 1))
    have e : n + 1 - (p + 1) = n - p := by omega
    rw [e, Nat.add_mul, Nat.add_mul, h2, ← h1]
    by_cases c : p + 1 ≤ n
    · rw [← Nat.mul_add, ← Nat.mul_add]
      congr 1
      omega
    · rw [ch_more n (p + 1) (by omega)]
      simp
theorem ch_le : ∀ (n k : Nat), ch n k ≤ 2 ^ n
  | 0, 0 => by decide
  | 0, k + 1 => by
    show 0 ≤ 2 ^ 0
    decide
  | n + 1, 0 => Nat.two_pow_pos _
  | n + 1, k + 1 => by
    have h1 := ch_le n k
    have h2 := ch_le n (k + 1)
    show ch n k + ch n (k + 1) ≤ 2 ^ (n + 1)
    rw [Nat.pow_succ]
    omega
/-- t or more of n -/
def ways (n t : Nat) : Nat := ((List.range (n + 1 - t)).map fun i => ch n (t + i)).sum
theorem sum_ch_le (n : Nat) : ∀ l : List Nat, (l.map (ch n)).sum ≤ l.length * 2 ^ n
  | [] => by simp
  | k :: l => by
    have h1 := ch_le n k
    have h2 := sum_ch_le n l
    rw [List.map_cons, List.sum_cons, List.length_cons, Nat.add_mul]
    omega
theorem ways_le (n t : Nat) : ways n t ≤ (n + 1) * 2 ^ n := by
  have e : (List.range (n + 1 - t)).map (fun i => ch n (t + i)) = ((List.range (n + 1 - t)).map (fun i => t + i)).map (ch n) := by
    rw [List.map_map]
    rfl
  unfold ways
  rw [e]
  refine Nat.le_trans (sum_ch_le n _) (Nat.mul_le_mul_right _ ?_)
  rw [List.length_map, List.length_range]
  omega
theorem drop_ways (n t : Nat) : ((List.range (n + 1)).drop t).map (ch n) = (List.range (n + 1 - t)).map fun i => ch n (t + i) := by
  apply List.ext_getElem
  · simp
  · intro i h1 h2
    simp
theorem range_self (n : Nat) : ways n n = 1 := by
  unfold ways
  have e : n + 1 - n = 1 := by omega
  rw [e]
  show ch n (n + 0) + 0 = 1
  rw [Nat.add_zero, Nat.add_zero, ch_self]
/-! ### coins that are true -/
def half : Rat := mkRat 1 2
def cR (n k : Nat) : Rat := mkRat (ch n k : Int) (2 ^ n)
theorem p2 (n : Nat) : (2 ^ n : Nat) ≠ 0 := Nat.ne_of_gt (Nat.two_pow_pos n)
theorem cR_more {n k : Nat} (h : n < k) : cR n k = 0 := by
  unfold cR
  rw [ch_more n k h]
  exact zero_mk _
theorem half_cR (n k : Nat) : half * cR n k = mkRat (ch n k : Int) (2 ^ (n + 1)) := by
  unfold half cR
  rw [Rat.mkRat_mul_mkRat, Int.one_mul, Nat.pow_succ, Nat.mul_comm]
theorem cR_zero (n : Nat) : half * cR n 0 = cR (n + 1) 0 := by
  rw [half_cR]
  unfold cR
  rw [ch_zero, ch_zero]
theorem cR_succ (n k : Nat) : half * cR n (k + 1) + half * cR n k = cR (n + 1) (k + 1) := by
  rw [half_cR, half_cR, mk_add (p2 _)]
  unfold cR
  show mkRat ((ch n (k + 1) : Int) + (ch n k : Int)) (2 ^ (n + 1)) = mkRat ((ch n k + ch n (k + 1) : Nat) : Int) (2 ^ (n + 1))
  rw [Int.add_comm, Int.natCast_add]
theorem total_drop (n t : Nat) : total (((List.range (n + 1)).map fun k => toF (cR n k)).drop t) = toF (mkRat (ways n t : Int) (2 ^ n)) := by
  have e : ((List.range (n + 1)).map fun k => toF (cR n k)).drop t = (((List.range (n + 1)).drop t).map fun k => mkRat (ch n k : Int) (2 ^ n)).map toF := by
    rw [← List.map_drop, List.map_map]
    rfl
  rw [e, total_toF, rsum_mk (fun k => (ch n k : Int)) (p2 n)]
  congr 2
  unfold ways
  rw [← drop_ways]
  generalize (List.range (n + 1)).drop t = l
  induction l with
  | nil => rfl
  | cons x l ih =>
    rw [List.map_cons, List.map_cons, List.sum_cons, List.sum_cons, ih, Int.natCast_add]
end Fc
/-! M3: terms, their chances, means, the best seed, in plain Lean. -/
namespace Fc
open Sr58 (Frac frac plus times whole total Kind Term likely likelyAll likelyMany likelyTerm spread holds lit bit)
/-! ### lists without repetition -/
theorem nodup_sub_len {α : Type} [DecidableEq α] : ∀ {l k : List α}, l.Nodup → (∀ x ∈ l, x ∈ k) → l.length ≤ k.length
  | [], _, _, _ => Nat.zero_le _
  | a :: l, k, hn, hs => by
    obtain ⟨ha, hl⟩ := List.nodup_cons.mp hn
    have hak : a ∈ k := hs a List.mem_cons_self
    have h : l.length ≤ (k.erase a).length := nodup_sub_len hl fun x hx => by
      have hxa : x ≠ a := fun e => ha (e ▸ hx)
      exact (List.mem_erase_of_ne hxa).mpr (hs x (List.mem_cons_of_mem _ hx))
    rw [List.length_erase_of_mem hak] at h
    have : 0 < k.length := List.length_pos_of_mem hak
    rw [List.length_cons]
    omega
theorem same_len {α : Type} [DecidableEq α] {l k : List α} (hl : l.Nodup) (hk : k.Nodup) (h : ∀ x, x ∈ l ↔ x ∈ k) : l.length = k.length :=
  Nat.le_antisymm (nodup_sub_len hl fun x hx => (h x).mp hx) (nodup_sub_len hk fun x hx => (h x).mpr hx)
theorem nodup_map_on {α β : Type} {f : α → β} : ∀ {l : List α}, l.Nodup → (∀ x ∈ l, ∀ y ∈ l, f x = f y → x = y) → (l.map f).Nodup
  | [], _, _ => by simp
  | a :: l, hn, hf => by
    obtain ⟨ha, hl⟩ := List.nodup_cons.mp hn
    rw [List.map_cons]
    refine List.nodup_cons.mpr ⟨fun h => ?_, nodup_map_on hl fun x hx y hy => hf x (List.mem_cons_of_mem _ hx) y (List.mem_cons_of_mem _ hy)⟩
    obtain ⟨b, hb, e⟩ := List.mem_map.mp h
    have := hf b (List.mem_cons_of_mem _ hb) a List.mem_cons_self e
    exact ha (this ▸ hb)
theorem dups_nodup {α : Type} [DecidableEq α] : ∀ (n : Nat) (l : List α), l.length ≤ n → l.eraseDups.Nodup
  | _, [], _ => by simp
  | 0, a :: l, h => by simp at h
  | n + 1, a :: l, h => by
    rw [List.eraseDups_cons]
    refine List.nodup_cons.mpr ⟨fun hm => ?_, dups_nodup n _ ?_⟩
    · have q := List.mem_eraseDups.mp hm
      simp at q
    · refine Nat.le_trans (List.length_filter_le _ _) ?_
      simp only [List.length_cons] at h
      omega
theorem eraseDups_nodup {α : Type} [DecidableEq α] (l : List α) : l.eraseDups.Nodup := dups_nodup l.length l (Nat.le_refl _)
/-! ### a term as the program has it -/
def oneOf (c : Nat) : Int × Int := ((c : Int), 1)
def pairOf (x : Nat) : Int × Int := (((x / 2 : Nat) : Int), ((x % 2 : Nat) : Int))
structure AllOk (M : Nat) (l : List Nat) (told : List (Int × Int)) (least : Int) : Prop where
  nd : told.Nodup
  mem : ∀ p, p ∈ told ↔ ∃ x ∈ l, p = pairOf x
  least : least = (told.length : Int)
  lt : ∀ x ∈ l, x < 2 * M
  few : told.length ≤ 64
structure ManyOk (M t : Nat) (s : List Nat) (told : List (Int × Int)) (least : Int) : Prop where
  is : told = s.map oneOf
  least : least = (t : Int)
  nd : s.Nodup
  lt : ∀ c ∈ s, c < M
  few : told.length ≤ 64
def ToldOk (M : Nat) (k : Kind) (told : List (Int × Int)) (least : Int) : Prop := match k with
  | .all l => l ≠ [] ∧ AllOk M l told least
  | .many t s => s ≠ [] ∧ t ≤ 20 ∧ ManyOk M t s told least
theorem ToldOk.lt {M : Nat} {k : Kind} {told : List (Int × Int)} {least : Int} (h : ToldOk M k told least) : ∀ p ∈ told, 0 ≤ p.1 ∧ p.1 < (M : Int) := by
  cases k with
  | all l =>
    intro p hp
    obtain ⟨x, hx, rfl⟩ := (h.2.mem p).mp hp
    have := h.2.lt x hx
    refine ⟨Int.natCast_nonneg _, ?_⟩
    show ((x / 2 : Nat) : Int) < M
    omega
  | many t s =>
    intro p hp
    rw [h.2.2.is] at hp
    obtain ⟨c, hc, rfl⟩ := List.mem_map.mp hp
    have := h.2.2.lt c hc
    exact ⟨Int.natCast_nonneg _, by show ((c : Nat) : Int) < M; omega⟩
theorem ToldOk.few {M : Nat} {k : Kind} {told : List (Int × Int)} {least : Int} (h : ToldOk M k told least) : told.length ≤ 64 := by
  cases k with
  | all l => exact h.2.few
  | many t s => exact h.2.2.few
theorem ToldOk.ne {M : Nat} {k : Kind} {told : List (Int × Int)} {least : Int} (h : ToldOk M k told least) : told ≠ [] := by
  cases k with
  | all l =>
    intro e
    obtain ⟨h0, h⟩ := h
    cases l with
    | nil => exact h0 rfl
    | cons x l =>
      have := (h.mem (pairOf x)).mpr ⟨x, List.mem_cons_self, rfl⟩
      rw [e] at this
      cases this
  | many t s =>
    intro e
    obtain ⟨h0, _, h⟩ := h
    rw [h.is] at e
    exact h0 (List.map_eq_nil_iff.mp e)
/-! ### what's so -/
/-- what the program asks of a row -/
def soI (row : List Int) (told : List (Int × Int)) (least : Int) : Bool := decide (least ≤ ((told.filter fun p => decide (row.getD p.1.toNat 0 = p.2)).length : Int))
theorem getD_bit (x : List Bool) {i : Nat} (hi : i < x.length) : (x.map bit).getD i 0 = bit (x.getD i false) := by
  rw [List.getD_eq_getElem?_getD, List.getD_eq_getElem?_getD, List.getElem?_map, List.getElem?_eq_getElem hi]
  rfl
theorem lit_bit (x : List Bool) {n : Nat} (hi : n / 2 < x.length) : decide ((x.map bit).getD (pairOf n).1.toNat 0 = (pairOf n).2) = lit x n := by
  show decide ((x.map bit).getD ((n / 2 : Nat) : Int).toNat 0 = ((n % 2 : Nat) : Int)) = lit x n
  rw [Int.toNat_natCast, getD_bit x hi]
  unfold lit bit
  have q : n % 2 < 2 := Nat.mod_lt _ (by decide)
  cases x.getD (n / 2) false <;> rcases (show n % 2 = 0 ∨ n % 2 = 1 by omega) with e | e <;> rw [e] <;> decide
theorem so_is {k : Kind} {told : List (Int × Int)} {least : Int} (x : List Bool) (h : ToldOk x.length k told least) : soI (x.map bit) told least = holds x k := by
  cases k with
  | all l =>
    obtain ⟨_, h⟩ := h
    unfold soI
    rw [h.least]
    show decide ((told.length : Int) ≤ ((told.filter _).length : Int)) = l.all (lit x)
    rw [Bool.eq_iff_iff, decide_eq_true_iff, List.all_eq_true]
    have hle := List.length_filter_le (fun p => decide ((x.map bit).getD p.1.toNat 0 = p.2)) told
    have e1 : ((told.length : Int) ≤ ((told.filter fun p => decide ((x.map bit).getD p.1.toNat 0 = p.2)).length : Int)) ↔ (told.filter fun p => decide ((x.map bit).getD p.1.toNat 0 = p.2)).length = told.length := by omega
    rw [e1, List.length_filter_eq_length_iff]
    constructor
    · intro q n hn
      have := q (pairOf n) ((h.mem _).mpr ⟨n, hn, rfl⟩)
      rw [lit_bit x (by have := h.lt n hn; omega)] at this
      exact this
    · intro q p hp
      obtain ⟨n, hn, rfl⟩ := (h.mem p).mp hp
      rw [lit_bit x (by have := h.lt n hn; omega)]
      exact q n hn
  | many t s =>
    obtain ⟨_, _, h⟩ := h
    unfold soI
    rw [h.least, h.is]
    show decide ((t : Int) ≤ (((s.map oneOf).filter _).length : Int)) = decide (t ≤ (s.filter fun i => x.getD i false).length)
    have e : (s.map oneOf).filter (fun p => decide ((x.map bit).getD p.1.toNat 0 = p.2)) = (s.filter fun i => x.getD i false).map oneOf := by
      rw [List.filter_map]
      congr 1
      apply List.filter_congr
      intro c hc
      show decide ((x.map bit).getD ((c : Nat) : Int).toNat 0 = 1) = x.getD c false
      rw [Int.toNat_natCast, getD_bit x (h.lt c hc)]
      unfold bit
      cases x.getD c false <;> decide
    rw [e, List.length_map]
    exact decide_eq_decide.mpr (by omega)
/-! ### the coins looked at -/
theorem looks_len {M : Nat} {k : Kind} {told : List (Int × Int)} {least : Int} (h : ToldOk M k told least) {ns : List Int} (hn : ns.Nodup) (hm : ∀ c, c ∈ ns ↔ c ∈ told.map (·.1)) : ns.length = (Sr59.looks k).length := by
  cases k with
  | all l =>
    obtain ⟨_, h⟩ := h
    show ns.length = ((l.map fun x => x / 2).eraseDups).length
    rw [← List.length_map (f := fun (n : Nat) => (n : Int)) (as := (l.map fun x => x / 2).eraseDups)]
    refine same_len hn (nodup_map_on (eraseDups_nodup _) fun x _ y _ e => Int.ofNat_inj.mp e) fun c => ?_
    rw [hm]
    constructor
    · intro q
      obtain ⟨p, hp, rfl⟩ := List.mem_map.mp q
      obtain ⟨x, hx, rfl⟩ := (h.mem p).mp hp
      exact List.mem_map.mpr ⟨x / 2, List.mem_eraseDups.mpr (List.mem_map.mpr ⟨x, hx, rfl⟩), rfl⟩
    · intro q
      obtain ⟨y, hy, rfl⟩ := List.mem_map.mp q
      obtain ⟨x, hx, rfl⟩ := List.mem_map.mp (List.mem_eraseDups.mp hy)
      exact List.mem_map.mpr ⟨pairOf x, (h.mem _).mpr ⟨x, hx, rfl⟩, rfl⟩
  | many t s =>
    obtain ⟨_, _, h⟩ := h
    show ns.length = s.length
    rw [← List.length_map (f := fun (n : Nat) => (n : Int)) (as := s)]
    refine same_len hn (nodup_map_on h.nd fun x _ y _ e => Int.ofNat_inj.mp e) fun c => ?_
    rw [hm, h.is, List.map_map]
    exact Iff.rfl
/-! ### true coins -/
theorem half_is : Sr58.half = toF half := by
  unfold half
  rw [← frac_mk (by decide), frac_parts (by decide)]
  rfl
def trueD (M : Nat) (ts : List Term) (b : Bool) : Sr58.Desk := ⟨List.replicate M Sr58.half, ts, b, List.replicate M none⟩
theorem likely_half {M : Nat} {ts : List Term} {b : Bool} {l : Nat} (h : l / 2 < M) : likely (trueD M ts b) l = toF half := by
  unfold likely Sr58.laidAt trueD
  have e : (List.replicate M (none : Option Bool)).getD (l / 2) none = none := by
    rw [List.getD_eq_getElem?_getD, List.getElem?_replicate]
    split <;> rfl
  simp only [e]
  unfold Sr58.chance
  have e2 : (List.replicate M Sr58.half).getD (l / 2) (whole 0) = Sr58.half := by
    rw [List.getD_eq_getElem?_getD, List.getElem?_replicate, if_pos h]
    rfl
  simp only [e2]
  split
  · exact half_is
  · show frac ((2 : Int) - 1) 2 = toF half
    unfold half
    rw [frac_mk (by decide)]
    rfl
theorem getD_cR (n k : Nat) : ((List.range (n + 1)).map fun k => toF (cR n k)).getD k (whole 0) = toF (cR n k) := by
  rw [List.getD_eq_getElem?_getD, List.getElem?_map]
  by_cases c : k < n + 1
  · rw [List.getElem?_range c]
    rfl
  · rw [List.getElem?_eq_none (by rw [List.length_range]; omega), cR_more (by omega), ← whole_zero]
    rfl
theorem spread_is {M : Nat} {ts : List Term} {b : Bool} : ∀ {s : List Nat}, (∀ c ∈ s, c < M) → spread (trueD M ts b) s = (List.range (s.length + 1)).map fun k => toF (cR s.length k)
  | [], _ => by
    show [whole 1] = [toF (cR 0 0)]
    rw [whole_toF]
    rfl
  | i :: s, h => by
    have ih := spread_is (M := M) (ts := ts) (b := b) (s := s) fun c hc => h c (List.mem_cons_of_mem _ hc)
    have hi := h i List.mem_cons_self
    show (List.range ((spread (trueD M ts b) s).length + 1)).map (fun k => plus (times (likely (trueD M ts b) (2 * i)) ((spread (trueD M ts b) s).getD k (whole 0))) (if k = 0 then whole 0 else times (likely (trueD M ts b) (2 * i + 1)) ((spread (trueD M ts b) s).getD (k - 1) (whole 0)))) = _
    rw [ih, List.length_map, List.length_range, List.length_cons]
    apply List.map_congr_left
    intro k _
    rw [likely_half (by omega), likely_half (by omega), getD_cR, times_toF]
    cases k with
    | zero =>
      rw [if_pos rfl, whole_zero, plus_toF, Rat.add_zero, cR_zero]
    | succ k =>
      rw [if_neg (Nat.succ_ne_zero k), Nat.add_sub_cancel, getD_cR, times_toF, plus_toF, cR_succ]
theorem foldl_times : ∀ (n : Nat) (a : Rat), (List.replicate n (toF half)).foldl times (toF a) = toF (a * mkRat 1 (2 ^ n))
  | 0, a => by
    show toF a = toF (a * mkRat 1 1)
    have e : mkRat 1 1 = 1 := rfl
    rw [e, Rat.mul_one]
  | n + 1, a => by
    show (List.replicate n (toF half)).foldl times (times (toF a) (toF half)) = _
    rw [times_toF, foldl_times n, Rat.mul_assoc]
    unfold half
    rw [Rat.mkRat_mul_mkRat, Nat.pow_succ, Nat.mul_comm 2]
    rfl
theorem map_half {M : Nat} {ts : List Term} {b : Bool} : ∀ {l : List Nat}, (∀ x ∈ l, x < 2 * M) → l.map (likely (trueD M ts b)) = List.replicate l.length (toF half)
  | [], _ => rfl
  | x :: l, h => by
    rw [List.map_cons, map_half fun y hy => h y (List.mem_cons_of_mem _ hy), likely_half (by have := h x List.mem_cons_self; omega)]
    rfl
/-- in how many ways, as the program reckons it: n coins are looked at -/
def waysI (told : List (Int × Int)) (least : Int) (n : Nat) : Nat := if n < told.length then 0 else ways n least.toNat
theorem opp_pair (x : Nat) : pairOf (Sr58.opposite x) = ((pairOf x).1, 1 - (pairOf x).2) := by
  unfold pairOf Sr58.opposite
  split <;> ext <;> simp <;> omega
theorem opp_of {x y : Nat} (h1 : x / 2 = y / 2) (h2 : x % 2 ≠ y % 2) : y = Sr58.opposite x := by
  unfold Sr58.opposite
  split <;> omega
theorem pair_inj {x y : Nat} (h : pairOf x = pairOf y) : x = y := by
  have h1 : ((x / 2 : Nat) : Int) = ((y / 2 : Nat) : Int) := congrArg Prod.fst h
  have h2 : ((x % 2 : Nat) : Int) = ((y % 2 : Nat) : Int) := congrArg Prod.snd h
  omega
theorem likely_term {M : Nat} {ts : List Term} {b : Bool} {k : Kind} {told : List (Int × Int)} {least : Int} (h : ToldOk M k told least) {ns : List Int} (hn : ns.Nodup) (hm : ∀ c, c ∈ ns ↔ c ∈ told.map (·.1)) :
    likelyTerm (trueD M ts b) k = toF (mkRat (waysI told least ns.length : Int) (2 ^ ns.length)) := by
  cases k with
  | all l =>
    obtain ⟨_, h⟩ := h
    show likelyAll (trueD M ts b) l = _
    unfold likelyAll
    have dl : l.eraseDups.length = told.length := by
      rw [← List.length_map (f := pairOf) (as := l.eraseDups)]
      refine same_len (nodup_map_on (eraseDups_nodup _) fun x _ y _ e => pair_inj e) h.nd fun p => ?_
      rw [h.mem]
      constructor
      · intro q
        obtain ⟨x, hx, rfl⟩ := List.mem_map.mp q
        exact ⟨x, List.mem_eraseDups.mp hx, rfl⟩
      · rintro ⟨x, hx, rfl⟩
        exact List.mem_map.mpr ⟨x, List.mem_eraseDups.mpr hx, rfl⟩
    by_cases c : (l.any fun x => l.contains (Sr58.opposite x)) = true
    · rw [if_pos c]
      obtain ⟨x, hx, hc⟩ := List.any_eq_true.mp c
      have hox : Sr58.opposite x ∈ l := List.contains_iff_mem.mp hc
      have hp := (h.mem (pairOf x)).mpr ⟨x, hx, rfl⟩
      have hq := (h.mem (pairOf (Sr58.opposite x))).mpr ⟨_, hox, rfl⟩
      have hne : pairOf (Sr58.opposite x) ≠ pairOf x := by
        rw [opp_pair]
        intro e
        have e2 : 1 - (pairOf x).2 = (pairOf x).2 := congrArg Prod.snd e
        have e3 : (pairOf x).2 = ((x % 2 : Nat) : Int) := rfl
        omega
      have hlt : ns.length < told.length := by
        have q : ns.length ≤ ((told.erase (pairOf x)).map (·.1)).length := nodup_sub_len hn fun z hz => by
          obtain ⟨p, hp2, e⟩ := List.mem_map.mp ((hm z).mp hz)
          by_cases ep : p = pairOf x
          · refine List.mem_map.mpr ⟨pairOf (Sr58.opposite x), (List.mem_erase_of_ne hne).mpr hq, ?_⟩
            rw [← e, ep, opp_pair]
          · exact List.mem_map.mpr ⟨p, (List.mem_erase_of_ne ep).mpr hp2, e⟩
        rw [List.length_map, List.length_erase_of_mem hp] at q
        have := List.length_pos_of_mem hp
        omega
      unfold waysI
      rw [if_pos hlt, whole_zero]
      show toF 0 = toF (mkRat 0 _)
      rw [zero_mk]
    · rw [if_neg c]
      have nd1 : (told.map (·.1)).Nodup := nodup_map_on h.nd fun p hp q hq e => by
        obtain ⟨x, hx, rfl⟩ := (h.mem p).mp hp
        obtain ⟨y, hy, rfl⟩ := (h.mem q).mp hq
        have e1 : ((x / 2 : Nat) : Int) = ((y / 2 : Nat) : Int) := e
        by_cases e2 : x % 2 = y % 2
        · have : x = y := by omega
          rw [this]
        · refine absurd (show (l.any fun x => l.contains (Sr58.opposite x)) = true from List.any_eq_true.mpr ⟨x, hx, List.contains_iff_mem.mpr ?_⟩) c
          rw [← opp_of (by omega) e2]
          exact hy
      have hl : ns.length = told.length := by
        rw [← List.length_map (f := (·.1)) (as := told)]
        exact same_len hn nd1 hm
      have e1 : l.eraseDups.map (likely (trueD M ts b)) = List.replicate l.eraseDups.length (toF half) := map_half fun x hx => h.lt x (List.mem_eraseDups.mp hx)
      rw [e1, dl, whole_toF, foldl_times]
      unfold waysI
      rw [if_neg (by omega), h.least, hl, Int.toNat_natCast, range_self]
      congr 1
      have e : mkRat 1 1 = 1 := rfl
      rw [e, Rat.one_mul]
      rfl
  | many t s =>
    obtain ⟨_, _, h⟩ := h
    show total ((spread (trueD M ts b) s).drop t) = _
    have hl : ns.length = s.length := by
      rw [← List.length_map (f := fun (n : Nat) => (n : Int)) (as := s)]
      refine same_len hn (nodup_map_on h.nd fun x _ y _ e => Int.ofNat_inj.mp e) fun c => ?_
      rw [hm, h.is, List.map_map]
      exact Iff.rfl
    have tl : told.length = s.length := by rw [h.is, List.length_map]
    rw [spread_is h.lt, total_drop]
    unfold waysI
    rw [if_neg (by omega), hl, h.least, Int.toNat_natCast]
end Fc
namespace Fc
open PySem PySem.Spec PyProof.Rows L2
def top (i : Nat) : Stmt := PySem.Challenge.pw_fewcoins_s01_answers.main.body.getD i (.Pass ⟨0, 0, 0, 0⟩)
abbrev s_doubled : Stmt := top 3
abbrev s_product : Stmt := top 4
abbrev s_all_products : Stmt := top 5
abbrev s_power : Stmt := top 6
abbrev s_numbers_of : Stmt := top 8
abbrev s_is_odd_in_both : Stmt := top 9
abbrev s_faint_coin : Stmt := top 10
abbrev s_plain_coin : Stmt := top 11
abbrev s_coins_of : Stmt := top 12
abbrev s_all_rows : Stmt := top 13
abbrev s_how_many_lie : Stmt := top 14
abbrev s_how_many_odd : Stmt := top 15
abbrev s_shared : Stmt := top 17
abbrev s_told_fraction : Stmt := top 18
abbrev s_Term__init__ : Stmt := inClass (top 20) 0
abbrev s_all_term : Stmt := top 21
abbrev s_many_term : Stmt := top 22
abbrev s_is_so : Stmt := top 23
abbrev s_worth_of : Stmt := top 24
abbrev s_coins_looked_at : Stmt := top 25
abbrev s_ways_to_choose : Stmt := top 26
abbrev s_ways_of_true : Stmt := top 27
abbrev s_true_chance : Stmt := top 28
abbrev s_true_mean : Stmt := top 29
abbrev s_seeds_chance : Stmt := top 30
abbrev s_seeds_mean : Stmt := top 31
abbrev s_Seeds__init__ : Stmt := inClass (top 48) 0
abbrev s_is_in : Stmt := top 49
abbrev s_is_rising : Stmt := top 50
abbrev s_are_coins : Stmt := top 51
abbrev s_is_weight : Stmt := top 52
abbrev s_can_begin : Stmt := top 53
abbrev s_begin : Stmt := top 54
abbrev s_mul : Stmt := top 55
abbrev s_pow_of : Stmt := top 56
abbrev s_coin : Stmt := top 57
abbrev s_row_of : Stmt := top 58
abbrev s_count : Stmt := top 59
abbrev s_odds : Stmt := top 60
abbrev s_is_lie : Stmt := top 61
abbrev s_put : Stmt := top 62
abbrev s_all_lie : Stmt := top 63
abbrev s_many_of : Stmt := top 64
abbrev s_drop : Stmt := top 65
abbrev s_want : Stmt := top 66
abbrev s_means : Stmt := top 67
abbrev s_worth : Stmt := top 68
abbrev s_best : Stmt := top 69
abbrev s_chances : Stmt := top 70
abbrev s_size : Stmt := top 71
abbrev s_answer_to : Stmt := top 73
abbrev s_rows_at : Stmt := top 74
abbrev s_answers : Stmt := top 75
def fn : List He.DefD := [
  ⟨("doubled", none), "doubled", "doubled", defArgs s_doubled, defBody s_doubled, defScope s_doubled, [], []⟩,
  ⟨("product", none), "product", "product", defArgs s_product, defBody s_product, defScope s_product, [], []⟩,
  ⟨("all_products", none), "all_products", "all_products", defArgs s_all_products, defBody s_all_products, defScope s_all_products, [], []⟩,
  ⟨("power", none), "power", "power", defArgs s_power, defBody s_power, defScope s_power, [], []⟩,
  ⟨("numbers_of", none), "numbers_of", "numbers_of", defArgs s_numbers_of, defBody s_numbers_of, defScope s_numbers_of, [], []⟩,
  ⟨("is_odd_in_both", none), "is_odd_in_both", "is_odd_in_both", defArgs s_is_odd_in_both, defBody s_is_odd_in_both, defScope s_is_odd_in_both, [], []⟩,
  ⟨("faint_coin", none), "faint_coin", "faint_coin", defArgs s_faint_coin, defBody s_faint_coin, defScope s_faint_coin, [], []⟩,
  ⟨("plain_coin", none), "plain_coin", "plain_coin", defArgs s_plain_coin, defBody s_plain_coin, defScope s_plain_coin, [], []⟩,
  ⟨("coins_of", none), "coins_of", "coins_of", defArgs s_coins_of, defBody s_coins_of, defScope s_coins_of, [], []⟩,
  ⟨("all_rows", none), "all_rows", "all_rows", defArgs s_all_rows, defBody s_all_rows, defScope s_all_rows, [], []⟩,
  ⟨("how_many_lie", none), "how_many_lie", "how_many_lie", defArgs s_how_many_lie, defBody s_how_many_lie, defScope s_how_many_lie, [], []⟩,
  ⟨("how_many_odd", none), "how_many_odd", "how_many_odd", defArgs s_how_many_odd, defBody s_how_many_odd, defScope s_how_many_odd, [], []⟩,
  ⟨("shared", none), "shared", "shared", defArgs s_shared, defBody s_shared, defScope s_shared, [], []⟩,
  ⟨("told_fraction", none), "told_fraction", "told_fraction", defArgs s_told_fraction, defBody s_told_fraction, defScope s_told_fraction, [], []⟩,
  ⟨("Term", some "__init__"), "__init__", "Term.__init__", defArgs s_Term__init__, defBody s_Term__init__, defScope s_Term__init__, [], []⟩,
  ⟨("all_term", none), "all_term", "all_term", defArgs s_all_term, defBody s_all_term, defScope s_all_term, [], []⟩,
  ⟨("many_term", none), "many_term", "many_term", defArgs s_many_term, defBody s_many_term, defScope s_many_term, [], []⟩,
  ⟨("is_so", none), "is_so", "is_so", defArgs s_is_so, defBody s_is_so, defScope s_is_so, [], []⟩,
  ⟨("worth_of", none), "worth_of", "worth_of", defArgs s_worth_of, defBody s_worth_of, defScope s_worth_of, [], []⟩,
  ⟨("coins_looked_at", none), "coins_looked_at", "coins_looked_at", defArgs s_coins_looked_at, defBody s_coins_looked_at, defScope s_coins_looked_at, [], []⟩,
  ⟨("ways_to_choose", none), "ways_to_choose", "ways_to_choose", defArgs s_ways_to_choose, defBody s_ways_to_choose, defScope s_ways_to_choose, [], []⟩,
  ⟨("ways_of_true", none), "ways_of_true", "ways_of_true", defArgs s_ways_of_true, defBody s_ways_of_true, defScope s_ways_of_true, [], []⟩,
  ⟨("true_chance", none), "true_chance", "true_chance", defArgs s_true_chance, defBody s_true_chance, defScope s_true_chance, [], []⟩,
  ⟨("true_mean", none), "true_mean", "true_mean", defArgs s_true_mean, defBody s_true_mean, defScope s_true_mean, [], []⟩,
  ⟨("seeds_chance", none), "seeds_chance", "seeds_chance", defArgs s_seeds_chance, defBody s_seeds_chance, defScope s_seeds_chance, [], []⟩,
  ⟨("seeds_mean", none), "seeds_mean", "seeds_mean", defArgs s_seeds_mean, defBody s_seeds_mean, defScope s_seeds_mean, [], []⟩,
  ⟨("Seeds", some "__init__"), "__init__", "Seeds.__init__", defArgs s_Seeds__init__, defBody s_Seeds__init__, defScope s_Seeds__init__, [], []⟩,
  ⟨("is_in", none), "is_in", "is_in", defArgs s_is_in, defBody s_is_in, defScope s_is_in, [], []⟩,
  ⟨("is_rising", none), "is_rising", "is_rising", defArgs s_is_rising, defBody s_is_rising, defScope s_is_rising, [], []⟩,
  ⟨("are_coins", none), "are_coins", "are_coins", defArgs s_are_coins, defBody s_are_coins, defScope s_are_coins, [], []⟩,
  ⟨("is_weight", none), "is_weight", "is_weight", defArgs s_is_weight, defBody s_is_weight, defScope s_is_weight, [], []⟩,
  ⟨("can_begin", none), "can_begin", "can_begin", defArgs s_can_begin, defBody s_can_begin, defScope s_can_begin, [], []⟩,
  ⟨("begin", none), "begin", "begin", defArgs s_begin, defBody s_begin, defScope s_begin, [], []⟩,
  ⟨("mul", none), "mul", "mul", defArgs s_mul, defBody s_mul, defScope s_mul, [], []⟩,
  ⟨("pow_of", none), "pow_of", "pow_of", defArgs s_pow_of, defBody s_pow_of, defScope s_pow_of, [], []⟩,
  ⟨("coin", none), "coin", "coin", defArgs s_coin, defBody s_coin, defScope s_coin, [], []⟩,
  ⟨("row_of", none), "row_of", "row_of", defArgs s_row_of, defBody s_row_of, defScope s_row_of, [], []⟩,
  ⟨("count", none), "count", "count", defArgs s_count, defBody s_count, defScope s_count, [], []⟩,
  ⟨("odds", none), "odds", "odds", defArgs s_odds, defBody s_odds, defScope s_odds, [], []⟩,
  ⟨("is_lie", none), "is_lie", "is_lie", defArgs s_is_lie, defBody s_is_lie, defScope s_is_lie, [], []⟩,
  ⟨("put", none), "put", "put", defArgs s_put, defBody s_put, defScope s_put, [], []⟩,
  ⟨("all_lie", none), "all_lie", "all_lie", defArgs s_all_lie, defBody s_all_lie, defScope s_all_lie, [], []⟩,
  ⟨("many_of", none), "many_of", "many_of", defArgs s_many_of, defBody s_many_of, defScope s_many_of, [], []⟩,
  ⟨("drop", none), "drop", "drop", defArgs s_drop, defBody s_drop, defScope s_drop, [], []⟩,
  ⟨("want", none), "want", "want", defArgs s_want, defBody s_want, defScope s_want, [], []⟩,
  ⟨("means", none), "means", "means", defArgs s_means, defBody s_means, defScope s_means, [], []⟩,
  ⟨("worth", none), "worth", "worth", defArgs s_worth, defBody s_worth, defScope s_worth, [], []⟩,
  ⟨("best", none), "best", "best", defArgs s_best, defBody s_best, defScope s_best, [], []⟩,
  ⟨("chances", none), "chances", "chances", defArgs s_chances, defBody s_chances, defScope s_chances, [], []⟩,
  ⟨("size", none), "size", "size", defArgs s_size, defBody s_size, defScope s_size, [], []⟩,
  ⟨("answer_to", none), "answer_to", "answer_to", defArgs s_answer_to, defBody s_answer_to, defScope s_answer_to, [], []⟩,
  ⟨("rows_at", none), "rows_at", "rows_at", defArgs s_rows_at, defBody s_rows_at, defScope s_rows_at, [], []⟩,
  ⟨("answers", none), "answers", "answers", defArgs s_answers, defBody s_answers, defScope s_answers, [], []⟩]
def fa : List He.Fa := [
  .glo "doubled",
  .glo "product",
  .glo "all_products",
  .glo "power",
  .glo "numbers_of",
  .glo "is_odd_in_both",
  .glo "faint_coin",
  .glo "plain_coin",
  .glo "coins_of",
  .glo "all_rows",
  .glo "how_many_lie",
  .glo "how_many_odd",
  .glo "shared",
  .glo "told_fraction",
  .glo "Term",
  .glo "all_term",
  .glo "many_term",
  .glo "is_so",
  .glo "worth_of",
  .glo "coins_looked_at",
  .glo "ways_to_choose",
  .glo "ways_of_true",
  .glo "true_chance",
  .glo "true_mean",
  .glo "seeds_chance",
  .glo "seeds_mean",
  .glo "Seeds",
  .glo "is_in",
  .glo "is_rising",
  .glo "are_coins",
  .glo "is_weight",
  .glo "can_begin",
  .glo "begin",
  .glo "mul",
  .glo "pow_of",
  .glo "coin",
  .glo "row_of",
  .glo "count",
  .glo "odds",
  .glo "is_lie",
  .glo "put",
  .glo "all_lie",
  .glo "many_of",
  .glo "drop",
  .glo "want",
  .glo "means",
  .glo "worth",
  .glo "best",
  .glo "chances",
  .glo "size",
  .glo "answer_to",
  .glo "rows_at",
  .glo "answers",
  .glo "BROUGHT_BY",
  .glo "NUMBERS",
  .glo "ROWS",
  .glo "DEEDS",
  .free "len",
  .free "all",
  .free "sum",
  .free "max",
  .free "min",
  .free "sorted",
  .free "set",
  .free "list",
  .free "range",
  .free "abs",
  .free "int",
  .free "zip",
  .int "MOST_DIGITS" (6),
  .int "NONE" (-2),
  .int "NOT_BEGUN" (-11),
  .int "WRONG" (-22),
  .int "FULL" (-28),
  .int "BEGIN" (0),
  .int "MOST_ALL" (10),
  .int "MOST_FAINT" (4),
  .int "FAINT_NUMBERS" (2),
  .int "MOST_POWER" (100),
  .int "MOST_TERMS" (12),
  .int "MOST_WEIGHT" (100),
  .int "MOST_TOLD" (20),
  .int "MOST_LEAST" (20),
  .cls "Seeds",
  .mkr "Seeds",
  .noat "Seeds" "products",
  .noat "Seeds" "rows",
  .noat "Seeds" "terms",
  .noat "Seeds" "is_much",
  .cls "Term",
  .mkr "Term",
  .noat "Term" "weight",
  .noat "Term" "told",
  .noat "Term" "least"]
def d_BROUGHT_BY : List He.Dv := [.int 0, .int 3, .int 7, .int 11, .int 19, .int 37, .int 67]
def d_NUMBERS : List He.Dv := [.int 3, .int 2, .int 2, .int 2, .int 1, .int 0, .int 0, .int 1, .int 2, .int 1, .int 1, .int 0, .int 1, .int 0, .int 1, .int 0]
def d_ROWS : List He.Dv := [.int 0, .int 0, .int 0, .int 0, .int 0, .int 2, .int 1, .int 1, .int 1, .int 0, .int 0, .int 0, .int 0, .int 0, .int 0, .int 0]
def d_DEEDS : List He.Dv := [.glo "begin", .glo "mul", .glo "pow_of", .glo "coin", .glo "row_of", .glo "count", .glo "odds", .glo "all_lie", .glo "many_of", .glo "drop", .glo "want", .glo "means", .glo "worth", .glo "best", .glo "chances", .glo "size"]
def ex (K : PySem.W.Frag) : Bool := He.tupB K "BROUGHT_BY" d_BROUGHT_BY && He.tupB K "NUMBERS" d_NUMBERS && He.tupB K "ROWS" d_ROWS && He.tupB K "DEEDS" d_DEEDS
def names : List PySem.Str := (["doubled", "product", "all_products", "power", "numbers_of", "is_odd_in_both", "faint_coin", "plain_coin", "coins_of", "all_rows", "how_many_lie", "how_many_odd"] : List PySem.Str) ++ (["shared", "told_fraction", "Term", "all_term", "many_term", "is_so", "worth_of", "coins_looked_at", "ways_to_choose", "ways_of_true", "true_chance", "true_mean"] : List PySem.Str) ++ (["seeds_chance", "seeds_mean", "Seeds", "is_in", "is_rising", "are_coins", "is_weight", "can_begin", "begin", "mul", "pow_of", "coin"] : List PySem.Str) ++ (["row_of", "count", "odds", "is_lie", "put", "all_lie", "many_of", "drop", "want", "means", "worth", "best"] : List PySem.Str) ++ (["chances", "size", "answer_to", "rows_at", "BROUGHT_BY", "MOST_DIGITS", "NONE", "NOT_BEGUN", "WRONG", "FULL", "BEGIN", "MOST_ALL"] : List PySem.Str) ++ (["MOST_FAINT", "FAINT_NUMBERS", "MOST_POWER", "MOST_TERMS", "MOST_WEIGHT", "MOST_TOLD", "MOST_LEAST", "NUMBERS", "ROWS", "DEEDS"] : List PySem.Str)
/-! ### the Hook -/
abbrev AlF : Type := He.AlD × Bool
def obsF (n : Nat) (g : Addr → Option Obj) : AlF := (He.obsD fa fn (He.frG g (He.asD g n)), ex (He.frG g (He.asD g n)))
structure SaysF (K : PySem.W.Frag) : Prop where
  d : He.SaysD fa fn K
  t : ex K = true
def hookF (n : Nat) : PySem.W.Hook where
  α := AlF
  obs := fun s => obsF n s.heap.get?
  val := fun _ => (He.valD fn, true)
  says := fun _ h => ∃ K : PySem.W.Frag, K.In h ∧ SaysF K
  of := fun _ _ e => ⟨_, He.frG_in, ⟨congrArg (fun z : AlF => z.1) e, congrArg (fun z : AlF => z.2) e⟩⟩
  keeps := fun _ _ _ ⟨K, hK, c⟩ k => ⟨K, PySem.W.Frag.In.keeps hK k, c⟩
abbrev hk : PySem.W.Hook := hookF 4
def ob (s : PySem.W.SharedT) : AlF := obsF 4 (HandSHeadRun.getT s)
theorem ob_eq (s : PySem.W.SharedT) : ob s = hk.obs s.abs := by
  have e : HandSHeadRun.getT s = s.abs.heap.get? := funext (HandSHeadRun.getT_eq s)
  show obsF 4 (HandSHeadRun.getT s) = obsF 4 s.abs.heap.get?
  rw [e]
abbrev R : PySem.W.OpenSpec := PySem.Challenge.rw_fewcoins_s01_answers
theorem run (w : World) : HandSHeadRun.RunEqS R (PySem.W.view R.prog [75]) hk ob 4000 names w := by
  intro os
  kernel_rfl
end Fc
/-! W1: own rules: what a reading gives, by a property of the value and the heap. -/
namespace Fc
open PySem PySem.Spec PyProof.Rows L2 Evl
abbrev VP := V → Hp → Prop
/-- whatever the heap grows to, the expression gives a value with P, and the heap only grows -/
def EvP (te : TE) (σ : L2.St) (H : Hp) (P : VP) : Prop := ∀ H1, Ex H H1 → ∀ Q : VK, (∀ v H2, Ex H1 H2 → P v H2 → Q v H2) → te σ H1 Q
/-- the same of an argument list -/
def EvAP (ta : TA) (σ : L2.St) (H : Hp) (P : List V → Hp → Prop) : Prop := ∀ H1, Ex H H1 → ∀ Q : List V → Hp → Prop, (∀ vs H2, Ex H1 H2 → P vs H2 → Q vs H2) → ta σ H1 Q
/-- a value that stays what it is while the heap grows -/
def Stays (P : VP) : Prop := ∀ v H H', Ex H H' → P v H → P v H'
def RVP (r : R2) (x y : V) (H : Hp) (P : VP) : Prop := ∀ H1, Ex H H1 → ∀ Q : VK, (∀ v H2, Ex H1 H2 → P v H2 → Q v H2) → r x y H1 Q
def RCP (r : List V → Hp → VK → Prop) (vs : List V) (H : Hp) (P : VP) : Prop := ∀ H1, Ex H H1 → ∀ Q : VK, (∀ v H2, Ex H1 H2 → P v H2 → Q v H2) → r vs H1 Q
section
variable {K : PySem.W.Frag} {σ : L2.St} {H H' : Hp} {ta tb te tx : TE} {t u : TT} {x y z v : V} {r : R2} {P P' : VP} {tr : TA}
theorem EvP.mono (e : Ex H H') (h : EvP te σ H P) : EvP te σ H' P := fun H1 a Q q => h H1 (e.trans a) Q q
theorem EvP.imp (h : EvP te σ H P) (k : ∀ v H1, Ex H H1 → P v H1 → P' v H1) : EvP te σ H P' := fun H1 e Q q => h H1 e Q fun v H2 e2 p => q v H2 e2 (k v H2 (e.trans e2) p)
theorem evp_ev (h : Ev te σ H v) (k : ∀ H1, Ex H H1 → P v H1) : EvP te σ H P := fun H1 e Q q => h H1 e Q fun H2 e2 => q v H2 e2 (k H2 (e.trans e2))
theorem evp_v (h : Ev te σ H v) : EvP te σ H (fun x _ => x = v) := evp_ev h fun _ _ => rfl
theorem ev_evp (h : EvP te σ H (fun x _ => x = v)) : Ev te σ H v := fun H1 e Q q => h H1 e Q fun x H2 e2 hx => by
  subst hx
  exact q H2 e2
theorem evp_l {xs : List V} (h : EvL te σ H xs) : EvP te σ H (fun v H1 => ∃ p, v = .ref p ∧ H1 p = some (.lst xs)) := fun H1 e Q q => h H1 e Q fun p H2 _ e2 hp => q _ H2 e2 ⟨p, rfl, hp⟩
theorem evp_u {xs : List V} (h : EvU te σ H xs) : EvP te σ H (fun v H1 => ∃ p, v = .ref p ∧ H1 p = some (.tup xs)) := fun H1 e Q q => h H1 e Q fun p H2 _ e2 hp => q _ H2 e2 ⟨p, rfl, hp⟩
theorem eap_nil {P : List V → Hp → Prop} (k : ∀ H1, Ex H H1 → P [] H1) : EvAP tNil σ H P := fun H1 e Q q => q [] H1 (Ex.refl H1) (k H1 e)
theorem eap_cons {P1 : VP} {P : List V → Hp → Prop} (h : EvP te σ H P1) (hr : ∀ v H1, Ex H H1 → P1 v H1 → EvAP tr σ H1 fun r H2 => P (v :: r) H2) : EvAP (tCons te tr) σ H P := fun H1 e Q q =>
  h H1 e _ fun v H2 e2 p => hr v H2 (e.trans e2) p H2 (Ex.refl H2) _ fun r H3 e3 p3 => q _ H3 (e2.trans e3) p3
theorem eap_v {P : List V → Hp → Prop} (h : Ev te σ H v) (hr : EvAP tr σ H fun r H2 => P (v :: r) H2) : EvAP (tCons te tr) σ H P := fun H1 e Q q =>
  h H1 e _ fun H2 e2 => hr H2 (e.trans e2) _ fun r H3 e3 p3 => q _ H3 (e2.trans e3) p3
theorem eap_of {vs : List V} (h : EvA tr σ H vs) : EvAP tr σ H fun r _ => r = vs := fun H1 e Q q => h H1 e Q fun H2 e2 => q vs H2 e2 rfl
theorem evp_op {P1 : VP} {P2 : V → VP} (ha : EvP ta σ H P1) (hb : ∀ x H1, Ex H H1 → P1 x H1 → EvP tb σ H1 (P2 x)) (hr : ∀ x y H1, Ex H H1 → P2 x y H1 → RVP r x y H1 P) : EvP (tOp r ta tb) σ H P := fun H1 e Q q =>
  ha H1 e _ fun x H2 e2 p1 => hb x H2 (e.trans e2) p1 H2 (Ex.refl H2) _ fun y H3 e3 p2 => hr x y H3 ((e.trans e2).trans e3) p2 H3 (Ex.refl H3) Q fun v H4 e4 p => q v H4 ((e2.trans e3).trans e4) p
theorem evp_cb {A : List V → Hp → Prop} {rc : List V → Hp → VK → Prop} (h : EvAP tr σ H A) (hr : ∀ vs H1, Ex H H1 → A vs H1 → RCP rc vs H1 P) : EvP (tCB rc tr) σ H P := fun H1 e Q q =>
  h H1 e _ fun vs H2 e2 a => hr vs H2 (e.trans e2) a H2 (Ex.refl H2) Q fun v H3 e3 p => q v H3 (e2.trans e3) p
/-- one argument -/
theorem evp_cb1 {P1 : VP} {rc : List V → Hp → VK → Prop} (h : EvP te σ H P1) (hr : ∀ v H1, Ex H H1 → P1 v H1 → RCP rc [v] H1 P) : EvP (tCB rc (tCons te tNil)) σ H P := fun H1 e Q q =>
  h H1 e _ fun v H2 e2 a => hr v H2 (e.trans e2) a H2 (Ex.refl H2) Q fun v H3 e3 p => q v H3 (e2.trans e3) p
/-! ### promises of defs that change nothing that stands -/
abbrev Pre := List V → Hp → VP → Prop
def SpF (n : Nat) (pre : Pre) : Sp := fun vs H Q _ => vs.length = n ∧ ∃ P, pre vs H P ∧ ∀ v H2, Ex H H2 → P v H2 → Q v H2
theorem SpF.len {n : Nat} {pre : Pre} {ps : List Str} (e : ps.length = n) : ∀ vs H Q E, SpF n pre vs H Q E → vs.length = ps.length := fun _ _ _ _ h => h.1.trans e.symm
theorem evp_call {n : Nat} {pre : Pre} {E : XK} {A : List V → Hp → Prop} (h : EvAP tr σ H A) (hk : ∀ vs H1, Ex H H1 → A vs H1 → vs.length = n ∧ pre vs H1 P) : EvP (tCall (SpF n pre) [] E tr) σ H P := fun H1 e Q q =>
  h H1 e _ fun vs H2 e2 a => by
    rw [List.append_nil]
    obtain ⟨hl, hp⟩ := hk vs H2 (e.trans e2) a
    exact ⟨hl, P, hp, fun v H3 e3 p => q v H3 (e2.trans e3) p⟩
/-- all arguments are known values -/
theorem evp_callv {n : Nat} {pre : Pre} {E : XK} {vs : List V} (h : EvA tr σ H vs) (hl : vs.length = n) (hk : ∀ H1, Ex H H1 → pre vs H1 P) : EvP (tCall (SpF n pre) [] E tr) σ H P := fun H1 e Q q =>
  h H1 e _ fun H2 e2 => by
    rw [List.append_nil]
    exact ⟨hl, P, hk H2 (e.trans e2), fun v H3 e3 p => q v H3 (e2.trans e3) p⟩
theorem ev_callv {n : Nat} {pre : Pre} {E : XK} {vs : List V} (h : EvA tr σ H vs) (hl : vs.length = n) (hk : ∀ H1, Ex H H1 → pre vs H1 fun x _ => x = v) : Ev (tCall (SpF n pre) [] E tr) σ H v := ev_evp (evp_callv h hl hk)
/-- what a body shows -/
def Bd (t : TS) (N : List Str) (vs : List V) (H : Hp) (P : VP) : Prop := ∀ Q : VK, (∀ v H2, Ex H H2 → P v H2 → Q v H2) → t { nx := fun _ H' => Q .non H', rt := Q } (L2.start N vs) H
/-! ### statements -/
variable {D : Ends} {tz : TS}
theorem sp_ret (h : EvP te σ H P) (k : ∀ v H1, Ex H H1 → P v H1 → D.rt v H1) : tRet te D σ H := h H (Ex.refl H) _ k
theorem sp_asg {i : Nat} (h : EvP te σ H P) (k : ∀ v H1, Ex H H1 → P v H1 → D.nx (σ.set i (some v)) H1) : tAsg te (gName i) D σ H := h H (Ex.refl H) _ k
theorem qp_asg {i : Nat} (h : EvP te σ H P) (k : ∀ v H1, Ex H H1 → P v H1 → tz D (σ.set i (some v)) H1) : tSeq (tAsg te (gName i)) tz D σ H := h H (Ex.refl H) _ k
/-- a, b = a tuple -/
theorem qp_tup2 {i j : Nat} (h : EvP te σ H P) (hp : ∀ v H1, Ex H H1 → P v H1 → ∃ a x y, v = .ref a ∧ SqT K H1 a [x, y] ∧ tz D ((σ.set i (some x)).set j (some y)) H1) : tSeq (tAsg te (gTup K 2 (gCons (gName i) (gCons (gName j) gNil)))) tz D σ H :=
  h H (Ex.refl H) _ fun v H1 e p => by
    obtain ⟨a, x, y, rfl, hs, k⟩ := hp v H1 e p
    exact ⟨a, [x, y], rfl, hs, rfl, x, [y], rfl, y, [], rfl, rfl, k⟩
/-- a, b = a list of two; of three -/
theorem qp_unl2 {i j : Nat} {a : Addr} (h : Ev te σ H (.ref a)) (hs : SqL K H a [x, y]) (k : ∀ H1, Ex H H1 → tz D ((σ.set i (some x)).set j (some y)) H1) : tSeq (tAsg te (gUnl K 2 (gCons (gName i) (gCons (gName j) gNil)))) tz D σ H :=
  h H (Ex.refl H) _ fun H1 e => ⟨a, [x, y], rfl, ex_l e hs, rfl, x, [y], rfl, y, [], rfl, rfl, k H1 e⟩
theorem qp_unl3 {i j l : Nat} {a : Addr} (h : Ev te σ H (.ref a)) (hs : SqL K H a [x, y, z]) (k : ∀ H1, Ex H H1 → tz D (((σ.set i (some x)).set j (some y)).set l (some z)) H1) : tSeq (tAsg te (gUnl K 3 (gCons (gName i) (gCons (gName j) (gCons (gName l) gNil))))) tz D σ H :=
  h H (Ex.refl H) _ fun H1 e => ⟨a, [x, y, z], rfl, ex_l e hs, rfl, x, [y, z], rfl, y, [z], rfl, z, [], rfl, rfl, k H1 e⟩
theorem q_par {i j : Nat} {ta2 : TA} (h : EvA ta2 σ H [x, y]) (k : ∀ H1, Ex H H1 → tz D ((σ.set i (some x)).set j (some y)) H1) : tSeq (tPar i j ta2) tz D σ H := h H (Ex.refl H) _ fun H1 e => ⟨x, y, rfl, k H1 e⟩
theorem s_par {i j : Nat} {ta2 : TA} (h : EvA ta2 σ H [x, y]) (k : ∀ H1, Ex H H1 → D.nx ((σ.set i (some x)).set j (some y)) H1) : tPar i j ta2 D σ H := h H (Ex.refl H) _ fun H1 e => ⟨x, y, rfl, k H1 e⟩
/-! ### fields of an object -/
theorem ev_fld {a C dx : Addr} {fs : List (Str × V)} {f : Str} (h : Ev ta σ H (.ref a)) (ho : H a = some (.ins C dx fs)) (hc : Cls K C) (hn : NoAttr K C f) (hl : fs.lookup f = some v) : Ev (tFld K ta f) σ H v := fun H1 e Q q =>
  h H1 e _ fun H2 e2 => ⟨a, C, dx, fs, v, rfl, e2 a _ (e a _ ho), hc, hn, hl, q H2 e2⟩
/-! ### tests -/
theorem ev_chain {C1 C2 : V → V → Bool} {a b c : V} (ha : Ev ta σ H a) (hb : Ev tb σ H b) (hc : Ev tx σ H c) {r r' : R2} {k1 k2 : Bool} (h1 : RV r a b H (.bl k1)) (h2 : k1 = true → RV r' b c H (.bl k2)) : Ev (tChain r r' ta tb tx) σ H (.bl (k1 && k2)) := fun H1 e Q q =>
  ha H1 e _ fun H2 e2 => hb H2 (e.trans e2) _ fun H3 e3 => h1 H3 ((e.trans e2).trans e3) _ fun H4 e4 => ⟨k1, rfl, by
    have e14 : Ex H1 H4 := (e2.trans e3).trans e4
    cases k1 with
    | true =>
      show tx σ H4 _
      exact hc H4 (e.trans e14) _ fun H5 e5 => h2 rfl H5 ((e.trans e14).trans e5) Q fun H6 e6 => q H6 ((e14.trans e5).trans e6)
    | false => exact q H4 e14⟩
theorem et_evp {te : TE} {b : Bool} (h : EvP te σ H (fun x _ => x = .bl b)) : EvT (tB te) σ H b := et_B (ev_evp h)
/-! ### built-in calls -/
theorem rcp_all {a : Addr} {bs : List Bool} (h : SqL K H a (bs.map V.bl)) : RCP (rAll K) [.ref a] H (fun x _ => x = .bl (bs.all id)) := fun H1 e _ q => ⟨a, bs, rfl, ex_l e h, q _ H1 (Ex.refl H1) rfl⟩
theorem rcp_sum {a : Addr} {ns : List Int} (h : SqL K H a (ns.map V.int)) : RCP (rSum K) [.ref a] H (fun x _ => x = .int ns.sum) := fun H1 e _ q => ⟨a, ns, rfl, ex_l e h, q _ H1 (Ex.refl H1) rfl⟩
theorem rcp_len {a : Addr} {xs : List V} (h : SqL K H a xs) : RCP (rLenS K) [.ref a] H (fun x _ => x = .int (xs.length : Int)) := fun H1 e _ q => ⟨a, xs, rfl, Or.inl (ex_l e h), q _ H1 (Ex.refl H1) rfl⟩
theorem ev_sumN {ns : List Int} (h : EvP ta σ H (fun v H1 => ∃ p, v = .ref p ∧ H1 p = some (.lst (ns.map V.int)))) : Ev (tCB (rSum K) (tCons ta tNil)) σ H (.int ns.sum) := ev_evp (evp_cb1 h fun v H1 _ ⟨_, e, hp⟩ => by
  subst e
  exact rcp_sum (sq_of hp))
theorem ev_allN {bs : List Bool} (h : EvP ta σ H (fun v H1 => ∃ p, v = .ref p ∧ H1 p = some (.lst (bs.map V.bl)))) : Ev (tCB (rAll K) (tCons ta tNil)) σ H (.bl (bs.all id)) := ev_evp (evp_cb1 h fun v H1 _ ⟨_, e, hp⟩ => by
  subst e
  exact rcp_all (sq_of hp))
theorem ev_lenP {n : Nat} (h : EvP ta σ H (fun v H1 => ∃ p xs, v = .ref p ∧ H1 p = some (.lst xs) ∧ xs.length = n)) : Ev (tCB (rLenS K) (tCons ta tNil)) σ H (.int (n : Int)) := ev_evp (evp_cb1 h fun v H1 _ ⟨_, xs, e, hp, hl⟩ => by
  subst e hl
  exact rcp_len (sq_of hp))
def rInt1 : List V → Hp → VK → Prop := fun xs H Q => (∃ i, xs = [.int i] ∧ Q (.int i) H) ∨ ∃ k, xs = [.bl k] ∧ Q (.int (if k then 1 else 0)) H
def rAbs : List V → Hp → VK → Prop := fun xs H Q => ∃ i, xs = [.int i] ∧ Q (.int (if i < 0 then -i else i)) H
/-! ### promises that hand back a new list -/
abbrev PreL := List V → Hp → List V → Prop
def SpG (n : Nat) (pre : PreL) : Sp := fun vs H Q _ => vs.length = n ∧ ∃ xs, pre vs H xs ∧ ∀ p H2, H p = none → Ex H H2 → H2 p = some (.lst xs) → Q (.ref p) H2
theorem SpG.len {n : Nat} {pre : PreL} {ps : List Str} (e : ps.length = n) : ∀ vs H Q E, SpG n pre vs H Q E → vs.length = ps.length := fun _ _ _ _ h => h.1.trans e.symm
theorem el_callA {n : Nat} {pre : PreL} {E : XK} {A : List V → Hp → Prop} {xs : List V} (h : EvAP tr σ H A) (hk : ∀ vs H1, Ex H H1 → A vs H1 → vs.length = n ∧ pre vs H1 xs) : EvL (tCall (SpG n pre) [] E tr) σ H xs := fun H1 e Q q =>
  h H1 e _ fun vs H2 e2 a => by
    rw [List.append_nil]
    obtain ⟨hl, hp⟩ := hk vs H2 (e.trans e2) a
    exact ⟨hl, xs, hp, fun p H3 hn e3 h3 => q p H3 (fresh_back e2 hn) (e2.trans e3) h3⟩
theorem el_callv {n : Nat} {pre : PreL} {E : XK} {vs xs : List V} (h : EvA tr σ H vs) (hl : vs.length = n) (hk : ∀ H1, Ex H H1 → pre vs H1 xs) : EvL (tCall (SpG n pre) [] E tr) σ H xs := fun H1 e Q q =>
  h H1 e _ fun H2 e2 => by
    rw [List.append_nil]
    exact ⟨hl, xs, hk H2 (e.trans e2), fun p H3 hn e3 h3 => q p H3 (fresh_back e2 hn) (e2.trans e3) h3⟩
/-- what such a body shows -/
def BdL (t : TS) (N : List Str) (vs : List V) (H : Hp) (xs : List V) : Prop := ∀ Q : VK, (∀ p H2, H p = none → Ex H H2 → H2 p = some (.lst xs) → Q (.ref p) H2) → t { nx := fun _ H' => Q .non H', rt := Q } (L2.start N vs) H
/-! ### comprehensions -/
/-- what stands in the new list so far -/
def Cx1 (H : Hp) (zs : List V) (Dl : Addr) (H' : Hp) : Prop := H Dl = none ∧ Ex H H' ∧ H' Dl = some (.lst zs)
theorem cx1_turn {zs : List V} {Dl : Addr} {σ2 : L2.St} {b : Bool} {v : V} (p : Cx1 H zs Dl H') (hz : zs.length < 50000) (ht : EvT t σ2 H' b) (he : b = true → Ev te σ2 H' v) :
    t σ2 H' fun b' H3 => if b' = true then te σ2 H3 fun y H4 => ∃ acc, H4 Dl = some (.lst acc) ∧ acc.length < sizeLine ∧ Cx1 H (if b = true then zs ++ [v] else zs) Dl (upd H4 Dl (.lst (acc ++ [y]))) else Cx1 H (if b = true then zs ++ [v] else zs) Dl H3 := by
  obtain ⟨p1, p2, p3⟩ := p
  refine ht H' (Ex.refl _) _ fun H3 e3 => ?_
  cases b with
  | true =>
    rw [if_pos rfl, if_pos rfl]
    exact he rfl H3 e3 _ fun H4 e4 => ⟨zs, e4 Dl _ (e3 Dl _ p3), sz_lt (by omega), p1, Ex.mut ((p2.trans e3).trans e4) p1, upd_same⟩
  | false =>
    rw [if_neg (by decide), if_neg (by decide)]
    exact ⟨p1, p2.trans e3, e3 Dl _ p3⟩
theorem take_succ_of {α : Type} {l : List α} {i : Nat} {y : α} (h : l[i]? = some y) : l.take (i + 1) = l.take i ++ [y] := by
  rw [List.take_add_one, h]
  rfl
theorem fm_step {α : Type} {l : List α} {i : Nat} {y : α} (p : α → Bool) (v : α → V) (h : l[i]? = some y) : ((l.take (i + 1)).filter p).map v = if p y = true then ((l.take i).filter p).map v ++ [v y] else ((l.take i).filter p).map v := by
  rw [take_succ_of h, List.filter_append, List.map_append]
  cases hp : p y with
  | true => rw [if_pos rfl, List.filter_cons, if_pos hp] <;> rfl
  | false =>
    rw [if_neg (by decide), List.filter_cons, if_neg (by rw [hp]; decide)]
    show _ ++ [] = _
    rw [List.append_nil]
theorem fm_len {α : Type} (l : List α) (i : Nat) (p : α → Bool) (v : α → V) : (((l.take i).filter p).map v).length ≤ l.length := by
  rw [List.length_map]
  exact Nat.le_trans (List.length_filter_le _ _) (by rw [List.length_take]; omega)
/-- over a list that stands, any target: y is what the item x stands for -/
theorem el_lcG {α : Type} {a : Addr} {xs : List V} {l : List α} {tl : TE} {g : TG} {vs : List Nat} (p : α → Bool) (v : α → V) (h : Ev tl σ H (.ref a)) (hx : SqL K H a xs) (hl : xs.length = l.length) (hz : l.length ≤ 40000)
    (hg : ∀ (i : Nat) (x : V) (y : α) H1, Ex H H1 → xs[i]? = some x → l[i]? = some y → ∃ σ2, (∀ Q : L2.St → Hp → Prop, Q σ2 H1 → g x (wipe σ vs) H1 Q) ∧ wipe σ2 vs = wipe σ vs ∧ EvT t σ2 H1 (p y) ∧ (p y = true → Ev te σ2 H1 (v y))) :
    EvL (tLc (iList K tl) g t te vs) σ H ((l.filter p).map v) := fun H0 e Q q => h H0 e _ fun H1 e1 => ⟨a, rfl, ⟨xs, ex_l (e.trans e1) hx⟩, fun Dl hD =>
  lc_list (xs := xs) (fun i H' => Cx1 H1 (((l.take i).filter p).map v) Dl H') ⟨hD, Ex.new hD, upd_same⟩ (fun i H' _ w => ex_l ((e.trans e1).trans w.2.1) hx)
    (fun i x H' hi w => by
      have hi2 : i < l.length := by
        rw [← hl]
        exact (List.getElem?_eq_some_iff.mp hi).1
      have hy : l[i]? = some l[i] := List.getElem?_eq_getElem hi2
      obtain ⟨σ2, h1, h2, h3, h4⟩ := hg i x l[i] H' ((e.trans e1).trans w.2.1) hi hy
      refine h1 _ ⟨h2, ?_⟩
      rw [fm_step p v hy]
      exact cx1_turn w (by have := fm_len l i p v; omega) h3 h4)
    (fun H' w => by
      rw [hl, List.take_length] at w
      exact q Dl H' (fresh_back e1 w.1) (e1.trans w.2.1) w.2.2)⟩
/-- .. the target a name -/
theorem el_lc1 {α : Type} {a : Addr} {xs : List V} {l : List α} {tl : TE} {j : Nat} {vs : List Nat} (p : α → Bool) (v : α → V) (h : Ev tl σ H (.ref a)) (hx : SqL K H a xs) (hl : xs.length = l.length) (hz : l.length ≤ 40000)
    (hw : ∀ x, wipe ((wipe σ vs).set j (some x)) vs = wipe σ vs)
    (hg : ∀ (i : Nat) (x : V) (y : α) H1, Ex H H1 → xs[i]? = some x → l[i]? = some y → EvT t ((wipe σ vs).set j (some x)) H1 (p y) ∧ (p y = true → Ev te ((wipe σ vs).set j (some x)) H1 (v y))) :
    EvL (tLc (iList K tl) (gName j) t te vs) σ H ((l.filter p).map v) := el_lcG p v h hx hl hz fun i x y H1 e hi hy => ⟨_, fun _ q => q, hw x, (hg i x y H1 e hi hy).1, (hg i x y H1 e hi hy).2⟩
theorem et_yes : EvT tYes σ H true := fun H1 _ _ q => q H1 (Ex.refl H1)
theorem filter_yes {α : Type} (l : List α) : l.filter (fun _ => true) = l := List.filter_eq_self.mpr fun _ _ => rfl
/-- .. all are kept -/
theorem el_lc1y {α : Type} {a : Addr} {xs : List V} {l : List α} {tl : TE} {j : Nat} {vs : List Nat} (v : α → V) (h : Ev tl σ H (.ref a)) (hx : SqL K H a xs) (hl : xs.length = l.length) (hz : l.length ≤ 40000)
    (hw : ∀ x, wipe ((wipe σ vs).set j (some x)) vs = wipe σ vs) (hg : ∀ (i : Nat) (x : V) (y : α) H1, Ex H H1 → xs[i]? = some x → l[i]? = some y → Ev te ((wipe σ vs).set j (some x)) H1 (v y)) :
    EvL (tLc (iList K tl) (gName j) tYes te vs) σ H (l.map v) := by
  have q := el_lc1 (te := te) (fun _ => true) v h hx hl hz hw fun i x y H1 e hi hy => ⟨et_yes, fun _ => hg i x y H1 e hi hy⟩
  rw [filter_yes] at q
  exact q
/-- .. over ints -/
theorem el_lcI {a : Addr} {ns : List Int} {tl : TE} {j : Nat} {vs : List Nat} (v : Int → V) (h : Ev tl σ H (.ref a)) (hx : SqL K H a (ns.map V.int)) (hz : ns.length ≤ 40000)
    (hw : ∀ x, wipe ((wipe σ vs).set j (some x)) vs = wipe σ vs) (hg : ∀ (n : Int) H1, Ex H H1 → n ∈ ns → Ev te ((wipe σ vs).set j (some (.int n))) H1 (v n)) :
    EvL (tLc (iList K tl) (gName j) tYes te vs) σ H (ns.map v) := el_lc1y v h hx (by rw [List.length_map]) hz hw fun i x y H1 e hi hy => by
  rw [List.getElem?_map, hy] at hi
  cases hi
  exact hg y H1 e (List.mem_of_getElem? hy)
/-- over range(n) -/
theorem el_lcR {n : Nat} {j : Nat} {vs : List Nat} {ta2 : TA} (v : Nat → V) (h : EvA ta2 σ H [.int (n : Int)]) (hn : n ≤ 40000) (hw : ∀ x, wipe ((wipe σ vs).set j (some x)) vs = wipe σ vs)
    (hg : ∀ (i : Nat) H1, Ex H H1 → i < n → Ev te ((wipe σ vs).set j (some (.int (i : Int)))) H1 (v i)) : EvL (tLc (iRng1 ta2) (gName j) tYes te vs) σ H ((List.range n).map v) := by
  have q := el_lcR1 (t := tYes) (te := te) (n := (n : Int)) (fun _ => true) v h ⟨by omega, by omega⟩ hw (fun _ _ _ _ => et_yes) fun i H1 e hi _ => hg i H1 e (by omega)
  rw [Int.toNat_natCast] at q
  unfold given at q
  rw [filter_yes] at q
  exact q
/-- over range(lo, n) -/
theorem el_lcR2 {lo n : Nat} {j : Nat} {vs : List Nat} {ta2 : TA} (v : Nat → V) (h : EvA ta2 σ H [.int (lo : Int), .int (n : Int)]) (hn : n ≤ 40000) (hlo : lo ≤ 40000) (hw : ∀ x, wipe ((wipe σ vs).set j (some x)) vs = wipe σ vs)
    (hg : ∀ (i : Nat) H1, Ex H H1 → lo + i < n → Ev te ((wipe σ vs).set j (some (.int ((lo + i : Nat) : Int)))) H1 (v i)) : EvL (tLc (iRng2 ta2) (gName j) tYes te vs) σ H ((List.range (n - lo)).map v) := fun H0 e Q q => h H0 e _ fun H1 e1 => ⟨(lo : Int), (n : Int), rfl, ⟨by omega, by omega, by omega, by omega⟩, fun Dl hD => by
  have en : ((n : Int) - (lo : Int)).toNat = n - lo := by omega
  rw [en]
  exact lc_range (lo := (lo : Int)) (n := n - lo) (fun i H' => Cx1 H1 ((List.range i).map v) Dl H') ⟨hD, Ex.new hD, upd_same⟩ (fun i H' hi w => by
    have ei : (lo : Int) + (i : Int) = ((lo + i : Nat) : Int) := by omega
    refine ⟨hw _, ?_⟩
    have z := cx1_turn (b := true) (v := v i) (σ2 := (wipe σ vs).set j (some (.int ((lo : Int) + (i : Int))))) (te := te) w (by rw [List.length_map, List.length_range]; omega) et_yes fun _ => by
      rw [ei]
      exact hg i H' ((e.trans e1).trans w.2.1) (by omega)
    rw [if_pos rfl] at z
    rw [List.range_succ, List.map_append]
    exact z) (fun H' w => q Dl H' (fresh_back e1 w.1) (e1.trans w.2.1) w.2.2)⟩
/-! ### comprehensions whose items are new objects -/
theorem ty_turn {σ2 : L2.St} {A : VK} {B : Hp → Prop} (h : te σ2 H' A) : tYes σ2 H' fun b H3 => if b = true then te σ2 H3 A else B H3 := by
  show if true = true then te σ2 H' A else B H'
  exact iteT h
def EvH (te : TE) (σ : L2.St) (H : Hp) (o : HO) : Prop := ∀ H1, Ex H H1 → ∀ Q : VK, (∀ p H2, H1 p = none → Ex H1 H2 → H2 p = some o → Q (.ref p) H2) → te σ H1 Q
def Cn {α : Type} (H : Hp) (o : α → HO) (ys : List α) (Dl : Addr) (H' : Hp) : Prop := H Dl = none ∧ Ex H H' ∧ ∃ ps : List Addr, H' Dl = some (.lst (ps.map V.ref)) ∧ Paired (fun y p => p ≠ Dl ∧ H p = none ∧ H' p = some (o y)) ys ps
theorem evp_lcN {α : Type} {a : Addr} {xs : List V} {l : List α} {tl : TE} {j : Nat} {vs : List Nat} (o : α → HO) (h : Ev tl σ H (.ref a)) (hx : SqL K H a xs) (hl : xs.length = l.length) (hz : l.length ≤ 40000)
    (hw : ∀ x, wipe ((wipe σ vs).set j (some x)) vs = wipe σ vs) (hg : ∀ (i : Nat) (x : V) (y : α) H1, Ex H H1 → xs[i]? = some x → l[i]? = some y → EvH te ((wipe σ vs).set j (some x)) H1 (o y)) :
    ∀ H1, Ex H H1 → ∀ Q : VK, (∀ p H2 (ps : List Addr), H1 p = none → Ex H1 H2 → H2 p = some (.lst (ps.map V.ref)) → Paired (fun y q => H1 q = none ∧ H2 q = some (o y)) l ps → Q (.ref p) H2) → tLc (iList K tl) (gName j) tYes te vs σ H1 Q := fun H0 e Q q => h H0 e _ fun H1 e1 => ⟨a, rfl, ⟨xs, ex_l (e.trans e1) hx⟩, fun Dl hD =>
  lc_list (xs := xs) (fun i H' => Cn H1 o (l.take i) Dl H') ⟨hD, Ex.new hD, [], upd_same, .nil⟩ (fun i H' _ w => ex_l ((e.trans e1).trans w.2.1) hx)
    (fun i x H' hi w => by
      obtain ⟨w1, w2, ps, w3, w4⟩ := w
      have hi2 : i < l.length := by
        rw [← hl]
        exact (List.getElem?_eq_some_iff.mp hi).1
      have hy : l[i]? = some l[i] := List.getElem?_eq_getElem hi2
      refine ⟨hw x, ?_⟩
      refine ty_turn (hg i x l[i] H' ((e.trans e1).trans w2) hi hy H' (Ex.refl _) _ fun p H2 hp e2 h2 => ?_)
      have hlen : ps.length = (l.take i).length := (Paired.length w4).symm
      have hpD : p ≠ Dl := fun z => by rw [z, w3] at hp; cases hp
      refine ⟨ps.map V.ref, e2 Dl _ w3, sz_lt (by rw [List.length_map, hlen, List.length_take]; omega), w1, Ex.mut (w2.trans e2) w1, ps ++ [p], ?_, ?_⟩
      · rw [upd_same, List.map_append]
        rfl
      · rw [take_succ_of hy]
        refine Paired.snoc (Paired.mapP w4 fun y q ⟨q1, q2, q3⟩ => ⟨q1, q2, ?_⟩) ⟨hpD, fresh_back w2 hp, ?_⟩
        · rw [upd_ne q1]
          exact e2 q _ q3
        · rw [upd_ne hpD]
          exact h2)
    (fun H' w => by
      rw [hl, List.take_length] at w
      obtain ⟨w1, w2, ps, w3, w4⟩ := w
      exact q Dl H' ps (fresh_back e1 w1) (e1.trans w2) w3 (Paired.mapP w4 fun y r ⟨_, r2, r3⟩ => ⟨fresh_back e1 r2, r3⟩))⟩
end
end Fc
/-! W2: what the top has written, told of the written part K; a def's promise by its name. -/
namespace Fc
open PySem PySem.Spec PyProof.Rows L2 Evl
structure Txt (K : PySem.W.Frag) (mg : Str → Option Value) : Prop where
  says : SaysF K
  at_ : ∃ h : Heap, K.In h ∧ h.Ns mainGlobals mg
/-- where a global's object stands -/
abbrev ad (K : PySem.W.Frag) (x : Str) : Addr := He.ga K x
section
variable {K : PySem.W.Frag} {mg : Str → Option Value}
theorem Txt.ok (T : Txt K mg) (i : Nat) {f : He.Fa} (h : fa[i]? = some f) : f.ok K = true := T.says.d.fact i h
theorem Txt.glo (T : Txt K mg) (i : Nat) {x : Str} (h : fa[i]? = some (.glo x) := by rfl) : mg x = some (.ref (ad K x)) := by
  obtain ⟨hp, X, G⟩ := T.at_
  exact He.glo_ok X G (T.ok i h)
theorem Txt.free (T : Txt K mg) (i : Nat) {x : Str} (h : fa[i]? = some (.free x) := by rfl) : mg x = none := by
  obtain ⟨hp, X, G⟩ := T.at_
  exact He.free_ok X G (T.ok i h)
theorem Txt.int (T : Txt K mg) (i : Nat) {x : Str} {n : Int} (h : fa[i]? = some (.int x n) := by rfl) : ∃ t, mg x = some (.int n t) := by
  obtain ⟨hp, X, G⟩ := T.at_
  exact He.int_ok X G (T.ok i h)
theorem Txt.cls (T : Txt K mg) (i : Nat) {x : Str} (h : fa[i]? = some (.cls x) := by rfl) : Cls K (ad K x) := He.cls_ok (T.ok i h)
theorem Txt.noat (T : Txt K mg) (i : Nat) {x f : Str} (h : fa[i]? = some (.noat x f) := by rfl) : NoAttr K (ad K x) f := He.noat_ok (T.ok i h)
theorem Txt.mkr (T : Txt K mg) (i : Nat) {x : Str} (h : fa[i]? = some (.mkr x) := by rfl) : Mk K (ad K x) (He.ma K (ad K x) "__init__") := He.mkr_ok (T.ok i h)
end
/-! ### a def's promise -/
/-- the def at f keeps its promise -/
structure OkA (P : Program) (w : World) (K : PySem.W.Frag) (mg : Str → Option Value) (base : Heap) (k : Nat) (f : Addr) (ps : List Str) (sp : Sp) : Prop where
  ex : ∃ fd : FuncData, FnOk P w K mg base CX0 k f fd ps sp ∧ Binds K fd ps []
  kp : PySem.W.keepIn K (.ref f) = true
/-- .. a module's def by its name -/
structure OkF (P : Program) (w : World) (K : PySem.W.Frag) (mg : Str → Option Value) (base : Heap) (k : Nat) (x : Str) (ps : List Str) (sp : Sp) : Prop where
  a : OkA P w K mg base k (ad K x) ps sp
  g : mg x = some (.ref (ad K x))
section
variable {X : Cx} {k : Nat} {x : Str} {ps : List Str} {sp : Sp} {p pos : Pos} {e : Expr} {es : List Expr} {t : TA}
theorem pe_callF (F : OkF X.prog X.w X.K X.mg X.base k x ps sp) (hr : Room k X.A) (hg : Gl X x) (ha : PA X (e :: es) t) (hdb : (x == ("__debug__" : Str)) = false := by decide)
    (he : starEach (e :: es) X.env = (false, eval e X.env) :: starEach es X.env := by rfl) (hpl : (backTo pos (starEach es X.env)).any (·.1) = false := by rfl) : PE X (.Call (.Name x p) (e :: es) [] pos) (tCall sp [] E0 t) := by
  obtain ⟨fd, G, b⟩ := F.a.ex
  exact pe_call G hr hg F.g F.a.kp b .nil pass0 ha hdb he hpl
/-- C(..): a new object, then its __init__ -/
theorem pe_makeF {C f : Addr} (M : Mk X.K C f) (F : OkA X.prog X.w X.K X.mg X.base k f ps sp) (hr : Room (k + 1) X.A) (hg : Gl X x) (hm : X.mg x = some (.ref C)) (ha : PA X (e :: es) t) (hdb : (x == ("__debug__" : Str)) = false := by decide)
    (he : starEach (e :: es) X.env = (false, eval e X.env) :: starEach es X.env := by rfl) (hpl : (backTo pos (starEach es X.env)).any (·.1) = false := by rfl) : PE X (.Call (.Name x p) (e :: es) [] pos) (tMake C sp [] E0 t) := by
  obtain ⟨fd, G, b⟩ := F.ex
  exact pe_make M G hr hg hm b .nil pass0 ha hdb he hpl
theorem pe_makeF0 {C f : Addr} (M : Mk X.K C f) (F : OkA X.prog X.w X.K X.mg X.base k f ps sp) (hr : Room (k + 1) X.A) (hg : Gl X x) (hm : X.mg x = some (.ref C)) (hdb : (x == ("__debug__" : Str)) = false := by decide) : PE X (.Call (.Name x p) [] [] pos) (tMake C sp [] E0 tNil) := by
  obtain ⟨fd, G, b⟩ := F.ex
  exact pe_make0 M G hr hg hm b .nil pass0 hdb
/-- a call of a slot that holds the def at f -/
theorem pe_callLA {i : Nat} {f : Addr} (F : OkA X.prog X.w X.K X.mg X.base k f ps sp) (hr : Room k X.A) (hN : X.N[i]? = some x) (hv : Vis X.env.scope x) (ha : PA X (e :: es) t) (hdb : (x == ("__debug__" : Str)) = false := by decide) (hcd : (x == ("__classdict__" : Str)) = false := by decide)
    (he : starEach (e :: es) X.env = (false, eval e X.env) :: starEach es X.env := by rfl) (hpl : (backTo pos (starEach es X.env)).any (·.1) = false := by rfl) : PE X (.Call (.Name x p) (e :: es) [] pos) (tCallL i f sp [] E0 t) := by
  obtain ⟨fd, G, b⟩ := F.ex
  exact pe_callL G hr hN hv F.kp b .nil pass0 ha hdb hcd he hpl
/-- a module's whole number -/
theorem pe_gint {n : Int} (h : ∃ t, X.mg x = some (.int n t)) (hg : Gl X x) (hd : (x == ("__debug__" : Str)) = false := by decide) : PE X (.Name x pos) (tC (.int n)) := by
  obtain ⟨t, ht⟩ := h
  exact pe_glob hg ht ⟨t, rfl⟩ hd
theorem pe_gref {a : Addr} (h : X.mg x = some (.ref a)) (hg : Gl X x) (hd : (x == ("__debug__" : Str)) = false := by decide) : PE X (.Name x pos) (tC (.ref a)) := pe_glob hg h rfl hd
end
section
variable {P : Program} {w : World} {K : PySem.W.Frag} {mg : Str → Option Value} {base : Heap}
/-- a module's def keeps its promise: its body has the reading t, t does what is promised -/
theorem okF {x : Str} {st : Stmt} {N ps : List Str} {k : Nat} {sp : Sp} (i j : Nat) (T : Txt K mg) (hi : fn[i]? = some ⟨(x, none), x, x, defArgs st, defBody st, defScope st, [], []⟩) (hj : fa[j]? = some (.glo x))
    (S : FnScope N ps (defScope st)) (len : ∀ vs H Q E, sp vs H Q E → vs.length = ps.length)
    (hb : ∀ (kV doc pm : Value) (an : Option Addr) (cdv ct : Value) (us : List Value), us.length = ps.length → bindArgs (PySem.W.fnOf x x (defArgs st) (defBody st) (defScope st) .none kV doc pm an cdv ct) ⟨us, []⟩ = pure (ps.zip us))
    (t : TS) (hp : ∀ vs H Q E, sp vs H Q E → t { nx := fun _ H' => Q .non H', rt := Q } (L2.start N vs) H)
    (hd : ∀ (f : Addr) (cdv : Value) (A : Around) (outer : List Env) (s : Shared) (H : Hp) (E : XK), Room k (A.deeper (envOfC x (defScope st) s.heap.objs.size f cdv)) →
      PSs (cxOf CX0 P w K mg base N x (defScope st) f cdv A outer s H E).nox (defBody st) t) : OkF P w K mg base (k + 1) x ps sp := by
  obtain ⟨fd, F⟩ := T.says.d.def_ i hi
  refine ⟨⟨⟨fd, FunD.ok F S len fun cdv A outer s H vs Q E hr h => ⟨t, (hd _ cdv A outer s H E hr).nox, hp vs H Q E h⟩, ?_⟩, F.kp⟩, T.glo j hj⟩
  exact FunD.bindsN F hb
/-- .. the reading chosen by what is handed in -/
theorem okFx {x : Str} {st : Stmt} {N ps : List Str} {k : Nat} {sp : Sp} (i j : Nat) (T : Txt K mg) (hi : fn[i]? = some ⟨(x, none), x, x, defArgs st, defBody st, defScope st, [], []⟩) (hj : fa[j]? = some (.glo x))
    (S : FnScope N ps (defScope st)) (len : ∀ vs H Q E, sp vs H Q E → vs.length = ps.length)
    (hb : ∀ (kV doc pm : Value) (an : Option Addr) (cdv ct : Value) (us : List Value), us.length = ps.length → bindArgs (PySem.W.fnOf x x (defArgs st) (defBody st) (defScope st) .none kV doc pm an cdv ct) ⟨us, []⟩ = pure (ps.zip us))
    (hd : ∀ (f : Addr) (cdv : Value) (A : Around) (outer : List Env) (s : Shared) (H : Hp) (vs : List V) (Q : VK) (E : XK), Room k (A.deeper (envOfC x (defScope st) s.heap.objs.size f cdv)) → sp vs H Q E →
      ∃ t, PSs (cxOf CX0 P w K mg base N x (defScope st) f cdv A outer s H E).nox (defBody st) t ∧ t { nx := fun _ H' => Q .non H', rt := Q } (L2.start N vs) H) : OkF P w K mg base (k + 1) x ps sp := by
  obtain ⟨fd, F⟩ := T.says.d.def_ i hi
  refine ⟨⟨⟨fd, FunD.ok F S len fun cdv A outer s H vs Q E hr h => ?_, ?_⟩, F.kp⟩, T.glo j hj⟩
  · obtain ⟨t, h1, h2⟩ := hd _ cdv A outer s H vs Q E hr h
    exact ⟨t, h1.nox, h2⟩
  · exact FunD.bindsN F hb
/-- a class's method the same -/
theorem okM {c m q : Str} {st : Stmt} {N ps : List Str} {k : Nat} {sp : Sp} (i : Nat) (T : Txt K mg) (hi : fn[i]? = some ⟨(c, some m), m, q, defArgs st, defBody st, defScope st, [], []⟩)
    (S : FnScope N ps (defScope st)) (len : ∀ vs H Q E, sp vs H Q E → vs.length = ps.length)
    (hb : ∀ (kV doc pm : Value) (an : Option Addr) (cdv ct : Value) (us : List Value), us.length = ps.length → bindArgs (PySem.W.fnOf m q (defArgs st) (defBody st) (defScope st) .none kV doc pm an cdv ct) ⟨us, []⟩ = pure (ps.zip us))
    (t : TS) (hp : ∀ vs H Q E, sp vs H Q E → t { nx := fun _ H' => Q .non H', rt := Q } (L2.start N vs) H)
    (hd : ∀ (f : Addr) (cdv : Value) (A : Around) (outer : List Env) (s : Shared) (H : Hp) (E : XK), Room k (A.deeper (envOfC q (defScope st) s.heap.objs.size f cdv)) →
      PSs (cxOf CX0 P w K mg base N q (defScope st) f cdv A outer s H E).nox (defBody st) t) : OkA P w K mg base (k + 1) (He.ma K (ad K c) m) ps sp := by
  obtain ⟨fd, F⟩ := T.says.d.def_ i hi
  refine ⟨⟨fd, FunD.ok F S len fun cdv A outer s H vs Q E hr h => ⟨t, (hd _ cdv A outer s H E hr).nox, hp vs H Q E h⟩, ?_⟩, F.kp⟩
  exact FunD.bindsN F hb
end
end Fc
/-! W3: set(xs) of a list of ints, and sorted of such a set, however many its members. -/
namespace L2
open PySem PySem.Spec PyProof.Rows
section
variable {P : Program} {w : World} {A : Around} {E : Value → Shared → Prop} {s : Shared}
/-- a set that was made just now -/
abbrev newSetO (w : World) : Obj := { cls := .type "set", dict := none, data := .set #[] 0 (.fresh 0 0 (!w.params.followText "set-order")) }
/-- set(xs), xs a list of ints -/
theorem fc_set_list {l : Addr} {items : Array Value} (ns : List Int) {Q : Value → Shared → Prop} (hh : A.handled = none) (hl : s.heap.IsList l items) (hit : IntsAre items.toList ns) (hb : ns.length + 1 < scanBound)
    (done : ∀ (h2 : Heap) (tk c : Nat), SetR w h2 s.heap.objs.size (fun j => decide (j ∈ ns)) c → c ≤ ns.length → (∀ b o, s.heap.get? b = some o → h2.get? b = some o) → Q (.ref s.heap.objs.size) { s with heap := h2, toks := tk }) :
    wpAny (model P w) A (call (.type "set") [.ref l]) Q E s := by
  have many : items.size = ns.length := (Array.length_toList (xs := items)).symm.trans (IntsAre.length hit)
  have val : ∀ (i : Nat) (v : Value), items[i]? = some v → ∃ k t, ns[i]? = some k ∧ v = .int k t := fun i v hv => by
    have hi : i < ns.length := many ▸ (Array.getElem?_eq_some_iff.mp hv).1
    obtain ⟨t, e⟩ := IntsAre.int_at hit i v (by rw [Array.getElem?_toList]; exact hv)
    exact ⟨ns[i], t, List.getElem?_eq_getElem hi, e.trans (by rw [List.getD_eq_getElem?_getD, List.getElem?_eq_getElem hi] <;> rfl)⟩
  obtain ⟨c, tl, hmro⟩ := PySem.F.called_set.mro
  have m1 := PySem.F.called_set.made
  have m2 := PySem.F.called_set.sub
  have m3 := PySem.F.called_set.notType
  have m4 := PySem.F.called_set.canCreate
  have m5 := PySem.F.typeCall_set_1 (.ref l)
  refine wpAny_call (codeAny_of_tree (show wpAny _ _ (callAny (.type "set") _) _ _ _ from wpAny_pure ⟨Code.quiet_builtin _ (by decide +kernel), codeAny_builtin PySem.F.entry_type_call ?_⟩))
  rw [Around.under_plain (weight_type_call_type "set" [.ref l] []) rfl]
  repeat (any_goals (first | assumption | wp_step))
  generalize hS0 : s.heap.objs.size = S
  refine codeAny_mono (code_set_led1 (.ref l) (E := E) (Q₁ := fun obj s1 => obj = .ref S ∧ s1 = { s with heap := s.heap.push (newSetO w) }) ⟨by rw [hS0], rfl⟩) fun r s1 hr => ?_
  match r, hr with
  | .error e, hr => exact hr
  | .ok .next, hr => exact hr.elim
  | .ok .brk, hr => exact hr.elim
  | .ok .cont, hr => exact hr.elim
  | .ok (.ret obj), hr =>
    obtain ⟨rfl, rfl⟩ := hr
    have hS : (s.heap.push (newSetO w)).get? S = some (newSetO w) := by rw [← hS0]; exact Heap.get?_push_size _ rfl
    have hT : Shared.TypeIs { s with heap := s.heap.push (newSetO w) } (.ref S) "set" := ⟨_, hS, rfl⟩
    have i1 := PySem.F.called_set.init.lookup
    have i2 := PySem.F.called_set.init.bind (.ref S)
    repeat (any_goals (first | assumption | wp_step))
    refine codeAny_mono (codeAny_call_builtin (R := wants (fun r s2 => r = .none ∧ ∃ h2 tk c, s2 = { s with heap := h2, toks := tk } ∧ SetR w h2 S (fun j => decide (j ∈ ns)) c ∧ c ≤ ns.length ∧ ∀ b o, s.heap.get? b = some o → h2.get? b = some o) E)
      PySem.F.called_set.init.plain PySem.F.entry_set_init (check_set_init_1 hT ?_)) fun r2 s2 hr2 => ?_
    · obtain ⟨⟨ocls, odict, odata, oslots⟩, hol, hcl, nl, hdl⟩ := hl
      simp only at hcl hdl
      subst hcl hdl
      have hl0 : l < s.heap.objs.size := Heap.lt_size hol
      have hol2 : (s.heap.push (newSetO w)).get? l = some { cls := .type "list", dict := odict, data := .seq items nl, slots := oslots } := Heap.get?_push_of_some _ hol
      have b1 := PySem.F.sub_list_set
      have b2 := PySem.F.sub_list_frozenset
      have b3 : (Value.type "list" == Value.type "dict") = false := by decide
      have hl1 : (s.heap.push (newSetO w)).IsList l items := ⟨_, hol2, rfl, nl, rfl⟩
      unfold Builtin.«set.__init__» noKeywords Builtin.Frozenset.updateFrom
      generalize hPI : pyIter = PI
      wp_walk
      subst hPI
      refine wpAny_pyIter_list hl1 (wpAny_bind (wpAny_runValue ?_))
      have hz1 : (s.heap.push (newSetO w)).objs.size = S + 1 := by rw [Heap.size_push, hS0]
      have hh3 : A.in1.in1.in1.handled = none := by simp [hh]
      have hlS : l ≠ S := by rw [← hS0]; exact Nat.ne_of_lt hl0
      have hneI : l ≠ (s.heap.push (newSetO w)).objs.size := by rw [hz1, ← hS0]; exact Nat.ne_of_lt (Nat.lt_succ_of_lt hl0)
      have hSf : S ∉ [(s.heap.push (newSetO w)).objs.size, l] := by
        rw [hz1]
        simp only [List.mem_cons, List.not_mem_nil, or_false, not_or]
        exact ⟨Nat.ne_of_lt (Nat.lt_succ_self _), fun e => hlS e.symm⟩
      refine set_update_ints ((Walks.list hh3 _ l hneI items).toS) S hSf ns many hb val (items.size - 0) 0 _ (by omega) (Nat.zero_le _) ⟨⟨_, Heap.get?_push_size _ rfl, rfl, rfl⟩, (hl1.push _)⟩ ⟨0, Nat.le_refl 0, setR_new_at (Heap.get?_push_of_some _ hS)⟩ fun s3 c3 hm hc3 hS3 => ?_
      obtain ⟨h3, g3, d3, tk3, os3⟩ := s3
      obtain rfl : g3 = s.gens := hm.gens
      obtain rfl : d3 = s.drawn := hm.drawn
      obtain rfl : os3 = s.os := hm.os
      rw [many] at hc3
      refine wpAny_pure (wpAny_pure ⟨rfl, h3, tk3, c3, rfl, hS3, hc3, fun b o e => ?_⟩)
      have hb0 : b < S := by rw [← hS0]; exact Heap.lt_size e
      refine hm.heap b o ?_ (Heap.get?_push_of_some _ (Heap.get?_push_of_some _ e))
      rw [hz1]
      simp only [List.mem_cons, List.not_mem_nil, or_false, not_or]
      exact ⟨Nat.ne_of_lt hb0, Nat.ne_of_lt (Nat.lt_succ_of_lt hb0)⟩
    · match r2, hr2 with
      | .error e, hr2 => exact hr2
      | .ok .next, hr2 => exact hr2.elim
      | .ok .brk, hr2 => exact hr2.elim
      | .ok .cont, hr2 => exact hr2.elim
      | .ok (.ret r), hr2 =>
        obtain ⟨rfl, h2, tk, c2, rfl, hS2, hc2, hk2⟩ := hr2
        repeat (any_goals (first | assumption | wp_step))
        rw [hS0] at done
        exact done _ _ _ hS2 hc2 hk2
end
end L2
namespace L2
open PySem PySem.Spec PyProof.Rows
section
variable {P : Program} {w : World} {A : Around} {E : Value → Shared → Prop} {s : Shared} {a : Addr}
/-- sorted(set of ints), any number of members -/
theorem fc_sorted_set {S : Int → Bool} {n : Nat} {Q : Value → Shared → Prop} (R : SetR w s.heap a S n) (hh : A.handled = none) (few : n ≤ 1000)
    (done : ∀ s2 p (out : List Value) (c : Nat) (ns : List Int), (∀ b o, s.heap.get? b = some o → s2.heap.get? b = some o) → s2.gens = s.gens → s2.os = s.os → s.heap.objs.size ≤ p →
      s2.heap.get? p = some (seqObj "list" out.toArray c) → IntsAre out ns → ns.Pairwise (· < ·) → (∀ k, k ∈ ns ↔ S k = true) → ns.length = n → Q (.ref p) s2) :
    wpAny (model P w) A (call (.builtin "sorted") [.ref a]) Q E s := by
  obtain ⟨o, es, ep, t, ho, hex, hd, g, nd, hm, hb, hf, hn, hr, hl⟩ := R
  refine Calls.call_function_entry kind_sorted plain_sorted entry_sorted (args_sorted1 _) ?_
  unfold Builtin.«sorted»
  refine wpAny_bind (m := checkCount "sorted" 1 1 _) (wpAny_pure (wpAny_bind (collect_set (A := A.in1) hh ⟨o, ho, hex.1, hd⟩ hf hb hr hl fun s1 vs k1 hz g1 o1 pm => ?_)))
  have hLen : vs.length = n := by rw [pm.length_eq, List.length_map, Array.length_toList, hn]
  have hLine : vs.length ≤ sizeLine := by rw [hLen, sizeLine_eq]; omega
  have hI : IntsAre vs (vs.map Builtin.Re.reRawOf) := ints_of vs fun v hv => by
    obtain ⟨e, he, rfl⟩ := List.mem_map.mp (pm.mem_iff.mp hv)
    obtain ⟨k, tk, h1, _⟩ := g e he
    exact ⟨k, tk, h1⟩
  have hKeys : (vs.map Builtin.Re.reRawOf).Perm (es.toList.map keyOf) := by
    have z := pm.map Builtin.Re.reRawOf
    rw [List.map_map] at z
    exact z
  refine wpAny_bind (wpAny_newList ?_ hLine)
  have hL : (s1.heap.push (seqObj "list" vs.toArray 0)).get? s1.heap.objs.size = some (seqObj "list" vs.toArray 0) := Heap.get?_push_size _ rfl
  refine wpAny_bind (wpAny_holding (wpAny_call_entry slot_list_sort ⟨_, hL, rfl⟩ entry_list_sort (SrtO.list_sort_ord SrtO.swo_int hL hLine (fun h2 => SrtO.ints_sortable hI h2) fun out h1 h2 => ⟨_, rfl, ?_⟩) (args_list_sort _)))
  obtain ⟨q1, q2, q3⟩ := SrtO.ints_out hI h1 h2
  obtain ⟨c, hc⟩ := sortedHeap_at (vs := vs) (out := out.toArray) hL
  have pn := q2.trans hKeys
  refine wpAny_pure ⟨_, rfl, done _ s1.heap.objs.size out c _ (fun b u e => ?_) g1 o1 hz hc q1 (lt_of_le_nodup _ q3 (pn.nodup_iff.mpr nd)) (fun k => by rw [pn.mem_iff, ← hm k]) ?_⟩
  · have hlt := Heap.lt_size (k1 b u e)
    exact (sortedHeap_old (Nat.ne_of_lt hlt) (by rw [size_push']; exact Nat.lt_succ_of_lt hlt)).trans (Heap.get?_push_of_some _ (k1 b u e))
  · rw [pn.length_eq, List.length_map, Array.length_toList, hn]
end
section
variable {X : Cx}
def rSetOfI (K : PySem.W.Frag) (w : World) : List V → Hp → VK → Prop := fun xs H Q => ∃ (l : Addr) (ns : List Int), xs = [V.ref l] ∧ SqL K H l (ns.map V.int) ∧ ns.length ≤ 1000 ∧
  ∀ a n, H a = none → n ≤ ns.length → Q (.ref a) (upd H a (SetO w a (fun j => decide (j ∈ ns)) n))
theorem cr_setOfI (hc : X.calm = true) : CallR X (.type "set") (rSetOfI X.K X.w) := by
  intro pins s σ H xs us Q I r h
  obtain ⟨l, ns, rfl, hl, hf, q⟩ := h
  rw [Vals.ref1 r]
  obtain ⟨its, rv, pl, hz⟩ := I.list hl
  have hn : H s.heap.objs.size = none := I.hok.fresh (Nat.le_refl _)
  refine fc_set_list (P := X.prog) (w := X.w) ns (I.ok.hd hc) pl.isList (by simpa using rv.ints) (Nat.lt_of_le_of_lt (Nat.succ_le_succ hf) (by decide)) fun h2 tk c R hc2 k => ?_
  exact ⟨.ref s.heap.objs.size, upd H s.heap.objs.size (SetO X.w s.heap.objs.size (fun j => decide (j ∈ ns)) c), I.laid (t' := tk) k (Nat.le_refl _) (setO_new R), rfl, q _ c hn hc2⟩
def rSortedSetA (w : World) : List V → Hp → VK → Prop := fun vs H Q => ∃ (a : Addr) (S : Int → Bool) (n : Nat), vs = [V.ref a] ∧ H a = some (SetO w a S n) ∧ n ≤ 1000 ∧
  ∀ (ns : List Int) (p : Addr), ns.Pairwise (· < ·) → (∀ k : Int, k ∈ ns ↔ S k = true) → H p = none → Q (.ref p) (upd H p (.lst (ns.map V.int)))
theorem cr_sortedSetA (hc : X.calm = true) : CallR X (.builtin "sorted") (rSortedSetA X.w) := by
  intro pins s σ H vs us Q I r h
  obtain ⟨a, S, n, rfl, ha, few, q⟩ := h
  rw [Vals.ref1 r]
  refine fc_sorted_set (setO_get I ha) (I.ok.hd hc) few fun s2 p out c ns k g o hp hg hi hs hm hl => ?_
  have hLine : (ns.map V.int).length ≤ sizeLine := by rw [List.length_map, hl, sizeLine_eq]; omega
  have hn : H p = none := I.hok.fresh hp
  have J : Inv X pins σ (upd H p (.lst (ns.map V.int))) { s with heap := s2.heap, gens := s2.gens, drawn := s2.drawn, toks := s2.toks } :=
    I.call (ch := []) (Un.laid k hp hn) (I.hok.laid k hp ⟨hLine, out, c, vals_of_ints hi, hg⟩) (by rw [g]; exact I.bare) (fun _ z => nomatch z)
  obtain ⟨hp2, g2, d2, t2, o2⟩ := s2
  obtain rfl : o2 = s.os := o
  exact ⟨.ref p, _, J, rfl, q ns p hs hm hn⟩
end
end L2
/-! F1: a def that keeps its promise keeps it while a list of the caller's is out of its sight. -/
namespace Fc
open PySem PySem.Spec PyProof.Rows L2 Evl
/-- the heap without what stands at t -/
def del (t : Addr) (H : Hp) : Hp := fun b => if b = t then none else H b
theorem del_same {t : Addr} {H : Hp} : del t H t = none := by unfold del; rw [if_pos rfl]
theorem del_ne {t b : Addr} {H : Hp} (h : b ≠ t) : del t H b = H b := by unfold del; rw [if_neg h]
theorem del_some {t b : Addr} {H : Hp} {o : HO} (h : del t H b = some o) : b ≠ t ∧ H b = some o := by
  by_cases e : b = t
  · rw [e, del_same] at h
    cases h
  · exact ⟨e, (del_ne e).symm.trans h⟩
theorem del_none {t b : Addr} {H : Hp} (h : H b = none) : del t H b = none := by
  unfold del
  split
  · rfl
  · exact h
/-- the promise, a list of the caller's being out of sight -/
def Hide (n : Nat) (sp : Sp) : Sp := fun vs H Q E => vs.length = n ∧ ∃ t xs, H t = some (.lst xs) ∧ sp vs (del t H) (fun v H2 => H2 t = none → Q v (upd H2 t (.lst xs))) E
section
variable {P : Program} {w : World} {K : PySem.W.Frag} {mg : Str → Option Value} {base : Heap}
theorem env0_del {A : Around} {outer : List Env} {s : Shared} {H : Hp} {t : Addr} {xs : List V} (e : Env0 P w K mg base A outer s H) (ht : H t = some (.lst xs)) : Env0 P w K mg base A outer s (del t H) where
  frames := e.frames
  mod := e.mod
  bs := fun b o q => ⟨(e.bs b o q).1, del_none (e.bs b o q).2⟩
  bsz := e.bsz
  funs := e.funs
  frf := fun b q => del_none (e.frf b q)
  hok := fun b o q => by
    obtain ⟨hb, q'⟩ := del_some q
    refine (e.hok b o q').stay (fun _ _ _ r => r) (fun c r => ?_) fun c ys r => ?_
    · rw [del_ne (fun z => by rw [z, ht] at r; cases r)]
      exact r
    · rw [del_ne (fun z => by rw [z, ht] at r; cases r)]
      exact r
  bare := e.bare
theorem ce_hide {A : Around} {outer : List Env} {s s' : Shared} {H : Hp} {t : Addr} {xs : List V} {Q : VK} {u : Value} (e : Env0 P w K mg base A outer s H) (ht : H t = some (.lst xs))
    (h : CE outer P w (del t H) s (fun v H2 => H2 t = none → Q v (upd H2 t (.lst xs))) u s') : CE outer P w H s Q u s' := by
  obtain ⟨v, H2, os, bare, un, hok, r, q⟩ := h
  obtain ⟨z, its, n, rv, et⟩ := e.hok t _ ht
  have nfr : t ∉ frs outer := fun hb => by
    rw [e.frf t hb] at ht
    cases ht
  have ht2 : H2 t = none := un.free t _ et del_same (by simp)
  have kt := un.keep t _ et del_same nfr (by simp)
  have nt : ∀ {b : Addr}, H b = none → b ≠ t := fun hb z => by
    rw [z, ht] at hb
    cases hb
  refine ⟨v, upd H2 t (.lst xs), os, bare, ⟨fun b o q1 n1 => un.keep b o q1 (del_none n1), fun b o q1 n1 => un.slot b o q1 (del_none n1), fun b o q1 n1 hx => ?_, un.there, fun b ys q1 => ?_, fun b o y q1 => ?_, fun b ps q1 => ?_⟩, fun b o q1 => ?_, r, q ht2⟩
  · rw [upd_ne (nt n1)]
    exact un.free b o q1 (del_none n1) hx
  · have hb : b ≠ t := fun z => by
      rw [z, ht] at q1
      cases q1
    rw [upd_ne hb]
    exact un.tups b ys (by rw [del_ne hb]; exact q1)
  · have hb : b ≠ t := fun z => by
      rw [z, ht] at q1
      cases q1
    rw [upd_ne hb]
    exact un.frzs b o y (by rw [del_ne hb]; exact q1)
  · have hb : b ≠ t := fun z => by
      rw [z, ht] at q1
      cases q1
    rw [upd_ne hb]
    exact un.tbls b ps (by rw [del_ne hb]; exact q1)
  · by_cases hb : b = t
    · rw [hb] at q1 ⊢
      rw [upd_same] at q1
      cases q1
      exact ⟨z, its, n, rv, kt⟩
    · rw [upd_ne hb] at q1
      refine (hok b o q1).stay (fun _ _ _ r => r) (fun c r => ?_) fun c ys r => ?_
      · rw [upd_ne (fun z => by rw [z, ht2] at r; cases r)]
        exact r
      · rw [upd_ne (fun z => by rw [z, ht2] at r; cases r)]
        exact r
theorem fnOk_hide {k n : Nat} {f : Addr} {fd : FuncData} {ps : List Str} {sp : Sp} (F : FnOk P w K mg base CX0 k f fd ps sp) (hn : ps.length = n) : FnOk P w K mg base CX0 k f fd ps (Hide n sp) where
  len := fun vs H Q E h => h.1.trans hn.symm
  run := fun A outer s H args us vs Q E hr he hb hv h => by
    obtain ⟨_, t, xs, ht, hs⟩ := h
    refine codeAny_mono (F.run A outer s (del t H) args us vs _ E hr (env0_del he ht) hb hv hs) fun r s' hq => ?_
    cases r with
    | ok fl =>
      cases fl with
      | ret u => exact ce_hide he ht hq
      | _ => exact hq
    | error e => exact hq
theorem OkF.hide {k n : Nat} {x : Str} {ps : List Str} {sp : Sp} (F : OkF P w K mg base k x ps sp) (hn : ps.length = n) : OkF P w K mg base k x ps (Hide n sp) := by
  obtain ⟨⟨⟨fd, G, b⟩, kp⟩, g⟩ := F
  exact ⟨⟨⟨fd, fnOk_hide G hn, b⟩, kp⟩, g⟩
end
end Fc
/-! S1: how the data lies in the heap; what each def promises. -/
namespace Fc
open PySem PySem.Spec PyProof.Rows L2 Evl
open Sr58 (Term holds bit frac)
open Sr59 (Space Desk)
/-! ### operators by short names -/
abbrev qAdd : R2 := rI0 fun i j => V.int (i + j)
abbrev qSub : R2 := rI0 fun i j => V.int (i - j)
abbrev qMul : R2 := rI CMul fun i j => V.int (i * j)
abbrev qDiv : R2 := rI CDivW fun i j => V.int (i / j)
abbrev qMod : R2 := rI (fun _ j => 0 < j) fun i j => V.int (i % j)
abbrev qShl : R2 := rI CPow fun i j => V.int (i * 2 ^ j.toNat)
abbrev qShr : R2 := rI (fun _ j => 0 ≤ j) fun i j => V.int (i / 2 ^ j.toNat)
abbrev qAnd : R2 := rI0 fun i j => V.int (Builtin.bitAnd i j)
abbrev qXor : R2 := rI0 fun i j => V.int (Builtin.bitXor i j)
abbrev qLt : R2 := rI0 fun i j => V.bl (decide (i < j))
abbrev qLe : R2 := rI0 fun i j => V.bl (decide (i ≤ j))
abbrev qGt : R2 := rI0 fun i j => V.bl (decide (j < i))
abbrev qGe : R2 := rI0 fun i j => V.bl (decide (j ≤ i))
/-! ### lists of ints, of lists, of pairs -/
def IsL (v : V) (H : Hp) (ns : List Int) : Prop := ∃ a, v = .ref a ∧ H a = some (.lst (ns.map V.int))
/-- a list whose items each stand for one of xs -/
def LO {α : Type} (R : V → Hp → α → Prop) (v : V) (H : Hp) (xs : List α) : Prop := ∃ a vs, v = .ref a ∧ H a = some (.lst vs) ∧ Paired (fun v x => R v H x) vs xs
abbrev IsLL : V → Hp → List (List Int) → Prop := LO IsL
def IsPair (v : V) (H : Hp) (p : Int × Int) : Prop := ∃ a, v = .ref a ∧ H a = some (.tup [.int p.1, .int p.2])
abbrev IsTold : V → Hp → List (Int × Int) → Prop := LO IsPair
def tmF (w : Int) (lv : V) (least : Int) : List (Str × V) := [("weight", .int w), ("told", lv), ("least", .int least)]
def sdF (vp vr vt : V) (m : Int) : List (Str × V) := [("products", vp), ("rows", vr), ("terms", vt), ("is_much", .int m)]
/-- an object of Term, by what the program has of it -/
def TmAt (K : PySem.W.Frag) (v : V) (H : Hp) (w : Int) (told : List (Int × Int)) (least : Int) : Prop :=
  ∃ a dx lv, v = .ref a ∧ H a = some (.ins (ad K "Term") dx (tmF w lv least)) ∧ IsTold lv H told
def IsTerm (K : PySem.W.Frag) (M : Nat) (v : V) (H : Hp) (t : Term) : Prop := ∃ told least, TmAt K v H t.w told least ∧ ToldOk M t.sort told least ∧ -100 ≤ t.w ∧ t.w ≤ 100
abbrev IsTerms (K : PySem.W.Frag) (M : Nat) : V → Hp → List Term → Prop := LO (IsTerm K M)
def DeskOk (d : Desk) : Prop := SpOk d.s ∧ d.terms.length ≤ 12
/-- the object seeds -/
def SeedsAt (K : PySem.W.Frag) (H : Hp) (a : Addr) : Sr59.State → Prop
  | none => ∃ dx vp vr vt m, H a = some (.ins (ad K "Seeds") dx (sdF vp vr vt m)) ∧ IsLL vr H []
  | some d => ∃ dx vp vr vt, H a = some (.ins (ad K "Seeds") dx (sdF vp vr vt (bit d.much))) ∧ DeskOk d ∧ IsLL vp H (tableI d.s.m) ∧ IsLL vr H (rowsI d.s) ∧ IsTerms K (2 ^ d.s.m) vt H d.terms
/-- all but what stands at a is as it was -/
def KB (a : Addr) (H H2 : Hp) : Prop := ∀ b o, b ≠ a → H b = some o → H2 b = some o
/-! ### field -/
def numsI (s : Space) (x : Nat) : List Int := (nums s x).map fun n => ((n : Nat) : Int)
def pre_doubled : Pre := fun vs H P => ∃ m x : Nat, vs = [.int x, .int m] ∧ mOk m ∧ x < 2 ^ m ∧ P = fun v _ => v = .int (Sr59.twice m x)
def pre_product : Pre := fun vs H P => ∃ m x y : Nat, vs = [.int x, .int y, .int m] ∧ mOk m ∧ x < 2 ^ m ∧ y < 2 ^ m ∧ P = fun v _ => v = .int (Sr59.mul m x y)
def pre_all_products : Pre := fun vs H P => ∃ m : Nat, vs = [.int m] ∧ mOk m ∧ P = fun v H2 => IsLL v H2 (tableI m)
def pre_power : Pre := fun vs H P => ∃ (a : V) (m x e : Nat), vs = [a, .int x, .int e] ∧ IsLL a H (tableI m) ∧ mOk m ∧ x < 2 ^ m ∧ e ≤ 1000 ∧ P = fun v _ => v = .int (Sr59.pow m x e)
/-! ### coins -/
def pre_numbers_of : PreL := fun vs H xs => ∃ (s : Space) (x : Nat), vs = [.int x, .int s.m, .int s.k] ∧ MkOk s.m s.k ∧ xs = (numsI s x).map V.int
def pre_is_odd_in_both : Pre := fun vs H P => ∃ f x y : Nat, vs = [.int x, .int y] ∧ x < 2 ^ f ∧ P = fun v _ => v = .int (pb f (Nat.land x y))
def pre_faint_coin : Pre := fun vs H P => ∃ (a b : V) (s : Space) (x i : Nat), vs = [a, b, .int i] ∧ IsLL a H (tableI s.m) ∧ IsL b H (numsI s x) ∧ SpOk s ∧ s.faint = true ∧ i < 2 ^ s.m ∧ P = fun v _ => v = .int (bit (Sr59.coin s x i))
def pre_plain_coin : Pre := fun vs H P => ∃ (a b : V) (s : Space) (x i : Nat), vs = [a, b, .int i] ∧ IsLL a H (tableI s.m) ∧ IsL b H (numsI s x) ∧ SpOk s ∧ s.faint = false ∧ i < 2 ^ s.m ∧ P = fun v _ => v = .int (bit (Sr59.coin s x i))
def pre_coins_of : PreL := fun vs H xs => ∃ (a b : V) (s : Space) (x : Nat), vs = [a, b, .bl s.faint] ∧ IsLL a H (tableI s.m) ∧ IsL b H (numsI s x) ∧ SpOk s ∧ xs = (rowI s x).map V.int
def pre_all_rows : Pre := fun vs H P => ∃ (a : V) (s : Space), vs = [a, .int s.m, .int s.k, .bl s.faint] ∧ IsLL a H (tableI s.m) ∧ SpOk s ∧ P = fun v H2 => IsLL v H2 (rowsI s)
def atC (r : List Int) (c : Int) : Int := r.getD c.toNat 0
/-- rows of M coins each, and coins in them -/
structure RowsOk (M : Nat) (R : List (List Int)) (cs : List Int) : Prop where
  len : ∀ r ∈ R, r.length = M
  lt : ∀ c ∈ cs, 0 ≤ c ∧ c < (M : Int)
  few : R.length ≤ 1024
  fewc : cs.length ≤ 70
def lieN (R : List (List Int)) (cs ws : List Int) : Nat := (R.filter fun r => decide (cs.map (atC r) = ws)).length
def oddN (R : List (List Int)) (cs : List Int) : Nat := (R.filter fun r => decide ((cs.map (atC r)).sum % 2 = 1)).length
def pre_how_many_lie : Pre := fun vs H P => ∃ (a b c : V) (M : Nat) (R : List (List Int)) (cs ws : List Int), vs = [a, b, c] ∧ IsLL a H R ∧ IsL b H cs ∧ IsL c H ws ∧ RowsOk M R cs ∧ P = fun v _ => v = .int (lieN R cs ws)
def pre_how_many_odd : Pre := fun vs H P => ∃ (a b : V) (M : Nat) (R : List (List Int)) (cs : List Int), vs = [a, b] ∧ IsLL a H R ∧ IsL b H cs ∧ RowsOk M R cs ∧ P = fun v _ => v = .int (oddN R cs)
/-! ### fractions -/
def pre_shared : Pre := fun vs H P => ∃ (n : Int) (d : Nat), vs = [.int n, .int d] ∧ d ≠ 0 ∧ P = fun v _ => v = .int (Nat.gcd n.natAbs d)
def pre_told_fraction : PreL := fun vs H xs => ∃ (n : Int) (d : Nat), vs = [.int n, .int d] ∧ d ≠ 0 ∧ d < 2 ^ 8000 ∧ xs = [.int (frac n d).n, .int ((frac n d).d : Int)]
/-! ### terms -/
def sp_Term__init__ (K : PySem.W.Frag) : Sp := fun vs H Q _ => vs.length = 4 ∧ ∃ (p dx : Addr) (w least : Int) (lv : V), vs = [.ref p, .int w, lv, .int least] ∧ H p = some (.ins (ad K "Term") dx []) ∧
  ∀ H', H' p = some (.ins (ad K "Term") dx (tmF w lv least)) → KB p H H' → Q .non H'
def natsI (l : List Nat) : List Int := l.map fun n => ((n : Nat) : Int)
def pre_all_term (K : PySem.W.Frag) : Pre := fun vs H P => ∃ (M : Nat) (w : Int) (l : List Nat) (lv : V), vs = [.int w, lv] ∧ IsL lv H (natsI l) ∧ M ≤ 64 ∧ (∀ x ∈ l, x < 2 * M) ∧ l ≠ [] ∧ l.length ≤ 20 ∧ -100 ≤ w ∧ w ≤ 100 ∧ P = fun v H2 => IsTerm K M v H2 ⟨w, .all l⟩
def pre_many_term (K : PySem.W.Frag) : Pre := fun vs H P => ∃ (M t : Nat) (w : Int) (s : List Nat) (lv : V), vs = [.int w, .int t, lv] ∧ IsL lv H (natsI s) ∧ M ≤ 64 ∧ (∀ x ∈ s, x < M) ∧ s ≠ [] ∧ s.Nodup ∧ t ≤ 20 ∧ -100 ≤ w ∧ w ≤ 100 ∧ P = fun v H2 => IsTerm K M v H2 ⟨w, .many t s⟩
def pre_is_so (K : PySem.W.Frag) : Pre := fun vs H P => ∃ (a b : V) (t : Term) (x : List Bool), vs = [a, b] ∧ IsTerm K x.length a H t ∧ IsL b H (x.map bit) ∧ P = fun v _ => v = .bl (holds x t.sort)
def worthI (ts : List Term) (x : List Bool) : Int := ((ts.filter fun t => holds x t.sort).map fun t => t.w).sum
def pre_worth_of (K : PySem.W.Frag) : Pre := fun vs H P => ∃ (a b : V) (ts : List Term) (x : List Bool), vs = [a, b] ∧ IsTerms K x.length a H ts ∧ ts.length ≤ 12 ∧ IsL b H (x.map bit) ∧ P = fun v _ => v = .int (worthI ts x)
def pre_coins_looked_at (K : PySem.W.Frag) : Pre := fun vs H P => ∃ (a : V) (w : Int) (told : List (Int × Int)) (least : Int), vs = [a] ∧ TmAt K a H w told least ∧ told.length ≤ 64 ∧ P = fun v H2 => ∃ ns : List Int, IsL v H2 ns ∧ ns.Nodup ∧ ∀ c, c ∈ ns ↔ c ∈ told.map (·.1)
def pre_ways_to_choose : Pre := fun vs H P => ∃ n k : Nat, vs = [.int k, .int n] ∧ k ≤ n ∧ n ≤ 64 ∧ P = fun v _ => v = .int (ch n k)
/-- how many coins a term looks at -/
def lkN (k : Sr58.Kind) : Nat := (Sr59.looks k).length
/-- W is in how many ways it's so of true coins -/
def IsWays (M : Nat) (k : Sr58.Kind) (W : Nat) : Prop := W ≤ 65 * 2 ^ 64 ∧ 1 ≤ lkN k ∧ lkN k ≤ 64 ∧ lkN k ≤ M ∧ ∀ ts b, Sr58.likelyTerm (trueD M ts b) k = toF (mkRat (W : Int) (2 ^ lkN k))
def pre_ways_of_true (K : PySem.W.Frag) : Pre := fun vs H P => ∃ (a : V) (M : Nat) (t : Term), vs = [a] ∧ IsTerm K M a H t ∧ P = fun v _ => ∃ W : Nat, v = .int W ∧ IsWays M t.sort W
def pre_true_chance (K : PySem.W.Frag) : Pre := fun vs H P => ∃ (a : V) (M : Nat) (t : Term), vs = [a] ∧ IsTerm K M a H t ∧ P = fun v H2 => ∃ (W : Nat) (p : Addr), v = .ref p ∧ H2 p = some (.tup [.int W, .int ((2 ^ lkN t.sort : Nat) : Int)]) ∧ IsWays M t.sort W
def pre_true_mean (K : PySem.W.Frag) : Pre := fun vs H P => ∃ (a : V) (M : Nat) (ts : List Term), vs = [a, .int M] ∧ IsTerms K M a H ts ∧ ts.length ≤ 12 ∧ M ≤ 64 ∧
  P = fun v H2 => ∃ (top : Int) (p : Addr), v = .ref p ∧ H2 p = some (.tup [.int top, .int ((2 ^ M : Nat) : Int)]) ∧ ∀ b, frac top (2 ^ M) = Sr58.mean (trueD M ts b)
def chanceN (s : Space) (k : Sr58.Kind) : Nat := ((List.range (Sr59.seeds s)).filter fun x => holds (Sr59.row s x) k).length
def pre_seeds_chance (K : PySem.W.Frag) : Pre := fun vs H P => ∃ (a b : V) (s : Space) (t : Term), vs = [a, b] ∧ IsTerm K (2 ^ s.m) a H t ∧ IsLL b H (rowsI s) ∧ SpOk s ∧
  P = fun v H2 => ∃ p : Addr, v = .ref p ∧ H2 p = some (.tup [.int (chanceN s t.sort), .int (Sr59.seeds s : Nat)])
def meanN (s : Space) (ts : List Term) : Int := ((List.range (Sr59.seeds s)).map fun x => worthI ts (Sr59.row s x)).sum
def pre_seeds_mean (K : PySem.W.Frag) : Pre := fun vs H P => ∃ (a b : V) (s : Space) (ts : List Term), vs = [a, b] ∧ IsTerms K (2 ^ s.m) a H ts ∧ ts.length ≤ 12 ∧ IsLL b H (rowsI s) ∧ SpOk s ∧
  P = fun v H2 => ∃ p : Addr, v = .ref p ∧ H2 p = some (.tup [.int (meanN s ts), .int (Sr59.seeds s : Nat)])
/-! ### seeds: the looks -/
def sp_Seeds__init__ (K : PySem.W.Frag) : Sp := fun vs H Q _ => vs.length = 1 ∧ ∃ (p dx : Addr), vs = [.ref p] ∧ H p = some (.ins (ad K "Seeds") dx []) ∧ ∀ H', SeedsAt K H' p none → KB p H H' → Q .non H'
def pre_is_in : Pre := fun vs H P => ∃ n m : Int, vs = [.int n, .int m] ∧ P = fun v _ => v = .bl (decide (0 ≤ n) && decide (n < m))
def pre_is_rising : Pre := fun vs H P => ∃ (a : V) (ns : List Int), vs = [a] ∧ IsL a H ns ∧ ns.length ≤ 70 ∧ P = fun v _ => v = .bl (Sr58.rising ns)
def pre_are_coins (K : PySem.W.Frag) : Pre := fun vs H P => ∃ (a : Addr) (b : V) (d : Desk) (ns : List Int), vs = [.ref a, b] ∧ SeedsAt K H a (some d) ∧ IsL b H ns ∧ ns.length ≤ 70 ∧ P = fun v _ => v = .bl (Sr59.okCoins d ns)
def pre_is_weight : Pre := fun vs H P => ∃ n : Int, vs = [.int n] ∧ P = fun v _ => v = .bl (decide (-100 ≤ n) && decide (n ≤ 100))
def begOk (m k f : Int) : Bool := !decide (m < 1 ∨ 6 < m ∨ k < 1 ∨ 10 < m * k ∨ f < 0 ∨ 1 < f ∨ (f = 1 ∧ (k ≠ 2 ∨ 4 < m)))
def pre_can_begin : Pre := fun vs H P => ∃ m k f : Int, vs = [.int m, .int k, .int f] ∧ P = fun v _ => v = .bl (begOk m k f)
def lieOk (d : Desk) (ns : List Int) : Bool := !decide (ns = [] ∨ 20 < ns.length ∨ (ns.any fun x => decide (x < 0) || decide (2 * (Sr59.coins d.s : Int) ≤ x)) = true)
def pre_is_lie (K : PySem.W.Frag) : Pre := fun vs H P => ∃ (a : Addr) (b : V) (d : Desk) (ns : List Int), vs = [.ref a, b] ∧ SeedsAt K H a (some d) ∧ IsL b H ns ∧ ns.length ≤ 70 ∧ P = fun v _ => v = .bl (lieOk d ns)
/-! ### seeds: the deeds -/
def ansI (x : Sr58.Ans) : List Int := x.num :: x.nums
/-- what is wanted behind a deed -/
def Done (K : PySem.W.Frag) (a : Addr) (H : Hp) (Q : VK) (st : Sr59.State) (ans : List Int) : Prop := ∀ v H2, KB a H H2 → SeedsAt K H2 a st → IsL v H2 ans → Q v H2
def sp_put (K : PySem.W.Frag) : Sp := fun vs H Q _ => vs.length = 2 ∧ ∃ (a : Addr) (b : V) (d : Desk) (t : Term), vs = [.ref a, b] ∧ SeedsAt K H a (some d) ∧ IsTerm K (2 ^ d.s.m) b H t ∧
  (if 12 ≤ d.terms.length then Done K a H Q (some d) [-28] else Done K a H Q (some { d with terms := d.terms ++ [t] }) [(d.terms.length : Int)])
/-- the deed at place p -/
def sp_deed (K : PySem.W.Frag) (p : Int) : Sp := fun vs H Q _ => vs.length = 3 ∧ ∃ (a : Addr) (nv rv : V) (st : Sr59.State) (ns : List Int) (rs : List (List Int)) (c : Sr59.Call), vs = [.ref a, nv, rv] ∧ SeedsAt K H a st ∧ IsL nv H ns ∧ IsLL rv H rs ∧
  (∀ r ∈ rs, r.length ≤ 70) ∧ Sr59Neutral.callOf ((p :: ns) :: rs) = some c ∧ (p = 0 ∨ st ≠ none) ∧ Done K a H Q (Sr59.step st c).1 (ansI (Sr59.step st c).2)
def sp_answer_to (K : PySem.W.Frag) : Sp := fun vs H Q _ => vs.length = 4 ∧ ∃ (a : Addr) (p : Int) (nv rv : V) (st : Sr59.State) (ns : List Int) (rs : List (List Int)) (c : Sr59.Call), vs = [.ref a, .int p, nv, rv] ∧ SeedsAt K H a st ∧ IsL nv H ns ∧ IsLL rv H rs ∧
  (∀ r ∈ rs, r.length ≤ 70) ∧ Sr59Neutral.callOf ((p :: ns) :: rs) = some c ∧ Done K a H Q (Sr59.step st c).1 (ansI (Sr59.step st c).2)
def pre_rows_at (K : PySem.W.Frag) : Pre := fun vs H P => ∃ (a : Addr) (l : List Int) (i k : Nat) (rs : List (List Int)) (r : List Int), vs = [.ref a, .int i, .int k] ∧ SqL K H a (l.map V.int) ∧ l.length ≤ 10000 ∧ k ≤ 2 ∧ i ≤ l.length ∧ PyFlat.rows k (l.drop i) = some (rs, r) ∧
  P = fun v H2 => ∃ (p : Addr) (f : V) (j : Nat), v = .ref p ∧ H2 p = some (.tup [f, .int j]) ∧ IsLL f H2 rs ∧ j ≤ l.length ∧ i ≤ j ∧ l.drop j = r
def sp_answers (K : PySem.W.Frag) : Sp := fun vs H Q _ => vs.length = 1 ∧ ∃ (a : Addr) (l : List Int), vs = [.ref a] ∧ SqL K H a (l.map V.int) ∧ l.length ≤ 8600 ∧ PySr59.answers_asked l = true ∧ ∀ v H2, IsL v H2 (PySr59.answers l) → Q v H2
/-! ### by names -/
abbrev sp_doubled (K : PySem.W.Frag) : Sp := SpF 2 pre_doubled
abbrev sp_product (K : PySem.W.Frag) : Sp := SpF 3 pre_product
abbrev sp_all_products (K : PySem.W.Frag) : Sp := SpF 1 pre_all_products
abbrev sp_power (K : PySem.W.Frag) : Sp := SpF 3 pre_power
abbrev sp_numbers_of (K : PySem.W.Frag) : Sp := SpG 3 pre_numbers_of
abbrev sp_is_odd_in_both (K : PySem.W.Frag) : Sp := SpF 2 pre_is_odd_in_both
abbrev sp_faint_coin (K : PySem.W.Frag) : Sp := SpF 3 pre_faint_coin
abbrev sp_plain_coin (K : PySem.W.Frag) : Sp := SpF 3 pre_plain_coin
abbrev sp_coins_of (K : PySem.W.Frag) : Sp := SpG 3 pre_coins_of
abbrev sp_all_rows (K : PySem.W.Frag) : Sp := SpF 4 pre_all_rows
abbrev sp_how_many_lie (K : PySem.W.Frag) : Sp := SpF 3 pre_how_many_lie
abbrev sp_how_many_odd (K : PySem.W.Frag) : Sp := SpF 2 pre_how_many_odd
abbrev sp_shared (K : PySem.W.Frag) : Sp := SpF 2 pre_shared
abbrev sp_told_fraction (K : PySem.W.Frag) : Sp := SpG 2 pre_told_fraction
abbrev sp_all_term (K : PySem.W.Frag) : Sp := SpF 2 (pre_all_term K)
abbrev sp_many_term (K : PySem.W.Frag) : Sp := SpF 3 (pre_many_term K)
abbrev sp_is_so (K : PySem.W.Frag) : Sp := SpF 2 (pre_is_so K)
abbrev sp_worth_of (K : PySem.W.Frag) : Sp := SpF 2 (pre_worth_of K)
abbrev sp_coins_looked_at (K : PySem.W.Frag) : Sp := SpF 1 (pre_coins_looked_at K)
abbrev sp_ways_to_choose (K : PySem.W.Frag) : Sp := SpF 2 pre_ways_to_choose
abbrev sp_ways_of_true (K : PySem.W.Frag) : Sp := SpF 1 (pre_ways_of_true K)
abbrev sp_true_chance (K : PySem.W.Frag) : Sp := SpF 1 (pre_true_chance K)
abbrev sp_true_mean (K : PySem.W.Frag) : Sp := SpF 2 (pre_true_mean K)
abbrev sp_seeds_chance (K : PySem.W.Frag) : Sp := SpF 2 (pre_seeds_chance K)
abbrev sp_seeds_mean (K : PySem.W.Frag) : Sp := SpF 2 (pre_seeds_mean K)
abbrev sp_is_in (K : PySem.W.Frag) : Sp := SpF 2 pre_is_in
abbrev sp_is_rising (K : PySem.W.Frag) : Sp := SpF 1 pre_is_rising
abbrev sp_are_coins (K : PySem.W.Frag) : Sp := SpF 2 (pre_are_coins K)
abbrev sp_is_weight (K : PySem.W.Frag) : Sp := SpF 1 pre_is_weight
abbrev sp_can_begin (K : PySem.W.Frag) : Sp := SpF 3 pre_can_begin
abbrev sp_is_lie (K : PySem.W.Frag) : Sp := SpF 2 (pre_is_lie K)
abbrev sp_rows_at (K : PySem.W.Frag) : Sp := SpF 3 (pre_rows_at K)
/-- .. `told` being out of sight -/
abbrev sp_rows_atH (K : PySem.W.Frag) : Sp := Hide 3 (sp_rows_at K)
abbrev sp_answer_toH (K : PySem.W.Frag) : Sp := Hide 4 (sp_answer_to K)
abbrev sp_begin (K : PySem.W.Frag) : Sp := sp_deed K 0
abbrev sp_mul (K : PySem.W.Frag) : Sp := sp_deed K 1
abbrev sp_pow_of (K : PySem.W.Frag) : Sp := sp_deed K 2
abbrev sp_coin (K : PySem.W.Frag) : Sp := sp_deed K 3
abbrev sp_row_of (K : PySem.W.Frag) : Sp := sp_deed K 4
abbrev sp_count (K : PySem.W.Frag) : Sp := sp_deed K 5
abbrev sp_odds (K : PySem.W.Frag) : Sp := sp_deed K 6
abbrev sp_all_lie (K : PySem.W.Frag) : Sp := sp_deed K 7
abbrev sp_many_of (K : PySem.W.Frag) : Sp := sp_deed K 8
abbrev sp_drop (K : PySem.W.Frag) : Sp := sp_deed K 9
abbrev sp_want (K : PySem.W.Frag) : Sp := sp_deed K 10
abbrev sp_means (K : PySem.W.Frag) : Sp := sp_deed K 11
abbrev sp_worth (K : PySem.W.Frag) : Sp := sp_deed K 12
abbrev sp_best (K : PySem.W.Frag) : Sp := sp_deed K 13
abbrev sp_chances (K : PySem.W.Frag) : Sp := sp_deed K 14
abbrev sp_size (K : PySem.W.Frag) : Sp := sp_deed K 15
end Fc
namespace Fc
open PySem PySem.Spec PyProof.Rows L2 Evl
/-! T1: the reading of each def, printed by dgen.py. -/
/-- doubled: number, digits, found -/
def t_doubled (K : PySem.W.Frag) : TS :=
  (tSeq (tAsg (tOp qMul (tC (.int 2)) (tVar 0)) (gName 2))
  (tSeq (tIfS (tTest (tOp rEq (tOp qShr (tVar 2) (tVar 1)) (tC (.int 1)))) (tRet (tOp qXor (tVar 2) (tOp (rIxT K) (tC (.ref (ad K "BROUGHT_BY"))) (tVar 1)))) tNext)
  (tRet (tVar 2))))

/-- product: one, other, digits, found, part, place -/
def t_product (K : PySem.W.Frag) : TS :=
  (tSeq (tAsg (tC (.int 0)) (gName 3))
  (tSeq (tAsg (tVar 0) (gName 4))
  (tSeq (tFor (iRng1 (tCons (tVar 2) tNil)) (gName 5) (tSeq (tIfS (tTest (tOp rEq (tOp qAnd (tOp qShr (tVar 1) (tVar 5)) (tC (.int 1))) (tC (.int 1)))) (tAsg (tOp qXor (tVar 3) (tVar 4)) (gName 3)) tNext)
  (tAsg (tCall (sp_doubled K) [] E0 (tCons (tVar 4) (tCons (tVar 2) tNil))) (gName 4))))
  (tRet (tVar 3)))))

/-- all_products: digits, numbers, one, other -/
def t_all_products (K : PySem.W.Frag) : TS :=
  (tSeq (tAsg (tLstRg (tRg1 (tOp qShl (tC (.int 1)) (tVar 0)))) (gName 1))
  (tRet (tLc (iList K (tVar 1)) (gName 2) tYes (tLc (iList K (tVar 1)) (gName 3) tYes (tCall (sp_product K) [] E0 (tCons (tVar 2) (tCons (tVar 3) (tCons (tVar 0) tNil)))) [3]) [2])))

/-- power: products, number, often, found, turn -/
def t_power (K : PySem.W.Frag) : TS :=
  (tSeq (tAsg (tC (.int 1)) (gName 3))
  (tSeq (tFor (iRng1 (tCons (tVar 2) tNil)) (gName 4) (tAsg (tOp (rIxL K) (tOp (rIxL K) (tVar 0) (tVar 3)) (tVar 1)) (gName 3)))
  (tRet (tVar 3))))

/-- numbers_of: seed, digits, many, place -/
def t_numbers_of (K : PySem.W.Frag) : TS :=
  (tRet (tLc (iRng1 (tCons (tVar 2) tNil)) (gName 3) tYes (tOp qAnd (tOp qShr (tVar 0) (tOp qMul (tVar 1) (tVar 3))) (tOp qSub (tOp qShl (tC (.int 1)) (tVar 1)) (tC (.int 1)))) [3]))

/-- is_odd_in_both: one, other, both, found -/
def t_is_odd_in_both (K : PySem.W.Frag) : TS :=
  (tSeq (tAsg (tOp qAnd (tVar 0) (tVar 1)) (gName 2))
  (tSeq (tAsg (tC (.int 0)) (gName 3))
  (tSeq (tWhile (tTest (tOp qGt (tVar 2) (tC (.int 0)))) (tSeq (tAsg (tOp qXor (tVar 3) (tOp qAnd (tVar 2) (tC (.int 1)))) (gName 3))
  (tAsg (tOp qShr (tVar 2) (tC (.int 1))) (gName 2))))
  (tRet (tVar 3)))))

/-- faint_coin: products, numbers, coin -/
def t_faint_coin (K : PySem.W.Frag) : TS :=
  (tRet (tCall (sp_is_odd_in_both K) [] E0 (tCons (tCall (sp_power K) [] E0 (tCons (tVar 0) (tCons (tOp (rIxL K) (tVar 1) (tC (.int 0))) (tCons (tVar 2) tNil)))) (tCons (tOp (rIxL K) (tVar 1) (tC (.int 1))) tNil))))

/-- plain_coin: products, numbers, coin, found, factor, number -/
def t_plain_coin (K : PySem.W.Frag) : TS :=
  (tSeq (tAsg (tC (.int 0)) (gName 3))
  (tSeq (tAsg (tC (.int 1)) (gName 4))
  (tSeq (tFor (iList K (tVar 1)) (gName 5) (tSeq (tAsg (tOp qXor (tVar 3) (tOp (rIxL K) (tOp (rIxL K) (tVar 0) (tVar 5)) (tVar 4))) (gName 3))
  (tAsg (tOp (rIxL K) (tOp (rIxL K) (tVar 0) (tVar 4)) (tVar 2)) (gName 4))))
  (tRet (tOp qAnd (tVar 3) (tC (.int 1)))))))

/-- coins_of: products, numbers, is_faint, coin -/
def t_coins_of (K : PySem.W.Frag) : TS :=
  (tSeq (tIfS (tB (tVar 2)) (tRet (tLc (iRng1 (tCons (tCB (rLenS K) (tCons (tVar 0) tNil)) tNil)) (gName 3) tYes (tCall (sp_faint_coin K) [] E0 (tCons (tVar 0) (tCons (tVar 1) (tCons (tVar 3) tNil)))) [3])) tNext)
  (tRet (tLc (iRng1 (tCons (tCB (rLenS K) (tCons (tVar 0) tNil)) tNil)) (gName 3) tYes (tCall (sp_plain_coin K) [] E0 (tCons (tVar 0) (tCons (tVar 1) (tCons (tVar 3) tNil)))) [3])))

/-- all_rows: products, digits, many, is_faint, found, seed -/
def t_all_rows (K : PySem.W.Frag) : TS :=
  (tSeq (tAsg (tLst tNil) (gName 4))
  (tSeq (tFor (iRng1 (tCons (tOp qShl (tC (.int 1)) (tOp qMul (tVar 1) (tVar 2))) tNil)) (gName 5) (tDrop (tBM K "list" rAppend (tVar 4) (tCons (tCall (sp_coins_of K) [] E0 (tCons (tVar 0) (tCons (tCall (sp_numbers_of K) [] E0 (tCons (tVar 5) (tCons (tVar 1) (tCons (tVar 2) tNil)))) (tCons (tVar 3) tNil)))) tNil))))
  (tRet (tVar 4))))

/-- how_many_lie: rows, coins, wanted, row, coin -/
def t_how_many_lie (K : PySem.W.Frag) : TS :=
  (tRet (tCB (rLenS K) (tCons (tLc (iList K (tVar 0)) (gName 3) (tTest (tOp (rEqD K) (tLc (iList K (tVar 1)) (gName 4) tYes (tOp (rIxL K) (tVar 3) (tVar 4)) [4]) (tVar 2))) (tVar 3) [3]) tNil)))

/-- how_many_odd: rows, coins, row, coin -/
def t_how_many_odd (K : PySem.W.Frag) : TS :=
  (tRet (tCB (rLenS K) (tCons (tLc (iList K (tVar 0)) (gName 2) (tTest (tOp rEq (tOp qMod (tCB (rSum K) (tCons (tLc (iList K (tVar 1)) (gName 3) tYes (tOp (rIxL K) (tVar 2) (tVar 3)) [3]) tNil)) (tC (.int 2))) (tC (.int 1)))) (tVar 2) [2]) tNil)))

/-- shared: one, other -/
def t_shared (K : PySem.W.Frag) : TS :=
  (tSeq (tAsg (tCB rAbs (tCons (tVar 0) tNil)) (gName 0))
  (tSeq (tWhile (tTest (tOp qGt (tVar 0) (tC (.int 0)))) (tPar 0 1 (tCons (tOp qMod (tVar 1) (tVar 0)) (tCons (tVar 0) tNil))))
  (tRet (tVar 1))))

/-- told_fraction: top, bottom, part -/
def t_told_fraction (K : PySem.W.Frag) : TS :=
  (tSeq (tAsg (tCall (sp_shared K) [] E0 (tCons (tVar 0) (tCons (tVar 1) tNil))) (gName 2))
  (tRet (tLst (tCons (tOp qDiv (tVar 0) (tVar 2)) (tCons (tOp qDiv (tVar 1) (tVar 2)) tNil)))))

/-- Term__init__: self, weight, told, least -/
def t_Term__init__ (K : PySem.W.Frag) : TS :=
  (tSeq (sFld K (tVar 0) (tVar 1) "weight")
  (tSeq (sFld K (tVar 0) (tVar 2) "told")
  (sFld K (tVar 0) (tVar 3) "least")))

/-- all_term: weight, lie, told, number -/
def t_all_term (P : Program) (w : World) (K : PySem.W.Frag) : TS :=
  (tSeq (tAsg (tCB (rSortedT K P w) (tCons (tCB (rSetOfT K P w) (tCons (tLc (iList K (tVar 1)) (gName 3) tYes (tTup (tCons (tOp qDiv (tVar 3) (tC (.int 2))) (tCons (tOp qMod (tVar 3) (tC (.int 2))) tNil))) [3]) tNil)) tNil)) (gName 2))
  (tRet (tMake (ad K "Term") (sp_Term__init__ K) [] E0 (tCons (tVar 0) (tCons (tVar 2) (tCons (tCB (rLenS K) (tCons (tVar 2) tNil)) tNil))))))

/-- many_term: weight, least, coins, coin -/
def t_many_term (K : PySem.W.Frag) : TS :=
  (tRet (tMake (ad K "Term") (sp_Term__init__ K) [] E0 (tCons (tVar 0) (tCons (tLc (iList K (tVar 2)) (gName 3) tYes (tTup (tCons (tVar 3) (tCons (tC (.int 1)) tNil))) [3]) (tCons (tVar 1) tNil)))))

/-- is_so: term, row, coin, wanted -/
def t_is_so (K : PySem.W.Frag) : TS :=
  (tRet (tOp qGe (tCB (rLenS K) (tCons (tLc (iList K (tFld K (tVar 0) "told")) (gTup K 2 (gCons (gName 2) (gCons (gName 3) gNil))) (tTest (tOp rEq (tOp (rIxL K) (tVar 1) (tVar 2)) (tVar 3))) (tVar 2) [2, 3]) tNil)) (tFld K (tVar 0) "least")))

/-- worth_of: terms, row, term -/
def t_worth_of (K : PySem.W.Frag) : TS :=
  (tRet (tCB (rSum K) (tCons (tLc (iList K (tVar 0)) (gName 2) (tB (tCall (sp_is_so K) [] E0 (tCons (tVar 2) (tCons (tVar 1) tNil)))) (tFld K (tVar 2) "weight") [2]) tNil)))

/-- coins_looked_at: term, coin, wanted -/
def t_coins_looked_at (P : Program) (w : World) (K : PySem.W.Frag) : TS :=
  (tRet (tCB (rSortedSetA w) (tCons (tCB (rSetOfI K w) (tCons (tLc (iList K (tFld K (tVar 0) "told")) (gTup K 2 (gCons (gName 1) (gCons (gName 2) gNil))) tYes (tVar 1) [1, 2]) tNil)) tNil)))

/-- ways_to_choose: few, many, found, place -/
def t_ways_to_choose (K : PySem.W.Frag) : TS :=
  (tSeq (tAsg (tC (.int 1)) (gName 2))
  (tSeq (tFor (iRng1 (tCons (tVar 0) tNil)) (gName 3) (tAsg (tOp qDiv (tOp qMul (tVar 2) (tOp qSub (tVar 1) (tVar 3))) (tOp qAdd (tVar 3) (tC (.int 1)))) (gName 2)))
  (tRet (tVar 2))))

/-- ways_of_true: term, many, few -/
def t_ways_of_true (K : PySem.W.Frag) : TS :=
  (tSeq (tAsg (tCB (rLenS K) (tCons (tCall (sp_coins_looked_at K) [] E0 (tCons (tVar 0) tNil)) tNil)) (gName 1))
  (tSeq (tIfS (tTest (tOp qGt (tCB (rLenS K) (tCons (tFld K (tVar 0) "told") tNil)) (tVar 1))) (tRet (tC (.int 0))) tNext)
  (tRet (tCB (rSum K) (tCons (tLc (iRng2 (tCons (tFld K (tVar 0) "least") (tCons (tOp qAdd (tVar 1) (tC (.int 1))) tNil))) (gName 2) tYes (tCall (sp_ways_to_choose K) [] E0 (tCons (tVar 2) (tCons (tVar 1) tNil))) [2]) tNil)))))

/-- true_chance: term -/
def t_true_chance (K : PySem.W.Frag) : TS :=
  (tRet (tTup (tCons (tCall (sp_ways_of_true K) [] E0 (tCons (tVar 0) tNil)) (tCons (tOp qShl (tC (.int 1)) (tCB (rLenS K) (tCons (tCall (sp_coins_looked_at K) [] E0 (tCons (tVar 0) tNil)) tNil))) tNil))))

/-- true_mean: terms, many, whole, top, term, ways, parts -/
def t_true_mean (K : PySem.W.Frag) : TS :=
  (tSeq (tAsg (tOp qShl (tC (.int 1)) (tVar 1)) (gName 2))
  (tSeq (tAsg (tC (.int 0)) (gName 3))
  (tSeq (tFor (iList K (tVar 0)) (gName 4) (tSeq (tAsg (tCall (sp_true_chance K) [] E0 (tCons (tVar 4) tNil)) (gTup K 2 (gCons (gName 5) (gCons (gName 6) gNil))))
  (tAug 3 (tOp qMul (tOp qMul (tFld K (tVar 4) "weight") (tVar 5)) (tOp qDiv (tVar 2) (tVar 6))) (ipI fun i j => i + j))))
  (tRet (tTup (tCons (tVar 3) (tCons (tVar 2) tNil)))))))

/-- seeds_chance: term, rows, row -/
def t_seeds_chance (K : PySem.W.Frag) : TS :=
  (tRet (tTup (tCons (tCB (rLenS K) (tCons (tLc (iList K (tVar 1)) (gName 2) (tB (tCall (sp_is_so K) [] E0 (tCons (tVar 0) (tCons (tVar 2) tNil)))) (tVar 2) [2]) tNil)) (tCons (tCB (rLenS K) (tCons (tVar 1) tNil)) tNil))))

/-- seeds_mean: terms, rows, row -/
def t_seeds_mean (K : PySem.W.Frag) : TS :=
  (tRet (tTup (tCons (tCB (rSum K) (tCons (tLc (iList K (tVar 1)) (gName 2) tYes (tCall (sp_worth_of K) [] E0 (tCons (tVar 0) (tCons (tVar 2) tNil))) [2]) tNil)) (tCons (tCB (rLenS K) (tCons (tVar 1) tNil)) tNil))))

/-- Seeds__init__: self -/
def t_Seeds__init__ (K : PySem.W.Frag) : TS :=
  (tSeq (sFld K (tVar 0) (tLst tNil) "products")
  (tSeq (sFld K (tVar 0) (tLst tNil) "rows")
  (tSeq (sFld K (tVar 0) (tLst tNil) "terms")
  (sFld K (tVar 0) (tC (.int 0)) "is_much"))))

/-- is_in: number, many -/
def t_is_in (K : PySem.W.Frag) : TS :=
  (tRet (tChain qLe qLt (tC (.int 0)) (tVar 0) (tVar 1)))

/-- is_rising: numbers, one, other -/
def t_is_rising (K : PySem.W.Frag) : TS :=
  (tRet (tCB (rAll K) (tCons (tLc (iZip K (tCons (tVar 0) (tCons (tSl (rSlL K) (tVar 0) (tPart (tC (.int 1))) tNoPart) tNil))) (gTup K 2 (gCons (gName 1) (gCons (gName 2) gNil))) tYes (tOp qLt (tVar 1) (tVar 2)) [1, 2]) tNil)))

/-- are_coins: seeds, numbers, number -/
def t_are_coins (K : PySem.W.Frag) : TS :=
  (tRet (tAndV (tCB (rAll K) (tCons (tLc (iList K (tVar 1)) (gName 2) tYes (tCall (sp_is_in K) [] E0 (tCons (tVar 2) (tCons (tCB (rLenS K) (tCons (tFld K (tVar 0) "products") tNil)) tNil))) [2]) tNil)) (tCall (sp_is_rising K) [] E0 (tCons (tVar 1) tNil))))

/-- is_weight: number -/
def t_is_weight (K : PySem.W.Frag) : TS :=
  (tRet (tChain qLe qLe (tOp qSub (tC (.int 0)) (tC (.int (100)))) (tVar 0) (tC (.int (100)))))

/-- can_begin: digits, many, faint -/
def t_can_begin (K : PySem.W.Frag) : TS :=
  (tSeq (tIfS (tOr (tNot (tTest (tChain qLe qLe (tC (.int 1)) (tVar 0) (tC (.int (6)))))) (tOr (tTest (tOp qLt (tVar 1) (tC (.int 1)))) (tOr (tTest (tOp qGt (tOp qMul (tVar 0) (tVar 1)) (tC (.int (10))))) (tTest (tOp (rIn K true) (tVar 2) (tTup (tCons (tC (.int 0)) (tCons (tC (.int 1)) tNil)))))))) (tRet (tC (.bl false))) tNext)
  (tRet (tOrV (tOp rEq (tVar 2) (tC (.int 0))) (tAndV (tOp rEq (tVar 1) (tC (.int (2)))) (tOp qLe (tVar 0) (tC (.int (4))))))))

/-- begin: seeds, numbers, rows, digits, many, faint -/
def t_begin (K : PySem.W.Frag) : TS :=
  (tSeq (tAsg (tVar 1) (gUnl K 3 (gCons (gName 3) (gCons (gName 4) (gCons (gName 5) gNil)))))
  (tSeq (tIfS (tNot (tB (tCall (sp_can_begin K) [] E0 (tCons (tVar 3) (tCons (tVar 4) (tCons (tVar 5) tNil)))))) (tRet (tLst (tCons (tC (.int (-22))) tNil))) tNext)
  (tSeq (sFld K (tVar 0) (tCall (sp_all_products K) [] E0 (tCons (tVar 3) tNil)) "products")
  (tSeq (sFld K (tVar 0) (tCall (sp_all_rows K) [] E0 (tCons (tFld K (tVar 0) "products") (tCons (tVar 3) (tCons (tVar 4) (tCons (tOp rEq (tVar 5) (tC (.int 1))) tNil))))) "rows")
  (tSeq (sFld K (tVar 0) (tLst tNil) "terms")
  (tSeq (sFld K (tVar 0) (tC (.int 0)) "is_much")
  (tRet (tLst (tCons (tCB (rLenS K) (tCons (tFld K (tVar 0) "rows") tNil)) tNil)))))))))

/-- mul: seeds, numbers, rows, many, one, other -/
def t_mul (K : PySem.W.Frag) : TS :=
  (tSeq (tAsg (tVar 1) (gUnl K 2 (gCons (gName 4) (gCons (gName 5) gNil))))
  (tSeq (tAsg (tCB (rLenS K) (tCons (tFld K (tVar 0) "products") tNil)) (gName 3))
  (tSeq (tIfS (tOr (tNot (tB (tCall (sp_is_in K) [] E0 (tCons (tVar 4) (tCons (tVar 3) tNil))))) (tNot (tB (tCall (sp_is_in K) [] E0 (tCons (tVar 5) (tCons (tVar 3) tNil)))))) (tRet (tLst (tCons (tC (.int (-22))) tNil))) tNext)
  (tRet (tLst (tCons (tOp (rIxL K) (tOp (rIxL K) (tFld K (tVar 0) "products") (tVar 4)) (tVar 5)) tNil))))))

/-- pow_of: seeds, numbers, rows, number, often -/
def t_pow_of (K : PySem.W.Frag) : TS :=
  (tSeq (tAsg (tVar 1) (gUnl K 2 (gCons (gName 3) (gCons (gName 4) gNil))))
  (tSeq (tIfS (tOr (tNot (tB (tCall (sp_is_in K) [] E0 (tCons (tVar 3) (tCons (tCB (rLenS K) (tCons (tFld K (tVar 0) "products") tNil)) tNil))))) (tNot (tTest (tChain qLe qLe (tC (.int 0)) (tVar 4) (tC (.int (100))))))) (tRet (tLst (tCons (tC (.int (-22))) tNil))) tNext)
  (tRet (tLst (tCons (tCall (sp_power K) [] E0 (tCons (tFld K (tVar 0) "products") (tCons (tVar 3) (tCons (tVar 4) tNil)))) tNil)))))

/-- coin: seeds, numbers, rows, seed, place -/
def t_coin (K : PySem.W.Frag) : TS :=
  (tSeq (tAsg (tVar 1) (gUnl K 2 (gCons (gName 3) (gCons (gName 4) gNil))))
  (tSeq (tIfS (tOr (tNot (tB (tCall (sp_is_in K) [] E0 (tCons (tVar 3) (tCons (tCB (rLenS K) (tCons (tFld K (tVar 0) "rows") tNil)) tNil))))) (tNot (tB (tCall (sp_is_in K) [] E0 (tCons (tVar 4) (tCons (tCB (rLenS K) (tCons (tFld K (tVar 0) "products") tNil)) tNil)))))) (tRet (tLst (tCons (tC (.int (-2))) tNil))) tNext)
  (tRet (tLst (tCons (tOp (rIxL K) (tOp (rIxL K) (tFld K (tVar 0) "rows") (tVar 3)) (tVar 4)) tNil)))))

/-- row_of: seeds, numbers, rows -/
def t_row_of (K : PySem.W.Frag) : TS :=
  (tSeq (tIfS (tNot (tB (tCall (sp_is_in K) [] E0 (tCons (tOp (rIxL K) (tVar 1) (tC (.int 0))) (tCons (tCB (rLenS K) (tCons (tFld K (tVar 0) "rows") tNil)) tNil))))) (tRet (tLst (tCons (tC (.int (-2))) tNil))) tNext)
  (tRet (tOp rCat (tLst (tCons (tCB (rLenS K) (tCons (tFld K (tVar 0) "products") tNil)) tNil)) (tOp (rIxL K) (tFld K (tVar 0) "rows") (tOp (rIxL K) (tVar 1) (tC (.int 0)))))))

/-- count: seeds, numbers, rows, coins, lie, number -/
def t_count (K : PySem.W.Frag) : TS :=
  (tSeq (tAsg (tVar 2) (gUnl K 2 (gCons (gName 3) (gCons (gName 4) gNil))))
  (tSeq (tIfS (tOr (tNot (tB (tCall (sp_are_coins K) [] E0 (tCons (tVar 0) (tCons (tVar 3) tNil))))) (tOr (tTest (tOp rNe (tCB (rLenS K) (tCons (tVar 4) tNil)) (tCB (rLenS K) (tCons (tVar 3) tNil)))) (tNot (tB (tCB (rAll K) (tCons (tLc (iList K (tVar 4)) (gName 5) tYes (tOp (rIn K false) (tVar 5) (tTup (tCons (tC (.int 0)) (tCons (tC (.int 1)) tNil)))) [5]) tNil)))))) (tRet (tLst (tCons (tC (.int (-22))) tNil))) tNext)
  (tRet (tLst (tCons (tCall (sp_how_many_lie K) [] E0 (tCons (tFld K (tVar 0) "rows") (tCons (tVar 3) (tCons (tVar 4) tNil)))) (tCons (tCB (rLenS K) (tCons (tFld K (tVar 0) "rows") tNil)) tNil))))))

/-- odds: seeds, numbers, rows -/
def t_odds (K : PySem.W.Frag) : TS :=
  (tSeq (tIfS (tNot (tB (tCall (sp_are_coins K) [] E0 (tCons (tVar 0) (tCons (tOp (rIxL K) (tVar 2) (tC (.int 0))) tNil))))) (tRet (tLst (tCons (tC (.int (-22))) tNil))) tNext)
  (tRet (tLst (tCons (tCall (sp_how_many_odd K) [] E0 (tCons (tFld K (tVar 0) "rows") (tCons (tOp (rIxL K) (tVar 2) (tC (.int 0))) tNil))) (tCons (tCB (rLenS K) (tCons (tFld K (tVar 0) "rows") tNil)) tNil)))))

/-- is_lie: seeds, lie, number -/
def t_is_lie (K : PySem.W.Frag) : TS :=
  (tSeq (tIfS (tNot (tTest (tChain qLe qLe (tC (.int 1)) (tCB (rLenS K) (tCons (tVar 1) tNil)) (tC (.int (20)))))) (tRet (tC (.bl false))) tNext)
  (tRet (tCB (rAll K) (tCons (tLc (iList K (tVar 1)) (gName 2) tYes (tCall (sp_is_in K) [] E0 (tCons (tVar 2) (tCons (tOp qMul (tC (.int 2)) (tCB (rLenS K) (tCons (tFld K (tVar 0) "products") tNil))) tNil))) [2]) tNil))))

/-- put: seeds, term -/
def t_put (K : PySem.W.Frag) : TS :=
  (tSeq (tIfS (tTest (tOp rEq (tCB (rLenS K) (tCons (tFld K (tVar 0) "terms") tNil)) (tC (.int (12))))) (tRet (tLst (tCons (tC (.int (-28))) tNil))) tNext)
  (tSeq (sFld K (tVar 0) (tOp rCat (tFld K (tVar 0) "terms") (tLst (tCons (tVar 1) tNil))) "terms")
  (tRet (tLst (tCons (tOp qSub (tCB (rLenS K) (tCons (tFld K (tVar 0) "terms") tNil)) (tC (.int 1))) tNil)))))

/-- all_lie: seeds, numbers, rows -/
def t_all_lie (K : PySem.W.Frag) : TS :=
  (tSeq (tIfS (tOr (tNot (tB (tCall (sp_is_weight K) [] E0 (tCons (tOp (rIxL K) (tVar 1) (tC (.int 0))) tNil)))) (tNot (tB (tCall (sp_is_lie K) [] E0 (tCons (tVar 0) (tCons (tOp (rIxL K) (tVar 2) (tC (.int 0))) tNil)))))) (tRet (tLst (tCons (tC (.int (-22))) tNil))) tNext)
  (tRet (tCall (sp_put K) [] E0 (tCons (tVar 0) (tCons (tCall (sp_all_term K) [] E0 (tCons (tOp (rIxL K) (tVar 1) (tC (.int 0))) (tCons (tOp (rIxL K) (tVar 2) (tC (.int 0))) tNil))) tNil)))))

/-- many_of: seeds, numbers, rows, coins, weight, least -/
def t_many_of (K : PySem.W.Frag) : TS :=
  (tSeq (tAsg (tVar 1) (gUnl K 2 (gCons (gName 4) (gCons (gName 5) gNil))))
  (tSeq (tAsg (tOp (rIxL K) (tVar 2) (tC (.int 0))) (gName 3))
  (tSeq (tIfS (tOr (tNot (tB (tCall (sp_is_weight K) [] E0 (tCons (tVar 4) tNil)))) (tOr (tTest (tOp (rEqD K) (tVar 3) (tLst tNil))) (tOr (tNot (tB (tCall (sp_are_coins K) [] E0 (tCons (tVar 0) (tCons (tVar 3) tNil))))) (tNot (tTest (tChain qLe qLe (tC (.int 0)) (tVar 5) (tC (.int (20))))))))) (tRet (tLst (tCons (tC (.int (-22))) tNil))) tNext)
  (tRet (tCall (sp_put K) [] E0 (tCons (tVar 0) (tCons (tCall (sp_many_term K) [] E0 (tCons (tVar 4) (tCons (tVar 5) (tCons (tVar 3) tNil)))) tNil)))))))

/-- drop: seeds, numbers, rows, place -/
def t_drop (K : PySem.W.Frag) : TS :=
  (tSeq (tAsg (tOp (rIxL K) (tVar 1) (tC (.int 0))) (gName 3))
  (tSeq (tIfS (tNot (tB (tCall (sp_is_in K) [] E0 (tCons (tVar 3) (tCons (tCB (rLenS K) (tCons (tFld K (tVar 0) "terms") tNil)) tNil))))) (tRet (tLst (tCons (tC (.int (-2))) tNil))) tNext)
  (tSeq (sFld K (tVar 0) (tOp rCat (tSl (rSlL K) (tFld K (tVar 0) "terms") tNoPart (tPart (tVar 3))) (tSl (rSlL K) (tFld K (tVar 0) "terms") (tPart (tOp qAdd (tVar 3) (tC (.int 1)))) tNoPart)) "terms")
  (tRet (tLst (tCons (tCB (rLenS K) (tCons (tFld K (tVar 0) "terms") tNil)) tNil))))))

/-- want: seeds, numbers, rows, before -/
def t_want (K : PySem.W.Frag) : TS :=
  (tSeq (tIfS (tTest (tOp (rIn K true) (tOp (rIxL K) (tVar 1) (tC (.int 0))) (tTup (tCons (tC (.int 0)) (tCons (tC (.int 1)) tNil))))) (tRet (tLst (tCons (tC (.int (-22))) tNil))) tNext)
  (tSeq (tAsg (tFld K (tVar 0) "is_much") (gName 3))
  (tSeq (sFld K (tVar 0) (tOp (rIxL K) (tVar 1) (tC (.int 0))) "is_much")
  (tRet (tLst (tCons (tVar 3) tNil))))))

/-- means: seeds, numbers, rows, of_true, of_seeds, top, bottom -/
def t_means (K : PySem.W.Frag) : TS :=
  (tSeq (tAsg (tCall (sp_true_mean K) [] E0 (tCons (tFld K (tVar 0) "terms") (tCons (tCB (rLenS K) (tCons (tFld K (tVar 0) "products") tNil)) tNil))) (gTup K 2 (gCons (gName 5) (gCons (gName 6) gNil))))
  (tSeq (tAsg (tCall (sp_told_fraction K) [] E0 (tCons (tVar 5) (tCons (tVar 6) tNil))) (gName 3))
  (tSeq (tAsg (tCall (sp_seeds_mean K) [] E0 (tCons (tFld K (tVar 0) "terms") (tCons (tFld K (tVar 0) "rows") tNil))) (gTup K 2 (gCons (gName 5) (gCons (gName 6) gNil))))
  (tSeq (tAsg (tCall (sp_told_fraction K) [] E0 (tCons (tVar 5) (tCons (tVar 6) tNil))) (gName 4))
  (tRet (tOp rCat (tOp rCat (tLst (tCons (tCB rInt1 (tCons (tOp (rEqD K) (tVar 3) (tVar 4)) tNil)) tNil)) (tVar 3)) (tVar 4)))))))

/-- worth: seeds, numbers, rows -/
def t_worth (K : PySem.W.Frag) : TS :=
  (tSeq (tIfS (tNot (tB (tCall (sp_is_in K) [] E0 (tCons (tOp (rIxL K) (tVar 1) (tC (.int 0))) (tCons (tCB (rLenS K) (tCons (tFld K (tVar 0) "rows") tNil)) tNil))))) (tRet (tLst (tCons (tC (.int (-2))) tNil))) tNext)
  (tRet (tLst (tCons (tC (.int 0)) (tCons (tCall (sp_worth_of K) [] E0 (tCons (tFld K (tVar 0) "terms") (tCons (tOp (rIxL K) (tFld K (tVar 0) "rows") (tOp (rIxL K) (tVar 1) (tC (.int 0)))) tNil))) tNil)))))

/-- best: seeds, numbers, rows, worths, found, row -/
def t_best (K : PySem.W.Frag) : TS :=
  (tSeq (tAsg (tLc (iList K (tFld K (tVar 0) "rows")) (gName 5) tYes (tCall (sp_worth_of K) [] E0 (tCons (tFld K (tVar 0) "terms") (tCons (tVar 5) tNil))) [5]) (gName 3))
  (tSeq (tAsg (tIf (tTest (tOp rEq (tFld K (tVar 0) "is_much") (tC (.int 1)))) (tCB (rMax K) (tCons (tVar 3) tNil)) (tCB (rMin K) (tCons (tVar 3) tNil))) (gName 4))
  (tRet (tLst (tCons (tBM K "list" (rIndex K) (tVar 3) (tCons (tVar 4) tNil)) (tCons (tVar 4) tNil))))))

/-- chances: seeds, numbers, rows, term, of_true, top, bottom -/
def t_chances (K : PySem.W.Frag) : TS :=
  (tSeq (tIfS (tNot (tB (tCall (sp_is_in K) [] E0 (tCons (tOp (rIxL K) (tVar 1) (tC (.int 0))) (tCons (tCB (rLenS K) (tCons (tFld K (tVar 0) "terms") tNil)) tNil))))) (tRet (tLst (tCons (tC (.int (-2))) tNil))) tNext)
  (tSeq (tAsg (tOp (rIxL K) (tFld K (tVar 0) "terms") (tOp (rIxL K) (tVar 1) (tC (.int 0)))) (gName 3))
  (tSeq (tAsg (tCall (sp_true_chance K) [] E0 (tCons (tVar 3) tNil)) (gTup K 2 (gCons (gName 5) (gCons (gName 6) gNil))))
  (tSeq (tAsg (tCall (sp_told_fraction K) [] E0 (tCons (tVar 5) (tCons (tVar 6) tNil))) (gName 4))
  (tSeq (tAsg (tCall (sp_seeds_chance K) [] E0 (tCons (tVar 3) (tCons (tFld K (tVar 0) "rows") tNil))) (gTup K 2 (gCons (gName 5) (gCons (gName 6) gNil))))
  (tRet (tOp rCat (tOp rCat (tLst (tCons (tCB (rLenS K) (tCons (tCall (sp_coins_looked_at K) [] E0 (tCons (tVar 3) tNil)) tNil)) tNil)) (tVar 4)) (tCall (sp_told_fraction K) [] E0 (tCons (tVar 5) (tCons (tVar 6) tNil))))))))))

/-- size: seeds, numbers, rows -/
def t_size (K : PySem.W.Frag) : TS :=
  (tRet (tLst (tCons (tCB (rLenS K) (tCons (tFld K (tVar 0) "products") tNil)) (tCons (tCB (rLenS K) (tCons (tFld K (tVar 0) "rows") tNil)) (tCons (tCB (rLenS K) (tCons (tFld K (tVar 0) "terms") tNil)) tNil)))))

/-- answer_to: seeds, call, numbers, rows, deed -/
def t_answer_to (fA : Addr) (spA : Sp) (K : PySem.W.Frag) : TS :=
  (tSeq (tIfS (tAnd (tTest (tOp (rEqD K) (tFld K (tVar 0) "rows") (tLst tNil))) (tTest (tOp rNe (tVar 1) (tC (.int (0)))))) (tRet (tLst (tCons (tC (.int (-11))) tNil))) tNext)
  (tSeq (tAsg (tOp (rIxT K) (tC (.ref (ad K "DEEDS"))) (tVar 1)) (gName 4))
  (tRet (tCallL 4 fA spA [] E0 (tCons (tVar 0) (tCons (tVar 2) (tCons (tVar 3) tNil)))))))

/-- rows_at: calls, at, many, found, turn, end -/
def t_rows_at (K : PySem.W.Frag) : TS :=
  (tSeq (tAsg (tLst tNil) (gName 3))
  (tSeq (tFor (iRng1 (tCons (tVar 2) tNil)) (gName 4) (tSeq (tAsg (tOp qAdd (tOp qAdd (tVar 1) (tC (.int 1))) (tOp (rIxL K) (tVar 0) (tVar 1))) (gName 5))
  (tSeq (tDrop (tBM K "list" rAppend (tVar 3) (tCons (tSl (rSlL K) (tVar 0) (tPart (tOp qAdd (tVar 1) (tC (.int 1)))) (tPart (tVar 5))) tNil)))
  (tAsg (tVar 5) (gName 1)))))
  (tRet (tTup (tCons (tVar 3) (tCons (tVar 1) tNil))))))

/-- answers: calls, seeds, told, at, call, begin_of_rows, numbers, answer, rows -/
def t_answers (K : PySem.W.Frag) : TS :=
  (tSeq (tAsg (tMake (ad K "Seeds") (sp_Seeds__init__ K) [] E0 tNil) (gName 1))
  (tSeq (tAsg (tLst tNil) (gName 2))
  (tSeq (tAsg (tC (.int 0)) (gName 3))
  (tSeq (tWhile (tTest (tOp qLt (tVar 3) (tCB (rLenS K) (tCons (tVar 0) tNil)))) (tSeq (tAsg (tOp (rIxL K) (tVar 0) (tVar 3)) (gName 4))
  (tSeq (tAsg (tOp qAdd (tOp qAdd (tVar 3) (tC (.int 1))) (tOp (rIxT K) (tC (.ref (ad K "NUMBERS"))) (tVar 4))) (gName 5))
  (tSeq (tAsg (tSl (rSlL K) (tVar 0) (tPart (tOp qAdd (tVar 3) (tC (.int 1)))) (tPart (tVar 5))) (gName 6))
  (tSeq (tAsg (tCall (sp_rows_atH K) [] E0 (tCons (tVar 0) (tCons (tVar 5) (tCons (tOp (rIxT K) (tC (.ref (ad K "ROWS"))) (tVar 4)) tNil)))) (gTup K 2 (gCons (gName 8) (gCons (gName 3) gNil))))
  (tSeq (tAsg (tCall (sp_answer_toH K) [] E0 (tCons (tVar 1) (tCons (tVar 4) (tCons (tVar 6) (tCons (tVar 8) tNil))))) (gName 7))
  (tSeq (tDrop (tBM K "list" rAppend (tVar 2) (tCons (tCB (rLenS K) (tCons (tVar 7) tNil)) tNil)))
  (tDrop (tBM K "list" rExtend (tVar 2) (tCons (tVar 7) tNil))))))))))
  (tRet (tVar 2))))))
end Fc
namespace Fc
open PySem PySem.Spec PyProof.Rows L2 Evl
/-! D1: scopes and derivations, printed by dgen.py. -/
abbrev N_doubled : List Str := ["number", "digits", "found"]
theorem sc_doubled : FnScope N_doubled ["number", "digits"] (defScope s_doubled) := ⟨rfl, rfl, rfl, by decide +kernel, rfl, by decide +kernel, by decide +kernel⟩
theorem dv_doubled {P : Program} {w : World} {K : PySem.W.Frag} {mg : Str → Option Value} {base : Heap} (T : Txt K mg) 
    (f : Addr) (cdv : Value) (A : Around) (outer : List Env) (s : Shared) (H : Hp) (E : XK) (hr : Room 0 (A.deeper (envOfC "doubled" (defScope s_doubled) s.heap.objs.size f cdv))) :
    PSs (cxOf CX0 P w K mg base N_doubled "doubled" (defScope s_doubled) f cdv A outer s H E).nox (defBody s_doubled) (t_doubled K) :=
  (pss_cons (ps_set (i := 2) sc_doubled.nd rfl (by first | exact Or.inl rfl | exact Or.inr rfl) (pe_op op_mul pe_int (pv 0)))
  (pss_cons (ps_if (pt_cmpR op_eq (pe_op op_shr (pv 2) (pv 1)) pe_int (nomark _)) (pss_one (ps_ret (pe_op op_xor (pv 2) (pe_ix ix_tup (pe_gref (T.glo 53) (by rfl)) (pv 1) (fun _ _ => rfl))))) pss_nil)
  (pss_one (ps_ret (pv 2)))))
theorem ok_doubled {P : Program} {w : World} {K : PySem.W.Frag} {mg : Str → Option Value} {base : Heap} (T : Txt K mg) 
    (hp : ∀ vs H Q E, sp_doubled K vs H Q E → (t_doubled K) { nx := fun _ H' => Q .non H', rt := Q } (L2.start N_doubled vs) H) : OkF P w K mg base 1 "doubled" ["number", "digits"] (sp_doubled K) :=
  okF 0 0 T rfl rfl sc_doubled (fun vs H Q E h => h.1) (fun _ _ _ _ _ _ us hl => match us, hl with | [_, _], _ => rfl) (t_doubled K) hp (fun f cdv A outer s H E hr => dv_doubled T  f cdv A outer s H E hr)

abbrev N_product : List Str := ["one", "other", "digits", "found", "part", "place"]
theorem sc_product : FnScope N_product ["one", "other", "digits"] (defScope s_product) := ⟨rfl, rfl, rfl, by decide +kernel, rfl, by decide +kernel, by decide +kernel⟩
theorem dv_product {P : Program} {w : World} {K : PySem.W.Frag} {mg : Str → Option Value} {base : Heap} (T : Txt K mg) (F_doubled : OkF P w K mg base 1 "doubled" ["number", "digits"] (sp_doubled K))
    (f : Addr) (cdv : Value) (A : Around) (outer : List Env) (s : Shared) (H : Hp) (E : XK) (hr : Room 1 (A.deeper (envOfC "product" (defScope s_product) s.heap.objs.size f cdv))) :
    PSs (cxOf CX0 P w K mg base N_product "product" (defScope s_product) f cdv A outer s H E).nox (defBody s_product) (t_product K) :=
  (pss_cons (ps_set (i := 3) sc_product.nd rfl (by first | exact Or.inl rfl | exact Or.inr rfl) pe_int)
  (pss_cons (ps_set (i := 4) sc_product.nd rfl (by first | exact Or.inl rfl | exact Or.inr rfl) (pv 0))
  (pss_cons (ps_for PassesOwn.never rfl (pi_range1 (by rfl) (T.free 65) (pa_cons (pv 2) pa_nil)) (pg_name (i := 5) sc_product.nd rfl (by first | exact Or.inl rfl | exact Or.inr rfl)) (pss_cons (ps_if (pt_cmpR op_eq (pe_op op_and (pe_op op_shr (pv 1) (pv 5)) pe_int) pe_int (nomark _)) (pss_one (ps_set (i := 3) sc_product.nd rfl (by first | exact Or.inl rfl | exact Or.inr rfl) (pe_op op_xor (pv 3) (pv 4)))) pss_nil)
  (pss_one (ps_set (i := 4) sc_product.nd rfl (by first | exact Or.inl rfl | exact Or.inr rfl) (pe_callF F_doubled (hr.mono (by decide)) (by rfl) (pa_cons (pv 4) (pa_cons (pv 2) pa_nil)))))))
  (pss_one (ps_ret (pv 3))))))
theorem ok_product {P : Program} {w : World} {K : PySem.W.Frag} {mg : Str → Option Value} {base : Heap} (T : Txt K mg) (F_doubled : OkF P w K mg base 1 "doubled" ["number", "digits"] (sp_doubled K))
    (hp : ∀ vs H Q E, sp_product K vs H Q E → (t_product K) { nx := fun _ H' => Q .non H', rt := Q } (L2.start N_product vs) H) : OkF P w K mg base 2 "product" ["one", "other", "digits"] (sp_product K) :=
  okF 1 1 T rfl rfl sc_product (fun vs H Q E h => h.1) (fun _ _ _ _ _ _ us hl => match us, hl with | [_, _, _], _ => rfl) (t_product K) hp (fun f cdv A outer s H E hr => dv_product T F_doubled f cdv A outer s H E hr)

abbrev N_all_products : List Str := ["digits", "numbers", "one", "other"]
theorem sc_all_products : FnScope N_all_products ["digits"] (defScope s_all_products) := ⟨rfl, rfl, rfl, by decide +kernel, rfl, by decide +kernel, by decide +kernel⟩
theorem dv_all_products {P : Program} {w : World} {K : PySem.W.Frag} {mg : Str → Option Value} {base : Heap} (T : Txt K mg) (F_product : OkF P w K mg base 2 "product" ["one", "other", "digits"] (sp_product K))
    (f : Addr) (cdv : Value) (A : Around) (outer : List Env) (s : Shared) (H : Hp) (E : XK) (hr : Room 2 (A.deeper (envOfC "all_products" (defScope s_all_products) s.heap.objs.size f cdv))) :
    PSs (cxOf CX0 P w K mg base N_all_products "all_products" (defScope s_all_products) f cdv A outer s H E).nox (defBody s_all_products) (t_all_products K) :=
  (pss_cons (ps_set (i := 1) sc_all_products.nd rfl (by first | exact Or.inl rfl | exact Or.inr rfl) (pe_listRg rfl (by rfl) (T.free 64) (prg_1 (by rfl) (T.free 65) (pe_op op_shl pe_int (pv 0)))))
  (pss_one (ps_ret (pe_lc (own := [("one", 2)]) (g := (gName 2)) (tt := tYes) rfl sc_all_products.nd (pi_list (pv 1)) (blkOk_by (own := [("one", 2)]) (N := N_all_products) (sc := (defScope s_all_products)) (by decide +kernel)) (fun _ _ _ _ _ => (pg_name (i := 2) sc_all_products.nd rfl (by first | exact Or.inl rfl | exact Or.inr rfl))) (fun _ _ _ _ _ => pts_nil) (fun _ _ _ _ _ => (pe_lc (own := [("other", 3)]) (g := (gName 3)) (tt := tYes) rfl sc_all_products.nd (pi_list (pv 1)) (blkOk_by (own := [("other", 3)]) (N := N_all_products) (sc := (relS _ (defScope s_all_products))) (by decide +kernel)) (fun _ _ _ _ _ => (pg_name (i := 3) sc_all_products.nd rfl (by first | exact Or.inl rfl | exact Or.inr rfl))) (fun _ _ _ _ _ => pts_nil) (fun _ _ _ _ _ => (pe_callF F_product (hr.mono (by decide)) (by rfl) (pa_cons (pv 2) (pa_cons (pv 3) (pa_cons (pv 0) pa_nil)))))))))))
theorem ok_all_products {P : Program} {w : World} {K : PySem.W.Frag} {mg : Str → Option Value} {base : Heap} (T : Txt K mg) (F_product : OkF P w K mg base 2 "product" ["one", "other", "digits"] (sp_product K))
    (hp : ∀ vs H Q E, sp_all_products K vs H Q E → (t_all_products K) { nx := fun _ H' => Q .non H', rt := Q } (L2.start N_all_products vs) H) : OkF P w K mg base 3 "all_products" ["digits"] (sp_all_products K) :=
  okF 2 2 T rfl rfl sc_all_products (fun vs H Q E h => h.1) (fun _ _ _ _ _ _ us hl => match us, hl with | [_], _ => rfl) (t_all_products K) hp (fun f cdv A outer s H E hr => dv_all_products T F_product f cdv A outer s H E hr)

abbrev N_power : List Str := ["products", "number", "often", "found", "turn"]
theorem sc_power : FnScope N_power ["products", "number", "often"] (defScope s_power) := ⟨rfl, rfl, rfl, by decide +kernel, rfl, by decide +kernel, by decide +kernel⟩
theorem dv_power {P : Program} {w : World} {K : PySem.W.Frag} {mg : Str → Option Value} {base : Heap} (T : Txt K mg) 
    (f : Addr) (cdv : Value) (A : Around) (outer : List Env) (s : Shared) (H : Hp) (E : XK) (hr : Room 0 (A.deeper (envOfC "power" (defScope s_power) s.heap.objs.size f cdv))) :
    PSs (cxOf CX0 P w K mg base N_power "power" (defScope s_power) f cdv A outer s H E).nox (defBody s_power) (t_power K) :=
  (pss_cons (ps_set (i := 3) sc_power.nd rfl (by first | exact Or.inl rfl | exact Or.inr rfl) pe_int)
  (pss_cons (ps_for PassesOwn.never rfl (pi_range1 (by rfl) (T.free 65) (pa_cons (pv 2) pa_nil)) (pg_name (i := 4) sc_power.nd rfl (by first | exact Or.inl rfl | exact Or.inr rfl)) (pss_one (ps_set (i := 3) sc_power.nd rfl (by first | exact Or.inl rfl | exact Or.inr rfl) (pe_ix ix_list (pe_ix ix_list (pv 0) (pv 3) (fun _ _ => rfl)) (pv 1) (fun _ _ => rfl)))))
  (pss_one (ps_ret (pv 3)))))
theorem ok_power {P : Program} {w : World} {K : PySem.W.Frag} {mg : Str → Option Value} {base : Heap} (T : Txt K mg) 
    (hp : ∀ vs H Q E, sp_power K vs H Q E → (t_power K) { nx := fun _ H' => Q .non H', rt := Q } (L2.start N_power vs) H) : OkF P w K mg base 1 "power" ["products", "number", "often"] (sp_power K) :=
  okF 3 3 T rfl rfl sc_power (fun vs H Q E h => h.1) (fun _ _ _ _ _ _ us hl => match us, hl with | [_, _, _], _ => rfl) (t_power K) hp (fun f cdv A outer s H E hr => dv_power T  f cdv A outer s H E hr)

abbrev N_numbers_of : List Str := ["seed", "digits", "many", "place"]
theorem sc_numbers_of : FnScope N_numbers_of ["seed", "digits", "many"] (defScope s_numbers_of) := ⟨rfl, rfl, rfl, by decide +kernel, rfl, by decide +kernel, by decide +kernel⟩
theorem dv_numbers_of {P : Program} {w : World} {K : PySem.W.Frag} {mg : Str → Option Value} {base : Heap} (T : Txt K mg) 
    (f : Addr) (cdv : Value) (A : Around) (outer : List Env) (s : Shared) (H : Hp) (E : XK) (hr : Room 0 (A.deeper (envOfC "numbers_of" (defScope s_numbers_of) s.heap.objs.size f cdv))) :
    PSs (cxOf CX0 P w K mg base N_numbers_of "numbers_of" (defScope s_numbers_of) f cdv A outer s H E).nox (defBody s_numbers_of) (t_numbers_of K) :=
  (pss_one (ps_ret (pe_lc (own := [("place", 3)]) (g := (gName 3)) (tt := tYes) rfl sc_numbers_of.nd (pi_range1 (by rfl) (T.free 65) (pa_cons (pv 2) pa_nil)) (blkOk_by (own := [("place", 3)]) (N := N_numbers_of) (sc := (defScope s_numbers_of)) (by decide +kernel)) (fun _ _ _ _ _ => (pg_name (i := 3) sc_numbers_of.nd rfl (by first | exact Or.inl rfl | exact Or.inr rfl))) (fun _ _ _ _ _ => pts_nil) (fun _ _ _ _ _ => (pe_op op_and (pe_op op_shr (pv 0) (pe_op op_mul (pv 1) (pv 3))) (pe_op op_sub (pe_op op_shl pe_int (pv 1)) pe_int))))))
theorem ok_numbers_of {P : Program} {w : World} {K : PySem.W.Frag} {mg : Str → Option Value} {base : Heap} (T : Txt K mg) 
    (hp : ∀ vs H Q E, sp_numbers_of K vs H Q E → (t_numbers_of K) { nx := fun _ H' => Q .non H', rt := Q } (L2.start N_numbers_of vs) H) : OkF P w K mg base 1 "numbers_of" ["seed", "digits", "many"] (sp_numbers_of K) :=
  okF 4 4 T rfl rfl sc_numbers_of (fun vs H Q E h => h.1) (fun _ _ _ _ _ _ us hl => match us, hl with | [_, _, _], _ => rfl) (t_numbers_of K) hp (fun f cdv A outer s H E hr => dv_numbers_of T  f cdv A outer s H E hr)

abbrev N_is_odd_in_both : List Str := ["one", "other", "both", "found"]
theorem sc_is_odd_in_both : FnScope N_is_odd_in_both ["one", "other"] (defScope s_is_odd_in_both) := ⟨rfl, rfl, rfl, by decide +kernel, rfl, by decide +kernel, by decide +kernel⟩
theorem dv_is_odd_in_both {P : Program} {w : World} {K : PySem.W.Frag} {mg : Str → Option Value} {base : Heap} (T : Txt K mg) 
    (f : Addr) (cdv : Value) (A : Around) (outer : List Env) (s : Shared) (H : Hp) (E : XK) (hr : Room 0 (A.deeper (envOfC "is_odd_in_both" (defScope s_is_odd_in_both) s.heap.objs.size f cdv))) :
    PSs (cxOf CX0 P w K mg base N_is_odd_in_both "is_odd_in_both" (defScope s_is_odd_in_both) f cdv A outer s H E).nox (defBody s_is_odd_in_both) (t_is_odd_in_both K) :=
  (pss_cons (ps_set (i := 2) sc_is_odd_in_both.nd rfl (by first | exact Or.inl rfl | exact Or.inr rfl) (pe_op op_and (pv 0) (pv 1)))
  (pss_cons (ps_set (i := 3) sc_is_odd_in_both.nd rfl (by first | exact Or.inl rfl | exact Or.inr rfl) pe_int)
  (pss_cons (ps_while PassesOwn.never (pt_cmpR op_gt (pv 2) pe_int (nomark _)) (pss_cons (ps_set (i := 3) sc_is_odd_in_both.nd rfl (by first | exact Or.inl rfl | exact Or.inr rfl) (pe_op op_xor (pv 3) (pe_op op_and (pv 2) pe_int)))
  (pss_one (ps_set (i := 2) sc_is_odd_in_both.nd rfl (by first | exact Or.inl rfl | exact Or.inr rfl) (pe_op op_shr (pv 2) pe_int)))))
  (pss_one (ps_ret (pv 3))))))
theorem ok_is_odd_in_both {P : Program} {w : World} {K : PySem.W.Frag} {mg : Str → Option Value} {base : Heap} (T : Txt K mg) 
    (hp : ∀ vs H Q E, sp_is_odd_in_both K vs H Q E → (t_is_odd_in_both K) { nx := fun _ H' => Q .non H', rt := Q } (L2.start N_is_odd_in_both vs) H) : OkF P w K mg base 1 "is_odd_in_both" ["one", "other"] (sp_is_odd_in_both K) :=
  okF 5 5 T rfl rfl sc_is_odd_in_both (fun vs H Q E h => h.1) (fun _ _ _ _ _ _ us hl => match us, hl with | [_, _], _ => rfl) (t_is_odd_in_both K) hp (fun f cdv A outer s H E hr => dv_is_odd_in_both T  f cdv A outer s H E hr)

abbrev N_faint_coin : List Str := ["products", "numbers", "coin"]
theorem sc_faint_coin : FnScope N_faint_coin ["products", "numbers", "coin"] (defScope s_faint_coin) := ⟨rfl, rfl, rfl, by decide +kernel, rfl, by decide +kernel, by decide +kernel⟩
theorem dv_faint_coin {P : Program} {w : World} {K : PySem.W.Frag} {mg : Str → Option Value} {base : Heap} (T : Txt K mg) (F_is_odd_in_both : OkF P w K mg base 1 "is_odd_in_both" ["one", "other"] (sp_is_odd_in_both K)) (F_power : OkF P w K mg base 1 "power" ["products", "number", "often"] (sp_power K))
    (f : Addr) (cdv : Value) (A : Around) (outer : List Env) (s : Shared) (H : Hp) (E : XK) (hr : Room 1 (A.deeper (envOfC "faint_coin" (defScope s_faint_coin) s.heap.objs.size f cdv))) :
    PSs (cxOf CX0 P w K mg base N_faint_coin "faint_coin" (defScope s_faint_coin) f cdv A outer s H E).nox (defBody s_faint_coin) (t_faint_coin K) :=
  (pss_one (ps_ret (pe_callF F_is_odd_in_both (hr.mono (by decide)) (by rfl) (pa_cons (pe_callF F_power (hr.mono (by decide)) (by rfl) (pa_cons (pv 0) (pa_cons (pe_ix ix_list (pv 1) pe_int (fun _ _ => rfl)) (pa_cons (pv 2) pa_nil)))) (pa_cons (pe_ix ix_list (pv 1) pe_int (fun _ _ => rfl)) pa_nil)))))
theorem ok_faint_coin {P : Program} {w : World} {K : PySem.W.Frag} {mg : Str → Option Value} {base : Heap} (T : Txt K mg) (F_is_odd_in_both : OkF P w K mg base 1 "is_odd_in_both" ["one", "other"] (sp_is_odd_in_both K)) (F_power : OkF P w K mg base 1 "power" ["products", "number", "often"] (sp_power K))
    (hp : ∀ vs H Q E, sp_faint_coin K vs H Q E → (t_faint_coin K) { nx := fun _ H' => Q .non H', rt := Q } (L2.start N_faint_coin vs) H) : OkF P w K mg base 2 "faint_coin" ["products", "numbers", "coin"] (sp_faint_coin K) :=
  okF 6 6 T rfl rfl sc_faint_coin (fun vs H Q E h => h.1) (fun _ _ _ _ _ _ us hl => match us, hl with | [_, _, _], _ => rfl) (t_faint_coin K) hp (fun f cdv A outer s H E hr => dv_faint_coin T F_is_odd_in_both F_power f cdv A outer s H E hr)

abbrev N_plain_coin : List Str := ["products", "numbers", "coin", "found", "factor", "number"]
theorem sc_plain_coin : FnScope N_plain_coin ["products", "numbers", "coin"] (defScope s_plain_coin) := ⟨rfl, rfl, rfl, by decide +kernel, rfl, by decide +kernel, by decide +kernel⟩
theorem dv_plain_coin {P : Program} {w : World} {K : PySem.W.Frag} {mg : Str → Option Value} {base : Heap} (T : Txt K mg) 
    (f : Addr) (cdv : Value) (A : Around) (outer : List Env) (s : Shared) (H : Hp) (E : XK) (hr : Room 0 (A.deeper (envOfC "plain_coin" (defScope s_plain_coin) s.heap.objs.size f cdv))) :
    PSs (cxOf CX0 P w K mg base N_plain_coin "plain_coin" (defScope s_plain_coin) f cdv A outer s H E).nox (defBody s_plain_coin) (t_plain_coin K) :=
  (pss_cons (ps_set (i := 3) sc_plain_coin.nd rfl (by first | exact Or.inl rfl | exact Or.inr rfl) pe_int)
  (pss_cons (ps_set (i := 4) sc_plain_coin.nd rfl (by first | exact Or.inl rfl | exact Or.inr rfl) pe_int)
  (pss_cons (ps_for PassesOwn.never rfl (pi_list (pv 1)) (pg_name (i := 5) sc_plain_coin.nd rfl (by first | exact Or.inl rfl | exact Or.inr rfl)) (pss_cons (ps_set (i := 3) sc_plain_coin.nd rfl (by first | exact Or.inl rfl | exact Or.inr rfl) (pe_op op_xor (pv 3) (pe_ix ix_list (pe_ix ix_list (pv 0) (pv 5) (fun _ _ => rfl)) (pv 4) (fun _ _ => rfl))))
  (pss_one (ps_set (i := 4) sc_plain_coin.nd rfl (by first | exact Or.inl rfl | exact Or.inr rfl) (pe_ix ix_list (pe_ix ix_list (pv 0) (pv 4) (fun _ _ => rfl)) (pv 2) (fun _ _ => rfl))))))
  (pss_one (ps_ret (pe_op op_and (pv 3) pe_int))))))
theorem ok_plain_coin {P : Program} {w : World} {K : PySem.W.Frag} {mg : Str → Option Value} {base : Heap} (T : Txt K mg) 
    (hp : ∀ vs H Q E, sp_plain_coin K vs H Q E → (t_plain_coin K) { nx := fun _ H' => Q .non H', rt := Q } (L2.start N_plain_coin vs) H) : OkF P w K mg base 1 "plain_coin" ["products", "numbers", "coin"] (sp_plain_coin K) :=
  okF 7 7 T rfl rfl sc_plain_coin (fun vs H Q E h => h.1) (fun _ _ _ _ _ _ us hl => match us, hl with | [_, _, _], _ => rfl) (t_plain_coin K) hp (fun f cdv A outer s H E hr => dv_plain_coin T  f cdv A outer s H E hr)

abbrev N_coins_of : List Str := ["products", "numbers", "is_faint", "coin"]
theorem sc_coins_of : FnScope N_coins_of ["products", "numbers", "is_faint"] (defScope s_coins_of) := ⟨rfl, rfl, rfl, by decide +kernel, rfl, by decide +kernel, by decide +kernel⟩
theorem dv_coins_of {P : Program} {w : World} {K : PySem.W.Frag} {mg : Str → Option Value} {base : Heap} (T : Txt K mg) (F_faint_coin : OkF P w K mg base 2 "faint_coin" ["products", "numbers", "coin"] (sp_faint_coin K)) (F_plain_coin : OkF P w K mg base 1 "plain_coin" ["products", "numbers", "coin"] (sp_plain_coin K))
    (f : Addr) (cdv : Value) (A : Around) (outer : List Env) (s : Shared) (H : Hp) (E : XK) (hr : Room 2 (A.deeper (envOfC "coins_of" (defScope s_coins_of) s.heap.objs.size f cdv))) :
    PSs (cxOf CX0 P w K mg base N_coins_of "coins_of" (defScope s_coins_of) f cdv A outer s H E).nox (defBody s_coins_of) (t_coins_of K) :=
  (pss_cons (ps_if (pt_val (pv 2)) (pss_one (ps_ret (pe_lc (own := [("coin", 3)]) (g := (gName 3)) (tt := tYes) rfl sc_coins_of.nd (pi_range1 (by rfl) (T.free 65) (pa_cons (pe_callB call_len_seq (by rfl) (T.free 57) PySem.boot_len (pa_cons (pv 0) pa_nil)) pa_nil)) (blkOk_by (own := [("coin", 3)]) (N := N_coins_of) (sc := (defScope s_coins_of)) (by decide +kernel)) (fun _ _ _ _ _ => (pg_name (i := 3) sc_coins_of.nd rfl (by first | exact Or.inl rfl | exact Or.inr rfl))) (fun _ _ _ _ _ => pts_nil) (fun _ _ _ _ _ => (pe_callF F_faint_coin (hr.mono (by decide)) (by rfl) (pa_cons (pv 0) (pa_cons (pv 1) (pa_cons (pv 3) pa_nil)))))))) pss_nil)
  (pss_one (ps_ret (pe_lc (own := [("coin", 3)]) (g := (gName 3)) (tt := tYes) rfl sc_coins_of.nd (pi_range1 (by rfl) (T.free 65) (pa_cons (pe_callB call_len_seq (by rfl) (T.free 57) PySem.boot_len (pa_cons (pv 0) pa_nil)) pa_nil)) (blkOk_by (own := [("coin", 3)]) (N := N_coins_of) (sc := (defScope s_coins_of)) (by decide +kernel)) (fun _ _ _ _ _ => (pg_name (i := 3) sc_coins_of.nd rfl (by first | exact Or.inl rfl | exact Or.inr rfl))) (fun _ _ _ _ _ => pts_nil) (fun _ _ _ _ _ => (pe_callF F_plain_coin (hr.mono (by decide)) (by rfl) (pa_cons (pv 0) (pa_cons (pv 1) (pa_cons (pv 3) pa_nil)))))))))
theorem ok_coins_of {P : Program} {w : World} {K : PySem.W.Frag} {mg : Str → Option Value} {base : Heap} (T : Txt K mg) (F_faint_coin : OkF P w K mg base 2 "faint_coin" ["products", "numbers", "coin"] (sp_faint_coin K)) (F_plain_coin : OkF P w K mg base 1 "plain_coin" ["products", "numbers", "coin"] (sp_plain_coin K))
    (hp : ∀ vs H Q E, sp_coins_of K vs H Q E → (t_coins_of K) { nx := fun _ H' => Q .non H', rt := Q } (L2.start N_coins_of vs) H) : OkF P w K mg base 3 "coins_of" ["products", "numbers", "is_faint"] (sp_coins_of K) :=
  okF 8 8 T rfl rfl sc_coins_of (fun vs H Q E h => h.1) (fun _ _ _ _ _ _ us hl => match us, hl with | [_, _, _], _ => rfl) (t_coins_of K) hp (fun f cdv A outer s H E hr => dv_coins_of T F_faint_coin F_plain_coin f cdv A outer s H E hr)
end Fc
namespace Fc
open PySem PySem.Spec PyProof.Rows L2 Evl
/-! D2: scopes and derivations, printed by dgen.py. -/
abbrev N_all_rows : List Str := ["products", "digits", "many", "is_faint", "found", "seed"]
theorem sc_all_rows : FnScope N_all_rows ["products", "digits", "many", "is_faint"] (defScope s_all_rows) := ⟨rfl, rfl, rfl, by decide +kernel, rfl, by decide +kernel, by decide +kernel⟩
theorem dv_all_rows {P : Program} {w : World} {K : PySem.W.Frag} {mg : Str → Option Value} {base : Heap} (T : Txt K mg) (F_coins_of : OkF P w K mg base 3 "coins_of" ["products", "numbers", "is_faint"] (sp_coins_of K)) (F_numbers_of : OkF P w K mg base 1 "numbers_of" ["seed", "digits", "many"] (sp_numbers_of K))
    (f : Addr) (cdv : Value) (A : Around) (outer : List Env) (s : Shared) (H : Hp) (E : XK) (hr : Room 3 (A.deeper (envOfC "all_rows" (defScope s_all_rows) s.heap.objs.size f cdv))) :
    PSs (cxOf CX0 P w K mg base N_all_rows "all_rows" (defScope s_all_rows) f cdv A outer s H E).nox (defBody s_all_rows) (t_all_rows K) :=
  (pss_cons (ps_set (i := 4) sc_all_rows.nd rfl (by first | exact Or.inl rfl | exact Or.inr rfl) (pe_lst pa_nil))
  (pss_cons (ps_for PassesOwn.never rfl (pi_range1 (by rfl) (T.free 65) (pa_cons (pe_op op_shl pe_int (pe_op op_mul (pv 1) (pv 2))) pa_nil)) (pg_name (i := 5) sc_all_rows.nd rfl (by first | exact Or.inl rfl | exact Or.inr rfl)) (pss_one (ps_expr (pe_bm PySem.F.plainAttrs_list PySem.F.slot_list_append PySem.F.type_list_append mt_append (pv 4) (pa_cons (pe_callF F_coins_of (hr.mono (by decide)) (by rfl) (pa_cons (pv 0) (pa_cons (pe_callF F_numbers_of (hr.mono (by decide)) (by rfl) (pa_cons (pv 5) (pa_cons (pv 1) (pa_cons (pv 2) pa_nil)))) (pa_cons (pv 3) pa_nil)))) pa_nil)))))
  (pss_one (ps_ret (pv 4)))))
theorem ok_all_rows {P : Program} {w : World} {K : PySem.W.Frag} {mg : Str → Option Value} {base : Heap} (T : Txt K mg) (F_coins_of : OkF P w K mg base 3 "coins_of" ["products", "numbers", "is_faint"] (sp_coins_of K)) (F_numbers_of : OkF P w K mg base 1 "numbers_of" ["seed", "digits", "many"] (sp_numbers_of K))
    (hp : ∀ vs H Q E, sp_all_rows K vs H Q E → (t_all_rows K) { nx := fun _ H' => Q .non H', rt := Q } (L2.start N_all_rows vs) H) : OkF P w K mg base 4 "all_rows" ["products", "digits", "many", "is_faint"] (sp_all_rows K) :=
  okF 9 9 T rfl rfl sc_all_rows (fun vs H Q E h => h.1) (fun _ _ _ _ _ _ us hl => match us, hl with | [_, _, _, _], _ => rfl) (t_all_rows K) hp (fun f cdv A outer s H E hr => dv_all_rows T F_coins_of F_numbers_of f cdv A outer s H E hr)

abbrev N_how_many_lie : List Str := ["rows", "coins", "wanted", "row", "coin"]
theorem sc_how_many_lie : FnScope N_how_many_lie ["rows", "coins", "wanted"] (defScope s_how_many_lie) := ⟨rfl, rfl, rfl, by decide +kernel, rfl, by decide +kernel, by decide +kernel⟩
theorem dv_how_many_lie {P : Program} {w : World} {K : PySem.W.Frag} {mg : Str → Option Value} {base : Heap} (T : Txt K mg) 
    (f : Addr) (cdv : Value) (A : Around) (outer : List Env) (s : Shared) (H : Hp) (E : XK) (hr : Room 0 (A.deeper (envOfC "how_many_lie" (defScope s_how_many_lie) s.heap.objs.size f cdv))) :
    PSs (cxOf CX0 P w K mg base N_how_many_lie "how_many_lie" (defScope s_how_many_lie) f cdv A outer s H E).nox (defBody s_how_many_lie) (t_how_many_lie K) :=
  (pss_one (ps_ret (pe_callB call_len_seq (by rfl) (T.free 57) PySem.boot_len (pa_cons (pe_lc (own := [("row", 3)]) (g := (gName 3)) (tt := (tTest (tOp (rEqD K) (tLc (iList K (tVar 1)) (gName 4) tYes (tOp (rIxL K) (tVar 3) (tVar 4)) [4]) (tVar 2)))) rfl sc_how_many_lie.nd (pi_list (pv 0)) (blkOk_by (own := [("row", 3)]) (N := N_how_many_lie) (sc := (defScope s_how_many_lie)) (by decide +kernel)) (fun _ _ _ _ _ => (pg_name (i := 3) sc_how_many_lie.nd rfl (by first | exact Or.inl rfl | exact Or.inr rfl))) (fun _ _ _ _ _ => (pts_one (pt_cmpR (op_eqD hr.units) (pe_lc (own := [("coin", 4)]) (g := (gName 4)) (tt := tYes) rfl sc_how_many_lie.nd (pi_list (pv 1)) (blkOk_by (own := [("coin", 4)]) (N := N_how_many_lie) (sc := (relS _ (defScope s_how_many_lie))) (by decide +kernel)) (fun _ _ _ _ _ => (pg_name (i := 4) sc_how_many_lie.nd rfl (by first | exact Or.inl rfl | exact Or.inr rfl))) (fun _ _ _ _ _ => pts_nil) (fun _ _ _ _ _ => (pe_ix ix_list (pv 3) (pv 4) (fun _ _ => rfl)))) (pv 2) (nomark _)))) (fun _ _ _ _ _ => (pv 3))) pa_nil))))
theorem ok_how_many_lie {P : Program} {w : World} {K : PySem.W.Frag} {mg : Str → Option Value} {base : Heap} (T : Txt K mg) 
    (hp : ∀ vs H Q E, sp_how_many_lie K vs H Q E → (t_how_many_lie K) { nx := fun _ H' => Q .non H', rt := Q } (L2.start N_how_many_lie vs) H) : OkF P w K mg base 1 "how_many_lie" ["rows", "coins", "wanted"] (sp_how_many_lie K) :=
  okF 10 10 T rfl rfl sc_how_many_lie (fun vs H Q E h => h.1) (fun _ _ _ _ _ _ us hl => match us, hl with | [_, _, _], _ => rfl) (t_how_many_lie K) hp (fun f cdv A outer s H E hr => dv_how_many_lie T  f cdv A outer s H E hr)

abbrev N_how_many_odd : List Str := ["rows", "coins", "row", "coin"]
theorem sc_how_many_odd : FnScope N_how_many_odd ["rows", "coins"] (defScope s_how_many_odd) := ⟨rfl, rfl, rfl, by decide +kernel, rfl, by decide +kernel, by decide +kernel⟩
theorem dv_how_many_odd {P : Program} {w : World} {K : PySem.W.Frag} {mg : Str → Option Value} {base : Heap} (T : Txt K mg) 
    (f : Addr) (cdv : Value) (A : Around) (outer : List Env) (s : Shared) (H : Hp) (E : XK) (hr : Room 0 (A.deeper (envOfC "how_many_odd" (defScope s_how_many_odd) s.heap.objs.size f cdv))) :
    PSs (cxOf CX0 P w K mg base N_how_many_odd "how_many_odd" (defScope s_how_many_odd) f cdv A outer s H E).nox (defBody s_how_many_odd) (t_how_many_odd K) :=
  (pss_one (ps_ret (pe_callB call_len_seq (by rfl) (T.free 57) PySem.boot_len (pa_cons (pe_lc (own := [("row", 2)]) (g := (gName 2)) (tt := (tTest (tOp rEq (tOp qMod (tCB (rSum K) (tCons (tLc (iList K (tVar 1)) (gName 3) tYes (tOp (rIxL K) (tVar 2) (tVar 3)) [3]) tNil)) (tC (.int 2))) (tC (.int 1))))) rfl sc_how_many_odd.nd (pi_list (pv 0)) (blkOk_by (own := [("row", 2)]) (N := N_how_many_odd) (sc := (defScope s_how_many_odd)) (by decide +kernel)) (fun _ _ _ _ _ => (pg_name (i := 2) sc_how_many_odd.nd rfl (by first | exact Or.inl rfl | exact Or.inr rfl))) (fun _ _ _ _ _ => (pts_one (pt_cmpR op_eq (pe_op op_mod (pe_callB (cr_sum rfl) (by rfl) (T.free 59) (by decide +kernel) (pa_cons (pe_lc (own := [("coin", 3)]) (g := (gName 3)) (tt := tYes) rfl sc_how_many_odd.nd (pi_list (pv 1)) (blkOk_by (own := [("coin", 3)]) (N := N_how_many_odd) (sc := (relS _ (defScope s_how_many_odd))) (by decide +kernel)) (fun _ _ _ _ _ => (pg_name (i := 3) sc_how_many_odd.nd rfl (by first | exact Or.inl rfl | exact Or.inr rfl))) (fun _ _ _ _ _ => pts_nil) (fun _ _ _ _ _ => (pe_ix ix_list (pv 2) (pv 3) (fun _ _ => rfl)))) pa_nil)) pe_int) pe_int (nomark _)))) (fun _ _ _ _ _ => (pv 2))) pa_nil))))
theorem ok_how_many_odd {P : Program} {w : World} {K : PySem.W.Frag} {mg : Str → Option Value} {base : Heap} (T : Txt K mg) 
    (hp : ∀ vs H Q E, sp_how_many_odd K vs H Q E → (t_how_many_odd K) { nx := fun _ H' => Q .non H', rt := Q } (L2.start N_how_many_odd vs) H) : OkF P w K mg base 1 "how_many_odd" ["rows", "coins"] (sp_how_many_odd K) :=
  okF 11 11 T rfl rfl sc_how_many_odd (fun vs H Q E h => h.1) (fun _ _ _ _ _ _ us hl => match us, hl with | [_, _], _ => rfl) (t_how_many_odd K) hp (fun f cdv A outer s H E hr => dv_how_many_odd T  f cdv A outer s H E hr)

abbrev N_shared : List Str := ["one", "other"]
theorem sc_shared : FnScope N_shared ["one", "other"] (defScope s_shared) := ⟨rfl, rfl, rfl, by decide +kernel, rfl, by decide +kernel, by decide +kernel⟩
theorem dv_shared {P : Program} {w : World} {K : PySem.W.Frag} {mg : Str → Option Value} {base : Heap} (T : Txt K mg) 
    (f : Addr) (cdv : Value) (A : Around) (outer : List Env) (s : Shared) (H : Hp) (E : XK) (hr : Room 0 (A.deeper (envOfC "shared" (defScope s_shared) s.heap.objs.size f cdv))) :
    PSs (cxOf CX0 P w K mg base N_shared "shared" (defScope s_shared) f cdv A outer s H E).nox (defBody s_shared) (t_shared K) :=
  (pss_cons (ps_set (i := 0) sc_shared.nd rfl (by first | exact Or.inl rfl | exact Or.inr rfl) (pe_callB call_abs (by rfl) (T.free 66) (by decide +kernel) (pa_cons (pv 0) pa_nil)))
  (pss_cons (ps_while PassesOwn.never (pt_cmpR op_gt (pv 0) pe_int (nomark _)) (pss_one (ps_par (by rfl) sc_shared.nd rfl rfl (by decide) rfl rfl (pa_cons (pe_op op_mod (pv 1) (pv 0)) (pa_cons (pv 0) pa_nil)) (by rfl))))
  (pss_one (ps_ret (pv 1)))))
theorem ok_shared {P : Program} {w : World} {K : PySem.W.Frag} {mg : Str → Option Value} {base : Heap} (T : Txt K mg) 
    (hp : ∀ vs H Q E, sp_shared K vs H Q E → (t_shared K) { nx := fun _ H' => Q .non H', rt := Q } (L2.start N_shared vs) H) : OkF P w K mg base 1 "shared" ["one", "other"] (sp_shared K) :=
  okF 12 12 T rfl rfl sc_shared (fun vs H Q E h => h.1) (fun _ _ _ _ _ _ us hl => match us, hl with | [_, _], _ => rfl) (t_shared K) hp (fun f cdv A outer s H E hr => dv_shared T  f cdv A outer s H E hr)

abbrev N_told_fraction : List Str := ["top", "bottom", "part"]
theorem sc_told_fraction : FnScope N_told_fraction ["top", "bottom"] (defScope s_told_fraction) := ⟨rfl, rfl, rfl, by decide +kernel, rfl, by decide +kernel, by decide +kernel⟩
theorem dv_told_fraction {P : Program} {w : World} {K : PySem.W.Frag} {mg : Str → Option Value} {base : Heap} (T : Txt K mg) (F_shared : OkF P w K mg base 1 "shared" ["one", "other"] (sp_shared K))
    (f : Addr) (cdv : Value) (A : Around) (outer : List Env) (s : Shared) (H : Hp) (E : XK) (hr : Room 1 (A.deeper (envOfC "told_fraction" (defScope s_told_fraction) s.heap.objs.size f cdv))) :
    PSs (cxOf CX0 P w K mg base N_told_fraction "told_fraction" (defScope s_told_fraction) f cdv A outer s H E).nox (defBody s_told_fraction) (t_told_fraction K) :=
  (pss_cons (ps_set (i := 2) sc_told_fraction.nd rfl (by first | exact Or.inl rfl | exact Or.inr rfl) (pe_callF F_shared (hr.mono (by decide)) (by rfl) (pa_cons (pv 0) (pa_cons (pv 1) pa_nil))))
  (pss_one (ps_ret (pe_lst (pa_cons (pe_op op_fdivW (pv 0) (pv 2)) (pa_cons (pe_op op_fdivW (pv 1) (pv 2)) pa_nil))))))
theorem ok_told_fraction {P : Program} {w : World} {K : PySem.W.Frag} {mg : Str → Option Value} {base : Heap} (T : Txt K mg) (F_shared : OkF P w K mg base 1 "shared" ["one", "other"] (sp_shared K))
    (hp : ∀ vs H Q E, sp_told_fraction K vs H Q E → (t_told_fraction K) { nx := fun _ H' => Q .non H', rt := Q } (L2.start N_told_fraction vs) H) : OkF P w K mg base 2 "told_fraction" ["top", "bottom"] (sp_told_fraction K) :=
  okF 13 13 T rfl rfl sc_told_fraction (fun vs H Q E h => h.1) (fun _ _ _ _ _ _ us hl => match us, hl with | [_, _], _ => rfl) (t_told_fraction K) hp (fun f cdv A outer s H E hr => dv_told_fraction T F_shared f cdv A outer s H E hr)

abbrev N_Term__init__ : List Str := ["self", "weight", "told", "least"]
theorem sc_Term__init__ : FnScope N_Term__init__ ["self", "weight", "told", "least"] (defScope s_Term__init__) := ⟨rfl, rfl, rfl, by decide +kernel, rfl, by decide +kernel, by decide +kernel⟩
theorem dv_Term__init__ {P : Program} {w : World} {K : PySem.W.Frag} {mg : Str → Option Value} {base : Heap} (T : Txt K mg) 
    (f : Addr) (cdv : Value) (A : Around) (outer : List Env) (s : Shared) (H : Hp) (E : XK) (hr : Room 0 (A.deeper (envOfC "Term.__init__" (defScope s_Term__init__) s.heap.objs.size f cdv))) :
    PSs (cxOf CX0 P w K mg base N_Term__init__ "Term.__init__" (defScope s_Term__init__) f cdv A outer s H E).nox (defBody s_Term__init__) (t_Term__init__ K) :=
  (pss_cons (ps_fld (pv 0) (pv 1) rfl)
  (pss_cons (ps_fld (pv 0) (pv 2) rfl)
  (pss_one (ps_fld (pv 0) (pv 3) rfl))))
theorem ok_Term__init__ {P : Program} {w : World} {K : PySem.W.Frag} {mg : Str → Option Value} {base : Heap} (T : Txt K mg) 
    (hp : ∀ vs H Q E, sp_Term__init__ K vs H Q E → (t_Term__init__ K) { nx := fun _ H' => Q .non H', rt := Q } (L2.start N_Term__init__ vs) H) : OkA P w K mg base 1 (He.ma K (ad K "Term") "__init__") ["self", "weight", "told", "least"] (sp_Term__init__ K) :=
  okM 14 T rfl sc_Term__init__ (fun vs H Q E h => h.1) (fun _ _ _ _ _ _ us hl => match us, hl with | [_, _, _, _], _ => rfl) (t_Term__init__ K) hp (fun f cdv A outer s H E hr => dv_Term__init__ T f cdv A outer s H E hr)

abbrev N_all_term : List Str := ["weight", "lie", "told", "number"]
theorem sc_all_term : FnScope N_all_term ["weight", "lie"] (defScope s_all_term) := ⟨rfl, rfl, rfl, by decide +kernel, rfl, by decide +kernel, by decide +kernel⟩
theorem dv_all_term {P : Program} {w : World} {K : PySem.W.Frag} {mg : Str → Option Value} {base : Heap} (T : Txt K mg) (F_Term : OkA P w K mg base 1 (He.ma K (ad K "Term") "__init__") ["self", "weight", "told", "least"] (sp_Term__init__ K))
    (f : Addr) (cdv : Value) (A : Around) (outer : List Env) (s : Shared) (H : Hp) (E : XK) (hr : Room 2 (A.deeper (envOfC "all_term" (defScope s_all_term) s.heap.objs.size f cdv))) :
    PSs (cxOf CX0 P w K mg base N_all_term "all_term" (defScope s_all_term) f cdv A outer s H E).nox (defBody s_all_term) (t_all_term P w K) :=
  (pss_cons (ps_set (i := 2) sc_all_term.nd rfl (by first | exact Or.inl rfl | exact Or.inr rfl) (pe_callB (cr_sortedT rfl) (by rfl) (T.free 62) (by decide +kernel) (pa_cons (pe_callTy (cr_setOfT rfl hr.units) (by rfl) (T.free 63) (by decide +kernel) (pa_cons (pe_lc (own := [("number", 3)]) (g := (gName 3)) (tt := tYes) rfl sc_all_term.nd (pi_list (pv 1)) (blkOk_by (own := [("number", 3)]) (N := N_all_term) (sc := (defScope s_all_term)) (by decide +kernel)) (fun _ _ _ _ _ => (pg_name (i := 3) sc_all_term.nd rfl (by first | exact Or.inl rfl | exact Or.inr rfl))) (fun _ _ _ _ _ => pts_nil) (fun _ _ _ _ _ => (pe_tup (pa_cons (pe_op op_fdivW (pv 3) pe_int) (pa_cons (pe_op op_mod (pv 3) pe_int) pa_nil))))) pa_nil)) pa_nil)))
  (pss_one (ps_ret (pe_makeF (T.mkr 90) F_Term (hr.mono (by decide)) (by rfl) (T.glo 14) (pa_cons (pv 0) (pa_cons (pv 2) (pa_cons (pe_callB call_len_seq (by rfl) (T.free 57) PySem.boot_len (pa_cons (pv 2) pa_nil)) pa_nil)))))))
theorem ok_all_term {P : Program} {w : World} {K : PySem.W.Frag} {mg : Str → Option Value} {base : Heap} (T : Txt K mg) (F_Term : OkA P w K mg base 1 (He.ma K (ad K "Term") "__init__") ["self", "weight", "told", "least"] (sp_Term__init__ K))
    (hp : ∀ vs H Q E, sp_all_term K vs H Q E → (t_all_term P w K) { nx := fun _ H' => Q .non H', rt := Q } (L2.start N_all_term vs) H) : OkF P w K mg base 3 "all_term" ["weight", "lie"] (sp_all_term K) :=
  okF 15 15 T rfl rfl sc_all_term (fun vs H Q E h => h.1) (fun _ _ _ _ _ _ us hl => match us, hl with | [_, _], _ => rfl) (t_all_term P w K) hp (fun f cdv A outer s H E hr => dv_all_term T F_Term f cdv A outer s H E hr)

abbrev N_many_term : List Str := ["weight", "least", "coins", "coin"]
theorem sc_many_term : FnScope N_many_term ["weight", "least", "coins"] (defScope s_many_term) := ⟨rfl, rfl, rfl, by decide +kernel, rfl, by decide +kernel, by decide +kernel⟩
theorem dv_many_term {P : Program} {w : World} {K : PySem.W.Frag} {mg : Str → Option Value} {base : Heap} (T : Txt K mg) (F_Term : OkA P w K mg base 1 (He.ma K (ad K "Term") "__init__") ["self", "weight", "told", "least"] (sp_Term__init__ K))
    (f : Addr) (cdv : Value) (A : Around) (outer : List Env) (s : Shared) (H : Hp) (E : XK) (hr : Room 2 (A.deeper (envOfC "many_term" (defScope s_many_term) s.heap.objs.size f cdv))) :
    PSs (cxOf CX0 P w K mg base N_many_term "many_term" (defScope s_many_term) f cdv A outer s H E).nox (defBody s_many_term) (t_many_term K) :=
  (pss_one (ps_ret (pe_makeF (T.mkr 90) F_Term (hr.mono (by decide)) (by rfl) (T.glo 14) (pa_cons (pv 0) (pa_cons (pe_lc (own := [("coin", 3)]) (g := (gName 3)) (tt := tYes) rfl sc_many_term.nd (pi_list (pv 2)) (blkOk_by (own := [("coin", 3)]) (N := N_many_term) (sc := (defScope s_many_term)) (by decide +kernel)) (fun _ _ _ _ _ => (pg_name (i := 3) sc_many_term.nd rfl (by first | exact Or.inl rfl | exact Or.inr rfl))) (fun _ _ _ _ _ => pts_nil) (fun _ _ _ _ _ => (pe_tup (pa_cons (pv 3) (pa_cons pe_int pa_nil))))) (pa_cons (pv 1) pa_nil))))))
theorem ok_many_term {P : Program} {w : World} {K : PySem.W.Frag} {mg : Str → Option Value} {base : Heap} (T : Txt K mg) (F_Term : OkA P w K mg base 1 (He.ma K (ad K "Term") "__init__") ["self", "weight", "told", "least"] (sp_Term__init__ K))
    (hp : ∀ vs H Q E, sp_many_term K vs H Q E → (t_many_term K) { nx := fun _ H' => Q .non H', rt := Q } (L2.start N_many_term vs) H) : OkF P w K mg base 3 "many_term" ["weight", "least", "coins"] (sp_many_term K) :=
  okF 16 16 T rfl rfl sc_many_term (fun vs H Q E h => h.1) (fun _ _ _ _ _ _ us hl => match us, hl with | [_, _, _], _ => rfl) (t_many_term K) hp (fun f cdv A outer s H E hr => dv_many_term T F_Term f cdv A outer s H E hr)

abbrev N_is_so : List Str := ["term", "row", "coin", "wanted"]
theorem sc_is_so : FnScope N_is_so ["term", "row"] (defScope s_is_so) := ⟨rfl, rfl, rfl, by decide +kernel, rfl, by decide +kernel, by decide +kernel⟩
theorem dv_is_so {P : Program} {w : World} {K : PySem.W.Frag} {mg : Str → Option Value} {base : Heap} (T : Txt K mg) 
    (f : Addr) (cdv : Value) (A : Around) (outer : List Env) (s : Shared) (H : Hp) (E : XK) (hr : Room 0 (A.deeper (envOfC "is_so" (defScope s_is_so) s.heap.objs.size f cdv))) :
    PSs (cxOf CX0 P w K mg base N_is_so "is_so" (defScope s_is_so) f cdv A outer s H E).nox (defBody s_is_so) (t_is_so K) :=
  (pss_one (ps_ret (pe_cmpR op_ge (pe_callB call_len_seq (by rfl) (T.free 57) PySem.boot_len (pa_cons (pe_lc (own := [("coin", 2), ("wanted", 3)]) (g := (gTup K 2 (gCons (gName 2) (gCons (gName 3) gNil)))) (tt := (tTest (tOp rEq (tOp (rIxL K) (tVar 1) (tVar 2)) (tVar 3)))) rfl sc_is_so.nd (pi_list (pe_fld (pv 0) rfl)) (blkOk_by (own := [("coin", 2), ("wanted", 3)]) (N := N_is_so) (sc := (defScope s_is_so)) (by decide +kernel)) (fun _ _ _ _ _ => (pg_tup (by rfl) (pgs_cons (pg_name (i := 2) sc_is_so.nd rfl (by first | exact Or.inl rfl | exact Or.inr rfl)) (pgs_cons (pg_name (i := 3) sc_is_so.nd rfl (by first | exact Or.inl rfl | exact Or.inr rfl)) pgs_nil)))) (fun _ _ _ _ _ => (pts_one (pt_cmpR op_eq (pe_ix ix_list (pv 1) (pv 2) (fun _ _ => rfl)) (pv 3) (nomark _)))) (fun _ _ _ _ _ => (pv 2))) pa_nil)) (pe_fld (pv 0) rfl) (nomark _))))
theorem ok_is_so {P : Program} {w : World} {K : PySem.W.Frag} {mg : Str → Option Value} {base : Heap} (T : Txt K mg) 
    (hp : ∀ vs H Q E, sp_is_so K vs H Q E → (t_is_so K) { nx := fun _ H' => Q .non H', rt := Q } (L2.start N_is_so vs) H) : OkF P w K mg base 1 "is_so" ["term", "row"] (sp_is_so K) :=
  okF 17 17 T rfl rfl sc_is_so (fun vs H Q E h => h.1) (fun _ _ _ _ _ _ us hl => match us, hl with | [_, _], _ => rfl) (t_is_so K) hp (fun f cdv A outer s H E hr => dv_is_so T  f cdv A outer s H E hr)
end Fc
namespace Fc
open PySem PySem.Spec PyProof.Rows L2 Evl
/-! D3: scopes and derivations, printed by dgen.py. -/
abbrev N_worth_of : List Str := ["terms", "row", "term"]
theorem sc_worth_of : FnScope N_worth_of ["terms", "row"] (defScope s_worth_of) := ⟨rfl, rfl, rfl, by decide +kernel, rfl, by decide +kernel, by decide +kernel⟩
theorem dv_worth_of {P : Program} {w : World} {K : PySem.W.Frag} {mg : Str → Option Value} {base : Heap} (T : Txt K mg) (F_is_so : OkF P w K mg base 1 "is_so" ["term", "row"] (sp_is_so K))
    (f : Addr) (cdv : Value) (A : Around) (outer : List Env) (s : Shared) (H : Hp) (E : XK) (hr : Room 1 (A.deeper (envOfC "worth_of" (defScope s_worth_of) s.heap.objs.size f cdv))) :
    PSs (cxOf CX0 P w K mg base N_worth_of "worth_of" (defScope s_worth_of) f cdv A outer s H E).nox (defBody s_worth_of) (t_worth_of K) :=
  (pss_one (ps_ret (pe_callB (cr_sum rfl) (by rfl) (T.free 59) (by decide +kernel) (pa_cons (pe_lc (own := [("term", 2)]) (g := (gName 2)) (tt := (tB (tCall (sp_is_so K) [] E0 (tCons (tVar 2) (tCons (tVar 1) tNil))))) rfl sc_worth_of.nd (pi_list (pv 0)) (blkOk_by (own := [("term", 2)]) (N := N_worth_of) (sc := (defScope s_worth_of)) (by decide +kernel)) (fun _ _ _ _ _ => (pg_name (i := 2) sc_worth_of.nd rfl (by first | exact Or.inl rfl | exact Or.inr rfl))) (fun _ _ _ _ _ => (pts_one (pt_val (pe_callF F_is_so (hr.mono (by decide)) (by rfl) (pa_cons (pv 2) (pa_cons (pv 1) pa_nil)))))) (fun _ _ _ _ _ => (pe_fld (pv 2) rfl))) pa_nil))))
theorem ok_worth_of {P : Program} {w : World} {K : PySem.W.Frag} {mg : Str → Option Value} {base : Heap} (T : Txt K mg) (F_is_so : OkF P w K mg base 1 "is_so" ["term", "row"] (sp_is_so K))
    (hp : ∀ vs H Q E, sp_worth_of K vs H Q E → (t_worth_of K) { nx := fun _ H' => Q .non H', rt := Q } (L2.start N_worth_of vs) H) : OkF P w K mg base 2 "worth_of" ["terms", "row"] (sp_worth_of K) :=
  okF 18 18 T rfl rfl sc_worth_of (fun vs H Q E h => h.1) (fun _ _ _ _ _ _ us hl => match us, hl with | [_, _], _ => rfl) (t_worth_of K) hp (fun f cdv A outer s H E hr => dv_worth_of T F_is_so f cdv A outer s H E hr)

abbrev N_coins_looked_at : List Str := ["term", "coin", "wanted"]
theorem sc_coins_looked_at : FnScope N_coins_looked_at ["term"] (defScope s_coins_looked_at) := ⟨rfl, rfl, rfl, by decide +kernel, rfl, by decide +kernel, by decide +kernel⟩
theorem dv_coins_looked_at {P : Program} {w : World} {K : PySem.W.Frag} {mg : Str → Option Value} {base : Heap} (T : Txt K mg) 
    (f : Addr) (cdv : Value) (A : Around) (outer : List Env) (s : Shared) (H : Hp) (E : XK) (hr : Room 0 (A.deeper (envOfC "coins_looked_at" (defScope s_coins_looked_at) s.heap.objs.size f cdv))) :
    PSs (cxOf CX0 P w K mg base N_coins_looked_at "coins_looked_at" (defScope s_coins_looked_at) f cdv A outer s H E).nox (defBody s_coins_looked_at) (t_coins_looked_at P w K) :=
  (pss_one (ps_ret (pe_callB (cr_sortedSetA rfl) (by rfl) (T.free 62) (by decide +kernel) (pa_cons (pe_callTy (cr_setOfI rfl) (by rfl) (T.free 63) (by decide +kernel) (pa_cons (pe_lc (own := [("coin", 1), ("wanted", 2)]) (g := (gTup K 2 (gCons (gName 1) (gCons (gName 2) gNil)))) (tt := tYes) rfl sc_coins_looked_at.nd (pi_list (pe_fld (pv 0) rfl)) (blkOk_by (own := [("coin", 1), ("wanted", 2)]) (N := N_coins_looked_at) (sc := (defScope s_coins_looked_at)) (by decide +kernel)) (fun _ _ _ _ _ => (pg_tup (by rfl) (pgs_cons (pg_name (i := 1) sc_coins_looked_at.nd rfl (by first | exact Or.inl rfl | exact Or.inr rfl)) (pgs_cons (pg_name (i := 2) sc_coins_looked_at.nd rfl (by first | exact Or.inl rfl | exact Or.inr rfl)) pgs_nil)))) (fun _ _ _ _ _ => pts_nil) (fun _ _ _ _ _ => (pv 1))) pa_nil)) pa_nil))))
theorem ok_coins_looked_at {P : Program} {w : World} {K : PySem.W.Frag} {mg : Str → Option Value} {base : Heap} (T : Txt K mg) 
    (hp : ∀ vs H Q E, sp_coins_looked_at K vs H Q E → (t_coins_looked_at P w K) { nx := fun _ H' => Q .non H', rt := Q } (L2.start N_coins_looked_at vs) H) : OkF P w K mg base 1 "coins_looked_at" ["term"] (sp_coins_looked_at K) :=
  okF 19 19 T rfl rfl sc_coins_looked_at (fun vs H Q E h => h.1) (fun _ _ _ _ _ _ us hl => match us, hl with | [_], _ => rfl) (t_coins_looked_at P w K) hp (fun f cdv A outer s H E hr => dv_coins_looked_at T  f cdv A outer s H E hr)

abbrev N_ways_to_choose : List Str := ["few", "many", "found", "place"]
theorem sc_ways_to_choose : FnScope N_ways_to_choose ["few", "many"] (defScope s_ways_to_choose) := ⟨rfl, rfl, rfl, by decide +kernel, rfl, by decide +kernel, by decide +kernel⟩
theorem dv_ways_to_choose {P : Program} {w : World} {K : PySem.W.Frag} {mg : Str → Option Value} {base : Heap} (T : Txt K mg) 
    (f : Addr) (cdv : Value) (A : Around) (outer : List Env) (s : Shared) (H : Hp) (E : XK) (hr : Room 0 (A.deeper (envOfC "ways_to_choose" (defScope s_ways_to_choose) s.heap.objs.size f cdv))) :
    PSs (cxOf CX0 P w K mg base N_ways_to_choose "ways_to_choose" (defScope s_ways_to_choose) f cdv A outer s H E).nox (defBody s_ways_to_choose) (t_ways_to_choose K) :=
  (pss_cons (ps_set (i := 2) sc_ways_to_choose.nd rfl (by first | exact Or.inl rfl | exact Or.inr rfl) pe_int)
  (pss_cons (ps_for PassesOwn.never rfl (pi_range1 (by rfl) (T.free 65) (pa_cons (pv 0) pa_nil)) (pg_name (i := 3) sc_ways_to_choose.nd rfl (by first | exact Or.inl rfl | exact Or.inr rfl)) (pss_one (ps_set (i := 2) sc_ways_to_choose.nd rfl (by first | exact Or.inl rfl | exact Or.inr rfl) (pe_op op_fdivW (pe_op op_mul (pv 2) (pe_op op_sub (pv 1) (pv 3))) (pe_op op_add (pv 3) pe_int)))))
  (pss_one (ps_ret (pv 2)))))
theorem ok_ways_to_choose {P : Program} {w : World} {K : PySem.W.Frag} {mg : Str → Option Value} {base : Heap} (T : Txt K mg) 
    (hp : ∀ vs H Q E, sp_ways_to_choose K vs H Q E → (t_ways_to_choose K) { nx := fun _ H' => Q .non H', rt := Q } (L2.start N_ways_to_choose vs) H) : OkF P w K mg base 1 "ways_to_choose" ["few", "many"] (sp_ways_to_choose K) :=
  okF 20 20 T rfl rfl sc_ways_to_choose (fun vs H Q E h => h.1) (fun _ _ _ _ _ _ us hl => match us, hl with | [_, _], _ => rfl) (t_ways_to_choose K) hp (fun f cdv A outer s H E hr => dv_ways_to_choose T  f cdv A outer s H E hr)

abbrev N_ways_of_true : List Str := ["term", "many", "few"]
theorem sc_ways_of_true : FnScope N_ways_of_true ["term"] (defScope s_ways_of_true) := ⟨rfl, rfl, rfl, by decide +kernel, rfl, by decide +kernel, by decide +kernel⟩
theorem dv_ways_of_true {P : Program} {w : World} {K : PySem.W.Frag} {mg : Str → Option Value} {base : Heap} (T : Txt K mg) (F_coins_looked_at : OkF P w K mg base 1 "coins_looked_at" ["term"] (sp_coins_looked_at K)) (F_ways_to_choose : OkF P w K mg base 1 "ways_to_choose" ["few", "many"] (sp_ways_to_choose K))
    (f : Addr) (cdv : Value) (A : Around) (outer : List Env) (s : Shared) (H : Hp) (E : XK) (hr : Room 1 (A.deeper (envOfC "ways_of_true" (defScope s_ways_of_true) s.heap.objs.size f cdv))) :
    PSs (cxOf CX0 P w K mg base N_ways_of_true "ways_of_true" (defScope s_ways_of_true) f cdv A outer s H E).nox (defBody s_ways_of_true) (t_ways_of_true K) :=
  (pss_cons (ps_set (i := 1) sc_ways_of_true.nd rfl (by first | exact Or.inl rfl | exact Or.inr rfl) (pe_callB call_len_seq (by rfl) (T.free 57) PySem.boot_len (pa_cons (pe_callF F_coins_looked_at (hr.mono (by decide)) (by rfl) (pa_cons (pv 0) pa_nil)) pa_nil)))
  (pss_cons (ps_if (pt_cmpR op_gt (pe_callB call_len_seq (by rfl) (T.free 57) PySem.boot_len (pa_cons (pe_fld (pv 0) rfl) pa_nil)) (pv 1) (nomark _)) (pss_one (ps_ret pe_int)) pss_nil)
  (pss_one (ps_ret (pe_callB (cr_sum rfl) (by rfl) (T.free 59) (by decide +kernel) (pa_cons (pe_lc (own := [("few", 2)]) (g := (gName 2)) (tt := tYes) rfl sc_ways_of_true.nd (pi_range2 (by rfl) (T.free 65) (pa_cons (pe_fld (pv 0) rfl) (pa_cons (pe_op op_add (pv 1) pe_int) pa_nil))) (blkOk_by (own := [("few", 2)]) (N := N_ways_of_true) (sc := (defScope s_ways_of_true)) (by decide +kernel)) (fun _ _ _ _ _ => (pg_name (i := 2) sc_ways_of_true.nd rfl (by first | exact Or.inl rfl | exact Or.inr rfl))) (fun _ _ _ _ _ => pts_nil) (fun _ _ _ _ _ => (pe_callF F_ways_to_choose (hr.mono (by decide)) (by rfl) (pa_cons (pv 2) (pa_cons (pv 1) pa_nil))))) pa_nil))))))
theorem ok_ways_of_true {P : Program} {w : World} {K : PySem.W.Frag} {mg : Str → Option Value} {base : Heap} (T : Txt K mg) (F_coins_looked_at : OkF P w K mg base 1 "coins_looked_at" ["term"] (sp_coins_looked_at K)) (F_ways_to_choose : OkF P w K mg base 1 "ways_to_choose" ["few", "many"] (sp_ways_to_choose K))
    (hp : ∀ vs H Q E, sp_ways_of_true K vs H Q E → (t_ways_of_true K) { nx := fun _ H' => Q .non H', rt := Q } (L2.start N_ways_of_true vs) H) : OkF P w K mg base 2 "ways_of_true" ["term"] (sp_ways_of_true K) :=
  okF 21 21 T rfl rfl sc_ways_of_true (fun vs H Q E h => h.1) (fun _ _ _ _ _ _ us hl => match us, hl with | [_], _ => rfl) (t_ways_of_true K) hp (fun f cdv A outer s H E hr => dv_ways_of_true T F_coins_looked_at F_ways_to_choose f cdv A outer s H E hr)

abbrev N_true_chance : List Str := ["term"]
theorem sc_true_chance : FnScope N_true_chance ["term"] (defScope s_true_chance) := ⟨rfl, rfl, rfl, by decide +kernel, rfl, by decide +kernel, by decide +kernel⟩
theorem dv_true_chance {P : Program} {w : World} {K : PySem.W.Frag} {mg : Str → Option Value} {base : Heap} (T : Txt K mg) (F_coins_looked_at : OkF P w K mg base 1 "coins_looked_at" ["term"] (sp_coins_looked_at K)) (F_ways_of_true : OkF P w K mg base 2 "ways_of_true" ["term"] (sp_ways_of_true K))
    (f : Addr) (cdv : Value) (A : Around) (outer : List Env) (s : Shared) (H : Hp) (E : XK) (hr : Room 2 (A.deeper (envOfC "true_chance" (defScope s_true_chance) s.heap.objs.size f cdv))) :
    PSs (cxOf CX0 P w K mg base N_true_chance "true_chance" (defScope s_true_chance) f cdv A outer s H E).nox (defBody s_true_chance) (t_true_chance K) :=
  (pss_one (ps_ret (pe_tup (pa_cons (pe_callF F_ways_of_true (hr.mono (by decide)) (by rfl) (pa_cons (pv 0) pa_nil)) (pa_cons (pe_op op_shl pe_int (pe_callB call_len_seq (by rfl) (T.free 57) PySem.boot_len (pa_cons (pe_callF F_coins_looked_at (hr.mono (by decide)) (by rfl) (pa_cons (pv 0) pa_nil)) pa_nil))) pa_nil)))))
theorem ok_true_chance {P : Program} {w : World} {K : PySem.W.Frag} {mg : Str → Option Value} {base : Heap} (T : Txt K mg) (F_coins_looked_at : OkF P w K mg base 1 "coins_looked_at" ["term"] (sp_coins_looked_at K)) (F_ways_of_true : OkF P w K mg base 2 "ways_of_true" ["term"] (sp_ways_of_true K))
    (hp : ∀ vs H Q E, sp_true_chance K vs H Q E → (t_true_chance K) { nx := fun _ H' => Q .non H', rt := Q } (L2.start N_true_chance vs) H) : OkF P w K mg base 3 "true_chance" ["term"] (sp_true_chance K) :=
  okF 22 22 T rfl rfl sc_true_chance (fun vs H Q E h => h.1) (fun _ _ _ _ _ _ us hl => match us, hl with | [_], _ => rfl) (t_true_chance K) hp (fun f cdv A outer s H E hr => dv_true_chance T F_coins_looked_at F_ways_of_true f cdv A outer s H E hr)

abbrev N_true_mean : List Str := ["terms", "many", "whole", "top", "term", "ways", "parts"]
theorem sc_true_mean : FnScope N_true_mean ["terms", "many"] (defScope s_true_mean) := ⟨rfl, rfl, rfl, by decide +kernel, rfl, by decide +kernel, by decide +kernel⟩
theorem dv_true_mean {P : Program} {w : World} {K : PySem.W.Frag} {mg : Str → Option Value} {base : Heap} (T : Txt K mg) (F_true_chance : OkF P w K mg base 3 "true_chance" ["term"] (sp_true_chance K))
    (f : Addr) (cdv : Value) (A : Around) (outer : List Env) (s : Shared) (H : Hp) (E : XK) (hr : Room 3 (A.deeper (envOfC "true_mean" (defScope s_true_mean) s.heap.objs.size f cdv))) :
    PSs (cxOf CX0 P w K mg base N_true_mean "true_mean" (defScope s_true_mean) f cdv A outer s H E).nox (defBody s_true_mean) (t_true_mean K) :=
  (pss_cons (ps_set (i := 2) sc_true_mean.nd rfl (by first | exact Or.inl rfl | exact Or.inr rfl) (pe_op op_shl pe_int (pv 1)))
  (pss_cons (ps_set (i := 3) sc_true_mean.nd rfl (by first | exact Or.inl rfl | exact Or.inr rfl) pe_int)
  (pss_cons (ps_for PassesOwn.never rfl (pi_list (pv 0)) (pg_name (i := 4) sc_true_mean.nd rfl (by first | exact Or.inl rfl | exact Or.inr rfl)) (pss_cons (ps_asg (pe_callF F_true_chance (hr.mono (by decide)) (by rfl) (pa_cons (pv 4) pa_nil)) (pg_tup (by rfl) (pgs_cons (pg_name (i := 5) sc_true_mean.nd rfl (by first | exact Or.inl rfl | exact Or.inr rfl)) (pgs_cons (pg_name (i := 6) sc_true_mean.nd rfl (by first | exact Or.inl rfl | exact Or.inr rfl)) pgs_nil))))
  (pss_one (ps_aug (i := 3) sc_true_mean.nd rfl (by first | exact Or.inl rfl | exact Or.inr rfl) (pe_op op_mul (pe_op op_mul (pe_fld (pv 4) rfl) (pv 5)) (pe_op op_fdivW (pv 2) (pv 6))) ip_add))))
  (pss_one (ps_ret (pe_tup (pa_cons (pv 3) (pa_cons (pv 2) pa_nil))))))))
theorem ok_true_mean {P : Program} {w : World} {K : PySem.W.Frag} {mg : Str → Option Value} {base : Heap} (T : Txt K mg) (F_true_chance : OkF P w K mg base 3 "true_chance" ["term"] (sp_true_chance K))
    (hp : ∀ vs H Q E, sp_true_mean K vs H Q E → (t_true_mean K) { nx := fun _ H' => Q .non H', rt := Q } (L2.start N_true_mean vs) H) : OkF P w K mg base 4 "true_mean" ["terms", "many"] (sp_true_mean K) :=
  okF 23 23 T rfl rfl sc_true_mean (fun vs H Q E h => h.1) (fun _ _ _ _ _ _ us hl => match us, hl with | [_, _], _ => rfl) (t_true_mean K) hp (fun f cdv A outer s H E hr => dv_true_mean T F_true_chance f cdv A outer s H E hr)

abbrev N_seeds_chance : List Str := ["term", "rows", "row"]
theorem sc_seeds_chance : FnScope N_seeds_chance ["term", "rows"] (defScope s_seeds_chance) := ⟨rfl, rfl, rfl, by decide +kernel, rfl, by decide +kernel, by decide +kernel⟩
theorem dv_seeds_chance {P : Program} {w : World} {K : PySem.W.Frag} {mg : Str → Option Value} {base : Heap} (T : Txt K mg) (F_is_so : OkF P w K mg base 1 "is_so" ["term", "row"] (sp_is_so K))
    (f : Addr) (cdv : Value) (A : Around) (outer : List Env) (s : Shared) (H : Hp) (E : XK) (hr : Room 1 (A.deeper (envOfC "seeds_chance" (defScope s_seeds_chance) s.heap.objs.size f cdv))) :
    PSs (cxOf CX0 P w K mg base N_seeds_chance "seeds_chance" (defScope s_seeds_chance) f cdv A outer s H E).nox (defBody s_seeds_chance) (t_seeds_chance K) :=
  (pss_one (ps_ret (pe_tup (pa_cons (pe_callB call_len_seq (by rfl) (T.free 57) PySem.boot_len (pa_cons (pe_lc (own := [("row", 2)]) (g := (gName 2)) (tt := (tB (tCall (sp_is_so K) [] E0 (tCons (tVar 0) (tCons (tVar 2) tNil))))) rfl sc_seeds_chance.nd (pi_list (pv 1)) (blkOk_by (own := [("row", 2)]) (N := N_seeds_chance) (sc := (defScope s_seeds_chance)) (by decide +kernel)) (fun _ _ _ _ _ => (pg_name (i := 2) sc_seeds_chance.nd rfl (by first | exact Or.inl rfl | exact Or.inr rfl))) (fun _ _ _ _ _ => (pts_one (pt_val (pe_callF F_is_so (hr.mono (by decide)) (by rfl) (pa_cons (pv 0) (pa_cons (pv 2) pa_nil)))))) (fun _ _ _ _ _ => (pv 2))) pa_nil)) (pa_cons (pe_callB call_len_seq (by rfl) (T.free 57) PySem.boot_len (pa_cons (pv 1) pa_nil)) pa_nil)))))
theorem ok_seeds_chance {P : Program} {w : World} {K : PySem.W.Frag} {mg : Str → Option Value} {base : Heap} (T : Txt K mg) (F_is_so : OkF P w K mg base 1 "is_so" ["term", "row"] (sp_is_so K))
    (hp : ∀ vs H Q E, sp_seeds_chance K vs H Q E → (t_seeds_chance K) { nx := fun _ H' => Q .non H', rt := Q } (L2.start N_seeds_chance vs) H) : OkF P w K mg base 2 "seeds_chance" ["term", "rows"] (sp_seeds_chance K) :=
  okF 24 24 T rfl rfl sc_seeds_chance (fun vs H Q E h => h.1) (fun _ _ _ _ _ _ us hl => match us, hl with | [_, _], _ => rfl) (t_seeds_chance K) hp (fun f cdv A outer s H E hr => dv_seeds_chance T F_is_so f cdv A outer s H E hr)

abbrev N_seeds_mean : List Str := ["terms", "rows", "row"]
theorem sc_seeds_mean : FnScope N_seeds_mean ["terms", "rows"] (defScope s_seeds_mean) := ⟨rfl, rfl, rfl, by decide +kernel, rfl, by decide +kernel, by decide +kernel⟩
theorem dv_seeds_mean {P : Program} {w : World} {K : PySem.W.Frag} {mg : Str → Option Value} {base : Heap} (T : Txt K mg) (F_worth_of : OkF P w K mg base 2 "worth_of" ["terms", "row"] (sp_worth_of K))
    (f : Addr) (cdv : Value) (A : Around) (outer : List Env) (s : Shared) (H : Hp) (E : XK) (hr : Room 2 (A.deeper (envOfC "seeds_mean" (defScope s_seeds_mean) s.heap.objs.size f cdv))) :
    PSs (cxOf CX0 P w K mg base N_seeds_mean "seeds_mean" (defScope s_seeds_mean) f cdv A outer s H E).nox (defBody s_seeds_mean) (t_seeds_mean K) :=
  (pss_one (ps_ret (pe_tup (pa_cons (pe_callB (cr_sum rfl) (by rfl) (T.free 59) (by decide +kernel) (pa_cons (pe_lc (own := [("row", 2)]) (g := (gName 2)) (tt := tYes) rfl sc_seeds_mean.nd (pi_list (pv 1)) (blkOk_by (own := [("row", 2)]) (N := N_seeds_mean) (sc := (defScope s_seeds_mean)) (by decide +kernel)) (fun _ _ _ _ _ => (pg_name (i := 2) sc_seeds_mean.nd rfl (by first | exact Or.inl rfl | exact Or.inr rfl))) (fun _ _ _ _ _ => pts_nil) (fun _ _ _ _ _ => (pe_callF F_worth_of (hr.mono (by decide)) (by rfl) (pa_cons (pv 0) (pa_cons (pv 2) pa_nil))))) pa_nil)) (pa_cons (pe_callB call_len_seq (by rfl) (T.free 57) PySem.boot_len (pa_cons (pv 1) pa_nil)) pa_nil)))))
theorem ok_seeds_mean {P : Program} {w : World} {K : PySem.W.Frag} {mg : Str → Option Value} {base : Heap} (T : Txt K mg) (F_worth_of : OkF P w K mg base 2 "worth_of" ["terms", "row"] (sp_worth_of K))
    (hp : ∀ vs H Q E, sp_seeds_mean K vs H Q E → (t_seeds_mean K) { nx := fun _ H' => Q .non H', rt := Q } (L2.start N_seeds_mean vs) H) : OkF P w K mg base 3 "seeds_mean" ["terms", "rows"] (sp_seeds_mean K) :=
  okF 25 25 T rfl rfl sc_seeds_mean (fun vs H Q E h => h.1) (fun _ _ _ _ _ _ us hl => match us, hl with | [_, _], _ => rfl) (t_seeds_mean K) hp (fun f cdv A outer s H E hr => dv_seeds_mean T F_worth_of f cdv A outer s H E hr)

abbrev N_Seeds__init__ : List Str := ["self"]
theorem sc_Seeds__init__ : FnScope N_Seeds__init__ ["self"] (defScope s_Seeds__init__) := ⟨rfl, rfl, rfl, by decide +kernel, rfl, by decide +kernel, by decide +kernel⟩
theorem dv_Seeds__init__ {P : Program} {w : World} {K : PySem.W.Frag} {mg : Str → Option Value} {base : Heap} (T : Txt K mg) 
    (f : Addr) (cdv : Value) (A : Around) (outer : List Env) (s : Shared) (H : Hp) (E : XK) (hr : Room 0 (A.deeper (envOfC "Seeds.__init__" (defScope s_Seeds__init__) s.heap.objs.size f cdv))) :
    PSs (cxOf CX0 P w K mg base N_Seeds__init__ "Seeds.__init__" (defScope s_Seeds__init__) f cdv A outer s H E).nox (defBody s_Seeds__init__) (t_Seeds__init__ K) :=
  (pss_cons (ps_fld (pv 0) (pe_lst pa_nil) rfl)
  (pss_cons (ps_fld (pv 0) (pe_lst pa_nil) rfl)
  (pss_cons (ps_fld (pv 0) (pe_lst pa_nil) rfl)
  (pss_one (ps_fld (pv 0) pe_int rfl)))))
theorem ok_Seeds__init__ {P : Program} {w : World} {K : PySem.W.Frag} {mg : Str → Option Value} {base : Heap} (T : Txt K mg) 
    (hp : ∀ vs H Q E, sp_Seeds__init__ K vs H Q E → (t_Seeds__init__ K) { nx := fun _ H' => Q .non H', rt := Q } (L2.start N_Seeds__init__ vs) H) : OkA P w K mg base 1 (He.ma K (ad K "Seeds") "__init__") ["self"] (sp_Seeds__init__ K) :=
  okM 26 T rfl sc_Seeds__init__ (fun vs H Q E h => h.1) (fun _ _ _ _ _ _ us hl => match us, hl with | [_], _ => rfl) (t_Seeds__init__ K) hp (fun f cdv A outer s H E hr => dv_Seeds__init__ T f cdv A outer s H E hr)
end Fc
namespace Fc
open PySem PySem.Spec PyProof.Rows L2 Evl
/-! D4: scopes and derivations, printed by dgen.py. -/
abbrev N_is_in : List Str := ["number", "many"]
theorem sc_is_in : FnScope N_is_in ["number", "many"] (defScope s_is_in) := ⟨rfl, rfl, rfl, by decide +kernel, rfl, by decide +kernel, by decide +kernel⟩
theorem dv_is_in {P : Program} {w : World} {K : PySem.W.Frag} {mg : Str → Option Value} {base : Heap} (T : Txt K mg) 
    (f : Addr) (cdv : Value) (A : Around) (outer : List Env) (s : Shared) (H : Hp) (E : XK) (hr : Room 0 (A.deeper (envOfC "is_in" (defScope s_is_in) s.heap.objs.size f cdv))) :
    PSs (cxOf CX0 P w K mg base N_is_in "is_in" (defScope s_is_in) f cdv A outer s H E).nox (defBody s_is_in) (t_is_in K) :=
  (pss_one (ps_ret (pe_chain op_le op_lt pe_int (pv 0) (pv 1))))
theorem ok_is_in {P : Program} {w : World} {K : PySem.W.Frag} {mg : Str → Option Value} {base : Heap} (T : Txt K mg) 
    (hp : ∀ vs H Q E, sp_is_in K vs H Q E → (t_is_in K) { nx := fun _ H' => Q .non H', rt := Q } (L2.start N_is_in vs) H) : OkF P w K mg base 1 "is_in" ["number", "many"] (sp_is_in K) :=
  okF 27 27 T rfl rfl sc_is_in (fun vs H Q E h => h.1) (fun _ _ _ _ _ _ us hl => match us, hl with | [_, _], _ => rfl) (t_is_in K) hp (fun f cdv A outer s H E hr => dv_is_in T  f cdv A outer s H E hr)

abbrev N_is_rising : List Str := ["numbers", "one", "other"]
theorem sc_is_rising : FnScope N_is_rising ["numbers"] (defScope s_is_rising) := ⟨rfl, rfl, rfl, by decide +kernel, rfl, by decide +kernel, by decide +kernel⟩
theorem dv_is_rising {P : Program} {w : World} {K : PySem.W.Frag} {mg : Str → Option Value} {base : Heap} (T : Txt K mg) 
    (f : Addr) (cdv : Value) (A : Around) (outer : List Env) (s : Shared) (H : Hp) (E : XK) (hr : Room 0 (A.deeper (envOfC "is_rising" (defScope s_is_rising) s.heap.objs.size f cdv))) :
    PSs (cxOf CX0 P w K mg base N_is_rising "is_rising" (defScope s_is_rising) f cdv A outer s H E).nox (defBody s_is_rising) (t_is_rising K) :=
  (pss_one (ps_ret (pe_callB (cr_all rfl) (by rfl) (T.free 58) (by decide +kernel) (pa_cons (pe_lc (own := [("one", 1), ("other", 2)]) (g := (gTup K 2 (gCons (gName 1) (gCons (gName 2) gNil)))) (tt := tYes) rfl sc_is_rising.nd (pi_zip (by rfl) (T.free 68) (pa_cons (pv 0) (pa_cons (pe_slice sl_list (pv 0) (po_some pe_int) po_none) pa_nil))) (blkOk_by (own := [("one", 1), ("other", 2)]) (N := N_is_rising) (sc := (defScope s_is_rising)) (by decide +kernel)) (fun _ _ _ _ _ => (pg_tup (by rfl) (pgs_cons (pg_name (i := 1) sc_is_rising.nd rfl (by first | exact Or.inl rfl | exact Or.inr rfl)) (pgs_cons (pg_name (i := 2) sc_is_rising.nd rfl (by first | exact Or.inl rfl | exact Or.inr rfl)) pgs_nil)))) (fun _ _ _ _ _ => pts_nil) (fun _ _ _ _ _ => (pe_cmpR op_lt (pv 1) (pv 2) (nomark _)))) pa_nil))))
theorem ok_is_rising {P : Program} {w : World} {K : PySem.W.Frag} {mg : Str → Option Value} {base : Heap} (T : Txt K mg) 
    (hp : ∀ vs H Q E, sp_is_rising K vs H Q E → (t_is_rising K) { nx := fun _ H' => Q .non H', rt := Q } (L2.start N_is_rising vs) H) : OkF P w K mg base 1 "is_rising" ["numbers"] (sp_is_rising K) :=
  okF 28 28 T rfl rfl sc_is_rising (fun vs H Q E h => h.1) (fun _ _ _ _ _ _ us hl => match us, hl with | [_], _ => rfl) (t_is_rising K) hp (fun f cdv A outer s H E hr => dv_is_rising T  f cdv A outer s H E hr)

abbrev N_are_coins : List Str := ["seeds", "numbers", "number"]
theorem sc_are_coins : FnScope N_are_coins ["seeds", "numbers"] (defScope s_are_coins) := ⟨rfl, rfl, rfl, by decide +kernel, rfl, by decide +kernel, by decide +kernel⟩
theorem dv_are_coins {P : Program} {w : World} {K : PySem.W.Frag} {mg : Str → Option Value} {base : Heap} (T : Txt K mg) (F_is_in : OkF P w K mg base 1 "is_in" ["number", "many"] (sp_is_in K)) (F_is_rising : OkF P w K mg base 1 "is_rising" ["numbers"] (sp_is_rising K))
    (f : Addr) (cdv : Value) (A : Around) (outer : List Env) (s : Shared) (H : Hp) (E : XK) (hr : Room 1 (A.deeper (envOfC "are_coins" (defScope s_are_coins) s.heap.objs.size f cdv))) :
    PSs (cxOf CX0 P w K mg base N_are_coins "are_coins" (defScope s_are_coins) f cdv A outer s H E).nox (defBody s_are_coins) (t_are_coins K) :=
  (pss_one (ps_ret (pe_and (pe_callB (cr_all rfl) (by rfl) (T.free 58) (by decide +kernel) (pa_cons (pe_lc (own := [("number", 2)]) (g := (gName 2)) (tt := tYes) rfl sc_are_coins.nd (pi_list (pv 1)) (blkOk_by (own := [("number", 2)]) (N := N_are_coins) (sc := (defScope s_are_coins)) (by decide +kernel)) (fun _ _ _ _ _ => (pg_name (i := 2) sc_are_coins.nd rfl (by first | exact Or.inl rfl | exact Or.inr rfl))) (fun _ _ _ _ _ => pts_nil) (fun _ _ _ _ _ => (pe_callF F_is_in (hr.mono (by decide)) (by rfl) (pa_cons (pv 2) (pa_cons (pe_callB call_len_seq (by rfl) (T.free 57) PySem.boot_len (pa_cons (pe_fld (pv 0) rfl) pa_nil)) pa_nil))))) pa_nil)) (pe_one (pe_callF F_is_rising (hr.mono (by decide)) (by rfl) (pa_cons (pv 1) pa_nil))))))
theorem ok_are_coins {P : Program} {w : World} {K : PySem.W.Frag} {mg : Str → Option Value} {base : Heap} (T : Txt K mg) (F_is_in : OkF P w K mg base 1 "is_in" ["number", "many"] (sp_is_in K)) (F_is_rising : OkF P w K mg base 1 "is_rising" ["numbers"] (sp_is_rising K))
    (hp : ∀ vs H Q E, sp_are_coins K vs H Q E → (t_are_coins K) { nx := fun _ H' => Q .non H', rt := Q } (L2.start N_are_coins vs) H) : OkF P w K mg base 2 "are_coins" ["seeds", "numbers"] (sp_are_coins K) :=
  okF 29 29 T rfl rfl sc_are_coins (fun vs H Q E h => h.1) (fun _ _ _ _ _ _ us hl => match us, hl with | [_, _], _ => rfl) (t_are_coins K) hp (fun f cdv A outer s H E hr => dv_are_coins T F_is_in F_is_rising f cdv A outer s H E hr)

abbrev N_is_weight : List Str := ["number"]
theorem sc_is_weight : FnScope N_is_weight ["number"] (defScope s_is_weight) := ⟨rfl, rfl, rfl, by decide +kernel, rfl, by decide +kernel, by decide +kernel⟩
theorem dv_is_weight {P : Program} {w : World} {K : PySem.W.Frag} {mg : Str → Option Value} {base : Heap} (T : Txt K mg) 
    (f : Addr) (cdv : Value) (A : Around) (outer : List Env) (s : Shared) (H : Hp) (E : XK) (hr : Room 0 (A.deeper (envOfC "is_weight" (defScope s_is_weight) s.heap.objs.size f cdv))) :
    PSs (cxOf CX0 P w K mg base N_is_weight "is_weight" (defScope s_is_weight) f cdv A outer s H E).nox (defBody s_is_weight) (t_is_weight K) :=
  (pss_one (ps_ret (pe_chain op_le op_le (pe_op op_sub pe_int (pe_gint (T.int 80) (by rfl))) (pv 0) (pe_gint (T.int 80) (by rfl)))))
theorem ok_is_weight {P : Program} {w : World} {K : PySem.W.Frag} {mg : Str → Option Value} {base : Heap} (T : Txt K mg) 
    (hp : ∀ vs H Q E, sp_is_weight K vs H Q E → (t_is_weight K) { nx := fun _ H' => Q .non H', rt := Q } (L2.start N_is_weight vs) H) : OkF P w K mg base 1 "is_weight" ["number"] (sp_is_weight K) :=
  okF 30 30 T rfl rfl sc_is_weight (fun vs H Q E h => h.1) (fun _ _ _ _ _ _ us hl => match us, hl with | [_], _ => rfl) (t_is_weight K) hp (fun f cdv A outer s H E hr => dv_is_weight T  f cdv A outer s H E hr)

abbrev N_can_begin : List Str := ["digits", "many", "faint"]
theorem sc_can_begin : FnScope N_can_begin ["digits", "many", "faint"] (defScope s_can_begin) := ⟨rfl, rfl, rfl, by decide +kernel, rfl, by decide +kernel, by decide +kernel⟩
theorem dv_can_begin {P : Program} {w : World} {K : PySem.W.Frag} {mg : Str → Option Value} {base : Heap} (T : Txt K mg) 
    (f : Addr) (cdv : Value) (A : Around) (outer : List Env) (s : Shared) (H : Hp) (E : XK) (hr : Room 0 (A.deeper (envOfC "can_begin" (defScope s_can_begin) s.heap.objs.size f cdv))) :
    PSs (cxOf CX0 P w K mg base N_can_begin "can_begin" (defScope s_can_begin) f cdv A outer s H E).nox (defBody s_can_begin) (t_can_begin K) :=
  (pss_cons (ps_if (PW.pt (pw_or (pt_not (pt_chain op_le op_le pe_int (pv 0) (pe_gint (T.int 69) (by rfl)))) (pw_or (pt_cmpR op_lt (pv 1) pe_int (nomark _)) (pw_or (pt_cmpR op_gt (pe_op op_mul (pv 0) (pv 1)) (pe_gint (T.int 75) (by rfl)) (nomark _)) (pw_or1 (pt_cmpR op_notIn_seq (pv 2) (pe_tup (pa_cons pe_int (pa_cons pe_int pa_nil))) (by rfl))))))) (pss_one (ps_ret pe_bl)) pss_nil)
  (pss_one (ps_ret (pe_or (pe_cmpR op_eq (pv 2) pe_int (nomark _)) (pe_one (pe_and (pe_cmpR op_eq (pv 1) (pe_gint (T.int 77) (by rfl)) (nomark _)) (pe_one (pe_cmpR op_le (pv 0) (pe_gint (T.int 76) (by rfl)) (nomark _)))))))))
theorem ok_can_begin {P : Program} {w : World} {K : PySem.W.Frag} {mg : Str → Option Value} {base : Heap} (T : Txt K mg) 
    (hp : ∀ vs H Q E, sp_can_begin K vs H Q E → (t_can_begin K) { nx := fun _ H' => Q .non H', rt := Q } (L2.start N_can_begin vs) H) : OkF P w K mg base 1 "can_begin" ["digits", "many", "faint"] (sp_can_begin K) :=
  okF 31 31 T rfl rfl sc_can_begin (fun vs H Q E h => h.1) (fun _ _ _ _ _ _ us hl => match us, hl with | [_, _, _], _ => rfl) (t_can_begin K) hp (fun f cdv A outer s H E hr => dv_can_begin T  f cdv A outer s H E hr)

abbrev N_begin : List Str := ["seeds", "numbers", "rows", "digits", "many", "faint"]
theorem sc_begin : FnScope N_begin ["seeds", "numbers", "rows"] (defScope s_begin) := ⟨rfl, rfl, rfl, by decide +kernel, rfl, by decide +kernel, by decide +kernel⟩
theorem dv_begin {P : Program} {w : World} {K : PySem.W.Frag} {mg : Str → Option Value} {base : Heap} (T : Txt K mg) (F_all_products : OkF P w K mg base 3 "all_products" ["digits"] (sp_all_products K)) (F_all_rows : OkF P w K mg base 4 "all_rows" ["products", "digits", "many", "is_faint"] (sp_all_rows K)) (F_can_begin : OkF P w K mg base 1 "can_begin" ["digits", "many", "faint"] (sp_can_begin K))
    (f : Addr) (cdv : Value) (A : Around) (outer : List Env) (s : Shared) (H : Hp) (E : XK) (hr : Room 4 (A.deeper (envOfC "begin" (defScope s_begin) s.heap.objs.size f cdv))) :
    PSs (cxOf CX0 P w K mg base N_begin "begin" (defScope s_begin) f cdv A outer s H E).nox (defBody s_begin) (t_begin K) :=
  (pss_cons (ps_asg (pv 1) (pg_unl (by rfl) (pgs_cons (pg_name (i := 3) sc_begin.nd rfl (by first | exact Or.inl rfl | exact Or.inr rfl)) (pgs_cons (pg_name (i := 4) sc_begin.nd rfl (by first | exact Or.inl rfl | exact Or.inr rfl)) (pgs_cons (pg_name (i := 5) sc_begin.nd rfl (by first | exact Or.inl rfl | exact Or.inr rfl)) pgs_nil)))))
  (pss_cons (ps_if (pt_not (pt_val (pe_callF F_can_begin (hr.mono (by decide)) (by rfl) (pa_cons (pv 3) (pa_cons (pv 4) (pa_cons (pv 5) pa_nil)))))) (pss_one (ps_ret (pe_lst (pa_cons (pe_gint (T.int 72) (by rfl)) pa_nil)))) pss_nil)
  (pss_cons (ps_fld (pv 0) (pe_callF F_all_products (hr.mono (by decide)) (by rfl) (pa_cons (pv 3) pa_nil)) rfl)
  (pss_cons (ps_fld (pv 0) (pe_callF F_all_rows (hr.mono (by decide)) (by rfl) (pa_cons (pe_fld (pv 0) rfl) (pa_cons (pv 3) (pa_cons (pv 4) (pa_cons (pe_cmpR op_eq (pv 5) pe_int (nomark _)) pa_nil))))) rfl)
  (pss_cons (ps_fld (pv 0) (pe_lst pa_nil) rfl)
  (pss_cons (ps_fld (pv 0) pe_int rfl)
  (pss_one (ps_ret (pe_lst (pa_cons (pe_callB call_len_seq (by rfl) (T.free 57) PySem.boot_len (pa_cons (pe_fld (pv 0) rfl) pa_nil)) pa_nil))))))))))
theorem ok_begin {P : Program} {w : World} {K : PySem.W.Frag} {mg : Str → Option Value} {base : Heap} (T : Txt K mg) (F_all_products : OkF P w K mg base 3 "all_products" ["digits"] (sp_all_products K)) (F_all_rows : OkF P w K mg base 4 "all_rows" ["products", "digits", "many", "is_faint"] (sp_all_rows K)) (F_can_begin : OkF P w K mg base 1 "can_begin" ["digits", "many", "faint"] (sp_can_begin K))
    (hp : ∀ vs H Q E, sp_begin K vs H Q E → (t_begin K) { nx := fun _ H' => Q .non H', rt := Q } (L2.start N_begin vs) H) : OkF P w K mg base 5 "begin" ["seeds", "numbers", "rows"] (sp_begin K) :=
  okF 32 32 T rfl rfl sc_begin (fun vs H Q E h => h.1) (fun _ _ _ _ _ _ us hl => match us, hl with | [_, _, _], _ => rfl) (t_begin K) hp (fun f cdv A outer s H E hr => dv_begin T F_all_products F_all_rows F_can_begin f cdv A outer s H E hr)

abbrev N_mul : List Str := ["seeds", "numbers", "rows", "many", "one", "other"]
theorem sc_mul : FnScope N_mul ["seeds", "numbers", "rows"] (defScope s_mul) := ⟨rfl, rfl, rfl, by decide +kernel, rfl, by decide +kernel, by decide +kernel⟩
theorem dv_mul {P : Program} {w : World} {K : PySem.W.Frag} {mg : Str → Option Value} {base : Heap} (T : Txt K mg) (F_is_in : OkF P w K mg base 1 "is_in" ["number", "many"] (sp_is_in K))
    (f : Addr) (cdv : Value) (A : Around) (outer : List Env) (s : Shared) (H : Hp) (E : XK) (hr : Room 1 (A.deeper (envOfC "mul" (defScope s_mul) s.heap.objs.size f cdv))) :
    PSs (cxOf CX0 P w K mg base N_mul "mul" (defScope s_mul) f cdv A outer s H E).nox (defBody s_mul) (t_mul K) :=
  (pss_cons (ps_asg (pv 1) (pg_unl (by rfl) (pgs_cons (pg_name (i := 4) sc_mul.nd rfl (by first | exact Or.inl rfl | exact Or.inr rfl)) (pgs_cons (pg_name (i := 5) sc_mul.nd rfl (by first | exact Or.inl rfl | exact Or.inr rfl)) pgs_nil))))
  (pss_cons (ps_set (i := 3) sc_mul.nd rfl (by first | exact Or.inl rfl | exact Or.inr rfl) (pe_callB call_len_seq (by rfl) (T.free 57) PySem.boot_len (pa_cons (pe_fld (pv 0) rfl) pa_nil)))
  (pss_cons (ps_if (PW.pt (pw_or (pt_not (pt_val (pe_callF F_is_in (hr.mono (by decide)) (by rfl) (pa_cons (pv 4) (pa_cons (pv 3) pa_nil))))) (pw_or1 (pt_not (pt_val (pe_callF F_is_in (hr.mono (by decide)) (by rfl) (pa_cons (pv 5) (pa_cons (pv 3) pa_nil)))))))) (pss_one (ps_ret (pe_lst (pa_cons (pe_gint (T.int 72) (by rfl)) pa_nil)))) pss_nil)
  (pss_one (ps_ret (pe_lst (pa_cons (pe_ix ix_list (pe_ix ix_list (pe_fld (pv 0) rfl) (pv 4) (fun _ _ => rfl)) (pv 5) (fun _ _ => rfl)) pa_nil)))))))
theorem ok_mul {P : Program} {w : World} {K : PySem.W.Frag} {mg : Str → Option Value} {base : Heap} (T : Txt K mg) (F_is_in : OkF P w K mg base 1 "is_in" ["number", "many"] (sp_is_in K))
    (hp : ∀ vs H Q E, sp_mul K vs H Q E → (t_mul K) { nx := fun _ H' => Q .non H', rt := Q } (L2.start N_mul vs) H) : OkF P w K mg base 2 "mul" ["seeds", "numbers", "rows"] (sp_mul K) :=
  okF 33 33 T rfl rfl sc_mul (fun vs H Q E h => h.1) (fun _ _ _ _ _ _ us hl => match us, hl with | [_, _, _], _ => rfl) (t_mul K) hp (fun f cdv A outer s H E hr => dv_mul T F_is_in f cdv A outer s H E hr)

abbrev N_pow_of : List Str := ["seeds", "numbers", "rows", "number", "often"]
theorem sc_pow_of : FnScope N_pow_of ["seeds", "numbers", "rows"] (defScope s_pow_of) := ⟨rfl, rfl, rfl, by decide +kernel, rfl, by decide +kernel, by decide +kernel⟩
theorem dv_pow_of {P : Program} {w : World} {K : PySem.W.Frag} {mg : Str → Option Value} {base : Heap} (T : Txt K mg) (F_is_in : OkF P w K mg base 1 "is_in" ["number", "many"] (sp_is_in K)) (F_power : OkF P w K mg base 1 "power" ["products", "number", "often"] (sp_power K))
    (f : Addr) (cdv : Value) (A : Around) (outer : List Env) (s : Shared) (H : Hp) (E : XK) (hr : Room 1 (A.deeper (envOfC "pow_of" (defScope s_pow_of) s.heap.objs.size f cdv))) :
    PSs (cxOf CX0 P w K mg base N_pow_of "pow_of" (defScope s_pow_of) f cdv A outer s H E).nox (defBody s_pow_of) (t_pow_of K) :=
  (pss_cons (ps_asg (pv 1) (pg_unl (by rfl) (pgs_cons (pg_name (i := 3) sc_pow_of.nd rfl (by first | exact Or.inl rfl | exact Or.inr rfl)) (pgs_cons (pg_name (i := 4) sc_pow_of.nd rfl (by first | exact Or.inl rfl | exact Or.inr rfl)) pgs_nil))))
  (pss_cons (ps_if (PW.pt (pw_or (pt_not (pt_val (pe_callF F_is_in (hr.mono (by decide)) (by rfl) (pa_cons (pv 3) (pa_cons (pe_callB call_len_seq (by rfl) (T.free 57) PySem.boot_len (pa_cons (pe_fld (pv 0) rfl) pa_nil)) pa_nil))))) (pw_or1 (pt_not (pt_chain op_le op_le pe_int (pv 4) (pe_gint (T.int 78) (by rfl))))))) (pss_one (ps_ret (pe_lst (pa_cons (pe_gint (T.int 72) (by rfl)) pa_nil)))) pss_nil)
  (pss_one (ps_ret (pe_lst (pa_cons (pe_callF F_power (hr.mono (by decide)) (by rfl) (pa_cons (pe_fld (pv 0) rfl) (pa_cons (pv 3) (pa_cons (pv 4) pa_nil)))) pa_nil))))))
theorem ok_pow_of {P : Program} {w : World} {K : PySem.W.Frag} {mg : Str → Option Value} {base : Heap} (T : Txt K mg) (F_is_in : OkF P w K mg base 1 "is_in" ["number", "many"] (sp_is_in K)) (F_power : OkF P w K mg base 1 "power" ["products", "number", "often"] (sp_power K))
    (hp : ∀ vs H Q E, sp_pow_of K vs H Q E → (t_pow_of K) { nx := fun _ H' => Q .non H', rt := Q } (L2.start N_pow_of vs) H) : OkF P w K mg base 2 "pow_of" ["seeds", "numbers", "rows"] (sp_pow_of K) :=
  okF 34 34 T rfl rfl sc_pow_of (fun vs H Q E h => h.1) (fun _ _ _ _ _ _ us hl => match us, hl with | [_, _, _], _ => rfl) (t_pow_of K) hp (fun f cdv A outer s H E hr => dv_pow_of T F_is_in F_power f cdv A outer s H E hr)

abbrev N_coin : List Str := ["seeds", "numbers", "rows", "seed", "place"]
theorem sc_coin : FnScope N_coin ["seeds", "numbers", "rows"] (defScope s_coin) := ⟨rfl, rfl, rfl, by decide +kernel, rfl, by decide +kernel, by decide +kernel⟩
theorem dv_coin {P : Program} {w : World} {K : PySem.W.Frag} {mg : Str → Option Value} {base : Heap} (T : Txt K mg) (F_is_in : OkF P w K mg base 1 "is_in" ["number", "many"] (sp_is_in K))
    (f : Addr) (cdv : Value) (A : Around) (outer : List Env) (s : Shared) (H : Hp) (E : XK) (hr : Room 1 (A.deeper (envOfC "coin" (defScope s_coin) s.heap.objs.size f cdv))) :
    PSs (cxOf CX0 P w K mg base N_coin "coin" (defScope s_coin) f cdv A outer s H E).nox (defBody s_coin) (t_coin K) :=
  (pss_cons (ps_asg (pv 1) (pg_unl (by rfl) (pgs_cons (pg_name (i := 3) sc_coin.nd rfl (by first | exact Or.inl rfl | exact Or.inr rfl)) (pgs_cons (pg_name (i := 4) sc_coin.nd rfl (by first | exact Or.inl rfl | exact Or.inr rfl)) pgs_nil))))
  (pss_cons (ps_if (PW.pt (pw_or (pt_not (pt_val (pe_callF F_is_in (hr.mono (by decide)) (by rfl) (pa_cons (pv 3) (pa_cons (pe_callB call_len_seq (by rfl) (T.free 57) PySem.boot_len (pa_cons (pe_fld (pv 0) rfl) pa_nil)) pa_nil))))) (pw_or1 (pt_not (pt_val (pe_callF F_is_in (hr.mono (by decide)) (by rfl) (pa_cons (pv 4) (pa_cons (pe_callB call_len_seq (by rfl) (T.free 57) PySem.boot_len (pa_cons (pe_fld (pv 0) rfl) pa_nil)) pa_nil)))))))) (pss_one (ps_ret (pe_lst (pa_cons (pe_gint (T.int 70) (by rfl)) pa_nil)))) pss_nil)
  (pss_one (ps_ret (pe_lst (pa_cons (pe_ix ix_list (pe_ix ix_list (pe_fld (pv 0) rfl) (pv 3) (fun _ _ => rfl)) (pv 4) (fun _ _ => rfl)) pa_nil))))))
theorem ok_coin {P : Program} {w : World} {K : PySem.W.Frag} {mg : Str → Option Value} {base : Heap} (T : Txt K mg) (F_is_in : OkF P w K mg base 1 "is_in" ["number", "many"] (sp_is_in K))
    (hp : ∀ vs H Q E, sp_coin K vs H Q E → (t_coin K) { nx := fun _ H' => Q .non H', rt := Q } (L2.start N_coin vs) H) : OkF P w K mg base 2 "coin" ["seeds", "numbers", "rows"] (sp_coin K) :=
  okF 35 35 T rfl rfl sc_coin (fun vs H Q E h => h.1) (fun _ _ _ _ _ _ us hl => match us, hl with | [_, _, _], _ => rfl) (t_coin K) hp (fun f cdv A outer s H E hr => dv_coin T F_is_in f cdv A outer s H E hr)
end Fc
namespace Fc
open PySem PySem.Spec PyProof.Rows L2 Evl
/-! D5: scopes and derivations, printed by dgen.py. -/
abbrev N_row_of : List Str := ["seeds", "numbers", "rows"]
theorem sc_row_of : FnScope N_row_of ["seeds", "numbers", "rows"] (defScope s_row_of) := ⟨rfl, rfl, rfl, by decide +kernel, rfl, by decide +kernel, by decide +kernel⟩
theorem dv_row_of {P : Program} {w : World} {K : PySem.W.Frag} {mg : Str → Option Value} {base : Heap} (T : Txt K mg) (F_is_in : OkF P w K mg base 1 "is_in" ["number", "many"] (sp_is_in K))
    (f : Addr) (cdv : Value) (A : Around) (outer : List Env) (s : Shared) (H : Hp) (E : XK) (hr : Room 1 (A.deeper (envOfC "row_of" (defScope s_row_of) s.heap.objs.size f cdv))) :
    PSs (cxOf CX0 P w K mg base N_row_of "row_of" (defScope s_row_of) f cdv A outer s H E).nox (defBody s_row_of) (t_row_of K) :=
  (pss_cons (ps_if (pt_not (pt_val (pe_callF F_is_in (hr.mono (by decide)) (by rfl) (pa_cons (pe_ix ix_list (pv 1) pe_int (fun _ _ => rfl)) (pa_cons (pe_callB call_len_seq (by rfl) (T.free 57) PySem.boot_len (pa_cons (pe_fld (pv 0) rfl) pa_nil)) pa_nil))))) (pss_one (ps_ret (pe_lst (pa_cons (pe_gint (T.int 70) (by rfl)) pa_nil)))) pss_nil)
  (pss_one (ps_ret (pe_op op_cat (pe_lst (pa_cons (pe_callB call_len_seq (by rfl) (T.free 57) PySem.boot_len (pa_cons (pe_fld (pv 0) rfl) pa_nil)) pa_nil)) (pe_ix ix_list (pe_fld (pv 0) rfl) (pe_ix ix_list (pv 1) pe_int (fun _ _ => rfl)) (fun _ _ => rfl))))))
theorem ok_row_of {P : Program} {w : World} {K : PySem.W.Frag} {mg : Str → Option Value} {base : Heap} (T : Txt K mg) (F_is_in : OkF P w K mg base 1 "is_in" ["number", "many"] (sp_is_in K))
    (hp : ∀ vs H Q E, sp_row_of K vs H Q E → (t_row_of K) { nx := fun _ H' => Q .non H', rt := Q } (L2.start N_row_of vs) H) : OkF P w K mg base 2 "row_of" ["seeds", "numbers", "rows"] (sp_row_of K) :=
  okF 36 36 T rfl rfl sc_row_of (fun vs H Q E h => h.1) (fun _ _ _ _ _ _ us hl => match us, hl with | [_, _, _], _ => rfl) (t_row_of K) hp (fun f cdv A outer s H E hr => dv_row_of T F_is_in f cdv A outer s H E hr)

abbrev N_count : List Str := ["seeds", "numbers", "rows", "coins", "lie", "number"]
theorem sc_count : FnScope N_count ["seeds", "numbers", "rows"] (defScope s_count) := ⟨rfl, rfl, rfl, by decide +kernel, rfl, by decide +kernel, by decide +kernel⟩
theorem dv_count {P : Program} {w : World} {K : PySem.W.Frag} {mg : Str → Option Value} {base : Heap} (T : Txt K mg) (F_are_coins : OkF P w K mg base 2 "are_coins" ["seeds", "numbers"] (sp_are_coins K)) (F_how_many_lie : OkF P w K mg base 1 "how_many_lie" ["rows", "coins", "wanted"] (sp_how_many_lie K))
    (f : Addr) (cdv : Value) (A : Around) (outer : List Env) (s : Shared) (H : Hp) (E : XK) (hr : Room 2 (A.deeper (envOfC "count" (defScope s_count) s.heap.objs.size f cdv))) :
    PSs (cxOf CX0 P w K mg base N_count "count" (defScope s_count) f cdv A outer s H E).nox (defBody s_count) (t_count K) :=
  (pss_cons (ps_asg (pv 2) (pg_unl (by rfl) (pgs_cons (pg_name (i := 3) sc_count.nd rfl (by first | exact Or.inl rfl | exact Or.inr rfl)) (pgs_cons (pg_name (i := 4) sc_count.nd rfl (by first | exact Or.inl rfl | exact Or.inr rfl)) pgs_nil))))
  (pss_cons (ps_if (PW.pt (pw_or (pt_not (pt_val (pe_callF F_are_coins (hr.mono (by decide)) (by rfl) (pa_cons (pv 0) (pa_cons (pv 3) pa_nil))))) (pw_or (pt_cmpR op_ne (pe_callB call_len_seq (by rfl) (T.free 57) PySem.boot_len (pa_cons (pv 4) pa_nil)) (pe_callB call_len_seq (by rfl) (T.free 57) PySem.boot_len (pa_cons (pv 3) pa_nil)) (nomark _)) (pw_or1 (pt_not (pt_val (pe_callB (cr_all rfl) (by rfl) (T.free 58) (by decide +kernel) (pa_cons (pe_lc (own := [("number", 5)]) (g := (gName 5)) (tt := tYes) rfl sc_count.nd (pi_list (pv 4)) (blkOk_by (own := [("number", 5)]) (N := N_count) (sc := (defScope s_count)) (by decide +kernel)) (fun _ _ _ _ _ => (pg_name (i := 5) sc_count.nd rfl (by first | exact Or.inl rfl | exact Or.inr rfl))) (fun _ _ _ _ _ => pts_nil) (fun _ _ _ _ _ => (pe_cmpR op_in_seq (pv 5) (pe_tup (pa_cons pe_int (pa_cons pe_int pa_nil))) (by rfl)))) pa_nil)))))))) (pss_one (ps_ret (pe_lst (pa_cons (pe_gint (T.int 72) (by rfl)) pa_nil)))) pss_nil)
  (pss_one (ps_ret (pe_lst (pa_cons (pe_callF F_how_many_lie (hr.mono (by decide)) (by rfl) (pa_cons (pe_fld (pv 0) rfl) (pa_cons (pv 3) (pa_cons (pv 4) pa_nil)))) (pa_cons (pe_callB call_len_seq (by rfl) (T.free 57) PySem.boot_len (pa_cons (pe_fld (pv 0) rfl) pa_nil)) pa_nil)))))))
theorem ok_count {P : Program} {w : World} {K : PySem.W.Frag} {mg : Str → Option Value} {base : Heap} (T : Txt K mg) (F_are_coins : OkF P w K mg base 2 "are_coins" ["seeds", "numbers"] (sp_are_coins K)) (F_how_many_lie : OkF P w K mg base 1 "how_many_lie" ["rows", "coins", "wanted"] (sp_how_many_lie K))
    (hp : ∀ vs H Q E, sp_count K vs H Q E → (t_count K) { nx := fun _ H' => Q .non H', rt := Q } (L2.start N_count vs) H) : OkF P w K mg base 3 "count" ["seeds", "numbers", "rows"] (sp_count K) :=
  okF 37 37 T rfl rfl sc_count (fun vs H Q E h => h.1) (fun _ _ _ _ _ _ us hl => match us, hl with | [_, _, _], _ => rfl) (t_count K) hp (fun f cdv A outer s H E hr => dv_count T F_are_coins F_how_many_lie f cdv A outer s H E hr)

abbrev N_odds : List Str := ["seeds", "numbers", "rows"]
theorem sc_odds : FnScope N_odds ["seeds", "numbers", "rows"] (defScope s_odds) := ⟨rfl, rfl, rfl, by decide +kernel, rfl, by decide +kernel, by decide +kernel⟩
theorem dv_odds {P : Program} {w : World} {K : PySem.W.Frag} {mg : Str → Option Value} {base : Heap} (T : Txt K mg) (F_are_coins : OkF P w K mg base 2 "are_coins" ["seeds", "numbers"] (sp_are_coins K)) (F_how_many_odd : OkF P w K mg base 1 "how_many_odd" ["rows", "coins"] (sp_how_many_odd K))
    (f : Addr) (cdv : Value) (A : Around) (outer : List Env) (s : Shared) (H : Hp) (E : XK) (hr : Room 2 (A.deeper (envOfC "odds" (defScope s_odds) s.heap.objs.size f cdv))) :
    PSs (cxOf CX0 P w K mg base N_odds "odds" (defScope s_odds) f cdv A outer s H E).nox (defBody s_odds) (t_odds K) :=
  (pss_cons (ps_if (pt_not (pt_val (pe_callF F_are_coins (hr.mono (by decide)) (by rfl) (pa_cons (pv 0) (pa_cons (pe_ix ix_list (pv 2) pe_int (fun _ _ => rfl)) pa_nil))))) (pss_one (ps_ret (pe_lst (pa_cons (pe_gint (T.int 72) (by rfl)) pa_nil)))) pss_nil)
  (pss_one (ps_ret (pe_lst (pa_cons (pe_callF F_how_many_odd (hr.mono (by decide)) (by rfl) (pa_cons (pe_fld (pv 0) rfl) (pa_cons (pe_ix ix_list (pv 2) pe_int (fun _ _ => rfl)) pa_nil))) (pa_cons (pe_callB call_len_seq (by rfl) (T.free 57) PySem.boot_len (pa_cons (pe_fld (pv 0) rfl) pa_nil)) pa_nil))))))
theorem ok_odds {P : Program} {w : World} {K : PySem.W.Frag} {mg : Str → Option Value} {base : Heap} (T : Txt K mg) (F_are_coins : OkF P w K mg base 2 "are_coins" ["seeds", "numbers"] (sp_are_coins K)) (F_how_many_odd : OkF P w K mg base 1 "how_many_odd" ["rows", "coins"] (sp_how_many_odd K))
    (hp : ∀ vs H Q E, sp_odds K vs H Q E → (t_odds K) { nx := fun _ H' => Q .non H', rt := Q } (L2.start N_odds vs) H) : OkF P w K mg base 3 "odds" ["seeds", "numbers", "rows"] (sp_odds K) :=
  okF 38 38 T rfl rfl sc_odds (fun vs H Q E h => h.1) (fun _ _ _ _ _ _ us hl => match us, hl with | [_, _, _], _ => rfl) (t_odds K) hp (fun f cdv A outer s H E hr => dv_odds T F_are_coins F_how_many_odd f cdv A outer s H E hr)

abbrev N_is_lie : List Str := ["seeds", "lie", "number"]
theorem sc_is_lie : FnScope N_is_lie ["seeds", "lie"] (defScope s_is_lie) := ⟨rfl, rfl, rfl, by decide +kernel, rfl, by decide +kernel, by decide +kernel⟩
theorem dv_is_lie {P : Program} {w : World} {K : PySem.W.Frag} {mg : Str → Option Value} {base : Heap} (T : Txt K mg) (F_is_in : OkF P w K mg base 1 "is_in" ["number", "many"] (sp_is_in K))
    (f : Addr) (cdv : Value) (A : Around) (outer : List Env) (s : Shared) (H : Hp) (E : XK) (hr : Room 1 (A.deeper (envOfC "is_lie" (defScope s_is_lie) s.heap.objs.size f cdv))) :
    PSs (cxOf CX0 P w K mg base N_is_lie "is_lie" (defScope s_is_lie) f cdv A outer s H E).nox (defBody s_is_lie) (t_is_lie K) :=
  (pss_cons (ps_if (pt_not (pt_chain op_le op_le pe_int (pe_callB call_len_seq (by rfl) (T.free 57) PySem.boot_len (pa_cons (pv 1) pa_nil)) (pe_gint (T.int 81) (by rfl)))) (pss_one (ps_ret pe_bl)) pss_nil)
  (pss_one (ps_ret (pe_callB (cr_all rfl) (by rfl) (T.free 58) (by decide +kernel) (pa_cons (pe_lc (own := [("number", 2)]) (g := (gName 2)) (tt := tYes) rfl sc_is_lie.nd (pi_list (pv 1)) (blkOk_by (own := [("number", 2)]) (N := N_is_lie) (sc := (defScope s_is_lie)) (by decide +kernel)) (fun _ _ _ _ _ => (pg_name (i := 2) sc_is_lie.nd rfl (by first | exact Or.inl rfl | exact Or.inr rfl))) (fun _ _ _ _ _ => pts_nil) (fun _ _ _ _ _ => (pe_callF F_is_in (hr.mono (by decide)) (by rfl) (pa_cons (pv 2) (pa_cons (pe_op op_mul pe_int (pe_callB call_len_seq (by rfl) (T.free 57) PySem.boot_len (pa_cons (pe_fld (pv 0) rfl) pa_nil))) pa_nil))))) pa_nil)))))
theorem ok_is_lie {P : Program} {w : World} {K : PySem.W.Frag} {mg : Str → Option Value} {base : Heap} (T : Txt K mg) (F_is_in : OkF P w K mg base 1 "is_in" ["number", "many"] (sp_is_in K))
    (hp : ∀ vs H Q E, sp_is_lie K vs H Q E → (t_is_lie K) { nx := fun _ H' => Q .non H', rt := Q } (L2.start N_is_lie vs) H) : OkF P w K mg base 2 "is_lie" ["seeds", "lie"] (sp_is_lie K) :=
  okF 39 39 T rfl rfl sc_is_lie (fun vs H Q E h => h.1) (fun _ _ _ _ _ _ us hl => match us, hl with | [_, _], _ => rfl) (t_is_lie K) hp (fun f cdv A outer s H E hr => dv_is_lie T F_is_in f cdv A outer s H E hr)

abbrev N_put : List Str := ["seeds", "term"]
theorem sc_put : FnScope N_put ["seeds", "term"] (defScope s_put) := ⟨rfl, rfl, rfl, by decide +kernel, rfl, by decide +kernel, by decide +kernel⟩
theorem dv_put {P : Program} {w : World} {K : PySem.W.Frag} {mg : Str → Option Value} {base : Heap} (T : Txt K mg) 
    (f : Addr) (cdv : Value) (A : Around) (outer : List Env) (s : Shared) (H : Hp) (E : XK) (hr : Room 0 (A.deeper (envOfC "put" (defScope s_put) s.heap.objs.size f cdv))) :
    PSs (cxOf CX0 P w K mg base N_put "put" (defScope s_put) f cdv A outer s H E).nox (defBody s_put) (t_put K) :=
  (pss_cons (ps_if (pt_cmpR op_eq (pe_callB call_len_seq (by rfl) (T.free 57) PySem.boot_len (pa_cons (pe_fld (pv 0) rfl) pa_nil)) (pe_gint (T.int 79) (by rfl)) (nomark _)) (pss_one (ps_ret (pe_lst (pa_cons (pe_gint (T.int 73) (by rfl)) pa_nil)))) pss_nil)
  (pss_cons (ps_fld (pv 0) (pe_op op_cat (pe_fld (pv 0) rfl) (pe_lst (pa_cons (pv 1) pa_nil))) rfl)
  (pss_one (ps_ret (pe_lst (pa_cons (pe_op op_sub (pe_callB call_len_seq (by rfl) (T.free 57) PySem.boot_len (pa_cons (pe_fld (pv 0) rfl) pa_nil)) pe_int) pa_nil))))))
theorem ok_put {P : Program} {w : World} {K : PySem.W.Frag} {mg : Str → Option Value} {base : Heap} (T : Txt K mg) 
    (hp : ∀ vs H Q E, sp_put K vs H Q E → (t_put K) { nx := fun _ H' => Q .non H', rt := Q } (L2.start N_put vs) H) : OkF P w K mg base 1 "put" ["seeds", "term"] (sp_put K) :=
  okF 40 40 T rfl rfl sc_put (fun vs H Q E h => h.1) (fun _ _ _ _ _ _ us hl => match us, hl with | [_, _], _ => rfl) (t_put K) hp (fun f cdv A outer s H E hr => dv_put T  f cdv A outer s H E hr)

abbrev N_all_lie : List Str := ["seeds", "numbers", "rows"]
theorem sc_all_lie : FnScope N_all_lie ["seeds", "numbers", "rows"] (defScope s_all_lie) := ⟨rfl, rfl, rfl, by decide +kernel, rfl, by decide +kernel, by decide +kernel⟩
theorem dv_all_lie {P : Program} {w : World} {K : PySem.W.Frag} {mg : Str → Option Value} {base : Heap} (T : Txt K mg) (F_all_term : OkF P w K mg base 3 "all_term" ["weight", "lie"] (sp_all_term K)) (F_is_lie : OkF P w K mg base 2 "is_lie" ["seeds", "lie"] (sp_is_lie K)) (F_is_weight : OkF P w K mg base 1 "is_weight" ["number"] (sp_is_weight K)) (F_put : OkF P w K mg base 1 "put" ["seeds", "term"] (sp_put K))
    (f : Addr) (cdv : Value) (A : Around) (outer : List Env) (s : Shared) (H : Hp) (E : XK) (hr : Room 3 (A.deeper (envOfC "all_lie" (defScope s_all_lie) s.heap.objs.size f cdv))) :
    PSs (cxOf CX0 P w K mg base N_all_lie "all_lie" (defScope s_all_lie) f cdv A outer s H E).nox (defBody s_all_lie) (t_all_lie K) :=
  (pss_cons (ps_if (PW.pt (pw_or (pt_not (pt_val (pe_callF F_is_weight (hr.mono (by decide)) (by rfl) (pa_cons (pe_ix ix_list (pv 1) pe_int (fun _ _ => rfl)) pa_nil)))) (pw_or1 (pt_not (pt_val (pe_callF F_is_lie (hr.mono (by decide)) (by rfl) (pa_cons (pv 0) (pa_cons (pe_ix ix_list (pv 2) pe_int (fun _ _ => rfl)) pa_nil)))))))) (pss_one (ps_ret (pe_lst (pa_cons (pe_gint (T.int 72) (by rfl)) pa_nil)))) pss_nil)
  (pss_one (ps_ret (pe_callF F_put (hr.mono (by decide)) (by rfl) (pa_cons (pv 0) (pa_cons (pe_callF F_all_term (hr.mono (by decide)) (by rfl) (pa_cons (pe_ix ix_list (pv 1) pe_int (fun _ _ => rfl)) (pa_cons (pe_ix ix_list (pv 2) pe_int (fun _ _ => rfl)) pa_nil))) pa_nil))))))
theorem ok_all_lie {P : Program} {w : World} {K : PySem.W.Frag} {mg : Str → Option Value} {base : Heap} (T : Txt K mg) (F_all_term : OkF P w K mg base 3 "all_term" ["weight", "lie"] (sp_all_term K)) (F_is_lie : OkF P w K mg base 2 "is_lie" ["seeds", "lie"] (sp_is_lie K)) (F_is_weight : OkF P w K mg base 1 "is_weight" ["number"] (sp_is_weight K)) (F_put : OkF P w K mg base 1 "put" ["seeds", "term"] (sp_put K))
    (hp : ∀ vs H Q E, sp_all_lie K vs H Q E → (t_all_lie K) { nx := fun _ H' => Q .non H', rt := Q } (L2.start N_all_lie vs) H) : OkF P w K mg base 4 "all_lie" ["seeds", "numbers", "rows"] (sp_all_lie K) :=
  okF 41 41 T rfl rfl sc_all_lie (fun vs H Q E h => h.1) (fun _ _ _ _ _ _ us hl => match us, hl with | [_, _, _], _ => rfl) (t_all_lie K) hp (fun f cdv A outer s H E hr => dv_all_lie T F_all_term F_is_lie F_is_weight F_put f cdv A outer s H E hr)

abbrev N_many_of : List Str := ["seeds", "numbers", "rows", "coins", "weight", "least"]
theorem sc_many_of : FnScope N_many_of ["seeds", "numbers", "rows"] (defScope s_many_of) := ⟨rfl, rfl, rfl, by decide +kernel, rfl, by decide +kernel, by decide +kernel⟩
theorem dv_many_of {P : Program} {w : World} {K : PySem.W.Frag} {mg : Str → Option Value} {base : Heap} (T : Txt K mg) (F_are_coins : OkF P w K mg base 2 "are_coins" ["seeds", "numbers"] (sp_are_coins K)) (F_is_weight : OkF P w K mg base 1 "is_weight" ["number"] (sp_is_weight K)) (F_many_term : OkF P w K mg base 3 "many_term" ["weight", "least", "coins"] (sp_many_term K)) (F_put : OkF P w K mg base 1 "put" ["seeds", "term"] (sp_put K))
    (f : Addr) (cdv : Value) (A : Around) (outer : List Env) (s : Shared) (H : Hp) (E : XK) (hr : Room 3 (A.deeper (envOfC "many_of" (defScope s_many_of) s.heap.objs.size f cdv))) :
    PSs (cxOf CX0 P w K mg base N_many_of "many_of" (defScope s_many_of) f cdv A outer s H E).nox (defBody s_many_of) (t_many_of K) :=
  (pss_cons (ps_asg (pv 1) (pg_unl (by rfl) (pgs_cons (pg_name (i := 4) sc_many_of.nd rfl (by first | exact Or.inl rfl | exact Or.inr rfl)) (pgs_cons (pg_name (i := 5) sc_many_of.nd rfl (by first | exact Or.inl rfl | exact Or.inr rfl)) pgs_nil))))
  (pss_cons (ps_set (i := 3) sc_many_of.nd rfl (by first | exact Or.inl rfl | exact Or.inr rfl) (pe_ix ix_list (pv 2) pe_int (fun _ _ => rfl)))
  (pss_cons (ps_if (PW.pt (pw_or (pt_not (pt_val (pe_callF F_is_weight (hr.mono (by decide)) (by rfl) (pa_cons (pv 4) pa_nil)))) (pw_or (pt_cmpR (op_eqD hr.units) (pv 3) (pe_lst pa_nil) (nomark _)) (pw_or (pt_not (pt_val (pe_callF F_are_coins (hr.mono (by decide)) (by rfl) (pa_cons (pv 0) (pa_cons (pv 3) pa_nil))))) (pw_or1 (pt_not (pt_chain op_le op_le pe_int (pv 5) (pe_gint (T.int 82) (by rfl))))))))) (pss_one (ps_ret (pe_lst (pa_cons (pe_gint (T.int 72) (by rfl)) pa_nil)))) pss_nil)
  (pss_one (ps_ret (pe_callF F_put (hr.mono (by decide)) (by rfl) (pa_cons (pv 0) (pa_cons (pe_callF F_many_term (hr.mono (by decide)) (by rfl) (pa_cons (pv 4) (pa_cons (pv 5) (pa_cons (pv 3) pa_nil)))) pa_nil))))))))
theorem ok_many_of {P : Program} {w : World} {K : PySem.W.Frag} {mg : Str → Option Value} {base : Heap} (T : Txt K mg) (F_are_coins : OkF P w K mg base 2 "are_coins" ["seeds", "numbers"] (sp_are_coins K)) (F_is_weight : OkF P w K mg base 1 "is_weight" ["number"] (sp_is_weight K)) (F_many_term : OkF P w K mg base 3 "many_term" ["weight", "least", "coins"] (sp_many_term K)) (F_put : OkF P w K mg base 1 "put" ["seeds", "term"] (sp_put K))
    (hp : ∀ vs H Q E, sp_many_of K vs H Q E → (t_many_of K) { nx := fun _ H' => Q .non H', rt := Q } (L2.start N_many_of vs) H) : OkF P w K mg base 4 "many_of" ["seeds", "numbers", "rows"] (sp_many_of K) :=
  okF 42 42 T rfl rfl sc_many_of (fun vs H Q E h => h.1) (fun _ _ _ _ _ _ us hl => match us, hl with | [_, _, _], _ => rfl) (t_many_of K) hp (fun f cdv A outer s H E hr => dv_many_of T F_are_coins F_is_weight F_many_term F_put f cdv A outer s H E hr)

abbrev N_drop : List Str := ["seeds", "numbers", "rows", "place"]
theorem sc_drop : FnScope N_drop ["seeds", "numbers", "rows"] (defScope s_drop) := ⟨rfl, rfl, rfl, by decide +kernel, rfl, by decide +kernel, by decide +kernel⟩
theorem dv_drop {P : Program} {w : World} {K : PySem.W.Frag} {mg : Str → Option Value} {base : Heap} (T : Txt K mg) (F_is_in : OkF P w K mg base 1 "is_in" ["number", "many"] (sp_is_in K))
    (f : Addr) (cdv : Value) (A : Around) (outer : List Env) (s : Shared) (H : Hp) (E : XK) (hr : Room 1 (A.deeper (envOfC "drop" (defScope s_drop) s.heap.objs.size f cdv))) :
    PSs (cxOf CX0 P w K mg base N_drop "drop" (defScope s_drop) f cdv A outer s H E).nox (defBody s_drop) (t_drop K) :=
  (pss_cons (ps_set (i := 3) sc_drop.nd rfl (by first | exact Or.inl rfl | exact Or.inr rfl) (pe_ix ix_list (pv 1) pe_int (fun _ _ => rfl)))
  (pss_cons (ps_if (pt_not (pt_val (pe_callF F_is_in (hr.mono (by decide)) (by rfl) (pa_cons (pv 3) (pa_cons (pe_callB call_len_seq (by rfl) (T.free 57) PySem.boot_len (pa_cons (pe_fld (pv 0) rfl) pa_nil)) pa_nil))))) (pss_one (ps_ret (pe_lst (pa_cons (pe_gint (T.int 70) (by rfl)) pa_nil)))) pss_nil)
  (pss_cons (ps_fld (pv 0) (pe_op op_cat (pe_slice sl_list (pe_fld (pv 0) rfl) po_none (po_some (pv 3))) (pe_slice sl_list (pe_fld (pv 0) rfl) (po_some (pe_op op_add (pv 3) pe_int)) po_none)) rfl)
  (pss_one (ps_ret (pe_lst (pa_cons (pe_callB call_len_seq (by rfl) (T.free 57) PySem.boot_len (pa_cons (pe_fld (pv 0) rfl) pa_nil)) pa_nil)))))))
theorem ok_drop {P : Program} {w : World} {K : PySem.W.Frag} {mg : Str → Option Value} {base : Heap} (T : Txt K mg) (F_is_in : OkF P w K mg base 1 "is_in" ["number", "many"] (sp_is_in K))
    (hp : ∀ vs H Q E, sp_drop K vs H Q E → (t_drop K) { nx := fun _ H' => Q .non H', rt := Q } (L2.start N_drop vs) H) : OkF P w K mg base 2 "drop" ["seeds", "numbers", "rows"] (sp_drop K) :=
  okF 43 43 T rfl rfl sc_drop (fun vs H Q E h => h.1) (fun _ _ _ _ _ _ us hl => match us, hl with | [_, _, _], _ => rfl) (t_drop K) hp (fun f cdv A outer s H E hr => dv_drop T F_is_in f cdv A outer s H E hr)

abbrev N_want : List Str := ["seeds", "numbers", "rows", "before"]
theorem sc_want : FnScope N_want ["seeds", "numbers", "rows"] (defScope s_want) := ⟨rfl, rfl, rfl, by decide +kernel, rfl, by decide +kernel, by decide +kernel⟩
theorem dv_want {P : Program} {w : World} {K : PySem.W.Frag} {mg : Str → Option Value} {base : Heap} (T : Txt K mg) 
    (f : Addr) (cdv : Value) (A : Around) (outer : List Env) (s : Shared) (H : Hp) (E : XK) (hr : Room 0 (A.deeper (envOfC "want" (defScope s_want) s.heap.objs.size f cdv))) :
    PSs (cxOf CX0 P w K mg base N_want "want" (defScope s_want) f cdv A outer s H E).nox (defBody s_want) (t_want K) :=
  (pss_cons (ps_if (pt_cmpR op_notIn_seq (pe_ix ix_list (pv 1) pe_int (fun _ _ => rfl)) (pe_tup (pa_cons pe_int (pa_cons pe_int pa_nil))) (by rfl)) (pss_one (ps_ret (pe_lst (pa_cons (pe_gint (T.int 72) (by rfl)) pa_nil)))) pss_nil)
  (pss_cons (ps_set (i := 3) sc_want.nd rfl (by first | exact Or.inl rfl | exact Or.inr rfl) (pe_fld (pv 0) rfl))
  (pss_cons (ps_fld (pv 0) (pe_ix ix_list (pv 1) pe_int (fun _ _ => rfl)) rfl)
  (pss_one (ps_ret (pe_lst (pa_cons (pv 3) pa_nil)))))))
theorem ok_want {P : Program} {w : World} {K : PySem.W.Frag} {mg : Str → Option Value} {base : Heap} (T : Txt K mg) 
    (hp : ∀ vs H Q E, sp_want K vs H Q E → (t_want K) { nx := fun _ H' => Q .non H', rt := Q } (L2.start N_want vs) H) : OkF P w K mg base 1 "want" ["seeds", "numbers", "rows"] (sp_want K) :=
  okF 44 44 T rfl rfl sc_want (fun vs H Q E h => h.1) (fun _ _ _ _ _ _ us hl => match us, hl with | [_, _, _], _ => rfl) (t_want K) hp (fun f cdv A outer s H E hr => dv_want T  f cdv A outer s H E hr)
end Fc
namespace Fc
open PySem PySem.Spec PyProof.Rows L2 Evl
/-! D6: scopes and derivations, printed by dgen.py. -/
abbrev N_means : List Str := ["seeds", "numbers", "rows", "of_true", "of_seeds", "top", "bottom"]
theorem sc_means : FnScope N_means ["seeds", "numbers", "rows"] (defScope s_means) := ⟨rfl, rfl, rfl, by decide +kernel, rfl, by decide +kernel, by decide +kernel⟩
theorem dv_means {P : Program} {w : World} {K : PySem.W.Frag} {mg : Str → Option Value} {base : Heap} (T : Txt K mg) (F_seeds_mean : OkF P w K mg base 3 "seeds_mean" ["terms", "rows"] (sp_seeds_mean K)) (F_told_fraction : OkF P w K mg base 2 "told_fraction" ["top", "bottom"] (sp_told_fraction K)) (F_true_mean : OkF P w K mg base 4 "true_mean" ["terms", "many"] (sp_true_mean K))
    (f : Addr) (cdv : Value) (A : Around) (outer : List Env) (s : Shared) (H : Hp) (E : XK) (hr : Room 4 (A.deeper (envOfC "means" (defScope s_means) s.heap.objs.size f cdv))) :
    PSs (cxOf CX0 P w K mg base N_means "means" (defScope s_means) f cdv A outer s H E).nox (defBody s_means) (t_means K) :=
  (pss_cons (ps_asg (pe_callF F_true_mean (hr.mono (by decide)) (by rfl) (pa_cons (pe_fld (pv 0) rfl) (pa_cons (pe_callB call_len_seq (by rfl) (T.free 57) PySem.boot_len (pa_cons (pe_fld (pv 0) rfl) pa_nil)) pa_nil))) (pg_tup (by rfl) (pgs_cons (pg_name (i := 5) sc_means.nd rfl (by first | exact Or.inl rfl | exact Or.inr rfl)) (pgs_cons (pg_name (i := 6) sc_means.nd rfl (by first | exact Or.inl rfl | exact Or.inr rfl)) pgs_nil))))
  (pss_cons (ps_set (i := 3) sc_means.nd rfl (by first | exact Or.inl rfl | exact Or.inr rfl) (pe_callF F_told_fraction (hr.mono (by decide)) (by rfl) (pa_cons (pv 5) (pa_cons (pv 6) pa_nil))))
  (pss_cons (ps_asg (pe_callF F_seeds_mean (hr.mono (by decide)) (by rfl) (pa_cons (pe_fld (pv 0) rfl) (pa_cons (pe_fld (pv 0) rfl) pa_nil))) (pg_tup (by rfl) (pgs_cons (pg_name (i := 5) sc_means.nd rfl (by first | exact Or.inl rfl | exact Or.inr rfl)) (pgs_cons (pg_name (i := 6) sc_means.nd rfl (by first | exact Or.inl rfl | exact Or.inr rfl)) pgs_nil))))
  (pss_cons (ps_set (i := 4) sc_means.nd rfl (by first | exact Or.inl rfl | exact Or.inr rfl) (pe_callF F_told_fraction (hr.mono (by decide)) (by rfl) (pa_cons (pv 5) (pa_cons (pv 6) pa_nil))))
  (pss_one (ps_ret (pe_op op_cat (pe_op op_cat (pe_lst (pa_cons (pe_callTy call_int1 (by rfl) (T.free 67) (by decide +kernel) (pa_cons (pe_cmpR (op_eqD hr.units) (pv 3) (pv 4) (nomark _)) pa_nil)) pa_nil)) (pv 3)) (pv 4))))))))
theorem ok_means {P : Program} {w : World} {K : PySem.W.Frag} {mg : Str → Option Value} {base : Heap} (T : Txt K mg) (F_seeds_mean : OkF P w K mg base 3 "seeds_mean" ["terms", "rows"] (sp_seeds_mean K)) (F_told_fraction : OkF P w K mg base 2 "told_fraction" ["top", "bottom"] (sp_told_fraction K)) (F_true_mean : OkF P w K mg base 4 "true_mean" ["terms", "many"] (sp_true_mean K))
    (hp : ∀ vs H Q E, sp_means K vs H Q E → (t_means K) { nx := fun _ H' => Q .non H', rt := Q } (L2.start N_means vs) H) : OkF P w K mg base 5 "means" ["seeds", "numbers", "rows"] (sp_means K) :=
  okF 45 45 T rfl rfl sc_means (fun vs H Q E h => h.1) (fun _ _ _ _ _ _ us hl => match us, hl with | [_, _, _], _ => rfl) (t_means K) hp (fun f cdv A outer s H E hr => dv_means T F_seeds_mean F_told_fraction F_true_mean f cdv A outer s H E hr)

abbrev N_worth : List Str := ["seeds", "numbers", "rows"]
theorem sc_worth : FnScope N_worth ["seeds", "numbers", "rows"] (defScope s_worth) := ⟨rfl, rfl, rfl, by decide +kernel, rfl, by decide +kernel, by decide +kernel⟩
theorem dv_worth {P : Program} {w : World} {K : PySem.W.Frag} {mg : Str → Option Value} {base : Heap} (T : Txt K mg) (F_is_in : OkF P w K mg base 1 "is_in" ["number", "many"] (sp_is_in K)) (F_worth_of : OkF P w K mg base 2 "worth_of" ["terms", "row"] (sp_worth_of K))
    (f : Addr) (cdv : Value) (A : Around) (outer : List Env) (s : Shared) (H : Hp) (E : XK) (hr : Room 2 (A.deeper (envOfC "worth" (defScope s_worth) s.heap.objs.size f cdv))) :
    PSs (cxOf CX0 P w K mg base N_worth "worth" (defScope s_worth) f cdv A outer s H E).nox (defBody s_worth) (t_worth K) :=
  (pss_cons (ps_if (pt_not (pt_val (pe_callF F_is_in (hr.mono (by decide)) (by rfl) (pa_cons (pe_ix ix_list (pv 1) pe_int (fun _ _ => rfl)) (pa_cons (pe_callB call_len_seq (by rfl) (T.free 57) PySem.boot_len (pa_cons (pe_fld (pv 0) rfl) pa_nil)) pa_nil))))) (pss_one (ps_ret (pe_lst (pa_cons (pe_gint (T.int 70) (by rfl)) pa_nil)))) pss_nil)
  (pss_one (ps_ret (pe_lst (pa_cons pe_int (pa_cons (pe_callF F_worth_of (hr.mono (by decide)) (by rfl) (pa_cons (pe_fld (pv 0) rfl) (pa_cons (pe_ix ix_list (pe_fld (pv 0) rfl) (pe_ix ix_list (pv 1) pe_int (fun _ _ => rfl)) (fun _ _ => rfl)) pa_nil))) pa_nil))))))
theorem ok_worth {P : Program} {w : World} {K : PySem.W.Frag} {mg : Str → Option Value} {base : Heap} (T : Txt K mg) (F_is_in : OkF P w K mg base 1 "is_in" ["number", "many"] (sp_is_in K)) (F_worth_of : OkF P w K mg base 2 "worth_of" ["terms", "row"] (sp_worth_of K))
    (hp : ∀ vs H Q E, sp_worth K vs H Q E → (t_worth K) { nx := fun _ H' => Q .non H', rt := Q } (L2.start N_worth vs) H) : OkF P w K mg base 3 "worth" ["seeds", "numbers", "rows"] (sp_worth K) :=
  okF 46 46 T rfl rfl sc_worth (fun vs H Q E h => h.1) (fun _ _ _ _ _ _ us hl => match us, hl with | [_, _, _], _ => rfl) (t_worth K) hp (fun f cdv A outer s H E hr => dv_worth T F_is_in F_worth_of f cdv A outer s H E hr)

abbrev N_best : List Str := ["seeds", "numbers", "rows", "worths", "found", "row"]
theorem sc_best : FnScope N_best ["seeds", "numbers", "rows"] (defScope s_best) := ⟨rfl, rfl, rfl, by decide +kernel, rfl, by decide +kernel, by decide +kernel⟩
theorem dv_best {P : Program} {w : World} {K : PySem.W.Frag} {mg : Str → Option Value} {base : Heap} (T : Txt K mg) (F_worth_of : OkF P w K mg base 2 "worth_of" ["terms", "row"] (sp_worth_of K))
    (f : Addr) (cdv : Value) (A : Around) (outer : List Env) (s : Shared) (H : Hp) (E : XK) (hr : Room 2 (A.deeper (envOfC "best" (defScope s_best) s.heap.objs.size f cdv))) :
    PSs (cxOf CX0 P w K mg base N_best "best" (defScope s_best) f cdv A outer s H E).nox (defBody s_best) (t_best K) :=
  (pss_cons (ps_setLc (i := 3) (own := [("row", 5)]) (g := (gName 5)) (tt := tYes) rfl sc_best.nd rfl rfl (sw_true rfl rfl rfl (by decide +kernel)) (pi_list (pe_fld (pv 0) rfl)) (blkOk_by (own := [("row", 5)]) (N := N_best) (sc := (defScope s_best)) (by decide +kernel)) (fun _ _ _ _ _ => (pg_name (i := 5) sc_best.nd rfl (by first | exact Or.inl rfl | exact Or.inr rfl))) (fun _ _ _ _ _ => pts_nil) (fun _ _ _ _ _ => (pe_callF F_worth_of (hr.mono (by decide)) (by rfl) (pa_cons (pe_fld (pv 0) rfl) (pa_cons (pv 5) pa_nil)))))
  (pss_cons (ps_set (i := 4) sc_best.nd rfl (by first | exact Or.inl rfl | exact Or.inr rfl) (pe_ifExp (pt_cmpR op_eq (pe_fld (pv 0) rfl) pe_int (nomark _)) (pe_callB (cr_max rfl) (by rfl) (T.free 60) (by decide +kernel) (pa_cons (pv 3) pa_nil)) (pe_callB (cr_min rfl) (by rfl) (T.free 61) (by decide +kernel) (pa_cons (pv 3) pa_nil))))
  (pss_one (ps_ret (pe_lst (pa_cons (pe_bm PySem.F.plainAttrs_list PySem.F.slot_list_index PySem.F.type_list_index mt_index (pv 3) (pa_cons (pv 4) pa_nil)) (pa_cons (pv 4) pa_nil)))))))
theorem ok_best {P : Program} {w : World} {K : PySem.W.Frag} {mg : Str → Option Value} {base : Heap} (T : Txt K mg) (F_worth_of : OkF P w K mg base 2 "worth_of" ["terms", "row"] (sp_worth_of K))
    (hp : ∀ vs H Q E, sp_best K vs H Q E → (t_best K) { nx := fun _ H' => Q .non H', rt := Q } (L2.start N_best vs) H) : OkF P w K mg base 3 "best" ["seeds", "numbers", "rows"] (sp_best K) :=
  okF 47 47 T rfl rfl sc_best (fun vs H Q E h => h.1) (fun _ _ _ _ _ _ us hl => match us, hl with | [_, _, _], _ => rfl) (t_best K) hp (fun f cdv A outer s H E hr => dv_best T F_worth_of f cdv A outer s H E hr)

abbrev N_chances : List Str := ["seeds", "numbers", "rows", "term", "of_true", "top", "bottom"]
theorem sc_chances : FnScope N_chances ["seeds", "numbers", "rows"] (defScope s_chances) := ⟨rfl, rfl, rfl, by decide +kernel, rfl, by decide +kernel, by decide +kernel⟩
theorem dv_chances {P : Program} {w : World} {K : PySem.W.Frag} {mg : Str → Option Value} {base : Heap} (T : Txt K mg) (F_coins_looked_at : OkF P w K mg base 1 "coins_looked_at" ["term"] (sp_coins_looked_at K)) (F_is_in : OkF P w K mg base 1 "is_in" ["number", "many"] (sp_is_in K)) (F_seeds_chance : OkF P w K mg base 2 "seeds_chance" ["term", "rows"] (sp_seeds_chance K)) (F_told_fraction : OkF P w K mg base 2 "told_fraction" ["top", "bottom"] (sp_told_fraction K)) (F_true_chance : OkF P w K mg base 3 "true_chance" ["term"] (sp_true_chance K))
    (f : Addr) (cdv : Value) (A : Around) (outer : List Env) (s : Shared) (H : Hp) (E : XK) (hr : Room 3 (A.deeper (envOfC "chances" (defScope s_chances) s.heap.objs.size f cdv))) :
    PSs (cxOf CX0 P w K mg base N_chances "chances" (defScope s_chances) f cdv A outer s H E).nox (defBody s_chances) (t_chances K) :=
  (pss_cons (ps_if (pt_not (pt_val (pe_callF F_is_in (hr.mono (by decide)) (by rfl) (pa_cons (pe_ix ix_list (pv 1) pe_int (fun _ _ => rfl)) (pa_cons (pe_callB call_len_seq (by rfl) (T.free 57) PySem.boot_len (pa_cons (pe_fld (pv 0) rfl) pa_nil)) pa_nil))))) (pss_one (ps_ret (pe_lst (pa_cons (pe_gint (T.int 70) (by rfl)) pa_nil)))) pss_nil)
  (pss_cons (ps_set (i := 3) sc_chances.nd rfl (by first | exact Or.inl rfl | exact Or.inr rfl) (pe_ix ix_list (pe_fld (pv 0) rfl) (pe_ix ix_list (pv 1) pe_int (fun _ _ => rfl)) (fun _ _ => rfl)))
  (pss_cons (ps_asg (pe_callF F_true_chance (hr.mono (by decide)) (by rfl) (pa_cons (pv 3) pa_nil)) (pg_tup (by rfl) (pgs_cons (pg_name (i := 5) sc_chances.nd rfl (by first | exact Or.inl rfl | exact Or.inr rfl)) (pgs_cons (pg_name (i := 6) sc_chances.nd rfl (by first | exact Or.inl rfl | exact Or.inr rfl)) pgs_nil))))
  (pss_cons (ps_set (i := 4) sc_chances.nd rfl (by first | exact Or.inl rfl | exact Or.inr rfl) (pe_callF F_told_fraction (hr.mono (by decide)) (by rfl) (pa_cons (pv 5) (pa_cons (pv 6) pa_nil))))
  (pss_cons (ps_asg (pe_callF F_seeds_chance (hr.mono (by decide)) (by rfl) (pa_cons (pv 3) (pa_cons (pe_fld (pv 0) rfl) pa_nil))) (pg_tup (by rfl) (pgs_cons (pg_name (i := 5) sc_chances.nd rfl (by first | exact Or.inl rfl | exact Or.inr rfl)) (pgs_cons (pg_name (i := 6) sc_chances.nd rfl (by first | exact Or.inl rfl | exact Or.inr rfl)) pgs_nil))))
  (pss_one (ps_ret (pe_op op_cat (pe_op op_cat (pe_lst (pa_cons (pe_callB call_len_seq (by rfl) (T.free 57) PySem.boot_len (pa_cons (pe_callF F_coins_looked_at (hr.mono (by decide)) (by rfl) (pa_cons (pv 3) pa_nil)) pa_nil)) pa_nil)) (pv 4)) (pe_callF F_told_fraction (hr.mono (by decide)) (by rfl) (pa_cons (pv 5) (pa_cons (pv 6) pa_nil)))))))))))
theorem ok_chances {P : Program} {w : World} {K : PySem.W.Frag} {mg : Str → Option Value} {base : Heap} (T : Txt K mg) (F_coins_looked_at : OkF P w K mg base 1 "coins_looked_at" ["term"] (sp_coins_looked_at K)) (F_is_in : OkF P w K mg base 1 "is_in" ["number", "many"] (sp_is_in K)) (F_seeds_chance : OkF P w K mg base 2 "seeds_chance" ["term", "rows"] (sp_seeds_chance K)) (F_told_fraction : OkF P w K mg base 2 "told_fraction" ["top", "bottom"] (sp_told_fraction K)) (F_true_chance : OkF P w K mg base 3 "true_chance" ["term"] (sp_true_chance K))
    (hp : ∀ vs H Q E, sp_chances K vs H Q E → (t_chances K) { nx := fun _ H' => Q .non H', rt := Q } (L2.start N_chances vs) H) : OkF P w K mg base 4 "chances" ["seeds", "numbers", "rows"] (sp_chances K) :=
  okF 48 48 T rfl rfl sc_chances (fun vs H Q E h => h.1) (fun _ _ _ _ _ _ us hl => match us, hl with | [_, _, _], _ => rfl) (t_chances K) hp (fun f cdv A outer s H E hr => dv_chances T F_coins_looked_at F_is_in F_seeds_chance F_told_fraction F_true_chance f cdv A outer s H E hr)

abbrev N_size : List Str := ["seeds", "numbers", "rows"]
theorem sc_size : FnScope N_size ["seeds", "numbers", "rows"] (defScope s_size) := ⟨rfl, rfl, rfl, by decide +kernel, rfl, by decide +kernel, by decide +kernel⟩
theorem dv_size {P : Program} {w : World} {K : PySem.W.Frag} {mg : Str → Option Value} {base : Heap} (T : Txt K mg) 
    (f : Addr) (cdv : Value) (A : Around) (outer : List Env) (s : Shared) (H : Hp) (E : XK) (hr : Room 0 (A.deeper (envOfC "size" (defScope s_size) s.heap.objs.size f cdv))) :
    PSs (cxOf CX0 P w K mg base N_size "size" (defScope s_size) f cdv A outer s H E).nox (defBody s_size) (t_size K) :=
  (pss_one (ps_ret (pe_lst (pa_cons (pe_callB call_len_seq (by rfl) (T.free 57) PySem.boot_len (pa_cons (pe_fld (pv 0) rfl) pa_nil)) (pa_cons (pe_callB call_len_seq (by rfl) (T.free 57) PySem.boot_len (pa_cons (pe_fld (pv 0) rfl) pa_nil)) (pa_cons (pe_callB call_len_seq (by rfl) (T.free 57) PySem.boot_len (pa_cons (pe_fld (pv 0) rfl) pa_nil)) pa_nil))))))
theorem ok_size {P : Program} {w : World} {K : PySem.W.Frag} {mg : Str → Option Value} {base : Heap} (T : Txt K mg) 
    (hp : ∀ vs H Q E, sp_size K vs H Q E → (t_size K) { nx := fun _ H' => Q .non H', rt := Q } (L2.start N_size vs) H) : OkF P w K mg base 1 "size" ["seeds", "numbers", "rows"] (sp_size K) :=
  okF 49 49 T rfl rfl sc_size (fun vs H Q E h => h.1) (fun _ _ _ _ _ _ us hl => match us, hl with | [_, _, _], _ => rfl) (t_size K) hp (fun f cdv A outer s H E hr => dv_size T  f cdv A outer s H E hr)

abbrev N_answer_to : List Str := ["seeds", "call", "numbers", "rows", "deed"]
theorem sc_answer_to : FnScope N_answer_to ["seeds", "call", "numbers", "rows"] (defScope s_answer_to) := ⟨rfl, rfl, rfl, by decide +kernel, rfl, by decide +kernel, by decide +kernel⟩
theorem dv_answer_to {P : Program} {w : World} {K : PySem.W.Frag} {mg : Str → Option Value} {base : Heap} (T : Txt K mg) (fA : Addr) (spA : Sp) (GA : OkA P w K mg base 5 fA ["seeds", "numbers", "rows"] spA)
    (f : Addr) (cdv : Value) (A : Around) (outer : List Env) (s : Shared) (H : Hp) (E : XK) (hr : Room 5 (A.deeper (envOfC "answer_to" (defScope s_answer_to) s.heap.objs.size f cdv))) :
    PSs (cxOf CX0 P w K mg base N_answer_to "answer_to" (defScope s_answer_to) f cdv A outer s H E).nox (defBody s_answer_to) (t_answer_to fA spA K) :=
  (pss_cons (ps_if (PW.pt (pw_and (pt_cmpR (op_eqD hr.units) (pe_fld (pv 0) rfl) (pe_lst pa_nil) (nomark _)) (pw_and1 (pt_cmpR op_ne (pv 1) (pe_gint (T.int 74) (by rfl)) (nomark _))))) (pss_one (ps_ret (pe_lst (pa_cons (pe_gint (T.int 71) (by rfl)) pa_nil)))) pss_nil)
  (pss_cons (ps_set (i := 4) sc_answer_to.nd rfl (by first | exact Or.inl rfl | exact Or.inr rfl) (pe_ix ix_tup (pe_gref (T.glo 56) (by rfl)) (pv 1) (fun _ _ => rfl)))
  (pss_one (ps_ret (pe_callLA (i := 4) GA (hr.mono (by decide)) rfl (Or.inl rfl) (pa_cons (pv 0) (pa_cons (pv 2) (pa_cons (pv 3) pa_nil))))))))

abbrev N_rows_at : List Str := ["calls", "at", "many", "found", "turn", "end"]
theorem sc_rows_at : FnScope N_rows_at ["calls", "at", "many"] (defScope s_rows_at) := ⟨rfl, rfl, rfl, by decide +kernel, rfl, by decide +kernel, by decide +kernel⟩
theorem dv_rows_at {P : Program} {w : World} {K : PySem.W.Frag} {mg : Str → Option Value} {base : Heap} (T : Txt K mg) 
    (f : Addr) (cdv : Value) (A : Around) (outer : List Env) (s : Shared) (H : Hp) (E : XK) (hr : Room 0 (A.deeper (envOfC "rows_at" (defScope s_rows_at) s.heap.objs.size f cdv))) :
    PSs (cxOf CX0 P w K mg base N_rows_at "rows_at" (defScope s_rows_at) f cdv A outer s H E).nox (defBody s_rows_at) (t_rows_at K) :=
  (pss_cons (ps_set (i := 3) sc_rows_at.nd rfl (by first | exact Or.inl rfl | exact Or.inr rfl) (pe_lst pa_nil))
  (pss_cons (ps_for PassesOwn.never rfl (pi_range1 (by rfl) (T.free 65) (pa_cons (pv 2) pa_nil)) (pg_name (i := 4) sc_rows_at.nd rfl (by first | exact Or.inl rfl | exact Or.inr rfl)) (pss_cons (ps_set (i := 5) sc_rows_at.nd rfl (by first | exact Or.inl rfl | exact Or.inr rfl) (pe_op op_add (pe_op op_add (pv 1) pe_int) (pe_ix ix_list (pv 0) (pv 1) (fun _ _ => rfl))))
  (pss_cons (ps_expr (pe_bm PySem.F.plainAttrs_list PySem.F.slot_list_append PySem.F.type_list_append mt_append (pv 3) (pa_cons (pe_slice sl_list (pv 0) (po_some (pe_op op_add (pv 1) pe_int)) (po_some (pv 5))) pa_nil)))
  (pss_one (ps_set (i := 1) sc_rows_at.nd rfl (by first | exact Or.inl rfl | exact Or.inr rfl) (pv 5))))))
  (pss_one (ps_ret (pe_tup (pa_cons (pv 3) (pa_cons (pv 1) pa_nil)))))))
theorem ok_rows_at {P : Program} {w : World} {K : PySem.W.Frag} {mg : Str → Option Value} {base : Heap} (T : Txt K mg) 
    (hp : ∀ vs H Q E, sp_rows_at K vs H Q E → (t_rows_at K) { nx := fun _ H' => Q .non H', rt := Q } (L2.start N_rows_at vs) H) : OkF P w K mg base 1 "rows_at" ["calls", "at", "many"] (sp_rows_at K) :=
  okF 51 51 T rfl rfl sc_rows_at (fun vs H Q E h => h.1) (fun _ _ _ _ _ _ us hl => match us, hl with | [_, _, _], _ => rfl) (t_rows_at K) hp (fun f cdv A outer s H E hr => dv_rows_at T  f cdv A outer s H E hr)

abbrev N_answers : List Str := ["calls", "seeds", "told", "at", "call", "begin_of_rows", "numbers", "answer", "rows"]
theorem sc_answers : FnScope N_answers ["calls"] (defScope s_answers) := ⟨rfl, rfl, rfl, by decide +kernel, rfl, by decide +kernel, by decide +kernel⟩
theorem dv_answers {P : Program} {w : World} {K : PySem.W.Frag} {mg : Str → Option Value} {base : Heap} (T : Txt K mg) (F_Seeds : OkA P w K mg base 1 (He.ma K (ad K "Seeds") "__init__") ["self"] (sp_Seeds__init__ K)) (F_answer_to : OkF P w K mg base 6 "answer_to" ["seeds", "call", "numbers", "rows"] (sp_answer_toH K)) (F_rows_at : OkF P w K mg base 1 "rows_at" ["calls", "at", "many"] (sp_rows_atH K))
    (f : Addr) (cdv : Value) (A : Around) (outer : List Env) (s : Shared) (H : Hp) (E : XK) (hr : Room 6 (A.deeper (envOfC "answers" (defScope s_answers) s.heap.objs.size f cdv))) :
    PSs (cxOf CX0 P w K mg base N_answers "answers" (defScope s_answers) f cdv A outer s H E).nox (defBody s_answers) (t_answers K) :=
  (pss_cons (ps_set (i := 1) sc_answers.nd rfl (by first | exact Or.inl rfl | exact Or.inr rfl) (pe_makeF0 (T.mkr 84) F_Seeds (hr.mono (by decide)) (by rfl) (T.glo 26)))
  (pss_cons (ps_set (i := 2) sc_answers.nd rfl (by first | exact Or.inl rfl | exact Or.inr rfl) (pe_lst pa_nil))
  (pss_cons (ps_set (i := 3) sc_answers.nd rfl (by first | exact Or.inl rfl | exact Or.inr rfl) pe_int)
  (pss_cons (ps_while PassesOwn.never (pt_cmpR op_lt (pv 3) (pe_callB call_len_seq (by rfl) (T.free 57) PySem.boot_len (pa_cons (pv 0) pa_nil)) (nomark _)) (pss_cons (ps_set (i := 4) sc_answers.nd rfl (by first | exact Or.inl rfl | exact Or.inr rfl) (pe_ix ix_list (pv 0) (pv 3) (fun _ _ => rfl)))
  (pss_cons (ps_set (i := 5) sc_answers.nd rfl (by first | exact Or.inl rfl | exact Or.inr rfl) (pe_op op_add (pe_op op_add (pv 3) pe_int) (pe_ix ix_tup (pe_gref (T.glo 54) (by rfl)) (pv 4) (fun _ _ => rfl))))
  (pss_cons (ps_set (i := 6) sc_answers.nd rfl (by first | exact Or.inl rfl | exact Or.inr rfl) (pe_slice sl_list (pv 0) (po_some (pe_op op_add (pv 3) pe_int)) (po_some (pv 5))))
  (pss_cons (ps_asg (pe_callF F_rows_at (hr.mono (by decide)) (by rfl) (pa_cons (pv 0) (pa_cons (pv 5) (pa_cons (pe_ix ix_tup (pe_gref (T.glo 55) (by rfl)) (pv 4) (fun _ _ => rfl)) pa_nil)))) (pg_tup (by rfl) (pgs_cons (pg_name (i := 8) sc_answers.nd rfl (by first | exact Or.inl rfl | exact Or.inr rfl)) (pgs_cons (pg_name (i := 3) sc_answers.nd rfl (by first | exact Or.inl rfl | exact Or.inr rfl)) pgs_nil))))
  (pss_cons (ps_set (i := 7) sc_answers.nd rfl (by first | exact Or.inl rfl | exact Or.inr rfl) (pe_callF F_answer_to (hr.mono (by decide)) (by rfl) (pa_cons (pv 1) (pa_cons (pv 4) (pa_cons (pv 6) (pa_cons (pv 8) pa_nil))))))
  (pss_cons (ps_expr (pe_bm PySem.F.plainAttrs_list PySem.F.slot_list_append PySem.F.type_list_append mt_append (pv 2) (pa_cons (pe_callB call_len_seq (by rfl) (T.free 57) PySem.boot_len (pa_cons (pv 7) pa_nil)) pa_nil)))
  (pss_one (ps_expr (pe_bm PySem.F.plainAttrs_list PySem.F.slot_list_extend PySem.F.type_list_extend mt_extend (pv 2) (pa_cons (pv 7) pa_nil)))))))))))
  (pss_one (ps_ret (pv 2)))))))
theorem ok_answers {P : Program} {w : World} {K : PySem.W.Frag} {mg : Str → Option Value} {base : Heap} (T : Txt K mg) (F_Seeds : OkA P w K mg base 1 (He.ma K (ad K "Seeds") "__init__") ["self"] (sp_Seeds__init__ K)) (F_answer_to : OkF P w K mg base 6 "answer_to" ["seeds", "call", "numbers", "rows"] (sp_answer_toH K)) (F_rows_at : OkF P w K mg base 1 "rows_at" ["calls", "at", "many"] (sp_rows_atH K))
    (hp : ∀ vs H Q E, sp_answers K vs H Q E → (t_answers K) { nx := fun _ H' => Q .non H', rt := Q } (L2.start N_answers vs) H) : OkF P w K mg base 7 "answers" ["calls"] (sp_answers K) :=
  okF 52 52 T rfl rfl sc_answers (fun vs H Q E h => h.1) (fun _ _ _ _ _ _ us hl => match us, hl with | [_], _ => rfl) (t_answers K) hp (fun f cdv A outer s H E hr => dv_answers T F_Seeds F_answer_to F_rows_at f cdv A outer s H E hr)
end Fc
/-! P0: how the data's places carry over; small evaluations. -/
namespace Fc
open PySem PySem.Spec PyProof.Rows L2 Evl
open Sr59 (Space Desk)
theorem bx (x y : Nat) : Builtin.bitXor (x : Int) (y : Int) = ((Nat.xor x y : Nat) : Int) := by
  rw [Bits.bitXor_pp (Int.natCast_nonneg _) (Int.natCast_nonneg _), Int.toNat_natCast, Int.toNat_natCast]
  rfl
theorem ba (x y : Nat) : Builtin.bitAnd (x : Int) (y : Int) = ((Nat.land x y : Nat) : Int) := PySem.W.os_band x y
theorem ba1 (x : Int) : Builtin.bitAnd x 1 = x % 2 := bitAnd_m1 x
/-! ### carrying over -/
theorem IsL.mono {v : V} {H H' : Hp} {ns : List Int} (e : Ex H H') (h : IsL v H ns) : IsL v H' ns := by
  obtain ⟨a, rfl, h⟩ := h
  exact ⟨a, rfl, e a _ h⟩
theorem LO.mono {α : Type} {R : V → Hp → α → Prop} (hR : ∀ v H H' x, Ex H H' → R v H x → R v H' x) {v : V} {H H' : Hp} {xs : List α} (e : Ex H H') (h : LO R v H xs) : LO R v H' xs := by
  obtain ⟨a, vs, rfl, h, p⟩ := h
  exact ⟨a, vs, rfl, e a _ h, Paired.mapP p fun v x q => hR v H H' x e q⟩
theorem IsLL.mono {v : V} {H H' : Hp} {rs : List (List Int)} (e : Ex H H') (h : IsLL v H rs) : IsLL v H' rs := LO.mono (R := IsL) (fun _ _ _ _ e h => IsL.mono e h) e h
theorem IsPair.mono {v : V} {H H' : Hp} {p : Int × Int} (e : Ex H H') (h : IsPair v H p) : IsPair v H' p := by
  obtain ⟨a, rfl, h⟩ := h
  exact ⟨a, rfl, e a _ h⟩
theorem IsTold.mono {v : V} {H H' : Hp} {ps : List (Int × Int)} (e : Ex H H') (h : IsTold v H ps) : IsTold v H' ps := LO.mono (R := IsPair) (fun _ _ _ _ e h => IsPair.mono e h) e h
theorem TmAt.mono {K : PySem.W.Frag} {v : V} {H H' : Hp} {w : Int} {told : List (Int × Int)} {least : Int} (e : Ex H H') (h : TmAt K v H w told least) : TmAt K v H' w told least := by
  obtain ⟨a, dx, lv, rfl, h1, h2⟩ := h
  exact ⟨a, dx, lv, rfl, e a _ h1, h2.mono e⟩
theorem IsTerm.mono {K : PySem.W.Frag} {M : Nat} {v : V} {H H' : Hp} {t : Sr58.Term} (e : Ex H H') (h : IsTerm K M v H t) : IsTerm K M v H' t := by
  obtain ⟨told, least, h1, h2⟩ := h
  exact ⟨told, least, h1.mono e, h2⟩
theorem IsTerms.mono {K : PySem.W.Frag} {M : Nat} {v : V} {H H' : Hp} {ts : List Sr58.Term} (e : Ex H H') (h : IsTerms K M v H ts) : IsTerms K M v H' ts := LO.mono (R := IsTerm K M) (fun _ _ _ _ e h => IsTerm.mono e h) e h
theorem SeedsAt.mono {K : PySem.W.Frag} {H H' : Hp} {a : Addr} {st : Sr59.State} (e : Ex H H') (h : SeedsAt K H a st) : SeedsAt K H' a st := by
  cases st with
  | none =>
    obtain ⟨dx, vp, vr, vt, m, h1, h2⟩ := h
    exact ⟨dx, vp, vr, vt, m, e a _ h1, h2.mono e⟩
  | some d =>
    obtain ⟨dx, vp, vr, vt, h1, h2, h3, h4, h5⟩ := h
    exact ⟨dx, vp, vr, vt, e a _ h1, h2, h3.mono e, h4.mono e, h5.mono e⟩
theorem KB.of {a : Addr} {H H' : Hp} (e : Ex H H') : KB a H H' := fun b o _ h => e b o h
theorem KB.trans {a : Addr} {H H1 H2 : Hp} (x : KB a H H1) (y : KB a H1 H2) : KB a H H2 := fun b o n h => y b o n (x b o n h)
/-! ### over what leaves all but one object -/
theorem ne_ins {H : Hp} {a b C dx : Addr} {fs : List (Str × V)} {vs : List V} (ha : H a = some (.ins C dx fs)) (hb : H b = some (.lst vs)) : b ≠ a := fun z => by
  rw [z, ha] at hb
  cases hb
theorem ne_insT {H : Hp} {a b C dx : Addr} {fs : List (Str × V)} {vs : List V} (ha : H a = some (.ins C dx fs)) (hb : H b = some (.tup vs)) : b ≠ a := fun z => by
  rw [z, ha] at hb
  cases hb
section
variable {K : PySem.W.Frag} {H H' : Hp} {a C dx : Addr} {fs : List (Str × V)} {M : Nat}
theorem IsL.kb {v : V} {ns : List Int} (ha : H a = some (.ins C dx fs)) (k : KB a H H') (h : IsL v H ns) : IsL v H' ns := by
  obtain ⟨b, rfl, h⟩ := h
  exact ⟨b, rfl, k b _ (ne_ins ha h) h⟩
theorem IsLL.kb {v : V} {rs : List (List Int)} (ha : H a = some (.ins C dx fs)) (k : KB a H H') (h : IsLL v H rs) : IsLL v H' rs := by
  obtain ⟨b, vs, rfl, h, p⟩ := h
  exact ⟨b, vs, rfl, k b _ (ne_ins ha h) h, Paired.mapP p fun v x q => IsL.kb ha k q⟩
theorem IsTold.kb {v : V} {ps : List (Int × Int)} (ha : H a = some (.ins C dx fs)) (k : KB a H H') (h : IsTold v H ps) : IsTold v H' ps := by
  obtain ⟨b, vs, rfl, h, p⟩ := h
  refine ⟨b, vs, rfl, k b _ (ne_ins ha h) h, Paired.mapP p fun v x q => ?_⟩
  obtain ⟨c, rfl, hc⟩ := q
  exact ⟨c, rfl, k c _ (ne_insT ha hc) hc⟩
/-- an object of Term is not one with four fields -/
theorem IsTerm.kb {v : V} {t : Sr58.Term} (ha : H a = some (.ins C dx fs)) (hf : fs.length = 4) (k : KB a H H') (h : IsTerm K M v H t) : IsTerm K M v H' t := by
  obtain ⟨told, least, ⟨b, dx', lv, rfl, h1, h2⟩, h3⟩ := h
  have nb : b ≠ a := fun z => by
    rw [z, ha] at h1
    injection h1 with h1
    injection h1 with _ _ h1
    rw [h1] at hf
    cases hf
  exact ⟨told, least, ⟨b, dx', lv, rfl, k b _ nb h1, h2.kb ha k⟩, h3⟩
theorem IsTerms.kb {v : V} {ts : List Sr58.Term} (ha : H a = some (.ins C dx fs)) (hf : fs.length = 4) (k : KB a H H') (h : IsTerms K M v H ts) : IsTerms K M v H' ts := by
  obtain ⟨b, vs, rfl, h, p⟩ := h
  exact ⟨b, vs, rfl, k b _ (ne_ins ha h) h, Paired.mapP p fun v x q => IsTerm.kb ha hf k q⟩
end
/-! ### items -/
theorem pd_get {α β : Type} {F : α → β → Prop} : ∀ {vs : List α} {xs : List β}, Paired F vs xs → ∀ {i : Nat} {x : β}, xs[i]? = some x → ∃ v, vs[i]? = some v ∧ F v x
  | _, _, .nil, _, _, h => by simp at h
  | _, _, .cons h _, 0, x, e => by
    rw [List.getElem?_cons_zero] at e
    cases e
    exact ⟨_, rfl, h⟩
  | _, _, .cons _ t, i + 1, x, e => by
    rw [List.getElem?_cons_succ] at e
    obtain ⟨v, h1, h2⟩ := pd_get t e
    exact ⟨v, by rw [List.getElem?_cons_succ]; exact h1, h2⟩
theorem pd_both {α β : Type} {F : α → β → Prop} {vs : List α} {xs : List β} (p : Paired F vs xs) {i : Nat} {v : α} {x : β} (hv : vs[i]? = some v) (hx : xs[i]? = some x) : F v x := by
  obtain ⟨u, h1, h2⟩ := pd_get p hx
  rw [hv] at h1
  cases h1
  exact h2
theorem pd_map {α β γ : Type} {F : α → γ → Prop} {f : β → γ} : ∀ {vs : List α} {xs : List β}, Paired (fun v x => F v (f x)) vs xs → Paired F vs (xs.map f)
  | _, _, .nil => .nil
  | _, _, .cons h t => .cons h (pd_map t)
theorem pd_mapl {α β γ : Type} {F : γ → β → Prop} {f : α → γ} : ∀ {vs : List α} {xs : List β}, Paired (fun v x => F (f v) x) vs xs → Paired F (vs.map f) xs
  | _, _, .nil => .nil
  | _, _, .cons h t => .cons h (pd_mapl t)
theorem pd_swap {α β : Type} {F : α → β → Prop} : ∀ {vs : List α} {xs : List β}, Paired F vs xs → Paired (fun x v => F v x) xs vs
  | _, _, .nil => .nil
  | _, _, .cons h t => .cons h (pd_swap t)
section
variable {K : PySem.W.Frag} {σ : L2.St} {H : Hp} {ta tb tc : TE} {v x y : V}
theorem ev_ix {p : Addr} {xs : List V} {j : Nat} (ha : Ev ta σ H (.ref p)) (hb : Ev tb σ H (.int (j : Int))) (h : H p = some (.lst xs)) (hx : xs[j]? = some v) : Ev (tOp (rIxL K) ta tb) σ H v := ev_op ha hb (rv_ixL (sq_of h) (at_of rfl hx))
theorem ev_ixS {p : Addr} {xs : List V} {j : Nat} (ha : Ev ta σ H (.ref p)) (hb : Ev tb σ H (.int (j : Int))) (h : SqL K H p xs) (hx : xs[j]? = some v) : Ev (tOp (rIxL K) ta tb) σ H v := ev_op ha hb (rv_ixL h (at_of rfl hx))
theorem ev_ixT {p : Addr} {xs : List V} {j : Nat} (ha : Ev ta σ H (.ref p)) (hb : Ev tb σ H (.int (j : Int))) (h : SqT K H p xs) (hx : xs[j]? = some v) : Ev (tOp (rIxT K) ta tb) σ H v := ev_op ha hb (rv_ixT h (at_of rfl hx))
theorem ev_ixI {a : V} {ns : List Int} {j : Nat} {n : Int} (ha : Ev ta σ H a) (hb : Ev tb σ H (.int (j : Int))) (h : IsL a H ns) (hx : ns[j]? = some n) : Ev (tOp (rIxL K) ta tb) σ H (.int n) := by
  obtain ⟨p, rfl, h⟩ := h
  exact ev_ix ha hb h (by rw [List.getElem?_map, hx]; rfl)
/-- xs[i][j] -/
theorem ev_ixII {a : V} {rs : List (List Int)} {i j : Nat} {r : List Int} {n : Int} (ha : Ev ta σ H a) (hb : Ev tb σ H (.int (i : Int))) (hc : Ev tc σ H (.int (j : Int))) (h : IsLL a H rs) (hi : rs[i]? = some r) (hj : r[j]? = some n) : Ev (tOp (rIxL K) (tOp (rIxL K) ta tb) tc) σ H (.int n) := by
  obtain ⟨p, vs, rfl, h, pd⟩ := h
  obtain ⟨w, hw, hr⟩ := pd_get pd hi
  exact ev_ixI (ev_ix ha hb h hw) hc hr hj
theorem table_at {m x y : Nat} (hx : x < 2 ^ m) (hy : y < 2 ^ m) : ∃ r, (tableI m)[x]? = some r ∧ r[y]? = some ((Sr59.mul m x y : Nat) : Int) := by
  unfold tableI
  refine ⟨_, by rw [List.getElem?_map, List.getElem?_range hx]; rfl, ?_⟩
  rw [List.getElem?_map, List.getElem?_range hy]
  rfl
theorem ev_table {a : V} {m x y : Nat} (ha : Ev ta σ H a) (hb : Ev tb σ H (.int (x : Int))) (hc : Ev tc σ H (.int (y : Int))) (h : IsLL a H (tableI m)) (hx : x < 2 ^ m) (hy : y < 2 ^ m) : Ev (tOp (rIxL K) (tOp (rIxL K) ta tb) tc) σ H (.int ((Sr59.mul m x y : Nat) : Int)) := by
  obtain ⟨r, h1, h2⟩ := table_at hx hy
  exact ev_ixII ha hb hc h h1 h2
theorem ev_lenL {a : V} {ns : List Int} (ha : Ev ta σ H a) (h : IsL a H ns) : Ev (tCB (rLenS K) (tCons ta tNil)) σ H (.int (ns.length : Int)) := by
  obtain ⟨p, rfl, h⟩ := h
  have q := ev_len (K := K) ha (sq_of h)
  rw [List.length_map] at q
  exact q
theorem ev_lenO {α : Type} {R : V → Hp → α → Prop} {a : V} {xs : List α} (ha : Ev ta σ H a) (h : LO R a H xs) : Ev (tCB (rLenS K) (tCons ta tNil)) σ H (.int (xs.length : Int)) := by
  obtain ⟨p, vs, rfl, h, pd⟩ := h
  have q := ev_len (K := K) ha (sq_of h)
  rw [Paired.length pd] at q
  exact q
/-! ### whole numbers that are natural -/
theorem ev_op0 {g : Int → Int → V} {i j : Int} (ha : Ev ta σ H (.int i)) (hb : Ev tb σ H (.int j)) (e : g i j = v) : Ev (tOp (rI0 g) ta tb) σ H v := e ▸ ev_op ha hb rv_I0
theorem ev_opC {C : Int → Int → Prop} {g : Int → Int → V} {i j : Int} (ha : Ev ta σ H (.int i)) (hb : Ev tb σ H (.int j)) (c : C i j) (e : g i j = v) : Ev (tOp (rI C g) ta tb) σ H v := e ▸ ev_op ha hb (rv_I c)
theorem ev_eq {b : Bool} (ha : Ev ta σ H x) (hb : Ev tb σ H y) (h : scal x y = true) (e : decide (x = y) = b) : Ev (tOp rEq ta tb) σ H (.bl b) := e ▸ ev_op ha hb (rv_eq h)
theorem et_eqI {i j : Int} (ha : Ev ta σ H (.int i)) (hb : Ev tb σ H (.int j)) : EvT (tTest (tOp rEq ta tb)) σ H (decide (i = j)) := et_test (ev_eq ha hb rfl (by rw [dec_int]; exact (decide_eq_decide.mpr Iff.rfl)))
theorem et_op {i j : Int} {g : Int → Int → Bool} (ha : Ev ta σ H (.int i)) (hb : Ev tb σ H (.int j)) : EvT (tTest (tOp (rI0 fun i j => .bl (g i j)) ta tb)) σ H (g i j) := et_test (ev_op0 ha hb rfl)
end
end Fc
/-! P1: field.py -/
namespace Fc
open PySem PySem.Spec PyProof.Rows L2 Evl
section
variable {K : PySem.W.Frag} {mg : Str → Option Value}
theorem Txt.tups (T : Txt K mg) : He.tupB K "BROUGHT_BY" d_BROUGHT_BY = true ∧ He.tupB K "NUMBERS" d_NUMBERS = true ∧ He.tupB K "ROWS" d_ROWS = true ∧ He.tupB K "DEEDS" d_DEEDS = true := by
  have h := T.says.t
  unfold ex at h
  simp only [Bool.and_eq_true] at h
  exact ⟨h.1.1.1, h.1.1.2, h.1.2, h.2⟩
theorem Txt.brought (T : Txt K mg) (H : Hp) : SqT K H (ad K "BROUGHT_BY") [.int 0, .int 3, .int 7, .int 11, .int 19, .int 37, .int 67] := He.tupB_ok T.tups.1 H
theorem poly_at {m : Nat} (h : mOk m) : ([.int 0, .int 3, .int 7, .int 11, .int 19, .int 37, .int 67] : List V)[m]? = some (.int (Sr59.poly m : Nat)) := six (P := fun m => ([.int 0, .int 3, .int 7, .int 11, .int 19, .int 37, .int 67] : List V)[m]? = some (.int (Sr59.poly m : Nat))) h rfl rfl rfl rfl rfl rfl
theorem half_is_one {m x : Nat} (hx : x < 2 ^ m) : decide (((2 * x : Nat) : Int) / 2 ^ ((m : Nat) : Int).toNat = 1) = decide (2 ^ m ≤ 2 * x) := by
  rw [Int.toNat_natCast]
  have e : ((2 * x : Nat) : Int) / 2 ^ m = ((2 * x / 2 ^ m : Nat) : Int) := by
    rw [Int.natCast_ediv, Int.natCast_pow]
    rfl
  rw [e]
  refine decide_eq_decide.mpr ?_
  have hp := Nat.two_pow_pos m
  constructor
  · intro h
    have h1 : 2 * x / 2 ^ m = 1 := by omega
    exact Decidable.byContradiction fun c => by
      rw [Nat.div_eq_of_lt (by omega)] at h1
      cases h1
  · intro h
    have h1 : 2 * x / 2 ^ m = 1 := by
      rw [Nat.div_eq_iff hp]
      omega
    rw [h1]
    rfl
theorem pu_doubled (T : Txt K mg) (vs : List V) (H : Hp) (Q : VK) (E : XK) (h : sp_doubled K vs H Q E) : t_doubled K { nx := fun _ H' => Q .non H', rt := Q } (L2.start ["number", "digits", "found"] vs) H := by
  obtain ⟨_, P, ⟨m, x, rfl, hm, hx, rfl⟩, k⟩ := h
  show t_doubled K _ [some (.int x), some (.int m), none] H
  refine q_asg (v := .int ((2 * x : Nat) : Int)) (ev_opC ev_c (ev_var rfl) (.inl ⟨by decide, by decide⟩) (by rw [Int.natCast_mul]; rfl)) fun H1 e1 => ?_
  refine q_when (b := decide (2 ^ m ≤ 2 * x)) (et_is (et_eqI (ev_opC (ev_var rfl) (ev_var rfl) (Int.natCast_nonneg _) rfl) ev_c) (half_is_one hx)) (fun hb H2 e2 => ?_) (fun hb H2 e2 => ?_)
  · refine s_ret (v := .int (Sr59.twice m x : Nat)) (ev_op0 (ev_var rfl) (ev_ixT ev_c (ev_var rfl) (T.brought H2) (poly_at hm)) ?_) fun H3 e3 => k _ H3 ((e1.trans e2).trans e3) rfl
    rw [bx]
    unfold Sr59.twice
    rw [if_pos (of_decide_eq_true hb)]
    rfl
  · refine s_ret (v := .int (Sr59.twice m x : Nat)) (ev_is (ev_var rfl) ?_) fun H3 e3 => k _ H3 ((e1.trans e2).trans e3) rfl
    unfold Sr59.twice
    rw [if_neg (of_decide_eq_false hb)]
theorem bit_of (y i : Nat) : Builtin.bitAnd (((y : Nat) : Int) / 2 ^ ((i : Nat) : Int).toNat) 1 = ((y / 2 ^ i % 2 : Nat) : Int) := by
  rw [ba1, Int.toNat_natCast, Int.natCast_emod, Int.natCast_ediv, Int.natCast_pow]
  rfl
theorem pu_product (vs : List V) (H : Hp) (Q : VK) (E : XK) (h : sp_product K vs H Q E) : t_product K { nx := fun _ H' => Q .non H', rt := Q } (L2.start ["one", "other", "digits", "found", "part", "place"] vs) H := by
  obtain ⟨_, P, ⟨m, x, y, rfl, hm, hx, hy, rfl⟩, k⟩ := h
  show t_product K _ [some (.int x), some (.int y), some (.int m), none, none, none] H
  refine q_asg ev_c fun H1 e1 => ?_
  refine q_asg (ev_var rfl) fun H2 e2 => ?_
  refine q_forR1 (n := (m : Int)) (ea_cons (ev_var rfl) ea_nil) ⟨by omega, by have := hm.2; omega⟩
    (fun i σ H' => Ex H H' ∧ ∃ w, σ = [some (.int x), some (.int y), some (.int m), some (.int ((pr m x y i).1 : Nat)), some (.int ((pr m x y i).2 : Nat)), w])
    (fun H3 e3 => ⟨(e1.trans e2).trans e3, none, rfl⟩) (fun i σ H' hi ⟨e, w, hσ⟩ => ?_) (fun σ H' ⟨e, w, hσ⟩ => ?_)
  · subst hσ
    refine q_when (b := decide (y / 2 ^ i % 2 = 1)) (et_is (et_eqI (ev_op0 (ev_opC (ev_var rfl) (ev_var rfl) (Int.natCast_nonneg _) rfl) ev_c (congrArg V.int (bit_of y i))) ev_c) (decide_eq_decide.mpr (by omega))) (fun hb H3 e3 => ?_) (fun hb H3 e3 => ?_)
    · refine s_asg (v := .int ((Nat.xor (pr m x y i).1 (pr m x y i).2 : Nat) : Int)) (ev_op0 (ev_var rfl) (ev_var rfl) (congrArg V.int (bx _ _))) fun H4 e4 => ?_
      refine s_asg (v := .int (Sr59.twice m (pr m x y i).2 : Nat)) (ev_callv (ea_cons (ev_var rfl) (ea_cons (ev_var rfl) ea_nil)) rfl fun H5 e5 => ⟨m, (pr m x y i).2, rfl, hm, pr_part_lt hm hx i, rfl⟩) fun H5 e5 => ⟨((e.trans e3).trans e4).trans e5, some (.int (i : Int)), ?_⟩
      have e1 : (pr m x y (i + 1)).1 = Nat.xor (pr m x y i).1 (pr m x y i).2 := if_pos (of_decide_eq_true hb)
      rw [e1]
      rfl
    · refine s_asg (v := .int (Sr59.twice m (pr m x y i).2 : Nat)) (ev_callv (ea_cons (ev_var rfl) (ea_cons (ev_var rfl) ea_nil)) rfl fun H5 e5 => ⟨m, (pr m x y i).2, rfl, hm, pr_part_lt hm hx i, rfl⟩) fun H5 e5 => ⟨(e.trans e3).trans e5, some (.int (i : Int)), ?_⟩
      have e1 : (pr m x y (i + 1)).1 = (pr m x y i).1 := if_neg (of_decide_eq_false hb)
      rw [e1]
      rfl
  · subst hσ
    rw [Int.toNat_natCast] at *
    refine s_ret (ev_var rfl) fun H3 e3 => k _ H3 (e.trans e3) ?_
    rw [pr_mul hm hx hy]
theorem tableI_pd (m : Nat) : tableI m = (List.range (2 ^ m)).map fun x => (List.range (2 ^ m)).map fun y => ((Sr59.mul m x y : Nat) : Int) := rfl
theorem rg_ints (n : Nat) : rgV 0 (n : Int) = (List.range n).map fun (i : Nat) => V.int ((i : Nat) : Int) := by
  unfold rgV
  rw [Int.sub_zero, Int.toNat_natCast]
  apply List.map_congr_left
  intro i _
  rw [Int.zero_add]
theorem pow_le6 {m : Nat} (h : mOk m) : 2 ^ m ≤ 64 := Nat.pow_le_pow_right (by decide) h.2
/-- list(range(n)) -/
theorem el_listRg {te : TE} {σ : L2.St} {H : Hp} {n : Nat} (h : Ev te σ H (.int (n : Int))) (hn : n ≤ 40000) : EvL (tLstRg (tRg1 te)) σ H ((List.range n).map fun (i : Nat) => V.int ((i : Nat) : Int)) := fun H1 e Q q =>
  h H1 e _ fun H2 e2 => ⟨(n : Int), rfl, ⟨by omega, by omega, by omega, by omega, by omega⟩, fun p hp => by
    rw [rg_ints]
    exact q p _ (fresh_back e2 hp) (e2.trans (Ex.new hp)) upd_same⟩
theorem pu_all_products (vs : List V) (H : Hp) (Q : VK) (E : XK) (h : sp_all_products K vs H Q E) : t_all_products K { nx := fun _ H' => Q .non H', rt := Q } (L2.start ["digits", "numbers", "one", "other"] vs) H := by
  obtain ⟨_, P, ⟨m, rfl, hm, rfl⟩, k⟩ := h
  show t_all_products K _ [some (.int m), none, none, none] H
  have h64 := pow_le6 hm
  have shl : Ev (tOp qShl (tC (.int 1)) (tVar 0)) [some (.int m), none, none, none] H (.int ((2 ^ m : Nat) : Int)) := ev_opC ev_c (ev_var rfl) ⟨by omega, by have := hm.2; omega, by decide⟩ (by
    rw [Int.toNat_natCast, Int.one_mul, Int.natCast_pow]
    rfl)
  refine q_asgL (el_listRg shl (by omega)) fun p H1 hp e1 h1 => ?_
  refine evp_lcN (l := List.range (2 ^ m)) (fun x => .lst ((List.range (2 ^ m)).map fun y => V.int ((Sr59.mul m x y : Nat) : Int))) (ev_var rfl) (sq_of h1) (by rw [List.length_map]) (by rw [List.length_range]; omega) (fun _ => rfl) (fun i x y H2 e2 hx hy => ?_) H1 (Ex.refl _) _ fun q H2 ps hq e2 h2 pd => ?_
  · have hy2 : y < 2 ^ m := List.mem_range.mp (List.mem_of_getElem? hy)
    rw [List.getElem?_map, hy] at hx
    cases hx
    refine el_lc1y (l := List.range (2 ^ m)) (fun z => V.int ((Sr59.mul m y z : Nat) : Int)) (ev_var rfl) (sq_of (e2 _ _ h1)) (by rw [List.length_map]) (by rw [List.length_range]; omega) (fun _ => rfl) fun j x' z H3 e3 hx' hz => ?_
    have hz2 : z < 2 ^ m := List.mem_range.mp (List.mem_of_getElem? hz)
    rw [List.getElem?_map, hz] at hx'
    cases hx'
    exact ev_callv (ea_cons (ev_var rfl) (ea_cons (ev_var rfl) (ea_cons (ev_var rfl) ea_nil))) rfl fun H4 e4 => ⟨m, y, z, rfl, hm, hy2, hz2, rfl⟩
  · refine k _ H2 (e1.trans e2) ⟨q, ps.map V.ref, rfl, h2, ?_⟩
    rw [tableI_pd]
    refine pd_map (pd_mapl (pd_swap (Paired.mapP pd fun x r hr => ⟨r, rfl, ?_⟩)))
    rw [hr.2, List.map_map]
    rfl
theorem pu_power (vs : List V) (H : Hp) (Q : VK) (E : XK) (h : sp_power K vs H Q E) : t_power K { nx := fun _ H' => Q .non H', rt := Q } (L2.start ["products", "number", "often", "found", "turn"] vs) H := by
  obtain ⟨_, P, ⟨a, m, x, n, rfl, ha, hm, hx, hn, rfl⟩, k⟩ := h
  show t_power K _ [some a, some (.int x), some (.int n), none, none] H
  refine q_asg ev_c fun H1 e1 => ?_
  refine q_forR1 (n := (n : Int)) (ea_cons (ev_var rfl) ea_nil) ⟨by omega, by omega⟩
    (fun i σ H' => Ex H H' ∧ ∃ w, σ = [some a, some (.int x), some (.int n), some (.int (Sr59.pow m x i : Nat)), w])
    (fun H3 e3 => ⟨e1.trans e3, none, rfl⟩) (fun i σ H' hi ⟨e, w, hσ⟩ => ?_) (fun σ H' ⟨e, w, hσ⟩ => ?_)
  · subst hσ
    exact s_asg (ev_table (ev_var rfl) (ev_var rfl) (ev_var rfl) (ha.mono e) (pow_lt hm hx i) hx) fun H4 e4 => ⟨e.trans e4, some (.int (i : Int)), rfl⟩
  · subst hσ
    rw [Int.toNat_natCast]
    exact s_ret (ev_var rfl) fun H3 e3 => k _ H3 (e.trans e3) rfl
end
end Fc
/-! P2: coins.py -/
namespace Fc
open PySem PySem.Spec PyProof.Rows L2 Evl
open Sr58 (bit)
open Sr59 (Space)
section
variable {K : PySem.W.Frag} {mg : Str → Option Value}
theorem part_of (x m j : Nat) : Builtin.bitAnd (((x : Nat) : Int) / 2 ^ (((m : Nat) : Int) * ((j : Nat) : Int)).toNat) (1 * 2 ^ ((m : Nat) : Int).toNat - 1) = ((x / 2 ^ (m * j) % 2 ^ m : Nat) : Int) := by
  have e1 : (((m : Nat) : Int) * ((j : Nat) : Int)).toNat = m * j := by rw [← Int.natCast_mul, Int.toNat_natCast]
  have e2 : ((x : Nat) : Int) / 2 ^ (m * j) = ((x / 2 ^ (m * j) : Nat) : Int) := by
    rw [Int.natCast_ediv, Int.natCast_pow]
    rfl
  rw [e1, Int.toNat_natCast, Int.one_mul, e2, Bits.bitAnd_mask m (Int.natCast_nonneg _), Int.natCast_emod, Int.natCast_pow]
  rfl
theorem pu_numbers_of (vs : List V) (H : Hp) (Q : VK) (E : XK) (h : sp_numbers_of K vs H Q E) : t_numbers_of K { nx := fun _ H' => Q .non H', rt := Q } (L2.start ["seed", "digits", "many", "place"] vs) H := by
  obtain ⟨_, xs, ⟨s, x, rfl, hs, rfl⟩, k⟩ := h
  show t_numbers_of K _ [some (.int x), some (.int s.m), some (.int s.k), none] H
  have hk : s.k ≤ 10 := Nat.le_trans (Nat.le_mul_of_pos_left s.k hs.m1) hs.mk10
  have h6 := hs.m6
  refine s_retL (el_lcR (n := s.k) (fun j => V.int ((Sr59.part s x j : Nat) : Int)) (ea_cons (ev_var rfl) ea_nil) (by omega) (fun _ => rfl) fun i H1 e1 hi => ?_) fun p H1 hp e1 h1 => k p H1 hp e1 (h1.trans ?_)
  · exact ev_op0 (ev_opC (ev_var rfl) (ev_opC (ev_var rfl) (ev_var rfl) (.inl ⟨by omega, by omega⟩) rfl) (Int.mul_nonneg (Int.natCast_nonneg _) (Int.natCast_nonneg _)) rfl)
      (ev_op0 (ev_opC ev_c (ev_var rfl) ⟨by omega, by omega, by decide⟩ rfl) ev_c rfl) (congrArg V.int (part_of x s.m i))
  · unfold numsI nums
    rw [List.map_map, List.map_map]
    rfl
theorem pb_zero : ∀ f, pb f 0 = 0
  | 0 => rfl
  | f + 1 => by
    show Nat.xor (0 % 2) (pb f (0 / 2)) = 0
    rw [Nat.zero_mod, Nat.zero_div, pb_zero f]
    rfl
theorem pu_is_odd_in_both (vs : List V) (H : Hp) (Q : VK) (E : XK) (h : sp_is_odd_in_both K vs H Q E) : t_is_odd_in_both K { nx := fun _ H' => Q .non H', rt := Q } (L2.start ["one", "other", "both", "found"] vs) H := by
  obtain ⟨_, P, ⟨f, x, y, rfl, hx, rfl⟩, k⟩ := h
  show t_is_odd_in_both K _ [some (.int x), some (.int y), none, none] H
  have hlt : Nat.land x y < 2 ^ f := Nat.lt_of_le_of_lt Nat.and_le_left hx
  refine q_asg (v := .int ((Nat.land x y : Nat) : Int)) (ev_op0 (ev_var rfl) (ev_var rfl) (congrArg V.int (ba x y))) fun H1 e1 => ?_
  refine q_asg ev_c fun H2 e2 => ?_
  refine q_while (fun m σ H' => Ex H H' ∧ ∃ n r : Nat, σ = [some (.int x), some (.int y), some (.int n), some (.int r)] ∧ n < 2 ^ m ∧ Nat.xor r (pb m n) = pb f (Nat.land x y)) f ⟨e1.trans e2, Nat.land x y, 0, rfl, hlt, Nat.zero_xor _⟩ ?_
  rintro m σ H' ⟨e, n, r, rfl, hn, ht⟩
  refine ⟨decide ((0 : Int) < (n : Int)), et_op (g := fun i j => decide (j < i)) (ev_var rfl) ev_c, fun hb H3 e3 => ?_, fun hb H3 e3 => ?_⟩
  · have hpos : 0 < n := by
      have := of_decide_eq_true hb
      omega
    cases m with
    | zero =>
      rw [Nat.pow_zero] at hn
      omega
    | succ m =>
      refine ⟨fun σ H' => Ex H H' ∧ ∃ n r : Nat, σ = [some (.int x), some (.int y), some (.int n), some (.int r)] ∧ n < 2 ^ m ∧ Nat.xor r (pb m n) = pb f (Nat.land x y), fun σ2 H2 h => ⟨m, Nat.lt_succ_self m, h⟩, ?_⟩
      refine q_asg (v := .int ((Nat.xor r (n % 2) : Nat) : Int)) (ev_op0 (ev_var rfl) (ev_op0 (ev_var rfl) ev_c rfl) ?_) fun H4 e4 => ?_
      · rw [ba1]
        have e5 : ((n : Nat) : Int) % 2 = ((n % 2 : Nat) : Int) := by omega
        rw [e5, bx]
      refine s_asg (v := .int ((n / 2 : Nat) : Int)) (ev_opC (ev_var rfl) ev_c (by decide) ?_) fun H5 e5 => ⟨((e.trans e3).trans e4).trans e5, n / 2, Nat.xor r (n % 2), rfl, ?_, ?_⟩
      · have e6 : ((n : Nat) : Int) / 2 ^ (1 : Int).toNat = ((n / 2 : Nat) : Int) := by
          show ((n : Nat) : Int) / 2 ^ 1 = _
          rw [Int.pow_succ, Int.pow_zero]
          omega
        rw [e6]
      · rw [Nat.pow_succ] at hn
        omega
      · rw [← ht]
        exact Nat.xor_assoc _ _ _
  · have hz : n = 0 := by
      have := of_decide_eq_false hb
      omega
    subst hz
    rw [pb_zero] at ht
    have hr : r = pb f (Nat.land x y) := (Nat.xor_zero r).symm.trans ht
    exact s_ret (ev_var rfl) fun H4 e4 => k _ H4 ((e.trans e3).trans e4) (by rw [hr])
theorem num_at {s : Space} {x j : Nat} (h : j < s.k) : (numsI s x)[j]? = some ((Sr59.part s x j : Nat) : Int) := by
  unfold numsI nums
  rw [List.getElem?_map, List.getElem?_map, List.getElem?_range h]
  rfl
theorem pu_faint_coin (vs : List V) (H : Hp) (Q : VK) (E : XK) (h : sp_faint_coin K vs H Q E) : t_faint_coin K { nx := fun _ H' => Q .non H', rt := Q } (L2.start ["products", "numbers", "coin"] vs) H := by
  obtain ⟨_, P, ⟨a, b, s, x, i, rfl, ha, hb, hs, hf, hi, rfl⟩, k⟩ := h
  show t_faint_coin K _ [some a, some b, some (.int i)] H
  have hk := (hs.f hf).1
  have hm := hs.sz.m
  have h64 := pow_le6 hm
  have hp : ∀ j, Sr59.part s x j < 2 ^ s.m := fun j => Nat.mod_lt _ (Nat.two_pow_pos _)
  refine s_ret (ev_callv (ea_cons (ev_callv (v := .int (Sr59.pow s.m (Sr59.part s x 0) i : Nat)) (ea_cons (ev_var rfl) (ea_cons (ev_ixI (j := 0) (ev_var rfl) ev_c hb (num_at (by omega))) (ea_cons (ev_var rfl) ea_nil))) rfl fun H1 e1 => ⟨a, s.m, Sr59.part s x 0, i, rfl, ha.mono e1, hm, hp 0, by omega, rfl⟩)
    (ea_cons (ev_ixI (j := 1) (ev_var rfl) ev_c hb (num_at (by omega))) ea_nil)) rfl fun H1 e1 => ⟨s.m, Sr59.pow s.m (Sr59.part s x 0) i, Sr59.part s x 1, rfl, pow_lt hm (hp 0) i, ?_⟩) fun H1 e1 => k _ H1 e1 rfl
  rw [coin_faint hs hf]
theorem pu_plain_coin (vs : List V) (H : Hp) (Q : VK) (E : XK) (h : sp_plain_coin K vs H Q E) : t_plain_coin K { nx := fun _ H' => Q .non H', rt := Q } (L2.start ["products", "numbers", "coin", "found", "factor", "number"] vs) H := by
  obtain ⟨_, P, ⟨a, b, s, x, i, rfl, ha, hb, hs, hf, hi, rfl⟩, k⟩ := h
  show t_plain_coin K _ [some a, some b, some (.int i), none, none, none] H
  have hm := hs.sz.m
  refine q_asg ev_c fun H1 e1 => ?_
  refine q_asg ev_c fun H2 e2 => ?_
  obtain ⟨p, rfl, hp⟩ := hb
  refine q_forLn (xs := (numsI s x).map V.int) (ev_var rfl) (sq_of (e2 _ _ (e1 _ _ hp))) (fun j σ H' => Ex H H' ∧ ∃ (f r : Nat) (w : Option V), σ = [some a, some (.ref p), some (.int i), some (.int r), some (.int f), w] ∧ f < 2 ^ s.m ∧ lp s.m i ((nums s x).drop j) f r = lp s.m i (nums s x) 1 0)
    (fun H3 e3 => ⟨(e1.trans e2).trans e3, 1, 0, none, rfl, one_lt hm, rfl⟩) (fun j σ' H' _ ⟨e, _⟩ => sq_of (e _ _ hp)) (fun j y σ H' hy ⟨e, f, r, w, hσ, hf1, hl⟩ => ?_) (fun σ H' ⟨e, f, r, w, hσ, hf1, hl⟩ => ?_)
  · subst hσ
    unfold numsI at hy
    rw [List.map_map, List.getElem?_map] at hy
    obtain ⟨n, hn, hy⟩ := Option.map_eq_some_iff.mp hy
    subst hy
    have hn2 : n < 2 ^ s.m := nums_lt s x n (List.mem_of_getElem? hn)
    have hd : (nums s x).drop j = n :: (nums s x).drop (j + 1) := by
      obtain ⟨h1, h2⟩ := List.getElem?_eq_some_iff.mp hn
      rw [List.drop_eq_getElem_cons h1, h2]
    rw [hd] at hl
    refine q_asg (v := .int ((Nat.xor r (Sr59.mul s.m n f) : Nat) : Int)) (ev_op0 (ev_var rfl) (ev_table (ev_var rfl) (ev_var rfl) (ev_var rfl) (ha.mono e) hn2 hf1) (congrArg V.int (bx _ _))) fun H3 e3 => ?_
    exact s_asg (v := .int ((Sr59.mul s.m f i : Nat) : Int)) (ev_table (ev_var rfl) (ev_var rfl) (ev_var rfl) (ha.mono (e.trans e3)) hf1 hi) fun H4 e4 => ⟨(e.trans e3).trans e4, _, _, _, rfl, mul_lt hm hf1 hi, hl⟩
  · subst hσ
    have hlen : ((numsI s x).map V.int).length = (nums s x).length := by
      unfold numsI
      rw [List.length_map, List.length_map]
    rw [hlen, List.drop_length] at hl
    have hr : r = lp s.m i (nums s x) 1 0 := hl
    refine s_ret (v := .int ((r % 2 : Nat) : Int)) (ev_op0 (ev_var rfl) ev_c ?_) fun H3 e3 => k _ H3 (e.trans e3) ?_
    · rw [ba1]
      have e5 : ((r : Nat) : Int) % 2 = ((r % 2 : Nat) : Int) := by omega
      rw [e5]
    · rw [hr, coin_plain hs hf hi]
theorem rowI_map (s : Space) (x : Nat) : (rowI s x).map V.int = (List.range (2 ^ s.m)).map fun (i : Nat) => V.int (bit (Sr59.coin s x i)) := by
  unfold rowI Sr59.row Sr59.coins
  rw [List.map_map, List.map_map]
  rfl
theorem table_len (m : Nat) : (tableI m).length = 2 ^ m := by
  unfold tableI
  rw [List.length_map, List.length_range]
theorem ev_lenT {ta : TE} {σ : L2.St} {H : Hp} {a : V} {m : Nat} (ha : Ev ta σ H a) (h : IsLL a H (tableI m)) : Ev (tCB (rLenS K) (tCons ta tNil)) σ H (.int ((2 ^ m : Nat) : Int)) := by
  have q := ev_lenO (K := K) ha h
  rw [table_len] at q
  exact q
theorem pu_coins_of (vs : List V) (H : Hp) (Q : VK) (E : XK) (h : sp_coins_of K vs H Q E) : t_coins_of K { nx := fun _ H' => Q .non H', rt := Q } (L2.start ["products", "numbers", "is_faint", "coin"] vs) H := by
  obtain ⟨_, xs, ⟨a, b, s, x, rfl, ha, hb, hs, rfl⟩, k⟩ := h
  show t_coins_of K _ [some a, some b, some (.bl s.faint), none] H
  have h64 := pow_le6 hs.sz.m
  refine q_when (b := s.faint) (et_B (ev_var rfl)) (fun hf H1 e1 => ?_) (fun hf H1 e1 => ?_)
  · refine s_retL (el_lcR (n := 2 ^ s.m) (fun i => V.int (bit (Sr59.coin s x i))) (ea_cons (ev_lenT (ev_var rfl) (ha.mono e1)) ea_nil) (by omega) (fun _ => rfl) fun i H2 e2 hi => ?_) fun p H2 hp e2 h2 => k p H2 (fresh_back e1 hp) (e1.trans e2) (h2.trans (by rw [rowI_map]))
    exact ev_callv (ea_cons (ev_var rfl) (ea_cons (ev_var rfl) (ea_cons (ev_var rfl) ea_nil))) rfl fun H3 e3 => ⟨a, b, s, x, i, rfl, ha.mono ((e1.trans e2).trans e3), hb.mono ((e1.trans e2).trans e3), hs, hf, hi, rfl⟩
  · refine s_retL (el_lcR (n := 2 ^ s.m) (fun i => V.int (bit (Sr59.coin s x i))) (ea_cons (ev_lenT (ev_var rfl) (ha.mono e1)) ea_nil) (by omega) (fun _ => rfl) fun i H2 e2 hi => ?_) fun p H2 hp e2 h2 => k p H2 (fresh_back e1 hp) (e1.trans e2) (h2.trans (by rw [rowI_map]))
    exact ev_callv (ea_cons (ev_var rfl) (ea_cons (ev_var rfl) (ea_cons (ev_var rfl) ea_nil))) rfl fun H3 e3 => ⟨a, b, s, x, i, rfl, ha.mono ((e1.trans e2).trans e3), hb.mono ((e1.trans e2).trans e3), hs, hf, hi, rfl⟩
theorem seeds_le {s : Space} (h : SpOk s) : Sr59.seeds s ≤ 1024 := Nat.pow_le_pow_right (by decide) h.sz.mk10
theorem rowsI_len (s : Space) : (rowsI s).length = Sr59.seeds s := by
  unfold rowsI
  rw [List.length_map, List.length_range]
theorem rowsI_at {s : Space} {x : Nat} (h : x < Sr59.seeds s) : (rowsI s)[x]? = some (rowI s x) := by
  unfold rowsI
  rw [List.getElem?_map, List.getElem?_range h]
  rfl
theorem pu_all_rows (vs : List V) (H : Hp) (Q : VK) (E : XK) (h : sp_all_rows K vs H Q E) : t_all_rows K { nx := fun _ H' => Q .non H', rt := Q } (L2.start ["products", "digits", "many", "is_faint", "found", "seed"] vs) H := by
  obtain ⟨_, P, ⟨a, s, rfl, ha, hs, rfl⟩, k⟩ := h
  show t_all_rows K _ [some a, some (.int s.m), some (.int s.k), some (.bl s.faint), none, none] H
  have h6 := hs.sz.m6
  have h10 := hs.sz.mk10
  have hz := seeds_le hs
  refine q_asgL (el_lst ea_nil (Nat.zero_le _)) fun q H1 hq e1 h1 => ?_
  have shl : Ev (tOp qShl (tC (.int 1)) (tOp qMul (tVar 1) (tVar 2))) [some a, some (.int s.m), some (.int s.k), some (.bl s.faint), some (.ref q), none] H1 (.int ((Sr59.seeds s : Nat) : Int)) :=
    ev_opC ev_c (ev_opC (ev_var rfl) (ev_var rfl) (.inl ⟨by omega, by omega⟩) rfl) ⟨Int.mul_nonneg (Int.natCast_nonneg _) (Int.natCast_nonneg _), by rw [← Int.natCast_mul]; omega, by decide⟩ (by
      rw [Int.one_mul, ← Int.natCast_mul, Int.toNat_natCast]
      unfold Sr59.seeds
      rw [Int.natCast_pow]
      rfl)
  refine q_forR1 (n := ((Sr59.seeds s : Nat) : Int)) (ea_cons shl ea_nil) ⟨by omega, by omega⟩
    (fun i σ H' => Ex H H' ∧ (∃ w, σ = [some a, some (.int s.m), some (.int s.k), some (.bl s.faint), some (.ref q), w]) ∧ ∃ ps : List Addr, H' q = some (.lst (ps.map V.ref)) ∧ Paired (fun p r => p ≠ q ∧ H' p = some (.lst (r.map V.int))) ps ((rowsI s).take i))
    (fun H2 e2 => ⟨e1.trans e2, ⟨none, rfl⟩, [], e2 _ _ h1, .nil⟩) (fun i σ H' hi ⟨e, ⟨w, hσ⟩, ps, hps, pd⟩ => ?_) (fun σ H' ⟨e, ⟨w, hσ⟩, ps, hps, pd⟩ => ?_)
  · subst hσ
    have hi2 : i < Sr59.seeds s := by omega
    have hlen : ps.length = ((rowsI s).take i).length := Paired.length pd
    have hl2 : ps.length ≤ 1024 := by
      rw [hlen, List.length_take, rowsI_len]
      omega
    refine s_appL hps (ev_var rfl) (ys := (rowI s i).map V.int) (el_callA (A := fun vs H2 => ∃ b, vs = [a, b, .bl s.faint] ∧ IsL b H2 (numsI s i)) (eap_v (ev_var rfl) (eap_cons (evp_l (el_callv (ea_cons (ev_var rfl) (ea_cons (ev_var rfl) (ea_cons (ev_var rfl) ea_nil))) rfl fun H2 e2 => ⟨s, i, rfl, hs.sz, rfl⟩)) fun v H2 e2 ⟨p, hv, hp⟩ =>
        eap_v (ev_var rfl) (eap_nil fun H3 e3 => ⟨v, rfl, p, hv, e3 _ _ hp⟩))) fun vs H2 e2 ⟨b, hvs, hb⟩ => by
          subst hvs
          exact ⟨rfl, a, b, s, i, rfl, ha.mono (e.trans e2), hb, hs, rfl⟩) (by rw [List.length_map]; omega) fun p H2 hp e2 h2 => ?_
    have hpq : p ≠ q := fun z => by
      rw [z, hps] at hp
      cases hp
    refine ⟨Ex.mut (e.trans e2) hq, ⟨_, rfl⟩, ps ++ [p], ?_, ?_⟩
    · rw [upd_same, List.map_append]
      rfl
    · rw [take_succ_of (rowsI_at hi2)]
      refine Paired.snoc (Paired.mapP pd fun r t ⟨t1, t2⟩ => ⟨t1, ?_⟩) ⟨hpq, ?_⟩
      · rw [upd_ne t1]
        exact e2 _ _ t2
      · rw [upd_ne hpq]
        exact h2
  · subst hσ
    rw [Int.toNat_natCast, ← rowsI_len, List.take_length] at pd
    refine s_ret (ev_var rfl) fun H3 e3 => k _ H3 (e.trans e3) ⟨q, ps.map V.ref, rfl, e3 _ _ hps, pd_mapl (Paired.mapP pd fun p r ⟨_, h⟩ => ⟨p, rfl, e3 _ _ h⟩)⟩
end
end Fc
/-! P3: how many lie so, how many are odd; fractions.py; lists compared. -/
namespace Fc
open PySem PySem.Spec PyProof.Rows L2 Evl
open Sr58 (bit frac)
open Sr59 (Space)
/-! ### lists of ints as data -/
def dL (ns : List Int) : PyData := .list (ns.map PyData.int)
theorem layI : ∀ ns : List Int, PyData.canLayAll0 (ns.map PyData.int) = true
  | [] => by simp [PyData.canLayAll0]
  | n :: ns => by simp [PyData.canLayAll0, PyData.canLay0, layI ns]
theorem depthI : ∀ ns : List Int, PyData.depthAll (ns.map PyData.int) ≤ 1
  | [] => by simp [PyData.depthAll]
  | n :: ns => by
    have h := depthI ns
    simp only [List.map_cons, PyData.depthAll, PyData.depth]
    omega
theorem shapedI (ns : List Int) : SeqAt.shaped (dL ns) = true := by
  have h1 := depthI ns
  show ((dL ns).canLay0 && decide ((dL ns).depth ≤ 64)) = true
  rw [Bool.and_eq_true]
  exact ⟨by simp only [dL, PyData.canLay0]; exact layI ns, decide_eq_true (by simp only [dL, PyData.depth]; omega)⟩
theorem eqvAllI : ∀ xs ys : List Int, PyData.eqvAll (xs.map PyData.int) (ys.map PyData.int) = decide (xs = ys)
  | [], [] => by simp [PyData.eqvAll]
  | [], y :: ys => by simp [PyData.eqvAll]
  | x :: xs, [] => by simp [PyData.eqvAll]
  | x :: xs, y :: ys => by
    have h := eqvAllI xs ys
    simp only [List.map_cons, PyData.eqvAll, PyData.eqv, h]
    by_cases e : x = y
    · subst e
      by_cases e2 : xs = ys
      · subst e2
        simp
      · simp [e2]
    · simp [e]
theorem eqvI (xs ys : List Int) : PyData.eqv (dL xs) (dL ys) = decide (xs = ys) := by
  unfold dL
  rw [PyData.eqv]
  exact eqvAllI xs ys
theorem dpAllI {K : PySem.W.Frag} {H : Hp} : ∀ ns : List Int, DpAll K H (ns.map V.int) (ns.map PyData.int)
  | [] => .nil
  | n :: ns => .cons (.int n) (dpAllI ns)
theorem dpI {K : PySem.W.Frag} {H : Hp} {v : V} {ns : List Int} (h : IsL v H ns) : Dp K H v (dL ns) := by
  obtain ⟨a, rfl, h⟩ := h
  exact .lst (sq_of h) (dpAllI ns)
def dLL (rs : List (List Int)) : PyData := .list (rs.map dL)
theorem layII : ∀ rs : List (List Int), PyData.canLayAll0 (rs.map dL) = true
  | [] => by simp [PyData.canLayAll0]
  | n :: ns => by
    have h : (dL n).canLay0 = true := by
      simp only [dL, PyData.canLay0]
      exact layI n
    simp [PyData.canLayAll0, layII ns, h]
theorem depthII : ∀ rs : List (List Int), PyData.depthAll (rs.map dL) ≤ 2
  | [] => by simp [PyData.depthAll]
  | n :: ns => by
    have h := depthII ns
    have h1 : (dL n).depth ≤ 2 := by
      have := depthI n
      simp only [dL, PyData.depth]
      omega
    simp only [List.map_cons, PyData.depthAll]
    omega
theorem shapedII (rs : List (List Int)) : SeqAt.shaped (dLL rs) = true := by
  have h1 := depthII rs
  show ((dLL rs).canLay0 && decide ((dLL rs).depth ≤ 64)) = true
  rw [Bool.and_eq_true]
  exact ⟨by simp only [dLL, PyData.canLay0]; exact layII rs, decide_eq_true (by simp only [dLL, PyData.depth]; omega)⟩
theorem dpAllII {K : PySem.W.Frag} {H : Hp} : ∀ {vs : List V} {rs : List (List Int)}, Paired (fun v r => IsL v H r) vs rs → DpAll K H vs (rs.map dL)
  | _, _, .nil => .nil
  | _, _, .cons h t => .cons (dpI h) (dpAllII t)
theorem dpII {K : PySem.W.Frag} {H : Hp} {v : V} {rs : List (List Int)} (h : IsLL v H rs) : Dp K H v (dLL rs) := by
  obtain ⟨a, vs, rfl, h, pd⟩ := h
  exact .lst (sq_of h) (dpAllII pd)
theorem eqvII_nil (rs : List (List Int)) : PyData.eqv (dLL rs) (dL []) = decide (rs = []) := by
  unfold dLL dL
  cases rs with
  | nil => simp [PyData.eqv, PyData.eqvAll]
  | cons r rs => simp [PyData.eqv, PyData.eqvAll]
section
variable {K : PySem.W.Frag} {mg : Str → Option Value}
section
variable {σ : L2.St} {H : Hp} {ta tb : TE} {c : V}
theorem ev_eqN {xs ys : List Int} (ha : EvL ta σ H (xs.map V.int)) (hb : Ev tb σ H c) (hc : IsL c H ys) : Ev (tOp (rEqD K) ta tb) σ H (.bl (decide (xs = ys))) :=
  ev_opL1 ha (fun H1 e => hb.mono e) fun p H1 hp e => rv_val fun H2 e2 Q q => ⟨dL xs, dL ys, dpI ⟨p, rfl, e2 _ _ hp⟩, dpI (hc.mono (e.trans e2)), shapedI _, shapedI _, by rw [eqvI]; exact q⟩
theorem ev_eqLL {xs ys : List Int} {b : V} (ha : Ev ta σ H b) (hb : Ev tb σ H c) (h1 : IsL b H xs) (h2 : IsL c H ys) : Ev (tOp (rEqD K) ta tb) σ H (.bl (decide (xs = ys))) :=
  ev_op ha hb (rv_val fun H2 e2 Q q => ⟨dL xs, dL ys, dpI (h1.mono e2), dpI (h2.mono e2), shapedI _, shapedI _, by rw [eqvI]; exact q⟩)
/-- xs == [] -/
theorem ev_isNil {xs : List Int} {b : V} (ha : Ev ta σ H b) (h1 : IsL b H xs) : Ev (tOp (rEqD K) ta (tLst tNil)) σ H (.bl (decide (xs = []))) :=
  ev_opL (xs := []) ha (el_lst ea_nil (Nat.zero_le _)) fun p H1 hp e => rv_val fun H2 e2 Q q => ⟨dL xs, dL [], dpI (h1.mono (e.trans e2)), dpI ⟨p, rfl, e2 _ _ hp⟩, shapedI _, shapedI _, by rw [eqvI]; exact q⟩
theorem ev_isNilL {rs : List (List Int)} {b : V} (ha : Ev ta σ H b) (h1 : IsLL b H rs) : Ev (tOp (rEqD K) ta (tLst tNil)) σ H (.bl (decide (rs = []))) :=
  ev_opL (xs := []) ha (el_lst ea_nil (Nat.zero_le _)) fun p H1 hp e => rv_val fun H2 e2 Q q => ⟨dLL rs, dL [], dpII (h1.mono (e.trans e2)), dpI ⟨p, rfl, e2 _ _ hp⟩, shapedII _, shapedI _, by rw [eqvII_nil]; exact q⟩
/-- [row[c] for c in coins], the row in slot i -/
theorem el_row {i j : Nat} {a b : V} {r cs : List Int} {M : Nat} (ha : ∀ x, ((wipe σ [j]).set j (some x))[i]? = some (some a)) (hb : Ev tb σ H b) (h1 : IsL a H r) (h2 : IsL b H cs) (hl : r.length = M) (hc : ∀ c ∈ cs, 0 ≤ c ∧ c < (M : Int)) (few : cs.length ≤ 70)
    (hw : ∀ x, wipe ((wipe σ [j]).set j (some x)) [j] = wipe σ [j]) (hj : ∀ x, ((wipe σ [j]).set j (some x))[j]? = some (some x)) : EvL (tLc (iList K tb) (gName j) tYes (tOp (rIxL K) (tVar i) (tVar j)) [j]) σ H ((cs.map (atC r)).map V.int) := by
  obtain ⟨p, rfl, h2⟩ := h2
  have q := el_lcI (K := K) (te := tOp (rIxL K) (tVar i) (tVar j)) (fun c => V.int (atC r c)) hb (sq_of h2) (by omega) hw fun n H1 e hn => by
    obtain ⟨n0, n1⟩ := hc n hn
    obtain ⟨k, rfl⟩ := Int.eq_ofNat_of_zero_le n0
    have hk : k < r.length := by omega
    refine ev_ixI (j := k) (ev_var (ha _)) (ev_var (hj _)) (h1.mono e) ?_
    unfold atC
    rw [Int.toNat_natCast, List.getD_eq_getElem?_getD, List.getElem?_eq_getElem hk]
    rfl
  rw [List.map_map]
  exact q
theorem zip_filter {α β : Type} (p : β → Bool) : ∀ (vs : List α) (xs : List β), vs.length = xs.length → ((vs.zip xs).filter fun y => p y.2).length = (xs.filter p).length
  | [], [], _ => rfl
  | v :: vs, x :: xs, h => by
    have ih := zip_filter p vs xs (by simpa using h)
    rw [List.zip_cons_cons, List.filter_cons, List.filter_cons]
    cases p x with
    | true => simpa using ih
    | false => simpa using ih
/-- [row for row in rows if test], its length -/
theorem ev_count {tl : TE} {tt : TT} {a : V} {R : List (List Int)} {j : Nat} (p : List Int → Bool) (ha : Ev tl σ H a) (hR : IsLL a H R) (hz : R.length ≤ 40000) (hw : ∀ x, wipe ((wipe σ [j]).set j (some x)) [j] = wipe σ [j]) (hj : ∀ x, ((wipe σ [j]).set j (some x))[j]? = some (some x))
    (ht : ∀ (v : V) (r : List Int) H1, Ex H H1 → r ∈ R → IsL v H1 r → EvT tt ((wipe σ [j]).set j (some v)) H1 (p r)) :
    Ev (tCB (rLenS K) (tCons (tLc (iList K tl) (gName j) tt (tVar j) [j]) tNil)) σ H (.int ((R.filter p).length : Int)) := by
  obtain ⟨q, vs, rfl, hq, pd⟩ := hR
  have hl := Paired.length pd
  have z := el_lc1 (K := K) (l := vs.zip R) (te := tVar j) (t := tt) (fun y => p y.2) (fun y => y.1) ha (sq_of hq) (by rw [List.length_zip]; omega) (by rw [List.length_zip]; omega) hw fun i x y H1 e hi hy => by
    have hy1 : vs[i]? = some y.1 ∧ R[i]? = some y.2 := by
      rw [List.getElem?_zip_eq_some] at hy
      exact hy
    rw [hi] at hy1
    obtain ⟨e1, e2⟩ := hy1
    cases e1
    exact ⟨ht y.1 y.2 H1 e (List.mem_of_getElem? e2) ((pd_both pd hi e2).mono e), fun _ => ev_var (hj _)⟩
  have z2 := ev_lenN (K := K) z
  rw [List.length_map, zip_filter p vs R hl] at z2
  exact z2
end
theorem pu_how_many_lie (vs : List V) (H : Hp) (Q : VK) (E : XK) (h : sp_how_many_lie K vs H Q E) : t_how_many_lie K { nx := fun _ H' => Q .non H', rt := Q } (L2.start ["rows", "coins", "wanted", "row", "coin"] vs) H := by
  obtain ⟨_, P, ⟨a, b, c, M, R, cs, ws, rfl, ha, hb, hc, ok, rfl⟩, k⟩ := h
  show t_how_many_lie K _ [some a, some b, some c, none, none] H
  exact s_ret (ev_count (fun r => decide (cs.map (atC r) = ws)) (ev_var rfl) ha (by have := ok.few; omega) (fun _ => rfl) (fun _ => rfl) (fun v r H1 e hr hv => et_test (ev_eqN (el_row (fun _ => rfl) (ev_var rfl) hv (hb.mono e) (ok.len r hr) ok.lt ok.fewc (fun _ => rfl) (fun _ => rfl)) (ev_var rfl) (hc.mono e)))) fun H1 e1 => k _ H1 e1 rfl
theorem pu_how_many_odd (vs : List V) (H : Hp) (Q : VK) (E : XK) (h : sp_how_many_odd K vs H Q E) : t_how_many_odd K { nx := fun _ H' => Q .non H', rt := Q } (L2.start ["rows", "coins", "row", "coin"] vs) H := by
  obtain ⟨_, P, ⟨a, b, M, R, cs, rfl, ha, hb, ok, rfl⟩, k⟩ := h
  show t_how_many_odd K _ [some a, some b, none, none] H
  exact s_ret (ev_count (fun r => decide ((cs.map (atC r)).sum % 2 = 1)) (ev_var rfl) ha (by have := ok.few; omega) (fun _ => rfl) (fun _ => rfl) (fun v r H1 e hr hv => et_eqI (ev_opC (ev_sumN (evp_l (el_row (fun _ => rfl) (ev_var rfl) hv (hb.mono e) (ok.len r hr) ok.lt ok.fewc (fun _ => rfl) (fun _ => rfl)))) ev_c (by decide) rfl) ev_c)) fun H1 e1 => k _ H1 e1 rfl
/-! ### fractions.py -/
theorem gcd_turn (a b : Nat) : Nat.gcd (b % a) a = Nat.gcd a b := (Nat.gcd_rec a b).symm
theorem pu_shared (vs : List V) (H : Hp) (Q : VK) (E : XK) (h : sp_shared K vs H Q E) : t_shared K { nx := fun _ H' => Q .non H', rt := Q } (L2.start ["one", "other"] vs) H := by
  obtain ⟨_, P, ⟨n, d, rfl, hd, rfl⟩, k⟩ := h
  show t_shared K _ [some (.int n), some (.int d)] H
  have abs : Ev (tCB rAbs (tCons (tVar 0) tNil)) [some (.int n), some (.int d)] H (.int ((n.natAbs : Nat) : Int)) := ev_cb (ea_cons (ev_var rfl) ea_nil) fun H1 e Q q => ⟨n, rfl, by
    have z : (if n < 0 then -n else n) = ((n.natAbs : Nat) : Int) := by
      split <;> omega
    rw [z]
    exact q H1 (Ex.refl _)⟩
  refine q_asg abs fun H1 e1 => ?_
  refine q_while (fun m σ H' => Ex H H' ∧ ∃ x y : Nat, σ = [some (.int x), some (.int y)] ∧ m = x ∧ Nat.gcd x y = Nat.gcd n.natAbs d) n.natAbs ⟨e1, n.natAbs, d, rfl, rfl, rfl⟩ ?_
  rintro m σ H' ⟨e, x, y, rfl, rfl, hg⟩
  refine ⟨decide ((0 : Int) < (m : Int)), et_op (g := fun i j => decide (j < i)) (ev_var rfl) ev_c, fun hb H3 e3 => ?_, fun hb H3 e3 => ?_⟩
  · have hpos : 0 < m := by
      have := of_decide_eq_true hb
      omega
    refine ⟨fun σ H' => Ex H H' ∧ ∃ x : Nat, σ = [some (.int x), some (.int m)] ∧ x < m ∧ Nat.gcd x m = Nat.gcd n.natAbs d, fun σ2 H2 ⟨e2, x, h1, h2, h3⟩ => ⟨x, h2, e2, x, m, h1, rfl, h3⟩, ?_⟩
    refine s_par (x := .int ((y % m : Nat) : Int)) (y := .int m) (ea_cons (ev_opC (ev_var rfl) (ev_var rfl) (show (0 : Int) < (m : Int) by omega) (by rw [Int.natCast_emod])) (ea_cons (ev_var rfl) ea_nil)) fun H4 e4 => ⟨(e.trans e3).trans e4, y % m, rfl, Nat.mod_lt _ hpos, ?_⟩
    rw [gcd_turn, hg]
  · have hz : m = 0 := by
      have := of_decide_eq_false hb
      omega
    subst hz
    rw [Nat.gcd_zero_left] at hg
    exact s_ret (ev_var rfl) fun H4 e4 => k _ H4 ((e.trans e3).trans e4) (by rw [hg])
theorem pu_told_fraction (vs : List V) (H : Hp) (Q : VK) (E : XK) (h : sp_told_fraction K vs H Q E) : t_told_fraction K { nx := fun _ H' => Q .non H', rt := Q } (L2.start ["top", "bottom", "part"] vs) H := by
  obtain ⟨_, xs, ⟨n, d, rfl, hd, hb, rfl⟩, k⟩ := h
  show t_told_fraction K _ [some (.int n), some (.int d), none] H
  refine q_asg (ev_callv (v := .int ((Nat.gcd n.natAbs d : Nat) : Int)) (ea_cons (ev_var rfl) (ea_cons (ev_var rfl) ea_nil)) rfl fun H1 e1 => ⟨n, d, rfl, hd, rfl⟩) fun H1 e1 => ?_
  have hg : 0 < Nat.gcd n.natAbs d := gcd_pos hd
  have hgd : Nat.gcd n.natAbs d ≤ d := Nat.le_of_dvd (Nat.pos_of_ne_zero hd) (Nat.gcd_dvd_right _ _)
  have hw : CDivW n ((Nat.gcd n.natAbs d : Nat) : Int) := wide_div (b := 8000) (by omega) (by rw [Int.natAbs_natCast]; exact Nat.lt_of_le_of_lt hgd hb) (by decide) (by decide)
  refine s_retL (el_lst (ea_cons (ev_opC (v := .int (frac n d).n) (ev_var rfl) (ev_var rfl) hw (by rw [frac_parts hd])) (ea_cons (ev_opC (v := .int ((frac n d).d : Int)) (ev_var rfl) (ev_var rfl) hw (by rw [frac_parts hd]; rfl)) ea_nil)) (by show 2 ≤ 100000; decide)) fun p H2 hp e2 h2 => k p H2 (fresh_back e1 hp) (e1.trans e2) h2
end
end Fc
/-! P4: terms.py, the terms themselves. -/
namespace Fc
open PySem PySem.Spec PyProof.Rows L2 Evl
open Sr58 (Term holds bit frac)
open Sr59 (Space)
section
variable {K : PySem.W.Frag} {mg : Str → Option Value}
/-! ### fields by place -/
theorem lk_hd {k : Str} {v : V} {r : List (Str × V)} : List.lookup k ((k, v) :: r) = some v := by
  have e : (k == k) = true := beq_self_eq_true k
  simp only [List.lookup, e]
theorem lk_tl {k g : Str} {v : V} {r : List (Str × V)} (h : (k == g) = false) : List.lookup k ((g, v) :: r) = List.lookup k r := by
  simp only [List.lookup, h]
theorem pt_hd {f : Str} {v x : V} {r : List (Str × V)} : putF f v ((f, x) :: r) = (f, v) :: r := if_pos rfl
theorem pt_tl {f g : Str} {v x : V} {r : List (Str × V)} (h : ¬ g = f) : putF f v ((g, x) :: r) = (g, x) :: putF f v r := if_neg h
theorem pt_nl {f : Str} {v : V} : putF f v [] = [(f, v)] := rfl
section
variable {w least : Int} {lv : V}
theorem tm_weight : (tmF w lv least).lookup ("weight" : Str) = some (.int w) := lk_hd
theorem tm_told : (tmF w lv least).lookup ("told" : Str) = some lv := (lk_tl (by decide +kernel)).trans lk_hd
theorem tm_least : (tmF w lv least).lookup ("least" : Str) = some (.int least) := (lk_tl (by decide +kernel)).trans ((lk_tl (by decide +kernel)).trans lk_hd)
theorem tm_put : putF "least" (.int least) (putF "told" lv (putF "weight" (.int w) [])) = tmF w lv least := by
  rw [pt_nl, pt_tl (by decide +kernel), pt_nl, pt_tl (by decide +kernel), pt_tl (by decide +kernel), pt_nl]
  rfl
end
section
variable {σ : L2.St} {H : Hp} {ta : TE} {w least : Int} {lv : V} {a dx : Addr}
theorem ev_weight (T : Txt K mg) (h : Ev ta σ H (.ref a)) (ho : H a = some (.ins (ad K "Term") dx (tmF w lv least))) : Ev (tFld K ta "weight") σ H (.int w) := ev_fld h ho (T.cls 89) (T.noat 91) tm_weight
theorem ev_told (T : Txt K mg) (h : Ev ta σ H (.ref a)) (ho : H a = some (.ins (ad K "Term") dx (tmF w lv least))) : Ev (tFld K ta "told") σ H lv := ev_fld h ho (T.cls 89) (T.noat 92) tm_told
theorem ev_least (T : Txt K mg) (h : Ev ta σ H (.ref a)) (ho : H a = some (.ins (ad K "Term") dx (tmF w lv least))) : Ev (tFld K ta "least") σ H (.int least) := ev_fld h ho (T.cls 89) (T.noat 93) tm_least
end
theorem pu_Term__init__ (T : Txt K mg) (vs : List V) (H : Hp) (Q : VK) (E : XK) (h : sp_Term__init__ K vs H Q E) : t_Term__init__ K { nx := fun _ H' => Q .non H', rt := Q } (L2.start ["self", "weight", "told", "least"] vs) H := by
  obtain ⟨_, p, dx, w, least, lv, rfl, hp, k⟩ := h
  show t_Term__init__ K _ [some (.ref p), some (.int w), some lv, some (.int least)] H
  refine ⟨_, rfl, _, rfl, p, ad K "Term", dx, [], rfl, hp, T.cls 89, T.noat 91, (by show 0 < 1000; decide), ?_⟩
  refine ⟨_, rfl, _, rfl, p, ad K "Term", dx, _, rfl, upd_same, T.cls 89, T.noat 92, (by show 1 < 1000; decide), ?_⟩
  refine ⟨_, rfl, _, rfl, p, ad K "Term", dx, _, rfl, upd_same, T.cls 89, T.noat 93, (by
    rw [pt_nl, pt_tl (by decide +kernel), pt_nl]
    show 2 < 1000
    decide), ?_⟩
  refine k _ (upd_same.trans ?_) fun b o hb e => by
    rw [upd_ne hb, upd_ne hb, upd_ne hb]
    exact e
  rw [tm_put]
/-- Term(..) -/
theorem evp_term {σ : L2.St} {H : Hp} {tr : TA} {A : List V → Hp → Prop} {P : VP} (h : EvAP tr σ H A) (hk : ∀ vs H1, Ex H H1 → A vs H1 → ∃ (w least : Int) (lv : V) (told : List (Int × Int)), vs = [.int w, lv, .int least] ∧ IsTold lv H1 told ∧ ∀ v H2, Ex H1 H2 → TmAt K v H2 w told least → P v H2) :
    EvP (tMake (ad K "Term") (sp_Term__init__ K) [] E0 tr) σ H P := fun H1 e Q q => h H1 e _ fun vs H2 e2 a => by
  intro x dx nx nd ne
  obtain ⟨w, least, lv, told, rfl, ht, hP⟩ := hk vs H2 (e.trans e2) a
  refine ⟨rfl, x, dx, w, least, lv, rfl, upd_same, fun H' hx kb => ⟨rfl, ?_⟩⟩
  have e3 : Ex H2 H' := fun b o hb => kb b o (ne_of_none hb nx) (by
    rw [upd_ne (ne_of_none hb nx), upd_ne (ne_of_none hb nd)]
    exact hb)
  exact q _ H' (e2.trans e3) (hP _ H' e3 ⟨x, dx, lv, rfl, hx, ht.mono e3⟩)
/-! ### pairs -/
theorem nat_div2 (x : Nat) : ((x : Nat) : Int) / 2 = ((x / 2 : Nat) : Int) := by omega
theorem nat_mod2 (x : Nat) : ((x : Nat) : Int) % 2 = ((x % 2 : Nat) : Int) := by omega
/-- the pair of a list of two -/
def pr2 (l : List Int) : Int × Int := (l.getD 0 0, l.getD 1 0)
def l2 (x : Nat) : List Int := [((x / 2 : Nat) : Int), ((x % 2 : Nat) : Int)]
theorem pr2_l2 (x : Nat) : pr2 (l2 x) = pairOf x := rfl
theorem natsI_map (l : List Nat) : (natsI l).map V.int = l.map fun (x : Nat) => V.int ((x : Nat) : Int) := by
  unfold natsI
  rw [List.map_map]
  rfl
theorem pd_zip {α β : Type} {F : α → β → Prop} : ∀ {vs : List α} {xs : List β}, Paired F vs xs → (∀ p ∈ vs.zip xs, F p.1 p.2) ∧ (vs.zip xs).map (·.1) = vs ∧ (vs.zip xs).map (·.2) = xs
  | _, _, .nil => ⟨fun p h => (nomatch h), rfl, rfl⟩
  | _, _, .cons h t => by
    obtain ⟨a, b, c⟩ := pd_zip t
    refine ⟨fun p hp => ?_, ?_, ?_⟩
    · rw [List.zip_cons_cons] at hp
      rcases List.mem_cons.mp hp with e | e
      · rw [e]
        exact h
      · exact a p e
    · rw [List.zip_cons_cons, List.map_cons, b]
    · rw [List.zip_cons_cons, List.map_cons, c]
/-- the pairs of a list, each a new tuple -/
def PairsAt (l : List Nat) (v : V) (H : Hp) : Prop := ∃ (p : Addr) (ps : List Addr), v = .ref p ∧ H p = some (.lst (ps.map V.ref)) ∧ Paired (fun q x => H q = some (.tup ((l2 x).map V.int))) ps l
/-- a set of such pairs -/
def PSetAt (P : Program) (w : World) (l : List Nat) (v : V) (H : Hp) : Prop := ∃ (S : Addr) (L : List (Addr × List Int)), v = .ref S ∧ H S = some (SetTO P w S L) ∧ (∀ q ∈ L, ∃ x ∈ l, q.2 = l2 x ∧ H q.1 = some (.tup ((l2 x).map V.int))) ∧ ∀ x ∈ l, l2 x ∈ L.map (·.2)
theorem rcp_pset {P : Program} {w : World} {l : List Nat} (few : l.length ≤ 20) {v : V} {H : Hp} (h : PairsAt l v H) : RCP (rSetOfT K P w) [v] H (PSetAt P w l) := fun H1 e Q q => by
  obtain ⟨p, ps, rfl, h1, pd⟩ := h
  have pd : Paired (fun q x => H1 q = some (.tup ((l2 x).map V.int))) ps l := Paired.mapP pd fun q x h => e _ _ h
  have pz := pd_zip pd
  have hpl : ps.length = l.length := Paired.length pd
  have e1 : ((ps.zip l).map fun q => (q.1, l2 q.2)).map (fun p => V.ref p.1) = ps.map V.ref := by
    rw [List.map_map]
    conv => rhs; rw [← pz.2.1, List.map_map]
    rfl
  refine ⟨p, (ps.zip l).map fun q => (q.1, l2 q.2), rfl, by rw [e1]; exact sq_of (e _ _ h1), fun q hq => ?_, ?_, fun S L hS sub all => q _ _ (Ex.new hS) ⟨S, L, rfl, upd_same, fun q hq => ?_, fun x hx => ?_⟩⟩
  · obtain ⟨r, hr, rfl⟩ := List.mem_map.mp hq
    exact st_of (pz.1 r hr)
  · rw [List.length_map, List.length_zip]
    omega
  · obtain ⟨r, hr, e2⟩ := List.mem_map.mp (sub q hq)
    rw [← e2]
    refine ⟨r.2, ?_, rfl, Ex.new hS _ _ (pz.1 r hr)⟩
    rw [← pz.2.2]
    exact List.mem_map_of_mem hr
  · obtain ⟨i, hi, e2⟩ := List.getElem_of_mem hx
    have hx2 : l[i]? = some x := by rw [List.getElem?_eq_getElem hi, e2]
    obtain ⟨r, hr, _⟩ := pd_get pd hx2
    exact all (r, l2 x) (List.mem_map.mpr ⟨(r, x), List.mem_of_getElem? (List.getElem?_zip_eq_some.mpr ⟨hr, hx2⟩), rfl⟩)
theorem rcp_told {P : Program} {w : World} {l : List Nat} {M : Nat} (hM : M ≤ 64) (hlt : ∀ x ∈ l, x < 2 * M) {v : V} {H : Hp} (h : PSetAt P w l v H) : RCP (rSortedT K P w) [v] H (fun v H2 => ∃ told, IsTold v H2 told ∧ AllOk M l told (told.length : Int)) := fun H1 e Q q => by
  obtain ⟨S, L, rfl, hS, sub, all⟩ := h
  refine ⟨S, L, 2, 64, rfl, e _ _ hS, fun q hq => ?_, by decide, fun q hq => ?_, fun L' r pm nd few _ hr => q _ _ (Ex.new hr) ⟨L'.map fun q => pr2 q.2, ?_, ?_⟩⟩
  · obtain ⟨x, _, e2, ht⟩ := sub q hq
    rw [e2]
    exact st_of (e _ _ ht)
  · obtain ⟨x, hx, e2, _⟩ := sub q hq
    have := hlt x hx
    rw [e2]
    refine ⟨rfl, fun m hm => ?_⟩
    rcases List.mem_cons.mp hm with e | hm
    · rw [e]
      omega
    · have e := List.mem_singleton.mp hm
      rw [e]
      omega
  · have gen : ∀ (L2 : List (Addr × List Int)), (∀ q ∈ L2, q ∈ L') → Paired (fun (q q' : Addr × List Int) => IsPair (.ref q.1) (upd H1 r (.lst (L'.map fun q => V.ref q.1))) (pr2 q'.2)) L2 L2 := by
      intro L2
      induction L2 with
      | nil => intro _; exact .nil
      | cons q L2 ih =>
        intro hs
        refine .cons ?_ (ih fun q' hq' => hs q' (List.mem_cons_of_mem _ hq'))
        obtain ⟨x, hx, e2, ht⟩ := sub q (pm.mem_iff.mp (hs q List.mem_cons_self))
        refine ⟨q.1, rfl, (Ex.new hr _ _ (e _ _ ht)).trans ?_⟩
        rw [e2]
        rfl
    exact ⟨r, L'.map fun q => V.ref q.1, rfl, upd_same, pd_mapl (pd_map (gen L' fun _ h => h))⟩
  · have told_eq : ∀ q ∈ L', ∃ x ∈ l, pr2 q.2 = pairOf x ∧ q.2 = l2 x := fun q hq => by
      obtain ⟨x, hx, e2, _⟩ := sub q (pm.mem_iff.mp hq)
      exact ⟨x, hx, by rw [e2, pr2_l2], e2⟩
    refine ⟨?_, fun z => ⟨fun hz => ?_, fun ⟨x, hx, e2⟩ => ?_⟩, rfl, hlt, by rw [List.length_map]; omega⟩
    · have e2 : (L'.map fun q => pr2 q.2) = (L'.map (·.2)).map pr2 := by
        rw [List.map_map]
        rfl
      rw [e2]
      refine nodup_map_on nd fun x hx y hy exy => ?_
      obtain ⟨q, hq, rfl⟩ := List.mem_map.mp hx
      obtain ⟨q', hq', rfl⟩ := List.mem_map.mp hy
      obtain ⟨x1, _, h1, h2⟩ := told_eq q hq
      obtain ⟨y1, _, h3, h4⟩ := told_eq q' hq'
      rw [h1, h3] at exy
      rw [h2, h4, pair_inj exy]
    · obtain ⟨q, hq, rfl⟩ := List.mem_map.mp hz
      obtain ⟨x, hx, e2, _⟩ := told_eq q hq
      exact ⟨x, hx, e2⟩
    · obtain ⟨q, hq, e3⟩ := List.mem_map.mp ((pm.map (·.2)).mem_iff.mpr (all x hx))
      refine List.mem_map.mpr ⟨q, hq, ?_⟩
      rw [e3, e2, pr2_l2]
theorem pu_all_term {P : Program} {w : World} (vs : List V) (H : Hp) (Q : VK) (E : XK) (h : sp_all_term K vs H Q E) : t_all_term P w K { nx := fun _ H' => Q .non H', rt := Q } (L2.start ["weight", "lie", "told", "number"] vs) H := by
  obtain ⟨_, Pp, ⟨M, wt, l, lv, rfl, hl, hM, hlt, hne, hfew, w1, w2, rfl⟩, k⟩ := h
  show t_all_term P w K _ [some (.int wt), some lv, none, none] H
  obtain ⟨a, rfl, hl⟩ := hl
  have pairs : EvP (tLc (iList K (tVar 1)) (gName 3) tYes (tTup (tCons (tOp qDiv (tVar 3) (tC (.int 2))) (tCons (tOp qMod (tVar 3) (tC (.int 2))) tNil))) [3]) [some (.int wt), some (.ref a), none, none] H (PairsAt l) := fun H0 e0 Q q =>
    evp_lcN (K := K) (l := l) (fun x => .tup ((l2 x).map V.int)) (ev_var rfl) (sq_of hl) (by rw [natsI_map, List.length_map]) (by omega) (fun _ => rfl) (fun i x y H1 e1 hx hy => by
      rw [natsI_map, List.getElem?_map, hy] at hx
      cases hx
      exact eu_tup (ea_cons (ev_opC (ev_var rfl) ev_c ⟨by decide, by decide⟩ (congrArg V.int (nat_div2 y))) (ea_cons (ev_opC (ev_var rfl) ev_c (by decide) (congrArg V.int (nat_mod2 y))) ea_nil)) (by show 2 ≤ 100000; decide)) H0 e0 _ fun p H1 ps hp e1 h1 pd => q _ H1 e1 ⟨p, ps, rfl, h1, Paired.mapP (pd_swap pd) fun r x hr => hr.2⟩
  refine qp_asg (evp_cb1 (evp_cb1 pairs fun v H1 e1 hv => rcp_pset (K := K) (P := P) (w := w) hfew hv) fun v H1 e1 hv => rcp_told hM hlt hv) fun v H1 e1 ⟨told, hv, ok⟩ => ?_
  refine sp_ret (evp_term (A := fun vs H2 => Ex H1 H2 ∧ vs = [.int wt, v, .int (told.length : Int)]) (eap_v (ev_var rfl) (eap_v (ev_var rfl) (eap_v (ev_lenO (ev_var rfl) hv) (eap_nil fun H2 e2 => ⟨e2, rfl⟩)))) fun vs H2 _ ⟨e2, he⟩ => ⟨wt, _, _, _, he, hv.mono e2, fun u H3 e3 h3 => ?_⟩) fun u H3 e3 h3 => k u H3 (e1.trans e3) h3
  exact ⟨_, _, h3, ⟨hne, ok⟩, w1, w2⟩
theorem pu_many_term (T : Txt K mg) (vs : List V) (H : Hp) (Q : VK) (E : XK) (h : sp_many_term K vs H Q E) : t_many_term K { nx := fun _ H' => Q .non H', rt := Q } (L2.start ["weight", "least", "coins", "coin"] vs) H := by
  obtain ⟨_, Pp, ⟨M, t, wt, s, lv, rfl, hl, hM, hlt, hne, hnd, ht, w1, w2, rfl⟩, k⟩ := h
  show t_many_term K _ [some (.int wt), some (.int t), some lv, none] H
  obtain ⟨a, rfl, hl⟩ := hl
  have hs : s.length ≤ 64 := by
    have q := nodup_sub_len (k := List.range M) hnd fun x hx => List.mem_range.mpr (hlt x hx)
    rw [List.length_range] at q
    omega
  have told : EvP (tLc (iList K (tVar 2)) (gName 3) tYes (tTup (tCons (tVar 3) (tCons (tC (.int 1)) tNil))) [3]) [some (.int wt), some (.int t), some (.ref a), none] H (fun v H2 => IsTold v H2 (s.map oneOf)) := fun H0 e0 Q q =>
    evp_lcN (K := K) (l := s) (fun x => .tup [.int (x : Nat), .int 1]) (ev_var rfl) (sq_of hl) (by rw [natsI_map, List.length_map]) (by omega) (fun _ => rfl) (fun i x y H1 e1 hx hy => by
      rw [natsI_map, List.getElem?_map, hy] at hx
      cases hx
      exact eu_tup (ea_cons (ev_var rfl) (ea_cons ev_c ea_nil)) (by show 2 ≤ 100000; decide)) H0 e0 _ fun p H1 ps hp e1 h1 pd => q _ H1 e1 ⟨p, ps.map V.ref, rfl, h1, pd_mapl (pd_map (Paired.mapP (pd_swap pd) fun r x hr => ⟨r, rfl, hr.2⟩))⟩
  refine sp_ret (evp_term (A := fun vs H2 => ∃ v, vs = [.int wt, v, .int t] ∧ IsTold v H2 (s.map oneOf)) (eap_v (ev_var rfl) (eap_cons told fun v H2 e2 hv => eap_v (ev_var rfl) (eap_nil fun H3 e3 => ⟨v, rfl, hv.mono e3⟩))) fun vs H2 e2 ⟨v, hv, h2⟩ => ⟨wt, _, _, _, hv, h2, fun v H3 e3 h3 => ?_⟩) fun v H3 e3 h3 => k v H3 e3 h3
  exact ⟨_, _, h3, ⟨hne, ht, ⟨rfl, rfl, hnd, hlt, by rw [List.length_map]; exact hs⟩⟩, w1, w2⟩
end
end Fc
/-! P5: terms.py, what is counted of them. -/
namespace Fc
open PySem PySem.Spec PyProof.Rows L2 Evl
open Sr58 (Term holds bit frac)
open Sr59 (Space)
section
variable {K : PySem.W.Frag} {mg : Str → Option Value}
theorem unTup {σ : L2.St} {i j : Nat} {x y : V} {t : Addr} {H : Hp} (h : H t = some (.tup [x, y])) (Q : L2.St → Hp → Prop) (q : Q ((σ.set i (some x)).set j (some y)) H) : gTup K 2 (gCons (gName i) (gCons (gName j) gNil)) (.ref t) σ H Q :=
  ⟨t, [x, y], rfl, st_of h, rfl, x, [y], rfl, y, [], rfl, rfl, q⟩
theorem told_at {H : Hp} {lv : V} {told : List (Int × Int)} (h : IsTold lv H told) : ∃ a vs, lv = .ref a ∧ H a = some (.lst vs) ∧ vs.length = told.length ∧ ∀ (i : Nat) (x : V) (y : Int × Int), vs[i]? = some x → told[i]? = some y → ∃ t, x = .ref t ∧ H t = some (.tup [.int y.1, .int y.2]) := by
  obtain ⟨a, vs, rfl, h, pd⟩ := h
  exact ⟨a, vs, rfl, h, Paired.length pd, fun i x y hx hy => pd_both pd hx hy⟩
theorem pu_is_so (T : Txt K mg) (vs : List V) (H : Hp) (Q : VK) (E : XK) (h : sp_is_so K vs H Q E) : t_is_so K { nx := fun _ H' => Q .non H', rt := Q } (L2.start ["term", "row", "coin", "wanted"] vs) H := by
  obtain ⟨_, P, ⟨a, b, t, x, rfl, ha, hb, rfl⟩, k⟩ := h
  show t_is_so K _ [some a, some b, none, none] H
  obtain ⟨told, least, ⟨o, dx, lv, rfl, ho, htold⟩, ok, _, _⟩ := ha
  obtain ⟨l, ws, rfl, hl, hlen, hit⟩ := told_at htold
  have few := ok.few
  have row : EvL (tLc (iList K (tFld K (tVar 0) "told")) (gTup K 2 (gCons (gName 2) (gCons (gName 3) gNil))) (tTest (tOp rEq (tOp (rIxL K) (tVar 1) (tVar 2)) (tVar 3))) (tVar 2) [2, 3]) [some (.ref o), some b, none, none] H
      ((told.filter fun p => decide ((x.map bit).getD p.1.toNat 0 = p.2)).map fun p => V.int p.1) :=
    el_lcG (fun p => decide ((x.map bit).getD p.1.toNat 0 = p.2)) (fun p => V.int p.1) (ev_told T (ev_var rfl) ho) (sq_of hl) hlen (by omega) fun i v y H1 e hv hy => by
      obtain ⟨u, rfl, hu⟩ := hit i v y hv hy
      obtain ⟨n0, n1⟩ := ok.lt y (List.mem_of_getElem? hy)
      obtain ⟨n, hn⟩ := Int.eq_ofNat_of_zero_le n0
      have hn2 : n < (x.map bit).length := by rw [List.length_map]; omega
      refine ⟨_, fun Q q => unTup (e _ _ hu) Q q, rfl, et_eqI (ev_ixI (j := n) (ev_var rfl) (ev_is (ev_var rfl) (congrArg V.int hn)) (hb.mono e) ?_) (ev_var rfl), fun _ => ev_var rfl⟩
      rw [hn]
      show _ = some ((x.map bit).getD n 0)
      rw [List.getD_eq_getElem?_getD, List.getElem?_eq_getElem hn2]
      rfl
  have cnt := ev_lenN (K := K) row
  rw [List.length_map] at cnt
  refine s_ret (ev_op0 cnt (ev_least T (ev_var rfl) ho) rfl) fun H1 e1 => k _ H1 e1 ?_
  have q := so_is x ok
  unfold soI at q
  rw [q]
theorem pu_worth_of (T : Txt K mg) (vs : List V) (H : Hp) (Q : VK) (E : XK) (h : sp_worth_of K vs H Q E) : t_worth_of K { nx := fun _ H' => Q .non H', rt := Q } (L2.start ["terms", "row", "term"] vs) H := by
  obtain ⟨_, P, ⟨a, b, ts, x, rfl, ha, few, hb, rfl⟩, k⟩ := h
  show t_worth_of K _ [some a, some b, none] H
  obtain ⟨l, ws, rfl, hl, pd⟩ := ha
  have row : EvL (tLc (iList K (tVar 0)) (gName 2) (tB (tCall (sp_is_so K) [] E0 (tCons (tVar 2) (tCons (tVar 1) tNil)))) (tFld K (tVar 2) "weight") [2]) [some (.ref l), some b, none] H ((ts.filter fun t => holds x t.sort).map fun t => V.int t.w) :=
    el_lc1 (fun t => holds x t.sort) (fun t => V.int t.w) (ev_var rfl) (sq_of hl) (Paired.length pd) (by omega) (fun _ => rfl) fun i v t H1 e hv ht => by
      have hT := (pd_both pd hv ht).mono e
      refine ⟨et_B (ev_callv (ea_cons (ev_var rfl) (ea_cons (ev_var rfl) ea_nil)) rfl fun H2 e2 => ⟨v, b, t, x, rfl, hT.mono e2, hb.mono (e.trans e2), rfl⟩), fun _ => ?_⟩
      obtain ⟨told, least, ⟨o, dx, lv, rfl, ho, _⟩, _⟩ := hT
      exact ev_weight T (ev_var rfl) ho
  have e : ((ts.filter fun t => holds x t.sort).map fun t => V.int t.w) = ((ts.filter fun t => holds x t.sort).map fun t => t.w).map V.int := by
    rw [List.map_map]
    rfl
  rw [e] at row
  exact s_ret (ev_sumN (evp_l row)) fun H1 e1 => k _ H1 e1 rfl
theorem pu_coins_looked_at (T : Txt K mg) {P : Program} {w : World} (vs : List V) (H : Hp) (Q : VK) (E : XK) (h : sp_coins_looked_at K vs H Q E) : t_coins_looked_at P w K { nx := fun _ H' => Q .non H', rt := Q } (L2.start ["term", "coin", "wanted"] vs) H := by
  obtain ⟨_, Pp, ⟨a, wt, told, least, rfl, ⟨o, dx, lv, rfl, ho, htold⟩, few, rfl⟩, k⟩ := h
  show t_coins_looked_at P w K _ [some (.ref o), none, none] H
  obtain ⟨l, ws, rfl, hl, hlen, hit⟩ := told_at htold
  have row : EvL (tLc (iList K (tFld K (tVar 0) "told")) (gTup K 2 (gCons (gName 1) (gCons (gName 2) gNil))) tYes (tVar 1) [1, 2]) [some (.ref o), none, none] H (((told.filter fun _ => true).map fun p => V.int p.1)) :=
    el_lcG (fun _ => true) (fun p => V.int p.1) (ev_told T (ev_var rfl) ho) (sq_of hl) hlen (by omega) fun i v y H1 e hv hy => by
      obtain ⟨u, rfl, hu⟩ := hit i v y hv hy
      exact ⟨_, fun Q q => unTup (e _ _ hu) Q q, rfl, et_yes, fun _ => ev_var rfl⟩
  have e : ((told.filter fun _ => true).map fun p => V.int p.1) = (told.map (·.1)).map V.int := by
    rw [filter_yes, List.map_map]
    rfl
  rw [e] at row
  refine sp_ret (evp_cb1 (P := fun v H2 => ∃ ns : List Int, IsL v H2 ns ∧ ns.Nodup ∧ ∀ c, c ∈ ns ↔ c ∈ told.map (·.1)) (evp_cb1 (P := fun v H2 => ∃ S n, v = .ref S ∧ n ≤ 64 ∧ H2 S = some (SetO w S (fun j => decide (j ∈ told.map (·.1))) n)) (evp_l row) fun v H1 e1 ⟨p, hv, hp⟩ H2 e2 Q2 q2 => ?_) fun v H1 e1 ⟨S, n, hv, hn, hS⟩ H2 e2 Q2 q2 => ?_) fun v H1 e1 hv => k v H1 e1 hv
  · subst hv
    exact ⟨p, told.map (·.1), rfl, sq_of (e2 _ _ hp), by rw [List.length_map]; omega, fun S n hS hn => q2 _ _ (Ex.new hS) ⟨S, n, rfl, by rw [List.length_map] at hn; omega, upd_same⟩⟩
  · subst hv
    exact ⟨S, _, n, rfl, e2 _ _ hS, by omega, fun ns p hs hm hp => q2 _ _ (Ex.new hp) ⟨ns, ⟨p, rfl, upd_same⟩, hs.imp fun hab hba => by omega, fun c => by rw [hm, decide_eq_true_iff]⟩⟩
/-! ### ways to choose -/
theorem ch_div {n i : Nat} (h : i < n) : ((ch n i : Nat) : Int) * (((n : Nat) : Int) - ((i : Nat) : Int)) / (((i : Nat) : Int) + 1) = ((ch n (i + 1) : Nat) : Int) := by
  have e := ch_step n i
  have e1 : ((n : Nat) : Int) - ((i : Nat) : Int) = ((n - i : Nat) : Int) := by omega
  have e2 : ((i : Nat) : Int) + 1 = ((i + 1 : Nat) : Int) := rfl
  rw [e1, e2, ← Int.natCast_mul, ← e, ← Int.natCast_ediv, Nat.mul_div_cancel _ (Nat.succ_pos i)]
theorem pu_ways_to_choose (vs : List V) (H : Hp) (Q : VK) (E : XK) (h : sp_ways_to_choose K vs H Q E) : t_ways_to_choose K { nx := fun _ H' => Q .non H', rt := Q } (L2.start ["few", "many", "found", "place"] vs) H := by
  obtain ⟨_, P, ⟨n, m, rfl, hmn, hn, rfl⟩, k⟩ := h
  show t_ways_to_choose K _ [some (.int m), some (.int n), none, none] H
  refine q_asg ev_c fun H1 e1 => ?_
  refine q_forR1 (n := (m : Int)) (ea_cons (ev_var rfl) ea_nil) ⟨by omega, by omega⟩
    (fun i σ H' => Ex H H' ∧ ∃ w, σ = [some (.int m), some (.int n), some (.int (ch n i : Nat)), w])
    (fun H3 e3 => ⟨e1.trans e3, none, by rw [ch_zero]; rfl⟩) (fun i σ H' hi ⟨e, w, hσ⟩ => ?_) (fun σ H' ⟨e, w, hσ⟩ => ?_)
  · subst hσ
    refine s_asg (v := .int (ch n (i + 1) : Nat)) (ev_opC (ev_opC (ev_var rfl) (ev_op0 (ev_var rfl) (ev_var rfl) rfl) (.inr ⟨by omega, by omega⟩) rfl) (ev_op0 (ev_var rfl) ev_c rfl) (wide_div (b := 20) (by omega) (by omega) (by decide) (by decide)) (congrArg V.int (ch_div (by omega)))) fun H4 e4 => ⟨e.trans e4, some (.int (i : Int)), rfl⟩
  · subst hσ
    rw [Int.toNat_natCast]
    exact s_ret (ev_var rfl) fun H3 e3 => k _ H3 (e.trans e3) rfl
theorem sum_nat : ∀ l : List Nat, (l.map fun (n : Nat) => ((n : Nat) : Int)).sum = ((l.sum : Nat) : Int)
  | [] => rfl
  | n :: l => by
    rw [List.map_cons, List.sum_cons, List.sum_cons, sum_nat l, Int.natCast_add]
theorem isWays_of {M : Nat} {k : Sr58.Kind} {told : List (Int × Int)} {least : Int} (h : ToldOk M k told least) {ns : List Int} (hn : ns.Nodup) (hm : ∀ c, c ∈ ns ↔ c ∈ told.map (·.1)) : ns.length = lkN k ∧ IsWays M k (waysI told least ns.length) := by
  have hl : ns.length = lkN k := looks_len h hn hm
  have h64 : ns.length ≤ 64 := by
    have q := nodup_sub_len (k := told.map (·.1)) hn fun x hx => (hm x).mp hx
    rw [List.length_map] at q
    have := h.few
    omega
  refine ⟨hl, ?_, ?_, by omega, ?_, fun ts b => ?_⟩
  · unfold waysI
    split
    · exact Nat.zero_le _
    · refine Nat.le_trans (ways_le _ _) (Nat.mul_le_mul (by omega) (Nat.pow_le_pow_right (by decide) h64))
  · rw [← hl]
    cases ht : told with
    | nil => exact absurd ht h.ne
    | cons p r =>
      have q : p.1 ∈ ns := (hm p.1).mpr (by rw [ht]; exact List.mem_cons_self)
      exact List.length_pos_of_mem q
  · rw [← hl]
    have q := nodup_sub_len (k := (List.range M).map fun (i : Nat) => ((i : Nat) : Int)) hn fun x hx => by
      obtain ⟨p, hp, rfl⟩ := List.mem_map.mp ((hm x).mp hx)
      obtain ⟨h0, h1⟩ := h.lt p hp
      obtain ⟨n, e⟩ := Int.eq_ofNat_of_zero_le h0
      rw [e]
      exact List.mem_map.mpr ⟨n, List.mem_range.mpr (by omega), rfl⟩
    rw [List.length_map, List.length_range] at q
    exact q
  · rw [← hl]
    exact likely_term h hn hm
theorem ToldOk.least0 {M : Nat} {k : Sr58.Kind} {told : List (Int × Int)} {least : Int} (h : ToldOk M k told least) : ∃ n : Nat, least = (n : Int) ∧ n ≤ 64 := by
  cases k with
  | all l => exact ⟨_, h.2.least, h.2.few⟩
  | many t s => exact ⟨t, h.2.2.least, by have := h.2.1; omega⟩
theorem ev_nlooked (few : Nat) {σ : L2.St} {H : Hp} {ta : TE} {a : V} {w : Int} {told : List (Int × Int)} {least : Int} {M : Nat} {k : Sr58.Kind} (ha : Ev ta σ H a) (h : TmAt K a H w told least) (ok : ToldOk M k told least) : Ev (tCB (rLenS K) (tCons (tCall (sp_coins_looked_at K) [] E0 (tCons ta tNil)) tNil)) σ H (.int (lkN k : Nat)) :=
  ev_evp (evp_cb1 (evp_callv (P := fun v H2 => ∃ ns : List Int, IsL v H2 ns ∧ ns.Nodup ∧ ∀ c, c ∈ ns ↔ c ∈ told.map (·.1)) (ea_cons ha ea_nil) rfl fun H1 e1 => ⟨a, w, told, least, rfl, h.mono e1, ok.few, rfl⟩) fun v H1 e1 ⟨ns, ⟨p, hv, hp⟩, hn, hm⟩ H2 e2 Q q => by
    subst hv
    have q' := rcp_len (K := K) (sq_of (K := K) hp) H2 e2 Q
    rw [List.length_map, (isWays_of ok hn hm).1] at q'
    exact q' q)
theorem pu_ways_of_true (T : Txt K mg) (vs : List V) (H : Hp) (Q : VK) (E : XK) (h : sp_ways_of_true K vs H Q E) : t_ways_of_true K { nx := fun _ H' => Q .non H', rt := Q } (L2.start ["term", "many", "few"] vs) H := by
  obtain ⟨_, P, ⟨a, M, t, rfl, ha, rfl⟩, k⟩ := h
  show t_ways_of_true K _ [some a, none, none] H
  obtain ⟨told, least, tm, ok, _, _⟩ := ha
  have few := ok.few
  refine qp_asg (P := fun v H2 => ∃ n : Nat, v = .int (n : Int) ∧ ∃ ns : List Int, ns.length = n ∧ ns.Nodup ∧ ∀ c, c ∈ ns ↔ c ∈ told.map (·.1)) (evp_cb1 (evp_callv (P := fun v H2 => ∃ ns : List Int, IsL v H2 ns ∧ ns.Nodup ∧ ∀ c, c ∈ ns ↔ c ∈ told.map (·.1)) (ea_cons (ev_var rfl) ea_nil) rfl fun H1 e1 => ⟨a, t.w, told, least, rfl, tm.mono e1, few, rfl⟩) fun v H1 e1 ⟨ns, ⟨p, hv, hp⟩, hn, hm⟩ H2 e2 Q q => ?_) fun v H1 e1 ⟨n, hv, ns, hl, hn, hm⟩ => ?_
  · subst hv
    refine rcp_len (K := K) (sq_of (K := K) hp) H2 e2 Q fun v H3 e3 hv => q v H3 e3 ⟨ns.length, ?_, ns, rfl, hn, hm⟩
    rw [hv, List.length_map]
  subst hv
  obtain ⟨e0, W⟩ := isWays_of ok hn hm
  have n64 : n ≤ 64 := by rw [← hl, e0]; exact W.2.2.1
  rw [hl] at W
  obtain ⟨o, dx, lv, rfl, ho, htold⟩ := tm
  obtain ⟨ln, hln, ln64⟩ := ok.least0
  refine q_when (b := decide ((n : Int) < (told.length : Int))) (et_op (g := fun i j => decide (j < i)) (ev_lenO (ev_told T (ev_var rfl) (e1 _ _ ho)) (htold.mono e1)) (ev_var rfl)) (fun hb H2 e2 => ?_) (fun hb H2 e2 => ?_)
  · have c := of_decide_eq_true hb
    refine s_ret ev_c fun H3 e3 => k _ H3 ((e1.trans e2).trans e3) ⟨_, ?_, W⟩
    unfold waysI
    rw [if_pos (by omega)]
    rfl
  · have c := of_decide_eq_false hb
    have row : EvL (tLc (iRng2 (tCons (tFld K (tVar 0) "least") (tCons (tOp qAdd (tVar 1) (tC (.int 1))) tNil))) (gName 2) tYes (tCall (sp_ways_to_choose K) [] E0 (tCons (tVar 2) (tCons (tVar 1) tNil))) [2]) [some (.ref o), some (.int (n : Int)), none] H2 ((List.range (n + 1 - ln)).map fun i => V.int ((ch n (ln + i) : Nat) : Int)) :=
      el_lcR2 (lo := ln) (n := n + 1) (fun i => V.int ((ch n (ln + i) : Nat) : Int)) (ea_cons (ev_is (ev_least T (ev_var rfl) (e2 _ _ (e1 _ _ ho))) (congrArg V.int hln)) (ea_cons (ev_op0 (ev_var rfl) ev_c rfl) ea_nil)) (by omega) (by omega) (fun _ => rfl) fun i H3 e3 hi =>
        ev_callv (ea_cons (ev_var rfl) (ea_cons (ev_var rfl) ea_nil)) rfl fun H4 e4 => ⟨n, ln + i, rfl, by omega, n64, rfl⟩
    have e : ((List.range (n + 1 - ln)).map fun i => V.int ((ch n (ln + i) : Nat) : Int)) = (((List.range (n + 1 - ln)).map fun i => ch n (ln + i)).map fun (n : Nat) => ((n : Nat) : Int)).map V.int := by
      rw [List.map_map, List.map_map]
      rfl
    rw [e] at row
    refine s_ret (ev_sumN (evp_l row)) fun H3 e3 => k _ H3 ((e1.trans e2).trans e3) ⟨_, ?_, W⟩
    rw [sum_nat]
    unfold waysI ways
    rw [if_neg (by omega), hln, Int.toNat_natCast]
theorem shl_of (n : Nat) : (1 : Int) * 2 ^ ((n : Nat) : Int).toNat = ((2 ^ n : Nat) : Int) := by
  rw [Int.one_mul, Int.toNat_natCast, Int.natCast_pow]
  rfl
end
end Fc
/-! P6: terms.py, chances and means. -/
namespace Fc
open PySem PySem.Spec PyProof.Rows L2 Evl
open Sr58 (Term holds bit frac)
open Sr59 (Space)
section
variable {K : PySem.W.Frag} {mg : Str → Option Value}
theorem evp_tup {σ : L2.St} {H : Hp} {tr : TA} {A : List V → Hp → Prop} {P : VP} (h : EvAP tr σ H A) (hl : ∀ vs H1, A vs H1 → vs.length ≤ 100) (hp : ∀ vs H1 H2 p, A vs H1 → Ex H1 H2 → H2 p = some (.tup vs) → P (.ref p) H2) : EvP (tTup tr) σ H P := fun H1 e Q q =>
  h H1 e _ fun vs H2 e2 a => ⟨sz_of (Nat.le_trans (hl vs H2 a) (by decide)), fun p hn => q _ _ (e2.trans (Ex.new hn)) (hp vs H2 _ p a (Ex.new hn) upd_same)⟩
theorem pu_true_chance (vs : List V) (H : Hp) (Q : VK) (E : XK) (h : sp_true_chance K vs H Q E) : t_true_chance K { nx := fun _ H' => Q .non H', rt := Q } (L2.start ["term"] vs) H := by
  obtain ⟨_, P, ⟨a, M, t, rfl, ha, rfl⟩, k⟩ := h
  show t_true_chance K _ [some a] H
  obtain ⟨told, least, tm, ok, wt⟩ := id ha
  refine sp_ret (evp_tup (A := fun vs _ => ∃ W : Nat, vs = [.int W, .int ((2 ^ lkN t.sort : Nat) : Int)] ∧ IsWays M t.sort W) (eap_cons (evp_callv (P := fun v _ => ∃ W : Nat, v = .int W ∧ IsWays M t.sort W) (ea_cons (ev_var rfl) ea_nil) rfl fun H1 e1 => ⟨a, M, t, rfl, ha.mono e1, rfl⟩) fun v H1 e1 ⟨W, hv, hW⟩ => ?_) (fun vs H1 ⟨W, hv, _⟩ => by rw [hv]; show 2 ≤ 100; decide) fun vs H1 H2 p ⟨W, hv, hW⟩ e2 hp => ⟨W, p, rfl, by rw [hp, hv], hW⟩) fun v H1 e1 hv => k v H1 e1 hv
  have h64 := hW.2.2.1
  exact eap_v (ev_opC (v := .int ((2 ^ lkN t.sort : Nat) : Int)) ev_c (ev_nlooked 0 (ev_var rfl) (tm.mono e1) ok) ⟨by omega, by omega, by decide⟩ (congrArg V.int (shl_of _))) (eap_nil fun H2 e2 => ⟨W, by rw [hv], hW⟩)
/-! ### the mean of true coins -/
/-- the rational number of a fraction -/
def ratOf (f : Sr58.Frac) : Rat := mkRat f.n f.d
theorem ratOf_toF (q : Rat) : ratOf (toF q) = q := Rat.mkRat_self q
/-- how likely it's so of true coins -/
def pT (M : Nat) (k : Sr58.Kind) : Rat := ratOf (Sr58.likelyTerm (trueD M [] false) k)
theorem pT_of {M : Nat} {k : Sr58.Kind} {W : Nat} (h : IsWays M k W) : pT M k = mkRat (W : Int) (2 ^ lkN k) ∧ ∀ ts b, Sr58.likelyTerm (trueD M ts b) k = toF (pT M k) := by
  have e : pT M k = mkRat (W : Int) (2 ^ lkN k) := by
    unfold pT
    rw [h.2.2.2.2, ratOf_toF]
  exact ⟨e, fun ts b => by rw [h.2.2.2.2 ts b, e]⟩
def tR (M : Nat) (ts : List Term) : List Rat := ts.map fun t => mkRat t.w 1 * pT M t.sort
theorem rsum_snoc : ∀ (l : List Rat) (x : Rat), rsum (l ++ [x]) = rsum l + x
  | [], x => by
    show x + 0 = 0 + x
    rw [Rat.add_zero, Rat.zero_add]
  | y :: l, x => by
    show y + rsum (l ++ [x]) = y + rsum l + x
    rw [rsum_snoc l x, Rat.add_assoc]
theorem mean_is {M : Nat} {ts : List Term} (h : ∀ t ∈ ts, ∃ W, IsWays M t.sort W) (b : Bool) : Sr58.mean (trueD M ts b) = toF (rsum (tR M ts)) := by
  unfold Sr58.mean tR
  rw [← total_toF, List.map_map]
  congr 1
  apply List.map_congr_left
  intro t ht
  obtain ⟨W, hW⟩ := h t ht
  show Sr58.times (Sr58.whole t.w) (Sr58.likelyTerm (trueD M ts b) t.sort) = toF (mkRat t.w 1 * pT M t.sort)
  rw [(pT_of hW).2, whole_toF, times_toF]
theorem add_term {top w : Int} {W n M : Nat} (h : n ≤ M) : mkRat (top + w * (W : Int) * (((2 ^ M : Nat) : Int) / ((2 ^ n : Nat) : Int))) (2 ^ M) = mkRat top (2 ^ M) + mkRat w 1 * mkRat (W : Int) (2 ^ n) := by
  have e1 : ((2 ^ M : Nat) : Int) / ((2 ^ n : Nat) : Int) = ((2 ^ (M - n) : Nat) : Int) := by
    rw [← Int.natCast_ediv, Nat.pow_div h (by decide)]
  rw [e1, ← mk_add (p2 M), Rat.mkRat_mul_mkRat, Nat.one_mul]
  congr 1
  rw [Rat.mkRat_eq_iff (p2 M) (p2 n), Int.mul_assoc (w * (W : Int)), ← Int.natCast_mul, ← Nat.pow_add]
  congr 4
  omega
theorem pu_true_mean (T : Txt K mg) (vs : List V) (H : Hp) (Q : VK) (E : XK) (h : sp_true_mean K vs H Q E) : t_true_mean K { nx := fun _ H' => Q .non H', rt := Q } (L2.start ["terms", "many", "whole", "top", "term", "ways", "parts"] vs) H := by
  obtain ⟨_, P, ⟨a, M, ts, rfl, ha, few, hM, rfl⟩, k⟩ := h
  show t_true_mean K _ [some a, some (.int M), none, none, none, none, none] H
  obtain ⟨l, ws, rfl, hl, pd⟩ := ha
  refine q_asg (v := .int ((2 ^ M : Nat) : Int)) (ev_opC ev_c (ev_var rfl) ⟨by omega, by omega, by decide⟩ (congrArg V.int (shl_of M))) fun H1 e1 => ?_
  refine q_asg ev_c fun H2 e2 => ?_
  refine q_forLn (xs := ws) (ev_var rfl) (sq_of (e2 _ _ (e1 _ _ hl))) (fun j σ H' => Ex H H' ∧ ∃ (top : Int) (w1 w2 w3 : Option V), σ = [some (.ref l), some (.int M), some (.int ((2 ^ M : Nat) : Int)), some (.int top), w1, w2, w3] ∧ mkRat top (2 ^ M) = rsum (tR M (ts.take j)) ∧ ∀ t ∈ ts.take j, ∃ W, IsWays M t.sort W)
    (fun H3 e3 => ⟨(e1.trans e2).trans e3, 0, none, none, none, rfl, zero_mk _, fun t ht => by simp at ht⟩) (fun j σ' H' _ ⟨e, _⟩ => sq_of (e _ _ hl)) (fun j y σ H' hy ⟨e, top, w1, w2, w3, hσ, hs, hW⟩ => ?_) (fun σ H' ⟨e, top, w1, w2, w3, hσ, hs, hW⟩ => ?_)
  · subst hσ
    obtain ⟨hj, ey⟩ := List.getElem?_eq_some_iff.mp hy
    have hj2 : j < ts.length := by rw [← Paired.length pd]; exact hj
    have ht : ts[j]? = some ts[j] := List.getElem?_eq_getElem hj2
    have tm := (pd_both pd hy ht).mono e
    refine qp_tup2 (K := K) (evp_callv (P := fun v H2 => ∃ (W : Nat) (p : Addr), v = .ref p ∧ H2 p = some (.tup [.int W, .int ((2 ^ lkN ts[j].sort : Nat) : Int)]) ∧ IsWays M ts[j].sort W) (ea_cons (ev_var rfl) ea_nil) rfl fun H3 e3 => ⟨y, M, ts[j], rfl, tm.mono e3, rfl⟩) fun v H3 e3 ⟨W, p, hv, hp, w⟩ => ⟨p, _, _, hv, st_of hp, ?_⟩
    obtain ⟨told, least, ⟨o, dx, lv, rfl, ho, _⟩, _, wl, wr⟩ := tm.mono e3
    obtain ⟨b1, b2, b3, b4, _⟩ := id w
    have p1 : (2 : Nat) ^ M / 2 ^ lkN ts[j].sort < 2 ^ 64 := by
      rw [Nat.pow_div b4 (by decide)]
      exact Nat.pow_lt_pow_right (by decide) (by omega)
    have p2' : (((2 ^ M : Nat) : Int) / ((2 ^ lkN ts[j].sort : Nat) : Int)) = ((2 ^ M / 2 ^ lkN ts[j].sort : Nat) : Int) := (Int.natCast_ediv _ _).symm
    have p3 : (0 : Int) < ((2 ^ lkN ts[j].sort : Nat) : Int) := by
      have := Nat.two_pow_pos (lkN ts[j].sort)
      omega
    refine s_aug (f := fun i j => i + j) (a := top) rfl (b := ts[j].w * (W : Int) * (((2 ^ M : Nat) : Int) / ((2 ^ lkN ts[j].sort : Nat) : Int))) (ev_opC (ev_opC (ev_weight T (ev_var rfl) ho) (ev_var rfl) (.inl ⟨by omega, by omega⟩) rfl) (ev_opC (ev_var rfl) (ev_var rfl) (wide_div (b := 65) p3 ?_ (by decide) (by decide)) rfl) (.inr ⟨?_, ?_⟩) rfl) fun H4 e4 => ⟨(e.trans e3).trans e4, _, _, _, _, rfl, ?_, ?_⟩
    · rw [Int.natAbs_natCast]
      exact Nat.pow_lt_pow_right (by decide) (by omega)
    · rw [p2']
      generalize 2 ^ M / 2 ^ lkN ts[j].sort = z
      omega
    · rw [p2']
      generalize 2 ^ M / 2 ^ lkN ts[j].sort = z at p1
      omega
    · rw [add_term b4, hs, take_succ_of ht]
      unfold tR
      rw [List.map_append]
      show _ = rsum (_ ++ [mkRat ts[j].w 1 * pT M ts[j].sort])
      rw [rsum_snoc, (pT_of w).1]
    · intro t htk
      rw [take_succ_of ht] at htk
      rcases List.mem_append.mp htk with h | h
      · exact hW t h
      · rw [List.mem_singleton.mp h]
        exact ⟨W, w⟩
  · subst hσ
    rw [Paired.length pd, List.take_length] at hs hW
    refine sp_ret (evp_tup (A := fun vs _ => vs = [.int top, .int ((2 ^ M : Nat) : Int)]) (eap_v (ev_var rfl) (eap_v (ev_var rfl) (eap_nil fun _ _ => rfl))) (fun vs H1 hv => by rw [hv]; show 2 ≤ 100; decide) fun vs H1 H2 p hv e2 hp => ⟨top, p, rfl, by rw [hp, hv], fun b => ?_⟩) fun v H3 e3 hv => k v H3 (e.trans e3) hv
    rw [frac_mk (p2 M), hs, mean_is hW]
/-! ### of seeds -/
def bools (r : List Int) : List Bool := r.map fun n => n == 1
theorem bools_bit (x : List Bool) : bools (x.map bit) = x := by
  unfold bools
  rw [List.map_map]
  conv => rhs; rw [← List.map_id x]
  apply List.map_congr_left
  intro b _
  cases b <;> rfl
theorem bools_row (s : Space) (x : Nat) : bools (rowI s x) = Sr59.row s x := bools_bit _
theorem row_len (s : Space) (x : Nat) : (Sr59.row s x).length = 2 ^ s.m := by
  unfold Sr59.row Sr59.coins
  rw [List.length_map, List.length_range]
theorem mem_rows {s : Space} {r : List Int} (h : r ∈ rowsI s) : ∃ x, x < Sr59.seeds s ∧ r = rowI s x := by
  unfold rowsI at h
  obtain ⟨x, hx, rfl⟩ := List.mem_map.mp h
  exact ⟨x, List.mem_range.mp hx, rfl⟩
theorem ev_lenR {ta : TE} {σ : L2.St} {H : Hp} {a : V} {s : Space} (ha : Ev ta σ H a) (h : IsLL a H (rowsI s)) : Ev (tCB (rLenS K) (tCons ta tNil)) σ H (.int ((Sr59.seeds s : Nat) : Int)) := by
  have q := ev_lenO (K := K) ha h
  rw [rowsI_len] at q
  exact q
theorem filter_rows (s : Space) (p : List Bool → Bool) : ((rowsI s).filter fun r => p (bools r)).length = ((List.range (Sr59.seeds s)).filter fun x => p (Sr59.row s x)).length := by
  unfold rowsI
  rw [List.filter_map, List.length_map]
  congr 1
  apply List.filter_congr
  intro x _
  show p (bools (rowI s x)) = _
  rw [bools_row]
theorem pu_seeds_chance (vs : List V) (H : Hp) (Q : VK) (E : XK) (h : sp_seeds_chance K vs H Q E) : t_seeds_chance K { nx := fun _ H' => Q .non H', rt := Q } (L2.start ["term", "rows", "row"] vs) H := by
  obtain ⟨_, P, ⟨a, b, s, t, rfl, ha, hb, hs, rfl⟩, k⟩ := h
  show t_seeds_chance K _ [some a, some b, none] H
  have hz := seeds_le hs
  have cnt := ev_count (K := K) (tl := tVar 1) (tt := tB (tCall (sp_is_so K) [] E0 (tCons (tVar 0) (tCons (tVar 2) tNil)))) (σ := [some a, some b, none]) (j := 2) (fun r => holds (bools r) t.sort) (ev_var rfl) hb (by rw [rowsI_len]; omega) (fun _ => rfl) (fun _ => rfl) fun v r H1 e hr hv => by
    obtain ⟨x, hx, rfl⟩ := mem_rows hr
    refine et_B (ev_callv (ea_cons (ev_var rfl) (ea_cons (ev_var rfl) ea_nil)) rfl fun H2 e2 => ⟨a, v, t, Sr59.row s x, rfl, ?_, hv.mono e2, by rw [bools_row]⟩)
    rw [row_len]
    exact ha.mono (e.trans e2)
  rw [filter_rows s (fun x => holds x t.sort)] at cnt
  exact sp_ret (evp_tup (A := fun vs _ => vs = [.int (chanceN s t.sort), .int (Sr59.seeds s : Nat)]) (eap_v cnt (eap_v (ev_lenR (ev_var rfl) hb) (eap_nil fun _ _ => rfl))) (fun vs H1 hv => by rw [hv]; show 2 ≤ 100; decide) fun vs H1 H2 p hv e2 hp => ⟨p, rfl, by rw [hp, hv]⟩) fun v H3 e3 hv => k v H3 e3 hv
/-- [worth_of(terms, row) for row in rows] -/
theorem el_worths {σ : L2.St} {H : Hp} {tl tt : TE} {i j : Nat} {a b : V} {s : Space} {ts : List Term} (hs : SpOk s) (hb : Ev tl σ H b) (hr : IsLL b H (rowsI s)) (ht : IsTerms K (2 ^ s.m) a H ts) (few : ts.length ≤ 12)
    (hw : ∀ x, wipe ((wipe σ [j]).set j (some x)) [j] = wipe σ [j]) (hj : ∀ x, ((wipe σ [j]).set j (some x))[j]? = some (some x)) (ha : ∀ x H1, Ex H H1 → Ev tt ((wipe σ [j]).set j (some x)) H1 a) :
    EvL (tLc (iList K tl) (gName j) tYes (tCall (sp_worth_of K) [] E0 (tCons tt (tCons (tVar j) tNil))) [j]) σ H (((List.range (Sr59.seeds s)).map fun x => worthI ts (Sr59.row s x)).map V.int) := by
  obtain ⟨p, ws, rfl, hp, pd⟩ := hr
  have hz := seeds_le hs
  have q := el_lc1y (K := K) (l := rowsI s) (te := tCall (sp_worth_of K) [] E0 (tCons tt (tCons (tVar j) tNil))) (fun r => V.int (worthI ts (bools r))) hb (sq_of hp) (Paired.length pd) (by rw [rowsI_len]; omega) hw fun i v r H1 e hv hr => by
    have hv2 := (pd_both pd hv hr).mono e
    obtain ⟨x, hx, rfl⟩ := mem_rows (List.mem_of_getElem? hr)
    refine ev_callv (ea_cons (ha v H1 e) (ea_cons (ev_var (hj v)) ea_nil)) rfl fun H2 e2 => ⟨a, v, ts, Sr59.row s x, rfl, ?_, few, hv2.mono e2, by rw [bools_row]⟩
    rw [row_len]
    exact ht.mono (e.trans e2)
  have e : (rowsI s).map (fun r => V.int (worthI ts (bools r))) = ((List.range (Sr59.seeds s)).map fun x => worthI ts (Sr59.row s x)).map V.int := by
    unfold rowsI
    rw [List.map_map, List.map_map]
    apply List.map_congr_left
    intro x _
    show V.int (worthI ts (bools (rowI s x))) = V.int (worthI ts (Sr59.row s x))
    rw [bools_row]
  rw [e] at q
  exact q
theorem pu_seeds_mean (vs : List V) (H : Hp) (Q : VK) (E : XK) (h : sp_seeds_mean K vs H Q E) : t_seeds_mean K { nx := fun _ H' => Q .non H', rt := Q } (L2.start ["terms", "rows", "row"] vs) H := by
  obtain ⟨_, P, ⟨a, b, s, ts, rfl, ha, few, hb, hs, rfl⟩, k⟩ := h
  show t_seeds_mean K _ [some a, some b, none] H
  exact sp_ret (evp_tup (A := fun vs _ => vs = [.int (meanN s ts), .int (Sr59.seeds s : Nat)]) (eap_v (ev_sumN (evp_l (el_worths (i := 0) hs (ev_var rfl) hb ha few (fun _ => rfl) (fun _ => rfl) fun _ _ _ => ev_var rfl))) (eap_v (ev_lenR (ev_var rfl) hb) (eap_nil fun _ _ => rfl))) (fun vs H1 hv => by rw [hv]; show 2 ≤ 100; decide) fun vs H1 H2 p hv e2 hp => ⟨p, rfl, by rw [hp, hv]⟩) fun v H3 e3 hv => k v H3 e3 hv
end
end Fc
/-! P7: seeds.py, the looks. -/
namespace Fc
open PySem PySem.Spec PyProof.Rows L2 Evl
open Sr58 (Term holds bit frac)
open Sr59 (Space Desk)
section
variable {K : PySem.W.Frag} {mg : Str → Option Value}
section
variable {vp vr vt : V} {m : Int}
def sd2 (vp vr : V) : List (Str × V) := [("products", vp), ("rows", vr)]
def sd3 (vp vr vt : V) : List (Str × V) := [("products", vp), ("rows", vr), ("terms", vt)]
theorem sd_products : (sdF vp vr vt m).lookup ("products" : Str) = some vp := lk_hd
theorem sd_rows : (sdF vp vr vt m).lookup ("rows" : Str) = some vr := (lk_tl (by decide +kernel)).trans lk_hd
theorem sd_terms : (sdF vp vr vt m).lookup ("terms" : Str) = some vt := (lk_tl (by decide +kernel)).trans ((lk_tl (by decide +kernel)).trans lk_hd)
theorem sd_much : (sdF vp vr vt m).lookup ("is_much" : Str) = some (.int m) := (lk_tl (by decide +kernel)).trans ((lk_tl (by decide +kernel)).trans ((lk_tl (by decide +kernel)).trans lk_hd))
theorem sd_putP (x : V) : putF "products" x (sdF vp vr vt m) = sdF x vr vt m := pt_hd
theorem sd_putR (x : V) : putF "rows" x (sdF vp vr vt m) = sdF vp x vt m := (pt_tl (by decide +kernel)).trans (congrArg _ pt_hd)
theorem sd_putT (x : V) : putF "terms" x (sdF vp vr vt m) = sdF vp vr x m := (pt_tl (by decide +kernel)).trans (congrArg _ ((pt_tl (by decide +kernel)).trans (congrArg _ pt_hd)))
theorem sd_putM (x : Int) : putF "is_much" (.int x) (sdF vp vr vt m) = sdF vp vr vt x := (pt_tl (by decide +kernel)).trans (congrArg _ ((pt_tl (by decide +kernel)).trans (congrArg _ ((pt_tl (by decide +kernel)).trans (congrArg _ pt_hd)))))
theorem sd_new : putF "is_much" (.int m) (putF "terms" vt (putF "rows" vr (putF "products" vp []))) = sdF vp vr vt m := by
  have e1 : putF "rows" vr (putF "products" vp []) = sd2 vp vr := (pt_tl (by decide +kernel)).trans rfl
  have e2 : putF "terms" vt (sd2 vp vr) = sd3 vp vr vt := (pt_tl (by decide +kernel)).trans (congrArg _ ((pt_tl (by decide +kernel)).trans rfl))
  have e3 : putF "is_much" (.int m) (sd3 vp vr vt) = sdF vp vr vt m := (pt_tl (by decide +kernel)).trans (congrArg _ ((pt_tl (by decide +kernel)).trans (congrArg _ ((pt_tl (by decide +kernel)).trans rfl))))
  rw [e1, e2, e3]
theorem sd_n2 : (putF "rows" vr (putF "products" vp [])).length < 1000 := by
  have e1 : putF "rows" vr (putF "products" vp []) = sd2 vp vr := (pt_tl (by decide +kernel)).trans rfl
  rw [e1]
  show 2 < 1000
  decide
theorem sd_n3 : (putF "terms" vt (putF "rows" vr (putF "products" vp []))).length < 1000 := by
  have e1 : putF "rows" vr (putF "products" vp []) = sd2 vp vr := (pt_tl (by decide +kernel)).trans rfl
  have e2 : putF "terms" vt (sd2 vp vr) = sd3 vp vr vt := (pt_tl (by decide +kernel)).trans (congrArg _ ((pt_tl (by decide +kernel)).trans rfl))
  rw [e1, e2]
  show 3 < 1000
  decide
end
section
variable {σ : L2.St} {H : Hp} {ta : TE} {vp vr vt : V} {m : Int} {a dx : Addr}
theorem ev_products (T : Txt K mg) (h : Ev ta σ H (.ref a)) (ho : H a = some (.ins (ad K "Seeds") dx (sdF vp vr vt m))) : Ev (tFld K ta "products") σ H vp := ev_fld h ho (T.cls 83) (T.noat 85) sd_products
theorem ev_rows (T : Txt K mg) (h : Ev ta σ H (.ref a)) (ho : H a = some (.ins (ad K "Seeds") dx (sdF vp vr vt m))) : Ev (tFld K ta "rows") σ H vr := ev_fld h ho (T.cls 83) (T.noat 86) sd_rows
theorem ev_terms (T : Txt K mg) (h : Ev ta σ H (.ref a)) (ho : H a = some (.ins (ad K "Seeds") dx (sdF vp vr vt m))) : Ev (tFld K ta "terms") σ H vt := ev_fld h ho (T.cls 83) (T.noat 87) sd_terms
theorem ev_much (T : Txt K mg) (h : Ev ta σ H (.ref a)) (ho : H a = some (.ins (ad K "Seeds") dx (sdF vp vr vt m))) : Ev (tFld K ta "is_much") σ H (.int m) := ev_fld h ho (T.cls 83) (T.noat 88) sd_much
end
theorem len_of {v : V} {vs : List V} {n : Nat} : (v :: vs).length = n + 1 ↔ vs.length = n := by simp
theorem pu_Seeds__init__ (T : Txt K mg) (vs : List V) (H : Hp) (Q : VK) (E : XK) (h : sp_Seeds__init__ K vs H Q E) : t_Seeds__init__ K { nx := fun _ H' => Q .non H', rt := Q } (L2.start ["self"] vs) H := by
  obtain ⟨_, p, dx, rfl, hp, k⟩ := h
  show t_Seeds__init__ K _ [some (.ref p)] H
  refine ⟨Nat.zero_le _, fun q1 n1 => ?_⟩
  have d1 : q1 ≠ p := fun z => by rw [z, hp] at n1; cases n1
  refine ⟨_, rfl, p, ad K "Seeds", dx, [], rfl, by rw [upd_ne d1.symm]; exact hp, T.cls 83, T.noat 85, (by show 0 < 1000; decide), ?_⟩
  refine ⟨Nat.zero_le _, fun q2 n2 => ?_⟩
  have d2 : q2 ≠ p := fun z => by rw [z, upd_same] at n2; cases n2
  refine ⟨_, rfl, p, ad K "Seeds", dx, _, rfl, by rw [upd_ne d2.symm, upd_same], T.cls 83, T.noat 86, (by show 1 < 1000; decide), ?_⟩
  refine ⟨Nat.zero_le _, fun q3 n3 => ?_⟩
  have d3 : q3 ≠ p := fun z => by rw [z, upd_same] at n3; cases n3
  refine ⟨_, rfl, p, ad K "Seeds", dx, _, rfl, by rw [upd_ne d3.symm, upd_same], T.cls 83, T.noat 87, sd_n2, ?_⟩
  refine ⟨_, rfl, p, ad K "Seeds", dx, _, rfl, upd_same, T.cls 83, T.noat 88, sd_n3, ?_⟩
  have d23 : q2 ≠ q3 := fun z => by
    rw [← z, upd_ne d2, upd_same] at n3
    cases n3
  refine k _ ⟨dx, .ref q1, .ref q2, .ref q3, 0, upd_same.trans (by rw [sd_new]), q2, [], rfl, ?_, .nil⟩ fun b o hb e => ?_
  · rw [upd_ne d2, upd_ne d2, upd_ne d23, upd_ne d2, upd_same]
  · have b1 : b ≠ q1 := ne_of_none e n1
    have b2 : b ≠ q2 := fun z => by
      rw [← z, upd_ne hb, upd_ne b1, e] at n2
      cases n2
    have b3 : b ≠ q3 := fun z => by
      rw [← z, upd_ne hb, upd_ne b2, upd_ne hb, upd_ne b1, e] at n3
      cases n3
    rw [upd_ne hb, upd_ne hb, upd_ne b3, upd_ne hb, upd_ne b2, upd_ne hb, upd_ne b1]
    exact e
theorem ev_ch {σ : L2.St} {H : Hp} {ta tb tx : TE} {i j l : Int} {f g : Int → Int → Bool} (ha : Ev ta σ H (.int i)) (hb : Ev tb σ H (.int j)) (hc : Ev tx σ H (.int l)) : Ev (tChain (rI0 fun i j => .bl (f i j)) (rI0 fun i j => .bl (g i j)) ta tb tx) σ H (.bl (f i j && g j l)) :=
  ev_chain (C1 := fun _ _ => true) (C2 := fun _ _ => true) ha hb hc rv_I0 fun _ => rv_I0
theorem pu_is_in (vs : List V) (H : Hp) (Q : VK) (E : XK) (h : sp_is_in K vs H Q E) : t_is_in K { nx := fun _ H' => Q .non H', rt := Q } (L2.start ["number", "many"] vs) H := by
  obtain ⟨_, P, ⟨n, m, rfl, rfl⟩, k⟩ := h
  show t_is_in K _ [some (.int n), some (.int m)] H
  exact s_ret (ev_ch (f := fun i j => decide (i ≤ j)) (g := fun i j => decide (i < j)) ev_c (ev_var rfl) (ev_var rfl)) fun H1 e1 => k _ H1 e1 rfl
theorem pu_is_weight (vs : List V) (H : Hp) (Q : VK) (E : XK) (h : sp_is_weight K vs H Q E) : t_is_weight K { nx := fun _ H' => Q .non H', rt := Q } (L2.start ["number"] vs) H := by
  obtain ⟨_, P, ⟨n, rfl, rfl⟩, k⟩ := h
  show t_is_weight K _ [some (.int n)] H
  exact s_ret (ev_ch (f := fun i j => decide (i ≤ j)) (g := fun i j => decide (i ≤ j)) (ev_op0 (v := .int (-100)) ev_c ev_c rfl) (ev_var rfl) ev_c) fun H1 e1 => k _ H1 e1 rfl
/-! ### rising -/
theorem tail_cut (xs : List V) : cutV xs (some 1) none = xs.drop 1 := by
  unfold cutV
  have e1 : HT.sIx xs.length 0 (some 1) = min 1 xs.length := HT.sIx_nat xs.length 0 1
  have e2 : HT.sIx xs.length xs.length none = xs.length := HT.sIx_none _ _
  rw [e1, e2]
  cases xs with
  | nil => rfl
  | cons x xs =>
    have e : min 1 (x :: xs).length = 1 := by simp
    rw [e]
    apply List.take_of_length_le
    simp
theorem rising_zip : ∀ ns : List Int, Sr58.rising ns = ((ns.zip (ns.drop 1)).map fun p => decide (p.1 < p.2)).all id
  | [] => rfl
  | [n] => rfl
  | n :: m :: ns => by
    have ih := rising_zip (m :: ns)
    show (decide (n < m) && Sr58.rising (m :: ns)) = _
    rw [ih]
    rfl
/-- [e for a, b in zip(xs, ys)] -/
theorem el_zip {σ : L2.St} {H : Hp} {te : TE} {i j : Nat} {ta : TA} {xs ys : List V} (v : V → V → V) (h : EvAP ta σ H fun vs H1 => ∃ p q, vs = [.ref p, .ref q] ∧ SqL K H1 p xs ∧ SqL K H1 q ys) (hz : xs.length ≤ 40000)
    (hw : ∀ x y, wipe (((wipe σ [i, j]).set i (some x)).set j (some y)) [i, j] = wipe σ [i, j]) (hg : ∀ (n : Nat) (x y : V) H1, Ex H H1 → xs[n]? = some x → ys[n]? = some y → Ev te (((wipe σ [i, j]).set i (some x)).set j (some y)) H1 (v x y)) :
    EvL (tLc (iZip K ta) (gTup K 2 (gCons (gName i) (gCons (gName j) gNil))) tYes te [i, j]) σ H ((xs.zip ys).map fun z => v z.1 z.2) := fun H0 e Q k => h H0 e _ fun vs H1 e1 ⟨p, q, hv, hx, hy⟩ => ⟨p, q, xs, ys, hv, hx, hy, fun Dl hD =>
  ⟨fun n m H' => m = (xs.zip ys).length - n ∧ n ≤ (xs.zip ys).length ∧ Cx1 H1 (((xs.zip ys).take n).map fun z => v z.1 z.2) Dl H', ⟨(xs.zip ys).length, by simp, Nat.zero_le _, hD, Ex.new hD, upd_same⟩, by
    rintro n m H' ⟨rfl, hn, w⟩
    have hx' := ex_l w.2.1 hx
    have hy' := ex_l w.2.1 hy
    by_cases hlt : n < (xs.zip ys).length
    · have hl := hlt
      rw [List.length_zip] at hl
      have gx : xs[n]? = some (xs[n]'(by omega)) := List.getElem?_eq_getElem _
      have gy : ys[n]? = some (ys[n]'(by omega)) := List.getElem?_eq_getElem _
      have gz : (xs.zip ys)[n]? = some (xs[n]'(by omega), ys[n]'(by omega)) := List.getElem?_zip_eq_some.mpr ⟨gx, gy⟩
      refine .inr ⟨⟨xs, ys, _, _, hx', hy', gx, gy⟩, fun H2 => Cx1 H1 (((xs.zip ys).take (n + 1)).map fun z => v z.1 z.2) Dl H2, fun H2 c => ⟨(xs.zip ys).length - (n + 1), by omega, rfl, hlt, c⟩, ?_⟩
      rintro u H2 ⟨t, x, y, rfl, ht, rfl, ex, ey⟩
      have e3 : Ex H' (upd H' t (.tup [x, y])) := Ex.new ht
      have gx2 := ex xs hx'
      have gy2 := ey ys hy'
      have w2 : Cx1 H1 (((xs.zip ys).take n).map fun z => v z.1 z.2) Dl (upd H' t (.tup [x, y])) := ⟨w.1, w.2.1.trans e3, e3 _ _ w.2.2⟩
      refine unTup (K := K) upd_same _ ⟨hw x y, ?_⟩
      have z := cx1_turn (b := true) (v := v x y) (σ2 := ((wipe σ [i, j]).set i (some x)).set j (some y)) (te := te) w2 (by rw [List.length_map, List.length_take]; omega) et_yes fun _ => hg n x y _ (((e.trans e1).trans w.2.1).trans e3) gx2 gy2
      rw [if_pos rfl] at z
      have gz2 : (xs.zip ys)[n]? = some (x, y) := List.getElem?_zip_eq_some.mpr ⟨gx2, gy2⟩
      rw [take_succ_of gz2, List.map_append]
      exact z
    · have hn2 : n = (xs.zip ys).length := by omega
      subst hn2
      rw [List.take_length] at w
      refine .inl ⟨⟨xs, ys, hx', hy', ?_⟩, k Dl H' (fresh_back e1 w.1) (e1.trans w.2.1) w.2.2⟩
      rw [List.length_zip]
      omega⟩⟩
theorem pu_is_rising (vs : List V) (H : Hp) (Q : VK) (E : XK) (h : sp_is_rising K vs H Q E) : t_is_rising K { nx := fun _ H' => Q .non H', rt := Q } (L2.start ["numbers", "one", "other"] vs) H := by
  obtain ⟨_, P, ⟨a, ns, rfl, ⟨p, rfl, hp⟩, hz, rfl⟩, k⟩ := h
  show t_is_rising K _ [some (.ref p), none, none] H
  have sl : EvL (tSl (rSlL K) (tVar 0) (tPart (tC (.int 1))) tNoPart) [some (.ref p), none, none] H ((ns.drop 1).map V.int) := by
    have q := el_sl (K := K) (lo := some 1) (hi := none) (te := tVar 0) (σ := [some (.ref p), none, none]) (H := H) (ev_var rfl) (eo_some ev_c) eo_none (sq_of hp)
    rw [tail_cut, ← List.map_drop] at q
    exact q
  have row := el_zip (K := K) (σ := [some (.ref p), none, none]) (H := H) (ta := tCons (tVar 0) (tCons (tSl (rSlL K) (tVar 0) (tPart (tC (.int 1))) tNoPart) tNil)) (te := tOp qLt (tVar 1) (tVar 2)) (i := 1) (j := 2) (xs := ns.map V.int) (ys := (ns.drop 1).map V.int) (fun x y => match x, y with | .int n, .int m => .bl (decide (n < m)) | _, _ => .non)
    (eap_v (ev_var rfl) (eap_cons (evp_l sl) fun v H1 e1 ⟨q, hv, hq⟩ => eap_nil fun H2 e2 => ⟨p, q, by rw [hv], sq_of (e2 _ _ (e1 _ _ hp)), sq_of (e2 _ _ hq)⟩)) (by rw [List.length_map]; omega) (fun _ _ => rfl) fun n x y H1 e1 hx hy => by
      rw [List.getElem?_map] at hx hy
      obtain ⟨x1, _, rfl⟩ := Option.map_eq_some_iff.mp hx
      obtain ⟨y1, _, rfl⟩ := Option.map_eq_some_iff.mp hy
      exact ev_op0 (ev_var rfl) (ev_var rfl) rfl
  have e : ((ns.map V.int).zip ((ns.drop 1).map V.int)).map (fun z => (match z.1, z.2 with | .int n, .int m => V.bl (decide (n < m)) | _, _ => .non)) = ((ns.zip (ns.drop 1)).map fun p => decide (p.1 < p.2)).map V.bl := by
    rw [List.zip_map, List.map_map, List.map_map]
    rfl
  rw [e] at row
  replace row := evp_l row
  exact s_ret (ev_allN row) fun H1 e1 => k _ H1 e1 (by rw [rising_zip])
/-! ### coins, rising -/
theorem all_bl (p : Int → Bool) (ns : List Int) : (ns.map fun n => p n).all id = ns.all p := by
  rw [List.all_map]
  rfl
theorem map_bl (p : Int → Bool) (ns : List Int) : ns.map (fun n => V.bl (p n)) = (ns.map p).map V.bl := by
  rw [List.map_map]
  rfl
theorem pu_are_coins (T : Txt K mg) (vs : List V) (H : Hp) (Q : VK) (E : XK) (h : sp_are_coins K vs H Q E) : t_are_coins K { nx := fun _ H' => Q .non H', rt := Q } (L2.start ["seeds", "numbers", "number"] vs) H := by
  obtain ⟨_, P, ⟨a, b, d, ns, rfl, hS, hb, hz, rfl⟩, k⟩ := h
  show t_are_coins K _ [some (.ref a), some b, none] H
  obtain ⟨dx, vp, vr, vt, ho, ok, hp, hr, ht⟩ := hS
  obtain ⟨q, rfl, hq⟩ := hb
  have row : EvL (tLc (iList K (tVar 1)) (gName 2) tYes (tCall (sp_is_in K) [] E0 (tCons (tVar 2) (tCons (tCB (rLenS K) (tCons (tFld K (tVar 0) "products") tNil)) tNil))) [2]) [some (.ref a), some (.ref q), none] H (ns.map fun n => V.bl (Sr59.isCoin d n)) :=
    el_lcI (fun n => V.bl (Sr59.isCoin d n)) (ev_var rfl) (sq_of hq) (by omega) (fun _ => rfl) fun n H1 e1 hn => ev_callv (ea_cons (ev_var rfl) (ea_cons (ev_lenT (ev_products T (ev_var rfl) (e1 _ _ ho)) (hp.mono e1)) ea_nil)) rfl fun H2 e2 => ⟨n, _, rfl, rfl⟩
  rw [map_bl] at row
  refine s_ret (ev_andV (ev_allN (evp_l row)) fun _ => ev_callv (ea_cons (ev_var rfl) ea_nil) rfl fun H1 e1 => ⟨.ref q, ns, rfl, ⟨q, rfl, e1 _ _ hq⟩, hz, rfl⟩) fun H1 e1 => k _ H1 e1 ?_
  unfold Sr59.okCoins
  rw [all_bl]
theorem not_dec {p : Prop} [Decidable p] : (!decide p) = decide (¬ p) := by
  by_cases h : p <;> simp [h]
theorem pu_is_lie (T : Txt K mg) (vs : List V) (H : Hp) (Q : VK) (E : XK) (h : sp_is_lie K vs H Q E) : t_is_lie K { nx := fun _ H' => Q .non H', rt := Q } (L2.start ["seeds", "lie", "number"] vs) H := by
  obtain ⟨_, P, ⟨a, b, d, ns, rfl, hS, hb, hz, rfl⟩, k⟩ := h
  show t_is_lie K _ [some (.ref a), some b, none] H
  obtain ⟨dx, vp, vr, vt, ho, ok, hp, hr, ht⟩ := hS
  refine q_when (b := !(decide ((1 : Int) ≤ (ns.length : Int)) && decide ((ns.length : Int) ≤ 20))) (et_not (et_test (ev_ch (f := fun i j => decide (i ≤ j)) (g := fun i j => decide (i ≤ j)) ev_c (ev_lenL (ev_var rfl) hb) ev_c))) (fun hc H1 e1 => ?_) (fun hc H1 e1 => ?_)
  · refine s_ret ev_c fun H2 e2 => k _ H2 (e1.trans e2) (congrArg V.bl ?_)
    unfold lieOk
    rw [Bool.not_eq_true', Bool.and_eq_false_iff, decide_eq_false_iff_not, decide_eq_false_iff_not] at hc
    rw [decide_eq_true]
    · rfl
    · rcases hc with hc | hc
      · exact Or.inl (List.length_eq_zero_iff.mp (by omega))
      · exact Or.inr (Or.inl (by omega))
  · obtain ⟨q, rfl, hq⟩ := hb
    rw [Bool.not_eq_false', Bool.and_eq_true, decide_eq_true_iff, decide_eq_true_iff] at hc
    have h64 := pow_le6 ok.1.sz.m
    have row : EvL (tLc (iList K (tVar 1)) (gName 2) tYes (tCall (sp_is_in K) [] E0 (tCons (tVar 2) (tCons (tOp qMul (tC (.int 2)) (tCB (rLenS K) (tCons (tFld K (tVar 0) "products") tNil))) tNil))) [2]) [some (.ref a), some (.ref q), none] H1 (ns.map fun n => V.bl (decide (0 ≤ n) && decide (n < 2 * (Sr59.coins d.s : Int)))) :=
      el_lcI (fun n => V.bl (decide (0 ≤ n) && decide (n < 2 * (Sr59.coins d.s : Int)))) (ev_var rfl) (sq_of (e1 _ _ hq)) (by omega) (fun _ => rfl) fun n H2 e2 hn => ev_callv (ea_cons (ev_var rfl) (ea_cons (ev_opC (v := .int (2 * (Sr59.coins d.s : Int))) ev_c (ev_lenT (ev_products T (ev_var rfl) (e2 _ _ (e1 _ _ ho))) (hp.mono (e1.trans e2))) (.inl ⟨by decide, by decide⟩) rfl) ea_nil)) rfl fun H3 e3 => ⟨n, _, rfl, rfl⟩
    rw [map_bl] at row
    refine s_ret (ev_allN (evp_l row)) fun H2 e2 => k _ H2 (e1.trans e2) (congrArg V.bl ?_)
    rw [all_bl]
    unfold lieOk
    rw [Bool.eq_iff_iff, List.all_eq_true, Bool.not_eq_true', decide_eq_false_iff_not]
    constructor
    · intro hall hbad
      rcases hbad with h | h | h
      · rw [h] at hc
        exact absurd hc.1 (by decide)
      · omega
      · obtain ⟨x, hx, hb⟩ := List.any_eq_true.mp h
        have := hall x hx
        simp only [Bool.and_eq_true, Bool.or_eq_true, decide_eq_true_iff] at this hb
        omega
    · intro hno x hx
      simp only [Bool.and_eq_true, decide_eq_true_iff]
      refine Decidable.byContradiction fun c => hno (Or.inr (Or.inr (List.any_eq_true.mpr ⟨x, hx, ?_⟩)))
      simp only [Bool.or_eq_true, decide_eq_true_iff]
      omega
theorem in01 (f : Int) : inV (.int f) [.int 0, .int 1] = (f == 0 || f == 1) := by
  show (eqV (.int 0) (.int f) || (eqV (.int 1) (.int f) || false)) = _
  have e0 : eqV (.int 0) (.int f) = (f == 0) := by
    show ((0 : Int) == f) = (f == 0)
    rw [Bool.eq_iff_iff, beq_iff_eq, beq_iff_eq]
    exact eq_comm
  have e1 : eqV (.int 1) (.int f) = (f == 1) := by
    show ((1 : Int) == f) = (f == 1)
    rw [Bool.eq_iff_iff, beq_iff_eq, beq_iff_eq]
    exact eq_comm
  rw [e0, e1, Bool.or_false]
theorem pu_can_begin (vs : List V) (H : Hp) (Q : VK) (E : XK) (h : sp_can_begin K vs H Q E) : t_can_begin K { nx := fun _ H' => Q .non H', rt := Q } (L2.start ["digits", "many", "faint"] vs) H := by
  obtain ⟨_, P, ⟨m, k, f, rfl, rfl⟩, kk⟩ := h
  show t_can_begin K _ [some (.int m), some (.int k), some (.int f)] H
  refine q_when (b := !(decide ((1 : Int) ≤ m) && decide (m ≤ 6)) || (decide (k < 1) || (decide (10 < m * k) || !inV (.int f) [.int 0, .int 1]))) (et_or (et_not (et_test (ev_ch (f := fun i j => decide (i ≤ j)) (g := fun i j => decide (i ≤ j)) ev_c (ev_var rfl) ev_c))) fun hm => et_or (et_op (g := fun i j => decide (i < j)) (ev_var rfl) ev_c) fun hk => et_or (et_test (ev_op0 (ev_opC (ev_var rfl) (ev_var rfl) (.inl ?_) rfl) ev_c rfl)) fun _ => et_test (ev_niU (ev_var rfl) (eu_tup (ea_cons ev_c (ea_cons ev_c ea_nil)) (by show 2 ≤ 100000; decide)) rfl rfl)) (fun hc H1 e1 => ?_) (fun hc H1 e1 => ?_)
  · rw [Bool.not_eq_false', Bool.and_eq_true, decide_eq_true_iff, decide_eq_true_iff] at hm
    omega
  · refine s_ret ev_c fun H2 e2 => kk _ H2 (e1.trans e2) (congrArg V.bl ?_)
    unfold begOk
    rw [decide_eq_true]
    · rfl
    · rw [in01] at hc
      simp only [Bool.or_eq_true, Bool.not_eq_true', Bool.and_eq_false_iff, decide_eq_false_iff_not, decide_eq_true_iff, Bool.or_eq_false_iff, beq_eq_false_iff_ne] at hc
      omega
  · rw [in01] at hc
    simp only [Bool.or_eq_false_iff, Bool.not_eq_false', Bool.and_eq_true, decide_eq_true_iff, decide_eq_false_iff_not, Bool.or_eq_true, beq_iff_eq] at hc
    refine s_ret (ev_orV (a := decide (f = 0)) (b := decide (k = 2) && decide (m ≤ 4)) (ev_eq (ev_var rfl) ev_c rfl (by rw [dec_int]; rfl)) fun _ => ev_andV (ev_eq (ev_var rfl) ev_c rfl (by rw [dec_int]; rfl)) fun _ => ev_op0 (ev_var rfl) ev_c rfl) fun H2 e2 => kk _ H2 (e1.trans e2) (congrArg V.bl ?_)
    unfold begOk
    rw [Bool.eq_iff_iff, Bool.not_eq_true', decide_eq_false_iff_not, Bool.or_eq_true, Bool.and_eq_true, decide_eq_true_iff, decide_eq_true_iff, decide_eq_true_iff]
    omega
end
end Fc
/-! P8: seeds.py, the deeds that change nothing. -/
namespace Fc
open PySem PySem.Spec PyProof.Rows L2 Evl
open Sr58 (Term holds bit frac)
open Sr59 (Space Desk say)
open Sr59Neutral (callOf)
/-! ### what a call is, by its place -/
section
variable {ns : List Int} {rs : List (List Int)} {c : Sr59.Call}
theorem call_0 (h : callOf ((0 :: ns) :: rs) = some c) : ∃ x y z, ns = [x, y, z] ∧ rs = [] ∧ c = .begin_ x y z := by
  rcases ns with _ | ⟨x, _ | ⟨y, _ | ⟨z, _ | ⟨_, _⟩⟩⟩⟩ <;> rcases rs with _ | ⟨r, _ | ⟨s, _ | ⟨_, _⟩⟩⟩ <;> first | exact ⟨_, _, _, rfl, rfl, (Option.some.inj h).symm⟩ | cases h
theorem call_1 (h : callOf ((1 :: ns) :: rs) = some c) : ∃ x y, ns = [x, y] ∧ rs = [] ∧ c = .mul x y := by
  rcases ns with _ | ⟨x, _ | ⟨y, _ | ⟨z, _ | ⟨_, _⟩⟩⟩⟩ <;> rcases rs with _ | ⟨r, _ | ⟨s, _ | ⟨_, _⟩⟩⟩ <;> first | exact ⟨_, _, rfl, rfl, (Option.some.inj h).symm⟩ | cases h
theorem call_2 (h : callOf ((2 :: ns) :: rs) = some c) : ∃ x y, ns = [x, y] ∧ rs = [] ∧ c = .pow x y := by
  rcases ns with _ | ⟨x, _ | ⟨y, _ | ⟨z, _ | ⟨_, _⟩⟩⟩⟩ <;> rcases rs with _ | ⟨r, _ | ⟨s, _ | ⟨_, _⟩⟩⟩ <;> first | exact ⟨_, _, rfl, rfl, (Option.some.inj h).symm⟩ | cases h
theorem call_3 (h : callOf ((3 :: ns) :: rs) = some c) : ∃ x y, ns = [x, y] ∧ rs = [] ∧ c = .coin x y := by
  rcases ns with _ | ⟨x, _ | ⟨y, _ | ⟨z, _ | ⟨_, _⟩⟩⟩⟩ <;> rcases rs with _ | ⟨r, _ | ⟨s, _ | ⟨_, _⟩⟩⟩ <;> first | exact ⟨_, _, rfl, rfl, (Option.some.inj h).symm⟩ | cases h
theorem call_4 (h : callOf ((4 :: ns) :: rs) = some c) : ∃ x, ns = [x] ∧ rs = [] ∧ c = .row x := by
  rcases ns with _ | ⟨x, _ | ⟨y, _ | ⟨z, _ | ⟨_, _⟩⟩⟩⟩ <;> rcases rs with _ | ⟨r, _ | ⟨s, _ | ⟨_, _⟩⟩⟩ <;> first | exact ⟨_, rfl, rfl, (Option.some.inj h).symm⟩ | cases h
theorem call_5 (h : callOf ((5 :: ns) :: rs) = some c) : ∃ r s, ns = [] ∧ rs = [r, s] ∧ c = .count r s := by
  rcases ns with _ | ⟨x, _ | ⟨y, _ | ⟨z, _ | ⟨_, _⟩⟩⟩⟩ <;> rcases rs with _ | ⟨r, _ | ⟨s, _ | ⟨_, _⟩⟩⟩ <;> first | exact ⟨_, _, rfl, rfl, (Option.some.inj h).symm⟩ | cases h
theorem call_6 (h : callOf ((6 :: ns) :: rs) = some c) : ∃ r, ns = [] ∧ rs = [r] ∧ c = .odds r := by
  rcases ns with _ | ⟨x, _ | ⟨y, _ | ⟨z, _ | ⟨_, _⟩⟩⟩⟩ <;> rcases rs with _ | ⟨r, _ | ⟨s, _ | ⟨_, _⟩⟩⟩ <;> first | exact ⟨_, rfl, rfl, (Option.some.inj h).symm⟩ | cases h
theorem call_7 (h : callOf ((7 :: ns) :: rs) = some c) : ∃ x r, ns = [x] ∧ rs = [r] ∧ c = .all x r := by
  rcases ns with _ | ⟨x, _ | ⟨y, _ | ⟨z, _ | ⟨_, _⟩⟩⟩⟩ <;> rcases rs with _ | ⟨r, _ | ⟨s, _ | ⟨_, _⟩⟩⟩ <;> first | exact ⟨_, _, rfl, rfl, (Option.some.inj h).symm⟩ | cases h
theorem call_8 (h : callOf ((8 :: ns) :: rs) = some c) : ∃ x y r, ns = [x, y] ∧ rs = [r] ∧ c = .many x y r := by
  rcases ns with _ | ⟨x, _ | ⟨y, _ | ⟨z, _ | ⟨_, _⟩⟩⟩⟩ <;> rcases rs with _ | ⟨r, _ | ⟨s, _ | ⟨_, _⟩⟩⟩ <;> first | exact ⟨_, _, _, rfl, rfl, (Option.some.inj h).symm⟩ | cases h
theorem call_9 (h : callOf ((9 :: ns) :: rs) = some c) : ∃ x, ns = [x] ∧ rs = [] ∧ c = .drop x := by
  rcases ns with _ | ⟨x, _ | ⟨y, _ | ⟨z, _ | ⟨_, _⟩⟩⟩⟩ <;> rcases rs with _ | ⟨r, _ | ⟨s, _ | ⟨_, _⟩⟩⟩ <;> first | exact ⟨_, rfl, rfl, (Option.some.inj h).symm⟩ | cases h
theorem call_10 (h : callOf ((10 :: ns) :: rs) = some c) : ∃ x, ns = [x] ∧ rs = [] ∧ c = .want x := by
  rcases ns with _ | ⟨x, _ | ⟨y, _ | ⟨z, _ | ⟨_, _⟩⟩⟩⟩ <;> rcases rs with _ | ⟨r, _ | ⟨s, _ | ⟨_, _⟩⟩⟩ <;> first | exact ⟨_, rfl, rfl, (Option.some.inj h).symm⟩ | cases h
theorem call_11 (h : callOf ((11 :: ns) :: rs) = some c) : ns = [] ∧ rs = [] ∧ c = .means := by
  rcases ns with _ | ⟨x, _ | ⟨y, _ | ⟨z, _ | ⟨_, _⟩⟩⟩⟩ <;> rcases rs with _ | ⟨r, _ | ⟨s, _ | ⟨_, _⟩⟩⟩ <;> first | exact ⟨rfl, rfl, (Option.some.inj h).symm⟩ | cases h
theorem call_12 (h : callOf ((12 :: ns) :: rs) = some c) : ∃ x, ns = [x] ∧ rs = [] ∧ c = .worth x := by
  rcases ns with _ | ⟨x, _ | ⟨y, _ | ⟨z, _ | ⟨_, _⟩⟩⟩⟩ <;> rcases rs with _ | ⟨r, _ | ⟨s, _ | ⟨_, _⟩⟩⟩ <;> first | exact ⟨_, rfl, rfl, (Option.some.inj h).symm⟩ | cases h
theorem call_13 (h : callOf ((13 :: ns) :: rs) = some c) : ns = [] ∧ rs = [] ∧ c = .best := by
  rcases ns with _ | ⟨x, _ | ⟨y, _ | ⟨z, _ | ⟨_, _⟩⟩⟩⟩ <;> rcases rs with _ | ⟨r, _ | ⟨s, _ | ⟨_, _⟩⟩⟩ <;> first | exact ⟨rfl, rfl, (Option.some.inj h).symm⟩ | cases h
theorem call_14 (h : callOf ((14 :: ns) :: rs) = some c) : ∃ x, ns = [x] ∧ rs = [] ∧ c = .chances x := by
  rcases ns with _ | ⟨x, _ | ⟨y, _ | ⟨z, _ | ⟨_, _⟩⟩⟩⟩ <;> rcases rs with _ | ⟨r, _ | ⟨s, _ | ⟨_, _⟩⟩⟩ <;> first | exact ⟨_, rfl, rfl, (Option.some.inj h).symm⟩ | cases h
theorem call_15 (h : callOf ((15 :: ns) :: rs) = some c) : ns = [] ∧ rs = [] ∧ c = .size := by
  rcases ns with _ | ⟨x, _ | ⟨y, _ | ⟨z, _ | ⟨_, _⟩⟩⟩⟩ <;> rcases rs with _ | ⟨r, _ | ⟨s, _ | ⟨_, _⟩⟩⟩ <;> first | exact ⟨rfl, rfl, (Option.some.inj h).symm⟩ | cases h
end
section
variable {K : PySem.W.Frag} {mg : Str → Option Value}
/-- a deed that hands back a new list and leaves all as it was -/
theorem ret_ans {te : TE} {σ : L2.St} {H H1 : Hp} {a : Addr} {st : Sr59.State} {ans : List Int} {Q : VK} (h : EvL te σ H1 (ans.map V.int)) (k : Done K a H Q st ans) (hS : SeedsAt K H a st) (e : Ex H H1) : tRet te { nx := fun _ H' => Q .non H', rt := Q } σ H1 :=
  s_retL h fun p H2 hp e2 h2 => k _ H2 (KB.of (e.trans e2)) (hS.mono (e.trans e2)) ⟨p, rfl, h2⟩
theorem el_1 {σ : L2.St} {H : Hp} {ta : TE} {n : Int} (h : Ev ta σ H (.int n)) : EvL (tLst (tCons ta tNil)) σ H (([n] : List Int).map V.int) := el_lst (ea_cons h ea_nil) (by show 1 ≤ 100000; decide)
theorem el_2 {σ : L2.St} {H : Hp} {ta tb : TE} {n m : Int} (h : Ev ta σ H (.int n)) (h2 : Ev tb σ H (.int m)) : EvL (tLst (tCons ta (tCons tb tNil))) σ H (([n, m] : List Int).map V.int) := el_lst (ea_cons h (ea_cons h2 ea_nil)) (by show 2 ≤ 100000; decide)
theorem el_3 {σ : L2.St} {H : Hp} {ta tb tc : TE} {n m l : Int} (h : Ev ta σ H (.int n)) (h2 : Ev tb σ H (.int m)) (h3 : Ev tc σ H (.int l)) : EvL (tLst (tCons ta (tCons tb (tCons tc tNil)))) σ H (([n, m, l] : List Int).map V.int) := el_lst (ea_cons h (ea_cons h2 (ea_cons h3 ea_nil))) (by show 3 ≤ 100000; decide)
theorem ev_in {σ : L2.St} {H : Hp} {ta tb : TE} {n m : Int} (h : Ev ta σ H (.int n)) (h2 : Ev tb σ H (.int m)) : Ev (tCall (sp_is_in K) [] E0 (tCons ta (tCons tb tNil))) σ H (.bl (decide (0 ≤ n) && decide (n < m))) := ev_callv (ea_cons h (ea_cons h2 ea_nil)) rfl fun H1 e1 => ⟨n, m, rfl, rfl⟩
theorem two_cast (m : Nat) : (((2 : Nat) ^ m : Nat) : Int) = (2 : Int) ^ m := by rw [Int.natCast_pow]; rfl
theorem is_field (d : Desk) (x : Int) : (decide (0 ≤ x) && decide (x < ((2 ^ d.s.m : Nat) : Int))) = Sr59.isField d x := by
  unfold Sr59.isField
  rw [two_cast]
theorem nat_of {x : Int} {m : Nat} (h : (decide (0 ≤ x) && decide (x < ((m : Nat) : Int))) = true) : ∃ n : Nat, x = (n : Int) ∧ n < m := by
  rw [Bool.and_eq_true, decide_eq_true_iff, decide_eq_true_iff] at h
  obtain ⟨n, hn⟩ := Int.eq_ofNat_of_zero_le h.1
  exact ⟨n, hn, by omega⟩
variable (T : Txt K mg)
include T
theorem pu_mul (vs : List V) (H : Hp) (Q : VK) (E : XK) (h : sp_mul K vs H Q E) : t_mul K { nx := fun _ H' => Q .non H', rt := Q } (L2.start ["seeds", "numbers", "rows", "many", "one", "other"] vs) H := by
  obtain ⟨_, a, nv, rv, st, ns, rs, c, rfl, hS, hn, hr, hz, hc, hst, k⟩ := h
  obtain ⟨x, y, rfl, rfl, rfl⟩ := call_1 hc
  cases st with
  | none => exact absurd rfl (hst.resolve_left (by decide))
  | some d =>
    obtain ⟨dx, vp, vr, vt, ho, ok, hp, hr', ht⟩ := id hS
    obtain ⟨q, rfl, hq⟩ := hn
    show t_mul K _ [some (.ref a), some (.ref q), some rv, none, none, none] H
    refine qp_unl2 (K := K) (ev_var rfl) (sq_of hq) fun H1 e1 => ?_
    refine q_asg (ev_lenT (ev_products T (ev_var rfl) (e1 _ _ ho)) (hp.mono e1)) fun H2 e2 => ?_
    have k' : Done K a H Q (some d) (ansI (if Sr59.isField d x = false ∨ Sr59.isField d y = false then say (-22) else say (Sr59.mul d.s.m x.toNat y.toNat : Nat))) := k
    refine q_when (b := !(Sr59.isField d x) || !(Sr59.isField d y)) (et_or (et_not (et_B (ev_is (ev_in (ev_var rfl) (ev_var rfl)) (congrArg V.bl (is_field d x))))) fun _ => et_not (et_B (ev_is (ev_in (ev_var rfl) (ev_var rfl)) (congrArg V.bl (is_field d y))))) (fun hb H3 e3 => ?_) (fun hb H3 e3 => ?_)
    · rw [if_pos (by simpa using hb)] at k'
      exact ret_ans (el_1 ev_c) k' hS ((e1.trans e2).trans e3)
    · rw [if_neg (by simpa using hb)] at k'
      rw [Bool.or_eq_false_iff, Bool.not_eq_false', Bool.not_eq_false'] at hb
      obtain ⟨i, rfl, hi⟩ := nat_of ((is_field d x).trans hb.1)
      obtain ⟨j, rfl, hj⟩ := nat_of ((is_field d y).trans hb.2)
      exact ret_ans (el_1 (ev_table (ev_products T (ev_var rfl) (e3 _ _ (e2 _ _ (e1 _ _ ho)))) (ev_var rfl) (ev_var rfl) (hp.mono ((e1.trans e2).trans e3)) hi hj)) k' hS ((e1.trans e2).trans e3)
theorem pu_pow_of (vs : List V) (H : Hp) (Q : VK) (E : XK) (h : sp_pow_of K vs H Q E) : t_pow_of K { nx := fun _ H' => Q .non H', rt := Q } (L2.start ["seeds", "numbers", "rows", "number", "often"] vs) H := by
  obtain ⟨_, a, nv, rv, st, ns, rs, c, rfl, hS, hn, hr, hz, hc, hst, k⟩ := h
  obtain ⟨x, y, rfl, rfl, rfl⟩ := call_2 hc
  cases st with
  | none => exact absurd rfl (hst.resolve_left (by decide))
  | some d =>
    obtain ⟨dx, vp, vr, vt, ho, ok, hp, hr', ht⟩ := id hS
    obtain ⟨q, rfl, hq⟩ := hn
    show t_pow_of K _ [some (.ref a), some (.ref q), some rv, none, none] H
    refine qp_unl2 (K := K) (ev_var rfl) (sq_of hq) fun H1 e1 => ?_
    have k' : Done K a H Q (some d) (ansI (if Sr59.isField d x = false ∨ y < 0 ∨ 100 < y then say (-22) else say (Sr59.pow d.s.m x.toNat y.toNat : Nat))) := k
    refine q_when (b := !(Sr59.isField d x) || !(decide (0 ≤ y) && decide (y ≤ 100))) (et_or (et_not (et_B (ev_is (ev_in (ev_var rfl) (ev_lenT (ev_products T (ev_var rfl) (e1 _ _ ho)) (hp.mono e1))) (congrArg V.bl (is_field d x))))) fun _ => et_not (et_test (ev_ch (f := fun i j => decide (i ≤ j)) (g := fun i j => decide (i ≤ j)) ev_c (ev_var rfl) ev_c))) (fun hb H3 e3 => ?_) (fun hb H3 e3 => ?_)
    · rw [if_pos (by simpa [Int.not_le] using hb)] at k'
      exact ret_ans (el_1 ev_c) k' hS (e1.trans e3)
    · rw [if_neg (by simpa [Int.not_le, Int.not_lt] using hb)] at k'
      rw [Bool.or_eq_false_iff, Bool.not_eq_false', Bool.not_eq_false', Bool.and_eq_true, decide_eq_true_iff, decide_eq_true_iff] at hb
      obtain ⟨i, rfl, hi⟩ := nat_of ((is_field d x).trans hb.1)
      obtain ⟨j, rfl⟩ := Int.eq_ofNat_of_zero_le hb.2.1
      exact ret_ans (el_1 (ev_callv (ea_cons (ev_products T (ev_var rfl) (e3 _ _ (e1 _ _ ho))) (ea_cons (ev_var rfl) (ea_cons (ev_var rfl) ea_nil))) rfl fun H4 e4 => ⟨vp, d.s.m, i, j, rfl, hp.mono ((e1.trans e3).trans e4), ok.1.sz.m, hi, by omega, rfl⟩)) k' hS (e1.trans e3)
end
end Fc
/-! Q1: the plain law of count, odds, worth, best. -/
namespace Fc
open Sr58 (Term holds bit frac)
open Sr59 (Space Desk)
theorem atC_row {s : Space} {x : Nat} {c : Int} (h : 0 ≤ c ∧ c < ((2 ^ s.m : Nat) : Int)) : atC (rowI s x) c = bit (Sr59.coin s x c.toNat) := by
  obtain ⟨n, rfl⟩ := Int.eq_ofNat_of_zero_le h.1
  have hn : n < 2 ^ s.m := by omega
  unfold atC rowI Sr59.row Sr59.coins
  rw [Int.toNat_natCast, List.map_map, List.getD_eq_getElem?_getD, List.getElem?_map, List.getElem?_range hn]
  rfl
theorem bit_one (b : Bool) (w : Int) (hw : w = 0 ∨ w = 1) : (bit b = w) ↔ (b == (w == 1)) = true := by
  rcases hw with rfl | rfl <;> cases b <;> decide
theorem lie_row {s : Space} {x : Nat} : ∀ {cs ws : List Int}, (∀ c ∈ cs, 0 ≤ c ∧ c < ((2 ^ s.m : Nat) : Int)) → (∀ w ∈ ws, w = 0 ∨ w = 1) → cs.length = ws.length →
    decide (cs.map (atC (rowI s x)) = ws) = ((Sr59.nats cs).zip (ws.map fun x => x == 1)).all fun y => Sr59.coin s x y.1 == y.2
  | [], [], _, _, _ => rfl
  | c :: cs, w :: ws, hc, hw, hl => by
    have ih := lie_row (s := s) (x := x) (cs := cs) (ws := ws) (fun c h => hc c (List.mem_cons_of_mem _ h)) (fun w h => hw w (List.mem_cons_of_mem _ h)) (by simpa using hl)
    have h1 := hc c List.mem_cons_self
    have h2 := hw w List.mem_cons_self
    show decide (atC (rowI s x) c :: cs.map (atC (rowI s x)) = w :: ws) = ((Sr59.coin s x c.toNat == (w == 1)) && ((Sr59.nats cs).zip (ws.map fun x => x == 1)).all fun y => Sr59.coin s x y.1 == y.2)
    rw [← ih, Bool.eq_iff_iff, decide_eq_true_iff, Bool.and_eq_true, decide_eq_true_iff, List.cons.injEq, atC_row h1, bit_one _ _ h2]
theorem lieN_is {s : Space} {cs ws : List Int} (hc : ∀ c ∈ cs, 0 ≤ c ∧ c < ((2 ^ s.m : Nat) : Int)) (hw : ∀ w ∈ ws, w = 0 ∨ w = 1) (hl : cs.length = ws.length) : lieN (rowsI s) cs ws = Sr59.count s (Sr59.nats cs) (ws.map fun x => x == 1) := by
  unfold lieN rowsI Sr59.count
  rw [List.filter_map, List.length_map]
  congr 1
  apply List.filter_congr
  intro x _
  exact lie_row hc hw hl
theorem odd_row {s : Space} {x : Nat} : ∀ {cs : List Int}, (∀ c ∈ cs, 0 ≤ c ∧ c < ((2 ^ s.m : Nat) : Int)) → (cs.map (atC (rowI s x))).sum = (((Sr59.nats cs).filter (Sr59.coin s x)).length : Int)
  | [], _ => rfl
  | c :: cs, hc => by
    have ih := odd_row (s := s) (x := x) (cs := cs) fun c h => hc c (List.mem_cons_of_mem _ h)
    have h1 := hc c List.mem_cons_self
    rw [List.map_cons, List.sum_cons, ih, atC_row h1]
    show _ = (((c.toNat :: Sr59.nats cs).filter (Sr59.coin s x)).length : Int)
    rw [List.filter_cons]
    cases h : Sr59.coin s x c.toNat with
    | true =>
      rw [if_pos rfl, List.length_cons]
      show (1 : Int) + _ = _
      omega
    | false =>
      rw [if_neg (by decide)]
      show (0 : Int) + _ = _
      omega
theorem oddN_is {s : Space} {cs : List Int} (hc : ∀ c ∈ cs, 0 ≤ c ∧ c < ((2 ^ s.m : Nat) : Int)) : oddN (rowsI s) cs = Sr59.odds s (Sr59.nats cs) := by
  unfold oddN rowsI Sr59.odds
  rw [List.filter_map, List.length_map]
  congr 1
  apply List.filter_congr
  intro x _
  show decide ((cs.map (atC (rowI s x))).sum % 2 = 1) = _
  rw [odd_row hc, Bool.eq_iff_iff, decide_eq_true_iff, beq_iff_eq]
  omega
theorem coins_range {d : Desk} {l : List Int} (h : Sr59.okCoins d l = true) : ∀ c ∈ l, 0 ≤ c ∧ c < ((2 ^ d.s.m : Nat) : Int) := fun c hc => by
  unfold Sr59.okCoins at h
  rw [Bool.and_eq_true] at h
  have q := List.all_eq_true.mp h.1 c hc
  unfold Sr59.isCoin at q
  rw [Bool.and_eq_true, decide_eq_true_iff, decide_eq_true_iff] at q
  exact q
/-! ### worth -/
theorem foldl_sum : ∀ (l : List Int) (a : Int), l.foldl (· + ·) a = a + l.sum
  | [], a => by
    show a = a + 0
    omega
  | x :: l, a => by
    rw [List.foldl_cons, foldl_sum l, List.sum_cons]
    omega
theorem sum_if (x : List Bool) : ∀ ts : List Term, (ts.map fun t => if holds x t.sort then t.w else 0).sum = worthI ts x
  | [] => rfl
  | t :: ts => by
    have ih := sum_if x ts
    rw [List.map_cons, List.sum_cons, ih]
    unfold worthI
    rw [List.filter_cons]
    cases holds x t.sort with
    | true => rw [if_pos rfl, if_pos rfl, List.map_cons, List.sum_cons]
    | false =>
      rw [if_neg (by decide), if_neg (by decide)]
      omega
theorem worth_is (d : Desk) (x : Nat) : Sr59.worth d x = worthI d.terms (Sr59.row d.s x) := by
  unfold Sr59.worth
  rw [foldl_sum, sum_if]
  omega
theorem meanN_is (d : Desk) : ((List.range (Sr59.seeds d.s)).map (Sr59.worth d)).foldl (· + ·) 0 = meanN d.s d.terms := by
  rw [foldl_sum]
  unfold meanN
  have e : (List.range (Sr59.seeds d.s)).map (Sr59.worth d) = (List.range (Sr59.seeds d.s)).map fun x => worthI d.terms (Sr59.row d.s x) := by
    apply List.map_congr_left
    intro x _
    exact worth_is d x
  rw [e]
  omega
/-! ### best -/
/-- better: the second is better than the first -/
def bt (much : Bool) (a b : Int) : Bool := if much then decide (a < b) else decide (b < a)
/-- the first of the best -/
theorem best_first (W : Nat → Int) (much : Bool) : ∀ n, 0 < n → ∃ b, b < n ∧ (List.range n).foldl (fun b x => if bt much (W b) (W x) then x else b) 0 = b ∧ (∀ x, x < n → bt much (W b) (W x) = false) ∧ ∀ x, x < b → bt much (W x) (W b) = true
  | 0, h => absurd h (by decide)
  | 1, _ => by
    refine ⟨0, by decide, ?_, fun x hx => ?_, fun x hx => by omega⟩
    · show (if bt much (W 0) (W 0) then 0 else 0) = 0
      split <;> rfl
    · have : x = 0 := by omega
      subst this
      unfold bt
      split <;> exact decide_eq_false (by omega)
  | n + 2, _ => by
    obtain ⟨b, hb, he, h1, h2⟩ := best_first W much (n + 1) (Nat.succ_pos n)
    rw [List.range_succ, List.foldl_append, he]
    show ∃ b', b' < n + 2 ∧ (if bt much (W b) (W (n + 1)) then n + 1 else b) = b' ∧ _
    have tr : ∀ x y z : Int, bt much x y = false → bt much y z = false → bt much x z = false := fun x y z => by
      unfold bt
      cases much <;> simp <;> omega
    have tr2 : ∀ x y z : Int, bt much x y = false → bt much x z = true → bt much y z = true := fun x y z => by
      unfold bt
      cases much <;> simp <;> omega
    have asym : ∀ x y : Int, bt much x y = true → bt much y x = false := fun x y => by
      unfold bt
      cases much <;> simp <;> omega
    have irr : ∀ x : Int, bt much x x = false := fun x => by
      unfold bt
      cases much <;> simp
    cases hc : bt much (W b) (W (n + 1)) with
    | true =>
      rw [if_pos rfl]
      refine ⟨n + 1, by omega, rfl, fun x hx => ?_, fun x hx => ?_⟩
      · by_cases e : x = n + 1
        · rw [e]
          exact irr _
        · exact tr _ _ _ (asym _ _ hc) (h1 x (by omega))
      · exact tr2 _ _ _ (h1 x (by omega)) hc
    | false =>
      rw [if_neg (by decide)]
      refine ⟨b, by omega, rfl, fun x hx => ?_, h2⟩
      by_cases e : x = n + 1
      · rw [e]
        exact hc
      · exact h1 x (by omega)
theorem best_is (d : Desk) : Sr59.best d = (List.range (Sr59.seeds d.s)).foldl (fun b x => if bt d.much (Sr59.worth d b) (Sr59.worth d x) then x else b) 0 := rfl
end Fc
/-! P9: seeds.py, the deeds that change nothing, further. -/
namespace Fc
open PySem PySem.Spec PyProof.Rows L2 Evl
open Sr58 (Term holds bit frac)
open Sr59 (Space Desk say)
open Sr59Neutral (callOf)
section
variable {K : PySem.W.Frag} {mg : Str → Option Value}
theorem row_at {s : Space} {x i : Nat} (hi : i < 2 ^ s.m) : (rowI s x)[i]? = some (bit (Sr59.coin s x i)) := by
  unfold rowI Sr59.row Sr59.coins
  rw [List.getElem?_map, List.getElem?_map, List.getElem?_range hi]
  rfl
theorem el_cat {σ : L2.St} {H : Hp} {ta tb : TE} {xs ys : List V} (ha : EvL ta σ H xs) (hb : ∀ H1, Ex H H1 → EvP tb σ H1 (fun v H2 => ∃ q, v = .ref q ∧ H2 q = some (.lst ys))) (hz : xs.length + ys.length ≤ 100000) : EvL (tOp rCat ta tb) σ H (xs ++ ys) := fun H1 e Q q =>
  ha H1 e _ fun p H2 hp e2 h2 => hb H2 (e.trans e2) H2 (Ex.refl _) _ fun v H3 e3 ⟨r, hv, hr⟩ => ⟨p, r, xs, ys, rfl, hv, e3 _ _ h2, hr, sz_of hz, fun t ht => q t _ (fresh_back (e2.trans e3) ht) ((e2.trans e3).trans (Ex.new ht)) upd_same⟩
theorem evp_isL {σ : L2.St} {H : Hp} {ta : TE} {a : V} {ns : List Int} (ha : Ev ta σ H a) (h : IsL a H ns) : EvP ta σ H (fun v H2 => ∃ q, v = .ref q ∧ H2 q = some (.lst (ns.map V.int))) := evp_ev ha fun H1 e => h.mono e
theorem one_at {v : V} {H : Hp} {x : Int} (h : IsL v H [x]) : ∃ q, v = .ref q ∧ H q = some (.lst [V.int x]) := h
theorem ev_num0 {σ : L2.St} {H : Hp} {ta : TE} {a : V} {x : Int} {r : List Int} (ha : Ev ta σ H a) (h : IsL a H (x :: r)) : Ev (tOp (rIxL K) ta (tC (.int 0))) σ H (.int x) := ev_ixI (j := 0) ha ev_c h rfl
/-- rows[0] -/
theorem ev_row0 {σ : L2.St} {H : Hp} {ta : TE} {a : V} {r : List Int} {rs : List (List Int)} (ha : Ev ta σ H a) (h : IsLL a H (r :: rs)) : ∃ v, IsL v H r ∧ Ev (tOp (rIxL K) ta (tC (.int 0))) σ H v := by
  obtain ⟨q, vs, rfl, hq, pd⟩ := h
  obtain ⟨v, hv, hr⟩ := pd_get pd (i := 0) rfl
  exact ⟨v, hr, ev_ix (j := 0) ha ev_c hq hv⟩
variable (T : Txt K mg)
include T
theorem pu_coin (vs : List V) (H : Hp) (Q : VK) (E : XK) (h : sp_coin K vs H Q E) : t_coin K { nx := fun _ H' => Q .non H', rt := Q } (L2.start ["seeds", "numbers", "rows", "seed", "place"] vs) H := by
  obtain ⟨_, a, nv, rv, st, ns, rs, c, rfl, hS, hn, hr, hz, hc, hst, k⟩ := h
  obtain ⟨x, y, rfl, rfl, rfl⟩ := call_3 hc
  cases st with
  | none => exact absurd rfl (hst.resolve_left (by decide))
  | some d =>
    obtain ⟨dx, vp, vr, vt, ho, ok, hp, hr', ht⟩ := id hS
    obtain ⟨q, rfl, hq⟩ := hn
    show t_coin K _ [some (.ref a), some (.ref q), some rv, none, none] H
    refine qp_unl2 (K := K) (ev_var rfl) (sq_of hq) fun H1 e1 => ?_
    have k' : Done K a H Q (some d) (ansI (if Sr59.isSeed d x = false ∨ Sr59.isCoin d y = false then say (-2) else say (bit (Sr59.coin d.s x.toNat y.toNat)))) := k
    refine q_when (b := !(Sr59.isSeed d x) || !(Sr59.isCoin d y)) (et_or (et_not (et_B (b := Sr59.isSeed d x) (ev_in (ev_var rfl) (ev_lenR (ev_rows T (ev_var rfl) (e1 _ _ ho)) (hr'.mono e1))))) fun _ => et_not (et_B (ev_in (ev_var rfl) (ev_lenT (ev_products T (ev_var rfl) (e1 _ _ ho)) (hp.mono e1))))) (fun hb H3 e3 => ?_) (fun hb H3 e3 => ?_)
    · rw [if_pos (by simpa using hb)] at k'
      exact ret_ans (el_1 ev_c) k' hS (e1.trans e3)
    · rw [if_neg (by simpa using hb)] at k'
      rw [Bool.or_eq_false_iff, Bool.not_eq_false', Bool.not_eq_false'] at hb
      obtain ⟨i, rfl, hi⟩ := nat_of (m := Sr59.seeds d.s) hb.1
      obtain ⟨j, rfl, hj⟩ := nat_of (m := 2 ^ d.s.m) hb.2
      exact ret_ans (el_1 (ev_ixII (ev_rows T (ev_var rfl) (e3 _ _ (e1 _ _ ho))) (ev_var rfl) (ev_var rfl) (hr'.mono (e1.trans e3)) (rowsI_at hi) (row_at hj))) k' hS (e1.trans e3)
theorem pu_row_of (vs : List V) (H : Hp) (Q : VK) (E : XK) (h : sp_row_of K vs H Q E) : t_row_of K { nx := fun _ H' => Q .non H', rt := Q } (L2.start ["seeds", "numbers", "rows"] vs) H := by
  obtain ⟨_, a, nv, rv, st, ns, rs, c, rfl, hS, hn, hr, hz, hc, hst, k⟩ := h
  obtain ⟨x, rfl, rfl, rfl⟩ := call_4 hc
  cases st with
  | none => exact absurd rfl (hst.resolve_left (by decide))
  | some d =>
    obtain ⟨dx, vp, vr, vt, ho, ok, hp, hr', ht⟩ := id hS
    show t_row_of K _ [some (.ref a), some nv, some rv] H
    have h64 := pow_le6 ok.1.sz.m
    have k' : Done K a H Q (some d) (ansI (if Sr59.isSeed d x = false then say (-2) else ⟨(Sr59.coins d.s : Int), (Sr59.row d.s x.toNat).map bit⟩)) := k
    refine q_when (b := !(Sr59.isSeed d x)) (et_not (et_B (ev_in (ev_num0 (ev_var rfl) hn) (ev_lenR (ev_rows T (ev_var rfl) ho) hr')))) (fun hb H3 e3 => ?_) (fun hb H3 e3 => ?_)
    · rw [if_pos (by simpa using hb)] at k'
      exact ret_ans (el_1 ev_c) k' hS e3
    · rw [if_neg (by simpa using hb)] at k'
      rw [Bool.not_eq_false'] at hb
      obtain ⟨i, rfl, hi⟩ := nat_of (m := Sr59.seeds d.s) hb
      obtain ⟨p, ws, rfl, hp2, pd⟩ := hr'
      obtain ⟨w, hw, hwr⟩ := pd_get pd (rowsI_at hi)
      refine ret_ans (ans := ((2 ^ d.s.m : Nat) : Int) :: rowI d.s i) ?_ k' hS e3
      show EvL _ _ _ ((([((2 ^ d.s.m : Nat) : Int)] : List Int).map V.int) ++ (rowI d.s i).map V.int)
      refine el_cat (el_1 (ev_lenT (ev_products T (ev_var rfl) (e3 _ _ ho)) (hp.mono e3))) (fun H4 e4 => evp_isL (ev_ix (j := i) (ev_rows T (ev_var rfl) (e4 _ _ (e3 _ _ ho))) (ev_num0 (ev_var rfl) (hn.mono (e3.trans e4))) (e4 _ _ (e3 _ _ hp2)) hw) (hwr.mono (e3.trans e4))) ?_
      unfold rowI
      rw [List.length_map, List.length_map, List.length_map, row_len]
      show 1 + _ ≤ _
      omega
theorem ev_areCoins {σ : L2.St} {H : Hp} {ta tb : TE} {a : Addr} {b : V} {d : Desk} {l : List Int} (ha : Ev ta σ H (.ref a)) (hb : Ev tb σ H b) (hS : SeedsAt K H a (some d)) (hl : IsL b H l) (hz : l.length ≤ 70) : Ev (tCall (sp_are_coins K) [] E0 (tCons ta (tCons tb tNil))) σ H (.bl (Sr59.okCoins d l)) :=
  ev_callv (ea_cons ha (ea_cons hb ea_nil)) rfl fun H1 e1 => ⟨a, b, d, l, rfl, hS.mono e1, hl.mono e1, hz, rfl⟩
theorem rowsOk {d : Desk} (ok : DeskOk d) {l : List Int} (h : Sr59.okCoins d l = true) (hz : l.length ≤ 70) : RowsOk (2 ^ d.s.m) (rowsI d.s) l where
  len := fun r hr => by
    obtain ⟨x, _, rfl⟩ := mem_rows hr
    unfold rowI
    rw [List.length_map, row_len]
  lt := coins_range h
  few := by
    rw [rowsI_len]
    exact seeds_le ok.1
  fewc := hz
theorem pu_count (vs : List V) (H : Hp) (Q : VK) (E : XK) (h : sp_count K vs H Q E) : t_count K { nx := fun _ H' => Q .non H', rt := Q } (L2.start ["seeds", "numbers", "rows", "coins", "lie", "number"] vs) H := by
  obtain ⟨_, a, nv, rv, st, ns, rs, c, rfl, hS, hn, hr, hz, hc, hst, k⟩ := h
  obtain ⟨l, b, rfl, rfl, rfl⟩ := call_5 hc
  cases st with
  | none => exact absurd rfl (hst.resolve_left (by decide))
  | some d =>
    obtain ⟨dx, vp, vr, vt, ho, ok, hp, hr', ht⟩ := id hS
    obtain ⟨q, ws, rfl, hq, pd⟩ := hr
    have hzl := hz l (by simp)
    have hzb := hz b (by simp)
    obtain ⟨v1, r1, hl, rfl⟩ : ∃ v r, IsL v H l ∧ ws = v :: r := by
      cases pd with
      | cons h t => exact ⟨_, _, h, rfl⟩
    obtain ⟨v2, hb, rfl⟩ : ∃ v, IsL v H b ∧ r1 = [v] := by
      cases pd with
      | cons h t =>
        cases t with
        | cons h t =>
          cases t
          exact ⟨_, h, rfl⟩
    show t_count K _ [some (.ref a), some nv, some (.ref q), none, none, none] H
    refine qp_unl2 (K := K) (ev_var rfl) (sq_of hq) fun H1 e1 => ?_
    have k' : Done K a H Q (some d) (ansI (if Sr59.okCoins d l = false ∨ b.length ≠ l.length ∨ (b.any fun x => decide (x < 0) || decide (1 < x)) = true then say (-22) else ⟨(Sr59.count d.s (Sr59.nats l) (b.map fun x => x == 1) : Int), [(Sr59.seeds d.s : Int)]⟩)) := k
    have lies : EvL (tLc (iList K (tVar 4)) (gName 5) tYes (tOp (rIn K false) (tVar 5) (tTup (tCons (tC (.int 0)) (tCons (tC (.int 1)) tNil)))) [5]) [some (.ref a), some nv, some (.ref q), some v1, some v2, none] H1 (b.map fun n => V.bl (inV (.int n) [.int 0, .int 1])) := by
      obtain ⟨r, rfl, hb⟩ := hb
      exact el_lcI (fun n => V.bl (inV (.int n) [.int 0, .int 1])) (ev_var rfl) (sq_of (e1 _ _ hb)) (by omega) (fun _ => rfl) fun n H2 e2 hn => ev_inU (ev_var rfl) (eu_tup (ea_cons ev_c (ea_cons ev_c ea_nil)) (by show 2 ≤ 100000; decide)) rfl rfl
    rw [map_bl (fun n => inV (.int n) [.int 0, .int 1])] at lies
    have test : EvT (tOr (tNot (tB (tCall (sp_are_coins K) [] E0 (tCons (tVar 0) (tCons (tVar 3) tNil))))) (tOr (tTest (tOp rNe (tCB (rLenS K) (tCons (tVar 4) tNil)) (tCB (rLenS K) (tCons (tVar 3) tNil)))) (tNot (tB (tCB (rAll K) (tCons (tLc (iList K (tVar 4)) (gName 5) tYes (tOp (rIn K false) (tVar 5) (tTup (tCons (tC (.int 0)) (tCons (tC (.int 1)) tNil)))) [5]) tNil)))))) [some (.ref a), some nv, some (.ref q), some v1, some v2, none] H1
        (!(Sr59.okCoins d l) || (!decide (V.int (b.length : Int) = V.int (l.length : Int)) || !(b.map fun n => inV (.int n) [.int 0, .int 1]).all id)) :=
      et_or (et_not (et_B (ev_areCoins T (ev_var rfl) (ev_var rfl) (hS.mono e1) (hl.mono e1) hzl))) fun _ => et_or (et_test (ev_op (ev_lenL (ev_var rfl) (hb.mono e1)) (ev_lenL (ev_var rfl) (hl.mono e1)) (rv_ne rfl))) fun _ => et_not (et_B (ev_allN (evp_l lies)))
    have eqb : (!(Sr59.okCoins d l) || (!decide (V.int (b.length : Int) = V.int (l.length : Int)) || !(b.map fun n => inV (.int n) [.int 0, .int 1]).all id)) = decide (Sr59.okCoins d l = false ∨ b.length ≠ l.length ∨ (b.any fun x => decide (x < 0) || decide (1 < x)) = true) := by
      rw [all_bl (fun n => inV (.int n) [.int 0, .int 1]), Bool.eq_iff_iff, decide_eq_true_iff, Bool.or_eq_true, Bool.or_eq_true, Bool.not_eq_true', Bool.not_eq_true', Bool.not_eq_true', decide_eq_false_iff_not]
      have e1 : (V.int (b.length : Int) = V.int (l.length : Int)) ↔ b.length = l.length := by
        constructor
        · intro h
          injection h with h
          omega
        · intro h
          rw [h]
      have e2 : (b.all fun n => inV (.int n) [.int 0, .int 1]) = false ↔ (b.any fun x => decide (x < 0) || decide (1 < x)) = true := by
        rw [List.any_eq_true, List.all_eq_false]
        constructor
        · rintro ⟨x, hx, h⟩
          rw [in01] at h
          simp only [Bool.or_eq_true, beq_iff_eq] at h
          refine ⟨x, hx, ?_⟩
          simp only [Bool.or_eq_true, decide_eq_true_iff]
          omega
        · rintro ⟨x, hx, h⟩
          simp only [Bool.or_eq_true, decide_eq_true_iff] at h
          refine ⟨x, hx, ?_⟩
          rw [in01]
          simp only [Bool.or_eq_true, beq_iff_eq]
          omega
      rw [e1, e2]
    rw [eqb] at test
    refine q_when test (fun hc2 H3 e3 => ?_) (fun hc2 H3 e3 => ?_)
    · rw [if_pos (of_decide_eq_true hc2)] at k'
      exact ret_ans (el_1 ev_c) k' hS (e1.trans e3)
    · have c := of_decide_eq_false hc2
      rw [if_neg c] at k'
      have okc : Sr59.okCoins d l = true := by
        cases h : Sr59.okCoins d l with
        | true => rfl
        | false => exact absurd (Or.inl h) c
      have hlen : l.length = b.length := Decidable.byContradiction fun h => c (Or.inr (Or.inl (fun e => h e.symm)))
      have hw : ∀ w ∈ b, w = 0 ∨ w = 1 := fun w hw => Decidable.byContradiction fun h => c (Or.inr (Or.inr (List.any_eq_true.mpr ⟨w, hw, by
        simp only [Bool.or_eq_true, decide_eq_true_iff]
        omega⟩)))
      refine ret_ans (el_2 (ev_callv (ea_cons (ev_rows T (ev_var rfl) (e3 _ _ (e1 _ _ ho))) (ea_cons (ev_var rfl) (ea_cons (ev_var rfl) ea_nil))) rfl fun H4 e4 => ⟨vr, v1, v2, 2 ^ d.s.m, rowsI d.s, l, b, rfl, hr'.mono ((e1.trans e3).trans e4), hl.mono ((e1.trans e3).trans e4), hb.mono ((e1.trans e3).trans e4), rowsOk T ok okc hzl, rfl⟩) (ev_lenR (ev_rows T (ev_var rfl) (e3 _ _ (e1 _ _ ho))) (hr'.mono (e1.trans e3)))) ?_ hS (e1.trans e3)
      rw [lieN_is (coins_range okc) hw hlen]
      exact k'
theorem pu_odds (vs : List V) (H : Hp) (Q : VK) (E : XK) (h : sp_odds K vs H Q E) : t_odds K { nx := fun _ H' => Q .non H', rt := Q } (L2.start ["seeds", "numbers", "rows"] vs) H := by
  obtain ⟨_, a, nv, rv, st, ns, rs, c, rfl, hS, hn, hr, hz, hc, hst, k⟩ := h
  obtain ⟨l, rfl, rfl, rfl⟩ := call_6 hc
  cases st with
  | none => exact absurd rfl (hst.resolve_left (by decide))
  | some d =>
    obtain ⟨dx, vp, vr, vt, ho, ok, hp, hr', ht⟩ := id hS
    have hzl := hz l (by simp)
    show t_odds K _ [some (.ref a), some nv, some rv] H
    obtain ⟨v1, hl, ev1⟩ := ev_row0 (K := K) (σ := [some (.ref a), some nv, some rv]) (ta := tVar 2) (ev_var rfl) hr
    have k' : Done K a H Q (some d) (ansI (if Sr59.okCoins d l = false then say (-22) else ⟨(Sr59.odds d.s (Sr59.nats l) : Int), [(Sr59.seeds d.s : Int)]⟩)) := k
    refine q_when (b := !(Sr59.okCoins d l)) (et_not (et_B (ev_areCoins T (ev_var rfl) ev1 hS hl hzl))) (fun hb H3 e3 => ?_) (fun hb H3 e3 => ?_)
    · rw [if_pos (by simpa using hb)] at k'
      exact ret_ans (el_1 ev_c) k' hS e3
    · rw [if_neg (by simpa using hb)] at k'
      rw [Bool.not_eq_false'] at hb
      refine ret_ans (el_2 (ev_callv (ea_cons (ev_rows T (ev_var rfl) (e3 _ _ ho)) (ea_cons (ev1.mono e3) ea_nil)) rfl fun H4 e4 => ⟨vr, v1, 2 ^ d.s.m, rowsI d.s, l, rfl, hr'.mono (e3.trans e4), hl.mono (e3.trans e4), rowsOk T ok hb hzl, rfl⟩) (ev_lenR (ev_rows T (ev_var rfl) (e3 _ _ ho)) (hr'.mono e3))) ?_ hS e3
      rw [oddN_is (coins_range hb)]
      exact k'
theorem pu_worth (vs : List V) (H : Hp) (Q : VK) (E : XK) (h : sp_worth K vs H Q E) : t_worth K { nx := fun _ H' => Q .non H', rt := Q } (L2.start ["seeds", "numbers", "rows"] vs) H := by
  obtain ⟨_, a, nv, rv, st, ns, rs, c, rfl, hS, hn, hr, hz, hc, hst, k⟩ := h
  obtain ⟨x, rfl, rfl, rfl⟩ := call_12 hc
  cases st with
  | none => exact absurd rfl (hst.resolve_left (by decide))
  | some d =>
    obtain ⟨dx, vp, vr, vt, ho, ok, hp, hr', ht⟩ := id hS
    show t_worth K _ [some (.ref a), some nv, some rv] H
    have k' : Done K a H Q (some d) (ansI (if Sr59.isSeed d x = false then say (-2) else ⟨0, [Sr59.worth d x.toNat]⟩)) := k
    refine q_when (b := !(Sr59.isSeed d x)) (et_not (et_B (ev_in (ev_num0 (ev_var rfl) hn) (ev_lenR (ev_rows T (ev_var rfl) ho) hr')))) (fun hb H3 e3 => ?_) (fun hb H3 e3 => ?_)
    · rw [if_pos (by simpa using hb)] at k'
      exact ret_ans (el_1 ev_c) k' hS e3
    · rw [if_neg (by simpa using hb)] at k'
      rw [Bool.not_eq_false'] at hb
      obtain ⟨i, rfl, hi⟩ := nat_of (m := Sr59.seeds d.s) hb
      obtain ⟨p, ws, rfl, hp2, pd⟩ := hr'
      obtain ⟨w, hw, hwr⟩ := pd_get pd (rowsI_at hi)
      refine ret_ans (el_2 ev_c (ev_callv (v := .int (worthI d.terms (Sr59.row d.s i))) (ea_cons (ev_terms T (ev_var rfl) (e3 _ _ ho)) (ea_cons (ev_ix (j := i) (ev_rows T (ev_var rfl) (e3 _ _ ho)) (ev_num0 (ev_var rfl) (hn.mono e3)) (e3 _ _ hp2) hw) ea_nil)) rfl fun H4 e4 => ⟨vt, w, d.terms, Sr59.row d.s i, rfl, ?_, ok.2, hwr.mono (e3.trans e4), rfl⟩)) ?_ hS e3
      · rw [row_len]
        exact ht.mono (e3.trans e4)
      · rw [← worth_is]
        exact k'
theorem pu_size (vs : List V) (H : Hp) (Q : VK) (E : XK) (h : sp_size K vs H Q E) : t_size K { nx := fun _ H' => Q .non H', rt := Q } (L2.start ["seeds", "numbers", "rows"] vs) H := by
  obtain ⟨_, a, nv, rv, st, ns, rs, c, rfl, hS, hn, hr, hz, hc, hst, k⟩ := h
  obtain ⟨rfl, rfl, rfl⟩ := call_15 hc
  cases st with
  | none => exact absurd rfl (hst.resolve_left (by decide))
  | some d =>
    obtain ⟨dx, vp, vr, vt, ho, ok, hp, hr', ht⟩ := id hS
    show t_size K _ [some (.ref a), some nv, some rv] H
    exact ret_ans (el_3 (ev_lenT (ev_products T (ev_var rfl) ho) hp) (ev_lenR (ev_rows T (ev_var rfl) ho) hr') (ev_lenO (ev_terms T (ev_var rfl) ho) ht)) k hS (Ex.refl _)
end
end Fc
/-! P10: seeds.py: best, means, chances. -/
namespace Fc
open PySem PySem.Spec PyProof.Rows L2 Evl
open Sr58 (Term holds bit frac)
open Sr59 (Space Desk say)
open Sr59Neutral (callOf)
section
variable {K : PySem.W.Frag} {mg : Str → Option Value}
theorem flat_ints (ns : List Int) : (ns.map V.int).all flatV = true := by
  rw [List.all_map, List.all_eq_true]
  intro n _
  rfl
theorem eqV_int (m n : Int) : eqV (.int m) (.int n) = (m == n) := rfl
theorem ev_index {σ : L2.St} {H : Hp} {ta tb : TE} {p : Addr} {ns : List Int} {n : Int} {j : Nat} (ha : Ev ta σ H (.ref p)) (hb : Ev tb σ H (.int n)) (h : H p = some (.lst (ns.map V.int))) (hj : ns[j]? = some n) (hno : ∀ m, m < j → ns[m]? ≠ some n) :
    Ev (tBM K "list" (rIndex K) ta (tCons tb tNil)) σ H (.int (j : Int)) := fun H1 e Q q => ha H1 e _ fun H2 e2 => ⟨Or.inl ⟨rfl, _, sq_of (e2 _ _ (e _ _ h))⟩, hb H2 (e.trans e2) _ fun H3 e3 =>
  ⟨p, ns.map V.int, .int n, j, .int n, rfl, rfl, sq_of (e3 _ _ (e2 _ _ (e _ _ h))), rfl, flat_ints ns, by rw [List.getElem?_map, hj]; rfl, by rw [eqV_int]; exact beq_self_eq_true n, fun m z' hm hz => by
    rw [List.getElem?_map] at hz
    obtain ⟨y, hy, rfl⟩ := Option.map_eq_some_iff.mp hz
    rw [eqV_int, beq_eq_false_iff_ne]
    intro e4
    exact hno m hm (by rw [hy, e4]), q H3 (e2.trans e3)⟩⟩
theorem ev_int1 {σ : L2.St} {H : Hp} {ta : TE} {b : Bool} (h : Ev ta σ H (.bl b)) : Ev (tCB rInt1 (tCons ta tNil)) σ H (.int (bit b)) := ev_cb (ea_cons h ea_nil) fun H1 e Q q => Or.inr ⟨b, rfl, q H1 (Ex.refl _)⟩
theorem pow_8000 {n : Nat} (h : n ≤ 64) : (2 : Nat) ^ n < 2 ^ 8000 := Nat.pow_lt_pow_right (by decide) (by omega)
theorem le_8000 {n : Nat} (h : n ≤ 1024) : n < 2 ^ 8000 := Nat.lt_of_le_of_lt h (Nat.lt_of_lt_of_le (show 1024 < 2 ^ 11 by decide) (Nat.pow_le_pow_right (by decide) (by decide)))
/-- told_fraction(n, d), a new list -/
theorem el_frac {σ : L2.St} {H : Hp} {ta tb : TE} {n : Int} {d : Nat} (ha : Ev ta σ H (.int n)) (hb : Ev tb σ H (.int (d : Int))) (h0 : d ≠ 0) (h1 : d < 2 ^ 8000) : EvL (tCall (sp_told_fraction K) [] E0 (tCons ta (tCons tb tNil))) σ H (([(frac n d).n, ((frac n d).d : Int)] : List Int).map V.int) :=
  el_callv (ea_cons ha (ea_cons hb ea_nil)) rfl fun H1 e1 => ⟨n, d, rfl, h0, h1, rfl⟩
theorem seeds_pos (s : Space) : Sr59.seeds s ≠ 0 := Nat.ne_of_gt (Nat.two_pow_pos _)
theorem trueDesk_is (d : Desk) : Sr59.trueDesk d = trueD (2 ^ d.s.m) d.terms d.much := rfl
theorem frac_eq (a b : Sr58.Frac) : decide (([a.n, (a.d : Int)] : List Int) = [b.n, (b.d : Int)]) = (a == b) := by
  obtain ⟨an, ad⟩ := a
  obtain ⟨bn, bd⟩ := b
  rw [Bool.eq_iff_iff, decide_eq_true_iff, beq_iff_eq]
  simp only [List.cons.injEq, and_true, Sr58.Frac.mk.injEq, Int.ofNat_inj]
variable (T : Txt K mg)
include T
theorem pu_best (vs : List V) (H : Hp) (Q : VK) (E : XK) (h : sp_best K vs H Q E) : t_best K { nx := fun _ H' => Q .non H', rt := Q } (L2.start ["seeds", "numbers", "rows", "worths", "found", "row"] vs) H := by
  obtain ⟨_, a, nv, rv, st, ns, rs, c, rfl, hS, hn, hr, hz, hc, hst, k⟩ := h
  obtain ⟨rfl, rfl, rfl⟩ := call_13 hc
  cases st with
  | none => exact absurd rfl (hst.resolve_left (by decide))
  | some d =>
    obtain ⟨dx, vp, vr, vt, ho, ok, hp, hr', ht⟩ := id hS
    show t_best K _ [some (.ref a), some nv, some rv, none, none, none] H
    have k' : Done K a H Q (some d) (ansI ⟨(Sr59.best d : Int), [Sr59.worth d (Sr59.best d)]⟩) := k
    obtain ⟨b, hb, he, h1, h2⟩ := best_first (Sr59.worth d) d.much (Sr59.seeds d.s) (Nat.pos_of_ne_zero (seeds_pos d.s))
    have hbest : Sr59.best d = b := he
    have ews : (List.range (Sr59.seeds d.s)).map (fun x => worthI d.terms (Sr59.row d.s x)) = (List.range (Sr59.seeds d.s)).map (Sr59.worth d) := by
      apply List.map_congr_left
      intro x _
      exact (worth_is d x).symm
    have worths := el_worths (K := K) (σ := [some (.ref a), some nv, some rv, none, none, none]) (H := H) (tl := tFld K (tVar 0) "rows") (tt := tFld K (tVar 0) "terms") (i := 0) (j := 5) ok.1 (ev_rows T (ev_var rfl) ho) hr' ht ok.2 (fun _ => rfl) (fun _ => rfl) fun x H1 e1 => ev_terms T (ev_var rfl) (e1 _ _ ho)
    rw [ews] at worths
    refine q_asgL worths fun p H1 hp1 e1 hw => ?_
    have inW : ∀ x, x < Sr59.seeds d.s → Sr59.worth d x ∈ (List.range (Sr59.seeds d.s)).map (Sr59.worth d) := fun x hx => List.mem_map.mpr ⟨x, List.mem_range.mpr hx, rfl⟩
    have ofW : ∀ y, y ∈ (List.range (Sr59.seeds d.s)).map (Sr59.worth d) → ∃ x, x < Sr59.seeds d.s ∧ y = Sr59.worth d x := fun y hy => by
      obtain ⟨x, hx, e⟩ := List.mem_map.mp hy
      exact ⟨x, List.mem_range.mp hx, e.symm⟩
    have hlen : 0 < ((List.range (Sr59.seeds d.s)).map (Sr59.worth d)).length := by
      rw [List.length_map, List.length_range]
      omega
    have found : Ev (tIf (tTest (tOp rEq (tFld K (tVar 0) "is_much") (tC (.int 1)))) (tCB (rMax K) (tCons (tVar 3) tNil)) (tCB (rMin K) (tCons (tVar 3) tNil))) [some (.ref a), some nv, some rv, some (.ref p), none, none] H1 (.int (Sr59.worth d b)) := by
      refine ev_if (b := d.much) (et_is (et_eqI (ev_much T (ev_var rfl) (e1 _ _ ho)) ev_c) ?_) (fun hm => ?_) (fun hm => ?_)
      · cases d.much <;> rfl
      · refine ev_cb (ea_cons (ev_var rfl) ea_nil) fun H2 e2 Q2 q2 => ⟨p, _, rfl, sq_of (e2 _ _ hw), hlen, fun m hmem hle => ?_⟩
        obtain ⟨x, hx, rfl⟩ := ofW m hmem
        have a1 := hle _ (inW b hb)
        have a2 := h1 x hx
        rw [hm] at a2
        have a3 : ¬ (Sr59.worth d b < Sr59.worth d x) := of_decide_eq_false a2
        have e3 : Sr59.worth d x = Sr59.worth d b := by omega
        rw [e3]
        exact q2 H2 (Ex.refl _)
      · refine ev_cb (ea_cons (ev_var rfl) ea_nil) fun H2 e2 Q2 q2 => ⟨p, _, rfl, sq_of (e2 _ _ hw), hlen, fun m hmem hle => ?_⟩
        obtain ⟨x, hx, rfl⟩ := ofW m hmem
        have a1 := hle _ (inW b hb)
        have a2 := h1 x hx
        rw [hm] at a2
        have a3 : ¬ (Sr59.worth d x < Sr59.worth d b) := of_decide_eq_false a2
        have e3 : Sr59.worth d x = Sr59.worth d b := by omega
        rw [e3]
        exact q2 H2 (Ex.refl _)
    refine q_asg found fun H2 e2 => ?_
    refine ret_ans (el_2 (ev_index (j := b) (n := Sr59.worth d b) (ev_var rfl) (ev_var rfl) (e2 _ _ hw) (by rw [List.getElem?_map, List.getElem?_range hb]; rfl) fun m hm hmem => ?_) (ev_var rfl)) ?_ hS (e1.trans e2)
    · rw [List.getElem?_map, List.getElem?_range (by omega)] at hmem
      have e3 : Sr59.worth d m = Sr59.worth d b := Option.some.inj hmem
      have a1 := h2 m hm
      rw [e3] at a1
      unfold bt at a1
      split at a1 <;> exact absurd (of_decide_eq_true a1) (by omega)
    · rw [hbest] at k'
      exact k'
theorem pu_means (vs : List V) (H : Hp) (Q : VK) (E : XK) (h : sp_means K vs H Q E) : t_means K { nx := fun _ H' => Q .non H', rt := Q } (L2.start ["seeds", "numbers", "rows", "of_true", "of_seeds", "top", "bottom"] vs) H := by
  obtain ⟨_, a, nv, rv, st, ns, rs, c, rfl, hS, hn, hr, hz, hc, hst, k⟩ := h
  obtain ⟨rfl, rfl, rfl⟩ := call_11 hc
  cases st with
  | none => exact absurd rfl (hst.resolve_left (by decide))
  | some d =>
    obtain ⟨dx, vp, vr, vt, ho, ok, hp, hr', ht⟩ := id hS
    show t_means K _ [some (.ref a), some nv, some rv, none, none, none, none] H
    have h64 := pow_le6 ok.1.sz.m
    have hz := seeds_le ok.1
    refine qp_tup2 (K := K) (evp_callv (P := fun v H2 => ∃ (top : Int) (p : Addr), v = .ref p ∧ H2 p = some (.tup [.int top, .int ((2 ^ 2 ^ d.s.m : Nat) : Int)]) ∧ ∀ b, frac top (2 ^ 2 ^ d.s.m) = Sr58.mean (trueD (2 ^ d.s.m) d.terms b)) (ea_cons (ev_terms T (ev_var rfl) ho) (ea_cons (ev_lenT (ev_products T (ev_var rfl) ho) hp) ea_nil)) rfl fun H1 e1 => ⟨vt, 2 ^ d.s.m, d.terms, rfl, ht.mono e1, ok.2, h64, rfl⟩) fun v H1 e1 ⟨top, p, hv, hp1, hm⟩ => ⟨p, _, _, hv, st_of hp1, ?_⟩
    refine q_asgL (el_frac (ev_var rfl) (ev_var rfl) (p2 _) (pow_8000 h64)) fun p1 H2 n1 e2 h1 => ?_
    refine qp_tup2 (K := K) (evp_callv (P := fun v H2 => ∃ p : Addr, v = .ref p ∧ H2 p = some (.tup [.int (meanN d.s d.terms), .int (Sr59.seeds d.s : Nat)])) (ea_cons (ev_terms T (ev_var rfl) (e2 _ _ (e1 _ _ ho))) (ea_cons (ev_rows T (ev_var rfl) (e2 _ _ (e1 _ _ ho))) ea_nil)) rfl fun H3 e3 => ⟨vt, vr, d.s, d.terms, rfl, ht.mono ((e1.trans e2).trans e3), ok.2, hr'.mono ((e1.trans e2).trans e3), ok.1, rfl⟩) fun v H3 e3 ⟨q, hv, hq⟩ => ⟨q, _, _, hv, st_of hq, ?_⟩
    refine q_asgL (el_frac (ev_var rfl) (ev_var rfl) (seeds_pos d.s) (le_8000 hz)) fun p2 H4 n2 e4 h2 => ?_
    have hA : IsL (.ref p1) H4 [(frac top (2 ^ 2 ^ d.s.m)).n, ((frac top (2 ^ 2 ^ d.s.m)).d : Int)] := ⟨p1, rfl, e4 _ _ (e3 _ _ h1)⟩
    have hB : IsL (.ref p2) H4 [(frac (meanN d.s d.terms) (Sr59.seeds d.s)).n, ((frac (meanN d.s d.terms) (Sr59.seeds d.s)).d : Int)] := ⟨p2, rfl, h2⟩
    have e14 := ((e1.trans e2).trans e3).trans e4
    refine ret_ans (ans := bit (decide (([(frac top (2 ^ 2 ^ d.s.m)).n, ((frac top (2 ^ 2 ^ d.s.m)).d : Int)] : List Int) = [(frac (meanN d.s d.terms) (Sr59.seeds d.s)).n, ((frac (meanN d.s d.terms) (Sr59.seeds d.s)).d : Int)])) :: ([(frac top (2 ^ 2 ^ d.s.m)).n, ((frac top (2 ^ 2 ^ d.s.m)).d : Int)] ++ [(frac (meanN d.s d.terms) (Sr59.seeds d.s)).n, ((frac (meanN d.s d.terms) (Sr59.seeds d.s)).d : Int)])) (el_cat (el_cat (el_1 (ev_int1 (ev_eqLL (ev_var rfl) (ev_var rfl) hA hB))) (fun H5 e5 => evp_isL (ev_var rfl) (hA.mono e5)) (by show 1 + 2 ≤ 100000; decide)) (fun H5 e5 => evp_isL (ev_var rfl) (hB.mono e5)) (by show 3 + 2 ≤ 100000; decide)) ?_ hS e14
    have eA : frac top (2 ^ 2 ^ d.s.m) = Sr59.trueMean d := hm d.much
    have eB : frac (meanN d.s d.terms) (Sr59.seeds d.s) = Sr59.seedMean d := by
      unfold Sr59.seedMean
      rw [meanN_is]
    rw [frac_eq, eA, eB]
    exact k
theorem pu_chances (vs : List V) (H : Hp) (Q : VK) (E : XK) (h : sp_chances K vs H Q E) : t_chances K { nx := fun _ H' => Q .non H', rt := Q } (L2.start ["seeds", "numbers", "rows", "term", "of_true", "top", "bottom"] vs) H := by
  obtain ⟨_, a, nv, rv, st, ns, rs, c, rfl, hS, hn, hr, hz, hc, hst, k⟩ := h
  obtain ⟨x, rfl, rfl, rfl⟩ := call_14 hc
  cases st with
  | none => exact absurd rfl (hst.resolve_left (by decide))
  | some d =>
    obtain ⟨dx, vp, vr, vt, ho, ok, hp, hr', ht⟩ := id hS
    show t_chances K _ [some (.ref a), some nv, some rv, none, none, none, none] H
    have h64 := pow_le6 ok.1.sz.m
    have hz := seeds_le ok.1
    refine q_when (b := !(decide (0 ≤ x) && decide (x < (d.terms.length : Int)))) (et_not (et_B (ev_in (ev_num0 (ev_var rfl) hn) (ev_lenO (ev_terms T (ev_var rfl) ho) ht)))) (fun hb H1 e1 => ?_) (fun hb H1 e1 => ?_)
    · have c : x < 0 ∨ (d.terms.length : Int) ≤ x := by
        rw [Bool.not_eq_true', Bool.and_eq_false_iff, decide_eq_false_iff_not, decide_eq_false_iff_not] at hb
        omega
      have k' : Done K a H Q (some d) [-2] := by
        have q := k
        show Done K a H Q (some d) [-2]
        have e : (Sr59.step (some d) (.chances x)) = (some d, say (-2)) := by
          show (some d, if x < 0 ∨ (d.terms.length : Int) ≤ x then say (-2) else _) = _
          rw [if_pos c]
        rw [e] at q
        exact q
      exact ret_ans (el_1 ev_c) k' hS e1
    · rw [Bool.not_eq_false'] at hb
      obtain ⟨i, rfl, hi⟩ := nat_of (m := d.terms.length) hb
      have gi : d.terms[i]? = some d.terms[i] := List.getElem?_eq_getElem hi
      obtain ⟨l, ws, rfl, hl, pd⟩ := id ht
      obtain ⟨w, hw, hT⟩ := pd_get pd gi
      refine q_asg (ev_ix (j := i) (ev_terms T (ev_var rfl) (e1 _ _ ho)) (ev_num0 (ev_var rfl) (hn.mono e1)) (e1 _ _ hl) hw) fun H2 e2 => ?_
      refine qp_tup2 (K := K) (evp_callv (P := fun v H2 => ∃ (W : Nat) (p : Addr), v = .ref p ∧ H2 p = some (.tup [.int W, .int ((2 ^ lkN d.terms[i].sort : Nat) : Int)]) ∧ IsWays (2 ^ d.s.m) d.terms[i].sort W) (ea_cons (ev_var rfl) ea_nil) rfl fun H3 e3 => ⟨w, 2 ^ d.s.m, d.terms[i], rfl, hT.mono ((e1.trans e2).trans e3), rfl⟩) fun v H3 e3 ⟨W, p, hv, hp1, hW⟩ => ⟨p, _, _, hv, st_of hp1, ?_⟩
      refine q_asgL (el_frac (ev_var rfl) (ev_var rfl) (p2 _) (pow_8000 hW.2.2.1)) fun p1 H4 n1 e4 h1 => ?_
      have e14 := ((e1.trans e2).trans e3).trans e4
      refine qp_tup2 (K := K) (evp_callv (P := fun v H2 => ∃ p : Addr, v = .ref p ∧ H2 p = some (.tup [.int (chanceN d.s d.terms[i].sort), .int (Sr59.seeds d.s : Nat)])) (ea_cons (ev_var rfl) (ea_cons (ev_rows T (ev_var rfl) (e14 _ _ ho)) ea_nil)) rfl fun H5 e5 => ⟨w, vr, d.s, d.terms[i], rfl, hT.mono (e14.trans e5), hr'.mono (e14.trans e5), ok.1, rfl⟩) fun v H5 e5 ⟨q, hv, hq⟩ => ⟨q, _, _, hv, st_of hq, ?_⟩
      have e15 := e14.trans e5
      have hA : IsL (.ref p1) H5 [(frac (W : Int) (2 ^ lkN d.terms[i].sort)).n, ((frac (W : Int) (2 ^ lkN d.terms[i].sort)).d : Int)] := ⟨p1, rfl, e5 _ _ h1⟩
      obtain ⟨told, least, tm, tok, _⟩ := hT
      refine ret_ans (ans := ((lkN d.terms[i].sort : Nat) : Int) :: ([(frac (W : Int) (2 ^ lkN d.terms[i].sort)).n, ((frac (W : Int) (2 ^ lkN d.terms[i].sort)).d : Int)] ++ [(frac (chanceN d.s d.terms[i].sort : Nat) (Sr59.seeds d.s)).n, ((frac (chanceN d.s d.terms[i].sort : Nat) (Sr59.seeds d.s)).d : Int)])) (el_cat (el_cat (el_1 (ev_nlooked 0 (ev_var rfl) (tm.mono e15) tok)) (fun H6 e6 => evp_isL (ev_var rfl) (hA.mono e6)) (by show 1 + 2 ≤ 100000; decide)) (fun H6 e6 => evp_l (el_frac (ev_var rfl) (ev_var rfl) (seeds_pos d.s) (le_8000 hz))) (by show 3 + 2 ≤ 100000; decide)) ?_ hS e15
      have eA : frac (W : Int) (2 ^ lkN d.terms[i].sort) = Sr58.likelyTerm (Sr59.trueDesk d) d.terms[i].sort := by
        rw [trueDesk_is, hW.2.2.2.2, frac_mk (p2 _)]
      have eT : d.terms.getD ((i : Nat) : Int).toNat ⟨0, .all []⟩ = d.terms[i] := by
        rw [Int.toNat_natCast, List.getD_eq_getElem?_getD, gi]
        rfl
      have e : (Sr59.step (some d) (.chances (i : Int))) = (some d, ⟨((lkN d.terms[i].sort : Nat) : Int), [(frac (W : Int) (2 ^ lkN d.terms[i].sort)).n, ((frac (W : Int) (2 ^ lkN d.terms[i].sort)).d : Int), (frac (chanceN d.s d.terms[i].sort : Nat) (Sr59.seeds d.s)).n, ((frac (chanceN d.s d.terms[i].sort : Nat) (Sr59.seeds d.s)).d : Int)]⟩) := by
        rw [eA]
        conv => lhs; unfold Sr59.step Sr59.doing
        simp only
        rw [if_neg (by omega), eT]
        rfl
      rw [e] at k
      exact k
end
end Fc
/-! P11: seeds.py, the deeds that change the object. -/
namespace Fc
open PySem PySem.Spec PyProof.Rows L2 Evl
open Sr58 (Term holds bit frac)
open Sr59 (Space Desk say)
open Sr59Neutral (callOf)
section
variable {K : PySem.W.Frag} {mg : Str → Option Value}
theorem Done.mono {a : Addr} {H H' : Hp} {Q : VK} {st : Sr59.State} {ans : List Int} (e : Ex H H') (k : Done K a H Q st ans) : Done K a H' Q st ans := fun v H2 kb => k v H2 ((KB.of e).trans kb)
theorem ret_done {te : TE} {σ : L2.St} {H Hu : Hp} {a : Addr} {st : Sr59.State} {ans : List Int} {Q : VK} (h : EvL te σ Hu (ans.map V.int)) (k : Done K a H Q st ans) (hS : SeedsAt K Hu a st) (kb : KB a H Hu) : tRet te { nx := fun _ H' => Q .non H', rt := Q } σ Hu :=
  s_retL h fun p H2 hp e2 h2 => k _ H2 (kb.trans (KB.of e2)) (hS.mono e2) ⟨p, rfl, h2⟩
theorem KB.upd {H : Hp} {a : Addr} {o : HO} : KB a H (L2.upd H a o) := fun b u hb e => by
  rw [upd_ne hb]
  exact e
/-- seeds.f = value -/
theorem qp_fld {σ : L2.St} {H : Hp} {D : Ends} {ta tv : TE} {tz : TS} {a C dx : Addr} {fs : List (Str × V)} {f : Str} {P : VP} (hv : EvP tv σ H P) (ha : Ev ta σ H (.ref a)) (ho : H a = some (.ins C dx fs)) (hc : Cls K C) (hn : NoAttr K C f) (hl : fs.length < 1000)
    (k : ∀ y H1, Ex H H1 → P y H1 → ∀ H2, Ex H1 H2 → tz D σ (upd H2 a (.ins C dx (putF f y fs)))) : tSeq (sFld K ta tv f) tz D σ H :=
  hv H (Ex.refl _) _ fun y H1 e1 p => ha H1 e1 _ fun H2 e2 => ⟨a, C, dx, fs, rfl, e2 _ _ (e1 _ _ ho), hc, hn, hl, k y H1 e1 p H2 e2⟩
theorem SeedsAt.raw {H : Hp} {a : Addr} {st : Sr59.State} (h : SeedsAt K H a st) : ∃ dx vp vr vt m, H a = some (.ins (ad K "Seeds") dx (sdF vp vr vt m)) := by
  cases st with
  | none =>
    obtain ⟨dx, vp, vr, vt, m, h, _⟩ := h
    exact ⟨dx, vp, vr, vt, m, h⟩
  | some d =>
    obtain ⟨dx, vp, vr, vt, h, _⟩ := h
    exact ⟨dx, vp, vr, vt, _, h⟩
theorem pd_append {α β : Type} {F : α → β → Prop} : ∀ {vs vs' : List α} {xs xs' : List β}, Paired F vs xs → Paired F vs' xs' → Paired F (vs ++ vs') (xs ++ xs')
  | _, _, _, _, .nil, h => h
  | _, _, _, _, .cons h t, h' => .cons h (pd_append t h')
theorem pd_take {α β : Type} {F : α → β → Prop} : ∀ {vs : List α} {xs : List β} (n : Nat), Paired F vs xs → Paired F (vs.take n) (xs.take n)
  | _, _, 0, _ => .nil
  | _, _, _ + 1, .nil => .nil
  | _, _, n + 1, .cons h t => .cons h (pd_take n t)
theorem pd_drop {α β : Type} {F : α → β → Prop} : ∀ {vs : List α} {xs : List β} (n : Nat), Paired F vs xs → Paired F (vs.drop n) (xs.drop n)
  | _, _, 0, h => h
  | _, _, _ + 1, .nil => .nil
  | _, _, n + 1, .cons _ t => pd_drop n t
theorem nats_back : ∀ {l : List Int}, (∀ x ∈ l, 0 ≤ x) → natsI (Sr59.nats l) = l
  | [], _ => rfl
  | x :: l, h => by
    have h1 := h x List.mem_cons_self
    show ((x.toNat : Nat) : Int) :: natsI (Sr59.nats l) = x :: l
    rw [nats_back fun y hy => h y (List.mem_cons_of_mem _ hy)]
    congr 1
    omega
theorem ret_call {sp : Sp} {E : XK} {tr : TA} {D : Ends} {σ : L2.St} {H : Hp} {A : List V → Hp → Prop} (h : EvAP tr σ H A) (k : ∀ vs H1, Ex H H1 → A vs H1 → sp vs H1 D.rt E) : tRet (tCall sp [] E tr) D σ H := h H (Ex.refl _) _ fun vs H1 e a => by
  rw [List.append_nil]
  exact k vs H1 e a
/-- a deed that may change the desk -/
theorem step_of {d : Desk} {c : Sr59.Call} {o : Option Desk} {x : Sr58.Ans} (hb : ∀ m k f, c ≠ .begin_ m k f) (h : Sr59.doing d c = (o, x)) : Sr59.step (some d) c = (o.elim (some d) some, x) := by
  cases c with
  | begin_ m k f => exact absurd rfl (hb m k f)
  | _ =>
    simp only [Sr59.step, h]
    cases o <;> rfl
abbrev badAll (d : Desk) (w : Int) (l : List Int) : Prop := w < -100 ∨ 100 < w ∨ l = [] ∨ 20 < l.length ∨ (l.any fun x => decide (x < 0) || decide (2 * (Sr59.coins d.s : Int) ≤ x)) = true
theorem step_all (d : Desk) (w : Int) (l : List Int) : Sr59.step (some d) (.all w l) = (if badAll d w l then (some d, say (-22)) else if 12 ≤ d.terms.length then (some d, say (-28)) else (some { d with terms := d.terms ++ [⟨w, .all (Sr59.nats l)⟩] }, say (d.terms.length : Nat))) := by
  by_cases h1 : badAll d w l
  · rw [if_pos h1]
    exact step_of (o := none) (fun _ _ _ h => nomatch h) (if_pos h1)
  · rw [if_neg h1]
    by_cases h2 : 12 ≤ d.terms.length
    · rw [if_pos h2]
      exact step_of (o := none) (fun _ _ _ h => nomatch h) ((if_neg h1).trans (if_pos h2))
    · rw [if_neg h2]
      exact step_of (o := some _) (fun _ _ _ h => nomatch h) ((if_neg h1).trans (if_neg h2))
abbrev badMany (d : Desk) (w t : Int) (s : List Int) : Prop := w < -100 ∨ 100 < w ∨ s = [] ∨ Sr59.okCoins d s = false ∨ t < 0 ∨ 20 < t
theorem step_many (d : Desk) (w t : Int) (s : List Int) : Sr59.step (some d) (.many w t s) = (if badMany d w t s then (some d, say (-22)) else if 12 ≤ d.terms.length then (some d, say (-28)) else (some { d with terms := d.terms ++ [⟨w, .many t.toNat (Sr59.nats s)⟩] }, say (d.terms.length : Nat))) := by
  by_cases h1 : badMany d w t s
  · rw [if_pos h1]
    exact step_of (o := none) (fun _ _ _ h => nomatch h) (if_pos h1)
  · rw [if_neg h1]
    by_cases h2 : 12 ≤ d.terms.length
    · rw [if_pos h2]
      exact step_of (o := none) (fun _ _ _ h => nomatch h) ((if_neg h1).trans (if_pos h2))
    · rw [if_neg h2]
      exact step_of (o := some _) (fun _ _ _ h => nomatch h) ((if_neg h1).trans (if_neg h2))
theorem step_drop (d : Desk) (j : Int) : Sr59.step (some d) (.drop j) = (if j < 0 ∨ (d.terms.length : Int) ≤ j then (some d, say (-2)) else (some { d with terms := d.terms.eraseIdx j.toNat }, say (d.terms.length - 1 : Nat))) := by
  by_cases h1 : j < 0 ∨ (d.terms.length : Int) ≤ j
  · rw [if_pos h1]
    exact step_of (o := none) (fun _ _ _ h => nomatch h) (if_pos h1)
  · rw [if_neg h1]
    exact step_of (o := some _) (fun _ _ _ h => nomatch h) (if_neg h1)
theorem step_want (d : Desk) (v : Int) : Sr59.step (some d) (.want v) = (if v < 0 ∨ 1 < v then (some d, say (-22)) else (some { d with much := v == 1 }, say (bit d.much))) := by
  by_cases h1 : v < 0 ∨ 1 < v
  · rw [if_pos h1]
    exact step_of (o := none) (fun _ _ _ h => nomatch h) (if_pos h1)
  · rw [if_neg h1]
    exact step_of (o := some _) (fun _ _ _ h => nomatch h) (if_neg h1)
variable (T : Txt K mg)
include T
theorem pu_put (vs : List V) (H : Hp) (Q : VK) (E : XK) (h : sp_put K vs H Q E) : t_put K { nx := fun _ H' => Q .non H', rt := Q } (L2.start ["seeds", "term"] vs) H := by
  obtain ⟨_, a, b, d, t, rfl, hS, hb, k⟩ := h
  obtain ⟨dx, vp, vr, vt, ho, ok, hp, hr', ht⟩ := id hS
  show t_put K _ [some (.ref a), some b] H
  have few := ok.2
  refine q_when (et_eqI (ev_lenO (ev_terms T (ev_var rfl) ho) ht) ev_c) (fun hc H1 e1 => ?_) (fun hc H1 e1 => ?_)
  · rw [if_pos (by have := of_decide_eq_true hc; omega)] at k
    exact ret_ans (el_1 ev_c) k hS e1
  · have c : d.terms.length < 12 := by
      have := of_decide_eq_false hc
      omega
    rw [if_neg (by omega)] at k
    obtain ⟨l, ws, rfl, hl, pd⟩ := id ht
    have hlen := Paired.length pd
    have cat : EvL (tOp rCat (tFld K (tVar 0) "terms") (tLst (tCons (tVar 1) tNil))) [some (.ref a), some b] H1 (ws ++ [b]) := fun H2 e2 Q2 q2 => ev_terms T (ev_var rfl) (e1 _ _ ho) H2 e2 _ fun H3 e3 => el_lst (ea_cons (ev_var rfl) ea_nil) (by show 1 ≤ 100000; decide) H3 (e2.trans e3) _ fun p H4 hp4 e4 h4 =>
      ⟨l, p, ws, [b], rfl, rfl, e4 _ _ (e3 _ _ (e2 _ _ (e1 _ _ hl))), h4, sz_of (by show ws.length + 1 ≤ 100000; omega), fun r hr => q2 r _ (fresh_back (e3.trans e4) hr) ((e3.trans e4).trans (Ex.new hr)) upd_same⟩
    refine qp_fld (K := K) (evp_l cat) (ev_var rfl) (e1 _ _ ho) (T.cls 83) (T.noat 87) (by show 4 < 1000; decide) fun y H2 e2 ⟨p, hy, hp2⟩ H3 e3 => ?_
    subst hy
    have e03 := (e1.trans e2).trans e3
    have ho3 := e03 _ _ ho
    have kb : KB a H3 (upd H3 a (.ins (ad K "Seeds") dx (putF "terms" (.ref p) (sdF vp vr (.ref l) (bit d.much))))) := KB.upd
    have hT3 : IsTerms K (2 ^ d.s.m) (.ref p) H3 (d.terms ++ [t]) := ⟨p, ws ++ [b], rfl, e3 _ _ hp2, pd_append (Paired.mapP pd fun v x h => h.mono e03) (.cons (hb.mono e03) .nil)⟩
    have hS3 : SeedsAt K (upd H3 a (.ins (ad K "Seeds") dx (putF "terms" (.ref p) (sdF vp vr (.ref l) (bit d.much))))) a (some { d with terms := d.terms ++ [t] }) :=
      ⟨dx, vp, vr, .ref p, upd_same.trans (by rw [sd_putT]), ⟨ok.1, by rw [List.length_append]; show d.terms.length + 1 ≤ 12; omega⟩, (hp.mono e03).kb ho3 kb, (hr'.mono e03).kb ho3 kb, hT3.kb ho3 rfl kb⟩
    obtain ⟨dx', vp', vr', vt', ho', ok', hp', hr'', ht'⟩ := id hS3
    refine ret_done (el_1 (ev_op0 (ev_lenO (ev_terms T (ev_var rfl) ho') ht') ev_c ?_)) k hS3 ((KB.of e03).trans kb)
    show V.int (((d.terms ++ [t]).length : Int) - 1) = V.int (d.terms.length : Int)
    rw [List.length_append]
    congr 1
    show ((d.terms.length + 1 : Nat) : Int) - 1 = _
    omega
/-- put, the object and a new term in hand -/
theorem put_of {a : Addr} {H H2 : Hp} {b : V} {d : Desk} {t : Term} {Q : VK} {E : XK} (hS : SeedsAt K H a (some d)) (e : Ex H H2) (hb : IsTerm K (2 ^ d.s.m) b H2 t) (k : Done K a H Q (if 12 ≤ d.terms.length then some d else some { d with terms := d.terms ++ [t] }) (if 12 ≤ d.terms.length then [-28] else [(d.terms.length : Int)])) : sp_put K [.ref a, b] H2 Q E := by
  refine ⟨rfl, a, b, d, t, rfl, hS.mono e, hb, ?_⟩
  by_cases c : 12 ≤ d.terms.length
  · rw [if_pos c]
    rw [if_pos c, if_pos c] at k
    exact k.mono e
  · rw [if_neg c]
    rw [if_neg c, if_neg c] at k
    exact k.mono e
theorem weight_bad {w : Int} : (!(decide (-100 ≤ w) && decide (w ≤ 100))) = decide (w < -100 ∨ 100 < w) := by
  rw [Bool.eq_iff_iff, Bool.not_eq_true', Bool.and_eq_false_iff, decide_eq_false_iff_not, decide_eq_false_iff_not, decide_eq_true_iff]
  omega
theorem pu_all_lie (vs : List V) (H : Hp) (Q : VK) (E : XK) (h : sp_all_lie K vs H Q E) : t_all_lie K { nx := fun _ H' => Q .non H', rt := Q } (L2.start ["seeds", "numbers", "rows"] vs) H := by
  obtain ⟨_, a, nv, rv, st, ns, rs, c, rfl, hS, hn, hr, hz, hc, hst, k⟩ := h
  obtain ⟨w, l, rfl, rfl, rfl⟩ := call_7 hc
  cases st with
  | none => exact absurd rfl (hst.resolve_left (by decide))
  | some d =>
    obtain ⟨dx, vp, vr, vt, ho, ok, hp, hr', ht⟩ := id hS
    have hzl := hz l (by simp)
    show t_all_lie K _ [some (.ref a), some nv, some rv] H
    obtain ⟨v1, hl, ev1⟩ := ev_row0 (K := K) (σ := [some (.ref a), some nv, some rv]) (ta := tVar 2) (ev_var rfl) hr
    rw [step_all] at k
    have test : EvT (tOr (tNot (tB (tCall (sp_is_weight K) [] E0 (tCons (tOp (rIxL K) (tVar 1) (tC (.int 0))) tNil)))) (tNot (tB (tCall (sp_is_lie K) [] E0 (tCons (tVar 0) (tCons (tOp (rIxL K) (tVar 2) (tC (.int 0))) tNil)))))) [some (.ref a), some nv, some rv] H (!(decide (-100 ≤ w) && decide (w ≤ 100)) || !(lieOk d l)) :=
      et_or (et_not (et_B (ev_callv (ea_cons (ev_num0 (ev_var rfl) hn) ea_nil) rfl fun H1 e1 => ⟨w, rfl, rfl⟩))) fun _ => et_not (et_B (ev_callv (ea_cons (ev_var rfl) (ea_cons ev1 ea_nil)) rfl fun H1 e1 => ⟨a, v1, d, l, rfl, hS.mono e1, hl.mono e1, hzl, rfl⟩))
    have eqb : (!(decide (-100 ≤ w) && decide (w ≤ 100)) || !(lieOk d l)) = decide (badAll d w l) := by
      rw [weight_bad T]
      unfold lieOk
      rw [Bool.not_not, Bool.eq_iff_iff, Bool.or_eq_true, decide_eq_true_iff, decide_eq_true_iff, decide_eq_true_iff]
      constructor
      · rintro ((h | h) | h)
        · exact Or.inl h
        · exact Or.inr (Or.inl h)
        · exact Or.inr (Or.inr h)
      · rintro (h | h | h)
        · exact Or.inl (Or.inl h)
        · exact Or.inl (Or.inr h)
        · exact Or.inr h
    rw [eqb] at test
    refine q_when test (fun hc H1 e1 => ?_) (fun hc H1 e1 => ?_)
    · rw [if_pos (of_decide_eq_true hc)] at k
      exact ret_ans (el_1 ev_c) k hS e1
    · have c := of_decide_eq_false hc
      rw [if_neg c] at k
      have hnn : ∀ x ∈ l, 0 ≤ x ∧ x < 2 * (Sr59.coins d.s : Int) := fun x hx => Decidable.byContradiction fun h => c (Or.inr (Or.inr (Or.inr (Or.inr (List.any_eq_true.mpr ⟨x, hx, by
        simp only [Bool.or_eq_true, decide_eq_true_iff]
        omega⟩)))))
      have h64 := pow_le6 ok.1.sz.m
      have hne : l ≠ [] := fun h => c (Or.inr (Or.inr (Or.inl h)))
      have h20 : l.length ≤ 20 := Decidable.byContradiction fun h => c (Or.inr (Or.inr (Or.inr (Or.inl (by omega)))))
      have w1 : -100 ≤ w := Decidable.byContradiction fun h => c (Or.inl (by omega))
      have w2 : w ≤ 100 := Decidable.byContradiction fun h => c (Or.inr (Or.inl (by omega)))
      have hback := nats_back fun x hx => (hnn x hx).1
      have args : EvAP (tCons (tVar 0) (tCons (tCall (sp_all_term K) [] E0 (tCons (tOp (rIxL K) (tVar 1) (tC (.int 0))) (tCons (tOp (rIxL K) (tVar 2) (tC (.int 0))) tNil))) tNil)) [some (.ref a), some nv, some rv] H1 (fun vs H2 => ∃ b, vs = [.ref a, b] ∧ IsTerm K (2 ^ d.s.m) b H2 ⟨w, .all (Sr59.nats l)⟩) :=
        eap_v (ev_var rfl) (eap_cons (evp_callv (P := fun b H2 => IsTerm K (2 ^ d.s.m) b H2 ⟨w, .all (Sr59.nats l)⟩) (ea_cons (ev_num0 (ev_var rfl) (hn.mono e1)) (ea_cons (ev1.mono e1) ea_nil)) rfl fun H2 e2 => ⟨2 ^ d.s.m, w, Sr59.nats l, v1, rfl, by rw [hback]; exact hl.mono (e1.trans e2), h64, fun x hx => by
            obtain ⟨y, hy, rfl⟩ := List.mem_map.mp hx
            have := hnn y hy
            have e : (Sr59.coins d.s : Int) = ((2 ^ d.s.m : Nat) : Int) := rfl
            omega, fun h => hne (List.map_eq_nil_iff.mp h), by unfold Sr59.nats; rw [List.length_map]; exact h20, w1, w2, rfl⟩) fun b H2 e2 hb => eap_nil fun H3 e3 => ⟨b, rfl, hb.mono e3⟩)
      refine ret_call args fun vs H2 e2 ⟨b, hv, hb⟩ => ?_
      rw [hv]
      refine put_of T hS (e1.trans e2) hb ?_
      have e3 : (if 12 ≤ d.terms.length then some d else some { d with terms := d.terms ++ [⟨w, .all (Sr59.nats l)⟩] }) = (if 12 ≤ d.terms.length then (some d, say (-28)) else (some { d with terms := d.terms ++ [⟨w, .all (Sr59.nats l)⟩] }, say (d.terms.length : Nat))).1 := by
        split <;> rfl
      have e4 : (if 12 ≤ d.terms.length then [-28] else [(d.terms.length : Int)]) = ansI (if 12 ≤ d.terms.length then (some d, say (-28)) else (some { d with terms := d.terms ++ [⟨w, .all (Sr59.nats l)⟩] }, say (d.terms.length : Nat))).2 := by
        split <;> rfl
      rw [e3, e4]
      exact k
omit T in
theorem rising_lt : ∀ {l : List Int}, Sr58.rising l = true → l.Pairwise (· < ·)
  | [], _ => .nil
  | [x], _ => by simp
  | x :: y :: l, h => by
    have h' : (decide (x < y) && Sr58.rising (y :: l)) = true := h
    rw [Bool.and_eq_true, decide_eq_true_iff] at h'
    have ih := rising_lt h'.2
    refine List.pairwise_cons.mpr ⟨fun z hz => ?_, ih⟩
    rcases List.mem_cons.mp hz with e | hz
    · rw [e]
      exact h'.1
    · have := (List.pairwise_cons.mp ih).1 z hz
      omega
omit T in
theorem nats_nodup {l : List Int} (h0 : ∀ x ∈ l, 0 ≤ x) (h : Sr58.rising l = true) : (Sr59.nats l).Nodup := by
  unfold Sr59.nats
  refine nodup_map_on ((rising_lt h).imp fun hab e => by omega) fun x hx y hy e => ?_
  have := h0 x hx
  have := h0 y hy
  omega
theorem pu_many_of (vs : List V) (H : Hp) (Q : VK) (E : XK) (h : sp_many_of K vs H Q E) : t_many_of K { nx := fun _ H' => Q .non H', rt := Q } (L2.start ["seeds", "numbers", "rows", "coins", "weight", "least"] vs) H := by
  obtain ⟨_, a, nv, rv, st, ns, rs, c, rfl, hS, hn, hr, hz, hc, hst, k⟩ := h
  obtain ⟨w, t, l, rfl, rfl, rfl⟩ := call_8 hc
  cases st with
  | none => exact absurd rfl (hst.resolve_left (by decide))
  | some d =>
    obtain ⟨dx, vp, vr, vt, ho, ok, hp, hr', ht⟩ := id hS
    have hzl := hz l (by simp)
    obtain ⟨q, rfl, hq⟩ := hn
    show t_many_of K _ [some (.ref a), some (.ref q), some rv, none, none, none] H
    rw [step_many] at k
    refine qp_unl2 (K := K) (ev_var rfl) (sq_of hq) fun H1 e1 => ?_
    obtain ⟨v1, hl, ev1⟩ := ev_row0 (K := K) (σ := [some (.ref a), some (.ref q), some rv, none, some (.int w), some (.int t)]) (ta := tVar 2) (ev_var rfl) (hr.mono e1)
    refine q_asg ev1 fun H2 e2 => ?_
    have e12 := e1.trans e2
    have hl2 := hl.mono e2
    have test : EvT (tOr (tNot (tB (tCall (sp_is_weight K) [] E0 (tCons (tVar 4) tNil)))) (tOr (tTest (tOp (rEqD K) (tVar 3) (tLst tNil))) (tOr (tNot (tB (tCall (sp_are_coins K) [] E0 (tCons (tVar 0) (tCons (tVar 3) tNil))))) (tNot (tTest (tChain qLe qLe (tC (.int 0)) (tVar 5) (tC (.int (20))))))))) [some (.ref a), some (.ref q), some rv, some v1, some (.int w), some (.int t)] H2
        (!(decide (-100 ≤ w) && decide (w ≤ 100)) || (decide (l = []) || (!(Sr59.okCoins d l) || !(decide ((0 : Int) ≤ t) && decide (t ≤ 20))))) :=
      et_or (et_not (et_B (ev_callv (ea_cons (ev_var rfl) ea_nil) rfl fun H3 e3 => ⟨w, rfl, rfl⟩))) fun _ => et_or (et_test (ev_isNil (ev_var rfl) hl2)) fun _ => et_or (et_not (et_B (ev_areCoins T (ev_var rfl) (ev_var rfl) (hS.mono e12) hl2 hzl))) fun _ => et_not (et_test (ev_ch (f := fun i j => decide (i ≤ j)) (g := fun i j => decide (i ≤ j)) ev_c (ev_var rfl) ev_c))
    have eqb : (!(decide (-100 ≤ w) && decide (w ≤ 100)) || (decide (l = []) || (!(Sr59.okCoins d l) || !(decide ((0 : Int) ≤ t) && decide (t ≤ 20))))) = decide (badMany d w t l) := by
      rw [weight_bad T, Bool.eq_iff_iff, Bool.or_eq_true, Bool.or_eq_true, Bool.or_eq_true, Bool.not_eq_true', Bool.not_eq_true', Bool.and_eq_false_iff, decide_eq_false_iff_not, decide_eq_false_iff_not, decide_eq_true_iff, decide_eq_true_iff, decide_eq_true_iff]
      constructor
      · rintro ((h | h) | h | h | h | h)
        · exact Or.inl h
        · exact Or.inr (Or.inl h)
        · exact Or.inr (Or.inr (Or.inl h))
        · exact Or.inr (Or.inr (Or.inr (Or.inl h)))
        · exact Or.inr (Or.inr (Or.inr (Or.inr (Or.inl (by omega)))))
        · exact Or.inr (Or.inr (Or.inr (Or.inr (Or.inr (by omega)))))
      · rintro (h | h | h | h | h | h)
        · exact Or.inl (Or.inl h)
        · exact Or.inl (Or.inr h)
        · exact Or.inr (Or.inl h)
        · exact Or.inr (Or.inr (Or.inl h))
        · exact Or.inr (Or.inr (Or.inr (Or.inl (by omega))))
        · exact Or.inr (Or.inr (Or.inr (Or.inr (by omega))))
    rw [eqb] at test
    refine q_when test (fun hc H3 e3 => ?_) (fun hc H3 e3 => ?_)
    · rw [if_pos (of_decide_eq_true hc)] at k
      exact ret_ans (el_1 ev_c) k hS (e12.trans e3)
    · have c := of_decide_eq_false hc
      rw [if_neg c] at k
      have okc : Sr59.okCoins d l = true := by
        cases h : Sr59.okCoins d l with
        | true => rfl
        | false => exact absurd (Or.inr (Or.inr (Or.inr (Or.inl h)))) c
      have hrg := coins_range okc
      have hris : Sr58.rising l = true := by
        unfold Sr59.okCoins at okc
        rw [Bool.and_eq_true] at okc
        exact okc.2
      have h64 := pow_le6 ok.1.sz.m
      have hne : l ≠ [] := fun h => c (Or.inr (Or.inr (Or.inl h)))
      have w1 : -100 ≤ w := Decidable.byContradiction fun h => c (Or.inl (by omega))
      have w2 : w ≤ 100 := Decidable.byContradiction fun h => c (Or.inr (Or.inl (by omega)))
      have t1 : 0 ≤ t := Decidable.byContradiction fun h => c (Or.inr (Or.inr (Or.inr (Or.inr (Or.inl (by omega))))))
      have t2 : t ≤ 20 := Decidable.byContradiction fun h => c (Or.inr (Or.inr (Or.inr (Or.inr (Or.inr (by omega))))))
      obtain ⟨tn, rfl⟩ := Int.eq_ofNat_of_zero_le t1
      rw [Int.toNat_natCast] at k
      have hback := nats_back fun x hx => (hrg x hx).1
      have args : EvAP (tCons (tVar 0) (tCons (tCall (sp_many_term K) [] E0 (tCons (tVar 4) (tCons (tVar 5) (tCons (tVar 3) tNil)))) tNil)) [some (.ref a), some (.ref q), some rv, some v1, some (.int w), some (.int (tn : Int))] H3 (fun vs H2 => ∃ b, vs = [.ref a, b] ∧ IsTerm K (2 ^ d.s.m) b H2 ⟨w, .many tn (Sr59.nats l)⟩) :=
        eap_v (ev_var rfl) (eap_cons (evp_callv (P := fun b H2 => IsTerm K (2 ^ d.s.m) b H2 ⟨w, .many tn (Sr59.nats l)⟩) (ea_cons (ev_var rfl) (ea_cons (ev_var rfl) (ea_cons (ev_var rfl) ea_nil))) rfl fun H4 e4 => ⟨2 ^ d.s.m, tn, w, Sr59.nats l, v1, rfl, by rw [hback]; exact hl2.mono (e3.trans e4), h64, fun x hx => by
            obtain ⟨y, hy, rfl⟩ := List.mem_map.mp hx
            have := hrg y hy
            omega, fun h => hne (List.map_eq_nil_iff.mp h), nats_nodup (fun x hx => (hrg x hx).1) hris, by omega, w1, w2, rfl⟩) fun b H4 e4 hb => eap_nil fun H5 e5 => ⟨b, rfl, hb.mono e5⟩)
      refine ret_call args fun vs H4 e4 ⟨b, hv, hb⟩ => ?_
      rw [hv]
      refine put_of T hS ((e12.trans e3).trans e4) hb ?_
      have e5 : (if 12 ≤ d.terms.length then some d else some { d with terms := d.terms ++ [⟨w, .many tn (Sr59.nats l)⟩] }) = (if 12 ≤ d.terms.length then (some d, say (-28)) else (some { d with terms := d.terms ++ [⟨w, .many tn (Sr59.nats l)⟩] }, say (d.terms.length : Nat))).1 := by
        split <;> rfl
      have e6 : (if 12 ≤ d.terms.length then [-28] else [(d.terms.length : Int)]) = ansI (if 12 ≤ d.terms.length then (some d, say (-28)) else (some { d with terms := d.terms ++ [⟨w, .many tn (Sr59.nats l)⟩] }, say (d.terms.length : Nat))).2 := by
        split <;> rfl
      rw [e5, e6]
      exact k
omit T in
theorem cut_to (xs : List V) {i : Nat} (h : i ≤ xs.length) : cutV xs none (some (i : Int)) = xs.take i := by
  unfold cutV
  have e1 : HT.sIx xs.length xs.length (some (i : Int)) = min i xs.length := HT.sIx_nat xs.length xs.length i
  have e2 : HT.sIx xs.length 0 none = 0 := HT.sIx_none _ _
  rw [e1, e2, Nat.min_eq_left h, List.drop_zero, Nat.sub_zero]
omit T in
theorem cut_from (xs : List V) {i : Nat} (h : i ≤ xs.length) : cutV xs (some (i : Int)) none = xs.drop i := by
  unfold cutV
  have e1 : HT.sIx xs.length 0 (some (i : Int)) = min i xs.length := HT.sIx_nat xs.length 0 i
  have e2 : HT.sIx xs.length xs.length none = xs.length := HT.sIx_none _ _
  rw [e1, e2, Nat.min_eq_left h]
  apply List.take_of_length_le
  rw [List.length_drop]
  omega
theorem pu_drop (vs : List V) (H : Hp) (Q : VK) (E : XK) (h : sp_drop K vs H Q E) : t_drop K { nx := fun _ H' => Q .non H', rt := Q } (L2.start ["seeds", "numbers", "rows", "place"] vs) H := by
  obtain ⟨_, a, nv, rv, st, ns, rs, c, rfl, hS, hn, hr, hz, hc, hst, k⟩ := h
  obtain ⟨x, rfl, rfl, rfl⟩ := call_9 hc
  cases st with
  | none => exact absurd rfl (hst.resolve_left (by decide))
  | some d =>
    obtain ⟨dx, vp, vr, vt, ho, ok, hp, hr', ht⟩ := id hS
    show t_drop K _ [some (.ref a), some nv, some rv, none] H
    rw [step_drop] at k
    refine q_asg (ev_num0 (ev_var rfl) hn) fun H1 e1 => ?_
    refine q_when (b := !(decide (0 ≤ x) && decide (x < (d.terms.length : Int)))) (et_not (et_B (ev_in (ev_var rfl) (ev_lenO (ev_terms T (ev_var rfl) (e1 _ _ ho)) (ht.mono e1))))) (fun hb H2 e2 => ?_) (fun hb H2 e2 => ?_)
    · have c : x < 0 ∨ (d.terms.length : Int) ≤ x := by
        rw [Bool.not_eq_true', Bool.and_eq_false_iff, decide_eq_false_iff_not, decide_eq_false_iff_not] at hb
        omega
      rw [if_pos c] at k
      exact ret_ans (el_1 ev_c) k hS (e1.trans e2)
    · rw [Bool.not_eq_false'] at hb
      obtain ⟨i, rfl, hi⟩ := nat_of (m := d.terms.length) hb
      rw [if_neg (by omega), Int.toNat_natCast] at k
      obtain ⟨l, ws, rfl, hl, pd⟩ := id ht
      have hlen := Paired.length pd
      have e12 := e1.trans e2
      have few := ok.2
      have s1 : EvL (tSl (rSlL K) (tFld K (tVar 0) "terms") tNoPart (tPart (tVar 3))) [some (.ref a), some nv, some rv, some (.int (i : Int))] H2 (ws.take i) := by
        have q := el_sl (K := K) (lo := none) (hi := some (i : Int)) (ev_terms T (σ := [some (.ref a), some nv, some rv, some (.int (i : Int))]) (ev_var (i := 0) rfl) (e12 _ _ ho)) eo_none (eo_some (ev_var (i := 3) rfl)) (sq_of (e12 _ _ hl))
        rw [cut_to ws (by omega)] at q
        exact q
      have s2 : ∀ H3, Ex H2 H3 → EvL (tSl (rSlL K) (tFld K (tVar 0) "terms") (tPart (tOp qAdd (tVar 3) (tC (.int 1)))) tNoPart) [some (.ref a), some nv, some rv, some (.int (i : Int))] H3 (ws.drop (i + 1)) := fun H3 e3 => by
        have q := el_sl (K := K) (lo := some ((i + 1 : Nat) : Int)) (hi := none) (ev_terms T (σ := [some (.ref a), some nv, some rv, some (.int (i : Int))]) (ev_var (i := 0) rfl) (e3 _ _ (e12 _ _ ho))) (eo_some (te := tOp qAdd (tVar 3) (tC (.int 1))) (ev_op0 (ev_var rfl) ev_c rfl)) eo_none (sq_of (e3 _ _ (e12 _ _ hl)))
        rw [cut_from ws (by omega)] at q
        exact q
      refine qp_fld (K := K) (evp_l (el_cat s1 (fun H3 e3 => evp_l (s2 H3 e3)) (by rw [List.length_take, List.length_drop]; omega))) (ev_var rfl) (e12 _ _ ho) (T.cls 83) (T.noat 87) (by show 4 < 1000; decide) fun y H3 e3 ⟨p, hy, hp2⟩ H4 e4 => ?_
      subst hy
      have e04 := (e12.trans e3).trans e4
      have ho4 := e04 _ _ ho
      have kb : KB a H4 (upd H4 a (.ins (ad K "Seeds") dx (putF "terms" (.ref p) (sdF vp vr (.ref l) (bit d.much))))) := KB.upd
      have pd4 : Paired (fun v t => IsTerm K (2 ^ d.s.m) v H4 t) ws d.terms := Paired.mapP pd fun v x h => h.mono e04
      have hT4 : IsTerms K (2 ^ d.s.m) (.ref p) H4 (d.terms.eraseIdx i) := ⟨p, _, rfl, e4 _ _ hp2, by
        rw [List.eraseIdx_eq_take_drop_succ]
        exact pd_append (pd_take i pd4) (pd_drop (i + 1) pd4)⟩
      have hle : (d.terms.eraseIdx i).length = d.terms.length - 1 := by rw [List.length_eraseIdx, if_pos hi]
      have hS4 : SeedsAt K (upd H4 a (.ins (ad K "Seeds") dx (putF "terms" (.ref p) (sdF vp vr (.ref l) (bit d.much))))) a (some { d with terms := d.terms.eraseIdx i }) :=
        ⟨dx, vp, vr, .ref p, upd_same.trans (by rw [sd_putT]), ⟨ok.1, by rw [hle]; omega⟩, (hp.mono e04).kb ho4 kb, (hr'.mono e04).kb ho4 kb, hT4.kb ho4 rfl kb⟩
      obtain ⟨dx', vp', vr', vt', ho', ok', hp', hr'', ht'⟩ := id hS4
      refine ret_done (el_1 (ev_is (ev_lenO (ev_terms T (ev_var rfl) ho') ht') ?_)) k hS4 ((KB.of e04).trans kb)
      show V.int ((d.terms.eraseIdx i).length : Int) = V.int ((d.terms.length - 1 : Nat) : Int)
      rw [hle]
theorem pu_want (vs : List V) (H : Hp) (Q : VK) (E : XK) (h : sp_want K vs H Q E) : t_want K { nx := fun _ H' => Q .non H', rt := Q } (L2.start ["seeds", "numbers", "rows", "before"] vs) H := by
  obtain ⟨_, a, nv, rv, st, ns, rs, c, rfl, hS, hn, hr, hz, hc, hst, k⟩ := h
  obtain ⟨x, rfl, rfl, rfl⟩ := call_10 hc
  cases st with
  | none => exact absurd rfl (hst.resolve_left (by decide))
  | some d =>
    obtain ⟨dx, vp, vr, vt, ho, ok, hp, hr', ht⟩ := id hS
    show t_want K _ [some (.ref a), some nv, some rv, none] H
    rw [step_want] at k
    refine q_when (b := !inV (.int x) [.int 0, .int 1]) (et_test (ev_niU (ev_num0 (ev_var rfl) hn) (eu_tup (ea_cons ev_c (ea_cons ev_c ea_nil)) (by show 2 ≤ 100000; decide)) rfl rfl)) (fun hb H1 e1 => ?_) (fun hb H1 e1 => ?_)
    · rw [in01, Bool.not_eq_true', Bool.or_eq_false_iff, beq_eq_false_iff_ne, beq_eq_false_iff_ne] at hb
      rw [if_pos (by omega)] at k
      exact ret_ans (el_1 ev_c) k hS e1
    · rw [in01, Bool.not_eq_false', Bool.or_eq_true, beq_iff_eq, beq_iff_eq] at hb
      rw [if_neg (by omega)] at k
      refine q_asg (ev_much T (ev_var rfl) (e1 _ _ ho)) fun H2 e2 => ?_
      have e12 := e1.trans e2
      refine qp_fld (K := K) (evp_v (ev_num0 (ev_var rfl) (hn.mono e12))) (ev_var rfl) (e12 _ _ ho) (T.cls 83) (T.noat 88) (by show 4 < 1000; decide) fun y H3 e3 hy H4 e4 => ?_
      subst hy
      have e04 := (e12.trans e3).trans e4
      have ho4 := e04 _ _ ho
      have kb : KB a H4 (upd H4 a (.ins (ad K "Seeds") dx (putF "is_much" (.int x) (sdF vp vr vt (bit d.much))))) := KB.upd
      have hx : x = bit (x == 1) := by
        rcases hb with rfl | rfl <;> rfl
      have hS4 : SeedsAt K (upd H4 a (.ins (ad K "Seeds") dx (putF "is_much" (.int x) (sdF vp vr vt (bit d.much))))) a (some { d with much := x == 1 }) :=
        ⟨dx, vp, vr, vt, upd_same.trans (by rw [sd_putM, ← hx]), ok, (hp.mono e04).kb ho4 kb, (hr'.mono e04).kb ho4 kb, (ht.mono e04).kb ho4 rfl kb⟩
      exact ret_done (el_1 (ev_var rfl)) k hS4 ((KB.of e04).trans kb)
end
end Fc
/-! P12: seeds.py, begin. -/
namespace Fc
open PySem PySem.Spec PyProof.Rows L2 Evl
open Sr58 (Term holds bit frac)
open Sr59 (Space Desk say)
open Sr59Neutral (callOf)
section
variable {K : PySem.W.Frag} {mg : Str → Option Value}
theorem step_beg (st : Sr59.State) (m k f : Int) : Sr59.step st (.begin_ m k f) = if begOk m k f = true then (some ⟨⟨m.toNat, k.toNat, f == 1⟩, [], false⟩, say ((2 ^ (m * k).toNat : Nat) : Int)) else (st, say (-22)) := by
  by_cases h : m < 1 ∨ 6 < m ∨ k < 1 ∨ 10 < m * k ∨ f < 0 ∨ 1 < f ∨ (f = 1 ∧ (k ≠ 2 ∨ 4 < m))
  · have e : begOk m k f = false := by
      unfold begOk
      rw [decide_eq_true h]
      rfl
    rw [if_neg (by rw [e]; decide)]
    exact if_pos h
  · have e : begOk m k f = true := by
      unfold begOk
      rw [decide_eq_false h]
      rfl
    rw [if_pos e]
    exact if_neg h
theorem begOk_sp {m k f : Int} (h : begOk m k f = true) : ∃ mn kn : Nat, m = (mn : Int) ∧ k = (kn : Int) ∧ SpOk ⟨mn, kn, f == 1⟩ := by
  unfold begOk at h
  rw [Bool.not_eq_true', decide_eq_false_iff_not] at h
  obtain ⟨mn, rfl⟩ := Int.eq_ofNat_of_zero_le (show 0 ≤ m by omega)
  obtain ⟨kn, rfl⟩ := Int.eq_ofNat_of_zero_le (show 0 ≤ k by omega)
  refine ⟨mn, kn, rfl, rfl, ⟨⟨(by show 1 ≤ mn; omega), (by show mn ≤ 6; omega), (by show 1 ≤ kn; omega), ?_⟩, fun hf => ?_⟩⟩
  · have : ¬ (10 < (mn : Int) * (kn : Int)) := fun z => h (Or.inr (Or.inr (Or.inr (Or.inl z))))
    have e : (mn : Int) * (kn : Int) = ((mn * kn : Nat) : Int) := (Int.natCast_mul mn kn).symm
    rw [e] at this
    show mn * kn ≤ 10
    omega
  · have hf' : (f == 1) = true := hf
    rw [beq_iff_eq] at hf'
    show kn = 2 ∧ mn ≤ 4
    omega
theorem el_nil {σ : L2.St} {H : Hp} : EvL (tLst tNil) σ H [] := el_lst ea_nil (by show 0 ≤ 100000; decide)
theorem pu_begin (T : Txt K mg) (vs : List V) (H : Hp) (Q : VK) (E : XK) (h : sp_begin K vs H Q E) : t_begin K { nx := fun _ H' => Q .non H', rt := Q } (L2.start ["seeds", "numbers", "rows", "digits", "many", "faint"] vs) H := by
  obtain ⟨_, a, nv, rv, st, ns, rs, c, rfl, hS, hn, hr, hz, hc, hst, k⟩ := h
  obtain ⟨m, kk, f, rfl, rfl, rfl⟩ := call_0 hc
  obtain ⟨dx, vp, vr, vt, i, ho⟩ := hS.raw
  obtain ⟨q, rfl, hq⟩ := hn
  show t_begin K _ [some (.ref a), some (.ref q), some rv, none, none, none] H
  rw [step_beg] at k
  refine qp_unl3 (K := K) (ev_var rfl) (sq_of hq) fun H1 e1 => ?_
  refine q_when (b := !(begOk m kk f)) (et_not (et_B (ev_callv (ea_cons (ev_var rfl) (ea_cons (ev_var rfl) (ea_cons (ev_var rfl) ea_nil))) rfl fun H3 e3 => ⟨m, kk, f, rfl, rfl⟩))) (fun hb H2 e2 => ?_) (fun hb H2 e2 => ?_)
  · rw [Bool.not_eq_true'] at hb
    rw [if_neg (by rw [hb]; decide)] at k
    exact ret_ans (el_1 ev_c) k hS (e1.trans e2)
  · rw [Bool.not_eq_false'] at hb
    rw [if_pos hb] at k
    obtain ⟨mn, kn, rfl, rfl, ok⟩ := begOk_sp hb
    rw [Int.toNat_natCast, Int.toNat_natCast, ← Int.natCast_mul, Int.toNat_natCast] at k
    have e12 := e1.trans e2
    refine qp_fld (K := K) (evp_callv (P := fun v H => IsLL v H (tableI mn)) (ea_cons (ev_var rfl) ea_nil) rfl fun H3 e3 => ⟨mn, rfl, ok.sz.m, rfl⟩) (ev_var rfl) (e12 _ _ ho) (T.cls 83) (T.noat 85) (by show 4 < 1000; decide) fun y H3 e3 hy H4 e4 => ?_
    have e04 := (e12.trans e3).trans e4
    have ho4 := e04 _ _ ho
    rw [sd_putP]
    have kb1 : KB a H4 (upd H4 a (.ins (ad K "Seeds") dx (sdF y vr vt i))) := KB.upd
    have hP1 := (hy.mono e4).kb ho4 kb1
    have hA1 : upd H4 a (.ins (ad K "Seeds") dx (sdF y vr vt i)) a = some (.ins (ad K "Seeds") dx (sdF y vr vt i)) := upd_same
    generalize upd H4 a (.ins (ad K "Seeds") dx (sdF y vr vt i)) = Ha at kb1 hP1 hA1 ⊢
    refine qp_fld (K := K) (evp_callv (P := fun v H => IsLL v H (rowsI ⟨mn, kn, f == 1⟩)) (ea_cons (ev_products T (ev_var rfl) hA1) (ea_cons (ev_var rfl) (ea_cons (ev_var rfl) (ea_cons (ev_eq (b := f == 1) (ev_var rfl) ev_c rfl (by rw [dec_int])) ea_nil)))) rfl fun H5 e5 => ⟨y, ⟨mn, kn, f == 1⟩, rfl, hP1.mono e5, ok, rfl⟩) (ev_var rfl) hA1 (T.cls 83) (T.noat 86) (by show 4 < 1000; decide) fun z H5 e5 hz5 H6 e6 => ?_
    have e56 := e5.trans e6
    have hA1' := e56 _ _ hA1
    rw [sd_putR]
    have kb2 : KB a H6 (upd H6 a (.ins (ad K "Seeds") dx (sdF y z vt i))) := KB.upd
    have hP2 := (hP1.mono e56).kb hA1' kb2
    have hR2 := (hz5.mono e6).kb hA1' kb2
    have hA2 : upd H6 a (.ins (ad K "Seeds") dx (sdF y z vt i)) a = some (.ins (ad K "Seeds") dx (sdF y z vt i)) := upd_same
    generalize upd H6 a (.ins (ad K "Seeds") dx (sdF y z vt i)) = Hb at kb2 hP2 hR2 hA2 ⊢
    refine qp_fld (K := K) (evp_l el_nil) (ev_var rfl) hA2 (T.cls 83) (T.noat 87) (by show 4 < 1000; decide) fun t H7 e7 ⟨pt, ht, hpt⟩ H8 e8 => ?_
    subst ht
    have e78 := e7.trans e8
    have hA2' := e78 _ _ hA2
    rw [sd_putT]
    have kb3 : KB a H8 (upd H8 a (.ins (ad K "Seeds") dx (sdF y z (.ref pt) i))) := KB.upd
    have hP3 := (hP2.mono e78).kb hA2' kb3
    have hR3 := (hR2.mono e78).kb hA2' kb3
    have hT3 : upd H8 a (.ins (ad K "Seeds") dx (sdF y z (.ref pt) i)) pt = some (.lst []) := kb3 _ _ (ne_ins hA2' (e8 _ _ hpt)) (e8 _ _ hpt)
    have hA3 : upd H8 a (.ins (ad K "Seeds") dx (sdF y z (.ref pt) i)) a = some (.ins (ad K "Seeds") dx (sdF y z (.ref pt) i)) := upd_same
    generalize upd H8 a (.ins (ad K "Seeds") dx (sdF y z (.ref pt) i)) = Hc at kb3 hP3 hR3 hT3 hA3 ⊢
    refine qp_fld (K := K) (evp_v (v := .int 0) ev_c) (ev_var rfl) hA3 (T.cls 83) (T.noat 88) (by show 4 < 1000; decide) fun w H9 e9 hw H10 e10 => ?_
    subst hw
    have e90 := e9.trans e10
    have hA3' := e90 _ _ hA3
    rw [sd_putM]
    have kb4 : KB a H10 (upd H10 a (.ins (ad K "Seeds") dx (sdF y z (.ref pt) 0))) := KB.upd
    have hP4 := (hP3.mono e90).kb hA3' kb4
    have hR4 := (hR3.mono e90).kb hA3' kb4
    have hT4 := kb4 _ _ (ne_ins hA3' (e90 _ _ hT3)) (e90 _ _ hT3)
    have hA4 : upd H10 a (.ins (ad K "Seeds") dx (sdF y z (.ref pt) 0)) a = some (.ins (ad K "Seeds") dx (sdF y z (.ref pt) 0)) := upd_same
    generalize upd H10 a (.ins (ad K "Seeds") dx (sdF y z (.ref pt) 0)) = Hd at kb4 hP4 hR4 hT4 hA4 ⊢
    have kb : KB a H Hd := ((((KB.of e04).trans kb1).trans ((KB.of e56).trans kb2)).trans ((KB.of e78).trans kb3)).trans ((KB.of e90).trans kb4)
    have hS4 : SeedsAt K Hd a (some ⟨⟨mn, kn, f == 1⟩, [], false⟩) := ⟨dx, y, z, .ref pt, hA4, ⟨ok, Nat.zero_le _⟩, hP4, hR4, pt, [], rfl, hT4, .nil⟩
    exact ret_done (el_1 (ev_lenR (ev_rows T (ev_var rfl) hA4) hR4)) k hS4 kb
end
end Fc
/-! P13: seeds.py, rows_at. -/
namespace Fc
open PySem PySem.Spec PyProof.Rows L2 Evl
section
variable {K : PySem.W.Frag} {mg : Str → Option Value}
theorem drop_cons {l : List Int} {j : Nat} {n : Int} {r : List Int} (h : l.drop j = n :: r) : l[j]? = some n ∧ l.drop (j + 1) = r ∧ j < l.length := by
  have hlt : j < l.length := by
    refine Decidable.byContradiction fun c => ?_
    rw [List.drop_eq_nil_of_le (by omega)] at h
    cases h
  rw [List.drop_eq_getElem_cons hlt] at h
  injection h with h1 h2
  exact ⟨by rw [List.getElem?_eq_getElem hlt, h1], h2, hlt⟩
theorem rows_step {n : Nat} {l : List Int} {j : Nat} {rs : List (List Int)} {r : List Int} (h : PyFlat.rows (n + 1) (l.drop j) = some (rs, r)) :
    ∃ (m : Nat) (xs : List (List Int)), l[j]? = some (m : Int) ∧ j + 1 + m ≤ l.length ∧ rs = ((l.drop (j + 1)).take m) :: xs ∧ PyFlat.rows n (l.drop (j + 1 + m)) = some (xs, r) := by
  cases hd : l.drop j with
  | nil =>
    rw [hd] at h
    cases h
  | cons a t =>
    obtain ⟨h1, h2, h3⟩ := drop_cons hd
    rw [hd] at h
    by_cases c : 0 ≤ a ∧ a.toNat ≤ t.length
    · obtain ⟨m, rfl⟩ := Int.eq_ofNat_of_zero_le c.1
      have hr : PyFlat.row ((m : Int) :: t) = some (t.take m, t.drop m) := by
        show (if 0 ≤ (m : Int) ∧ (m : Int).toNat ≤ t.length then some (t.take (m : Int).toNat, t.drop (m : Int).toNat) else none) = _
        rw [if_pos c, Int.toNat_natCast]
      have hlen : t.length = l.length - (j + 1) := by rw [← h2, List.length_drop]
      have c2 := c.2
      rw [Int.toNat_natCast] at c2
      have h' : (match PyFlat.row ((m : Int) :: t) with
        | none => none
        | some (x, s) => match PyFlat.rows n s with
          | none => none
          | some (xs, t) => some (x :: xs, t)) = some (rs, r) := h
      rw [hr] at h'
      have h'' : (match PyFlat.rows n (t.drop m) with
          | none => none
          | some (xs, t') => some (t.take m :: xs, t')) = some (rs, r) := h'
      cases hq : PyFlat.rows n (t.drop m) with
      | none =>
        rw [hq] at h''
        cases h''
      | some y =>
        obtain ⟨xs, u⟩ := y
        rw [hq] at h''
        have h3' := Option.some.inj h''
        injection h3' with e1 e2
        subst e1 e2
        refine ⟨m, xs, h1, by omega, by rw [h2], ?_⟩
        rw [← List.drop_drop, h2]
        exact hq
    · exfalso
      have hr : PyFlat.row (a :: t) = none := if_neg c
      have h' : (match PyFlat.row (a :: t) with
        | none => none
        | some (x, s) => match PyFlat.rows n s with
          | none => none
          | some (xs, t) => some (x :: xs, t)) = some (rs, r) := h
      rw [hr] at h'
      cases h'
theorem cut_mid (xs : List V) {i j : Nat} (h : i ≤ j) (hj : j ≤ xs.length) : cutV xs (some (i : Int)) (some (j : Int)) = (xs.drop i).take (j - i) := by
  unfold cutV
  have e1 : HT.sIx xs.length 0 (some (i : Int)) = min i xs.length := HT.sIx_nat xs.length 0 i
  have e2 : HT.sIx xs.length xs.length (some (j : Int)) = min j xs.length := HT.sIx_nat xs.length xs.length j
  rw [e1, e2, Nat.min_eq_left hj, Nat.min_eq_left (Nat.le_trans h hj)]
theorem len_row {l : List Int} {j m : Nat} (h : j + 1 + m ≤ l.length) : ((l.drop (j + 1)).take m).length = m := by
  rw [List.length_take, List.length_drop]
  omega
theorem pu_rows_at (vs : List V) (H : Hp) (Q : VK) (E : XK) (h : sp_rows_at K vs H Q E) : t_rows_at K { nx := fun _ H' => Q .non H', rt := Q } (L2.start ["calls", "at", "many", "found", "turn", "end"] vs) H := by
  obtain ⟨_, P, ⟨a, l, i0, n, rs, r, rfl, hl, hz, hn, hi0, hrs, rfl⟩, k⟩ := h
  show t_rows_at K _ [some (.ref a), some (.int i0), some (.int n), none, none, none] H
  refine q_asgL (el_lst ea_nil (Nat.zero_le _)) fun q H1 hq e1 h1 => ?_
  refine q_forR1 (n := ((n : Nat) : Int)) (ea_cons (ev_var rfl) ea_nil) ⟨by omega, by omega⟩
    (fun i σ H' => i ≤ n ∧ Ex H H' ∧ ∃ (j : Nat) (w4 w5 : Option V) (ps : List Addr), σ = [some (.ref a), some (.int j), some (.int n), some (.ref q), w4, w5] ∧ H' q = some (.lst (ps.map V.ref)) ∧ Paired (fun p r => p ≠ q ∧ H' p = some (.lst (r.map V.int))) ps (rs.take i) ∧
      i0 ≤ j ∧ j ≤ l.length ∧ ps.length ≤ i ∧ PyFlat.rows (n - i) (l.drop j) = some (rs.drop i, r))
    (fun H2 e2 => ⟨Nat.zero_le _, e1.trans e2, i0, none, none, [], rfl, e2 _ _ h1, .nil, Nat.le_refl _, hi0, Nat.le_refl _, hrs⟩) (fun i σ H' hi ⟨_, e, j, w4, w5, ps, hσ, hps, pd, hj0, hj, hpl, hr⟩ => ?_) (fun σ H' ⟨_, e, j, w4, w5, ps, hσ, hps, pd, hj0, hj, hpl, hr⟩ => ?_)
  · subst hσ
    have hi2 : i < n := by omega
    obtain ⟨m, hm⟩ : ∃ m, n - i = m + 1 := ⟨n - i - 1, by omega⟩
    rw [hm] at hr
    obtain ⟨w, xs, hw, hwl, hx, hr2⟩ := rows_step hr
    have hla := ex_l e hl
    have ix : Ev (tOp (rIxL K) (tVar 0) (tVar 1)) [some (.ref a), some (.int j), some (.int n), some (.ref q), some (.int (i : Int)), w5] H' (.int (w : Int)) := ev_ixS (j := j) (ev_var rfl) (ev_var rfl) hla (by rw [List.getElem?_map, hw]; rfl)
    refine q_asg (v := .int ((j + 1 + w : Nat) : Int)) (ev_op0 (ev_op0 (ev_var rfl) ev_c rfl) ix (congrArg V.int (by push_cast; rfl))) fun H2 e2 => ?_
    have sl : ∀ H3, Ex H2 H3 → EvL (tSl (rSlL K) (tVar 0) (tPart (tOp qAdd (tVar 1) (tC (.int 1)))) (tPart (tVar 5))) [some (.ref a), some (.int j), some (.int n), some (.ref q), some (.int (i : Int)), some (.int ((j + 1 + w : Nat) : Int))] H3 (((l.drop (j + 1)).take w).map V.int) := fun H3 e3 => by
      have z := el_sl (K := K) (lo := some ((j + 1 : Nat) : Int)) (hi := some ((j + 1 + w : Nat) : Int)) (σ := [some (.ref a), some (.int j), some (.int n), some (.ref q), some (.int (i : Int)), some (.int ((j + 1 + w : Nat) : Int))]) (te := tVar 0) (ev_var rfl) (eo_some (te := tOp qAdd (tVar 1) (tC (.int 1))) (ev_op0 (ev_var rfl) ev_c rfl)) (eo_some (te := tVar 5) (ev_var rfl)) (ex_l (e2.trans e3) hla)
      rw [cut_mid (l.map V.int) (Nat.le_add_right _ _) (by rw [List.length_map]; exact hwl), Nat.add_sub_cancel_left, ← List.map_drop, ← List.map_take] at z
      exact z
    refine q_appL (e2 _ _ hps) (ev_var rfl) (sl H2 (Ex.refl _)) (by rw [List.length_map]; omega) fun p H3 hp e3 h3 => ?_
    have hpq : p ≠ q := fun z => by
      rw [z, e2 _ _ hps] at hp
      cases hp
    refine s_asg (ev_var rfl) fun H4 e4 => ?_
    have hx' : (rs.take (i + 1)) = rs.take i ++ [(l.drop (j + 1)).take w] := by
      refine take_succ_of ?_
      have : (rs.drop i)[0]? = some ((l.drop (j + 1)).take w) := by rw [hx]; rfl
      rw [List.getElem?_drop] at this
      exact this
    have e24 := e2.trans e3
    refine ⟨hi2, (Ex.mut (e.trans e24) hq).trans e4, j + 1 + w, _, _, ps ++ [p], rfl, ?_, ?_, by omega, hwl, ?_, ?_⟩
    · refine e4 _ _ ?_
      rw [upd_same, List.map_append]
      rfl
    · rw [hx']
      refine pd_append (Paired.mapP pd fun b x ⟨hb, h⟩ => ⟨hb, e4 _ _ ?_⟩) (.cons ⟨hpq, e4 _ _ ?_⟩ .nil)
      · rw [upd_ne hb]
        exact e24 _ _ h
      · rw [upd_ne hpq]
        exact h3
    · rw [List.length_append, List.length_singleton]
      omega
    · have e5 : n - (i + 1) = m := by omega
      have e6 : rs.drop (i + 1) = xs := by
        rw [← List.drop_drop, hx]
        rfl
      rw [e5, e6]
      exact hr2
  · subst hσ
    rw [Int.toNat_natCast] at pd hr hpl
    rw [Nat.sub_self] at hr
    have hr' : some ([], l.drop j) = some (rs.drop n, r) := hr
    injection hr' with hr'
    injection hr' with hr1 hr2
    have htk : rs.take n = rs := List.take_of_length_le (by
      have : (rs.drop n).length = 0 := by rw [← hr1]; rfl
      rw [List.length_drop] at this
      omega)
    rw [htk] at pd
    refine s_retU (eu_tup (ea_cons (ev_var rfl) (ea_cons (ev_var rfl) ea_nil)) (by show 2 ≤ 100000; decide)) fun p H2 hp e2 h2 => ?_
    refine k _ H2 (e.trans e2) ⟨p, .ref q, j, rfl, h2, ⟨q, ps.map V.ref, rfl, e2 _ _ hps, ?_⟩, hj, hj0, hr2⟩
    exact pd_mapl (Paired.mapP pd fun b x ⟨_, h⟩ => ⟨b, rfl, e2 _ _ h⟩)
end
end Fc
/-! P14: seeds.py, answer_to. -/
namespace Fc
open PySem PySem.Spec PyProof.Rows L2 Evl
open Sr58 (Term holds bit frac)
open Sr59 (Space Desk say)
open Sr59Neutral (callOf)
section
variable {K : PySem.W.Frag} {mg : Str → Option Value}
theorem call_in {p : Int} {ns : List Int} {rs : List (List Int)} {c : Sr59.Call} (h : callOf ((p :: ns) :: rs) = some c) : ∃ n : Nat, n < 16 ∧ p = (n : Int) := by
  unfold callOf at h
  split at h <;> first
    | (rename_i heq
       injection heq with h1 h2
       injection h1 with h3 h4
       exact ⟨p.toNat, by omega, by omega⟩)
    | cases h
theorem lt16 {P : Nat → Prop} (h0 : P 0) (h1 : P 1) (h2 : P 2) (h3 : P 3) (h4 : P 4) (h5 : P 5) (h6 : P 6) (h7 : P 7) (h8 : P 8) (h9 : P 9) (h10 : P 10) (h11 : P 11) (h12 : P 12) (h13 : P 13) (h14 : P 14) (h15 : P 15) : ∀ n, n < 16 → P n
  | 0, _ => h0 | 1, _ => h1 | 2, _ => h2 | 3, _ => h3 | 4, _ => h4 | 5, _ => h5 | 6, _ => h6 | 7, _ => h7 | 8, _ => h8 | 9, _ => h9 | 10, _ => h10 | 11, _ => h11 | 12, _ => h12 | 13, _ => h13 | 14, _ => h14 | 15, _ => h15
  | n + 16, h => absurd h (by omega)
theorem not_begun {p : Int} {ns : List Int} {rs : List (List Int)} {c : Sr59.Call} (hp : p ≠ 0) (h : callOf ((p :: ns) :: rs) = some c) : Sr59.step none c = (none, say (-11)) := by
  unfold callOf at h
  split at h <;> first
    | (rename_i heq
       injection heq with h1 h2
       injection h1 with h3 h4
       exact absurd h3 hp)
    | (cases h; rfl)
    | cases h
theorem rows_ne (s : Space) : rowsI s ≠ [] := fun h => by
  have e := rowsI_len s
  rw [h] at e
  have : 0 < Sr59.seeds s := Nat.two_pow_pos _
  have e' : 0 = Sr59.seeds s := e
  omega
theorem SeedsAt.rows {H : Hp} {a : Addr} {st : Sr59.State} (h : SeedsAt K H a st) : ∃ dx vp vr vt m rs, H a = some (.ins (ad K "Seeds") dx (sdF vp vr vt m)) ∧ IsLL vr H rs ∧ (rs = [] ↔ st = none) := by
  cases st with
  | none =>
    obtain ⟨dx, vp, vr, vt, m, h, h2⟩ := h
    exact ⟨dx, vp, vr, vt, m, [], h, h2, by simp⟩
  | some d =>
    obtain ⟨dx, vp, vr, vt, h, _, _, h2, _⟩ := h
    exact ⟨dx, vp, vr, vt, _, _, h, h2, by simp [rows_ne]⟩
variable (T : Txt K mg)
include T
theorem Txt.deeds (H : Hp) : SqT K H (ad K "DEEDS") [.ref (ad K "begin"), .ref (ad K "mul"), .ref (ad K "pow_of"), .ref (ad K "coin"), .ref (ad K "row_of"), .ref (ad K "count"), .ref (ad K "odds"), .ref (ad K "all_lie"), .ref (ad K "many_of"), .ref (ad K "drop"), .ref (ad K "want"), .ref (ad K "means"), .ref (ad K "worth"), .ref (ad K "best"), .ref (ad K "chances"), .ref (ad K "size")] := He.tupB_ok T.tups.2.2.2 H
theorem pu_answer_at (H : Hp) (Q : VK) (n : Nat) (fA : Addr)
    (hf : ([.ref (ad K "begin"), .ref (ad K "mul"), .ref (ad K "pow_of"), .ref (ad K "coin"), .ref (ad K "row_of"), .ref (ad K "count"), .ref (ad K "odds"), .ref (ad K "all_lie"), .ref (ad K "many_of"), .ref (ad K "drop"), .ref (ad K "want"), .ref (ad K "means"), .ref (ad K "worth"), .ref (ad K "best"), .ref (ad K "chances"), .ref (ad K "size")] : List V)[n]? = some (.ref fA))
    (a : Addr) (nv rv : V) (st : Sr59.State) (ns : List Int) (rs : List (List Int)) (c : Sr59.Call) (hS : SeedsAt K H a st) (hn : IsL nv H ns) (hr : IsLL rv H rs) (hz : ∀ r ∈ rs, r.length ≤ 70) (hc : callOf (((n : Int) :: ns) :: rs) = some c)
    (k : Done K a H Q (Sr59.step st c).1 (ansI (Sr59.step st c).2)) : t_answer_to fA (sp_deed K n) K { nx := fun _ H' => Q .non H', rt := Q } [some (.ref a), some (.int n), some nv, some rv, none] H := by
  obtain ⟨dx, vp, vr, vt, m, rws, ho, hrw, hst⟩ := hS.rows
  refine q_when (b := decide (rws = []) && !decide (V.int (n : Int) = V.int 0)) (et_and (et_test (ev_isNilL (ev_rows T (ev_var rfl) ho) hrw)) fun _ => et_test (ev_op (ev_var rfl) ev_c (rv_ne rfl))) (fun hb H1 e1 => ?_) (fun hb H1 e1 => ?_)
  · rw [Bool.and_eq_true, decide_eq_true_iff, Bool.not_eq_true', decide_eq_false_iff_not] at hb
    have hs := hst.mp hb.1
    subst hs
    rw [not_begun (fun h => hb.2 (by rw [h])) hc] at k
    exact ret_ans (el_1 ev_c) k hS e1
  · have hpn : (n : Int) = 0 ∨ st ≠ none := by
      rw [Bool.and_eq_false_iff, decide_eq_false_iff_not, Bool.not_eq_false', decide_eq_true_iff] at hb
      rcases hb with hb | hb
      · exact Or.inr fun h => hb (hst.mpr h)
      · injection hb with hb
        exact Or.inl hb
    refine q_asg (ev_ixT (j := n) ev_c (ev_var rfl) (T.deeds H1) hf) fun H2 e2 => ?_
    have e12 := e1.trans e2
    have args : EvA (tCons (tVar 0) (tCons (tVar 2) (tCons (tVar 3) tNil))) [some (.ref a), some (.int n), some nv, some rv, some (.ref fA)] H2 [.ref a, nv, rv] := ea_cons (ev_var rfl) (ea_cons (ev_var rfl) (ea_cons (ev_var rfl) ea_nil))
    refine And.intro rfl (args H2 (Ex.refl _) _ fun H3 e3 => ?_)
    rw [List.append_nil]
    have e03 := e12.trans e3
    exact ⟨rfl, a, nv, rv, st, ns, rs, c, rfl, hS.mono e03, hn.mono e03, hr.mono e03, hz, hc, hpn, k.mono e03⟩
end
end Fc
/-! P15: how a list of calls comes apart. -/
namespace Fc
open PySem PySem.Spec PyProof.Rows L2 Evl
open Sr59Neutral (callOf)
def numsL : List Int := [3, 2, 2, 2, 1, 0, 0, 1, 2, 1, 1, 0, 1, 0, 1, 0]
def rowsL : List Int := [0, 0, 0, 0, 0, 2, 1, 1, 1, 0, 0, 0, 0, 0, 0, 0]
theorem shape_in {p : Int} {n k : Nat} (h : PySr59.shape p = some (n, k)) : ∃ q : Nat, q < 16 ∧ p = (q : Int) := by
  refine Decidable.byContradiction fun c => ?_
  have hp : ¬ (0 ≤ p ∧ p < 16) := fun z => c ⟨p.toNat, by omega, by omega⟩
  unfold PySr59.shape at h
  rw [if_neg (by omega), if_neg (by omega), if_neg (by omega), if_neg (by omega), if_neg (by omega), if_neg (by omega), if_neg (by omega), if_neg (by omega), if_neg (by omega), if_neg (by omega), if_neg (by omega), if_neg (by omega), if_neg (by omega), if_neg (by omega), if_neg (by omega), if_neg (by omega)] at h
  cases h
theorem shape_at : ∀ q : Nat, q < 16 → ∀ n k : Nat, PySr59.shape (q : Int) = some (n, k) → numsL[q]? = some (n : Int) ∧ rowsL[q]? = some (k : Int) ∧ k ≤ 2 ∧ n ≤ 3 := by
  refine lt16 ?_ ?_ ?_ ?_ ?_ ?_ ?_ ?_ ?_ ?_ ?_ ?_ ?_ ?_ ?_ ?_ <;> (intro n k h; cases h; exact ⟨rfl, rfl, by decide, by decide⟩)
theorem shape_call : ∀ q : Nat, q < 16 → ∀ (n k : Nat) (ns : List Int) (rs : List (List Int)), PySr59.shape (q : Int) = some (n, k) → ns.length = n → rs.length = k → ∃ c, callOf (((q : Int) :: ns) :: rs) = some c := by
  refine lt16 ?_ ?_ ?_ ?_ ?_ ?_ ?_ ?_ ?_ ?_ ?_ ?_ ?_ ?_ ?_ ?_ <;>
    (intro n k ns rs h h1 h2
     cases h
     rcases ns with _ | ⟨x, _ | ⟨y, _ | ⟨z, _ | ⟨_, _⟩⟩⟩⟩ <;> rcases rs with _ | ⟨r, _ | ⟨s, _ | ⟨_, _⟩⟩⟩ <;> first | exact ⟨_, rfl⟩ | (exfalso; simp only [List.length_cons, List.length_nil] at h1 h2; omega))
theorem rows_len : ∀ {k : Nat} {l : List Int} {xs : List (List Int)} {t : List Int}, PyFlat.rows k l = some (xs, t) → xs.length = k
  | 0, l, xs, t, h => by
    have h' : some ([], l) = some (xs, t) := h
    injection h' with h'
    injection h' with h1 _
    rw [← h1]
    rfl
  | k + 1, l, xs, t, h => by
    have h' : (match PyFlat.row l with
      | none => none
      | some (x, s) => match PyFlat.rows k s with
        | none => none
        | some (xs, t) => some (x :: xs, t)) = some (xs, t) := h
    cases h1 : PyFlat.row l with
    | none =>
      rw [h1] at h'
      cases h'
    | some y =>
      obtain ⟨x, s⟩ := y
      rw [h1] at h'
      have h'' : (match PyFlat.rows k s with
        | none => none
        | some (xs, t) => some (x :: xs, t)) = some (xs, t) := h'
      cases h2 : PyFlat.rows k s with
      | none =>
        rw [h2] at h''
        cases h''
      | some y =>
        obtain ⟨ys, u⟩ := y
        rw [h2] at h''
        have h3 := Option.some.inj h''
        injection h3 with e1 e2
        rw [← e1, List.length_cons, rows_len h2]
theorem whole_is (c : List (List Int)) : PySr59.whole c = c := by
  unfold PySr59.whole
  split <;> rfl
theorem wholes_is (cs : List (List (List Int))) : cs.map PySr59.whole = cs := by
  rw [show PySr59.whole = id from funext whole_is, List.map_id]
theorem asked_len {q : Int} {ns : List Int} {rs : List (List Int)} (h : Sr59Neutral.asked1 ((q :: ns) :: rs) = true) : ∀ r ∈ rs, r.length ≤ 70 := by
  have row {r : List Int} (h : Sr59Neutral.row r = true) : r.length ≤ 70 := by
    unfold Sr59Neutral.row at h
    rw [Bool.and_eq_true, decide_eq_true_iff] at h
    exact h.2
  unfold Sr59Neutral.asked1 at h
  split at h <;> first
    | (rename_i heq
       injection heq with h1 h2
       subst h2
       intro r hr
       first
         | (cases hr; done)
         | (rcases List.mem_singleton.mp hr with rfl
            first
              | exact row h
              | (rw [Bool.and_eq_true] at h; exact row h.2))
         | (rw [Bool.and_eq_true] at h
            rcases List.mem_cons.mp hr with rfl | hr
            · exact row h.1
            · rcases List.mem_singleton.mp hr with rfl
              exact row h.2))
    | cases h
theorem played_cons {q : Int} {ns : List Int} {rs : List (List Int)} {c : Sr59.Call} (st : Sr59.State) (cs : List (List (List Int))) (h : callOf ((q :: ns) :: rs) = some c) :
    PyFlat.told (PyFlat.played Sr59Neutral.step st (((q :: ns) :: rs) :: cs)) = ((ansI (Sr59.step st c).2).length : Int) :: (ansI (Sr59.step st c).2 ++ PyFlat.told (PyFlat.played Sr59Neutral.step (Sr59.step st c).1 cs)) := by
  have e : Sr59Neutral.step st ((q :: ns) :: rs) = ((Sr59.step st c).1, ansI (Sr59.step st c).2) := by
    unfold Sr59Neutral.step
    rw [h]
    rfl
  show PyFlat.told ((Sr59Neutral.step st ((q :: ns) :: rs)).2 :: PyFlat.played Sr59Neutral.step (Sr59Neutral.step st ((q :: ns) :: rs)).1 cs) = _
  rw [e]
  rfl
/-- one call off the front -/
theorem calls_step {f : Nat} {l : List Int} {j : Nat} {cs : List (List (List Int))} (h : PyFlat.calls PySr59.shape f (l.drop j) = some cs) (hj : j < l.length) :
    ∃ (f' q n k : Nat) (xs : List (List Int)) (t : List Int) (cs' : List (List (List Int))), q < 16 ∧ PySr59.shape (q : Int) = some (n, k) ∧ l[j]? = some (q : Int) ∧ j + 1 + n ≤ l.length ∧ PyFlat.rows k (l.drop (j + 1 + n)) = some (xs, t) ∧
      cs = (((q : Int) :: (l.drop (j + 1)).take n) :: xs) :: cs' ∧ PyFlat.calls PySr59.shape f' t = some cs' := by
  have hd : l.drop j = l[j] :: l.drop (j + 1) := List.drop_eq_getElem_cons hj
  rw [hd] at h
  have hp : l[j]? = some l[j] := List.getElem?_eq_getElem hj
  generalize l[j] = p at h hp
  have hl : (l.drop (j + 1)).length = l.length - (j + 1) := List.length_drop
  have hdd : ∀ n, (l.drop (j + 1)).drop n = l.drop (j + 1 + n) := fun n => List.drop_drop
  generalize l.drop (j + 1) = r at h hl hdd ⊢
  cases f with
  | zero => cases h
  | succ f =>
    have h1 : (match PyFlat.call PySr59.shape (p :: r) with
      | none => none
      | some (c, t) => match PyFlat.calls PySr59.shape f t with
        | none => none
        | some cs => some (c :: cs)) = some cs := h
    cases hc : PyFlat.call PySr59.shape (p :: r) with
    | none =>
      rw [hc] at h1
      cases h1
    | some y =>
      obtain ⟨c, t⟩ := y
      rw [hc] at h1
      have h2 : (match PyFlat.calls PySr59.shape f t with
        | none => none
        | some cs => some (c :: cs)) = some cs := h1
      cases hq : PyFlat.calls PySr59.shape f t with
      | none =>
        rw [hq] at h2
        cases h2
      | some cs' =>
        rw [hq] at h2
        have e1 : c :: cs' = cs := Option.some.inj h2
        have h3 : (match PySr59.shape p with
          | none => none
          | some (n, k) => if r.length < n then none else match PyFlat.rows k (r.drop n) with
            | none => none
            | some (xs, t) => some ((p :: r.take n) :: xs, t)) = some (c, t) := hc
        cases hs : PySr59.shape p with
        | none =>
          rw [hs] at h3
          cases h3
        | some y =>
          obtain ⟨n, k⟩ := y
          rw [hs] at h3
          have h4 : (if r.length < n then none else match PyFlat.rows k (r.drop n) with
            | none => none
            | some (xs, t) => some ((p :: r.take n) :: xs, t)) = some (c, t) := h3
          by_cases hn : r.length < n
          · rw [if_pos hn] at h4
            cases h4
          · rw [if_neg hn] at h4
            cases hr : PyFlat.rows k (r.drop n) with
            | none =>
              rw [hr] at h4
              cases h4
            | some y =>
              obtain ⟨xs, u⟩ := y
              rw [hr] at h4
              have h5 : ((p :: r.take n) :: xs, u) = (c, t) := Option.some.inj h4
              injection h5 with e2 e3
              subst e2 e3
              obtain ⟨q, hq16, rfl⟩ := shape_in hs
              rw [hdd] at hr
              exact ⟨f, q, n, k, xs, u, cs', hq16, hs, hp, by omega, hr, e1.symm, hq⟩
/-- what is asked, taken apart -/
theorem asked_is {l : List Int} (h : PySr59.answers_asked l = true) : ∃ cs, PyFlat.calls PySr59.shape l.length l = some cs ∧ (∀ c ∈ cs, Sr59Neutral.asked1 c = true) ∧ PySr59.answers l = PyFlat.told (PyFlat.played Sr59Neutral.step Sr59Neutral.start cs) ∧ (PySr59.answers l).length ≤ 10000000 := by
  unfold PySr59.answers_asked at h
  cases hc : PyFlat.calls PySr59.shape l.length l with
  | none =>
    rw [hc] at h
    cases h
  | some cs =>
    rw [hc] at h
    have h' : (!cs.isEmpty && PyFlat.atMost 60 cs && PyInside.calls PySr59.bound cs && Sr59Neutral.asked (cs.map PySr59.whole) && PyFlat.short 10000000 (PySr59.answers l)) = true := h
    rw [Bool.and_eq_true, Bool.and_eq_true, wholes_is] at h'
    obtain ⟨⟨_, h1⟩, h2⟩ := h'
    unfold Sr59Neutral.asked at h1
    rw [Bool.and_eq_true, Bool.and_eq_true, List.all_eq_true] at h1
    unfold PyFlat.short at h2
    rw [decide_eq_true_iff] at h2
    refine ⟨cs, rfl, h1.2.2, ?_, h2⟩
    unfold PySr59.answers PySr59.calls
    rw [hc]
    show PyFlat.told (PyFlat.played Sr59Neutral.step Sr59Neutral.start (cs.map PySr59.whole)) = _
    rw [wholes_is]
end Fc
/-! P16: seeds.py, answers. -/
namespace Fc
open PySem PySem.Spec PyProof.Rows L2 Evl
open Sr59Neutral (callOf)
section
variable {K : PySem.W.Frag} {mg : Str → Option Value}
section
variable {t x : Addr} {H H0 H' : Hp} {o : HO}
theorem ex_del (e : Ex H H') (h : H t = none) : Ex H (del t H') := fun b o q => by
  rw [del_ne (ne_of_none q h)]
  exact e b o q
theorem del_mono (e : Ex H H') : Ex (del t H) (del t H') := fun b o q => by
  obtain ⟨hb, q'⟩ := del_some q
  rw [del_ne hb]
  exact e b o q'
theorem del_upd (h : H t = none) : del t (upd H t o) = H := by
  funext b
  by_cases e : b = t
  · rw [e, del_same, h]
  · rw [del_ne e, upd_ne e]
theorem del_mut : del t (upd H t o) = del t H := by
  funext b
  by_cases e : b = t
  · rw [e, del_same, del_same]
  · rw [del_ne e, del_ne e, upd_ne e]
theorem kb_ex (e : Ex H0 H) (h : H0 x = none) (k : KB x H H') : Ex H0 H' := fun b o q => k b o (ne_of_none q h) (e b o q)
theorem ex_back (hT : H t = some o) (e : Ex (del t H) H') : Ex H (upd H' t o) := fun b u q => by
  by_cases h : b = t
  · rw [h, upd_same, ← hT, ← h]
    exact q
  · rw [upd_ne h]
    exact e b u (by rw [del_ne h]; exact q)
end
section
variable {σ : L2.St} {H : Hp} {D : Ends} {tz : TS} {ta te : TE} {v : V} {l : Addr} {xs zs : List V}
theorem q_appZ (hl : H l = some (.lst xs)) (ha : Ev ta σ H (.ref l)) (h : Ev te σ H v) (hz : xs.length < sizeLine) (k : ∀ H1, Ex H H1 → tz D σ (upd H1 l (.lst (xs ++ [v])))) : tSeq (tDrop (tBM K "list" rAppend ta (tCons te tNil))) tz D σ H := ha H (Ex.refl H) _ fun H1 e1 =>
  ⟨Or.inl ⟨rfl, xs, sq_of (e1 l _ hl)⟩, h H1 e1 _ fun H2 e2 => ⟨l, xs, v, rfl, rfl, e2 l _ (e1 l _ hl), hz, k H2 (e1.trans e2)⟩⟩
theorem s_extZ {b : Addr} (hl : H l = some (.lst xs)) (hb : H b = some (.lst zs)) (ha : Ev ta σ H (.ref l)) (h : Ev te σ H (.ref b)) (hz : xs.length + zs.length ≤ sizeLine) (k : ∀ H1, Ex H H1 → D.nx σ (upd H1 l (.lst (xs ++ zs)))) : tDrop (tBM K "list" rExtend ta (tCons te tNil)) D σ H := ha H (Ex.refl H) _ fun H1 e1 =>
  ⟨Or.inl ⟨rfl, xs, sq_of (e1 l _ hl)⟩, h H1 e1 _ fun H2 e2 => ⟨l, b, xs, zs, rfl, rfl, e2 l _ (e1 l _ hl), e2 b _ (e1 b _ hb), hz, k H2 (e1.trans e2)⟩⟩
theorem q_callA {sp : Sp} {E : XK} {tr : TA} {i : Nat} {vs : List V} (h : EvA tr σ H vs) (k : ∀ H1, Ex H H1 → sp vs H1 (fun v H2 => tz D (σ.set i (some v)) H2) E) : tSeq (tAsg (tCall sp [] E tr) (gName i)) tz D σ H := h H (Ex.refl _) _ fun H1 e => by
  rw [List.append_nil]
  exact k H1 e
end
/-- what holds ahead of each call -/
def WA (K : PySem.W.Frag) (a0 x t : Addr) (l : List Int) (H : Hp) (m : Nat) (σ : L2.St) (H' : Hp) : Prop :=
  ∃ (j : Nat) (st : Sr59.State) (out : List Int) (f : Nat) (cs : List (List (List Int))) (w4 w5 w6 w7 w8 : Option V), σ = [some (.ref a0), some (.ref x), some (.ref t), some (.int j), w4, w5, w6, w7, w8] ∧ m = l.length - j ∧ j ≤ l.length ∧ Ex H H' ∧ H' t = some (.lst (out.map V.int)) ∧
    SeedsAt K (del t H') x st ∧ PyFlat.calls PySr59.shape f (l.drop j) = some cs ∧ (∀ c ∈ cs, Sr59Neutral.asked1 c = true) ∧ out ++ PyFlat.told (PyFlat.played Sr59Neutral.step st cs) = PySr59.answers l
variable (T : Txt K mg)
include T
theorem Txt.nums (H : Hp) : SqT K H (ad K "NUMBERS") (numsL.map V.int) := He.tupB_ok T.tups.2.1 H
theorem Txt.rows (H : Hp) : SqT K H (ad K "ROWS") (rowsL.map V.int) := He.tupB_ok T.tups.2.2.1 H
theorem pu_answers (vs : List V) (H : Hp) (Q : VK) (E : XK) (h : sp_answers K vs H Q E) : t_answers K { nx := fun _ H' => Q .non H', rt := Q } (L2.start ["calls", "seeds", "told", "at", "call", "begin_of_rows", "numbers", "answer", "rows"] vs) H := by
  obtain ⟨_, a0, l, rfl, hl, hz, hask, k⟩ := h
  obtain ⟨cs0, hcs, hok0, hans, hlen⟩ := asked_is hask
  show t_answers K _ [some (.ref a0), none, none, none, none, none, none, none, none] H
  refine fun x dx hx hdx hne => ?_
  refine ⟨rfl, x, dx, rfl, upd_same, fun H1 hS1 kb1 => ⟨rfl, ?_⟩⟩
  have e1 : Ex H H1 := kb_ex (Ex.mut (Ex.new hdx) hx) hx kb1
  refine q_asgL el_nil fun t H2 ht e2 h2 => ?_
  have htH : H t = none := fresh_back e1 ht
  refine q_asg (v := .int 0) ev_c fun H3 e3 => ?_
  refine q_while (WA K a0 x t l H) l.length ⟨0, none, [], l.length, cs0, none, none, none, none, none, rfl, rfl, Nat.zero_le _, (e1.trans e2).trans e3, e3 _ _ h2, hS1.mono (ex_del (e2.trans e3) ht), hcs, hok0, hans.symm⟩ ?_
  rintro m σ H' ⟨j, st, out, f, cs, w4, w5, w6, w7, w8, rfl, rfl, hj, e, hT, hS, hc, hok, hout⟩
  have hla := ex_l e hl
  refine ⟨decide (((j : Nat) : Int) < ((l.length : Nat) : Int)), et_op (g := fun i j => decide (i < j)) (ev_var rfl) (ev_is (ev_len (ev_var rfl) hla) (by rw [List.length_map])), fun hb H4 e4 => ?_, fun hb H4 e4 => ?_⟩
  · have hjl : j < l.length := by
      have := of_decide_eq_true hb
      omega
    obtain ⟨f', q, n, kk, xs, r, cs', hq, hs, hp, hn, hr, rfl, hc'⟩ := calls_step hc hjl
    obtain ⟨hnum, hrow, hk2, hn3⟩ := shape_at q hq n kk hs
    obtain ⟨c, hcc⟩ := shape_call q hq n kk ((l.drop (j + 1)).take n) xs hs (len_row hn) (rows_len hr)
    refine ⟨fun σ2 H2 => ∃ m', m' < l.length - j ∧ WA K a0 x t l H m' σ2 H2, fun _ _ h => h, ?_⟩
    refine q_asg (ev_ixS (j := j) (ev_var rfl) (ev_var rfl) (ex_l e4 hla) (by rw [List.getElem?_map, hp]; rfl)) fun H5 e5 => ?_
    refine q_asg (v := .int ((j + 1 + n : Nat) : Int)) (ev_op0 (ev_op0 (ev_var rfl) ev_c rfl) (ev_ixT (j := q) (v := .int (n : Int)) ev_c (ev_var rfl) (T.nums H5) (by rw [List.getElem?_map, hnum]; rfl)) (congrArg V.int (by push_cast; rfl))) fun H6 e6 => ?_
    have e46 := (e4.trans e5).trans e6
    have sl : EvL (tSl (rSlL K) (tVar 0) (tPart (tOp qAdd (tVar 3) (tC (.int 1)))) (tPart (tVar 5))) [some (.ref a0), some (.ref x), some (.ref t), some (.int j), some (.int (q : Int)), some (.int ((j + 1 + n : Nat) : Int)), w6, w7, w8] H6 (((l.drop (j + 1)).take n).map V.int) := by
      have z := el_sl (K := K) (lo := some ((j + 1 : Nat) : Int)) (hi := some ((j + 1 + n : Nat) : Int)) (σ := [some (.ref a0), some (.ref x), some (.ref t), some (.int j), some (.int (q : Int)), some (.int ((j + 1 + n : Nat) : Int)), w6, w7, w8]) (te := tVar 0) (ev_var rfl) (eo_some (te := tOp qAdd (tVar 3) (tC (.int 1))) (ev_op0 (ev_var rfl) ev_c rfl)) (eo_some (te := tVar 5) (ev_var rfl)) (ex_l e46 hla)
      rw [cut_mid (l.map V.int) (Nat.le_add_right _ _) (by rw [List.length_map]; exact hn), Nat.add_sub_cancel_left, ← List.map_drop, ← List.map_take] at z
      exact z
    refine q_asgL sl fun pn H7 hpn e7 h7 => ?_
    have e47 := e46.trans e7
    have hT7 := e47 _ _ hT
    have hnt : pn ≠ t := fun z => by
      rw [z, e46 _ _ hT] at hpn
      cases hpn
    have hS7 : SeedsAt K (del t H7) x st := hS.mono (del_mono e47)
    have hN7 : IsL (.ref pn) (del t H7) ((l.drop (j + 1)).take n) := ⟨pn, rfl, by
      rw [del_ne hnt]
      exact h7⟩
    have args : EvA (tCons (tVar 0) (tCons (tVar 5) (tCons (tOp (rIxT K) (tC (.ref (ad K "ROWS"))) (tVar 4)) tNil))) [some (.ref a0), some (.ref x), some (.ref t), some (.int j), some (.int (q : Int)), some (.int ((j + 1 + n : Nat) : Int)), some (.ref pn), w7, w8] H7 [.ref a0, .int ((j + 1 + n : Nat) : Int), .int (kk : Int)] :=
      ea_cons (ev_var rfl) (ea_cons (ev_var rfl) (ea_cons (ev_ixT (j := q) (v := .int (kk : Int)) ev_c (ev_var rfl) (T.rows H7) (by rw [List.getElem?_map, hrow]; rfl)) ea_nil))
    have call : EvP (tCall (sp_rows_atH K) [] E0 (tCons (tVar 0) (tCons (tVar 5) (tCons (tOp (rIxT K) (tC (.ref (ad K "ROWS"))) (tVar 4)) tNil)))) [some (.ref a0), some (.ref x), some (.ref t), some (.int j), some (.int (q : Int)), some (.int ((j + 1 + n : Nat) : Int)), some (.ref pn), w7, w8] H7
        (fun v H8 => ∃ (pp : Addr) (ff : V) (j' : Nat), v = .ref pp ∧ H8 pp = some (.tup [ff, .int j']) ∧ IsLL ff (del t H8) xs ∧ j' ≤ l.length ∧ j + 1 + n ≤ j' ∧ l.drop j' = r) := fun H8 e8 Q' k' => args H8 e8 _ fun H9 e9 => by
      rw [List.append_nil]
      have e89 := e8.trans e9
      have hT9 := e89 _ _ hT7
      refine ⟨rfl, t, out.map V.int, hT9, rfl, _, ⟨a0, l, j + 1 + n, kk, xs, r, rfl, ex_l (ex_del ((e.trans e47).trans e89) htH) hl, by omega, hk2, hn, hr, rfl⟩, fun v H10 e10 ⟨pp, ff, j', hv, hpp, hff, h1, h2, h3⟩ h10 => ?_⟩
      refine k' v _ (e9.trans (ex_back hT9 e10)) ⟨pp, ff, j', hv, ?_, ?_, h1, h2, h3⟩
      · rw [upd_ne (fun z => by rw [z, h10] at hpp; cases hpp)]
        exact hpp
      · rw [del_upd h10]
        exact hff
    refine qp_tup2 (K := K) call fun v H8 e8 ⟨pp, ff, j', hv, hpp, hff, hj', hjj, hdr⟩ => ⟨pp, ff, .int j', hv, st_of hpp, ?_⟩
    refine q_callA (vs := [.ref x, .int (q : Int), .ref pn, ff]) (ea_cons (ev_var rfl) (ea_cons (ev_var rfl) (ea_cons (ev_var rfl) (ea_cons (ev_var rfl) ea_nil)))) fun H9 e9 => ?_
    have e89 := e8.trans e9
    have hT9 := e89 _ _ hT7
    refine ⟨rfl, t, out.map V.int, hT9, rfl, x, (q : Int), .ref pn, ff, st, (l.drop (j + 1)).take n, xs, c, rfl, hS7.mono (del_mono e89), hN7.mono (del_mono e89), hff.mono (del_mono e9), asked_len (hok _ List.mem_cons_self), hcc, fun v H10 kb hS' hv h10 => ?_⟩
    obtain ⟨pa, rfl, hpa⟩ := hv
    have hat : pa ≠ t := fun z => by
      rw [z, h10] at hpa
      cases hpa
    rw [played_cons st cs' hcc] at hout
    generalize (Sr59.step st c).1 = st' at hS' hout
    generalize ansI (Sr59.step st c).2 = ans at hpa hout
    have hsz : out.length + 1 + ans.length ≤ 10000000 := by
      rw [← hout, List.length_append, List.length_cons, List.length_append] at hlen
      omega
    have zl : sizeLine = 16777216 := rfl
    have e11 : Ex H (upd H10 t (.lst (out.map V.int))) := Ex.mut (kb_ex (ex_del (((e.trans e47).trans e89)) htH) hx kb) htH
    have hpa11 : upd H10 t (.lst (out.map V.int)) pa = some (.lst (ans.map V.int)) := by
      rw [upd_ne hat]
      exact hpa
    have eS11 : Ex H10 (upd H10 t (.lst (out.map V.int))) := Ex.new h10
    have hT11 : upd H10 t (.lst (out.map V.int)) t = some (.lst (out.map V.int)) := upd_same
    generalize upd H10 t (.lst (out.map V.int)) = H11 at e11 hpa11 eS11 hT11 ⊢
    refine q_appZ (v := .int (ans.length : Int)) hT11 (ev_var rfl) (ev_lenL (ev_var rfl) ⟨pa, rfl, hpa11⟩) (by rw [List.length_map]; omega) fun H12 e12 => ?_
    have hpa13 : upd H12 t (.lst (out.map V.int ++ [.int (ans.length : Int)])) pa = some (.lst (ans.map V.int)) := by
      rw [upd_ne hat]
      exact e12 _ _ hpa11
    have e13 := Ex.mut (o := .lst (out.map V.int ++ [.int (ans.length : Int)])) (e11.trans e12) htH
    have eS13 := Ex.mut (o := .lst (out.map V.int ++ [.int (ans.length : Int)])) (eS11.trans e12) h10
    have hT13 : upd H12 t (.lst (out.map V.int ++ [.int (ans.length : Int)])) t = some (.lst (out.map V.int ++ [.int (ans.length : Int)])) := upd_same
    generalize upd H12 t (.lst (out.map V.int ++ [.int (ans.length : Int)])) = H13 at hpa13 e13 eS13 hT13 ⊢
    refine s_extZ hT13 hpa13 (ev_var rfl) (ev_var rfl) (by rw [List.length_append, List.length_map, List.length_map, List.length_singleton]; omega) fun H14 e14 => ?_
    refine ⟨l.length - j', by omega, j', st', out ++ (ans.length : Int) :: ans, f', cs', _, _, _, _, _, rfl, rfl, hj', Ex.mut (e13.trans e14) htH, upd_same.trans ?_, ?_, by rw [hdr]; exact hc', fun c hc => hok c (List.mem_cons_of_mem _ hc), ?_⟩
    · rw [List.map_append, List.map_cons, List.append_assoc]
      rfl
    · rw [del_mut]
      exact hS'.mono (ex_del (eS13.trans e14) h10)
    · rw [← hout, List.append_assoc]
      rfl
  · have hjl : j = l.length := by
      have := of_decide_eq_false hb
      omega
    rw [hjl, List.drop_length] at hc
    have hcs' : cs = [] := by
      cases f <;> exact (Option.some.inj hc).symm
    subst hcs'
    have hout' : out ++ [] = PySr59.answers l := hout
    rw [List.append_nil] at hout'
    refine s_ret (ev_var rfl) fun H5 e5 => k _ H5 ⟨t, rfl, ?_⟩
    rw [← hout']
    exact e5 _ _ (e4 _ _ hT)
end
end Fc
/-! Z1: every def keeps its promise. Printed by zgen.py. -/
namespace Fc
open PySem PySem.Spec PyProof.Rows L2 Evl
section
variable {P : Program} {w : World} {K : PySem.W.Frag} {mg : Str → Option Value} {base : Heap}
theorem OkA.mono {i j : Nat} {f : Addr} {ps : List Str} {sp : Sp} (F : OkA P w K mg base i f ps sp) (h : i ≤ j) : OkA P w K mg base j f ps sp := by
  obtain ⟨⟨fd, G, b⟩, kp⟩ := F
  exact ⟨⟨fd, G.mono h, b⟩, kp⟩
theorem ok_answer_to (T : Txt K mg) (F_begin : OkF P w K mg base 5 "begin" ["seeds", "numbers", "rows"] (sp_begin K)) (F_mul : OkF P w K mg base 2 "mul" ["seeds", "numbers", "rows"] (sp_mul K)) (F_pow_of : OkF P w K mg base 2 "pow_of" ["seeds", "numbers", "rows"] (sp_pow_of K)) (F_coin : OkF P w K mg base 2 "coin" ["seeds", "numbers", "rows"] (sp_coin K)) (F_row_of : OkF P w K mg base 2 "row_of" ["seeds", "numbers", "rows"] (sp_row_of K)) (F_count : OkF P w K mg base 3 "count" ["seeds", "numbers", "rows"] (sp_count K)) (F_odds : OkF P w K mg base 3 "odds" ["seeds", "numbers", "rows"] (sp_odds K)) (F_all_lie : OkF P w K mg base 4 "all_lie" ["seeds", "numbers", "rows"] (sp_all_lie K)) (F_many_of : OkF P w K mg base 4 "many_of" ["seeds", "numbers", "rows"] (sp_many_of K)) (F_drop : OkF P w K mg base 2 "drop" ["seeds", "numbers", "rows"] (sp_drop K)) (F_want : OkF P w K mg base 1 "want" ["seeds", "numbers", "rows"] (sp_want K)) (F_means : OkF P w K mg base 5 "means" ["seeds", "numbers", "rows"] (sp_means K)) (F_worth : OkF P w K mg base 3 "worth" ["seeds", "numbers", "rows"] (sp_worth K)) (F_best : OkF P w K mg base 3 "best" ["seeds", "numbers", "rows"] (sp_best K)) (F_chances : OkF P w K mg base 4 "chances" ["seeds", "numbers", "rows"] (sp_chances K)) (F_size : OkF P w K mg base 1 "size" ["seeds", "numbers", "rows"] (sp_size K)) : OkF P w K mg base 6 "answer_to" ["seeds", "call", "numbers", "rows"] (sp_answer_to K) :=
  okFx 50 50 T rfl rfl sc_answer_to (fun vs H Q E h => h.1) (fun _ _ _ _ _ _ us hl => match us, hl with | [_, _, _, _], _ => rfl) fun f cdv A outer s H vs Q E hr h => by
    obtain ⟨_, a, p, nv, rv, st, ns, rs, c, rfl, hS, hn, hrw, hz, hc, k⟩ := h
    obtain ⟨q, hq, rfl⟩ := call_in hc
    obtain ⟨fA, hf, G⟩ : ∃ fA : Addr, ([.ref (ad K "begin"), .ref (ad K "mul"), .ref (ad K "pow_of"), .ref (ad K "coin"), .ref (ad K "row_of"), .ref (ad K "count"), .ref (ad K "odds"), .ref (ad K "all_lie"), .ref (ad K "many_of"), .ref (ad K "drop"), .ref (ad K "want"), .ref (ad K "means"), .ref (ad K "worth"), .ref (ad K "best"), .ref (ad K "chances"), .ref (ad K "size")] : List V)[q]? = some (.ref fA) ∧ OkA P w K mg base 5 fA ["seeds", "numbers", "rows"] (sp_deed K (q : Int)) :=
      lt16 (P := fun q => ∃ fA : Addr, ([.ref (ad K "begin"), .ref (ad K "mul"), .ref (ad K "pow_of"), .ref (ad K "coin"), .ref (ad K "row_of"), .ref (ad K "count"), .ref (ad K "odds"), .ref (ad K "all_lie"), .ref (ad K "many_of"), .ref (ad K "drop"), .ref (ad K "want"), .ref (ad K "means"), .ref (ad K "worth"), .ref (ad K "best"), .ref (ad K "chances"), .ref (ad K "size")] : List V)[q]? = some (.ref fA) ∧ OkA P w K mg base 5 fA ["seeds", "numbers", "rows"] (sp_deed K (q : Int)))
        ⟨_, rfl, F_begin.a.mono (by decide)⟩ ⟨_, rfl, F_mul.a.mono (by decide)⟩ ⟨_, rfl, F_pow_of.a.mono (by decide)⟩ ⟨_, rfl, F_coin.a.mono (by decide)⟩ ⟨_, rfl, F_row_of.a.mono (by decide)⟩ ⟨_, rfl, F_count.a.mono (by decide)⟩ ⟨_, rfl, F_odds.a.mono (by decide)⟩ ⟨_, rfl, F_all_lie.a.mono (by decide)⟩ ⟨_, rfl, F_many_of.a.mono (by decide)⟩ ⟨_, rfl, F_drop.a.mono (by decide)⟩ ⟨_, rfl, F_want.a.mono (by decide)⟩ ⟨_, rfl, F_means.a.mono (by decide)⟩ ⟨_, rfl, F_worth.a.mono (by decide)⟩ ⟨_, rfl, F_best.a.mono (by decide)⟩ ⟨_, rfl, F_chances.a.mono (by decide)⟩ ⟨_, rfl, F_size.a.mono (by decide)⟩ q hq
    exact ⟨t_answer_to fA (sp_deed K (q : Int)) K, dv_answer_to T fA (sp_deed K (q : Int)) G f cdv A outer s H E hr, pu_answer_at T H Q q fA hf a nv rv st ns rs c hS hn hrw hz hc k⟩
theorem ok_below (T : Txt K mg) : OkA P w K mg base 1 (He.ma K (ad K "Seeds") "__init__") ["self"] (sp_Seeds__init__ K) ∧ OkF P w K mg base 6 "answer_to" ["seeds", "call", "numbers", "rows"] (sp_answer_toH K) ∧ OkF P w K mg base 1 "rows_at" ["calls", "at", "many"] (sp_rows_atH K) := by
  have F_Seeds := ok_Seeds__init__ (P := P) (w := w) (base := base) T  (fun vs H Q E h => by first | exact pu_Seeds__init__ vs H Q E h | exact pu_Seeds__init__ T vs H Q E h)
  have F_doubled := ok_doubled (P := P) (w := w) (base := base) T  (fun vs H Q E h => by first | exact pu_doubled vs H Q E h | exact pu_doubled T vs H Q E h)
  have F_product := ok_product (P := P) (w := w) (base := base) T F_doubled (fun vs H Q E h => by first | exact pu_product vs H Q E h | exact pu_product T vs H Q E h)
  have F_all_products := ok_all_products (P := P) (w := w) (base := base) T F_product (fun vs H Q E h => by first | exact pu_all_products vs H Q E h | exact pu_all_products T vs H Q E h)
  have F_is_odd_in_both := ok_is_odd_in_both (P := P) (w := w) (base := base) T  (fun vs H Q E h => by first | exact pu_is_odd_in_both vs H Q E h | exact pu_is_odd_in_both T vs H Q E h)
  have F_power := ok_power (P := P) (w := w) (base := base) T  (fun vs H Q E h => by first | exact pu_power vs H Q E h | exact pu_power T vs H Q E h)
  have F_faint_coin := ok_faint_coin (P := P) (w := w) (base := base) T F_is_odd_in_both F_power (fun vs H Q E h => by first | exact pu_faint_coin vs H Q E h | exact pu_faint_coin T vs H Q E h)
  have F_plain_coin := ok_plain_coin (P := P) (w := w) (base := base) T  (fun vs H Q E h => by first | exact pu_plain_coin vs H Q E h | exact pu_plain_coin T vs H Q E h)
  have F_coins_of := ok_coins_of (P := P) (w := w) (base := base) T F_faint_coin F_plain_coin (fun vs H Q E h => by first | exact pu_coins_of vs H Q E h | exact pu_coins_of T vs H Q E h)
  have F_numbers_of := ok_numbers_of (P := P) (w := w) (base := base) T  (fun vs H Q E h => by first | exact pu_numbers_of vs H Q E h | exact pu_numbers_of T vs H Q E h)
  have F_all_rows := ok_all_rows (P := P) (w := w) (base := base) T F_coins_of F_numbers_of (fun vs H Q E h => by first | exact pu_all_rows vs H Q E h | exact pu_all_rows T vs H Q E h)
  have F_can_begin := ok_can_begin (P := P) (w := w) (base := base) T  (fun vs H Q E h => by first | exact pu_can_begin vs H Q E h | exact pu_can_begin T vs H Q E h)
  have F_begin := ok_begin (P := P) (w := w) (base := base) T F_all_products F_all_rows F_can_begin (fun vs H Q E h => by first | exact pu_begin vs H Q E h | exact pu_begin T vs H Q E h)
  have F_is_in := ok_is_in (P := P) (w := w) (base := base) T  (fun vs H Q E h => by first | exact pu_is_in vs H Q E h | exact pu_is_in T vs H Q E h)
  have F_mul := ok_mul (P := P) (w := w) (base := base) T F_is_in (fun vs H Q E h => by first | exact pu_mul vs H Q E h | exact pu_mul T vs H Q E h)
  have F_pow_of := ok_pow_of (P := P) (w := w) (base := base) T F_is_in F_power (fun vs H Q E h => by first | exact pu_pow_of vs H Q E h | exact pu_pow_of T vs H Q E h)
  have F_coin := ok_coin (P := P) (w := w) (base := base) T F_is_in (fun vs H Q E h => by first | exact pu_coin vs H Q E h | exact pu_coin T vs H Q E h)
  have F_row_of := ok_row_of (P := P) (w := w) (base := base) T F_is_in (fun vs H Q E h => by first | exact pu_row_of vs H Q E h | exact pu_row_of T vs H Q E h)
  have F_is_rising := ok_is_rising (P := P) (w := w) (base := base) T  (fun vs H Q E h => by first | exact pu_is_rising vs H Q E h | exact pu_is_rising T vs H Q E h)
  have F_are_coins := ok_are_coins (P := P) (w := w) (base := base) T F_is_in F_is_rising (fun vs H Q E h => by first | exact pu_are_coins vs H Q E h | exact pu_are_coins T vs H Q E h)
  have F_how_many_lie := ok_how_many_lie (P := P) (w := w) (base := base) T  (fun vs H Q E h => by first | exact pu_how_many_lie vs H Q E h | exact pu_how_many_lie T vs H Q E h)
  have F_count := ok_count (P := P) (w := w) (base := base) T F_are_coins F_how_many_lie (fun vs H Q E h => by first | exact pu_count vs H Q E h | exact pu_count T vs H Q E h)
  have F_how_many_odd := ok_how_many_odd (P := P) (w := w) (base := base) T  (fun vs H Q E h => by first | exact pu_how_many_odd vs H Q E h | exact pu_how_many_odd T vs H Q E h)
  have F_odds := ok_odds (P := P) (w := w) (base := base) T F_are_coins F_how_many_odd (fun vs H Q E h => by first | exact pu_odds vs H Q E h | exact pu_odds T vs H Q E h)
  have F_Term := ok_Term__init__ (P := P) (w := w) (base := base) T  (fun vs H Q E h => by first | exact pu_Term__init__ vs H Q E h | exact pu_Term__init__ T vs H Q E h)
  have F_all_term := ok_all_term (P := P) (w := w) (base := base) T F_Term (fun vs H Q E h => by first | exact pu_all_term vs H Q E h | exact pu_all_term T vs H Q E h)
  have F_is_lie := ok_is_lie (P := P) (w := w) (base := base) T F_is_in (fun vs H Q E h => by first | exact pu_is_lie vs H Q E h | exact pu_is_lie T vs H Q E h)
  have F_is_weight := ok_is_weight (P := P) (w := w) (base := base) T  (fun vs H Q E h => by first | exact pu_is_weight vs H Q E h | exact pu_is_weight T vs H Q E h)
  have F_put := ok_put (P := P) (w := w) (base := base) T  (fun vs H Q E h => by first | exact pu_put vs H Q E h | exact pu_put T vs H Q E h)
  have F_all_lie := ok_all_lie (P := P) (w := w) (base := base) T F_all_term F_is_lie F_is_weight F_put (fun vs H Q E h => by first | exact pu_all_lie vs H Q E h | exact pu_all_lie T vs H Q E h)
  have F_many_term := ok_many_term (P := P) (w := w) (base := base) T F_Term (fun vs H Q E h => by first | exact pu_many_term vs H Q E h | exact pu_many_term T vs H Q E h)
  have F_many_of := ok_many_of (P := P) (w := w) (base := base) T F_are_coins F_is_weight F_many_term F_put (fun vs H Q E h => by first | exact pu_many_of vs H Q E h | exact pu_many_of T vs H Q E h)
  have F_drop := ok_drop (P := P) (w := w) (base := base) T F_is_in (fun vs H Q E h => by first | exact pu_drop vs H Q E h | exact pu_drop T vs H Q E h)
  have F_want := ok_want (P := P) (w := w) (base := base) T  (fun vs H Q E h => by first | exact pu_want vs H Q E h | exact pu_want T vs H Q E h)
  have F_is_so := ok_is_so (P := P) (w := w) (base := base) T  (fun vs H Q E h => by first | exact pu_is_so vs H Q E h | exact pu_is_so T vs H Q E h)
  have F_worth_of := ok_worth_of (P := P) (w := w) (base := base) T F_is_so (fun vs H Q E h => by first | exact pu_worth_of vs H Q E h | exact pu_worth_of T vs H Q E h)
  have F_seeds_mean := ok_seeds_mean (P := P) (w := w) (base := base) T F_worth_of (fun vs H Q E h => by first | exact pu_seeds_mean vs H Q E h | exact pu_seeds_mean T vs H Q E h)
  have F_shared := ok_shared (P := P) (w := w) (base := base) T  (fun vs H Q E h => by first | exact pu_shared vs H Q E h | exact pu_shared T vs H Q E h)
  have F_told_fraction := ok_told_fraction (P := P) (w := w) (base := base) T F_shared (fun vs H Q E h => by first | exact pu_told_fraction vs H Q E h | exact pu_told_fraction T vs H Q E h)
  have F_coins_looked_at := ok_coins_looked_at (P := P) (w := w) (base := base) T  (fun vs H Q E h => by first | exact pu_coins_looked_at vs H Q E h | exact pu_coins_looked_at T vs H Q E h)
  have F_ways_to_choose := ok_ways_to_choose (P := P) (w := w) (base := base) T  (fun vs H Q E h => by first | exact pu_ways_to_choose vs H Q E h | exact pu_ways_to_choose T vs H Q E h)
  have F_ways_of_true := ok_ways_of_true (P := P) (w := w) (base := base) T F_coins_looked_at F_ways_to_choose (fun vs H Q E h => by first | exact pu_ways_of_true vs H Q E h | exact pu_ways_of_true T vs H Q E h)
  have F_true_chance := ok_true_chance (P := P) (w := w) (base := base) T F_coins_looked_at F_ways_of_true (fun vs H Q E h => by first | exact pu_true_chance vs H Q E h | exact pu_true_chance T vs H Q E h)
  have F_true_mean := ok_true_mean (P := P) (w := w) (base := base) T F_true_chance (fun vs H Q E h => by first | exact pu_true_mean vs H Q E h | exact pu_true_mean T vs H Q E h)
  have F_means := ok_means (P := P) (w := w) (base := base) T F_seeds_mean F_told_fraction F_true_mean (fun vs H Q E h => by first | exact pu_means vs H Q E h | exact pu_means T vs H Q E h)
  have F_worth := ok_worth (P := P) (w := w) (base := base) T F_is_in F_worth_of (fun vs H Q E h => by first | exact pu_worth vs H Q E h | exact pu_worth T vs H Q E h)
  have F_best := ok_best (P := P) (w := w) (base := base) T F_worth_of (fun vs H Q E h => by first | exact pu_best vs H Q E h | exact pu_best T vs H Q E h)
  have F_seeds_chance := ok_seeds_chance (P := P) (w := w) (base := base) T F_is_so (fun vs H Q E h => by first | exact pu_seeds_chance vs H Q E h | exact pu_seeds_chance T vs H Q E h)
  have F_chances := ok_chances (P := P) (w := w) (base := base) T F_coins_looked_at F_is_in F_seeds_chance F_told_fraction F_true_chance (fun vs H Q E h => by first | exact pu_chances vs H Q E h | exact pu_chances T vs H Q E h)
  have F_size := ok_size (P := P) (w := w) (base := base) T  (fun vs H Q E h => by first | exact pu_size vs H Q E h | exact pu_size T vs H Q E h)
  have F_answer_to := ok_answer_to (P := P) (w := w) (base := base) T F_begin F_mul F_pow_of F_coin F_row_of F_count F_odds F_all_lie F_many_of F_drop F_want F_means F_worth F_best F_chances F_size
  have F_answer_toH := F_answer_to.hide (n := 4) rfl
  have F_rows_at := ok_rows_at (P := P) (w := w) (base := base) T  (fun vs H Q E h => by first | exact pu_rows_at vs H Q E h | exact pu_rows_at T vs H Q E h)
  have F_rows_atH := F_rows_at.hide (n := 3) rfl
  exact ⟨F_Seeds, F_answer_toH, F_rows_atH⟩
end
end Fc
/-! Z2: the end. -/
namespace Fc
open PySem PySem.Spec PyProof.Rows L2 Evl
open PySem.W (Codec WData)
section
variable {P : Program} {w : World} {K : PySem.W.Frag} {mg : Str → Option Value}
theorem ok_end (T : Txt K mg) : ∃ fd : FuncData, (∀ (s : Shared) (us : List Value), us.length = (["calls"] : List Str).length → BindsTo s fd ⟨us, []⟩ ((["calls"] : List Str).zip us)) ∧ ∀ base : Heap, FnOk P w K mg base CX0 7 (ad K "answers") fd ["calls"] (sp_answers K) := by
  obtain ⟨fd, F⟩ := T.says.d.def_ 52 rfl
  refine ⟨fd, FunD.bindsA F fun _ _ _ _ _ _ us hl => match us, hl with | [_], _ => rfl, fun base => FunD.ok F sc_answers (fun vs H Q E h => h.1) fun cdv A outer s H vs Q E hr h => ⟨t_answers K, ?_, pu_answers T vs H Q E h⟩⟩
  obtain ⟨F1, F2, F3⟩ := ok_below (P := P) (w := w) (base := base) T
  exact (dv_answers T F1 F2 F3 _ cdv A outer s H E hr).nox
end
theorem call : PySem.W.WalkOS (PySem.W.view R.prog [75]) names (PySem.W.XL (PySem.W.view R.prog [75]) []) hk.says R (HandSHeadRun.topDef R.prog 75) [] fun f vs => PySem.call f vs := by
  intro w s₀ s₁ mg mb G Y
  obtain ⟨K, KX, S⟩ := Y
  refine L2.walk_specK (r := R) (K := fun _ => K) (YP := fun _ h => K.In h ∧ SaysF K) (k := 7) (CX := CX0) (ps := ["calls"]) (sp := sp_answers) (by decide +kernel) rfl rfl ⟨rfl, by decide, by decide⟩ (fun w h Y => Y.1) ?_ ?_ (fun _ _ _ _ z => z) w s₀ s₁ mg mb G ⟨KX, S⟩
  · intro w mg fa h Y KX G hmg
    have T : Txt K mg := ⟨Y.2, h, KX, G⟩
    have g : mg "answers" = some (.ref (ad K "answers")) := T.glo 52
    have hx : (HandSHeadRun.topDef R.prog 75).name = ("answers" : PySem.Str) := by kernel_rfl
    rw [hx, g] at hmg
    cases hmg
    obtain ⟨fd, hb, hF⟩ := ok_end (P := R.prog) (w := w) T
    exact ⟨fd, hb, fun base _ _ => hF base⟩
  · intro K H xs a hO hwi hask hx
    cases hx with
    | cons h1 h2 =>
      cases h2
      cases h1 with
      | lst hs ha =>
        have e := L2.ints_dw a.1 _ ha
        subst e
        have q : ((Codec.inLen 0 8600 a.1 && a.1.all (Codec.inInt (Int.negSucc 2147483647) (Int.ofNat 2147483647))) && true) = true := hwi
        rw [Bool.and_eq_true, Bool.and_eq_true] at q
        refine ⟨rfl, _, a.1, rfl, hs, (Codec.inNat_iff.mp q.1.1).2, hask, fun v H' ⟨p, hv, hp⟩ => ?_⟩
        subst hv
        exact .lst (L2.SqL.of hp) (L2.dw_ints _)
end Fc
open PySem PySem.W PyProof.Rows
set_option maxRecDepth 100000 in
set_option maxHeartbeats 8000000 in
theorem PySem.Challenge.cw_fewcoins_s01_answers_holds : PySem.Challenge.rw_fewcoins_s01_answers.Holds := by
  w_on
  exact HandSHeadRun.head_spec (r := Fc.R) (q := view Fc.R.prog [75]) (H := Fc.hk) (ob := Fc.ob) (M := 4000) (loose := Fc.names) (d := HandSHeadRun.topDef Fc.R.prog 75) (kwd := []) Fc.ob_eq
    (by kernel_rfl) (fun s => by kernel_rfl) Fc.run (by kernel_rfl) (by kernel_rfl) (by kernel_rfl) (fun as h => os_shapes as h) (by decide +kernel) (by decide +kernel) ⟨rfl, rfl, rfl, rfl, rfl, by decide +kernel⟩
    ⟨[.list [.int 15]], by decide +kernel, by decide +kernel⟩ Fc.call
