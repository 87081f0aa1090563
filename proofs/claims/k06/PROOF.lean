import PyProof.Rows.All
import Wide.All
import OpenK.AllK
import Wide.FinOn
import HandS.Base
import HandS.Call
import HandS.List
import HandS.Comp
import HandS.Ends
import HandS.Dict
import HandS.Iter
import HandS.Words
import HandS.WordsList
import HandS.NoneIn
import HandS.Wide
import HandS.Defaults
import HandS.IsInst
import HandS.Head0
import HandS.Head1
import HandS.Head2
import HandS.HeadEnd
import HandS.HeadHook1
import HandS.HeadHook2
import PySem.Challenge.RW_truealmanac_k06_whole_changes_and_papers
set_option Elab.async false
set_option linter.all false
set_option maxRecDepth 100000
/-! The mathematics of the almanac's quantities: plain Lean, no program. -/
namespace Ta
/-! ### waves -/
def arch (u : Int) : Int := 1000000 * u * (3 * 324000 * 324000 - u * u) / (2 * 324000 * 324000 * 324000)
def wave (x : Int) : Int :=
  if x % 1296000 / 324000 = 0 then arch (x % 1296000 % 324000)
  else if x % 1296000 / 324000 = 1 then arch (324000 - x % 1296000 % 324000)
  else if x % 1296000 / 324000 = 2 then -arch (x % 1296000 % 324000)
  else -arch (324000 - x % 1296000 % 324000)
/-- the exact numerator of the arch -/
def fN (u : Int) : Int := 1000000 * u * (3 * 324000 * 324000 - u * u)
theorem fN_step (u : Int) : fN (u + 1) - fN u = 1000000 * (3 * 324000 * 324000 - (3 * (u * u) + 3 * u + 1)) := by
  unfold fN; grind
theorem fN_up {u : Int} (h0 : 0 ≤ u) (h1 : u < 324000) : 0 ≤ fN (u + 1) - fN u ∧ fN (u + 1) - fN u ≤ 314928000000000000 := by
  rw [fN_step]
  have a : 0 ≤ u * u := Int.mul_nonneg h0 h0
  have b : u * u ≤ 323999 * u := Int.mul_le_mul_of_nonneg_right (by omega) h0
  omega
theorem fN_top (u : Int) : 68024448000000000000000 - fN u = 1000000 * ((324000 - u) * (324000 - u) * (648000 + u)) := by
  unfold fN; grind
theorem fN_range {u : Int} (h0 : 0 ≤ u) (h1 : u ≤ 324000) : 0 ≤ fN u ∧ fN u ≤ 68024448000000000000000 := by
  constructor
  · unfold fN
    have b : u * u ≤ 324000 * u := Int.mul_le_mul_of_nonneg_right h1 h0
    exact Int.mul_nonneg (by omega) (by omega)
  · have e := fN_top u
    have c : 0 ≤ (324000 - u) * (324000 - u) * (648000 + u) := Int.mul_nonneg (Int.mul_nonneg (by omega) (by omega)) (by omega)
    omega
/-- the signed numerator of the wave -/
def wN (x : Int) : Int :=
  if x % 1296000 / 324000 = 0 then fN (x % 1296000 % 324000)
  else if x % 1296000 / 324000 = 1 then fN (324000 - x % 1296000 % 324000)
  else if x % 1296000 / 324000 = 2 then -fN (x % 1296000 % 324000)
  else -fN (324000 - x % 1296000 % 324000)
/-- division towards zero by M = 2 q^3 -/
def tz (a : Int) : Int := if 0 ≤ a then a / 68024448000000000 else -(-a / 68024448000000000)
theorem tz_neg {a : Int} (h : 0 ≤ a) : tz (-a) = -(a / 68024448000000000) := by
  unfold tz
  by_cases e : a = 0
  · subst e; decide
  · rw [if_neg (by omega), Int.neg_neg]
theorem tz_pos {a : Int} (h : 0 ≤ a) : tz a = a / 68024448000000000 := by
  unfold tz; rw [if_pos h]
theorem arch_fN (u : Int) : arch u = fN u / 68024448000000000 := by
  unfold arch fN; rfl
theorem wave_tz (x : Int) : wave x = tz (wN x) := by
  have hr0 : 0 ≤ x % 1296000 := by omega
  have hu : 0 ≤ x % 1296000 % 324000 ∧ x % 1296000 % 324000 < 324000 := by omega
  have h1 := fN_range (u := x % 1296000 % 324000) hu.1 (by omega)
  have h2 := fN_range (u := 324000 - x % 1296000 % 324000) (by omega) (by omega)
  unfold wave wN
  split
  · rw [tz_pos h1.1, arch_fN]
  · split
    · rw [tz_pos h2.1, arch_fN]
    · split
      · rw [tz_neg h1.1, arch_fN]
      · rw [tz_neg h2.1, arch_fN]
theorem wN_step (x : Int) : -314928000000000000 ≤ wN (x + 1) - wN x ∧ wN (x + 1) - wN x ≤ 314928000000000000 := by
  have hu : 0 ≤ x % 1296000 % 324000 ∧ x % 1296000 % 324000 < 324000 := by omega
  have z : fN 0 = 0 := by decide
  by_cases hin : x % 1296000 % 324000 < 323999
  · have ek : (x + 1) % 1296000 / 324000 = x % 1296000 / 324000 := by omega
    have eu : (x + 1) % 1296000 % 324000 = x % 1296000 % 324000 + 1 := by omega
    have s1 := fN_up (u := x % 1296000 % 324000) hu.1 hu.2
    have s2 := fN_up (u := 324000 - (x % 1296000 % 324000 + 1)) (by omega) (by omega)
    have e2 : 324000 - (x % 1296000 % 324000 + 1) + 1 = 324000 - x % 1296000 % 324000 := by omega
    rw [e2] at s2
    unfold wN
    rw [ek, eu]
    split
    · omega
    · split
      · omega
      · split <;> omega
  · have e0 : x % 1296000 % 324000 = 323999 := by omega
    have eu : (x + 1) % 1296000 % 324000 = 0 := by omega
    have s1 := fN_up (u := 323999) (by decide) (by decide)
    have s2 := fN_up (u := 0) (by decide) (by decide)
    rw [show (323999 : Int) + 1 = 324000 by decide] at s1
    rw [show (0 : Int) + 1 = 1 by decide, z] at s2
    have hk : x % 1296000 / 324000 = 0 ∨ x % 1296000 / 324000 = 1 ∨ x % 1296000 / 324000 = 2 ∨ x % 1296000 / 324000 = 3 := by omega
    unfold wN
    rw [eu, e0]
    rcases hk with k | k | k | k
    · have k2 : (x + 1) % 1296000 / 324000 = 1 := by omega
      rw [k, k2]; simp only [if_true, Int.sub_zero]
      rw [if_neg (by decide)]; omega
    · have k2 : (x + 1) % 1296000 / 324000 = 2 := by omega
      rw [k, k2, z]; simp only [if_true]
      rw [if_neg (by decide), if_neg (by decide), if_neg (by decide)]
      rw [show (324000 : Int) - 323999 = 1 by decide]; omega
    · have k2 : (x + 1) % 1296000 / 324000 = 3 := by omega
      rw [k, k2]; simp only [if_true, Int.sub_zero]
      rw [if_neg (by decide), if_neg (by decide), if_neg (by decide), if_neg (by decide), if_neg (by decide)]; omega
    · have k2 : (x + 1) % 1296000 / 324000 = 0 := by omega
      rw [k, k2, z]; simp only [if_true]
      rw [if_neg (by decide), if_neg (by decide), if_neg (by decide)]
      rw [show (324000 : Int) - 323999 = 1 by decide]; omega
theorem wN_lip (x : Int) : ∀ n : Nat, -(314928000000000000 * (n : Int)) ≤ wN (x + n) - wN x ∧ wN (x + n) - wN x ≤ 314928000000000000 * (n : Int)
  | 0 => by simp
  | n + 1 => by
    have h := wN_lip x n
    have s := wN_step (x + n)
    have e : x + ((n + 1 : Nat) : Int) = x + n + 1 := by omega
    rw [e]
    have e2 : 314928000000000000 * ((n + 1 : Nat) : Int) = 314928000000000000 * (n : Int) + 314928000000000000 := by omega
    rw [e2]
    omega
def wreach (d : Int) : Int := if d = 0 then 0 else 125 * d / 27 + 1
theorem tz_lip {a b d : Int} (hd : 0 ≤ d) (h1 : a - b ≤ 314928000000000000 * d) (h2 : b - a ≤ 314928000000000000 * d) : tz a - tz b ≤ 125 * d / 27 + 1 ∧ tz b - tz a ≤ 125 * d / 27 + 1 := by
  unfold tz
  split <;> split <;> omega
theorem wave_lip1 {x y d : Int} (h1 : x ≤ y) (h2 : y - x ≤ d) (h3 : d ≠ 0) : wave y - wave x ≤ 125 * d / 27 + 1 ∧ wave x - wave y ≤ 125 * d / 27 + 1 := by
  have l := wN_lip x (y - x).toNat
  have e : x + ((y - x).toNat : Int) = y := by omega
  rw [e] at l
  rw [wave_tz, wave_tz]
  exact tz_lip (by omega) (by omega) (by omega)
theorem wave_lip {x y d : Int} (h1 : x - y ≤ d) (h2 : y - x ≤ d) : wave x - wave y ≤ wreach d ∧ wave y - wave x ≤ wreach d := by
  unfold wreach
  by_cases e : d = 0
  · have exy : x = y := by omega
    subst exy
    rw [if_pos e]; omega
  · rw [if_neg e]
    by_cases o : x ≤ y
    · have q := wave_lip1 o h2 e
      exact ⟨q.2, q.1⟩
    · exact wave_lip1 (x := y) (y := x) (by omega) h1 e
theorem wave_size (x : Int) : -1000000 ≤ wave x ∧ wave x ≤ 1000000 := by
  have hu : 0 ≤ x % 1296000 % 324000 ∧ x % 1296000 % 324000 < 324000 := by omega
  have h1 := fN_range (u := x % 1296000 % 324000) hu.1 (by omega)
  have h2 := fN_range (u := 324000 - x % 1296000 % 324000) (by omega) (by omega)
  unfold wave
  rw [arch_fN, arch_fN]
  split
  · omega
  · split
    · omega
    · split <;> omega
/-- the law's own wave -/
def lwave (x : Int) : Int :=
  if 648000 ≤ x % 1296000 then -arch (if 1296000 - x % 1296000 < x % 1296000 - 648000 then 1296000 - x % 1296000 else x % 1296000 - 648000)
  else arch (if 648000 - x % 1296000 < x % 1296000 then 648000 - x % 1296000 else x % 1296000)
theorem lwave_eq (x : Int) : lwave x = wave x := by
  have a1 : (if 648000 - x % 1296000 < x % 1296000 then 648000 - x % 1296000 else x % 1296000) = (if x % 1296000 / 324000 = 0 then x % 1296000 % 324000 else 324000 - x % 1296000 % 324000) ∨ 648000 ≤ x % 1296000 := by
    split <;> split <;> omega
  have a2 : (if 1296000 - x % 1296000 < x % 1296000 - 648000 then 1296000 - x % 1296000 else x % 1296000 - 648000) = (if x % 1296000 / 324000 = 2 then x % 1296000 % 324000 else 324000 - x % 1296000 % 324000) ∨ x % 1296000 < 648000 := by
    split <;> split <;> omega
  unfold lwave wave
  by_cases h : 648000 ≤ x % 1296000
  · rcases a2 with a2 | a2
    · rw [if_pos h, a2, if_neg (show ¬ x % 1296000 / 324000 = 0 by omega), if_neg (show ¬ x % 1296000 / 324000 = 1 by omega)]
      split <;> rfl
    · omega
  · rcases a1 with a1 | a1
    · rw [if_neg h, a1]
      by_cases k : x % 1296000 / 324000 = 0
      · rw [if_pos k, if_pos k]
      · rw [if_neg k, if_neg k, if_pos (show x % 1296000 / 324000 = 1 by omega)]
    · omega
end Ta

/-! Expressions: values, most, reach; soundness, monotony, sizes. -/
namespace Ta
inductive E where
  | num (n : Int) | wave (a : E) | sum (ps : List E) | share (q : E) (n d : Int) | prod (q r : E) (d : Int) | later (q : E) (n : Int)
  | turn (s n d : Int) | moved (a q : E) | minus (a b : E)
def ab (n : Int) : Int := if n < 0 then -n else n
def up (x d : Int) : Int := -(-x / d)
def mn (x y : Int) : Int := if y < x then y else x
mutual
def val : E → Int → Int
  | .num n, _ => n
  | .wave a, t => Ta.wave (val a t)
  | .sum ps, t => valL ps t
  | .share q n d, t => val q t * n / d
  | .prod q r d, t => val q t * val r t / d
  | .later q n, t => val q (t + n)
  | .turn s n d, t => s + n * t / d
  | .moved a q, t => val a t + val q t
  | .minus a b, t => val a t - val b t
def valL : List E → Int → Int
  | [], _ => 0
  | p :: ps, t => val p t + valL ps t
end
mutual
def most : E → Int
  | .num n => ab n
  | .wave _ => 1000000
  | .sum ps => mostL ps
  | .share q n d => up (most q * ab n) d
  | .prod q r d => up (most q * most r) d
  | .later q _ => most q
  | .turn _ _ _ => 0
  | .moved _ _ => 0
  | .minus _ _ => 0
def mostL : List E → Int
  | [] => 0
  | p :: ps => most p + mostL ps
end
mutual
def reach : E → Int → Int
  | .num n, _ => mn 0 (2 * ab n)
  | .wave a, k => mn (wreach (reach a k)) 2000000
  | .sum ps, k => mn (reachL ps k) (2 * mostL ps)
  | .share q n d, k => mn (up (reach q k * ab n) d) (2 * up (most q * ab n) d)
  | .prod q r d, k => mn (up (most q * reach r k + most r * reach q k) d) (2 * up (most q * most r) d)
  | .later q _, k => mn (reach q k) (2 * most q)
  | .turn _ n d, k => up (ab n * k) d
  | .moved a q, k => reach a k + reach q k
  | .minus a b, k => reach a k + reach b k
def reachL : List E → Int → Int
  | [], _ => 0
  | p :: ps, k => reach p k + reachL ps k
end
/-- a quantity (false) or an angle (true), at most n deep, within its bounds -/
def Ok : Nat → Bool → E → Prop
  | 0, _, _ => False
  | _ + 1, false, .num k => -1000000000000 ≤ k ∧ k ≤ 1000000000000
  | n + 1, false, .wave a => Ok n true a
  | n + 1, false, .sum ps => 1 ≤ ps.length ∧ ps.length ≤ 4 ∧ ∀ p ∈ ps, Ok n false p
  | n + 1, false, .share q m d => Ok n false q ∧ (-1000000000000 ≤ m ∧ m ≤ 1000000000000) ∧ 1 ≤ d ∧ d ≤ 1000000000000
  | n + 1, false, .prod q r d => Ok n false q ∧ Ok n false r ∧ 1 ≤ d ∧ d ≤ 1000000000000
  | n + 1, false, .later q _ => Ok n false q
  | _ + 1, true, .turn _ m d => (-1000000000000 ≤ m ∧ m ≤ 1000000000000) ∧ 1 ≤ d ∧ d ≤ 1000000000000
  | n + 1, true, .moved a q => Ok n true a ∧ Ok n false q
  | n + 1, true, .minus a b => Ok n true a ∧ Ok n true b
  | _ + 1, _, _ => False
/-! ### rounding -/
theorem ab_nn (n : Int) : 0 ≤ ab n := by unfold ab; split <;> omega
theorem ab_le {n m : Int} (h1 : -m ≤ n) (h2 : n ≤ m) : ab n ≤ m := by unfold ab; split <;> omega
theorem ab_ge (n : Int) : -(ab n) ≤ n ∧ n ≤ ab n := by unfold ab; split <;> omega
theorem mn_le1 (x y : Int) : mn x y ≤ x := by unfold mn; split <;> omega
theorem mn_le2 (x y : Int) : mn x y ≤ y := by unfold mn; split <;> omega
theorem le_mn {x y z : Int} (h1 : z ≤ x) (h2 : z ≤ y) : z ≤ mn x y := by unfold mn; split <;> assumption
theorem mn_mono {x x' y : Int} (h : x ≤ x') : mn x y ≤ mn x' y := by unfold mn; split <;> split <;> omega
theorem up_spec {x d : Int} (hd : 0 < d) : x ≤ up x d * d ∧ up x d * d < x + d := by
  unfold up
  have h1 := Int.mul_ediv_add_emod (-x) d
  have h2 := Int.emod_nonneg (-x) (show d ≠ 0 by omega)
  have h3 := Int.emod_lt_of_pos (-x) hd
  rw [Int.neg_mul, Int.mul_comm (-x / d) d]
  omega
theorem div_spec {x d : Int} (hd : 0 < d) : x / d * d ≤ x ∧ x < x / d * d + d := by
  have h1 := Int.mul_ediv_add_emod x d
  have h2 := Int.emod_nonneg x (show d ≠ 0 by omega)
  have h3 := Int.emod_lt_of_pos x hd
  rw [Int.mul_comm (x / d) d]
  omega
theorem lt_of_mul {a b d : Int} (hd : 0 < d) (h : a * d < b * d) : a < b := Int.lt_of_mul_lt_mul_right h (by omega)
theorem le_of_mul {a b d : Int} (hd : 0 < d) (h : a * d ≤ b * d) : a ≤ b := Int.le_of_mul_le_mul_right h hd
theorem up_mono {x y d : Int} (hd : 0 < d) (h : x ≤ y) : up x d ≤ up y d := by
  have a := up_spec (x := x) hd
  have b := up_spec (x := y) hd
  have c : up x d * d < (up y d + 1) * d := by rw [Int.add_mul]; omega
  have := lt_of_mul hd c
  omega
theorem up_zero (d : Int) : up 0 d = 0 := by unfold up; simp
theorem up_nn {x d : Int} (hd : 0 < d) (h : 0 ≤ x) : 0 ≤ up x d := by
  have := up_mono hd h
  rw [up_zero] at this
  exact this
theorem up_le {x d : Int} (hd : 0 < d) (h : 0 ≤ x) : up x d ≤ x := by
  have a := up_spec (x := x) hd
  have h0 := up_nn hd h
  have c : up x d * d < (x + 1) * d := by
    rw [Int.add_mul, Int.one_mul]
    have : x * 1 ≤ x * d := Int.mul_le_mul_of_nonneg_left (by omega) h
    omega
  have := lt_of_mul hd c
  omega
/-- the law's own rounding up -/
theorem lup_eq {x d : Int} (hd : 0 < d) : (x + d - 1) / d = up x d := by
  have a := up_spec (x := x) hd
  have b := div_spec (x := x + d - 1) hd
  have c1 : (x + d - 1) / d * d < (up x d + 1) * d := by rw [Int.add_mul]; omega
  have c2 : up x d * d < ((x + d - 1) / d + 1) * d := by rw [Int.add_mul]; omega
  have e1 := lt_of_mul hd c1
  have e2 := lt_of_mul hd c2
  omega
/-- floors differ by no more than the rounded up difference -/
theorem fl_diff {x y r d : Int} (hd : 0 < d) (h : x - y ≤ r) : x / d - y / d ≤ up r d := by
  have a := div_spec (x := x) hd
  have b := div_spec (x := y) hd
  have c := up_spec (x := r) hd
  have e : (x / d - y / d) * d < (up r d + 1) * d := by
    rw [Int.sub_mul, Int.add_mul]; omega
  have := lt_of_mul hd e
  omega
/-- a floor's size -/
theorem fl_size {x r d : Int} (hd : 0 < d) (h1 : -r ≤ x) (h2 : x ≤ r) : -(up r d) ≤ x / d ∧ x / d ≤ up r d := by
  have a := fl_diff (x := x) (y := 0) hd (by omega : x - 0 ≤ r)
  have b := fl_diff (x := 0) (y := x) hd (by omega : 0 - x ≤ r)
  rw [Int.zero_ediv] at a b
  omega
theorem mul_size {x y a b : Int} (h1 : -a ≤ x) (h2 : x ≤ a) (h3 : -b ≤ y) (h4 : y ≤ b) : -(a * b) ≤ x * y ∧ x * y ≤ a * b := by
  have ha : 0 ≤ a := by omega
  have hb : 0 ≤ b := by omega
  have p1 : 0 ≤ (a - x) * (b + y) := Int.mul_nonneg (by omega) (by omega)
  have p2 : 0 ≤ (a + x) * (b - y) := Int.mul_nonneg (by omega) (by omega)
  have p3 : 0 ≤ (a - x) * (b - y) := Int.mul_nonneg (by omega) (by omega)
  have p4 : 0 ≤ (a + x) * (b + y) := Int.mul_nonneg (by omega) (by omega)
  have e1 : (a - x) * (b + y) = a * b + a * y - x * b - x * y := by grind
  have e2 : (a + x) * (b - y) = a * b - a * y + x * b - x * y := by grind
  have e3 : (a - x) * (b - y) = a * b - a * y - x * b + x * y := by grind
  have e4 : (a + x) * (b + y) = a * b + a * y + x * b + x * y := by grind
  omega
/-- products differ -/
theorem mul_diff {x1 x2 y1 y2 a b ra rb : Int} (h1 : -a ≤ x1) (h2 : x1 ≤ a) (h3 : -b ≤ y2) (h4 : y2 ≤ b) (d1 : x1 - x2 ≤ ra) (d2 : x2 - x1 ≤ ra) (d3 : y1 - y2 ≤ rb) (d4 : y2 - y1 ≤ rb) :
    x1 * y1 - x2 * y2 ≤ a * rb + b * ra := by
  have e : x1 * y1 - x2 * y2 = x1 * (y1 - y2) + (x1 - x2) * y2 := by grind
  have p := (mul_size h1 h2 (show -rb ≤ y1 - y2 by omega) d3).2
  have q := (mul_size (show -ra ≤ x1 - x2 by omega) d1 h3 h4).2
  rw [Int.mul_comm ra b] at q
  omega
theorem wreach_nn {d : Int} (h : 0 ≤ d) : 0 ≤ wreach d := by unfold wreach; split <;> omega
theorem wreach_mono {d d' : Int} (h0 : 0 ≤ d) (h : d ≤ d') : wreach d ≤ wreach d' := by unfold wreach; split <;> split <;> omega
/-! ### most is no less than any value -/
theorem valL_of {ps : List E} {t : Int} (h : ∀ p ∈ ps, -(most p) ≤ val p t ∧ val p t ≤ most p) : -(mostL ps) ≤ valL ps t ∧ valL ps t ≤ mostL ps := by
  induction ps with
  | nil => simp [mostL, valL]
  | cons p ps ih =>
    have a := h p List.mem_cons_self
    have b := ih fun q hq => h q (List.mem_cons_of_mem _ hq)
    simp only [mostL, valL]
    omega
theorem most_ok : ∀ (n : Nat) (e : E), Ok n false e → ∀ t, -(most e) ≤ val e t ∧ val e t ≤ most e
  | 0, e, h, t => by cases e <;> exact h.elim
  | n + 1, .num k, h, t => by simp only [most, val]; have := ab_ge k; omega
  | n + 1, .wave a, h, t => by simp only [most, val]; exact wave_size _
  | n + 1, .sum ps, h, t => by
    simp only [most, val]
    exact valL_of fun p hp => most_ok n p (h.2.2 p hp) t
  | n + 1, .share q m d, h, t => by
    obtain ⟨h1, ⟨h2, h3⟩, h4, h5⟩ := h
    simp only [most, val]
    have a := most_ok n q h1 t
    have b := ab_ge m
    have c := mul_size a.1 a.2 b.1 b.2
    exact fl_size (by omega) c.1 c.2
  | n + 1, .prod q r d, h, t => by
    obtain ⟨h1, h2, h4, h5⟩ := h
    simp only [most, val]
    have a := most_ok n q h1 t
    have b := most_ok n r h2 t
    have c := mul_size a.1 a.2 b.1 b.2
    exact fl_size (by omega) c.1 c.2
  | n + 1, .later q m, h, t => by
    simp only [most, val]
    exact most_ok n q h (t + m)
  | n + 1, .turn s m d, h, t => h.elim
  | n + 1, .moved a q, h, t => h.elim
  | n + 1, .minus a b, h, t => h.elim
theorem most_nn {n : Nat} {e : E} (h : Ok n false e) : 0 ≤ most e := by have := most_ok n e h 0; omega
theorem mostL_nn {ps : List E} (h : ∀ p ∈ ps, 0 ≤ most p) : 0 ≤ mostL ps := by
  induction ps with
  | nil => simp [mostL]
  | cons p ps ih =>
    have a := h p List.mem_cons_self
    have b := ih fun q hq => h q (List.mem_cons_of_mem _ hq)
    simp only [mostL]
    omega
/-! ### reach: at least 0, rising, 0 at 0 -/
theorem reachL_nn {ps : List E} {k : Int} (h : ∀ p ∈ ps, 0 ≤ reach p k) : 0 ≤ reachL ps k := by
  induction ps with
  | nil => simp [reachL]
  | cons p ps ih =>
    have a := h p List.mem_cons_self
    have b := ih fun q hq => h q (List.mem_cons_of_mem _ hq)
    simp only [reachL]
    omega
theorem reach_nn : ∀ (n : Nat) (b : Bool) (e : E), Ok n b e → ∀ k, 0 ≤ k → 0 ≤ reach e k
  | 0, b, e, h, k, hk => by cases b <;> cases e <;> exact h.elim
  | n + 1, false, .num m, h, k, hk => by simp only [reach]; have := ab_nn m; exact le_mn (by omega) (by omega)
  | n + 1, false, .wave a, h, k, hk => by simp only [reach]; exact le_mn (wreach_nn (reach_nn n true a h k hk)) (by decide)
  | n + 1, false, .sum ps, h, k, hk => by
    simp only [reach]
    have := mostL_nn fun p hp => most_nn (h.2.2 p hp)
    exact le_mn (reachL_nn fun p hp => reach_nn n false p (h.2.2 p hp) k hk) (by omega)
  | n + 1, false, .share q m d, h, k, hk => by
    obtain ⟨h1, ⟨h2, h3⟩, h4, h5⟩ := h
    simp only [reach]
    have a := up_nn (d := d) (by omega) (Int.mul_nonneg (reach_nn n false q h1 k hk) (ab_nn m))
    have b := up_nn (d := d) (by omega) (Int.mul_nonneg (most_nn h1) (ab_nn m))
    exact le_mn a (by omega)
  | n + 1, false, .prod q r d, h, k, hk => by
    obtain ⟨h1, h2, h4, h5⟩ := h
    simp only [reach]
    have a1 := Int.mul_nonneg (most_nn h1) (reach_nn n false r h2 k hk)
    have a2 := Int.mul_nonneg (most_nn h2) (reach_nn n false q h1 k hk)
    have a := up_nn (d := d) (by omega) (show 0 ≤ most q * reach r k + most r * reach q k by omega)
    have b := up_nn (d := d) (by omega) (Int.mul_nonneg (most_nn h1) (most_nn h2))
    exact le_mn a (by omega)
  | n + 1, false, .later q m, h, k, hk => by
    simp only [reach]
    have := most_nn (n := n) (e := q) h
    exact le_mn (reach_nn n false q h k hk) (by omega)
  | n + 1, true, .turn s m d, h, k, hk => by
    obtain ⟨⟨h2, h3⟩, h4, h5⟩ := h
    simp only [reach]
    exact up_nn (by omega) (Int.mul_nonneg (ab_nn m) hk)
  | n + 1, true, .moved a q, h, k, hk => by
    obtain ⟨h1, h2⟩ := h
    simp only [reach]
    have := reach_nn n true a h1 k hk
    have := reach_nn n false q h2 k hk
    omega
  | n + 1, true, .minus a q, h, k, hk => by
    obtain ⟨h1, h2⟩ := h
    simp only [reach]
    have := reach_nn n true a h1 k hk
    have := reach_nn n true q h2 k hk
    omega
  | n + 1, false, .turn _ _ _, h, k, hk => h.elim
  | n + 1, false, .moved _ _, h, k, hk => h.elim
  | n + 1, false, .minus _ _, h, k, hk => h.elim
  | n + 1, true, .num _, h, k, hk => h.elim
  | n + 1, true, .wave _, h, k, hk => h.elim
  | n + 1, true, .sum _, h, k, hk => h.elim
  | n + 1, true, .share _ _ _, h, k, hk => h.elim
  | n + 1, true, .prod _ _ _, h, k, hk => h.elim
  | n + 1, true, .later _ _, h, k, hk => h.elim
theorem reach_cut {n : Nat} {e : E} (h : Ok n false e) (k : Int) : reach e k ≤ 2 * most e := by
  cases n with
  | zero => cases e <;> exact h.elim
  | succ n =>
    cases e <;> simp only [reach, most] <;> first | exact mn_le2 _ _ | exact (show False from h).elim
theorem reachL_mono {ps : List E} {k k' : Int} (h : ∀ p ∈ ps, reach p k ≤ reach p k') : reachL ps k ≤ reachL ps k' := by
  induction ps with
  | nil => simp [reachL]
  | cons p ps ih =>
    have a := h p List.mem_cons_self
    have b := ih fun q hq => h q (List.mem_cons_of_mem _ hq)
    simp only [reachL]
    omega
theorem reach_mono : ∀ (n : Nat) (b : Bool) (e : E), Ok n b e → ∀ k k', 0 ≤ k → k ≤ k' → reach e k ≤ reach e k'
  | 0, b, e, h, k, k', hk, hl => by cases b <;> cases e <;> exact h.elim
  | n + 1, false, .num m, h, k, k', hk, hl => by simp only [reach]; omega
  | n + 1, false, .wave a, h, k, k', hk, hl => by
    simp only [reach]
    exact mn_mono (wreach_mono (reach_nn n true a h k hk) (reach_mono n true a h k k' hk hl))
  | n + 1, false, .sum ps, h, k, k', hk, hl => by
    simp only [reach]
    exact mn_mono (reachL_mono fun p hp => reach_mono n false p (h.2.2 p hp) k k' hk hl)
  | n + 1, false, .share q m d, h, k, k', hk, hl => by
    obtain ⟨h1, ⟨h2, h3⟩, h4, h5⟩ := h
    simp only [reach]
    exact mn_mono (up_mono (by omega) (Int.mul_le_mul_of_nonneg_right (reach_mono n false q h1 k k' hk hl) (ab_nn m)))
  | n + 1, false, .prod q r d, h, k, k', hk, hl => by
    obtain ⟨h1, h2, h4, h5⟩ := h
    simp only [reach]
    have a1 := Int.mul_le_mul_of_nonneg_left (reach_mono n false r h2 k k' hk hl) (most_nn h1)
    have a2 := Int.mul_le_mul_of_nonneg_left (reach_mono n false q h1 k k' hk hl) (most_nn h2)
    exact mn_mono (up_mono (by omega) (by omega))
  | n + 1, false, .later q m, h, k, k', hk, hl => by
    simp only [reach]
    exact mn_mono (reach_mono n false q h k k' hk hl)
  | n + 1, true, .turn s m d, h, k, k', hk, hl => by
    obtain ⟨⟨h2, h3⟩, h4, h5⟩ := h
    simp only [reach]
    exact up_mono (by omega) (Int.mul_le_mul_of_nonneg_left hl (ab_nn m))
  | n + 1, true, .moved a q, h, k, k', hk, hl => by
    obtain ⟨h1, h2⟩ := h
    simp only [reach]
    have := reach_mono n true a h1 k k' hk hl
    have := reach_mono n false q h2 k k' hk hl
    omega
  | n + 1, true, .minus a q, h, k, k', hk, hl => by
    obtain ⟨h1, h2⟩ := h
    simp only [reach]
    have := reach_mono n true a h1 k k' hk hl
    have := reach_mono n true q h2 k k' hk hl
    omega
  | n + 1, false, .turn _ _ _, h, k, k', hk, hl => h.elim
  | n + 1, false, .moved _ _, h, k, k', hk, hl => h.elim
  | n + 1, false, .minus _ _, h, k, k', hk, hl => h.elim
  | n + 1, true, .num _, h, k, k', hk, hl => h.elim
  | n + 1, true, .wave _, h, k, k', hk, hl => h.elim
  | n + 1, true, .sum _, h, k, k', hk, hl => h.elim
  | n + 1, true, .share _ _ _, h, k, k', hk, hl => h.elim
  | n + 1, true, .prod _ _ _, h, k, k', hk, hl => h.elim
  | n + 1, true, .later _ _, h, k, k', hk, hl => h.elim
theorem reachL_zero {ps : List E} (h : ∀ p ∈ ps, reach p 0 = 0) : reachL ps 0 = 0 := by
  induction ps with
  | nil => simp [reachL]
  | cons p ps ih =>
    have a := h p List.mem_cons_self
    have b := ih fun q hq => h q (List.mem_cons_of_mem _ hq)
    simp only [reachL]
    omega
theorem mn_zero {y : Int} (h : 0 ≤ y) : mn 0 y = 0 := by unfold mn; split <;> omega
theorem reach_zero : ∀ (n : Nat) (b : Bool) (e : E), Ok n b e → reach e 0 = 0
  | 0, b, e, h => by cases b <;> cases e <;> exact h.elim
  | n + 1, false, .num m, h => by simp only [reach]; exact mn_zero (by have := ab_nn m; omega)
  | n + 1, false, .wave a, h => by simp only [reach]; rw [reach_zero n true a h]; decide
  | n + 1, false, .sum ps, h => by
    simp only [reach]
    rw [reachL_zero fun p hp => reach_zero n false p (h.2.2 p hp)]
    exact mn_zero (by have := mostL_nn fun p hp => most_nn (h.2.2 p hp); omega)
  | n + 1, false, .share q m d, h => by
    obtain ⟨h1, ⟨h2, h3⟩, h4, h5⟩ := h
    simp only [reach]
    rw [reach_zero n false q h1, Int.zero_mul, up_zero]
    exact mn_zero (by have := up_nn (d := d) (by omega) (Int.mul_nonneg (most_nn h1) (ab_nn m)); omega)
  | n + 1, false, .prod q r d, h => by
    obtain ⟨h1, h2, h4, h5⟩ := h
    simp only [reach]
    rw [reach_zero n false q h1, reach_zero n false r h2, Int.mul_zero, Int.mul_zero, Int.add_zero, up_zero]
    exact mn_zero (by have := up_nn (d := d) (by omega) (Int.mul_nonneg (most_nn h1) (most_nn h2)); omega)
  | n + 1, false, .later q m, h => by
    simp only [reach]
    rw [reach_zero n false q h]
    exact mn_zero (by have := most_nn (n := n) (e := q) h; omega)
  | n + 1, true, .turn s m d, h => by simp only [reach]; rw [Int.mul_zero, up_zero]
  | n + 1, true, .moved a q, h => by simp only [reach]; rw [reach_zero n true a h.1, reach_zero n false q h.2]; rfl
  | n + 1, true, .minus a q, h => by simp only [reach]; rw [reach_zero n true a h.1, reach_zero n true q h.2]; rfl
  | n + 1, false, .turn _ _ _, h => h.elim
  | n + 1, false, .moved _ _, h => h.elim
  | n + 1, false, .minus _ _, h => h.elim
  | n + 1, true, .num _, h => h.elim
  | n + 1, true, .wave _, h => h.elim
  | n + 1, true, .sum _, h => h.elim
  | n + 1, true, .share _ _ _, h => h.elim
  | n + 1, true, .prod _ _ _, h => h.elim
  | n + 1, true, .later _ _, h => h.elim
/-! ### the values at two ticks at most k apart differ by at most the reach -/
theorem reachL_ok {ps : List E} {t u k : Int} (h : ∀ p ∈ ps, val p t - val p u ≤ reach p k) : valL ps t - valL ps u ≤ reachL ps k := by
  induction ps with
  | nil => simp [reachL, valL]
  | cons p ps ih =>
    have a := h p List.mem_cons_self
    have b := ih fun q hq => h q (List.mem_cons_of_mem _ hq)
    simp only [reachL, valL]
    omega
/-- .. also cut at twice the most -/
theorem cut_ok {n : Nat} {e : E} {r t u : Int} (h : Ok n false e) (a : val e t - val e u ≤ r) : val e t - val e u ≤ mn r (2 * most e) := by
  have p := most_ok n e h t
  have q := most_ok n e h u
  exact le_mn a (by omega)
theorem reach_ok : ∀ (n : Nat) (b : Bool) (e : E), Ok n b e → ∀ t u k, t - u ≤ k → u - t ≤ k → val e t - val e u ≤ reach e k
  | 0, b, e, h, t, u, k, h1, h2 => by cases b <;> cases e <;> exact h.elim
  | n + 1, false, .num m, h, t, u, k, h1, h2 => by
    have := cut_ok (n := n + 1) (e := .num m) (r := 0) (t := t) (u := u) h (by simp only [val]; omega)
    simpa only [reach, most] using this
  | n + 1, false, .wave a, h, t, u, k, h1, h2 => by
    have x := reach_ok n true a h t u k h1 h2
    have y := reach_ok n true a h u t k h2 h1
    exact cut_ok (n := n + 1) (e := .wave a) (t := t) (u := u) h (by simp only [val]; exact (wave_lip x y).1)
  | n + 1, false, .sum ps, h, t, u, k, h1, h2 => by
    have := cut_ok (n := n + 1) (e := .sum ps) (r := reachL ps k) (t := t) (u := u) h (by simp only [val]; exact reachL_ok fun p hp => reach_ok n false p (h.2.2 p hp) t u k h1 h2)
    simpa only [reach, most] using this
  | n + 1, false, .share q m d, h, t, u, k, h1, h2 => by
    obtain ⟨g1, ⟨g2, g3⟩, g4, g5⟩ := id h
    have x := reach_ok n false q g1 t u k h1 h2
    have y := reach_ok n false q g1 u t k h2 h1
    have b := ab_ge m
    have c := (mul_size (x := val q t - val q u) (show -(reach q k) ≤ val q t - val q u by omega) x b.1 b.2).2
    rw [Int.sub_mul] at c
    have := cut_ok (n := n + 1) (e := .share q m d) (r := up (reach q k * ab m) d) (t := t) (u := u) h (by simp only [val]; exact fl_diff (by omega) c)
    simpa only [reach, most] using this
  | n + 1, false, .prod q r d, h, t, u, k, h1, h2 => by
    obtain ⟨g1, g2, g4, g5⟩ := id h
    have a := most_ok n q g1 t
    have b := most_ok n r g2 u
    have c := mul_diff a.1 a.2 b.1 b.2 (reach_ok n false q g1 t u k h1 h2) (reach_ok n false q g1 u t k h2 h1) (reach_ok n false r g2 t u k h1 h2) (reach_ok n false r g2 u t k h2 h1)
    have := cut_ok (n := n + 1) (e := .prod q r d) (r := up (most q * reach r k + most r * reach q k) d) (t := t) (u := u) h (by simp only [val]; exact fl_diff (by omega) c)
    simpa only [reach, most] using this
  | n + 1, false, .later q m, h, t, u, k, h1, h2 => by
    have x := reach_ok n false q h (t + m) (u + m) k (by omega) (by omega)
    have := cut_ok (n := n + 1) (e := .later q m) (r := reach q k) (t := t) (u := u) h (by simp only [val]; exact x)
    simpa only [reach, most] using this
  | n + 1, true, .turn s m d, h, t, u, k, h1, h2 => by
    obtain ⟨⟨g2, g3⟩, g4, g5⟩ := id h
    simp only [reach, val]
    have b := ab_ge m
    have c := (mul_size b.1 b.2 (show -k ≤ t - u by omega) h1).2
    rw [Int.mul_sub] at c
    have := fl_diff (d := d) (by omega) c
    omega
  | n + 1, true, .moved a q, h, t, u, k, h1, h2 => by
    simp only [reach, val]
    have x := reach_ok n true a h.1 t u k h1 h2
    have y := reach_ok n false q h.2 t u k h1 h2
    omega
  | n + 1, true, .minus a q, h, t, u, k, h1, h2 => by
    simp only [reach, val]
    have x := reach_ok n true a h.1 t u k h1 h2
    have y := reach_ok n true q h.2 u t k h2 h1
    omega
  | n + 1, false, .turn _ _ _, h, _, _, _, _, _ => h.elim
  | n + 1, false, .moved _ _, h, _, _, _, _, _ => h.elim
  | n + 1, false, .minus _ _, h, _, _, _, _, _ => h.elim
  | n + 1, true, .num _, h, _, _, _, _, _ => h.elim
  | n + 1, true, .wave _, h, _, _, _, _, _ => h.elim
  | n + 1, true, .sum _, h, _, _, _, _, _ => h.elim
  | n + 1, true, .share _ _ _, h, _, _, _, _, _ => h.elim
  | n + 1, true, .prod _ _ _, h, _, _, _, _, _ => h.elim
  | n + 1, true, .later _ _, h, _, _, _, _, _ => h.elim
end Ta

/-! Sizes; the longest sure cell; the longest paper; changes. -/
namespace Ta
/-! ### sizes -/
def B : Nat → Int
  | 0 => 1099511627776
  | n + 1 => B n * B n
theorem B_ge : ∀ n, 1099511627776 ≤ B n
  | 0 => by decide
  | n + 1 => by
    have h := B_ge n
    have : B n * 1 ≤ B n * B n := Int.mul_le_mul_of_nonneg_left (by omega) (by omega)
    show 1099511627776 ≤ B n * B n
    omega
theorem B_eq : ∀ n, B n = 2 ^ (40 * 2 ^ n)
  | 0 => by decide
  | n + 1 => by
    show B n * B n = _
    rw [B_eq n, ← Int.pow_add]
    congr 1
    rw [Nat.pow_succ]; omega
theorem B_four (n : Nat) : 4 * B n ≤ B (n + 1) := by
  have h := B_ge n
  exact Int.mul_le_mul_of_nonneg_right (by omega) (by omega)
theorem B_mul {n : Nat} {x y : Int} (h1 : 0 ≤ x) (h2 : x ≤ B n) (h3 : 0 ≤ y) (h4 : y ≤ B n) : x * y ≤ B (n + 1) :=
  Int.le_trans (Int.mul_le_mul_of_nonneg_right h2 h3) (Int.mul_le_mul_of_nonneg_left h4 (by have := B_ge n; omega))
theorem mostL_le {ps : List E} {b : Int} (h : ∀ p ∈ ps, most p ≤ b) : mostL ps ≤ ps.length * b := by
  induction ps with
  | nil => simp [mostL]
  | cons p ps ih =>
    have a := h p List.mem_cons_self
    have c := ih fun q hq => h q (List.mem_cons_of_mem _ hq)
    simp only [mostL, List.length_cons]
    rw [Int.natCast_add, Int.add_mul]
    omega
theorem most_le : ∀ (n : Nat) (e : E), Ok n false e → most e ≤ B n
  | 0, e, h => by cases e <;> exact h.elim
  | n + 1, .num k, h => by
    have := B_ge (n + 1)
    have := ab_le h.1 h.2
    simp only [most]; omega
  | n + 1, .wave a, h => by
    have := B_ge (n + 1)
    simp only [most]; omega
  | n + 1, .sum ps, h => by
    simp only [most]
    have a := mostL_le fun p hp => most_le n p (h.2.2 p hp)
    have b := B_four n
    have c : (ps.length : Int) * B n ≤ 4 * B n := Int.mul_le_mul_of_nonneg_right (by have := h.2.1; omega) (by have := B_ge n; omega)
    omega
  | n + 1, .share q m d, h => by
    obtain ⟨h1, ⟨h2, h3⟩, h4, h5⟩ := h
    simp only [most]
    have a := ab_le h2 h3
    have b := ab_nn m
    have c := B_ge n
    have x := B_mul (most_nn h1) (most_le n q h1) b (by omega)
    have y := up_le (d := d) (by omega) (Int.mul_nonneg (most_nn h1) b)
    omega
  | n + 1, .prod q r d, h => by
    obtain ⟨h1, h2, h4, h5⟩ := h
    simp only [most]
    have x := B_mul (most_nn h1) (most_le n q h1) (most_nn h2) (most_le n r h2)
    have y := up_le (d := d) (by omega) (Int.mul_nonneg (most_nn h1) (most_nn h2))
    omega
  | n + 1, .later q m, h => by
    simp only [most]
    have a := most_le n q h
    have b := B_four n
    have c := B_ge n
    omega
  | n + 1, .turn s m d, h => h.elim
  | n + 1, .moved a q, h => h.elim
  | n + 1, .minus a b, h => h.elim
theorem B_mono1 (n : Nat) : B n ≤ B (n + 1) := by have := B_four n; have := B_ge n; omega
theorem B_mono {n m : Nat} (h : n ≤ m) : B n ≤ B m := by
  induction m with
  | zero => obtain rfl : n = 0 := by omega
            omega
  | succ m ih =>
    by_cases e : n = m + 1
    · subst e; omega
    · exact Int.le_trans (ih (by omega)) (B_mono1 m)
theorem most_lt {n : Nat} {e : E} (h : Ok n false e) (hn : n ≤ 8) : (most e).natAbs < 2 ^ 10241 := by
  have a := most_le n e h
  have b := B_mono hn
  have c := most_nn h
  have d : B 8 = 2 ^ 10240 := by rw [B_eq]
  have e' : (2 : Int) ^ 10240 < 2 ^ 10241 := by
    rw [Int.pow_succ 2 10240]
    have : (0 : Int) < 2 ^ 10240 := Int.pow_pos (by decide)
    omega
  have f : (most e).natAbs < ((2 : Nat) ^ 10241 : Nat) := by
    have g : (((2 : Nat) ^ 10241 : Nat) : Int) = 2 ^ 10241 := by rw [Int.natCast_pow]; rfl
    omega
  exact f
theorem le_pow {x y : Int} {a : Nat} (h1 : -y ≤ x) (h2 : x ≤ y) (h : y.natAbs < 2 ^ a) : x.natAbs < 2 ^ a := Nat.lt_of_le_of_lt (by omega) h
theorem val_lt {n : Nat} {e : E} (h : Ok n false e) (hn : n ≤ 8) (t : Int) : (val e t).natAbs < 2 ^ 10241 :=
  le_pow (most_ok n e h t).1 (most_ok n e h t).2 (most_lt h hn)
theorem reach_lt {n : Nat} {e : E} (h : Ok n false e) (hn : n ≤ 8) {k : Int} (hk : 0 ≤ k) : (reach e k).natAbs < 2 ^ 10242 := by
  have a := reach_cut h k
  have b := reach_nn n false e h k hk
  have c := most_lt h hn
  rw [show (2 : Nat) ^ 10242 = 2 * 2 ^ 10241 by rw [Nat.pow_succ 10241 (n := 2), Nat.mul_comm]]
  omega
theorem Ok.mono1 : ∀ {n : Nat} {b : Bool} {e : E}, Ok n b e → Ok (n + 1) b e
  | 0, b, e, h => by cases b <;> cases e <;> exact (show False from h).elim
  | n + 1, false, .num k, h => h
  | n + 1, false, .wave a, h => Ok.mono1 (n := n) h
  | n + 1, false, .sum ps, h => ⟨h.1, h.2.1, fun p hp => Ok.mono1 (h.2.2 p hp)⟩
  | n + 1, false, .share q m d, h => ⟨Ok.mono1 h.1, h.2⟩
  | n + 1, false, .prod q r d, h => ⟨Ok.mono1 h.1, Ok.mono1 h.2.1, h.2.2⟩
  | n + 1, false, .later q m, h => Ok.mono1 (n := n) h
  | n + 1, true, .turn s m d, h => h
  | n + 1, true, .moved a q, h => ⟨Ok.mono1 h.1, Ok.mono1 h.2⟩
  | n + 1, true, .minus a q, h => ⟨Ok.mono1 h.1, Ok.mono1 h.2⟩
  | n + 1, false, .turn _ _ _, h => h.elim
  | n + 1, false, .moved _ _, h => h.elim
  | n + 1, false, .minus _ _, h => h.elim
  | n + 1, true, .num _, h => h.elim
  | n + 1, true, .wave _, h => h.elim
  | n + 1, true, .sum _, h => h.elim
  | n + 1, true, .share _ _ _, h => h.elim
  | n + 1, true, .prod _ _ _, h => h.elim
  | n + 1, true, .later _ _, h => h.elim
theorem Ok.mono {n m : Nat} {b : Bool} {e : E} (h : Ok n b e) (l : n ≤ m) : Ok m b e := by
  induction m with
  | zero =>
    obtain rfl : n = 0 := by omega
    exact h
  | succ m ih =>
    by_cases q : n = m + 1
    · subst q; exact h
    · exact (ih (by omega)).mono1
/-! ### sure -/
def sure (e : E) (w k : Int) : Bool := if 0 ≤ w then decide (reach e k ≤ w) else decide (reach e k < -w)
theorem sure_zero {n : Nat} {e : E} (h : Ok n false e) (w : Int) : sure e w 0 = true := by
  unfold sure
  rw [reach_zero n false e h]
  split <;> exact decide_eq_true (by omega)
theorem sure_down {n : Nat} {e : E} (h : Ok n false e) {w j k : Int} (h0 : 0 ≤ j) (hl : j ≤ k) (hk : sure e w k = true) : sure e w j = true := by
  have m := reach_mono n false e h j k h0 hl
  unfold sure at hk ⊢
  split at hk
  · rename_i hw
    rw [if_pos hw]
    exact decide_eq_true (by have := of_decide_eq_true hk; omega)
  · rename_i hw
    rw [if_neg hw]
    exact decide_eq_true (by have := of_decide_eq_true hk; omega)
/-- the greatest sure k of at most the room -/
def lon (e : E) (w : Int) : Nat → Nat
  | 0 => 0
  | r + 1 => if sure e w ((r + 1 : Nat) : Int) = true then r + 1 else lon e w r
theorem lon_le (e : E) (w : Int) : ∀ r, lon e w r ≤ r
  | 0 => Nat.le_refl _
  | r + 1 => by
    have := lon_le e w r
    unfold lon
    split <;> omega
theorem lon_sure {n : Nat} {e : E} (h : Ok n false e) (w : Int) : ∀ r, sure e w (lon e w r : Nat) = true
  | 0 => sure_zero h w
  | r + 1 => by
    have := lon_sure h w r
    unfold lon
    split <;> assumption
theorem lon_eq {n : Nat} {e : E} (h : Ok n false e) {w : Int} {k : Nat} (hs : sure e w (k : Int) = true) : ∀ {r : Nat}, k ≤ r → (k = r ∨ sure e w ((k + 1 : Nat) : Int) = false) → lon e w r = k
  | 0, hr, _ => by
    obtain rfl : k = 0 := by omega
    rfl
  | r + 1, hr, hn => by
    unfold lon
    by_cases e1 : k = r + 1
    · subst e1
      rw [if_pos hs]
    · rcases hn with hn | hn
      · exact absurd hn e1
      · have f : ¬ sure e w ((r + 1 : Nat) : Int) = true := fun z => by
          have := sure_down h (j := ((k + 1 : Nat) : Int)) (by omega) (by omega) z
          rw [hn] at this; cases this
        rw [if_neg f]
        refine lon_eq h hs (by omega) ?_
        by_cases e2 : k = r
        · exact .inl e2
        · exact .inr hn
/-! ### the longest paper -/
def sd (e : E) (t : Int) : Bool := decide (0 ≤ val e t)
def lonAt (e : E) (t en : Int) : Int := (lon e (val e t) (en - t).toNat : Nat)
theorem lonAt_nn (e : E) (t en : Int) : 0 ≤ lonAt e t en := by unfold lonAt; omega
theorem lonAt_le {e : E} {t en : Int} (h : t ≤ en) : t + lonAt e t en ≤ en := by
  have := lon_le e (val e t) (en - t).toNat
  unfold lonAt; omega
theorem lonAt_sure {n : Nat} {e : E} (h : Ok n false e) (t en : Int) : sure e (val e t) (lonAt e t en) = true := lon_sure h _ _
theorem lonAt_eq {n : Nat} {e : E} (h : Ok n false e) {t en k : Int} (h0 : 0 ≤ k) (h1 : t + k ≤ en) (hs : sure e (val e t) k = true) (hn : t + k = en ∨ sure e (val e t) (k + 1) = false) : lonAt e t en = k := by
  have a : ((k.toNat : Nat) : Int) = k := by omega
  have := lon_eq h (w := val e t) (k := k.toNat) (by rw [a]; exact hs) (r := (en - t).toNat) (by omega) (by
    rcases hn with q | q
    · left; omega
    · right; rw [Int.natCast_add, a]; exact q)
  unfold lonAt
  rw [this, a]
abbrev Cell := Int × Int × Bool
def cellsF (e : E) (en : Int) : Nat → Int → List Cell
  | 0, _ => []
  | f + 1, t => if t ≤ en then (t, lonAt e t en, sd e t) :: cellsF e en f (t + lonAt e t en + 1) else []
theorem cellsF_more (e : E) (en : Int) : ∀ (f g : Nat) (t : Int), (en + 1 - t).toNat ≤ f → (en + 1 - t).toNat ≤ g → cellsF e en f t = cellsF e en g t
  | 0, 0, _, _, _ => rfl
  | 0, g + 1, t, h1, h2 => by
    unfold cellsF
    rw [if_neg (by omega)]
  | f + 1, 0, t, h1, h2 => by
    unfold cellsF
    rw [if_neg (by omega)]
  | f + 1, g + 1, t, h1, h2 => by
    unfold cellsF
    have := lonAt_nn e t en
    split
    · rw [cellsF_more e en f g _ (by omega) (by omega)]
    · rfl
def cells (e : E) (t en : Int) : List Cell := cellsF e en (en + 1 - t).toNat t
theorem cells_go {e : E} {t en : Int} (h : t ≤ en) : cells e t en = (t, lonAt e t en, sd e t) :: cells e (t + lonAt e t en + 1) en := by
  have := lonAt_nn e t en
  unfold cells
  obtain ⟨f, hf⟩ : ∃ f, (en + 1 - t).toNat = f + 1 := ⟨(en - t).toNat, by omega⟩
  rw [hf]
  show (if t ≤ en then _ else _) = _
  rw [if_pos h, cellsF_more e en f _ _ (by omega) (Nat.le_refl _)]
theorem cells_end {e : E} {t en : Int} (h : en < t) : cells e t en = [] := by
  unfold cells
  rw [show (en + 1 - t).toNat = 0 by omega]
  rfl
theorem cells_len (e : E) (en : Int) : ∀ (f : Nat) (t : Int), (en + 1 - t).toNat ≤ f → (cells e t en).length ≤ (en + 1 - t).toNat
  | 0, t, h => by rw [cells_end (by omega)]; simp
  | f + 1, t, h => by
    by_cases o : t ≤ en
    · have := lonAt_nn e t en
      have ih := cells_len e en f (t + lonAt e t en + 1) (by omega)
      rw [cells_go o, List.length_cons]
      omega
    · rw [cells_end (by omega)]; simp
/-! ### changes -/
abbrev Chg := Int × Bool
def chg : List Chg → List Chg
  | a :: b :: r => if a.2 ≠ b.2 then b :: chg (b :: r) else chg (b :: r)
  | _ => []
theorem chg_two (a b : Chg) (r : List Chg) : chg (a :: b :: r) = if a.2 ≠ b.2 then b :: chg (b :: r) else chg (b :: r) := by rw [chg]
theorem chg_head {a b : Chg} (h : a.2 = b.2) (r : List Chg) : chg (a :: r) = chg (b :: r) := by
  cases r with
  | nil => rfl
  | cons c r => rw [chg_two, chg_two, h]
theorem chg_run {a : Chg} : ∀ {l : List Chg} {r : List Chg}, (∀ x ∈ l, x.2 = a.2) → chg (a :: (l ++ r)) = chg (a :: r)
  | [], _, _ => rfl
  | x :: l, r, h => by
    have e := h x List.mem_cons_self
    show chg (a :: x :: (l ++ r)) = _
    rw [chg_two, if_neg (by rw [e]; simp), chg_head e, chg_run fun y hy => h y (List.mem_cons_of_mem _ hy)]
theorem chg_snoc : ∀ (l : List Chg) (a b : Chg), chg (l ++ [a, b]) = chg (l ++ [a]) ++ (if a.2 ≠ b.2 then [b] else [])
  | [], a, b => by
    show chg [a, b] = [] ++ _
    rw [chg_two]; split <;> rfl
  | [x], a, b => by
    show chg [x, a, b] = chg [x, a] ++ _
    rw [chg_two, chg_two x a [], chg_two a b []]
    show _ = (if _ then [a] else []) ++ _
    split <;> split <;> rfl
  | x :: y :: l, a, b => by
    have ih := chg_snoc (y :: l) a b
    show chg (x :: y :: (l ++ [a, b])) = chg (x :: y :: (l ++ [a])) ++ _
    rw [chg_two, chg_two]
    have ih' : chg (y :: (l ++ [a, b])) = chg (y :: (l ++ [a])) ++ (if a.2 ≠ b.2 then [b] else []) := ih
    rw [ih']
    split <;> rfl
/-- the ticks t, t + 1, .. (n of them) with their sides -/
def tk (e : E) (t : Int) (n : Nat) : List Chg := (List.range n).map fun (i : Nat) => (t + (i : Int), sd e (t + (i : Int)))
theorem tk_zero (e : E) (t : Int) : tk e t 0 = [] := rfl
theorem tk_succ (e : E) (t : Int) (n : Nat) : tk e t (n + 1) = tk e t n ++ [(t + (n : Int), sd e (t + (n : Int)))] := by
  unfold tk
  rw [List.range_succ, List.map_append]
  rfl
theorem tk_add (e : E) (t : Int) (a : Nat) : ∀ b : Nat, tk e t (a + b) = tk e t a ++ tk e (t + (a : Int)) b
  | 0 => by simp [tk_zero]
  | b + 1 => by
    have : t + ((a + b : Nat) : Int) = t + (a : Int) + (b : Int) := by omega
    rw [← Nat.add_assoc, tk_succ, tk_add e t a b, tk_succ, List.append_assoc, this]
theorem tk_cons (e : E) (t : Int) (n : Nat) : tk e t (n + 1) = (t, sd e t) :: tk e (t + 1) n := by
  rw [Nat.add_comm, tk_add e t 1 n]
  show ((t + ((0 : Nat) : Int), sd e (t + ((0 : Nat) : Int))) :: []) ++ _ = _
  rw [show t + ((0 : Nat) : Int) = t by simp]
  rfl
/-- in a sure cell the side is kept -/
theorem sure_side {n : Nat} {e : E} (h : Ok n false e) {t k : Int} (hs : sure e (val e t) k = true) {u : Int} (h1 : t ≤ u) (h2 : u ≤ t + k) : sd e u = sd e t := by
  have a := reach_ok n false e h t u k (by omega) (by omega)
  have b := reach_ok n false e h u t k (by omega) (by omega)
  unfold sure at hs
  unfold sd
  split at hs
  · rename_i hw
    have := of_decide_eq_true hs
    rw [decide_eq_true hw, decide_eq_true (show 0 ≤ val e u by omega)]
  · rename_i hw
    have := of_decide_eq_true hs
    rw [decide_eq_false hw, decide_eq_false (show ¬ 0 ≤ val e u by omega)]
def sides (cs : List Cell) : List Chg := cs.map fun c => (c.1, c.2.2)
theorem chg_cells0 {n : Nat} {e : E} (h : Ok n false e) (en : Int) : ∀ (f : Nat) (t : Int) (a : Chg), (en + 1 - t).toNat ≤ f → chg (a :: sides (cells e t en)) = chg (a :: tk e t (en + 1 - t).toNat)
  | 0, t, a, hf => by
    rw [cells_end (by omega), show (en + 1 - t).toNat = 0 by omega]
    rfl
  | f + 1, t, a, hf => by
    by_cases o : t ≤ en
    · have l0 := lonAt_nn e t en
      have l1 := lonAt_le (e := e) o
      have ih := chg_cells0 h en f (t + lonAt e t en + 1) (t, sd e t) (by omega)
      rw [cells_go o]
      have en1 : (en + 1 - t).toNat = ((lonAt e t en).toNat + (en + 1 - (t + lonAt e t en + 1)).toNat) + 1 := by omega
      rw [en1, tk_cons, tk_add]
      have e1 : t + 1 + ((lonAt e t en).toNat : Int) = t + lonAt e t en + 1 := by omega
      rw [e1]
      have run : ∀ x ∈ tk e (t + 1) (lonAt e t en).toNat, x.2 = (t, sd e t).2 := fun x hx => by
        obtain ⟨i, hi, rfl⟩ := List.mem_map.mp hx
        have hi' := List.mem_range.mp hi
        exact sure_side h (lonAt_sure h t en) (by omega) (by omega)
      show chg (a :: (t, sd e t) :: sides (cells e (t + lonAt e t en + 1) en)) = _
      rw [chg_two, chg_two, ih, chg_run run]
    · rw [cells_end (by omega), show (en + 1 - t).toNat = 0 by omega]
      rfl
/-- THE LAW'S HEART: the changes of the longest paper are those of all ticks -/
theorem chg_cells {n : Nat} {e : E} (h : Ok n false e) {t en : Int} (o : t ≤ en) : chg (sides (cells e t en)) = chg (tk e t (en + 1 - t).toNat) := by
  have q := chg_cells0 h en _ t (t, sd e t) (Nat.le_refl _)
  obtain ⟨m, hm⟩ : ∃ m, (en + 1 - t).toNat = m + 1 := ⟨(en - t).toNat, by omega⟩
  rw [hm, tk_cons] at q ⊢
  rw [cells_go o] at q ⊢
  have c : sides ((t, lonAt e t en, sd e t) :: cells e (t + lonAt e t en + 1) en) = (t, sd e t) :: sides (cells e (t + lonAt e t en + 1) en) := rfl
  rw [c] at q ⊢
  rw [chg_two, chg_two] at q
  simpa using q
end Ta

/-! The text by places. -/
namespace Ta
open PySem PySem.Spec PyProof.Rows L2
def topS (i : Nat) : Stmt := PySem.Challenge.pw_truealmanac_k06_whole_changes_and_papers.main.body.getD i (.Pass ⟨0, 0, 0, 0⟩)
abbrev sArch : Stmt := topS 4
theorem scArch : FnScope ["u"] ["u"] (defScope sArch) := ⟨rfl, rfl, rfl, by decide +kernel, rfl, by decide +kernel, by decide +kernel⟩
abbrev sWave : Stmt := topS 5
theorem scWave : FnScope ["x", "quarter", "u"] ["x"] (defScope sWave) := ⟨rfl, rfl, rfl, by decide +kernel, rfl, by decide +kernel, by decide +kernel⟩
abbrev sWaveReach : Stmt := topS 6
theorem scWaveReach : FnScope ["distance"] ["distance"] (defScope sWaveReach) := ⟨rfl, rfl, rfl, by decide +kernel, rfl, by decide +kernel, by decide +kernel⟩
abbrev sRatioUp : Stmt := topS 7
theorem scRatioUp : FnScope ["number", "divisor"] ["number", "divisor"] (defScope sRatioUp) := ⟨rfl, rfl, rfl, by decide +kernel, rfl, by decide +kernel, by decide +kernel⟩
abbrev sNInit : Stmt := inClass (topS 9) 0
theorem scNInit : FnScope ["self", "expression", "part"] ["self", "expression"] (defScope sNInit) := ⟨rfl, rfl, rfl, by decide +kernel, rfl, by decide +kernel, by decide +kernel⟩
abbrev sNFindMost : Stmt := inClass (topS 9) 1
theorem scNFindMost : FnScope ["self", "part"] ["self"] (defScope sNFindMost) := ⟨rfl, rfl, rfl, by decide +kernel, rfl, by decide +kernel, by decide +kernel⟩
abbrev sNReach : Stmt := inClass (topS 9) 2
theorem scNReach : FnScope ["self", "k"] ["self", "k"] (defScope sNReach) := ⟨rfl, rfl, rfl, by decide +kernel, rfl, by decide +kernel, by decide +kernel⟩
abbrev sNAngleReach : Stmt := inClass (topS 9) 3
theorem scNAngleReach : FnScope ["self", "k", "_", "n", "d", "part"] ["self", "k"] (defScope sNAngleReach) := ⟨rfl, rfl, rfl, by decide +kernel, rfl, by decide +kernel, by decide +kernel⟩
abbrev sNPlainReach : Stmt := inClass (topS 9) 4
theorem scNPlainReach : FnScope ["self", "k", "first", "second", "change", "part"] ["self", "k"] (defScope sNPlainReach) := ⟨rfl, rfl, rfl, by decide +kernel, rfl, by decide +kernel, by decide +kernel⟩
abbrev sReach : Stmt := topS 10
theorem scReach : FnScope ["q", "k"] ["q", "k"] (defScope sReach) := ⟨rfl, rfl, rfl, by decide +kernel, rfl, by decide +kernel, by decide +kernel⟩
abbrev sAngleValue : Stmt := topS 12
theorem scAngleValue : FnScope ["a", "t", "_", "s", "n", "d"] ["a", "t"] (defScope sAngleValue) := ⟨rfl, rfl, rfl, by decide +kernel, rfl, by decide +kernel, by decide +kernel⟩
abbrev sValue : Stmt := topS 13
theorem scValue : FnScope ["q", "t", "kind", "part"] ["q", "t"] (defScope sValue) := ⟨rfl, rfl, rfl, by decide +kernel, rfl, by decide +kernel, by decide +kernel⟩
abbrev sIsSure : Stmt := topS 15
theorem scIsSure : FnScope ["node", "now", "k"] ["node", "now", "k"] (defScope sIsSure) := ⟨rfl, rfl, rfl, by decide +kernel, rfl, by decide +kernel, by decide +kernel⟩
abbrev sLongest : Stmt := topS 16
theorem scLongest : FnScope ["node", "now", "room", "good", "bad", "middle"] ["node", "now", "room"] (defScope sLongest) := ⟨rfl, rfl, rfl, by decide +kernel, rfl, by decide +kernel, by decide +kernel⟩
abbrev sSidedCells : Stmt := topS 17
theorem scSidedCells : FnScope ["q", "start", "end", "node", "cells", "t", "now", "k"] ["q", "start", "end"] (defScope sSidedCells) := ⟨rfl, rfl, rfl, by decide +kernel, rfl, by decide +kernel, by decide +kernel⟩
abbrev sPaper : Stmt := topS 18
theorem scPaper : FnScope ["q", "start", "end", "t", "k", "_"] ["q", "start", "end"] (defScope sPaper) := ⟨rfl, rfl, rfl, by decide +kernel, rfl, by decide +kernel, by decide +kernel⟩
abbrev sSideName : Stmt := topS 19
theorem scSideName : FnScope ["is_up"] ["is_up"] (defScope sSideName) := ⟨rfl, rfl, rfl, by decide +kernel, rfl, by decide +kernel, by decide +kernel⟩
abbrev sChanges : Stmt := topS 20
theorem scChanges : FnScope ["q", "start", "end", "cells", "found", "before", "after"] ["q", "start", "end"] (defScope sChanges) := ⟨rfl, rfl, rfl, by decide +kernel, rfl, by decide +kernel, by decide +kernel⟩
abbrev sIsSureCell : Stmt := topS 22
theorem scIsSureCell : FnScope ["q", "t", "k", "now"] ["q", "t", "k"] (defScope sIsSureCell) := ⟨rfl, rfl, rfl, by decide +kernel, rfl, by decide +kernel, by decide +kernel⟩
abbrev sTakes : Stmt := topS 23
theorem scTakes : FnScope ["q", "start", "end", "cells", "expected", "t", "k"] ["q", "start", "end", "cells"] (defScope sTakes) := ⟨rfl, rfl, rfl, by decide +kernel, rfl, by decide +kernel, by decide +kernel⟩
abbrev sChangesOf : Stmt := topS 24
theorem scChangesOf : FnScope ["q", "cells", "sides", "t", "_", "found", "before", "after"] ["q", "cells"] (defScope sChangesOf) := ⟨rfl, rfl, rfl, by decide +kernel, rfl, by decide +kernel, by decide +kernel⟩
abbrev sLStart : Stmt := topS 26
theorem scLStart : FnScope ["_law_script", "_law_cell"] ["_law_script"] (defScope sLStart) := ⟨rfl, rfl, rfl, by decide +kernel, rfl, by decide +kernel, by decide +kernel⟩
abbrev sLDraw : Stmt := topS 27
theorem scLDraw : FnScope ["_law_state", "_law_bound", "_law_cell", "_law_number_here"] ["_law_state", "_law_bound"] (defScope sLDraw) := ⟨rfl, rfl, rfl, by decide +kernel, rfl, by decide +kernel, by decide +kernel⟩
abbrev sLPick : Stmt := topS 28
theorem scLPick : FnScope ["_law_state", "_law_things"] ["_law_state", "_law_things"] (defScope sLPick) := ⟨rfl, rfl, rfl, by decide +kernel, rfl, by decide +kernel, by decide +kernel⟩
abbrev sLIsNumber : Stmt := topS 29
theorem scLIsNumber : FnScope ["_law_thing"] ["_law_thing"] (defScope sLIsNumber) := ⟨rfl, rfl, rfl, by decide +kernel, rfl, by decide +kernel, by decide +kernel⟩
abbrev sLIs : Stmt := topS 30
theorem scLIs : FnScope ["_law_actual", "_law_due"] ["_law_actual", "_law_due"] (defScope sLIs) := ⟨rfl, rfl, rfl, by decide +kernel, rfl, by decide +kernel, by decide +kernel⟩
abbrev sLNumber : Stmt := topS 31
theorem scLNumber : FnScope ["_law_state"] ["_law_state"] (defScope sLNumber) := ⟨rfl, rfl, rfl, by decide +kernel, rfl, by decide +kernel, by decide +kernel⟩
abbrev sLDivisor : Stmt := topS 32
theorem scLDivisor : FnScope ["_law_state"] ["_law_state"] (defScope sLDivisor) := ⟨rfl, rfl, rfl, by decide +kernel, rfl, by decide +kernel, by decide +kernel⟩
abbrev sLAngle : Stmt := topS 33
theorem scLAngle : FnScope ["_law_state", "_law_deep", "_law_kind", "_law_speed"] ["_law_state", "_law_deep"] (defScope sLAngle) := ⟨rfl, rfl, rfl, by decide +kernel, rfl, by decide +kernel, by decide +kernel⟩
abbrev sLQuantity : Stmt := topS 34
theorem scLQuantity : FnScope ["_law_state", "_law_deep", "_law_kind", "_law_k"] ["_law_state", "_law_deep"] (defScope sLQuantity) := ⟨rfl, rfl, rfl, by decide +kernel, rfl, by decide +kernel, by decide +kernel⟩
abbrev sLWavePart : Stmt := topS 35
theorem scLWavePart : FnScope ["_law_state", "_law_speed"] ["_law_state"] (defScope sLWavePart) := ⟨rfl, rfl, rfl, by decide +kernel, rfl, by decide +kernel, by decide +kernel⟩
abbrev sLSeries : Stmt := topS 36
theorem scLSeries : FnScope ["_law_state", "_law_parts", "_law_k", "_law_part", "_law_kind"] ["_law_state"] (defScope sLSeries) := ⟨rfl, rfl, rfl, by decide +kernel, rfl, by decide +kernel, by decide +kernel⟩
abbrev sLArch : Stmt := topS 37
theorem scLArch : FnScope ["_law_u", "_law_q"] ["_law_u"] (defScope sLArch) := ⟨rfl, rfl, rfl, by decide +kernel, rfl, by decide +kernel, by decide +kernel⟩
abbrev sLWave : Stmt := topS 38
theorem scLWave : FnScope ["_law_x"] ["_law_x"] (defScope sLWave) := ⟨rfl, rfl, rfl, by decide +kernel, rfl, by decide +kernel, by decide +kernel⟩
abbrev sLAngleAt : Stmt := topS 39
theorem scLAngleAt : FnScope ["_law_a", "_law_t"] ["_law_a", "_law_t"] (defScope sLAngleAt) := ⟨rfl, rfl, rfl, by decide +kernel, rfl, by decide +kernel, by decide +kernel⟩
abbrev sLValue : Stmt := topS 40
theorem scLValue : FnScope ["_law_q", "_law_t", "_law_part"] ["_law_q", "_law_t"] (defScope sLValue) := ⟨rfl, rfl, rfl, by decide +kernel, rfl, by decide +kernel, by decide +kernel⟩
abbrev sLUp : Stmt := topS 41
theorem scLUp : FnScope ["_law_number_here", "_law_divisor_here"] ["_law_number_here", "_law_divisor_here"] (defScope sLUp) := ⟨rfl, rfl, rfl, by decide +kernel, rfl, by decide +kernel, by decide +kernel⟩
abbrev sLMost : Stmt := topS 42
theorem scLMost : FnScope ["_law_q", "_law_part"] ["_law_q"] (defScope sLMost) := ⟨rfl, rfl, rfl, by decide +kernel, rfl, by decide +kernel, by decide +kernel⟩
abbrev sLAngleReach : Stmt := topS 43
theorem scLAngleReach : FnScope ["_law_a", "_law_k"] ["_law_a", "_law_k"] (defScope sLAngleReach) := ⟨rfl, rfl, rfl, by decide +kernel, rfl, by decide +kernel, by decide +kernel⟩
abbrev sLReach : Stmt := topS 44
theorem scLReach : FnScope ["_law_q", "_law_k", "_law_found", "_law_distance", "_law_part", "_law_change"] ["_law_q", "_law_k"] (defScope sLReach) := ⟨rfl, rfl, rfl, by decide +kernel, rfl, by decide +kernel, by decide +kernel⟩
abbrev sLChanges : Stmt := topS 45
theorem scLChanges : FnScope ["_law_q", "_law_start_here", "_law_end", "_law_found", "_law_before", "_law_t", "_law_now"] ["_law_q", "_law_start_here", "_law_end"] (defScope sLChanges) := ⟨rfl, rfl, rfl, by decide +kernel, rfl, by decide +kernel, by decide +kernel⟩
abbrev sLSure : Stmt := topS 46
theorem scLSure : FnScope ["_law_q", "_law_now", "_law_k"] ["_law_q", "_law_now", "_law_k"] (defScope sLSure) := ⟨rfl, rfl, rfl, by decide +kernel, rfl, by decide +kernel, by decide +kernel⟩
abbrev sLLongest : Stmt := topS 47
theorem scLLongest : FnScope ["_law_q", "_law_t", "_law_room", "_law_now", "_law_low", "_law_high", "_law_step", "_law_middle"] ["_law_q", "_law_t", "_law_room"] (defScope sLLongest) := ⟨rfl, rfl, rfl, by decide +kernel, rfl, by decide +kernel, by decide +kernel⟩
abbrev sLaw : Stmt := topS 48
theorem scLaw : FnScope ["_law_script", "_law_state", "_law_q", "_law_start_here", "_law_end", "_law_due", "_law_found", "_law_cells", "_law_t", "_law_cell", "_law_kept"] ["_law_script"] (defScope sLaw) := ⟨rfl, rfl, rfl, by decide +kernel, rfl, by decide +kernel, by decide +kernel⟩
end Ta

set_option maxHeartbeats 4000000
/-! Callable defs, heaps, expressions and nodes in the heap. -/
namespace Ta
open PySem PySem.Spec PyProof.Rows L2
/-! ### defs as they stand -/
abbrev FnP (K : PySem.W.Frag) (x : Str) (qual : Str) (st : Stmt) (f : Addr) (fd : FuncData) : Prop := FunD K x qual (defArgs st) (defBody st) (defScope st) [] [] f fd
section
variable {P : Program} {w : World} {K : PySem.W.Frag} {mg : Str → Option Value} {base : Heap}
theorem FnP_ok {x qual : Str} {st : Stmt} {f : Addr} {fd : FuncData} {N ps : List Str} {k : Nat} {sp : Sp} (F : FnP K x qual st f fd) (S : FnScope N ps (defScope st)) (len : ∀ vs H Q E, sp vs H Q E → vs.length = ps.length)
    (hbody : ∀ (cdv : Value) (A : Around) (outer : List Env) (s : Shared) (H : Hp) (vs : List V) (Q : VK) (E : XK), Room k (A.deeper (envOfC qual (defScope st) s.heap.objs.size f cdv)) → sp vs H Q E →
      ∃ t, PSs (cxOf CX0 P w K mg base N qual (defScope st) f cdv A outer s H E).nox (defBody st) t ∧ t { nx := fun _ H' => Q .non H', rt := Q } (start N vs) H) : FnOk P w K mg base CX0 (k + 1) f fd ps sp := by
  refine FunD.ok F S len fun cdv A outer s H vs Q E hr h => ?_
  obtain ⟨t, p, q⟩ := hbody cdv A outer s H vs Q E hr h
  exact ⟨t, p.nox, q⟩
end
/-- a module's def that keeps its promise -/
structure Cal (P : Program) (w : World) (K : PySem.W.Frag) (mg : Str → Option Value) (base : Heap) (k : Nat) (x : Str) (ps : List Str) (sp : Sp) : Prop where
  ex : ∃ (f : Addr) (fd : FuncData), mg x = some (.ref f) ∧ PySem.W.keepIn K (.ref f) = true ∧ Binds K fd ps [] ∧ FnOk P w K mg base CX0 k f fd ps sp
/-- where it stands -/
structure Dn (K : PySem.W.Frag) (mg : Str → Option Value) (x : Str) (st : Stmt) (ps : List Str) (f : Addr) (fd : FuncData) : Prop where
  F : FnP K x x st f fd
  g : mg x = some (.ref f)
  b : Binds K fd ps []
theorem Dn.cal {P : Program} {w : World} {K : PySem.W.Frag} {mg : Str → Option Value} {base : Heap} {k : Nat} {x : Str} {st : Stmt} {ps : List Str} {f : Addr} {fd : FuncData} {sp : Sp} (D : Dn K mg x st ps f fd)
    (h : FnOk P w K mg base CX0 k f fd ps sp) : Cal P w K mg base k x ps sp := ⟨f, fd, D.g, D.F.kp, D.b, h⟩
/-- a method of Node -/
structure Dm (K : PySem.W.Frag) (C : Addr) (x qual : Str) (st : Stmt) (ps : List Str) (f : Addr) (fd : FuncData) : Prop where
  F : FnP K x qual st f fd
  m : Meth K C x f
  b : Binds K fd ps []
structure CalM (P : Program) (w : World) (K : PySem.W.Frag) (mg : Str → Option Value) (base : Heap) (C : Addr) (k : Nat) (x : Str) (ps : List Str) (sp : Sp) : Prop where
  ex : ∃ (f : Addr) (fd : FuncData), Meth K C x f ∧ Binds K fd ps [] ∧ FnOk P w K mg base CX0 k f fd ps sp
theorem Dm.cal {P : Program} {w : World} {K : PySem.W.Frag} {mg : Str → Option Value} {base : Heap} {C : Addr} {k : Nat} {x qual : Str} {st : Stmt} {ps : List Str} {f : Addr} {fd : FuncData} {sp : Sp} (D : Dm K C x qual st ps f fd)
    (h : FnOk P w K mg base CX0 k f fd ps sp) : CalM P w K mg base C k x ps sp := ⟨f, fd, D.m, D.b, h⟩
/-- Node(..) -/
structure CalN (P : Program) (w : World) (K : PySem.W.Frag) (mg : Str → Option Value) (base : Heap) (C : Addr) (k : Nat) (ps : List Str) (sp : Sp) : Prop where
  ex : ∃ (f : Addr) (fd : FuncData), Mk K C f ∧ mg "Node" = some (.ref C) ∧ Binds K fd ps [] ∧ FnOk P w K mg base CX0 k f fd ps sp
section
variable {X : Cx} {k k' : Nat} {C : Addr} {ps : List Str} {sp : Sp} {x m : Str} {p pos apos : Pos} {e o : Expr} {es : List Expr} {ta : TE} {t : TA}
theorem pe_cl (c : Cal X.prog X.w X.K X.mg X.base k x ps sp) (hr : Room k' X.A) (hg : Gl X x) (ha : PA X (e :: es) t) (hk : k ≤ k' := by omega)
    (hdb : (x == ("__debug__" : Str)) = false := by decide) (he : starEach (e :: es) X.env = (false, eval e X.env) :: starEach es X.env := by rfl) (hpl : (backTo pos (starEach es X.env)).any (·.1) = false := by rfl) :
    PE X (.Call (.Name x p) (e :: es) [] pos) (tCall sp [] E0 t) := by
  obtain ⟨f, fd, g, kp, b, ok⟩ := c.ex
  exact pe_call ok (hr.mono hk) hg g kp b .nil pass0 ha hdb he hpl
theorem pe_clm {pl : Sem Bool} (c : CalM X.prog X.w X.K X.mg X.base C k m ps sp) (hr : Room k' X.A) (cl : Cls X.K C) (he : PE X o ta) (ha : PA X (e :: es) t) (hk : k ≤ k' := by omega)
    (hst : starEach (e :: es) X.env = (false, eval e X.env) :: starEach es X.env := by rfl) (hpl : (backTo pos (starEach es X.env)).any (·.1) = false := by rfl)
    (ht : eval (.Call (.Attribute o m apos) (e :: es) [] pos) X.env = (do
      let ov ← eval o X.env
      standAt apos.atName
      let (f, first) ← holding [ov] (getMethod ov m pl)
      callWith pos f first (backTo pos (starEach (e :: es) X.env)) (backToKw pos (keywordEach [] X.env))) := by rfl) :
    PE X (.Call (.Attribute o m apos) (e :: es) [] pos) (tMeth C m sp [] E0 ta t) := by
  obtain ⟨f, fd, g, b, ok⟩ := c.ex
  exact pe_meth he cl g ok (hr.mono hk) b .nil pass0 ha hst hpl ht
theorem pe_clm0 {pl : Sem Bool} (c : CalM X.prog X.w X.K X.mg X.base C k m ps sp) (hr : Room k' X.A) (cl : Cls X.K C) (he : PE X o ta) (hk : k ≤ k' := by omega)
    (ht : eval (.Call (.Attribute o m apos) [] [] pos) X.env = (do
      let ov ← eval o X.env
      standAt apos.atName
      let (f, first) ← holding [ov] (getMethod ov m pl)
      callWith pos f first (backTo pos (starEach [] X.env)) (backToKw pos (keywordEach [] X.env))) := by rfl) :
    PE X (.Call (.Attribute o m apos) [] [] pos) (tMeth C m sp [] E0 ta tNil) := by
  obtain ⟨f, fd, g, b, ok⟩ := c.ex
  exact pe_meth0 he cl g ok (hr.mono hk) b .nil pass0 ht
theorem pe_cln (c : CalN X.prog X.w X.K X.mg X.base C k ps sp) (hr : Room k' X.A) (hg : Gl X "Node") (ha : PA X (e :: es) t) (hk : k + 1 ≤ k' := by omega)
    (he : starEach (e :: es) X.env = (false, eval e X.env) :: starEach es X.env := by rfl) (hpl : (backTo pos (starEach es X.env)).any (·.1) = false := by rfl) :
    PE X (.Call (.Name "Node" p) (e :: es) [] pos) (tMake C sp [] E0 t) := by
  obtain ⟨f, fd, M, g, b, ok⟩ := c.ex
  exact pe_make M ok (hr.mono hk) hg g b .nil pass0 ha (by decide) he hpl
end
/-! ### heaps -/
/-- the tuples stay -/
def TS (H H' : Hp) : Prop := ∀ a xs, H a = some (.tup xs) → H' a = some (.tup xs)
theorem _root_.L2.Same.ts {H H' : Hp} (h : Same H H') : TS H H' := fun a xs e => h a _ e
theorem TS.refl (H : Hp) : TS H H := fun _ _ h => h
theorem TS.trans {H H1 H2 : Hp} (a : TS H H1) (b : TS H1 H2) : TS H H2 := fun c o h => b c o (a c o h)
theorem TS.new {H : Hp} {p : Addr} {o : HO} (h : H p = none) : TS H (upd H p o) := fun b x e => by
  rw [upd_ne (ne_of_none e h)]
  exact e
theorem same_new {H : Hp} {p : Addr} {o : HO} (h : H p = none) : Same H (upd H p o) := fun b x e => by
  rw [upd_ne (ne_of_none e h)]
  exact e
theorem same_then {H H1 : Hp} {p : Addr} {o : HO} (s : Same H H1) (h : H p = none) : Same H (upd H1 p o) := fun b x e => by
  rw [upd_ne (ne_of_none e h)]
  exact s b x e
/-! ### expressions in the heap -/
def isA : E → Bool
  | .turn _ _ _ => true
  | .moved _ _ => true
  | .minus _ _ => true
  | _ => false
def kindS : E → Str
  | .num _ => "number" | .wave _ => "wave" | .sum _ => "sum" | .share _ _ _ => "share" | .prod _ _ _ => "product" | .later _ _ => "later"
  | .turn _ _ _ => "turning" | .moved _ _ => "moved" | .minus _ _ => "minus"
def parts : E → List E
  | .num _ => [] | .wave a => [a] | .sum ps => ps | .share q _ _ => [q] | .prod q r _ => [q, r] | .later q _ => [q]
  | .turn _ _ _ => [] | .moved a q => [a, q] | .minus a b => [a, b]
def nums : E → List Int
  | .num n => [n] | .wave _ => [] | .sum _ => [] | .share _ n d => [n, d] | .prod _ _ d => [d] | .later _ n => [n]
  | .turn s n d => [s, n, d] | .moved _ _ => [] | .minus _ _ => []
mutual
def EAt (H : Hp) : E → V → Prop
  | .num n, x => ∃ a, x = .ref a ∧ H a = some (.tup [.str "number", .int n])
  | .wave e, x => ∃ a v, x = .ref a ∧ H a = some (.tup [.str "wave", v]) ∧ EAt H e v
  | .sum es, x => ∃ a vs, x = .ref a ∧ H a = some (.tup (.str "sum" :: vs)) ∧ EAts H es vs
  | .share q n d, x => ∃ a v, x = .ref a ∧ H a = some (.tup [.str "share", v, .int n, .int d]) ∧ EAt H q v
  | .prod q r d, x => ∃ a v u, x = .ref a ∧ H a = some (.tup [.str "product", v, u, .int d]) ∧ EAt H q v ∧ EAt H r u
  | .later q n, x => ∃ a v, x = .ref a ∧ H a = some (.tup [.str "later", v, .int n]) ∧ EAt H q v
  | .turn s n d, x => ∃ a, x = .ref a ∧ H a = some (.tup [.str "turning", .int s, .int n, .int d])
  | .moved q r, x => ∃ a v u, x = .ref a ∧ H a = some (.tup [.str "moved", v, u]) ∧ EAt H q v ∧ EAt H r u
  | .minus q r, x => ∃ a v u, x = .ref a ∧ H a = some (.tup [.str "minus", v, u]) ∧ EAt H q v ∧ EAt H r u
def EAts (H : Hp) : List E → List V → Prop
  | [], vs => vs = []
  | e :: es, vs => ∃ v r, vs = v :: r ∧ EAt H e v ∧ EAts H es r
end
mutual
theorem EAt.mono {H H' : Hp} (s : TS H H') : ∀ (e : E) {x : V}, EAt H e x → EAt H' e x
  | .num n, x, h => by obtain ⟨a, rfl, h⟩ := h; exact ⟨a, rfl, s _ _ h⟩
  | .wave e, x, h => by obtain ⟨a, v, rfl, h, h1⟩ := h; exact ⟨a, v, rfl, s _ _ h, EAt.mono s e h1⟩
  | .sum es, x, h => by obtain ⟨a, v, rfl, h, h1⟩ := h; exact ⟨a, v, rfl, s _ _ h, EAts.mono s es h1⟩
  | .share q n d, x, h => by obtain ⟨a, v, rfl, h, h1⟩ := h; exact ⟨a, v, rfl, s _ _ h, EAt.mono s q h1⟩
  | .prod q r d, x, h => by obtain ⟨a, v, u, rfl, h, h1, h2⟩ := h; exact ⟨a, v, u, rfl, s _ _ h, EAt.mono s q h1, EAt.mono s r h2⟩
  | .later q n, x, h => by obtain ⟨a, v, rfl, h, h1⟩ := h; exact ⟨a, v, rfl, s _ _ h, EAt.mono s q h1⟩
  | .turn _ _ _, x, h => by obtain ⟨a, rfl, h⟩ := h; exact ⟨a, rfl, s _ _ h⟩
  | .moved q r, x, h => by obtain ⟨a, v, u, rfl, h, h1, h2⟩ := h; exact ⟨a, v, u, rfl, s _ _ h, EAt.mono s q h1, EAt.mono s r h2⟩
  | .minus q r, x, h => by obtain ⟨a, v, u, rfl, h, h1, h2⟩ := h; exact ⟨a, v, u, rfl, s _ _ h, EAt.mono s q h1, EAt.mono s r h2⟩
theorem EAts.mono {H H' : Hp} (s : TS H H') : ∀ (es : List E) {vs : List V}, EAts H es vs → EAts H' es vs
  | [], vs, h => h
  | e :: es, vs, h => by obtain ⟨v, r, rfl, h1, h2⟩ := h; exact ⟨v, r, rfl, EAt.mono s e h1, EAts.mono s es h2⟩
end
theorem EAts.length {H : Hp} : ∀ {es : List E} {vs : List V}, EAts H es vs → vs.length = es.length
  | [], vs, h => by rw [show vs = [] from h]; rfl
  | e :: es, vs, h => by
    obtain ⟨v, r, rfl, _, h2⟩ := h
    rw [List.length_cons, List.length_cons, EAts.length h2]
theorem EAts.get {H : Hp} : ∀ {es : List E} {vs : List V}, EAts H es vs → ∀ {i : Nat} {v : V}, vs[i]? = some v → ∃ e, es[i]? = some e ∧ EAt H e v
  | [], vs, h, i, v, hv => by rw [show vs = [] from h] at hv; cases hv
  | e :: es, vs, h, 0, v, hv => by
    obtain ⟨u, r, rfl, h1, h2⟩ := h
    cases hv
    exact ⟨e, rfl, h1⟩
  | e :: es, vs, h, i + 1, v, hv => by
    obtain ⟨u, r, rfl, h1, h2⟩ := h
    exact EAts.get h2 (i := i) hv
theorem EAts.snoc {H : Hp} {e : E} {v : V} (h1 : EAt H e v) : ∀ {es : List E} {vs : List V}, EAts H es vs → EAts H (es ++ [e]) (vs ++ [v])
  | [], vs, h => by rw [show vs = [] from h]; exact ⟨v, [], rfl, h1, rfl⟩
  | e' :: es, vs, h => by
    obtain ⟨u, r, rfl, h1', h2⟩ := h
    exact ⟨u, r ++ [v], rfl, h1', EAts.snoc h1 h2⟩
/-- an expression is a tuple: its word, its parts, its numbers -/
theorem EAt.shape {H : Hp} {e : E} {x : V} (h : EAt H e x) : ∃ a vs, x = .ref a ∧ H a = some (.tup (.str (kindS e) :: (vs ++ (nums e).map V.int))) ∧ EAts H (parts e) vs := by
  cases e with
  | num n => obtain ⟨a, rfl, h⟩ := h; exact ⟨a, [], rfl, h, rfl⟩
  | wave e => obtain ⟨a, v, rfl, h, h1⟩ := h; exact ⟨a, [v], rfl, h, v, [], rfl, h1, rfl⟩
  | sum es => obtain ⟨a, vs, rfl, h, h1⟩ := h; exact ⟨a, vs, rfl, by rw [h]; simp [kindS, nums], h1⟩
  | share q n d => obtain ⟨a, v, rfl, h, h1⟩ := h; exact ⟨a, [v], rfl, h, v, [], rfl, h1, rfl⟩
  | prod q r d => obtain ⟨a, v, u, rfl, h, h1, h2⟩ := h; exact ⟨a, [v, u], rfl, h, v, [u], rfl, h1, u, [], rfl, h2, rfl⟩
  | later q n => obtain ⟨a, v, rfl, h, h1⟩ := h; exact ⟨a, [v], rfl, h, v, [], rfl, h1, rfl⟩
  | turn s n d => obtain ⟨a, rfl, h⟩ := h; exact ⟨a, [], rfl, h, rfl⟩
  | moved q r => obtain ⟨a, v, u, rfl, h, h1, h2⟩ := h; exact ⟨a, [v, u], rfl, h, v, [u], rfl, h1, u, [], rfl, h2, rfl⟩
  | minus q r => obtain ⟨a, v, u, rfl, h, h1, h2⟩ := h; exact ⟨a, [v, u], rfl, h, v, [u], rfl, h1, u, [], rfl, h2, rfl⟩
/-! ### texts -/
theorem txe {a b : Str} (h : decide (a = b) = false) : decide (V.str a = V.str b) = false := by
  have := of_decide_eq_false h
  exact decide_eq_false fun z => this (V.str.inj z)
theorem txt (a : Str) : decide (V.str a = V.str a) = true := decide_eq_true rfl
/-- a test of an unlike text, of a like one -/
theorem txF {a b : Str} {A B : Prop} (h : decide (a = b) = false) (hB : B) : if decide (V.str a = V.str b) = true then A else B := by
  rw [txe h]; exact iteF hB
theorem txT {a : Str} {A B : Prop} (hA : A) : if decide (V.str a = V.str a) = true then A else B := by
  rw [txt]; exact iteT hA
/-! ### lists of ints made by a comprehension -/
theorem lc_ints_list {K : PySem.W.Frag} {a : Addr} {xs : List V} {tt : TT} {te : TE} {vs : List Nat} {g : TG} {σ : L2.St} {H1 : Hp} {D : Addr} {Qd : Hp → Prop} (ns : List Int) (hl : xs.length = ns.length) (hz : xs.length ≤ 1000) (hD : H1 D = none) (hS : SqL K H1 a xs)
    (ht : ∀ (i : Nat) (v : V) (n : Int) (H : Hp), xs[i]? = some v → ns[i]? = some n → Same H1 H → ∀ Q : VK, (∀ H', Same H H' → Q (.int n) H') → g v (wipe σ vs) H fun σ2 H2 => wipe σ2 vs = wipe σ vs ∧ tt σ2 H2 fun b H3 => b = true ∧ te σ2 H3 Q)
    (hmono : ∀ (v : V) (σ : L2.St) (H : Hp) (Q Q' : L2.St → Hp → Prop), (∀ σ H, Q σ H → Q' σ H) → g v σ H Q → g v σ H Q') (hmt : ∀ (σ : L2.St) (H : Hp) (Q Q' : Bool → Hp → Prop), (∀ b H, Q b H → Q' b H) → tt σ H Q → tt σ H Q')
    (hd : ∀ H, Same H1 H → H D = some (.lst (ns.map V.int)) → Qd H) :
    ∃ W : Nat → Nat → Hp → Prop, (∃ m, W 0 m (upd H1 D (.lst []))) ∧ ∀ i m H, W i m H →
      ((Itl K a).stop i H ∧ Qd H) ∨ ((Itl K a).go i H ∧ ∃ Nx : Hp → Prop, (∀ H', Nx H' → ∃ m', m' < m ∧ W (i + 1) m' H') ∧ ∀ x H', (Itl K a).yld i H x H' → g x (wipe σ vs) H' fun σ2 H2 => wipe σ2 vs = wipe σ vs ∧ tt σ2 H2 fun b H3 =>
        if b = true then te σ2 H3 fun y H4 => ∃ acc, H4 D = some (.lst acc) ∧ acc.length < sizeLine ∧ Nx (upd H4 D (.lst (acc ++ [y]))) else Nx H3) := by
  refine lc_list (K := K) (a := a) (xs := xs) (fun i H => Same H1 H ∧ H D = some (.lst ((ns.take i).map V.int))) ⟨same_new hD, by rw [upd_same]; rfl⟩ (fun i H _ h => h.1.seq hS) (fun i v H hi h => ?_) fun H h => hd H h.1 (by rw [hl, List.take_length] at h; exact h.2)
  obtain ⟨h1, h2⟩ := h
  have hil : i < ns.length := by rw [← hl]; exact (List.getElem?_eq_some_iff.mp hi).1
  have hn : ns[i]? = some ns[i] := List.getElem?_eq_getElem hil
  refine hmono _ _ _ _ _ (fun σ2 H2 q => ⟨q.1, hmt _ _ _ _ (fun b H3 q => ?_) q.2⟩) (ht i v ns[i] H hi hn h1 (fun y H4 => ∃ acc, H4 D = some (.lst acc) ∧ acc.length < sizeLine ∧ Same H1 (upd H4 D (.lst (acc ++ [y]))) ∧ (upd H4 D (.lst (acc ++ [y]))) D = some (.lst ((ns.take (i + 1)).map V.int))) fun H' s' => ?_)
  · rw [q.1]; exact iteT q.2
  · refine ⟨(ns.take i).map V.int, s' _ _ h2, ?_, same_then (h1.trans s') hD, ?_⟩
    · rw [List.length_map, List.length_take]
      exact small1000 (Nat.le_trans (Nat.min_le_right _ _) (by rw [← hl]; exact hz))
    · rw [upd_same, List.take_add_one, hn, List.map_append]
      rfl
theorem lc_ints_tup {K : PySem.W.Frag} {a : Addr} {xs : List V} {tt : TT} {te : TE} {vs : List Nat} {g : TG} {σ : L2.St} {H1 : Hp} {D : Addr} {Qd : Hp → Prop} (ns : List Int) (hl : xs.length = ns.length) (hz : xs.length ≤ 1000) (hD : H1 D = none) (hS : H1 a = some (.tup xs))
    (ht : ∀ (i : Nat) (v : V) (n : Int) (H : Hp), xs[i]? = some v → ns[i]? = some n → Same H1 H → ∀ Q : VK, (∀ H', Same H H' → Q (.int n) H') → g v (wipe σ vs) H fun σ2 H2 => wipe σ2 vs = wipe σ vs ∧ tt σ2 H2 fun b H3 => b = true ∧ te σ2 H3 Q)
    (hmono : ∀ (v : V) (σ : L2.St) (H : Hp) (Q Q' : L2.St → Hp → Prop), (∀ σ H, Q σ H → Q' σ H) → g v σ H Q → g v σ H Q') (hmt : ∀ (σ : L2.St) (H : Hp) (Q Q' : Bool → Hp → Prop), (∀ b H, Q b H → Q' b H) → tt σ H Q → tt σ H Q')
    (hd : ∀ H, Same H1 H → H D = some (.lst (ns.map V.int)) → Qd H) :
    ∃ W : Nat → Nat → Hp → Prop, (∃ m, W 0 m (upd H1 D (.lst []))) ∧ ∀ i m H, W i m H →
      ((Itt K a).stop i H ∧ Qd H) ∨ ((Itt K a).go i H ∧ ∃ Nx : Hp → Prop, (∀ H', Nx H' → ∃ m', m' < m ∧ W (i + 1) m' H') ∧ ∀ x H', (Itt K a).yld i H x H' → g x (wipe σ vs) H' fun σ2 H2 => wipe σ2 vs = wipe σ vs ∧ tt σ2 H2 fun b H3 =>
        if b = true then te σ2 H3 fun y H4 => ∃ acc, H4 D = some (.lst acc) ∧ acc.length < sizeLine ∧ Nx (upd H4 D (.lst (acc ++ [y]))) else Nx H3) := by
  refine lc_tup (K := K) (a := a) (xs := xs) (fun i H => Same H1 H ∧ H D = some (.lst ((ns.take i).map V.int))) ⟨same_new hD, by rw [upd_same]; rfl⟩ (fun i H _ h => SqT.of (h.1 _ _ hS)) (fun i v H hi h => ?_) fun H h => hd H h.1 (by rw [hl, List.take_length] at h; exact h.2)
  obtain ⟨h1, h2⟩ := h
  have hil : i < ns.length := by rw [← hl]; exact (List.getElem?_eq_some_iff.mp hi).1
  have hn : ns[i]? = some ns[i] := List.getElem?_eq_getElem hil
  refine hmono _ _ _ _ _ (fun σ2 H2 q => ⟨q.1, hmt _ _ _ _ (fun b H3 q => ?_) q.2⟩) (ht i v ns[i] H hi hn h1 (fun y H4 => ∃ acc, H4 D = some (.lst acc) ∧ acc.length < sizeLine ∧ Same H1 (upd H4 D (.lst (acc ++ [y]))) ∧ (upd H4 D (.lst (acc ++ [y]))) D = some (.lst ((ns.take (i + 1)).map V.int))) fun H' s' => ?_)
  · rw [q.1]; exact iteT q.2
  · refine ⟨(ns.take i).map V.int, s' _ _ h2, ?_, same_then (h1.trans s') hD, ?_⟩
    · rw [List.length_map, List.length_take]
      exact small1000 (Nat.le_trans (Nat.min_le_right _ _) (by rw [← hl]; exact hz))
    · rw [upd_same, List.take_add_one, hn, List.map_append]
      rfl
end Ta

set_option maxHeartbeats 4000000
/-! The defs that call no other, or leaves alone. -/
namespace Ta
open PySem PySem.Spec PyProof.Rows L2
/-- what the module's names stand for -/
structure Txt (mg : Str → Option Value) : Prop where
  turn : ∃ t, mg "TURN" = some (.int 1296000 t)
  quarter : ∃ t, mg "QUARTER" = some (.int 324000 t)
  one : ∃ t, mg "ONE" = some (.int 1000000 t)
  divmod : mg "divmod" = none
  abs : mg "abs" = none
  isinstance : mg "isinstance" = none
  tuple : mg "tuple" = none
  sum : mg "sum" = none
  min : mg "min" = none
  max : mg "max" = none
  zip : mg "zip" = none
  len : mg "len" = none
  range : mg "range" = none
  int : mg "int" = none
  list : mg "list" = none
  bool : mg "bool" = none
theorem pe_gi {X : Cx} {x : Str} {i : Int} {pos : Pos} (h : ∃ t, X.mg x = some (.int i t)) (hg : Gl X x) (hd : (x == ("__debug__" : Str)) = false := by decide) : PE X (.Name x pos) (tC (.int i)) := by
  obtain ⟨t, e⟩ := h
  exact pe_glob hg e ⟨_, rfl⟩ hd
theorem iI {a b : Int} {A B : Prop} (h1 : a = b → A) (h2 : a ≠ b → B) : if decide (V.int a = V.int b) = true then A else B := by
  by_cases e : a = b
  · rw [decide_eq_true (congrArg V.int e)]; exact iteT (h1 e)
  · rw [decide_eq_false fun z => e (V.int.inj z)]; exact iteF (h2 e)
theorem iN {a b : Int} {A B : Prop} (h1 : a ≠ b → A) (h2 : a = b → B) : if (!decide (V.int a = V.int b)) = true then A else B := by
  by_cases e : a = b
  · rw [decide_eq_true (congrArg V.int e)]; exact iteF (h2 e)
  · rw [decide_eq_false fun z => e (V.int.inj z)]; exact iteT (h1 e)
theorem iD {p A B : Prop} [Decidable p] (h1 : p → A) (h2 : ¬ p → B) : if decide p = true then A else B := by
  by_cases e : p
  · rw [decide_eq_true e]; exact iteT (h1 e)
  · rw [decide_eq_false e]; exact iteF (h2 e)
section
variable {P : Program} {w : World} {K : PySem.W.Frag} {mg : Str → Option Value} {base : Heap}
theorem cdiv_lit {i j : Int} (h : 0 < j) (h2 : j < 18446744073709551616) : CDivW i j := wide_div h (b := 64) (by omega) (by decide) (by decide)
theorem cmul_l {i j : Int} (h1 : -18446744073709551616 < i) (h2 : i < 18446744073709551616) : CMul i j := .inl ⟨h1, h2⟩
theorem cmul_r {i j : Int} (h1 : -18446744073709551616 < j) (h2 : j < 18446744073709551616) : CMul i j := .inr ⟨h1, h2⟩
/-! arch -/
def spArch : Sp := fun vs H Q _ => ∃ u : Int, vs = [.int u] ∧ 0 ≤ u ∧ u ≤ 324000 ∧ Q (.int (arch u)) H
theorem ok_arch {f : Addr} {fd : FuncData} (F : FnP K "arch" "arch" sArch f fd) (T : Txt mg) : FnOk P w K mg base CX0 1 f fd ["u"] spArch := by
  refine FnP_ok F scArch (fun vs H Q E h => ?_) (fun cdv A outer s H vs Q E hr h => ?_)
  · obtain ⟨u, rfl, _⟩ := h; rfl
  · obtain ⟨u, rfl, h0, h1, q⟩ := h
    refine ⟨_, pss_one (ps_ret (pe_op op_fdivW
      (pe_op op_mul (pe_op op_mul (pe_gi T.one rfl) (pv 0)) (pe_op op_sub (pe_op op_mul (pe_op op_mul pe_int (pe_gi T.quarter rfl)) (pe_gi T.quarter rfl)) (pe_op op_mul (pv 0) (pv 0))))
      (pe_op op_mul (pe_op op_mul (pe_op op_mul pe_int (pe_gi T.quarter rfl)) (pe_gi T.quarter rfl)) (pe_gi T.quarter rfl)))), ?_⟩
    have m1 : 0 ≤ u * u := Int.mul_nonneg h0 h0
    have m2 : u * u ≤ 324000 * u := Int.mul_le_mul_of_nonneg_right h1 h0
    refine ⟨.int u, rfl, 1000000, u, rfl, rfl, cmul_l (by decide) (by decide), ?_⟩
    refine ⟨3, 324000, rfl, rfl, cmul_l (by decide) (by decide), 3 * 324000, 324000, rfl, rfl, cmul_l (by decide) (by decide), .int u, rfl, .int u, rfl, u, u, rfl, rfl, cmul_l (by omega) (by omega), 3 * 324000 * 324000, u * u, rfl, rfl, ?_⟩
    refine ⟨1000000 * u, 3 * 324000 * 324000 - u * u, rfl, rfl, cmul_l (by omega) (by omega), ?_⟩
    refine ⟨2, 324000, rfl, rfl, cmul_l (by decide) (by decide), 2 * 324000, 324000, rfl, rfl, cmul_l (by decide) (by decide), 2 * 324000 * 324000, 324000, rfl, rfl, cmul_l (by decide) (by decide), _, _, rfl, rfl, cdiv_lit (by decide) (by decide), ?_⟩
    exact q
/-! wave -/
def spWave : Sp := fun vs H Q _ => ∃ x : Int, vs = [.int x] ∧ ∀ H', Same H H' → Q (.int (wave x)) H'
theorem ok_wave {f : Addr} {fd : FuncData} (F : FnP K "wave" "wave" sWave f fd) (T : Txt mg) (cA : Cal P w K mg base 1 "arch" ["u"] spArch) : FnOk P w K mg base CX0 2 f fd ["x"] spWave := by
  refine FnP_ok F scWave (fun vs H Q E h => ?_) (fun cdv A outer s H vs Q E hr h => ?_)
  · obtain ⟨u, rfl, _⟩ := h; rfl
  · obtain ⟨x, rfl, q⟩ := h
    refine ⟨_, pss_cons (ps_asg (pe_callB call_divmod (by rfl) T.divmod (by decide +kernel) (pa_cons (pe_op op_mod (pv 0) (pe_gi T.turn rfl)) (pa_cons (pe_gi T.quarter rfl) pa_nil)))
        (pg_tup rfl (pgs_cons (pg_name (i := 1) scWave.nd rfl (.inl rfl)) (pgs_cons (pg_name (i := 2) scWave.nd rfl (.inl rfl)) pgs_nil))))
      (pss_cons (ps_if (pt_cmpR op_eq (pv 1) pe_int (nomark _)) (pss_one (ps_ret (pe_cl cA hr rfl (pa_cons (pv 2) pa_nil)))) pss_nil)
      (pss_cons (ps_if (pt_cmpR op_eq (pv 1) pe_int (nomark _)) (pss_one (ps_ret (pe_cl cA hr rfl (pa_cons (pe_op op_sub (pe_gi T.quarter rfl) (pv 2)) pa_nil)))) pss_nil)
      (pss_cons (ps_if (pt_cmpR op_eq (pv 1) pe_int (nomark _)) (pss_one (ps_ret (pe_un un_neg (pe_cl cA hr rfl (pa_cons (pv 2) pa_nil))))) pss_nil)
      (pss_one (ps_ret (pe_un un_neg (pe_cl cA hr rfl (pa_cons (pe_op op_sub (pe_gi T.quarter rfl) (pv 2)) pa_nil)))))))), ?_⟩
    refine ⟨.int x, rfl, x, 1296000, rfl, rfl, (by decide : (0 : Int) < 1296000), x % 1296000, 324000, rfl, ⟨by decide, by decide⟩, fun p hp => ?_⟩
    have hs := same_new (o := .tup [.int (x % 1296000 / 324000), .int (x % 1296000 % 324000)]) hp
    refine ⟨p, [.int (x % 1296000 / 324000), .int (x % 1296000 % 324000)], rfl, SqT.of upd_same, rfl, .int (x % 1296000 / 324000), [.int (x % 1296000 % 324000)], rfl, .int (x % 1296000 % 324000), [], rfl, rfl, ?_⟩
    have hu : 0 ≤ x % 1296000 % 324000 ∧ x % 1296000 % 324000 < 324000 := by omega
    have qq : ∀ v : Int, v = wave x → Q (.int v) (upd H p (.tup [.int (x % 1296000 / 324000), .int (x % 1296000 % 324000)])) := fun v e => by rw [e]; exact q _ hs
    refine ⟨_, rfl, rfl, _, rfl, iI (fun e => ?_) (fun e => ?_)⟩
    · exact ⟨_, rfl, _, rfl, hu.1, by omega, qq _ (by unfold wave; rw [if_pos e])⟩
    refine ⟨_, rfl, rfl, _, rfl, iI (fun e1 => ?_) (fun e1 => ?_)⟩
    · exact ⟨_, rfl, _, _, rfl, rfl, _, rfl, by omega, by omega, qq _ (by unfold wave; rw [if_neg e, if_pos e1])⟩
    refine ⟨_, rfl, rfl, _, rfl, iI (fun e2 => ?_) (fun e2 => ?_)⟩
    · exact ⟨_, rfl, _, rfl, hu.1, by omega, _, rfl, qq _ (by unfold wave; rw [if_neg e, if_neg e1, if_pos e2])⟩
    · exact ⟨_, rfl, _, _, rfl, rfl, _, rfl, by omega, by omega, _, rfl, qq _ (by unfold wave; rw [if_neg e, if_neg e1, if_neg e2])⟩
/-! wave_reach, ratio_up, side_name -/
def spWR : Sp := fun vs H Q _ => ∃ d : Int, vs = [.int d] ∧ Q (.int (wreach d)) H
theorem ok_wr {f : Addr} {fd : FuncData} (F : FnP K "wave_reach" "wave_reach" sWaveReach f fd) : FnOk P w K mg base CX0 1 f fd ["distance"] spWR := by
  refine FnP_ok F scWaveReach (fun vs H Q E h => ?_) (fun cdv A outer s H vs Q E hr h => ?_)
  · obtain ⟨u, rfl, _⟩ := h; rfl
  · obtain ⟨d, rfl, q⟩ := h
    refine ⟨_, pss_one (ps_ret (pe_ifExp (pt_cmpR op_eq (pv 0) pe_int (nomark _)) pe_int (pe_op op_add (pe_op op_fdiv (pe_op op_mul pe_int (pv 0)) pe_int) pe_int))), ?_⟩
    refine ⟨_, rfl, rfl, _, rfl, iI (fun e => ?_) (fun e => ?_)⟩
    · unfold wreach at q
      rw [if_pos e] at q
      exact q
    · unfold wreach at q
      rw [if_neg e] at q
      exact ⟨_, rfl, _, _, rfl, rfl, cmul_l (by decide) (by decide), _, _, rfl, rfl, ⟨by decide, by decide⟩, _, _, rfl, rfl, q⟩
def spUp : Sp := fun vs H Q _ => ∃ x d : Int, vs = [.int x, .int d] ∧ 1 ≤ d ∧ d ≤ 1000000000000 ∧ Q (.int (up x d)) H
theorem ok_ru {f : Addr} {fd : FuncData} (F : FnP K "ratio_up" "ratio_up" sRatioUp f fd) : FnOk P w K mg base CX0 1 f fd ["number", "divisor"] spUp := by
  refine FnP_ok F scRatioUp (fun vs H Q E h => ?_) (fun cdv A outer s H vs Q E hr h => ?_)
  · obtain ⟨u, d, rfl, _⟩ := h; rfl
  · obtain ⟨x, d, rfl, h0, h1, q⟩ := h
    refine ⟨_, pss_one (ps_ret (pe_un un_neg (pe_op op_fdivW (pe_un un_neg (pv 0)) (pv 1)))), ?_⟩
    exact ⟨_, rfl, _, rfl, _, rfl, _, _, rfl, rfl, cdiv_lit (by omega) (by omega), _, rfl, q⟩
def sideS (b : Bool) : Str := if b then "up" else "down"
def spSide : Sp := fun vs H Q _ => ∃ b : Bool, vs = [.bl b] ∧ Q (.str (sideS b)) H
theorem ok_side {f : Addr} {fd : FuncData} (F : FnP K "side_name" "side_name" sSideName f fd) : FnOk P w K mg base CX0 1 f fd ["is_up"] spSide := by
  refine FnP_ok F scSideName (fun vs H Q E h => ?_) (fun cdv A outer s H vs Q E hr h => ?_)
  · obtain ⟨u, rfl, _⟩ := h; rfl
  · obtain ⟨b, rfl, q⟩ := h
    refine ⟨_, pss_one (ps_ret (pe_ifExp (pt_val (pv 0)) pe_str pe_str)), ?_⟩
    refine ⟨_, rfl, b, rfl, ?_⟩
    cases b with
    | true => exact iteT q
    | false => exact iteF q
/-! the law's arch, wave, up -/
theorem ok_larch {f : Addr} {fd : FuncData} (F : FnP K "_law_arch" "_law_arch" sLArch f fd) : FnOk P w K mg base CX0 1 f fd ["_law_u"] spArch := by
  refine FnP_ok F scLArch (fun vs H Q E h => ?_) (fun cdv A outer s H vs Q E hr h => ?_)
  · obtain ⟨u, rfl, _⟩ := h; rfl
  · obtain ⟨u, rfl, h0, h1, q⟩ := h
    refine ⟨_, pss_cons (ps_set (i := 1) scLArch.nd rfl (.inl rfl) pe_int) (pss_one (ps_ret (pe_op op_fdivW
      (pe_op op_mul (pe_op op_mul pe_int (pv 0)) (pe_op op_sub (pe_op op_mul (pe_op op_mul pe_int (pv 1)) (pv 1)) (pe_op op_mul (pv 0) (pv 0))))
      (pe_op op_mul (pe_op op_mul (pe_op op_mul pe_int (pv 1)) (pv 1)) (pv 1))))), ?_⟩
    have m1 : 0 ≤ u * u := Int.mul_nonneg h0 h0
    have m2 : u * u ≤ 324000 * u := Int.mul_le_mul_of_nonneg_right h1 h0
    refine ⟨.int u, rfl, 1000000, u, rfl, rfl, cmul_l (by decide) (by decide), ?_⟩
    refine ⟨_, rfl, 3, 324000, rfl, rfl, cmul_l (by decide) (by decide), _, rfl, 3 * 324000, 324000, rfl, rfl, cmul_l (by decide) (by decide), .int u, rfl, .int u, rfl, u, u, rfl, rfl, cmul_l (by omega) (by omega), 3 * 324000 * 324000, u * u, rfl, rfl, ?_⟩
    refine ⟨1000000 * u, 3 * 324000 * 324000 - u * u, rfl, rfl, cmul_l (by omega) (by omega), ?_⟩
    refine ⟨_, rfl, 2, 324000, rfl, rfl, cmul_l (by decide) (by decide), _, rfl, 2 * 324000, 324000, rfl, rfl, cmul_l (by decide) (by decide), _, rfl, 2 * 324000 * 324000, 324000, rfl, rfl, cmul_l (by decide) (by decide), _, _, rfl, rfl, cdiv_lit (by decide) (by decide), ?_⟩
    exact q
theorem ok_lwave {f : Addr} {fd : FuncData} (F : FnP K "_law_wave" "_law_wave" sLWave f fd) (T : Txt mg) (cA : Cal P w K mg base 1 "_law_arch" ["_law_u"] spArch) : FnOk P w K mg base CX0 2 f fd ["_law_x"] spWave := by
  refine FnP_ok F scLWave (fun vs H Q E h => ?_) (fun cdv A outer s H vs Q E hr h => ?_)
  · obtain ⟨u, rfl, _⟩ := h; rfl
  · obtain ⟨x, rfl, q⟩ := h
    refine ⟨_, pss_cons (ps_set (i := 0) scLWave.nd rfl (.inl rfl) (pe_op op_mod (pe_callTy call_int1 (by rfl) T.int (by decide +kernel) (pa_cons (pv 0) pa_nil)) pe_int))
      (pss_cons (ps_if (pt_cmpR op_ge (pv 0) pe_int (nomark _)) (pss_one (ps_ret (pe_un un_neg (pe_cl cA hr rfl (pa_cons (pe_callB (call_min2 rfl) (by rfl) T.min (by decide +kernel) (pa_cons (pe_op op_sub (pv 0) pe_int) (pa_cons (pe_op op_sub pe_int (pv 0)) pa_nil))) pa_nil))))) pss_nil)
      (pss_one (ps_ret (pe_cl cA hr rfl (pa_cons (pe_callB (call_min2 rfl) (by rfl) T.min (by decide +kernel) (pa_cons (pv 0) (pa_cons (pe_op op_sub pe_int (pv 0)) pa_nil))) pa_nil))))), ?_⟩
    refine ⟨_, rfl, .inl ⟨x, rfl, x, 1296000, rfl, rfl, (by decide : (0 : Int) < 1296000), ?_⟩⟩
    have qq : ∀ v : Int, v = lwave x → Q (.int v) H := fun v e => by rw [e, lwave_eq]; exact q _ (Same.refl H)
    refine ⟨_, rfl, _, _, rfl, rfl, _, rfl, iD (fun e => ?_) (fun e => ?_)⟩
    · refine ⟨_, rfl, _, _, rfl, rfl, _, rfl, _, _, rfl, rfl, _, _, rfl, _, rfl, ?_, ?_, _, rfl, qq _ (by unfold lwave; rw [if_pos e])⟩
      · split <;> omega
      · split <;> omega
    · refine ⟨_, rfl, _, rfl, _, _, rfl, rfl, _, _, rfl, _, rfl, ?_, ?_, qq _ (by unfold lwave; rw [if_neg e])⟩
      · split <;> omega
      · split <;> omega
theorem ok_lup {f : Addr} {fd : FuncData} (F : FnP K "_law_up" "_law_up" sLUp f fd) : FnOk P w K mg base CX0 1 f fd ["_law_number_here", "_law_divisor_here"] spUp := by
  refine FnP_ok F scLUp (fun vs H Q E h => ?_) (fun cdv A outer s H vs Q E hr h => ?_)
  · obtain ⟨u, d, rfl, _⟩ := h; rfl
  · obtain ⟨x, d, rfl, h0, h1, q⟩ := h
    rw [← lup_eq (by omega)] at q
    refine ⟨_, pss_one (ps_ret (pe_op op_fdivW (pe_op op_sub (pe_op op_add (pv 0) (pv 1)) pe_int) (pv 1))), ?_⟩
    exact ⟨_, rfl, _, rfl, _, _, rfl, rfl, _, _, rfl, rfl, _, rfl, _, _, rfl, rfl, cdiv_lit (by omega) (by omega), q⟩
/-! _law_is: True for the right bool -/
def spIs : Sp := fun vs H Q _ => ∃ a b : Bool, vs = [.bl a, .bl b] ∧ Q (.bl (decide (a = b))) H
end
end Ta

set_option maxHeartbeats 4000000
/-! Values, by the program and by the law. -/
namespace Ta
open PySem PySem.Spec PyProof.Rows L2
theorem no0 {b : Bool} {e : E} (h : Ok 0 b e) : False := by cases b <;> cases e <;> exact h
def spVal (b : Bool) (n : Nat) : Sp := fun vs H Q _ => ∃ (v : V) (e : E) (t : Int), vs = [v, .int t] ∧ EAt H e v ∧ Ok n b e ∧ n ≤ 8 ∧ ∀ H', Same H H' → Q (.int (val e t)) H'
theorem valL_sum (t : Int) : ∀ es : List E, (es.map fun e => val e t).sum = valL es t
  | [] => rfl
  | e :: es => by
    show val e t + (es.map fun e => val e t).sum = val e t + valL es t
    rw [valL_sum t es]
theorem drop1 (x : V) (xs : List V) : cutV (x :: xs) (some 1) none = xs := by
  unfold cutV
  rw [show HT.sIx (x :: xs).length 0 (some 1) = min 1 (x :: xs).length from HT.sIx_nat (x :: xs).length 0 1, HT.sIx_none]
  rw [show min 1 (x :: xs).length = 1 by rw [List.length_cons]; omega]
  show (List.take ((x :: xs).length - 1) xs) = xs
  rw [List.length_cons, Nat.add_sub_cancel]
  exact List.take_length
theorem notwhole (x : V) (xs : List V) : ¬ (HT.sIx (x :: xs).length 0 (some 1) = 0 ∧ HT.sIx (x :: xs).length (x :: xs).length none = (x :: xs).length) := by
  rw [show HT.sIx (x :: xs).length 0 (some 1) = min 1 (x :: xs).length from HT.sIx_nat (x :: xs).length 0 1, List.length_cons]
  omega
theorem gName_mono (i : Nat) (v : V) (σ : L2.St) (H : Hp) (Q Q' : L2.St → Hp → Prop) (h : ∀ σ H, Q σ H → Q' σ H) (q : gName i v σ H Q) : gName i v σ H Q' := h _ _ q
theorem tYes_mono (σ : L2.St) (H : Hp) (Q Q' : Bool → Hp → Prop) (h : ∀ b H, Q b H → Q' b H) (q : tYes σ H Q) : tYes σ H Q' := h _ _ q
section
variable {P : Program} {w : World} {K : PySem.W.Frag} {mg : Str → Option Value} {base : Heap}
abbrev ix {X : Cx} {a b : Expr} {ta tb : TE} {pos : Pos} (ha : PE X a ta) (hb : PE X b tb) (hs : PlainIx b := by exact fun _ _ => rfl) : PE X (.Subscript a b pos) (tOp (rIxT X.K) ta tb) := pe_ix ix_tup ha hb hs
theorem ok_val {fV fA : Addr} {fdV fdA : FuncData} (DV : Dn K mg "value" sValue ["q", "t"] fV fdV) (DA : Dn K mg "angle_value" sAngleValue ["a", "t"] fA fdA) (T : Txt mg) (cW : Cal P w K mg base 2 "wave" ["x"] spWave) :
    ∀ n, FnOk P w K mg base CX0 (n + 3) fV fdV ["q", "t"] (spVal false n) ∧ FnOk P w K mg base CX0 (n + 3) fA fdA ["a", "t"] (spVal true n)
  | 0 => by
    constructor
    · refine FnP_ok DV.F scValue (fun vs H Q E h => ?_) (fun cdv A outer s H vs Q E hr h => ?_)
      · obtain ⟨v, e, t, rfl, _⟩ := h; rfl
      · obtain ⟨v, e, t, rfl, _, h, _⟩ := h; exact (no0 h).elim
    · refine FnP_ok DA.F scAngleValue (fun vs H Q E h => ?_) (fun cdv A outer s H vs Q E hr h => ?_)
      · obtain ⟨v, e, t, rfl, _⟩ := h; rfl
      · obtain ⟨v, e, t, rfl, _, h, _⟩ := h; exact (no0 h).elim
  | n + 1 => by
    obtain ⟨ihV, ihA⟩ := ok_val DV DA T cW n
    have cV := DV.cal ihV
    have cA := DA.cal ihA
    constructor
    · refine FnP_ok DV.F scValue (fun vs H Q E h => ?_) (fun cdv A outer s H vs Q E hr h => ?_)
      · obtain ⟨v, e, t, rfl, _⟩ := h; rfl
      · obtain ⟨v, e, t, rfl, hE, ho, hn, q⟩ := h
        refine ⟨_, pss_cons (ps_set (i := 2) scValue.nd rfl (.inl rfl) (ix (pv 0) pe_int))
          (pss_cons (ps_if (pt_cmpR op_eq (pv 2) pe_str (nomark _)) (pss_one (ps_ret (ix (pv 0) pe_int))) pss_nil)
          (pss_cons (ps_if (pt_cmpR op_eq (pv 2) pe_str (nomark _)) (pss_one (ps_ret (pe_cl cW hr rfl (pa_cons (pe_cl cA hr rfl (pa_cons (ix (pv 0) pe_int) (pa_cons (pv 1) pa_nil))) pa_nil)))) pss_nil)
          (pss_cons (ps_if (pt_cmpR op_eq (pv 2) pe_str (nomark _)) (pss_one (ps_ret (pe_callB (cr_sum rfl) (by rfl) T.sum (by decide +kernel) (pa_cons (pe_lc (own := [("part", 3)]) (g := gName 3) (tt := tYes) rfl scValue.nd (pi_tup (pe_slice sl_tup (pv 0) (po_some pe_int) po_none))
              (blkOk_by (N := ["q", "t", "kind", "part"]) (sc := defScope sValue) (by decide +kernel)) (fun _ _ _ _ _ => pg_name (i := 3) scValue.nd rfl (Or.inl rfl)) (fun _ _ _ _ _ => pts_nil) (fun _ _ _ _ _ => pe_cl cV hr rfl (pa_cons (pv 3) (pa_cons (pv 1) pa_nil)))) pa_nil)))) pss_nil)
          (pss_cons (ps_if (pt_cmpR op_eq (pv 2) pe_str (nomark _)) (pss_one (ps_ret (pe_op op_fdivW (pe_op op_mul (pe_cl cV hr rfl (pa_cons (ix (pv 0) pe_int) (pa_cons (pv 1) pa_nil))) (ix (pv 0) pe_int)) (ix (pv 0) pe_int)))) pss_nil)
          (pss_cons (ps_if (pt_cmpR op_eq (pv 2) pe_str (nomark _)) (pss_one (ps_ret (pe_op op_fdivW (pe_op op_mulW (pe_cl cV hr rfl (pa_cons (ix (pv 0) pe_int) (pa_cons (pv 1) pa_nil))) (pe_cl cV hr rfl (pa_cons (ix (pv 0) pe_int) (pa_cons (pv 1) pa_nil)))) (ix (pv 0) pe_int)))) pss_nil)
          (pss_one (ps_ret (pe_cl cV hr rfl (pa_cons (ix (pv 0) pe_int) (pa_cons (pe_op op_add (pv 1) (ix (pv 0) pe_int)) pa_nil)))))))))), ?_⟩
        cases e with
        | num k =>
          obtain ⟨a, rfl, hH⟩ := hE
          refine ⟨_, rfl, a, _, 0, _, rfl, rfl, SqT.of hH, atI_nat (j := 0) rfl, ?_⟩
          refine ⟨_, rfl, rfl, _, rfl, txT ?_⟩
          exact ⟨_, rfl, a, _, 1, _, rfl, rfl, SqT.of hH, atI_nat (j := 1) rfl, q _ (Same.refl _)⟩
        | wave c =>
          obtain ⟨a, v, rfl, hH, hv⟩ := hE
          refine ⟨_, rfl, a, _, 0, _, rfl, rfl, SqT.of hH, atI_nat (j := 0) rfl, ?_⟩
          refine ⟨_, rfl, rfl, _, rfl, txF (by decide +kernel) ?_⟩
          refine ⟨_, rfl, rfl, _, rfl, txT ?_⟩
          exact ⟨_, rfl, a, _, 1, _, rfl, rfl, SqT.of hH, atI_nat (j := 1) rfl, _, rfl, v, c, t, rfl, hv, ho, by omega, fun H1 s1 => ⟨_, rfl, fun H2 s2 => q _ (s1.trans s2)⟩⟩
        | sum es =>
          obtain ⟨a, vs, rfl, hH, hv⟩ := hE
          refine ⟨_, rfl, a, _, 0, _, rfl, rfl, SqT.of hH, atI_nat (j := 0) rfl, ?_⟩
          refine ⟨_, rfl, rfl, _, rfl, txF (by decide +kernel) ?_⟩
          refine ⟨_, rfl, rfl, _, rfl, txF (by decide +kernel) ?_⟩
          refine ⟨_, rfl, rfl, _, rfl, txT ?_⟩
          refine ⟨_, rfl, 1, rfl, a, _, rfl, SqT.of hH, notwhole _ _, fun p hp => ?_⟩
          rw [drop1]
          have s1 := same_new (o := .tup vs) hp
          have hl := hv.length
          refine ⟨p, rfl, ⟨_, SqT.of upd_same⟩, fun D hD => lc_ints_tup (es.map fun e => val e t) (by rw [List.length_map, hl]) (by have := ho.2.1; omega) hD upd_same (fun i v m H2 hi hm s2 Q2 q2 => ?_) (gName_mono 3) tYes_mono (fun H2 s2 hDd => ?_)⟩
          · obtain ⟨e, he, hev⟩ := hv.get hi
            rw [List.getElem?_map, he] at hm
            cases hm
            exact ⟨rfl, rfl, _, rfl, _, rfl, v, e, t, rfl, hev.mono (s1.trans s2).ts, ho.2.2 e (List.mem_of_getElem? he), by omega, q2⟩
          · refine ⟨D, _, rfl, SqL.of hDd, ?_⟩
            have qq := q _ (s1.trans s2)
            rw [valL_sum]
            exact qq
        | share c m d =>
          obtain ⟨a, v, rfl, hH, hv⟩ := hE
          obtain ⟨o1, ⟨o2, o3⟩, o4, o5⟩ := ho
          refine ⟨_, rfl, a, _, 0, _, rfl, rfl, SqT.of hH, atI_nat (j := 0) rfl, ?_⟩
          refine ⟨_, rfl, rfl, _, rfl, txF (by decide +kernel) ?_⟩
          refine ⟨_, rfl, rfl, _, rfl, txF (by decide +kernel) ?_⟩
          refine ⟨_, rfl, rfl, _, rfl, txF (by decide +kernel) ?_⟩
          refine ⟨_, rfl, rfl, _, rfl, txT ?_⟩
          refine ⟨_, rfl, a, _, 1, _, rfl, rfl, SqT.of hH, atI_nat (j := 1) rfl, _, rfl, v, c, t, rfl, hv, o1, by omega, fun H1 s1 => ?_⟩
          refine ⟨_, rfl, a, _, 2, _, rfl, rfl, SqT.of (s1 _ _ hH), atI_nat (j := 2) rfl, _, _, rfl, rfl, cmul_r (by omega) (by omega), ?_⟩
          exact ⟨_, rfl, a, _, 3, _, rfl, rfl, SqT.of (s1 _ _ hH), atI_nat (j := 3) rfl, _, _, rfl, rfl, cdiv_lit (by omega) (by omega), q _ s1⟩
        | prod c r d =>
          obtain ⟨a, v, u, rfl, hH, hv, hu⟩ := hE
          obtain ⟨o1, o2, o4, o5⟩ := ho
          refine ⟨_, rfl, a, _, 0, _, rfl, rfl, SqT.of hH, atI_nat (j := 0) rfl, ?_⟩
          refine ⟨_, rfl, rfl, _, rfl, txF (by decide +kernel) ?_⟩
          refine ⟨_, rfl, rfl, _, rfl, txF (by decide +kernel) ?_⟩
          refine ⟨_, rfl, rfl, _, rfl, txF (by decide +kernel) ?_⟩
          refine ⟨_, rfl, rfl, _, rfl, txF (by decide +kernel) ?_⟩
          refine ⟨_, rfl, rfl, _, rfl, txT ?_⟩
          refine ⟨_, rfl, a, _, 1, _, rfl, rfl, SqT.of hH, atI_nat (j := 1) rfl, _, rfl, v, c, t, rfl, hv, o1, by omega, fun H1 s1 => ?_⟩
          refine ⟨_, rfl, a, _, 2, _, rfl, rfl, SqT.of (s1 _ _ hH), atI_nat (j := 2) rfl, _, rfl, u, r, t, rfl, hu.mono s1.ts, o2, by omega, fun H2 s2 => ?_⟩
          refine ⟨_, _, rfl, rfl, wide_mul (val_lt o1 (by omega) t) (val_lt o2 (by omega) t) (by decide) (by decide) (by decide), ?_⟩
          exact ⟨_, rfl, a, _, 3, _, rfl, rfl, SqT.of (s2 _ _ (s1 _ _ hH)), atI_nat (j := 3) rfl, _, _, rfl, rfl, cdiv_lit (by omega) (by omega), q _ (s1.trans s2)⟩
        | later c m =>
          obtain ⟨a, v, rfl, hH, hv⟩ := hE
          refine ⟨_, rfl, a, _, 0, _, rfl, rfl, SqT.of hH, atI_nat (j := 0) rfl, ?_⟩
          refine ⟨_, rfl, rfl, _, rfl, txF (by decide +kernel) ?_⟩
          refine ⟨_, rfl, rfl, _, rfl, txF (by decide +kernel) ?_⟩
          refine ⟨_, rfl, rfl, _, rfl, txF (by decide +kernel) ?_⟩
          refine ⟨_, rfl, rfl, _, rfl, txF (by decide +kernel) ?_⟩
          refine ⟨_, rfl, rfl, _, rfl, txF (by decide +kernel) ?_⟩
          refine ⟨_, rfl, a, _, 1, _, rfl, rfl, SqT.of hH, atI_nat (j := 1) rfl, _, rfl, _, rfl, a, _, 2, _, rfl, rfl, SqT.of hH, atI_nat (j := 2) rfl, _, _, rfl, rfl, v, c, t + m, rfl, hv, ho, by omega, q⟩
        | turn s m d => exact ho.elim
        | moved c r => exact ho.elim
        | minus c r => exact ho.elim
    · refine FnP_ok DA.F scAngleValue (fun vs H Q E h => ?_) (fun cdv A outer s H vs Q E hr h => ?_)
      · obtain ⟨v, e, t, rfl, _⟩ := h; rfl
      · obtain ⟨v, e, t, rfl, hE, ho, hn, q⟩ := h
        refine ⟨_, pss_cons (ps_if (pt_cmpR op_eq (ix (pv 0) pe_int) pe_str (nomark _))
            (pss_cons (ps_asg (pv 0) (pg_tup rfl (pgs_cons (pg_name (i := 2) scAngleValue.nd rfl (.inl rfl)) (pgs_cons (pg_name (i := 3) scAngleValue.nd rfl (.inl rfl)) (pgs_cons (pg_name (i := 4) scAngleValue.nd rfl (.inl rfl)) (pgs_cons (pg_name (i := 5) scAngleValue.nd rfl (.inl rfl)) pgs_nil))))))
            (pss_one (ps_ret (pe_op op_add (pv 3) (pe_op op_fdivW (pe_op op_mul (pv 4) (pv 1)) (pv 5)))))) pss_nil)
          (pss_cons (ps_if (pt_cmpR op_eq (ix (pv 0) pe_int) pe_str (nomark _)) (pss_one (ps_ret (pe_op op_add (pe_cl cA hr rfl (pa_cons (ix (pv 0) pe_int) (pa_cons (pv 1) pa_nil))) (pe_cl cV hr rfl (pa_cons (ix (pv 0) pe_int) (pa_cons (pv 1) pa_nil)))))) pss_nil)
          (pss_one (ps_ret (pe_op op_sub (pe_cl cA hr rfl (pa_cons (ix (pv 0) pe_int) (pa_cons (pv 1) pa_nil))) (pe_cl cA hr rfl (pa_cons (ix (pv 0) pe_int) (pa_cons (pv 1) pa_nil))))))), ?_⟩
        cases e with
        | turn s m d =>
          obtain ⟨a, rfl, hH⟩ := hE
          obtain ⟨⟨o2, o3⟩, o4, o5⟩ := ho
          refine ⟨_, rfl, a, _, 0, _, rfl, rfl, SqT.of hH, atI_nat (j := 0) rfl, rfl, _, rfl, txT ?_⟩
          refine ⟨_, rfl, a, _, rfl, SqT.of hH, rfl, _, _, rfl, _, _, rfl, _, _, rfl, _, _, rfl, rfl, ?_⟩
          exact ⟨_, rfl, _, rfl, _, rfl, _, _, rfl, rfl, cmul_l (by omega) (by omega), _, rfl, _, _, rfl, rfl, cdiv_lit (by omega) (by omega), _, _, rfl, rfl, q _ (Same.refl _)⟩
        | moved c r =>
          obtain ⟨a, v, u, rfl, hH, hv, hu⟩ := hE
          obtain ⟨o1, o2⟩ := ho
          refine ⟨_, rfl, a, _, 0, _, rfl, rfl, SqT.of hH, atI_nat (j := 0) rfl, rfl, _, rfl, txF (by decide +kernel) ?_⟩
          refine ⟨_, rfl, a, _, 0, _, rfl, rfl, SqT.of hH, atI_nat (j := 0) rfl, rfl, _, rfl, txT ?_⟩
          refine ⟨_, rfl, a, _, 1, _, rfl, rfl, SqT.of hH, atI_nat (j := 1) rfl, _, rfl, v, c, t, rfl, hv, o1, by omega, fun H1 s1 => ?_⟩
          refine ⟨_, rfl, a, _, 2, _, rfl, rfl, SqT.of (s1 _ _ hH), atI_nat (j := 2) rfl, _, rfl, u, r, t, rfl, hu.mono s1.ts, o2, by omega, fun H2 s2 => ?_⟩
          exact ⟨_, _, rfl, rfl, q _ (s1.trans s2)⟩
        | minus c r =>
          obtain ⟨a, v, u, rfl, hH, hv, hu⟩ := hE
          obtain ⟨o1, o2⟩ := ho
          refine ⟨_, rfl, a, _, 0, _, rfl, rfl, SqT.of hH, atI_nat (j := 0) rfl, rfl, _, rfl, txF (by decide +kernel) ?_⟩
          refine ⟨_, rfl, a, _, 0, _, rfl, rfl, SqT.of hH, atI_nat (j := 0) rfl, rfl, _, rfl, txF (by decide +kernel) ?_⟩
          refine ⟨_, rfl, a, _, 1, _, rfl, rfl, SqT.of hH, atI_nat (j := 1) rfl, _, rfl, v, c, t, rfl, hv, o1, by omega, fun H1 s1 => ?_⟩
          refine ⟨_, rfl, a, _, 2, _, rfl, rfl, SqT.of (s1 _ _ hH), atI_nat (j := 2) rfl, _, rfl, u, r, t, rfl, hu.mono s1.ts, o2, by omega, fun H2 s2 => ?_⟩
          exact ⟨_, _, rfl, rfl, q _ (s1.trans s2)⟩
        | num k => exact ho.elim
        | wave c => exact ho.elim
        | sum es => exact ho.elim
        | share c m d => exact ho.elim
        | prod c r d => exact ho.elim
        | later c m => exact ho.elim
end
end Ta

set_option maxHeartbeats 4000000
/-! The law's own values. -/
namespace Ta
open PySem PySem.Spec PyProof.Rows L2
/-- a test of a tuple's first item: x[0] == a text -/
theorem rd0 {K : PySem.W.Frag} {i : Nat} {σ : L2.St} {H : Hp} {a : Addr} {k s : Str} {r : List V} {Q : Bool → Hp → Prop} (h0 : σ[i]? = some (some (.ref a))) (hH : H a = some (.tup (.str k :: r))) (q : Q (decide (V.str k = V.str s)) H) :
    tTest (tOp rEq (tOp (rIxT K) (tVar i) (tC (.int 0))) (tC (.str s))) σ H Q :=
  ⟨_, h0, a, _, 0, _, rfl, rfl, SqT.of hH, atI_nat (j := 0) rfl, rfl, _, rfl, q⟩
section
variable {P : Program} {w : World} {K : PySem.W.Frag} {mg : Str → Option Value} {base : Heap}
theorem ok_lval {fV fA : Addr} {fdV fdA : FuncData} (DV : Dn K mg "_law_value" sLValue ["_law_q", "_law_t"] fV fdV) (DA : Dn K mg "_law_angle_at" sLAngleAt ["_law_a", "_law_t"] fA fdA) (T : Txt mg) (cW : Cal P w K mg base 2 "_law_wave" ["_law_x"] spWave) :
    ∀ n, FnOk P w K mg base CX0 (n + 3) fV fdV ["_law_q", "_law_t"] (spVal false n) ∧ FnOk P w K mg base CX0 (n + 3) fA fdA ["_law_a", "_law_t"] (spVal true n)
  | 0 => by
    constructor
    · refine FnP_ok DV.F scLValue (fun vs H Q E h => ?_) (fun cdv A outer s H vs Q E hr h => ?_)
      · obtain ⟨v, e, t, rfl, _⟩ := h; rfl
      · obtain ⟨v, e, t, rfl, _, h, _⟩ := h; exact (no0 h).elim
    · refine FnP_ok DA.F scLAngleAt (fun vs H Q E h => ?_) (fun cdv A outer s H vs Q E hr h => ?_)
      · obtain ⟨v, e, t, rfl, _⟩ := h; rfl
      · obtain ⟨v, e, t, rfl, _, h, _⟩ := h; exact (no0 h).elim
  | n + 1 => by
    obtain ⟨ihV, ihA⟩ := ok_lval DV DA T cW n
    have cV := DV.cal ihV
    have cA := DA.cal ihA
    constructor
    · refine FnP_ok DV.F scLValue (fun vs H Q E h => ?_) (fun cdv A outer s H vs Q E hr h => ?_)
      · obtain ⟨v, e, t, rfl, _⟩ := h; rfl
      · obtain ⟨v, e, t, rfl, hE, ho, hn, q⟩ := h
        refine ⟨_, pss_cons (ps_if (pt_cmpR op_eq (ix (pv 0) pe_int) pe_str (nomark _)) (pss_one (ps_ret (ix (pv 0) pe_int))) pss_nil)
          (pss_cons (ps_if (pt_cmpR op_eq (ix (pv 0) pe_int) pe_str (nomark _)) (pss_one (ps_ret (pe_cl cW hr rfl (pa_cons (pe_cl cA hr rfl (pa_cons (ix (pv 0) pe_int) (pa_cons (pv 1) pa_nil))) pa_nil)))) pss_nil)
          (pss_cons (ps_if (pt_cmpR op_eq (ix (pv 0) pe_int) pe_str (nomark _)) (pss_one (ps_ret (pe_callB (cr_sum rfl) (by rfl) T.sum (by decide +kernel) (pa_cons (pe_lc (own := [("_law_part", 2)]) (g := gName 2) (tt := tYes) rfl scLValue.nd (pi_tup (pe_slice sl_tup (pv 0) (po_some pe_int) po_none))
              (blkOk_by (N := ["_law_q", "_law_t", "_law_part"]) (sc := defScope sLValue) (by decide +kernel)) (fun _ _ _ _ _ => pg_name (i := 2) scLValue.nd rfl (Or.inl rfl)) (fun _ _ _ _ _ => pts_nil) (fun _ _ _ _ _ => pe_cl cV hr rfl (pa_cons (pv 2) (pa_cons (pv 1) pa_nil)))) pa_nil)))) pss_nil)
          (pss_cons (ps_if (pt_cmpR op_eq (ix (pv 0) pe_int) pe_str (nomark _)) (pss_one (ps_ret (pe_op op_fdivW (pe_op op_mul (pe_cl cV hr rfl (pa_cons (ix (pv 0) pe_int) (pa_cons (pv 1) pa_nil))) (ix (pv 0) pe_int)) (ix (pv 0) pe_int)))) pss_nil)
          (pss_cons (ps_if (pt_cmpR op_eq (ix (pv 0) pe_int) pe_str (nomark _)) (pss_one (ps_ret (pe_op op_fdivW (pe_op op_mulW (pe_cl cV hr rfl (pa_cons (ix (pv 0) pe_int) (pa_cons (pv 1) pa_nil))) (pe_cl cV hr rfl (pa_cons (ix (pv 0) pe_int) (pa_cons (pv 1) pa_nil)))) (ix (pv 0) pe_int)))) pss_nil)
          (pss_one (ps_ret (pe_cl cV hr rfl (pa_cons (ix (pv 0) pe_int) (pa_cons (pe_op op_add (pv 1) (ix (pv 0) pe_int)) pa_nil))))))))), ?_⟩
        cases e with
        | num k =>
          obtain ⟨a, rfl, hH⟩ := hE
          refine rd0 rfl hH (txT ?_)
          exact ⟨_, rfl, a, _, 1, _, rfl, rfl, SqT.of hH, atI_nat (j := 1) rfl, q _ (Same.refl _)⟩
        | wave c =>
          obtain ⟨a, v, rfl, hH, hv⟩ := hE
          refine rd0 rfl hH (txF (by decide +kernel) ?_)
          refine rd0 rfl hH (txT ?_)
          exact ⟨_, rfl, a, _, 1, _, rfl, rfl, SqT.of hH, atI_nat (j := 1) rfl, _, rfl, v, c, t, rfl, hv, ho, by omega, fun H1 s1 => ⟨_, rfl, fun H2 s2 => q _ (s1.trans s2)⟩⟩
        | sum es =>
          obtain ⟨a, vs, rfl, hH, hv⟩ := hE
          refine rd0 rfl hH (txF (by decide +kernel) ?_)
          refine rd0 rfl hH (txF (by decide +kernel) ?_)
          refine rd0 rfl hH (txT ?_)
          refine ⟨_, rfl, 1, rfl, a, _, rfl, SqT.of hH, notwhole _ _, fun p hp => ?_⟩
          rw [drop1]
          have s1 := same_new (o := .tup vs) hp
          have hl := hv.length
          refine ⟨p, rfl, ⟨_, SqT.of upd_same⟩, fun D hD => lc_ints_tup (es.map fun e => val e t) (by rw [List.length_map, hl]) (by have := ho.2.1; omega) hD upd_same (fun i v m H2 hi hm s2 Q2 q2 => ?_) (gName_mono 2) tYes_mono (fun H2 s2 hDd => ?_)⟩
          · obtain ⟨e, he, hev⟩ := hv.get hi
            rw [List.getElem?_map, he] at hm
            cases hm
            exact ⟨rfl, rfl, _, rfl, _, rfl, v, e, t, rfl, hev.mono (s1.trans s2).ts, ho.2.2 e (List.mem_of_getElem? he), by omega, q2⟩
          · refine ⟨D, _, rfl, SqL.of hDd, ?_⟩
            have qq := q _ (s1.trans s2)
            rw [valL_sum]
            exact qq
        | share c m d =>
          obtain ⟨a, v, rfl, hH, hv⟩ := hE
          obtain ⟨o1, ⟨o2, o3⟩, o4, o5⟩ := ho
          refine rd0 rfl hH (txF (by decide +kernel) ?_)
          refine rd0 rfl hH (txF (by decide +kernel) ?_)
          refine rd0 rfl hH (txF (by decide +kernel) ?_)
          refine rd0 rfl hH (txT ?_)
          refine ⟨_, rfl, a, _, 1, _, rfl, rfl, SqT.of hH, atI_nat (j := 1) rfl, _, rfl, v, c, t, rfl, hv, o1, by omega, fun H1 s1 => ?_⟩
          refine ⟨_, rfl, a, _, 2, _, rfl, rfl, SqT.of (s1 _ _ hH), atI_nat (j := 2) rfl, _, _, rfl, rfl, cmul_r (by omega) (by omega), ?_⟩
          exact ⟨_, rfl, a, _, 3, _, rfl, rfl, SqT.of (s1 _ _ hH), atI_nat (j := 3) rfl, _, _, rfl, rfl, cdiv_lit (by omega) (by omega), q _ s1⟩
        | prod c r d =>
          obtain ⟨a, v, u, rfl, hH, hv, hu⟩ := hE
          obtain ⟨o1, o2, o4, o5⟩ := ho
          refine rd0 rfl hH (txF (by decide +kernel) ?_)
          refine rd0 rfl hH (txF (by decide +kernel) ?_)
          refine rd0 rfl hH (txF (by decide +kernel) ?_)
          refine rd0 rfl hH (txF (by decide +kernel) ?_)
          refine rd0 rfl hH (txT ?_)
          refine ⟨_, rfl, a, _, 1, _, rfl, rfl, SqT.of hH, atI_nat (j := 1) rfl, _, rfl, v, c, t, rfl, hv, o1, by omega, fun H1 s1 => ?_⟩
          refine ⟨_, rfl, a, _, 2, _, rfl, rfl, SqT.of (s1 _ _ hH), atI_nat (j := 2) rfl, _, rfl, u, r, t, rfl, hu.mono s1.ts, o2, by omega, fun H2 s2 => ?_⟩
          refine ⟨_, _, rfl, rfl, wide_mul (val_lt o1 (by omega) t) (val_lt o2 (by omega) t) (by decide) (by decide) (by decide), ?_⟩
          exact ⟨_, rfl, a, _, 3, _, rfl, rfl, SqT.of (s2 _ _ (s1 _ _ hH)), atI_nat (j := 3) rfl, _, _, rfl, rfl, cdiv_lit (by omega) (by omega), q _ (s1.trans s2)⟩
        | later c m =>
          obtain ⟨a, v, rfl, hH, hv⟩ := hE
          refine rd0 rfl hH (txF (by decide +kernel) ?_)
          refine rd0 rfl hH (txF (by decide +kernel) ?_)
          refine rd0 rfl hH (txF (by decide +kernel) ?_)
          refine rd0 rfl hH (txF (by decide +kernel) ?_)
          refine rd0 rfl hH (txF (by decide +kernel) ?_)
          refine ⟨_, rfl, a, _, 1, _, rfl, rfl, SqT.of hH, atI_nat (j := 1) rfl, _, rfl, _, rfl, a, _, 2, _, rfl, rfl, SqT.of hH, atI_nat (j := 2) rfl, _, _, rfl, rfl, v, c, t + m, rfl, hv, ho, by omega, q⟩
        | turn s m d => exact ho.elim
        | moved c r => exact ho.elim
        | minus c r => exact ho.elim
    · refine FnP_ok DA.F scLAngleAt (fun vs H Q E h => ?_) (fun cdv A outer s H vs Q E hr h => ?_)
      · obtain ⟨v, e, t, rfl, _⟩ := h; rfl
      · obtain ⟨v, e, t, rfl, hE, ho, hn, q⟩ := h
        refine ⟨_, pss_cons (ps_if (pt_cmpR op_eq (ix (pv 0) pe_int) pe_str (nomark _)) (pss_one (ps_ret (pe_op op_add (ix (pv 0) pe_int) (pe_op op_fdivW (pe_op op_mul (ix (pv 0) pe_int) (pv 1)) (ix (pv 0) pe_int))))) pss_nil)
          (pss_cons (ps_if (pt_cmpR op_eq (ix (pv 0) pe_int) pe_str (nomark _)) (pss_one (ps_ret (pe_op op_add (pe_cl cA hr rfl (pa_cons (ix (pv 0) pe_int) (pa_cons (pv 1) pa_nil))) (pe_cl cV hr rfl (pa_cons (ix (pv 0) pe_int) (pa_cons (pv 1) pa_nil)))))) pss_nil)
          (pss_one (ps_ret (pe_op op_sub (pe_cl cA hr rfl (pa_cons (ix (pv 0) pe_int) (pa_cons (pv 1) pa_nil))) (pe_cl cA hr rfl (pa_cons (ix (pv 0) pe_int) (pa_cons (pv 1) pa_nil))))))), ?_⟩
        cases e with
        | turn s m d =>
          obtain ⟨a, rfl, hH⟩ := hE
          obtain ⟨⟨o2, o3⟩, o4, o5⟩ := ho
          refine rd0 rfl hH (txT ?_)
          exact ⟨_, rfl, a, _, 1, _, rfl, rfl, SqT.of hH, atI_nat (j := 1) rfl, _, rfl, a, _, 2, _, rfl, rfl, SqT.of hH, atI_nat (j := 2) rfl, _, rfl, _, _, rfl, rfl, cmul_l (by omega) (by omega),
            _, rfl, a, _, 3, _, rfl, rfl, SqT.of hH, atI_nat (j := 3) rfl, _, _, rfl, rfl, cdiv_lit (by omega) (by omega), _, _, rfl, rfl, q _ (Same.refl _)⟩
        | moved c r =>
          obtain ⟨a, v, u, rfl, hH, hv, hu⟩ := hE
          obtain ⟨o1, o2⟩ := ho
          refine rd0 rfl hH (txF (by decide +kernel) ?_)
          refine rd0 rfl hH (txT ?_)
          refine ⟨_, rfl, a, _, 1, _, rfl, rfl, SqT.of hH, atI_nat (j := 1) rfl, _, rfl, v, c, t, rfl, hv, o1, by omega, fun H1 s1 => ?_⟩
          refine ⟨_, rfl, a, _, 2, _, rfl, rfl, SqT.of (s1 _ _ hH), atI_nat (j := 2) rfl, _, rfl, u, r, t, rfl, hu.mono s1.ts, o2, by omega, fun H2 s2 => ?_⟩
          exact ⟨_, _, rfl, rfl, q _ (s1.trans s2)⟩
        | minus c r =>
          obtain ⟨a, v, u, rfl, hH, hv, hu⟩ := hE
          obtain ⟨o1, o2⟩ := ho
          refine rd0 rfl hH (txF (by decide +kernel) ?_)
          refine rd0 rfl hH (txF (by decide +kernel) ?_)
          refine ⟨_, rfl, a, _, 1, _, rfl, rfl, SqT.of hH, atI_nat (j := 1) rfl, _, rfl, v, c, t, rfl, hv, o1, by omega, fun H1 s1 => ?_⟩
          refine ⟨_, rfl, a, _, 2, _, rfl, rfl, SqT.of (s1 _ _ hH), atI_nat (j := 2) rfl, _, rfl, u, r, t, rfl, hu.mono s1.ts, o2, by omega, fun H2 s2 => ?_⟩
          exact ⟨_, _, rfl, rfl, q _ (s1.trans s2)⟩
        | num k => exact ho.elim
        | wave c => exact ho.elim
        | sum es => exact ho.elim
        | share c m d => exact ho.elim
        | prod c r d => exact ho.elim
        | later c m => exact ho.elim
end
end Ta

set_option maxHeartbeats 4000000
/-! The law's own most and reach. -/
namespace Ta
open PySem PySem.Spec PyProof.Rows L2
def spMost (n : Nat) : Sp := fun vs H Q _ => ∃ (v : V) (e : E), vs = [v] ∧ EAt H e v ∧ Ok n false e ∧ n ≤ 8 ∧ ∀ H', Same H H' → Q (.int (most e)) H'
def spReach (b : Bool) (n : Nat) : Sp := fun vs H Q _ => ∃ (v : V) (e : E) (k : Int), vs = [v, .int k] ∧ EAt H e v ∧ Ok n b e ∧ n ≤ 8 ∧ 0 ≤ k ∧ ∀ H', Same H H' → Q (.int (reach e k)) H'
theorem mostL_sum : ∀ es : List E, (es.map fun e => most e).sum = mostL es
  | [] => rfl
  | e :: es => by
    show most e + (es.map fun e => most e).sum = most e + mostL es
    rw [mostL_sum es]
theorem reachL_sum (k : Int) : ∀ es : List E, (es.map fun e => reach e k).sum = reachL es k
  | [] => rfl
  | e :: es => by
    show reach e k + (es.map fun e => reach e k).sum = reach e k + reachL es k
    rw [reachL_sum k es]
section
variable {P : Program} {w : World} {K : PySem.W.Frag} {mg : Str → Option Value} {base : Heap}
theorem ok_lmost {f : Addr} {fd : FuncData} (D : Dn K mg "_law_most" sLMost ["_law_q"] f fd) (T : Txt mg) (cU : Cal P w K mg base 1 "_law_up" ["_law_number_here", "_law_divisor_here"] spUp) :
    ∀ n, FnOk P w K mg base CX0 (n + 2) f fd ["_law_q"] (spMost n)
  | 0 => by
    refine FnP_ok D.F scLMost (fun vs H Q E h => ?_) (fun cdv A outer s H vs Q E hr h => ?_)
    · obtain ⟨v, e, rfl, _⟩ := h; rfl
    · obtain ⟨v, e, rfl, _, h, _⟩ := h; exact (no0 h).elim
  | n + 1 => by
    have cM := D.cal (ok_lmost D T cU n)
    refine FnP_ok D.F scLMost (fun vs H Q E h => ?_) (fun cdv A outer s H vs Q E hr h => ?_)
    · obtain ⟨v, e, rfl, _⟩ := h; rfl
    · obtain ⟨v, e, rfl, hE, ho, hn, q⟩ := h
      refine ⟨_, pss_cons (ps_if (pt_cmpR op_eq (ix (pv 0) pe_int) pe_str (nomark _)) (pss_one (ps_ret (pe_callB call_abs (by rfl) T.abs (by decide +kernel) (pa_cons (ix (pv 0) pe_int) pa_nil)))) pss_nil)
        (pss_cons (ps_if (pt_cmpR op_eq (ix (pv 0) pe_int) pe_str (nomark _)) (pss_one (ps_ret pe_int)) pss_nil)
        (pss_cons (ps_if (pt_cmpR op_eq (ix (pv 0) pe_int) pe_str (nomark _)) (pss_one (ps_ret (pe_callB (cr_sum rfl) (by rfl) T.sum (by decide +kernel) (pa_cons (pe_lc (own := [("_law_part", 1)]) (g := gName 1) (tt := tYes) rfl scLMost.nd (pi_tup (pe_slice sl_tup (pv 0) (po_some pe_int) po_none))
            (blkOk_by (N := ["_law_q", "_law_part"]) (sc := defScope sLMost) (by decide +kernel)) (fun _ _ _ _ _ => pg_name (i := 1) scLMost.nd rfl (Or.inl rfl)) (fun _ _ _ _ _ => pts_nil) (fun _ _ _ _ _ => pe_cl cM hr rfl (pa_cons (pv 1) pa_nil))) pa_nil)))) pss_nil)
        (pss_cons (ps_if (pt_cmpR op_eq (ix (pv 0) pe_int) pe_str (nomark _)) (pss_one (ps_ret (pe_cl cU hr rfl (pa_cons (pe_op op_mul (pe_cl cM hr rfl (pa_cons (ix (pv 0) pe_int) pa_nil)) (pe_callB call_abs (by rfl) T.abs (by decide +kernel) (pa_cons (ix (pv 0) pe_int) pa_nil))) (pa_cons (ix (pv 0) pe_int) pa_nil))))) pss_nil)
        (pss_cons (ps_if (pt_cmpR op_eq (ix (pv 0) pe_int) pe_str (nomark _)) (pss_one (ps_ret (pe_cl cU hr rfl (pa_cons (pe_op op_mulW (pe_cl cM hr rfl (pa_cons (ix (pv 0) pe_int) pa_nil)) (pe_cl cM hr rfl (pa_cons (ix (pv 0) pe_int) pa_nil))) (pa_cons (ix (pv 0) pe_int) pa_nil))))) pss_nil)
        (pss_one (ps_ret (pe_cl cM hr rfl (pa_cons (ix (pv 0) pe_int) pa_nil)))))))), ?_⟩
      cases e with
      | num k =>
        obtain ⟨a, rfl, hH⟩ := hE
        refine rd0 rfl hH (txT ?_)
        exact ⟨_, rfl, a, _, 1, _, rfl, rfl, SqT.of hH, atI_nat (j := 1) rfl, _, rfl, q _ (Same.refl _)⟩
      | wave c =>
        obtain ⟨a, v, rfl, hH, hv⟩ := hE
        refine rd0 rfl hH (txF (by decide +kernel) ?_)
        refine rd0 rfl hH (txT ?_)
        exact q _ (Same.refl _)
      | sum es =>
        obtain ⟨a, vs, rfl, hH, hv⟩ := hE
        refine rd0 rfl hH (txF (by decide +kernel) ?_)
        refine rd0 rfl hH (txF (by decide +kernel) ?_)
        refine rd0 rfl hH (txT ?_)
        refine ⟨_, rfl, 1, rfl, a, _, rfl, SqT.of hH, notwhole _ _, fun p hp => ?_⟩
        rw [drop1]
        have s1 := same_new (o := .tup vs) hp
        have hl := hv.length
        refine ⟨p, rfl, ⟨_, SqT.of upd_same⟩, fun D hD => lc_ints_tup (es.map fun e => most e) (by rw [List.length_map, hl]) (by have := ho.2.1; omega) hD upd_same (fun i v m H2 hi hm s2 Q2 q2 => ?_) (gName_mono 1) tYes_mono (fun H2 s2 hDd => ?_)⟩
        · obtain ⟨e, he, hev⟩ := hv.get hi
          rw [List.getElem?_map, he] at hm
          cases hm
          exact ⟨rfl, rfl, _, rfl, v, e, rfl, hev.mono (s1.trans s2).ts, ho.2.2 e (List.mem_of_getElem? he), by omega, q2⟩
        · refine ⟨D, _, rfl, SqL.of hDd, ?_⟩
          have qq := q _ (s1.trans s2)
          rw [mostL_sum]
          exact qq
      | share c m d =>
        obtain ⟨a, v, rfl, hH, hv⟩ := hE
        obtain ⟨o1, ⟨o2, o3⟩, o4, o5⟩ := ho
        refine rd0 rfl hH (txF (by decide +kernel) ?_)
        refine rd0 rfl hH (txF (by decide +kernel) ?_)
        refine rd0 rfl hH (txF (by decide +kernel) ?_)
        refine rd0 rfl hH (txT ?_)
        have ha := ab_le o2 o3
        have ha0 := ab_nn m
        refine ⟨_, rfl, a, _, 1, _, rfl, rfl, SqT.of hH, atI_nat (j := 1) rfl, v, c, rfl, hv, o1, by omega, fun H1 s1 => ?_⟩
        refine ⟨_, rfl, a, _, 2, _, rfl, rfl, SqT.of (s1 _ _ hH), atI_nat (j := 2) rfl, m, rfl, _, _, rfl, rfl, cmul_r (show _ < ab m by omega) (show ab m < _ by omega), ?_⟩
        exact ⟨_, rfl, a, _, 3, _, rfl, rfl, SqT.of (s1 _ _ hH), atI_nat (j := 3) rfl, _, d, rfl, o4, o5, q _ s1⟩
      | prod c r d =>
        obtain ⟨a, v, u, rfl, hH, hv, hu⟩ := hE
        obtain ⟨o1, o2, o4, o5⟩ := ho
        refine rd0 rfl hH (txF (by decide +kernel) ?_)
        refine rd0 rfl hH (txF (by decide +kernel) ?_)
        refine rd0 rfl hH (txF (by decide +kernel) ?_)
        refine rd0 rfl hH (txF (by decide +kernel) ?_)
        refine rd0 rfl hH (txT ?_)
        refine ⟨_, rfl, a, _, 1, _, rfl, rfl, SqT.of hH, atI_nat (j := 1) rfl, v, c, rfl, hv, o1, by omega, fun H1 s1 => ?_⟩
        refine ⟨_, rfl, a, _, 2, _, rfl, rfl, SqT.of (s1 _ _ hH), atI_nat (j := 2) rfl, u, r, rfl, hu.mono s1.ts, o2, by omega, fun H2 s2 => ?_⟩
        refine ⟨_, _, rfl, rfl, wide_mul (most_lt o1 (by omega)) (most_lt o2 (by omega)) (by decide) (by decide) (by decide), ?_⟩
        exact ⟨_, rfl, a, _, 3, _, rfl, rfl, SqT.of (s2 _ _ (s1 _ _ hH)), atI_nat (j := 3) rfl, _, d, rfl, o4, o5, q _ (s1.trans s2)⟩
      | later c m =>
        obtain ⟨a, v, rfl, hH, hv⟩ := hE
        refine rd0 rfl hH (txF (by decide +kernel) ?_)
        refine rd0 rfl hH (txF (by decide +kernel) ?_)
        refine rd0 rfl hH (txF (by decide +kernel) ?_)
        refine rd0 rfl hH (txF (by decide +kernel) ?_)
        refine rd0 rfl hH (txF (by decide +kernel) ?_)
        exact ⟨_, rfl, a, _, 1, _, rfl, rfl, SqT.of hH, atI_nat (j := 1) rfl, v, c, rfl, hv, ho, by omega, q⟩
      | turn s m d => exact ho.elim
      | moved c r => exact ho.elim
      | minus c r => exact ho.elim
theorem ok_lreach {fV fA : Addr} {fdV fdA : FuncData} (DV : Dn K mg "_law_reach" sLReach ["_law_q", "_law_k"] fV fdV) (DA : Dn K mg "_law_angle_reach" sLAngleReach ["_law_a", "_law_k"] fA fdA) (T : Txt mg)
    (cU : Cal P w K mg base 1 "_law_up" ["_law_number_here", "_law_divisor_here"] spUp) (cMs : ∀ n, Cal P w K mg base (n + 2) "_law_most" ["_law_q"] (spMost n)) :
    ∀ n, FnOk P w K mg base CX0 (n + 3) fV fdV ["_law_q", "_law_k"] (spReach false n) ∧ FnOk P w K mg base CX0 (n + 3) fA fdA ["_law_a", "_law_k"] (spReach true n)
  | 0 => by
    constructor
    · refine FnP_ok DV.F scLReach (fun vs H Q E h => ?_) (fun cdv A outer s H vs Q E hr h => ?_)
      · obtain ⟨v, e, t, rfl, _⟩ := h; rfl
      · obtain ⟨v, e, t, rfl, _, h, _⟩ := h; exact (no0 h).elim
    · refine FnP_ok DA.F scLAngleReach (fun vs H Q E h => ?_) (fun cdv A outer s H vs Q E hr h => ?_)
      · obtain ⟨v, e, t, rfl, _⟩ := h; rfl
      · obtain ⟨v, e, t, rfl, _, h, _⟩ := h; exact (no0 h).elim
  | n + 1 => by
    obtain ⟨ihV, ihA⟩ := ok_lreach DV DA T cU cMs n
    have cV := DV.cal ihV
    have cA := DA.cal ihA
    have cM := cMs n
    have cM1 := cMs (n + 1)
    constructor
    · refine FnP_ok DV.F scLReach (fun vs H Q E h => ?_) (fun cdv A outer s H vs Q E hr h => ?_)
      · obtain ⟨v, e, t, rfl, _⟩ := h; rfl
      · obtain ⟨v, e, k, rfl, hE, ho, hn, hk, q⟩ := h
        have nd := scLReach.nd
        refine ⟨_, pss_cons (ps_set (i := 2) nd rfl (.inl rfl) pe_int)
          (pss_cons (ps_if (pt_cmpR op_eq (ix (pv 0) pe_int) pe_str (nomark _)) (pss_cons (ps_set (i := 3) nd rfl (.inl rfl) (pe_cl cA hr rfl (pa_cons (ix (pv 0) pe_int) (pa_cons (pv 1) pa_nil))))
              (pss_one (ps_set (i := 2) nd rfl (.inl rfl) (pe_ifExp (pt_cmpR op_gt (pv 3) pe_int (nomark _)) (pe_op op_add (pe_op op_fdiv (pe_op op_mul pe_int (pv 3)) pe_int) pe_int) pe_int)))) pss_nil)
          (pss_cons (ps_if (pt_cmpR op_eq (ix (pv 0) pe_int) pe_str (nomark _)) (pss_one (ps_set (i := 2) nd rfl (.inl rfl) (pe_callB (cr_sum rfl) (by rfl) T.sum (by decide +kernel) (pa_cons (pe_lc (own := [("_law_part", 4)]) (g := gName 4) (tt := tYes) rfl nd (pi_tup (pe_slice sl_tup (pv 0) (po_some pe_int) po_none))
              (blkOk_by (N := ["_law_q", "_law_k", "_law_found", "_law_distance", "_law_part", "_law_change"]) (sc := defScope sLReach) (by decide +kernel)) (fun _ _ _ _ _ => pg_name (i := 4) nd rfl (Or.inl rfl)) (fun _ _ _ _ _ => pts_nil) (fun _ _ _ _ _ => pe_cl cV hr rfl (pa_cons (pv 4) (pa_cons (pv 1) pa_nil)))) pa_nil)))) pss_nil)
          (pss_cons (ps_if (pt_cmpR op_eq (ix (pv 0) pe_int) pe_str (nomark _)) (pss_one (ps_set (i := 2) nd rfl (.inl rfl) (pe_cl cU hr rfl (pa_cons (pe_op op_mul (pe_cl cV hr rfl (pa_cons (ix (pv 0) pe_int) (pa_cons (pv 1) pa_nil))) (pe_callB call_abs (by rfl) T.abs (by decide +kernel) (pa_cons (ix (pv 0) pe_int) pa_nil))) (pa_cons (ix (pv 0) pe_int) pa_nil))))) pss_nil)
          (pss_cons (ps_if (pt_cmpR op_eq (ix (pv 0) pe_int) pe_str (nomark _)) (pss_cons (ps_set (i := 5) nd rfl (.inl rfl) (pe_op op_add (pe_op op_mulW (pe_cl cM hr rfl (pa_cons (ix (pv 0) pe_int) pa_nil)) (pe_cl cV hr rfl (pa_cons (ix (pv 0) pe_int) (pa_cons (pv 1) pa_nil))))
                (pe_op op_mulW (pe_cl cM hr rfl (pa_cons (ix (pv 0) pe_int) pa_nil)) (pe_cl cV hr rfl (pa_cons (ix (pv 0) pe_int) (pa_cons (pv 1) pa_nil))))))
              (pss_one (ps_set (i := 2) nd rfl (.inl rfl) (pe_cl cU hr rfl (pa_cons (pv 5) (pa_cons (ix (pv 0) pe_int) pa_nil)))))) pss_nil)
          (pss_cons (ps_if (pt_cmpR op_eq (ix (pv 0) pe_int) pe_str (nomark _)) (pss_one (ps_set (i := 2) nd rfl (.inl rfl) (pe_cl cV hr rfl (pa_cons (ix (pv 0) pe_int) (pa_cons (pv 1) pa_nil))))) pss_nil)
          (pss_one (ps_ret (pe_callB (call_min2 rfl) (by rfl) T.min (by decide +kernel) (pa_cons (pv 2) (pa_cons (pe_op op_mul pe_int (pe_cl cM1 hr rfl (pa_cons (pv 0) pa_nil))) pa_nil)))))))))), ?_⟩
        cases e with
        | num m =>
          obtain ⟨a, rfl, hH⟩ := id hE
          refine rd0 rfl hH (txF (by decide +kernel) ?_)
          refine rd0 rfl hH (txF (by decide +kernel) ?_)
          refine rd0 rfl hH (txF (by decide +kernel) ?_)
          refine rd0 rfl hH (txF (by decide +kernel) ?_)
          refine rd0 rfl hH (txF (by decide +kernel) ?_)
          exact ⟨_, rfl, _, rfl, _, _, rfl, hE, ho, hn, fun H1 s1 => ⟨_, _, rfl, rfl, cmul_l (by decide) (by decide), _, _, rfl, q _ s1⟩⟩
        | wave c =>
          obtain ⟨a, v, rfl, hH, hv⟩ := id hE
          have hd := reach_nn n true c ho k hk
          refine rd0 rfl hH (txT ?_)
          refine ⟨_, rfl, a, _, 1, _, rfl, rfl, SqT.of hH, atI_nat (j := 1) rfl, _, rfl, v, c, k, rfl, hv, ho, by omega, hk, fun H1 s1 => ?_⟩
          have hH1 := s1 _ _ hH
          have hE1 : EAt H1 (.wave c) (.ref a) := hE.mono s1.ts
          refine ⟨_, rfl, _, _, rfl, rfl, _, rfl, iD (fun z => ?_) (fun z => ?_)⟩
          · refine ⟨_, rfl, _, _, rfl, rfl, cmul_l (by decide) (by decide), _, _, rfl, rfl, ⟨by decide, by decide⟩, _, _, rfl, rfl, ?_⟩
            refine rd0 rfl hH1 (txF (by decide +kernel) ?_)
            refine rd0 rfl hH1 (txF (by decide +kernel) ?_)
            refine rd0 rfl hH1 (txF (by decide +kernel) ?_)
            refine rd0 rfl hH1 (txF (by decide +kernel) ?_)
            have qq : ∀ H2, Same H H2 → Q (.int (mn (125 * reach c k / 27 + 1) 2000000)) H2 := fun H2 z2 => by
              have ew : 125 * reach c k / 27 + 1 = wreach (reach c k) := by unfold wreach; rw [if_neg (by omega)]
              rw [ew]; exact q _ z2
            exact ⟨_, rfl, _, rfl, _, _, rfl, hE1, ho, hn, fun H2 s2 => ⟨_, _, rfl, rfl, cmul_l (by decide) (by decide), _, _, rfl, qq _ (s1.trans s2)⟩⟩
          · refine rd0 rfl hH1 (txF (by decide +kernel) ?_)
            refine rd0 rfl hH1 (txF (by decide +kernel) ?_)
            refine rd0 rfl hH1 (txF (by decide +kernel) ?_)
            refine rd0 rfl hH1 (txF (by decide +kernel) ?_)
            have qq : ∀ H2, Same H H2 → Q (.int (mn 0 2000000)) H2 := fun H2 z2 => by
              have ew : (0 : Int) = wreach (reach c k) := by unfold wreach; rw [if_pos (by omega)]
              rw [ew]; exact q _ z2
            exact ⟨_, rfl, _, rfl, _, _, rfl, hE1, ho, hn, fun H2 s2 => ⟨_, _, rfl, rfl, cmul_l (by decide) (by decide), _, _, rfl, qq _ (s1.trans s2)⟩⟩
        | sum es =>
          obtain ⟨a, vs, rfl, hH, hv⟩ := id hE
          refine rd0 rfl hH (txF (by decide +kernel) ?_)
          refine rd0 rfl hH (txT ?_)
          refine ⟨_, rfl, 1, rfl, a, _, rfl, SqT.of hH, notwhole _ _, fun p hp => ?_⟩
          rw [drop1]
          have s1 := same_new (o := .tup vs) hp
          have hl := hv.length
          refine ⟨p, rfl, ⟨_, SqT.of upd_same⟩, fun D hD => lc_ints_tup (es.map fun e => reach e k) (by rw [List.length_map, hl]) (by have := ho.2.1; omega) hD upd_same (fun i v m H2 hi hm s2 Q2 q2 => ?_) (gName_mono 4) tYes_mono (fun H2 s2 hDd => ?_)⟩
          · obtain ⟨e, he, hev⟩ := hv.get hi
            rw [List.getElem?_map, he] at hm
            cases hm
            exact ⟨rfl, rfl, _, rfl, _, rfl, v, e, k, rfl, hev.mono (s1.trans s2).ts, ho.2.2 e (List.mem_of_getElem? he), by omega, hk, q2⟩
          · have hH2 := (s1.trans s2) _ _ hH
            have hE2 : EAt H2 (.sum es) (.ref a) := hE.mono (s1.trans s2).ts
            refine ⟨D, _, rfl, SqL.of hDd, ?_⟩
            rw [reachL_sum]
            refine rd0 rfl hH2 (txF (by decide +kernel) ?_)
            refine rd0 rfl hH2 (txF (by decide +kernel) ?_)
            refine rd0 rfl hH2 (txF (by decide +kernel) ?_)
            exact ⟨_, rfl, _, rfl, _, _, rfl, hE2, ho, hn, fun H3 s3 => ⟨_, _, rfl, rfl, cmul_l (by decide) (by decide), _, _, rfl, q _ ((s1.trans s2).trans s3)⟩⟩
        | share c m d =>
          obtain ⟨a, v, rfl, hH, hv⟩ := id hE
          obtain ⟨o1, ⟨o2, o3⟩, o4, o5⟩ := id ho
          refine rd0 rfl hH (txF (by decide +kernel) ?_)
          refine rd0 rfl hH (txF (by decide +kernel) ?_)
          refine rd0 rfl hH (txT ?_)
          have ha := ab_le o2 o3
          have ha0 := ab_nn m
          refine ⟨_, rfl, a, _, 1, _, rfl, rfl, SqT.of hH, atI_nat (j := 1) rfl, _, rfl, v, c, k, rfl, hv, o1, by omega, hk, fun H1 s1 => ?_⟩
          have hH1 := s1 _ _ hH
          have hE1 : EAt H1 (.share c m d) (.ref a) := hE.mono s1.ts
          refine ⟨_, rfl, a, _, 2, _, rfl, rfl, SqT.of hH1, atI_nat (j := 2) rfl, m, rfl, _, _, rfl, rfl, cmul_r (show _ < ab m by omega) (show ab m < _ by omega), ?_⟩
          refine ⟨_, rfl, a, _, 3, _, rfl, rfl, SqT.of hH1, atI_nat (j := 3) rfl, _, d, rfl, o4, o5, ?_⟩
          refine rd0 rfl hH1 (txF (by decide +kernel) ?_)
          refine rd0 rfl hH1 (txF (by decide +kernel) ?_)
          exact ⟨_, rfl, _, rfl, _, _, rfl, hE1, ho, hn, fun H2 s2 => ⟨_, _, rfl, rfl, cmul_l (by decide) (by decide), _, _, rfl, q _ (s1.trans s2)⟩⟩
        | prod c r d =>
          obtain ⟨a, v, u, rfl, hH, hv, hu⟩ := id hE
          obtain ⟨o1, o2, o4, o5⟩ := id ho
          refine rd0 rfl hH (txF (by decide +kernel) ?_)
          refine rd0 rfl hH (txF (by decide +kernel) ?_)
          refine rd0 rfl hH (txF (by decide +kernel) ?_)
          refine rd0 rfl hH (txT ?_)
          refine ⟨_, rfl, a, _, 1, _, rfl, rfl, SqT.of hH, atI_nat (j := 1) rfl, v, c, rfl, hv, o1, by omega, fun H1 s1 => ?_⟩
          refine ⟨_, rfl, a, _, 2, _, rfl, rfl, SqT.of (s1 _ _ hH), atI_nat (j := 2) rfl, _, rfl, u, r, k, rfl, hu.mono s1.ts, o2, by omega, hk, fun H2 s2 => ?_⟩
          have s12 := s1.trans s2
          refine ⟨_, _, rfl, rfl, wide_mul (most_lt o1 (by omega)) (reach_lt o2 (by omega) hk) (by decide) (by decide) (by decide), ?_⟩
          refine ⟨_, rfl, a, _, 2, _, rfl, rfl, SqT.of (s12 _ _ hH), atI_nat (j := 2) rfl, u, r, rfl, hu.mono s12.ts, o2, by omega, fun H3 s3 => ?_⟩
          have s13 := s12.trans s3
          refine ⟨_, rfl, a, _, 1, _, rfl, rfl, SqT.of (s13 _ _ hH), atI_nat (j := 1) rfl, _, rfl, v, c, k, rfl, hv.mono s13.ts, o1, by omega, hk, fun H4 s4 => ?_⟩
          have s14 := s13.trans s4
          have hH4 := s14 _ _ hH
          have hE4 : EAt H4 (.prod c r d) (.ref a) := hE.mono s14.ts
          refine ⟨_, _, rfl, rfl, wide_mul (most_lt o2 (by omega)) (reach_lt o1 (by omega) hk) (by decide) (by decide) (by decide), _, _, rfl, rfl, ?_⟩
          refine ⟨_, rfl, _, rfl, a, _, 3, _, rfl, rfl, SqT.of hH4, atI_nat (j := 3) rfl, _, d, rfl, o4, o5, ?_⟩
          refine rd0 rfl hH4 (txF (by decide +kernel) ?_)
          exact ⟨_, rfl, _, rfl, _, _, rfl, hE4, ho, hn, fun H5 s5 => ⟨_, _, rfl, rfl, cmul_l (by decide) (by decide), _, _, rfl, q _ (s14.trans s5)⟩⟩
        | later c m =>
          obtain ⟨a, v, rfl, hH, hv⟩ := id hE
          refine rd0 rfl hH (txF (by decide +kernel) ?_)
          refine rd0 rfl hH (txF (by decide +kernel) ?_)
          refine rd0 rfl hH (txF (by decide +kernel) ?_)
          refine rd0 rfl hH (txF (by decide +kernel) ?_)
          refine rd0 rfl hH (txT ?_)
          refine ⟨_, rfl, a, _, 1, _, rfl, rfl, SqT.of hH, atI_nat (j := 1) rfl, _, rfl, v, c, k, rfl, hv, ho, by omega, hk, fun H1 s1 => ?_⟩
          have hE1 : EAt H1 (.later c m) (.ref a) := hE.mono s1.ts
          exact ⟨_, rfl, _, rfl, _, _, rfl, hE1, ho, hn, fun H2 s2 => ⟨_, _, rfl, rfl, cmul_l (by decide) (by decide), _, _, rfl, q _ (s1.trans s2)⟩⟩
        | turn s m d => exact ho.elim
        | moved c r => exact ho.elim
        | minus c r => exact ho.elim
    · refine FnP_ok DA.F scLAngleReach (fun vs H Q E h => ?_) (fun cdv A outer s H vs Q E hr h => ?_)
      · obtain ⟨v, e, t, rfl, _⟩ := h; rfl
      · obtain ⟨v, e, k, rfl, hE, ho, hn, hk, q⟩ := h
        refine ⟨_, pss_cons (ps_if (pt_cmpR op_eq (ix (pv 0) pe_int) pe_str (nomark _)) (pss_one (ps_ret (pe_cl cU hr rfl (pa_cons (pe_op op_mul (pe_callB call_abs (by rfl) T.abs (by decide +kernel) (pa_cons (ix (pv 0) pe_int) pa_nil)) (pv 1)) (pa_cons (ix (pv 0) pe_int) pa_nil))))) pss_nil)
          (pss_cons (ps_if (pt_cmpR op_eq (ix (pv 0) pe_int) pe_str (nomark _)) (pss_one (ps_ret (pe_op op_add (pe_cl cA hr rfl (pa_cons (ix (pv 0) pe_int) (pa_cons (pv 1) pa_nil))) (pe_cl cV hr rfl (pa_cons (ix (pv 0) pe_int) (pa_cons (pv 1) pa_nil)))))) pss_nil)
          (pss_one (ps_ret (pe_op op_add (pe_cl cA hr rfl (pa_cons (ix (pv 0) pe_int) (pa_cons (pv 1) pa_nil))) (pe_cl cA hr rfl (pa_cons (ix (pv 0) pe_int) (pa_cons (pv 1) pa_nil))))))), ?_⟩
        cases e with
        | turn s m d =>
          obtain ⟨a, rfl, hH⟩ := hE
          obtain ⟨⟨o2, o3⟩, o4, o5⟩ := ho
          have ha := ab_le o2 o3
          have ha0 := ab_nn m
          refine rd0 rfl hH (txT ?_)
          exact ⟨_, rfl, a, _, 2, _, rfl, rfl, SqT.of hH, atI_nat (j := 2) rfl, m, rfl, _, rfl, _, _, rfl, rfl, cmul_l (show _ < ab m by omega) (show ab m < _ by omega), _, rfl, a, _, 3, _, rfl, rfl, SqT.of hH, atI_nat (j := 3) rfl, _, d, rfl, o4, o5, q _ (Same.refl _)⟩
        | moved c r =>
          obtain ⟨a, v, u, rfl, hH, hv, hu⟩ := hE
          obtain ⟨o1, o2⟩ := ho
          refine rd0 rfl hH (txF (by decide +kernel) ?_)
          refine rd0 rfl hH (txT ?_)
          refine ⟨_, rfl, a, _, 1, _, rfl, rfl, SqT.of hH, atI_nat (j := 1) rfl, _, rfl, v, c, k, rfl, hv, o1, by omega, hk, fun H1 s1 => ?_⟩
          refine ⟨_, rfl, a, _, 2, _, rfl, rfl, SqT.of (s1 _ _ hH), atI_nat (j := 2) rfl, _, rfl, u, r, k, rfl, hu.mono s1.ts, o2, by omega, hk, fun H2 s2 => ?_⟩
          exact ⟨_, _, rfl, rfl, q _ (s1.trans s2)⟩
        | minus c r =>
          obtain ⟨a, v, u, rfl, hH, hv, hu⟩ := hE
          obtain ⟨o1, o2⟩ := ho
          refine rd0 rfl hH (txF (by decide +kernel) ?_)
          refine rd0 rfl hH (txF (by decide +kernel) ?_)
          refine ⟨_, rfl, a, _, 1, _, rfl, rfl, SqT.of hH, atI_nat (j := 1) rfl, _, rfl, v, c, k, rfl, hv, o1, by omega, hk, fun H1 s1 => ?_⟩
          refine ⟨_, rfl, a, _, 2, _, rfl, rfl, SqT.of (s1 _ _ hH), atI_nat (j := 2) rfl, _, rfl, u, r, k, rfl, hu.mono s1.ts, o2, by omega, hk, fun H2 s2 => ?_⟩
          exact ⟨_, _, rfl, rfl, q _ (s1.trans s2)⟩
        | num k => exact ho.elim
        | wave c => exact ho.elim
        | sum es => exact ho.elim
        | share c m d => exact ho.elim
        | prod c r d => exact ho.elim
        | later c m => exact ho.elim
end
end Ta

set_option maxHeartbeats 4000000
/-! Nodes in the heap; Node._find_most, Node.__init__. -/
namespace Ta
open PySem PySem.Spec PyProof.Rows L2
structure TxN (K : PySem.W.Frag) (mg : Str → Option Value) (C : Addr) : Prop where
  cl : Cls K C
  nK : NoAttr K C "kind"
  nP : NoAttr K C "parts"
  nN : NoAttr K C "numbers"
  nM : NoAttr K C "most"
  mgC : mg "Node" = some (.ref C)
def mostV (e : E) : V := if isA e then .non else .int (most e)
def fl1 (e : E) : List (Str × V) := putF "kind" (.str (kindS e)) []
def fl2 (e : E) (pl : Addr) : List (Str × V) := putF "parts" (.ref pl) (fl1 e)
def fl3 (e : E) (pl nl : Addr) : List (Str × V) := putF "numbers" (.ref nl) (fl2 e pl)
def fl4 (e : E) (pl nl : Addr) : List (Str × V) := putF "most" (mostV e) (fl3 e pl nl)
theorem fl1_eq (e : E) : fl1 e = [(("kind" : Str), V.str (kindS e))] := rfl
theorem fl2_eq (e : E) (pl : Addr) : fl2 e pl = [(("kind" : Str), V.str (kindS e)), ("parts", .ref pl)] := by
  unfold fl2
  rw [fl1_eq]
  show (if ("kind" : Str) = "parts" then _ else _) = _
  rw [if_neg (by decide +kernel)]
  rfl
theorem fl3_eq (e : E) (pl nl : Addr) : fl3 e pl nl = [(("kind" : Str), V.str (kindS e)), ("parts", .ref pl), ("numbers", .ref nl)] := by
  unfold fl3
  rw [fl2_eq]
  show (if ("kind" : Str) = "numbers" then _ else (("kind" : Str), V.str (kindS e)) :: (if ("parts" : Str) = "numbers" then _ else _)) = _
  rw [if_neg (by decide +kernel), if_neg (by decide +kernel)]
  rfl
theorem fl4_eq (e : E) (pl nl : Addr) : fl4 e pl nl = [(("kind" : Str), V.str (kindS e)), ("parts", .ref pl), ("numbers", .ref nl), ("most", mostV e)] := by
  unfold fl4
  rw [fl3_eq]
  show (if ("kind" : Str) = "most" then _ else (("kind" : Str), V.str (kindS e)) :: (if ("parts" : Str) = "most" then _ else (("parts" : Str), V.ref pl) :: (if ("numbers" : Str) = "most" then _ else _))) = _
  rw [if_neg (by decide +kernel), if_neg (by decide +kernel), if_neg (by decide +kernel)]
  rfl
theorem fl3_kind (e : E) (pl nl : Addr) : (fl3 e pl nl).lookup ("kind" : Str) = some (.str (kindS e)) := by
  unfold fl3 fl2 fl1
  rw [lookup_putF, if_neg (by decide +kernel), lookup_putF, if_neg (by decide +kernel), lookup_putF, if_pos rfl]
theorem fl3_parts (e : E) (pl nl : Addr) : (fl3 e pl nl).lookup ("parts" : Str) = some (.ref pl) := by
  unfold fl3 fl2
  rw [lookup_putF, if_neg (by decide +kernel), lookup_putF, if_pos rfl]
theorem fl3_numbers (e : E) (pl nl : Addr) : (fl3 e pl nl).lookup ("numbers" : Str) = some (.ref nl) := by
  unfold fl3
  rw [lookup_putF, if_pos rfl]
theorem fl3_no {m : Str} (e : E) (pl nl : Addr) (h1 : ¬ m = "kind") (h2 : ¬ m = "parts") (h3 : ¬ m = "numbers") : (fl3 e pl nl).lookup m = none := by
  unfold fl3 fl2 fl1
  rw [lookup_putF, if_neg h3, lookup_putF, if_neg h2, lookup_putF, if_neg h1]
  rfl
theorem fl4_kind (e : E) (pl nl : Addr) : (fl4 e pl nl).lookup ("kind" : Str) = some (.str (kindS e)) := by
  unfold fl4
  rw [lookup_putF, if_neg (by decide +kernel)]
  exact fl3_kind e pl nl
theorem fl4_parts (e : E) (pl nl : Addr) : (fl4 e pl nl).lookup ("parts" : Str) = some (.ref pl) := by
  unfold fl4
  rw [lookup_putF, if_neg (by decide +kernel)]
  exact fl3_parts e pl nl
theorem fl4_numbers (e : E) (pl nl : Addr) : (fl4 e pl nl).lookup ("numbers" : Str) = some (.ref nl) := by
  unfold fl4
  rw [lookup_putF, if_neg (by decide +kernel)]
  exact fl3_numbers e pl nl
theorem fl4_most (e : E) (pl nl : Addr) : (fl4 e pl nl).lookup ("most" : Str) = some (mostV e) := by
  unfold fl4
  rw [lookup_putF, if_pos rfl]
theorem fl4_no {m : Str} (e : E) (pl nl : Addr) (h1 : ¬ m = "kind") (h2 : ¬ m = "parts") (h3 : ¬ m = "numbers") (h4 : ¬ m = "most") : (fl4 e pl nl).lookup m = none := by
  unfold fl4
  rw [lookup_putF, if_neg h4]
  exact fl3_no e pl nl h1 h2 h3
/-- a node's own three objects -/
def NodeB (C : Addr) (H : Hp) (F : Addr → Prop) (e : E) (x : V) (vs : List V) : Prop :=
  ∃ p dx pl nl, x = .ref p ∧ (F p ∧ F pl ∧ F nl) ∧ H p = some (.ins C dx (fl4 e pl nl)) ∧ H pl = some (.lst vs) ∧ H nl = some (.lst ((nums e).map V.int))
mutual
/-- the node of e stands at x, on objects within F -/
def NodeAt (C : Addr) (H : Hp) (F : Addr → Prop) : E → V → Prop
  | .num n, x => NodeB C H F (.num n) x []
  | .wave e, x => ∃ v, NodeB C H F (.wave e) x [v] ∧ NodeAt C H F e v
  | .sum es, x => ∃ vs, NodeB C H F (.sum es) x vs ∧ NodeAts C H F es vs
  | .share q n d, x => ∃ v, NodeB C H F (.share q n d) x [v] ∧ NodeAt C H F q v
  | .prod q r d, x => ∃ v u, NodeB C H F (.prod q r d) x [v, u] ∧ NodeAt C H F q v ∧ NodeAt C H F r u
  | .later q n, x => ∃ v, NodeB C H F (.later q n) x [v] ∧ NodeAt C H F q v
  | .turn s n d, x => NodeB C H F (.turn s n d) x []
  | .moved q r, x => ∃ v u, NodeB C H F (.moved q r) x [v, u] ∧ NodeAt C H F q v ∧ NodeAt C H F r u
  | .minus q r, x => ∃ v u, NodeB C H F (.minus q r) x [v, u] ∧ NodeAt C H F q v ∧ NodeAt C H F r u
def NodeAts (C : Addr) (H : Hp) (F : Addr → Prop) : List E → List V → Prop
  | [], vs => vs = []
  | e :: es, vs => ∃ v r, vs = v :: r ∧ NodeAt C H F e v ∧ NodeAts C H F es r
end
section
variable {C : Addr} {H H' : Hp} {F G : Addr → Prop}
theorem NodeB.mono (s : ∀ a o, F a → H a = some o → H' a = some o ∧ G a) {e : E} {x : V} {vs : List V} (h : NodeB C H F e x vs) : NodeB C H' G e x vs := by
  obtain ⟨p, dx, pl, nl, e1, ⟨f1, f2, f3⟩, h1, h2, h3⟩ := h
  exact ⟨p, dx, pl, nl, e1, ⟨(s _ _ f1 h1).2, (s _ _ f2 h2).2, (s _ _ f3 h3).2⟩, (s _ _ f1 h1).1, (s _ _ f2 h2).1, (s _ _ f3 h3).1⟩
mutual
theorem NodeAt.mono (s : ∀ a o, F a → H a = some o → H' a = some o ∧ G a) : ∀ (e : E) {x : V}, NodeAt C H F e x → NodeAt C H' G e x
  | .num n, x, h => NodeB.mono s h
  | .wave e, x, h => by obtain ⟨v, b, h1⟩ := h; exact ⟨v, b.mono s, NodeAt.mono s e h1⟩
  | .sum es, x, h => by obtain ⟨v, b, h1⟩ := h; exact ⟨v, b.mono s, NodeAts.mono s es h1⟩
  | .share q n d, x, h => by obtain ⟨v, b, h1⟩ := h; exact ⟨v, b.mono s, NodeAt.mono s q h1⟩
  | .prod q r d, x, h => by obtain ⟨v, u, b, h1, h2⟩ := h; exact ⟨v, u, b.mono s, NodeAt.mono s q h1, NodeAt.mono s r h2⟩
  | .later q n, x, h => by obtain ⟨v, b, h1⟩ := h; exact ⟨v, b.mono s, NodeAt.mono s q h1⟩
  | .turn _ _ _, x, h => NodeB.mono s h
  | .moved q r, x, h => by obtain ⟨v, u, b, h1, h2⟩ := h; exact ⟨v, u, b.mono s, NodeAt.mono s q h1, NodeAt.mono s r h2⟩
  | .minus q r, x, h => by obtain ⟨v, u, b, h1, h2⟩ := h; exact ⟨v, u, b.mono s, NodeAt.mono s q h1, NodeAt.mono s r h2⟩
theorem NodeAts.mono (s : ∀ a o, F a → H a = some o → H' a = some o ∧ G a) : ∀ (es : List E) {vs : List V}, NodeAts C H F es vs → NodeAts C H' G es vs
  | [], vs, h => h
  | e :: es, vs, h => by obtain ⟨v, r, rfl, h1, h2⟩ := h; exact ⟨v, r, rfl, NodeAt.mono s e h1, NodeAts.mono s es h2⟩
end
theorem NodeAt.same (s : Same H H') {e : E} {x : V} (h : NodeAt C H F e x) : NodeAt C H' F e x := h.mono fun a o f q => ⟨s a o q, f⟩
theorem NodeAts.snoc {e : E} {v : V} (h1 : NodeAt C H F e v) : ∀ {es : List E} {vs : List V}, NodeAts C H F es vs → NodeAts C H F (es ++ [e]) (vs ++ [v])
  | [], vs, h => by rw [show vs = [] from h]; exact ⟨v, [], rfl, h1, rfl⟩
  | e' :: es, vs, h => by
    obtain ⟨u, r, rfl, h1', h2⟩ := h
    exact ⟨u, r ++ [v], rfl, h1', NodeAts.snoc h1 h2⟩
theorem NodeAts.length : ∀ {es : List E} {vs : List V}, NodeAts C H F es vs → vs.length = es.length
  | [], vs, h => by rw [show vs = [] from h]; rfl
  | e :: es, vs, h => by
    obtain ⟨v, r, rfl, _, h2⟩ := h
    rw [List.length_cons, List.length_cons, NodeAts.length h2]
theorem NodeAts.get : ∀ {es : List E} {vs : List V}, NodeAts C H F es vs → ∀ {i : Nat} {v : V}, vs[i]? = some v → ∃ e, es[i]? = some e ∧ NodeAt C H F e v
  | [], vs, h, i, v, hv => by rw [show vs = [] from h] at hv; cases hv
  | e :: es, vs, h, 0, v, hv => by
    obtain ⟨u, r, rfl, h1, h2⟩ := h
    cases hv
    exact ⟨e, rfl, h1⟩
  | e :: es, vs, h, i + 1, v, hv => by
    obtain ⟨u, r, rfl, h1, h2⟩ := h
    exact NodeAts.get h2 (i := i) hv
theorem NodeAt.mk {e : E} {x : V} {vs : List V} (b : NodeB C H F e x vs) (h : NodeAts C H F (parts e) vs) : NodeAt C H F e x := by
  cases e with
  | num n => rw [show vs = [] from h] at b; exact b
  | wave e => obtain ⟨v, r, rfl, h1, h2⟩ := h; rw [show r = [] from h2] at b; exact ⟨v, b, h1⟩
  | sum es => exact ⟨vs, b, h⟩
  | share q n d => obtain ⟨v, r, rfl, h1, h2⟩ := h; rw [show r = [] from h2] at b; exact ⟨v, b, h1⟩
  | prod q r d => obtain ⟨v, r, rfl, h1, u, r2, rfl, h3, h4⟩ := h; rw [show r2 = [] from h4] at b; exact ⟨v, u, b, h1, h3⟩
  | later q n => obtain ⟨v, r, rfl, h1, h2⟩ := h; rw [show r = [] from h2] at b; exact ⟨v, b, h1⟩
  | turn s n d => rw [show vs = [] from h] at b; exact b
  | moved q r => obtain ⟨v, r, rfl, h1, u, r2, rfl, h3, h4⟩ := h; rw [show r2 = [] from h4] at b; exact ⟨v, u, b, h1, h3⟩
  | minus q r => obtain ⟨v, r, rfl, h1, u, r2, rfl, h3, h4⟩ := h; rw [show r2 = [] from h4] at b; exact ⟨v, u, b, h1, h3⟩
theorem NodeAt.un {e : E} {x : V} (h : NodeAt C H F e x) : ∃ vs, NodeB C H F e x vs ∧ NodeAts C H F (parts e) vs := by
  cases e with
  | num n => exact ⟨[], h, rfl⟩
  | wave e => obtain ⟨v, b, h1⟩ := h; exact ⟨_, b, v, [], rfl, h1, rfl⟩
  | sum es => obtain ⟨vs, b, h1⟩ := h; exact ⟨_, b, h1⟩
  | share q n d => obtain ⟨v, b, h1⟩ := h; exact ⟨_, b, v, [], rfl, h1, rfl⟩
  | prod q r d => obtain ⟨v, u, b, h1, h2⟩ := h; exact ⟨_, b, v, _, rfl, h1, u, [], rfl, h2, rfl⟩
  | later q n => obtain ⟨v, b, h1⟩ := h; exact ⟨_, b, v, [], rfl, h1, rfl⟩
  | turn s n d => exact ⟨[], h, rfl⟩
  | moved q r => obtain ⟨v, u, b, h1, h2⟩ := h; exact ⟨_, b, v, _, rfl, h1, u, [], rfl, h2, rfl⟩
  | minus q r => obtain ⟨v, u, b, h1, h2⟩ := h; exact ⟨_, b, v, _, rfl, h1, u, [], rfl, h2, rfl⟩
/-- a node's most, read as an attribute -/
theorem NodeAt.most_at {e : E} {x : V} (h : NodeAt C H F e x) : ∃ p dx fs, x = .ref p ∧ H p = some (.ins C dx fs) ∧ fs.lookup ("most" : Str) = some (mostV e) := by
  obtain ⟨vs, ⟨p, dx, pl, nl, rfl, _, h1, _, _⟩, _⟩ := h.un
  exact ⟨p, dx, _, rfl, h1, fl4_most e pl nl⟩
end
theorem Ok.notA {n : Nat} {e : E} (h : Ok n false e) : isA e = false := by
  cases n with
  | zero => exact (no0 h).elim
  | succ n => cases e <;> first | rfl | exact (show False from h).elim
theorem Ok.isA {n : Nat} {e : E} (h : Ok n true e) : isA e = true := by
  cases n with
  | zero => exact (no0 h).elim
  | succ n => cases e <;> first | rfl | exact (show False from h).elim
theorem mostV_q {n : Nat} {e : E} (h : Ok n false e) : mostV e = .int (most e) := by
  unfold mostV
  rw [h.notA]
  rfl
/-- the test of the three angles' words -/
theorem in3 (e : E) : inV (.str (kindS e)) [V.str "turning", V.str "moved", V.str "minus"] = isA e := by
  cases e with
  | num _ => show inV (.str "number") [V.str "turning", V.str "moved", V.str "minus"] = false; decide +kernel
  | wave _ => show inV (.str "wave") [V.str "turning", V.str "moved", V.str "minus"] = false; decide +kernel
  | sum _ => show inV (.str "sum") [V.str "turning", V.str "moved", V.str "minus"] = false; decide +kernel
  | share _ _ _ => show inV (.str "share") [V.str "turning", V.str "moved", V.str "minus"] = false; decide +kernel
  | prod _ _ _ => show inV (.str "product") [V.str "turning", V.str "moved", V.str "minus"] = false; decide +kernel
  | later _ _ => show inV (.str "later") [V.str "turning", V.str "moved", V.str "minus"] = false; decide +kernel
  | turn _ _ _ => show inV (.str "turning") [V.str "turning", V.str "moved", V.str "minus"] = true; decide +kernel
  | moved _ _ => show inV (.str "moved") [V.str "turning", V.str "moved", V.str "minus"] = true; decide +kernel
  | minus _ _ => show inV (.str "minus") [V.str "turning", V.str "moved", V.str "minus"] = true; decide +kernel
section
variable {P : Program} {w : World} {K : PySem.W.Frag} {mg : Str → Option Value} {base : Heap} {C : Addr}
def spFM (C : Addr) (n : Nat) : Sp := fun vs H Q _ => ∃ (p dx pl nl : Addr) (e : E) (us : List V) (F : Addr → Prop) (b : Bool), vs = [.ref p] ∧ H p = some (.ins C dx (fl3 e pl nl)) ∧ H pl = some (.lst us) ∧ H nl = some (.lst ((nums e).map V.int)) ∧ NodeAts C H F (parts e) us ∧
  Ok n b e ∧ n ≤ 8 ∧ ∀ H', Same H H' → Q (mostV e) H'
/-- a field of self, in the frame's slot i -/
theorem rdF {K : PySem.W.Frag} {C : Addr} {i : Nat} {σ : L2.St} {H : Hp} {p dx : Addr} {fs : List (Str × V)} {f : Str} {v : V} {Q : VK} (c : Cls K C) (n : NoAttr K C f) (h0 : σ[i]? = some (some (.ref p))) (hH : H p = some (.ins C dx fs)) (l : fs.lookup f = some v) (q : Q v H) :
    tFld K (tVar i) f σ H Q := ⟨_, h0, p, C, dx, fs, v, rfl, hH, c, n, l, q⟩
/-- self.kind == a text -/
theorem rdK {K : PySem.W.Frag} {C : Addr} {i : Nat} {σ : L2.St} {H : Hp} {p dx : Addr} {fs : List (Str × V)} {f k s : Str} {Q : Bool → Hp → Prop} (c : Cls K C) (n : NoAttr K C f) (h0 : σ[i]? = some (some (.ref p))) (hH : H p = some (.ins C dx fs)) (l : fs.lookup f = some (.str k)) (q : Q (decide (V.str k = V.str s)) H) :
    tTest (tOp rEq (tFld K (tVar i) f) (tC (.str s))) σ H Q := ⟨_, h0, p, C, dx, fs, _, rfl, hH, c, n, l, rfl, _, rfl, q⟩
/-- self.f[i] of a list -/
theorem rdL {K : PySem.W.Frag} {C : Addr} {i : Nat} {σ : L2.St} {H : Hp} {p dx l : Addr} {fs : List (Str × V)} {f : Str} {xs : List V} {j : Nat} {v : V} {Q : VK} (c : Cls K C) (n : NoAttr K C f) (h0 : σ[i]? = some (some (.ref p))) (hH : H p = some (.ins C dx fs)) (lk : fs.lookup f = some (.ref l))
    (hl : H l = some (.lst xs)) (hj : xs[j]? = some v) (q : Q v H) : tOp (rIxL K) (tFld K (tVar i) f) (tC (.int (j : Int))) σ H Q := ⟨_, h0, p, C, dx, fs, _, rfl, hH, c, n, lk, l, xs, j, v, rfl, rfl, SqL.of hl, atI_nat hj, q⟩
theorem ok_fm {f : Addr} {fd : FuncData} (D : Dm K C "_find_most" "Node._find_most" sNFindMost ["self"] f fd) (T : Txt mg) (N : TxN K mg C) (cU : Cal P w K mg base 1 "ratio_up" ["number", "divisor"] spUp) (n : Nat) :
    FnOk P w K mg base CX0 2 f fd ["self"] (spFM C n) := by
  refine FnP_ok D.F scNFindMost (fun vs H Q E h => ?_) (fun cdv A outer s H vs Q E hr h => ?_)
  · obtain ⟨p, dx, pl, nl, e, us, F, b, rfl, _⟩ := h; rfl
  · obtain ⟨p, dx, pl, nl, e, us, F, b, rfl, hp, hpl, hnl, hN, ho, hn, q⟩ := h
    have nd := scNFindMost.nd
    refine ⟨_, pss_cons (ps_if (pt_cmpR op_in_seq (pe_fld (pv 0) rfl) (pe_tup (pa_cons pe_str (pa_cons pe_str (pa_cons pe_str pa_nil)))) rfl) (pss_one (ps_ret pe_non)) pss_nil)
      (pss_cons (ps_if (pt_cmpR op_eq (pe_fld (pv 0) rfl) pe_str (nomark _)) (pss_one (ps_ret (pe_callB call_abs (by rfl) T.abs (by decide +kernel) (pa_cons (pe_ix ix_list (pe_fld (pv 0) rfl) pe_int (fun _ _ => rfl)) pa_nil)))) pss_nil)
      (pss_cons (ps_if (pt_cmpR op_eq (pe_fld (pv 0) rfl) pe_str (nomark _)) (pss_one (ps_ret (pe_gi T.one rfl))) pss_nil)
      (pss_cons (ps_if (pt_cmpR op_eq (pe_fld (pv 0) rfl) pe_str (nomark _)) (pss_one (ps_ret (pe_cl cU hr rfl (pa_cons (pe_op op_mul (pe_fld (pe_ix ix_list (pe_fld (pv 0) rfl) pe_int (fun _ _ => rfl)) rfl) (pe_callB call_abs (by rfl) T.abs (by decide +kernel) (pa_cons (pe_ix ix_list (pe_fld (pv 0) rfl) pe_int (fun _ _ => rfl)) pa_nil)))
          (pa_cons (pe_ix ix_list (pe_fld (pv 0) rfl) pe_int (fun _ _ => rfl)) pa_nil))))) pss_nil)
      (pss_cons (ps_if (pt_cmpR op_eq (pe_fld (pv 0) rfl) pe_str (nomark _)) (pss_one (ps_ret (pe_cl cU hr rfl (pa_cons (pe_op op_mulW (pe_fld (pe_ix ix_list (pe_fld (pv 0) rfl) pe_int (fun _ _ => rfl)) rfl) (pe_fld (pe_ix ix_list (pe_fld (pv 0) rfl) pe_int (fun _ _ => rfl)) rfl))
          (pa_cons (pe_ix ix_list (pe_fld (pv 0) rfl) pe_int (fun _ _ => rfl)) pa_nil))))) pss_nil)
      (pss_one (ps_ret (pe_callB (cr_sum rfl) (by rfl) T.sum (by decide +kernel) (pa_cons (pe_lc (own := [("part", 1)]) (g := gName 1) (tt := tYes) (te := tFld K (tVar 1) "most") rfl nd (pi_list (pe_fld (pv 0) rfl))
            (blkOk_by (N := ["self", "part"]) (sc := defScope sNFindMost) (by decide +kernel)) (fun _ _ _ _ _ => pg_name (i := 1) nd rfl (Or.inl rfl)) (fun _ _ _ _ _ => pts_nil) (fun _ _ _ _ _ => pe_fld (pv 1) rfl)) pa_nil)))))))), ?_⟩
    refine rdF N.cl N.nK rfl hp (fl3_kind e pl nl) ⟨by show 3 ≤ sizeLine; decide, fun tp htp => ⟨tp, _, rfl, .inr (SqT.of upd_same), rfl, rfl, _, rfl, ?_⟩⟩
    have s0 := same_new (o := .tup [V.str "turning", V.str "moved", V.str "minus"]) htp
    have e3 : (if (false : Bool) = true then !inV (.str (kindS e)) [V.str "turning", V.str "moved", V.str "minus"] else inV (.str (kindS e)) [V.str "turning", V.str "moved", V.str "minus"]) = isA e := by
      rw [if_neg (by decide)]; exact in3 e
    have hp0 := s0 _ _ hp
    have hpl0 := s0 _ _ hpl
    have hnl0 := s0 _ _ hnl
    cases hA : isA e with
    | true =>
      rw [hA] at e3
      rw [e3]
      refine iteT ?_
      have := q _ s0
      unfold mostV at this
      rw [hA] at this
      exact this
    | false =>
      rw [hA] at e3
      rw [e3]
      refine iteF ?_
      have q' : ∀ H', Same (upd H tp (.tup [V.str "turning", V.str "moved", V.str "minus"])) H' → Q (.int (most e)) H' := fun H' s' => by
        have := q _ (s0.trans s')
        unfold mostV at this
        rw [hA] at this
        exact this
      have hN0 := hN.mono (H' := upd H tp (.tup [V.str "turning", V.str "moved", V.str "minus"])) (G := F) (fun a o f z => ⟨s0 a o z, f⟩)
      obtain ⟨m, rfl⟩ : ∃ m, n = m + 1 := by
        cases n with
        | zero => exact (no0 ho).elim
        | succ m => exact ⟨m, rfl⟩
      cases b with
      | true => rw [ho.isA] at hA; cases hA
      | false =>
        cases e with
        | num k =>
          refine rdK (k := "number") N.cl N.nK rfl hp0 (fl3_kind _ pl nl) (txT ?_)
          exact rdL (j := 0) N.cl N.nN rfl hp0 (fl3_numbers _ pl nl) hnl0 rfl ⟨k, rfl, q' _ (Same.refl _)⟩
        | wave c =>
          refine rdK (k := "wave") N.cl N.nK rfl hp0 (fl3_kind _ pl nl) (txF (by decide +kernel) ?_)
          refine rdK (k := "wave") N.cl N.nK rfl hp0 (fl3_kind _ pl nl) (txT ?_)
          exact q' _ (Same.refl _)
        | sum es =>
          refine rdK (k := "sum") N.cl N.nK rfl hp0 (fl3_kind _ pl nl) (txF (by decide +kernel) ?_)
          refine rdK (k := "sum") N.cl N.nK rfl hp0 (fl3_kind _ pl nl) (txF (by decide +kernel) ?_)
          refine rdK (k := "sum") N.cl N.nK rfl hp0 (fl3_kind _ pl nl) (txF (by decide +kernel) ?_)
          refine rdK (k := "sum") N.cl N.nK rfl hp0 (fl3_kind _ pl nl) (txF (by decide +kernel) ?_)
          refine ⟨_, rfl, p, C, dx, _, _, rfl, hp0, N.cl, N.nP, fl3_parts _ pl nl, pl, rfl, ⟨_, SqL.of hpl0⟩, fun D hD => lc_ints_list (es.map fun e => most e) (by rw [List.length_map]; exact hN0.length) (by have h1 := hN0.length; have h2 := ho.2.1; rw [h1]; show es.length ≤ 1000; omega) hD (SqL.of hpl0) (fun i v m H2 hi hm s2 Q2 q2 => ?_) (gName_mono 1) tYes_mono (fun H2 s2 hDd => ?_)⟩
          · obtain ⟨e, he, hev⟩ := hN0.get hi
            have he : es[i]? = some e := he
            rw [List.getElem?_map, he] at hm
            cases hm
            obtain ⟨p', dx', fs', rfl, hp', l'⟩ := (hev.same s2).most_at
            rw [mostV_q (ho.2.2 e (List.mem_of_getElem? he))] at l'
            exact ⟨rfl, rfl, rdF N.cl N.nM rfl hp' l' (q2 _ (Same.refl _))⟩
          · refine ⟨D, _, rfl, SqL.of hDd, ?_⟩
            rw [mostL_sum]
            exact q' _ s2
        | share c m d =>
          obtain ⟨o1, ⟨o2, o3⟩, o4, o5⟩ := ho
          obtain ⟨v, r, rfl, hv, hr0⟩ := hN0
          have ha := ab_le o2 o3
          have ha0 := ab_nn m
          obtain ⟨p', dx', fs', rfl, hp', l'⟩ := hv.most_at
          rw [mostV_q o1] at l'
          refine rdK (k := "share") N.cl N.nK rfl hp0 (fl3_kind _ pl nl) (txF (by decide +kernel) ?_)
          refine rdK (k := "share") N.cl N.nK rfl hp0 (fl3_kind _ pl nl) (txF (by decide +kernel) ?_)
          refine rdK (k := "share") N.cl N.nK rfl hp0 (fl3_kind _ pl nl) (txT ?_)
          refine rdL (j := 0) N.cl N.nP rfl hp0 (fl3_parts _ pl nl) hpl0 rfl ⟨p', C, dx', fs', _, rfl, hp', N.cl, N.nM, l', ?_⟩
          refine rdL (j := 0) N.cl N.nN rfl hp0 (fl3_numbers _ pl nl) hnl0 rfl ⟨m, rfl, _, _, rfl, rfl, cmul_r (show _ < ab m by omega) (show ab m < _ by omega), ?_⟩
          refine rdL (j := 1) N.cl N.nN rfl hp0 (fl3_numbers _ pl nl) hnl0 rfl ⟨_, d, rfl, o4, o5, q' _ (Same.refl _)⟩
        | prod c r d =>
          obtain ⟨o1, o2, o4, o5⟩ := ho
          obtain ⟨v, r1, rfl, hv, u, r2, rfl, hu, hr0⟩ := hN0
          obtain ⟨p', dx', fs', rfl, hp', l'⟩ := hv.most_at
          obtain ⟨p2, dx2, fs2, rfl, hp2, l2⟩ := hu.most_at
          rw [mostV_q o1] at l'
          rw [mostV_q o2] at l2
          refine rdK (k := "product") N.cl N.nK rfl hp0 (fl3_kind _ pl nl) (txF (by decide +kernel) ?_)
          refine rdK (k := "product") N.cl N.nK rfl hp0 (fl3_kind _ pl nl) (txF (by decide +kernel) ?_)
          refine rdK (k := "product") N.cl N.nK rfl hp0 (fl3_kind _ pl nl) (txF (by decide +kernel) ?_)
          refine rdK (k := "product") N.cl N.nK rfl hp0 (fl3_kind _ pl nl) (txT ?_)
          refine rdL (j := 0) N.cl N.nP rfl hp0 (fl3_parts _ pl nl) hpl0 rfl ⟨p', C, dx', fs', _, rfl, hp', N.cl, N.nM, l', ?_⟩
          refine rdL (j := 1) N.cl N.nP rfl hp0 (fl3_parts _ pl nl) hpl0 rfl ⟨p2, C, dx2, fs2, _, rfl, hp2, N.cl, N.nM, l2, ?_⟩
          refine ⟨_, _, rfl, rfl, wide_mul (most_lt o1 (by omega)) (most_lt o2 (by omega)) (by decide) (by decide) (by decide), ?_⟩
          exact rdL (j := 0) N.cl N.nN rfl hp0 (fl3_numbers _ pl nl) hnl0 rfl ⟨_, d, rfl, o4, o5, q' _ (Same.refl _)⟩
        | later c m =>
          obtain ⟨v, r, rfl, hv, hr0⟩ := hN0
          obtain rfl : r = [] := hr0
          refine rdK (k := "later") N.cl N.nK rfl hp0 (fl3_kind _ pl nl) (txF (by decide +kernel) ?_)
          refine rdK (k := "later") N.cl N.nK rfl hp0 (fl3_kind _ pl nl) (txF (by decide +kernel) ?_)
          refine rdK (k := "later") N.cl N.nK rfl hp0 (fl3_kind _ pl nl) (txF (by decide +kernel) ?_)
          refine rdK (k := "later") N.cl N.nK rfl hp0 (fl3_kind _ pl nl) (txF (by decide +kernel) ?_)
          refine ⟨_, rfl, p, C, dx, _, _, rfl, hp0, N.cl, N.nP, fl3_parts _ pl nl, pl, rfl, ⟨_, SqL.of hpl0⟩, fun D hD => lc_ints_list [most c] rfl (by show 1 ≤ 1000; decide) hD (SqL.of hpl0) (fun i v' m H2 hi hm s2 Q2 q2 => ?_) (gName_mono 1) tYes_mono (fun H2 s2 hDd => ?_)⟩
          · cases i with
            | succ i => cases hi
            | zero =>
              cases hi
              cases hm
              obtain ⟨p', dx', fs', rfl, hp', l'⟩ := (hv.same s2).most_at
              rw [mostV_q (show Ok _ false c from ho)] at l'
              exact ⟨rfl, rfl, rdF N.cl N.nM rfl hp' l' (q2 _ (Same.refl _))⟩
          · refine ⟨D, _, rfl, SqL.of hDd, ?_⟩
            have := q' _ s2
            have e1 : ([most c] : List Int).sum = most (.later c m) := by simp [most]
            rw [e1]
            exact this
        | turn s m d => exact ho.elim
        | moved c r => exact ho.elim
        | minus c r => exact ho.elim
end
end Ta

set_option maxHeartbeats 4000000
/-! Node.__init__ -/
namespace Ta
open PySem PySem.Spec PyProof.Rows L2
def Keep (p : Addr) (H H' : Hp) : Prop := ∀ a o, H a = some o → a ≠ p → H' a = some o
theorem Keep.ts {p C dx : Addr} {fs : List (Str × V)} {H H' : Hp} (k : Keep p H H') (hp : H p = some (.ins C dx fs)) : TS H H' := fun a xs e => k a _ e (ne_of e hp (by intro z; cases z))
def spInit (C : Addr) (n : Nat) : Sp := fun vs H Q _ => ∃ (p dx : Addr) (x : V) (e : E) (b : Bool), vs = [.ref p, x] ∧ H p = some (.ins C dx []) ∧ EAt H e x ∧ Ok n b e ∧ n ≤ 8 ∧
  ∀ H', Keep p H H' → NodeAt C H' (fun a => a = p ∨ H a = none) e (.ref p) → Q .non H'
/-- parts of a good expression are good -/
theorem Ok.part {n : Nat} {b : Bool} {e : E} (h : Ok (n + 1) b e) {c : E} (hc : c ∈ parts e) : ∃ b', Ok n b' c := by
  cases b with
  | false =>
    cases e with
    | num k => cases hc
    | wave a => obtain rfl := List.mem_singleton.mp hc; exact ⟨_, h⟩
    | sum es => exact ⟨_, h.2.2 c hc⟩
    | share q m d => obtain rfl := List.mem_singleton.mp hc; exact ⟨_, h.1⟩
    | prod q r d =>
      rcases List.mem_cons.mp hc with rfl | hc
      · exact ⟨_, h.1⟩
      · obtain rfl := List.mem_singleton.mp hc; exact ⟨_, h.2.1⟩
    | later q m => obtain rfl := List.mem_singleton.mp hc; exact ⟨_, h⟩
    | turn s m d => exact (show False from h).elim
    | moved q r => exact (show False from h).elim
    | minus q r => exact (show False from h).elim
  | true =>
    cases e with
    | turn s m d => cases hc
    | moved q r =>
      rcases List.mem_cons.mp hc with rfl | hc
      · exact ⟨_, h.1⟩
      · obtain rfl := List.mem_singleton.mp hc; exact ⟨_, h.2⟩
    | minus q r =>
      rcases List.mem_cons.mp hc with rfl | hc
      · exact ⟨_, h.1⟩
      · obtain rfl := List.mem_singleton.mp hc; exact ⟨_, h.2⟩
    | num k => exact (show False from h).elim
    | wave a => exact (show False from h).elim
    | sum es => exact (show False from h).elim
    | share q m d => exact (show False from h).elim
    | prod q r d => exact (show False from h).elim
    | later q m => exact (show False from h).elim
theorem parts_few {n : Nat} {b : Bool} {e : E} (h : Ok n b e) : (parts e).length + (nums e).length ≤ 100 := by
  cases n with
  | zero => exact (no0 h).elim
  | succ n =>
    cases e with
    | sum es =>
      cases b with
      | false => have := h.2.1; show es.length + 0 ≤ 100; omega
      | true => exact (show False from h).elim
    | _ => simp [parts, nums]
theorem EAt.tup {H : Hp} {e : E} {x : V} (h : EAt H e x) : ∃ a xs, x = .ref a ∧ H a = some (.tup xs) := by
  obtain ⟨a, vs, rfl, h, _⟩ := h.shape
  exact ⟨a, _, rfl, h⟩
section
variable {P : Program} {w : World} {K : PySem.W.Frag} {mg : Str → Option Value} {base : Heap} {C : Addr}
theorem ok_init {f : Addr} {fd : FuncData} (F : FnP K "__init__" "Node.__init__" sNInit f fd) (M : Mk K C f) (b : Binds K fd ["self", "expression"] []) (T : Txt mg) (N : TxN K mg C)
    (cF : ∀ n, CalM P w K mg base C 2 "_find_most" ["self"] (spFM C n)) : ∀ n, FnOk P w K mg base CX0 (2 * n + 3) f fd ["self", "expression"] (spInit C n)
  | 0 => by
    refine FnP_ok F scNInit (fun vs H Q E h => ?_) (fun cdv A outer s H vs Q E hr h => ?_)
    · obtain ⟨p, dx, x, e, b, rfl, _⟩ := h; rfl
    · obtain ⟨p, dx, x, e, b, rfl, _, _, h, _⟩ := h; exact (no0 h).elim
  | n + 1 => by
    have cN : CalN P w K mg base C (2 * n + 3) ["self", "expression"] (spInit C n) := ⟨f, fd, M, N.mgC, b, ok_init F M b T N cF n⟩
    have cFM := cF (n + 1)
    refine FnP_ok F scNInit (fun vs H Q E h => ?_) (fun cdv A outer s H vs Q E hr h => ?_)
    · obtain ⟨p, dx, x, e, b, rfl, _⟩ := h; rfl
    · obtain ⟨p, dx, x, e, b, rfl, hp, hE, ho, hn, q⟩ := h
      have nd := scNInit.nd
      refine ⟨_, pss_cons (ps_fld (pv 0) (ix (pv 1) pe_int) rfl)
        (pss_cons (ps_fld (pv 0) (pe_lc (own := [("part", 2)]) (g := gName 2) (tt := tB (tCB (rIsi K) (tCons (tVar 2) (tCons (tC (.ty "tuple")) tNil)))) (te := tMake C (spInit C n) [] E0 (tCons (tVar 2) tNil)) rfl nd
            (pi_tup (pe_slice sl_tup (pv 1) (po_some pe_int) po_none)) (blkOk_by (N := ["self", "expression", "part"]) (sc := defScope sNInit) (by decide +kernel)) (fun _ _ _ _ _ => pg_name (i := 2) nd rfl (Or.inl rfl))
            (fun _ _ _ _ _ => pts_one (pt_val (pe_callB call_isi (by rfl) T.isinstance (by decide +kernel) (pa_cons (pv 2) (pa_cons (pe_bltn (v := .ty "tuple") rfl T.tuple (by decide +kernel) rfl) pa_nil)))))
            (fun _ _ _ _ _ => pe_cln cN hr rfl (pa_cons (pv 2) pa_nil))) rfl)
        (pss_cons (ps_fld (pv 0) (pe_lc (own := [("part", 2)]) (g := gName 2) (tt := tNot (tB (tCB (rIsi K) (tCons (tVar 2) (tCons (tC (.ty "tuple")) tNil))))) (te := tVar 2) rfl nd
            (pi_tup (pe_slice sl_tup (pv 1) (po_some pe_int) po_none)) (blkOk_by (N := ["self", "expression", "part"]) (sc := defScope sNInit) (by decide +kernel)) (fun _ _ _ _ _ => pg_name (i := 2) nd rfl (Or.inl rfl))
            (fun _ _ _ _ _ => pts_one (pt_not (pt_val (pe_callB call_isi (by rfl) T.isinstance (by decide +kernel) (pa_cons (pv 2) (pa_cons (pe_bltn (v := .ty "tuple") rfl T.tuple (by decide +kernel) rfl) pa_nil))))))
            (fun _ _ _ _ _ => pv 2)) rfl)
        (pss_one (ps_fld (pv 0) (pe_clm0 cFM hr N.cl (pv 0)) rfl)))), ?_⟩
      obtain ⟨a, vs, rfl, hH, hvs⟩ := hE.shape
      have hlen := hvs.length
      have hfew := parts_few ho
      have nap : a ≠ p := ne_of hH hp (by intro z; cases z)
      refine ⟨_, rfl, a, _, 0, _, rfl, rfl, SqT.of hH, atI_nat (j := 0) rfl, _, rfl, p, C, dx, [], rfl, hp, N.cl, N.nK, (by show 0 < 1000; decide), ?_⟩
      let H1 : Hp := upd H p (.ins C dx (fl1 e))
      have k1 : Keep p H H1 := fun c o z h => by show upd H p _ c = _; rw [upd_ne h]; exact z
      have hp1 : H1 p = some (.ins C dx (fl1 e)) := upd_same
      have hH1 := k1 _ _ hH nap
      refine ⟨_, rfl, 1, rfl, a, _, rfl, SqT.of hH1, notwhole _ _, fun p1 hp1' => ?_⟩
      rw [drop1]
      have s2 := same_new (o := .tup (vs ++ (nums e).map V.int)) hp1'
      refine ⟨p1, rfl, ⟨_, SqT.of upd_same⟩, fun D hD => ?_⟩
      have e2 := hvs.mono ((k1.ts hp).trans s2.ts)
      have hp2 := s2 _ _ hp1
      have hH2 := s2 _ _ hH1
      refine lc_tup (K := K) (a := p1) (xs := vs ++ (nums e).map V.int) (fun i Hc => Same (upd H1 p1 (.tup (vs ++ (nums e).map V.int))) Hc ∧ ∃ us, Hc D = some (.lst us) ∧ NodeAts C Hc (fun c => upd H1 p1 (.tup (vs ++ (nums e).map V.int)) c = none ∧ c ≠ D) ((parts e).take i) us)
        ⟨same_new hD, [], upd_same, rfl⟩ (fun i Hc _ h => SqT.of (h.1 _ _ upd_same)) (fun i x Hc hi h => ?_) (fun Hc h => ?_)
      · obtain ⟨sc, us, hDc, hN⟩ := h
        by_cases hi' : i < vs.length
        · have hx : vs[i]? = some x := by rw [List.getElem?_append_left hi'] at hi; exact hi
          obtain ⟨c, hc, hEc⟩ := e2.get hx
          have hEc' := hEc.mono sc.ts
          obtain ⟨ac, xs, rfl, hac⟩ := hEc'.tup
          obtain ⟨b', ho'⟩ := ho.part (List.mem_of_getElem? hc)
          refine ⟨rfl, _, rfl, _, _, _, _, true, rfl, ClsV.ty "tuple", TyX.base (TyOf.tup hac), kit_ty (by decide +kernel), true, rfl, iteT ?_⟩
          refine ⟨_, rfl, fun y dy hy hdy hne => ⟨y, dy, _, c, b', rfl, upd_same, hEc'.mono (TS.trans (TS.new hdy) (TS.new (by rw [upd_ne (Ne.symm hne)]; exact hy))), ho', by omega, fun H' kk nn => ⟨rfl, ?_⟩⟩⟩
          have sH' : Same Hc H' := fun d o z => kk d o (by rw [upd_ne (ne_of_none z hy), upd_ne (ne_of_none z hdy)]; exact z) (ne_of_none z hy)
          have hlu : us.length = ((parts e).take i).length := hN.length
          refine ⟨us, sH' _ _ hDc, small1000 (by rw [hlu, List.length_take]; have := Nat.min_le_right i (parts e).length; omega), same_then (sc.trans sH') hD, us ++ [.ref y], upd_same, ?_⟩
          have yD : ∀ d, H' d = none → d ≠ D := fun d z => by intro z2; rw [z2, sH' _ _ hDc] at z; cases z
          have n1 : NodeAt C (upd H' D (.lst (us ++ [.ref y]))) (fun c => upd H1 p1 (.tup (vs ++ (nums e).map V.int)) c = none ∧ c ≠ D) c (.ref y) := nn.mono fun d o fd z => by
            have hd0 : Hc d = none := by
              rcases fd with rfl | fd
              · exact hy
              · by_cases dy' : d = y
                · rw [dy']; exact hy
                · rw [upd_ne dy'] at fd
                  by_cases dd : d = dy
                  · rw [dd]; exact hdy
                  · rw [upd_ne dd] at fd; exact fd
            have dD : d ≠ D := fun z2 => by rw [z2, hDc] at hd0; cases hd0
            exact ⟨by rw [upd_ne dD]; exact z, sc.free hd0, dD⟩
          have n2 := hN.mono (H' := upd H' D (.lst (us ++ [.ref y]))) (G := fun c => upd H1 p1 (.tup (vs ++ (nums e).map V.int)) c = none ∧ c ≠ D) fun d o fd z => ⟨by rw [upd_ne fd.2]; exact sH' _ _ z, fd⟩
          rw [List.take_add_one, hc]
          exact n2.snoc n1
        · have hx : ∃ m, x = .int m := by
            rw [List.getElem?_append_right (by omega), List.getElem?_map] at hi
            cases hq : (nums e)[i - vs.length]? with
            | none => rw [hq] at hi; cases hi
            | some m => rw [hq] at hi; cases hi; exact ⟨m, rfl⟩
          obtain ⟨m, rfl⟩ := hx
          refine ⟨rfl, _, rfl, _, _, _, _, false, rfl, ClsV.ty "tuple", TyX.base (TyOf.int m), kit_ty (by decide +kernel), false, rfl, iteF ?_⟩
          refine ⟨sc, us, hDc, ?_⟩
          rw [List.take_of_length_le (by omega)] at hN ⊢
          exact hN
      · obtain ⟨sc, us, hDc, hN⟩ := h
        rw [List.take_of_length_le (by rw [List.length_append]; omega)] at hN
        have hpc := sc _ _ hp2
        have npD : p ≠ D := ne_of_none hp2 hD
        refine ⟨_, rfl, p, C, dx, fl1 e, rfl, hpc, N.cl, N.nP, (by rw [fl1_eq]; show 1 < 1000; decide), ?_⟩
        let H3 : Hp := upd Hc p (.ins C dx (fl2 e D))
        have k3 : Keep p Hc H3 := fun c o z h => by show upd Hc p _ c = _; rw [upd_ne h]; exact z
        have hp3 : H3 p = some (.ins C dx (fl2 e D)) := upd_same
        have hH3 := k3 _ _ (sc _ _ hH2) nap
        have hD3 : H3 D = some (.lst us) := k3 _ _ hDc npD.symm
        refine ⟨_, rfl, 1, rfl, a, _, rfl, SqT.of hH3, notwhole _ _, fun p4 hp4 => ?_⟩
        rw [drop1]
        have s4 := same_new (o := .tup (vs ++ (nums e).map V.int)) hp4
        refine ⟨p4, rfl, ⟨_, SqT.of upd_same⟩, fun D2 hD2 => ?_⟩
        have e4 := hvs.mono ((((k1.ts hp).trans s2.ts).trans sc.ts).trans ((k3.ts hpc).trans s4.ts))
        refine lc_tup (K := K) (a := p4) (xs := vs ++ (nums e).map V.int) (fun i Hd => Same (upd H3 p4 (.tup (vs ++ (nums e).map V.int))) Hd ∧ Hd D2 = some (.lst (((nums e).map V.int).take (i - vs.length))))
          ⟨same_new hD2, by rw [upd_same]; simp⟩ (fun i Hd _ h => SqT.of (h.1 _ _ upd_same)) (fun i x Hd hi h => ?_) (fun Hd h => ?_)
        · obtain ⟨sd, hDd⟩ := h
          by_cases hi' : i < vs.length
          · have hx : vs[i]? = some x := by rw [List.getElem?_append_left hi'] at hi; exact hi
            obtain ⟨c, hc, hEc⟩ := e4.get hx
            obtain ⟨ac, xs, rfl, hac⟩ := (hEc.mono sd.ts).tup
            refine ⟨rfl, _, rfl, _, _, _, _, true, rfl, ClsV.ty "tuple", TyX.base (TyOf.tup hac), kit_ty (by decide +kernel), true, rfl, iteF ?_⟩
            refine ⟨sd, ?_⟩
            rw [show i + 1 - vs.length = i - vs.length by omega]
            exact hDd
          · rw [List.getElem?_append_right (by omega)] at hi
            have hx : ∃ m, x = .int m := by
              rw [List.getElem?_map] at hi
              cases hq : (nums e)[i - vs.length]? with
              | none => rw [hq] at hi; cases hi
              | some m => rw [hq] at hi; cases hi; exact ⟨m, rfl⟩
            obtain ⟨m, rfl⟩ := hx
            refine ⟨rfl, _, rfl, _, _, _, _, false, rfl, ClsV.ty "tuple", TyX.base (TyOf.int m), kit_ty (by decide +kernel), false, rfl, iteT ?_⟩
            refine ⟨_, rfl, _, hDd, small1000 (by rw [List.length_take, List.length_map]; have := Nat.min_le_right (i - vs.length) (nums e).length; omega), same_then sd hD2, ?_⟩
            rw [upd_same, show i + 1 - vs.length = (i - vs.length) + 1 by omega, List.take_add_one, hi]
            rfl
        · obtain ⟨sd, hDd⟩ := h
          rw [List.length_append, Nat.add_sub_cancel_left, List.take_length] at hDd
          have hp4' := s4 _ _ hp3
          have hpd := sd _ _ hp4'
          have npD2 : p ≠ D2 := ne_of_none hp4' hD2
          refine ⟨_, rfl, p, C, dx, fl2 e D, rfl, hpd, N.cl, N.nN, (by rw [fl2_eq]; show 2 < 1000; decide), ?_⟩
          let H5 : Hp := upd Hd p (.ins C dx (fl3 e D D2))
          have k5 : Keep p Hd H5 := fun c o z h => by show upd Hd p _ c = _; rw [upd_ne h]; exact z
          have hp5 : H5 p = some (.ins C dx (fl3 e D D2)) := upd_same
          have hD5 : H5 D = some (.lst us) := k5 _ _ (sd _ _ (s4 _ _ hD3)) npD.symm
          have hD25 : H5 D2 = some (.lst ((nums e).map V.int)) := k5 _ _ hDd npD2.symm
          have fp : ∀ c o, (upd H1 p1 (.tup (vs ++ (nums e).map V.int)) c = none ∧ c ≠ D) → Hc c = some o → H5 c = some o ∧ (upd H1 p1 (.tup (vs ++ (nums e).map V.int)) c = none ∧ c ≠ D) := fun c o fc z => by
            have cp : c ≠ p := fun z2 => by have z3 := fc.1; rw [z2] at z3; exact absurd (hp2.symm.trans z3) (by intro z; cases z)
            exact ⟨k5 _ _ (sd _ _ (s4 _ _ (k3 _ _ z cp))) cp, fc⟩
          have hN5 := hN.mono (H' := H5) fp
          refine ⟨_, rfl, p, dx, fl3 e D D2, rfl, hp5, fl3_no e D D2 (by decide +kernel) (by decide +kernel) (by decide +kernel), p, dx, D, D2, e, us, _, b, rfl, hp5, hD5, hD25, hN5, ho, hn, fun H6 s6 => ?_⟩
          refine ⟨_, rfl, p, C, dx, fl3 e D D2, rfl, s6 _ _ hp5, N.cl, N.nM, (by rw [fl3_eq]; show 3 < 1000; decide), ?_⟩
          have k7 : Keep p H6 (upd H6 p (.ins C dx (fl4 e D D2))) := fun c o z h => by rw [upd_ne h]; exact z
          have dom : ∀ c, upd H1 p1 (.tup (vs ++ (nums e).map V.int)) c = none → c = p ∨ H c = none := fun c z => by
            have z1 := s2.free z
            by_cases cp : c = p
            · exact .inl cp
            · exact .inr (by have z1 : upd H p _ c = none := z1; rw [upd_ne cp] at z1; exact z1)
          have allk : Keep p H (upd H6 p (.ins C dx (fl4 e D D2))) := fun c o z h => k7 _ _ (s6 _ _ (k5 _ _ (sd _ _ (s4 _ _ (k3 _ _ (sc _ _ (s2 _ _ (k1 _ _ z h))) h))) h)) h
          refine q _ allk (NodeAt.mk (vs := us) ⟨p, dx, D, D2, rfl, ⟨.inl rfl, dom D hD, ?_⟩, upd_same, k7 _ _ (s6 _ _ hD5) npD.symm, k7 _ _ (s6 _ _ hD25) npD2.symm⟩ (hN5.mono fun c o fc z => ⟨k7 _ _ (s6 _ _ z) (fun z2 => by have z3 := fc.1; rw [z2] at z3; exact absurd (hp2.symm.trans z3) (by intro z; cases z)), dom c fc.1⟩))
          by_cases z : D2 = p
          · exact .inl z
          · refine .inr ?_
            cases hq : H D2 with
            | none => rfl
            | some o =>
              have := s4 _ _ (k3 _ _ (sc _ _ (s2 _ _ (k1 _ _ hq z))) z)
              rw [hD2] at this; cases this
end
end Ta

set_option maxHeartbeats 4000000
/-! Node.reach, _angle_reach, _plain_reach; reach. -/
namespace Ta
open PySem PySem.Spec PyProof.Rows L2
def plain : E → Int → Int
  | .num _, _ => 0
  | .wave a, k => wreach (reach a k)
  | .sum ps, k => reachL ps k
  | .share q n d, k => up (reach q k * ab n) d
  | .prod q r d, k => up (most q * reach r k + most r * reach q k) d
  | .later q _, k => reach q k
  | .turn _ _ _, _ => 0
  | .moved _ _, _ => 0
  | .minus _ _, _ => 0
theorem reach_plain {n : Nat} {e : E} (h : Ok n false e) (k : Int) : reach e k = mn (plain e k) (2 * most e) := by
  cases n with
  | zero => exact (no0 h).elim
  | succ n =>
    cases e with
    | num m => rfl
    | wave a => rfl
    | sum es => rfl
    | share q m d => rfl
    | prod q r d => rfl
    | later q m => rfl
    | turn s m d => exact (show False from h).elim
    | moved q r => exact (show False from h).elim
    | minus q r => exact (show False from h).elim
def spNR (C : Addr) (n : Nat) : Sp := fun vs H Q _ => ∃ (v : V) (e : E) (k : Int) (b : Bool) (F : Addr → Prop), vs = [v, .int k] ∧ NodeAt C H F e v ∧ Ok n b e ∧ n ≤ 8 ∧ 0 ≤ k ∧ ∀ H', Same H H' → Q (.int (reach e k)) H'
def spNA (C : Addr) (n : Nat) : Sp := fun vs H Q _ => ∃ (v : V) (e : E) (k : Int) (F : Addr → Prop), vs = [v, .int k] ∧ NodeAt C H F e v ∧ Ok n true e ∧ n ≤ 8 ∧ 0 ≤ k ∧ ∀ H', Same H H' → Q (.int (reach e k)) H'
def spNP (C : Addr) (n : Nat) : Sp := fun vs H Q _ => ∃ (v : V) (e : E) (k : Int) (F : Addr → Prop), vs = [v, .int k] ∧ NodeAt C H F e v ∧ Ok n false e ∧ n ≤ 8 ∧ 0 ≤ k ∧ ∀ H', Same H H' → Q (.int (plain e k)) H'
section
variable {P : Program} {w : World} {K : PySem.W.Frag} {mg : Str → Option Value} {base : Heap} {C : Addr}
theorem fl4_noR (e : E) (pl nl : Addr) : (fl4 e pl nl).lookup ("reach" : Str) = none := fl4_no e pl nl (by decide +kernel) (by decide +kernel) (by decide +kernel) (by decide +kernel)
theorem NodeAt.reach_at {H : Hp} {F : Addr → Prop} {e : E} {x : V} (h : NodeAt C H F e x) : ∃ p dx fs, x = .ref p ∧ H p = some (.ins C dx fs) ∧ fs.lookup ("reach" : Str) = none := by
  obtain ⟨vs, ⟨p, dx, pl, nl, rfl, _, h1, _, _⟩, _⟩ := h.un
  exact ⟨p, dx, _, rfl, h1, fl4_noR e pl nl⟩
/-- the reading of the sum of the reaches of the parts; the walked one in slot i -/
theorem rd_sum_parts {i : Nat} {σ : L2.St} {H : Hp} {p dx pl : Addr} {fs : List (Str × V)} {us : List V} {F : Addr → Prop} {n : Nat} {b : Bool} {e : E} {k : Int} {Q : VK} (N : TxN K mg C) (h0 : σ[0]? = some (some (.ref p))) (h1 : σ[1]? = some (some (.int k))) (hi : 2 ≤ i) (hiσ : i < σ.length)
    (hp : H p = some (.ins C dx fs)) (hl : fs.lookup ("parts" : Str) = some (.ref pl)) (hpl : H pl = some (.lst us)) (hN : NodeAts C H F (parts e) us) (ho : Ok (n + 1) b e) (hn : n ≤ 8) (hk : 0 ≤ k) (q : ∀ H', Same H H' → Q (.int (reachL (parts e) k)) H') :
    tCB (rSum K) (tCons (tLc (iList K (tFld K (tVar 0) "parts")) (gName i) tYes (tMeth C "reach" (spNR C n) [] E0 (tVar i) (tCons (tVar 1) tNil)) [i]) tNil) σ H Q := by
  refine ⟨_, h0, p, C, dx, _, _, rfl, hp, N.cl, N.nP, hl, pl, rfl, ⟨_, SqL.of hpl⟩, fun D hD => lc_ints_list ((parts e).map fun e => reach e k) (by rw [List.length_map]; exact hN.length) (by rw [hN.length]; have := parts_few ho; omega) hD (SqL.of hpl) (fun j v m H2 hj hm s2 Q2 q2 => ?_) (gName_mono i) tYes_mono (fun H2 s2 hDd => ?_)⟩
  · obtain ⟨c, hc, hev⟩ := hN.get hj
    rw [List.getElem?_map, hc] at hm
    cases hm
    obtain ⟨p', dx', fs', rfl, hp', l'⟩ := (hev.same s2).reach_at
    obtain ⟨b', ho'⟩ := ho.part (List.mem_of_getElem? hc)
    have wl : (wipe σ [i]).length = σ.length := wipe_length σ [i]
    have g1 : ((wipe σ [i]).set i (some (.ref p')))[i]? = some (some (.ref p')) := List.getElem?_set_self (by rw [wl]; exact hiσ)
    have g2 : ((wipe σ [i]).set i (some (.ref p')))[1]? = some (some (.int k)) := by
      rw [List.getElem?_set_ne (by omega)]
      show (σ.set i none)[1]? = _
      rw [List.getElem?_set_ne (by omega)]
      exact h1
    have g3 : wipe ((wipe σ [i]).set i (some (.ref p'))) [i] = wipe σ [i] := by
      show (((σ.set i none).set i (some (.ref p'))).set i none) = σ.set i none
      rw [List.set_set, List.set_set]
    exact ⟨g3, rfl, _, g1, p', dx', fs', rfl, hp', l', _, g2, _, c, k, b', F, rfl, hev.same s2, ho', hn, hk, q2⟩
  · refine ⟨D, _, rfl, SqL.of hDd, ?_⟩
    rw [reachL_sum]
    exact q _ s2
theorem ok_nreach {fR fA fP : Addr} {fdR fdA fdP : FuncData} (DR : Dm K C "reach" "Node.reach" sNReach ["self", "k"] fR fdR) (DA : Dm K C "_angle_reach" "Node._angle_reach" sNAngleReach ["self", "k"] fA fdA) (DP : Dm K C "_plain_reach" "Node._plain_reach" sNPlainReach ["self", "k"] fP fdP)
    (T : Txt mg) (N : TxN K mg C) (cU : Cal P w K mg base 1 "ratio_up" ["number", "divisor"] spUp) (cW : Cal P w K mg base 1 "wave_reach" ["distance"] spWR) :
    ∀ n, FnOk P w K mg base CX0 (2 * n + 3) fR fdR ["self", "k"] (spNR C n)
  | 0 => by
    refine FnP_ok DR.F scNReach (fun vs H Q E h => ?_) (fun cdv A outer s H vs Q E hr h => ?_)
    · obtain ⟨v, e, k, b, F, rfl, _⟩ := h; rfl
    · obtain ⟨v, e, k, b, F, rfl, _, h, _⟩ := h; exact (no0 h).elim
  | n + 1 => by
    have cR := DR.cal (ok_nreach DR DA DP T N cU cW n)
    have okA : FnOk P w K mg base CX0 (2 * n + 4) fA fdA ["self", "k"] (spNA C (n + 1)) := by
      refine FnP_ok DA.F scNAngleReach (fun vs H Q E h => ?_) (fun cdv A outer s H vs Q E hr h => ?_)
      · obtain ⟨v, e, k, F, rfl, _⟩ := h; rfl
      · obtain ⟨v, e, k, F, rfl, hN, ho, hn, hk, q⟩ := h
        have nd := scNAngleReach.nd
        refine ⟨_, pss_cons (ps_if (pt_cmpR op_eq (pe_fld (pv 0) rfl) pe_str (nomark _))
            (pss_cons (ps_asg (pe_fld (pv 0) rfl) (pg_unl rfl (pgs_cons (pg_name (i := 2) nd rfl (.inl rfl)) (pgs_cons (pg_name (i := 3) nd rfl (.inl rfl)) (pgs_cons (pg_name (i := 4) nd rfl (.inl rfl)) pgs_nil)))))
            (pss_one (ps_ret (pe_cl cU hr rfl (pa_cons (pe_op op_mul (pe_callB call_abs (by rfl) T.abs (by decide +kernel) (pa_cons (pv 3) pa_nil)) (pv 1)) (pa_cons (pv 4) pa_nil)))))) pss_nil)
          (pss_one (ps_ret (pe_callB (cr_sum rfl) (by rfl) T.sum (by decide +kernel) (pa_cons (pe_lc (own := [("part", 5)]) (g := gName 5) (tt := tYes) (te := tMeth C "reach" (spNR C n) [] E0 (tVar 5) (tCons (tVar 1) tNil)) rfl nd (pi_list (pe_fld (pv 0) rfl))
              (blkOk_by (N := ["self", "k", "_", "n", "d", "part"]) (sc := defScope sNAngleReach) (by decide +kernel)) (fun _ _ _ _ _ => pg_name (i := 5) nd rfl (Or.inl rfl)) (fun _ _ _ _ _ => pts_nil) (fun _ _ _ _ _ => pe_clm cR hr N.cl (pv 5) (pa_cons (pv 1) pa_nil))) pa_nil)))), ?_⟩
        obtain ⟨us, ⟨p, dx, pl, nl, rfl, _, hp, hpl, hnl⟩, hNs⟩ := hN.un
        cases e with
        | turn s m d =>
          obtain ⟨⟨o2, o3⟩, o4, o5⟩ := ho
          have ha := ab_le o2 o3
          have ha0 := ab_nn m
          refine rdK (k := "turning") N.cl N.nK rfl hp (fl4_kind _ pl nl) (txT ?_)
          refine ⟨_, rfl, p, C, dx, _, _, rfl, hp, N.cl, N.nN, fl4_numbers _ pl nl, nl, _, rfl, SqL.of hnl, rfl, _, _, rfl, _, _, rfl, _, _, rfl, rfl, ?_⟩
          exact ⟨_, rfl, m, rfl, _, rfl, _, _, rfl, rfl, cmul_l (show _ < ab m by omega) (show ab m < _ by omega), _, rfl, _, d, rfl, o4, o5, q _ (Same.refl _)⟩
        | moved c r =>
          refine rdK (k := "moved") N.cl N.nK rfl hp (fl4_kind _ pl nl) (txF (by decide +kernel) ?_)
          refine rd_sum_parts N (by rfl) (by rfl) (by decide) (by show 5 < 6; decide) hp (fl4_parts _ pl nl) hpl hNs ho (by omega) hk (fun H' s' => ?_)
          have e1 : reachL (parts (.moved c r)) k = reach (.moved c r) k := by show reachL [c, r] k = _; simp [reachL, reach]
          rw [e1]
          exact q _ s'
        | minus c r =>
          refine rdK (k := "minus") N.cl N.nK rfl hp (fl4_kind _ pl nl) (txF (by decide +kernel) ?_)
          refine rd_sum_parts N (by rfl) (by rfl) (by decide) (by show 5 < 6; decide) hp (fl4_parts _ pl nl) hpl hNs ho (by omega) hk (fun H' s' => ?_)
          have e1 : reachL (parts (.minus c r)) k = reach (.minus c r) k := by show reachL [c, r] k = _; simp [reachL, reach]
          rw [e1]
          exact q _ s'
        | num k => exact ho.elim
        | wave c => exact ho.elim
        | sum es => exact ho.elim
        | share c m d => exact ho.elim
        | prod c r d => exact ho.elim
        | later c m => exact ho.elim
    have okP : FnOk P w K mg base CX0 (2 * n + 4) fP fdP ["self", "k"] (spNP C (n + 1)) := by
      refine FnP_ok DP.F scNPlainReach (fun vs H Q E h => ?_) (fun cdv A outer s H vs Q E hr h => ?_)
      · obtain ⟨v, e, k, F, rfl, _⟩ := h; rfl
      · obtain ⟨v, e, k, F, rfl, hN, ho, hn, hk, q⟩ := h
        have nd := scNPlainReach.nd
        refine ⟨_, pss_cons (ps_if (pt_cmpR op_eq (pe_fld (pv 0) rfl) pe_str (nomark _)) (pss_one (ps_ret (pe_cl cW hr rfl (pa_cons (pe_clm cR hr N.cl (pe_ix ix_list (pe_fld (pv 0) rfl) pe_int (fun _ _ => rfl)) (pa_cons (pv 1) pa_nil)) pa_nil)))) pss_nil)
          (pss_cons (ps_if (pt_cmpR op_eq (pe_fld (pv 0) rfl) pe_str (nomark _)) (pss_one (ps_ret (pe_cl cU hr rfl (pa_cons (pe_op op_mul (pe_clm cR hr N.cl (pe_ix ix_list (pe_fld (pv 0) rfl) pe_int (fun _ _ => rfl)) (pa_cons (pv 1) pa_nil)) (pe_callB call_abs (by rfl) T.abs (by decide +kernel) (pa_cons (pe_ix ix_list (pe_fld (pv 0) rfl) pe_int (fun _ _ => rfl)) pa_nil)))
              (pa_cons (pe_ix ix_list (pe_fld (pv 0) rfl) pe_int (fun _ _ => rfl)) pa_nil))))) pss_nil)
          (pss_cons (ps_if (pt_cmpR op_eq (pe_fld (pv 0) rfl) pe_str (nomark _))
            (pss_cons (ps_asg (pe_fld (pv 0) rfl) (pg_unl rfl (pgs_cons (pg_name (i := 2) nd rfl (.inl rfl)) (pgs_cons (pg_name (i := 3) nd rfl (.inl rfl)) pgs_nil))))
            (pss_cons (ps_set (i := 4) nd rfl (.inl rfl) (pe_op op_add (pe_op op_mulW (pe_fld (pv 2) rfl) (pe_clm cR hr N.cl (pv 3) (pa_cons (pv 1) pa_nil))) (pe_op op_mulW (pe_fld (pv 3) rfl) (pe_clm cR hr N.cl (pv 2) (pa_cons (pv 1) pa_nil)))))
            (pss_one (ps_ret (pe_cl cU hr rfl (pa_cons (pv 4) (pa_cons (pe_ix ix_list (pe_fld (pv 0) rfl) pe_int (fun _ _ => rfl)) pa_nil))))))) pss_nil)
          (pss_one (ps_ret (pe_callB (cr_sum rfl) (by rfl) T.sum (by decide +kernel) (pa_cons (pe_lc (own := [("part", 5)]) (g := gName 5) (tt := tYes) (te := tMeth C "reach" (spNR C n) [] E0 (tVar 5) (tCons (tVar 1) tNil)) rfl nd (pi_list (pe_fld (pv 0) rfl))
              (blkOk_by (N := ["self", "k", "first", "second", "change", "part"]) (sc := defScope sNPlainReach) (by decide +kernel)) (fun _ _ _ _ _ => pg_name (i := 5) nd rfl (Or.inl rfl)) (fun _ _ _ _ _ => pts_nil) (fun _ _ _ _ _ => pe_clm cR hr N.cl (pv 5) (pa_cons (pv 1) pa_nil))) pa_nil)))))), ?_⟩
        obtain ⟨us, ⟨p, dx, pl, nl, rfl, _, hp, hpl, hnl⟩, hNs⟩ := hN.un
        cases e with
        | num m =>
          refine rdK (k := "number") N.cl N.nK rfl hp (fl4_kind _ pl nl) (txF (by decide +kernel) ?_)
          refine rdK (k := "number") N.cl N.nK rfl hp (fl4_kind _ pl nl) (txF (by decide +kernel) ?_)
          refine rdK (k := "number") N.cl N.nK rfl hp (fl4_kind _ pl nl) (txF (by decide +kernel) ?_)
          exact rd_sum_parts N (by rfl) (by rfl) (by decide) (by show 5 < 6; decide) hp (fl4_parts _ pl nl) hpl hNs ho (by omega) hk (fun H' s' => q _ s')
        | sum es =>
          refine rdK (k := "sum") N.cl N.nK rfl hp (fl4_kind _ pl nl) (txF (by decide +kernel) ?_)
          refine rdK (k := "sum") N.cl N.nK rfl hp (fl4_kind _ pl nl) (txF (by decide +kernel) ?_)
          refine rdK (k := "sum") N.cl N.nK rfl hp (fl4_kind _ pl nl) (txF (by decide +kernel) ?_)
          exact rd_sum_parts N (by rfl) (by rfl) (by decide) (by show 5 < 6; decide) hp (fl4_parts _ pl nl) hpl hNs ho (by omega) hk (fun H' s' => q _ s')
        | later c m =>
          refine rdK (k := "later") N.cl N.nK rfl hp (fl4_kind _ pl nl) (txF (by decide +kernel) ?_)
          refine rdK (k := "later") N.cl N.nK rfl hp (fl4_kind _ pl nl) (txF (by decide +kernel) ?_)
          refine rdK (k := "later") N.cl N.nK rfl hp (fl4_kind _ pl nl) (txF (by decide +kernel) ?_)
          refine rd_sum_parts N (by rfl) (by rfl) (by decide) (by show 5 < 6; decide) hp (fl4_parts _ pl nl) hpl hNs ho (by omega) hk (fun H' s' => ?_)
          have e1 : reachL (parts (.later c m)) k = plain (.later c m) k := by show reachL [c] k = _; simp [reachL, plain]
          rw [e1]
          exact q _ s'
        | wave c =>
          obtain ⟨v, r, rfl, hv, hr0⟩ := hNs
          obtain ⟨p', dx', fs', rfl, hp', l'⟩ := hv.reach_at
          refine rdK (k := "wave") N.cl N.nK rfl hp (fl4_kind _ pl nl) (txT ?_)
          refine rdL (j := 0) N.cl N.nP rfl hp (fl4_parts _ pl nl) hpl rfl ⟨p', dx', fs', rfl, hp', l', _, rfl, _, c, k, true, F, rfl, hv, ho, by omega, hk, fun H1 s1 => ⟨_, rfl, q _ s1⟩⟩
        | share c m d =>
          obtain ⟨o1, ⟨o2, o3⟩, o4, o5⟩ := ho
          obtain ⟨v, r, rfl, hv, hr0⟩ := hNs
          have ha := ab_le o2 o3
          have ha0 := ab_nn m
          obtain ⟨p', dx', fs', rfl, hp', l'⟩ := hv.reach_at
          refine rdK (k := "share") N.cl N.nK rfl hp (fl4_kind _ pl nl) (txF (by decide +kernel) ?_)
          refine rdK (k := "share") N.cl N.nK rfl hp (fl4_kind _ pl nl) (txT ?_)
          refine rdL (j := 0) N.cl N.nP rfl hp (fl4_parts _ pl nl) hpl rfl ⟨p', dx', fs', rfl, hp', l', _, rfl, _, c, k, false, F, rfl, hv, o1, by omega, hk, fun H1 s1 => ?_⟩
          refine rdL (j := 0) N.cl N.nN rfl (s1 _ _ hp) (fl4_numbers _ pl nl) (s1 _ _ hnl) rfl ⟨m, rfl, _, _, rfl, rfl, cmul_r (show _ < ab m by omega) (show ab m < _ by omega), ?_⟩
          exact rdL (j := 1) N.cl N.nN rfl (s1 _ _ hp) (fl4_numbers _ pl nl) (s1 _ _ hnl) rfl ⟨_, d, rfl, o4, o5, q _ s1⟩
        | prod c r d =>
          obtain ⟨o1, o2, o4, o5⟩ := ho
          obtain ⟨v, r1, rfl, hv, u, r2, rfl, hu, hr0⟩ := hNs
          obtain rfl : r2 = [] := hr0
          obtain ⟨p', dx', fs', rfl, hp', l'⟩ := hv.reach_at
          obtain ⟨p2, dx2, fs2, rfl, hp2, l2⟩ := hu.reach_at
          obtain ⟨_, _, _, e1, hp1b, m1⟩ := hv.most_at
          cases e1
          rw [hp'] at hp1b
          cases hp1b
          obtain ⟨_, _, _, e1, hp2b, m2⟩ := hu.most_at
          cases e1
          rw [hp2] at hp2b
          cases hp2b
          rw [mostV_q o1] at m1
          rw [mostV_q o2] at m2
          refine rdK (k := "product") N.cl N.nK rfl hp (fl4_kind _ pl nl) (txF (by decide +kernel) ?_)
          refine rdK (k := "product") N.cl N.nK rfl hp (fl4_kind _ pl nl) (txF (by decide +kernel) ?_)
          refine rdK (k := "product") N.cl N.nK rfl hp (fl4_kind _ pl nl) (txT ?_)
          refine ⟨_, rfl, p, C, dx, _, _, rfl, hp, N.cl, N.nP, fl4_parts _ pl nl, pl, _, rfl, SqL.of hpl, rfl, _, _, rfl, _, _, rfl, rfl, ?_⟩
          refine ⟨_, rfl, p', C, dx', fs', _, rfl, hp', N.cl, N.nM, m1, _, rfl, p2, dx2, fs2, rfl, hp2, l2, _, rfl, _, r, k, false, F, rfl, hu, o2, by omega, hk, fun H1 s1 => ?_⟩
          refine ⟨_, _, rfl, rfl, wide_mul (most_lt o1 (by omega)) (reach_lt o2 (by omega) hk) (by decide) (by decide) (by decide), ?_⟩
          refine ⟨_, rfl, p2, C, dx2, fs2, _, rfl, s1 _ _ hp2, N.cl, N.nM, m2, _, rfl, p', dx', fs', rfl, s1 _ _ hp', l', _, rfl, _, c, k, false, F, rfl, hv.same s1, o1, by omega, hk, fun H2 s2 => ?_⟩
          refine ⟨_, _, rfl, rfl, wide_mul (most_lt o2 (by omega)) (reach_lt o1 (by omega) hk) (by decide) (by decide) (by decide), _, _, rfl, rfl, ?_⟩
          have s12 := s1.trans s2
          refine ⟨_, rfl, ?_⟩
          exact rdL (j := 0) N.cl N.nN rfl (s12 _ _ hp) (fl4_numbers _ pl nl) (s12 _ _ hnl) rfl ⟨_, d, rfl, o4, o5, q _ s12⟩
        | turn s m d => exact ho.elim
        | moved c r => exact ho.elim
        | minus c r => exact ho.elim
    have cA := DA.cal okA
    have cP := DP.cal okP
    refine FnP_ok DR.F scNReach (fun vs H Q E h => ?_) (fun cdv A outer s H vs Q E hr h => ?_)
    · obtain ⟨v, e, k, b, F, rfl, _⟩ := h; rfl
    · obtain ⟨v, e, k, b, F, rfl, hN, ho, hn, hk, q⟩ := h
      refine ⟨_, pss_cons (ps_if (pt_cmp (pc_isN (pe_fld (pv 0) rfl))) (pss_one (ps_ret (pe_clm cA hr N.cl (pv 0) (pa_cons (pv 1) pa_nil)))) pss_nil)
        (pss_one (ps_ret (pe_callB (call_min2 rfl) (by rfl) T.min (by decide +kernel) (pa_cons (pe_clm cP hr N.cl (pv 0) (pa_cons (pv 1) pa_nil)) (pa_cons (pe_op op_mul pe_int (pe_fld (pv 0) rfl)) pa_nil))))), ?_⟩
      obtain ⟨us, ⟨p, dx, pl, nl, rfl, _, hp, hpl, hnl⟩, hNs⟩ := hN.un
      refine ⟨_, rfl, p, C, dx, _, _, rfl, hp, N.cl, N.nM, fl4_most e pl nl, _, rfl, ?_⟩
      cases b with
      | true =>
        have em : mostV e = .non := by unfold mostV; rw [ho.isA]; rfl
        rw [em]
        refine iteT ?_
        exact ⟨_, rfl, p, dx, _, rfl, hp, fl4_no e pl nl (by decide +kernel) (by decide +kernel) (by decide +kernel) (by decide +kernel), _, rfl, _, e, k, F, rfl, hN, ho, hn, hk, q⟩
      | false =>
        have em := mostV_q ho
        rw [em]
        refine iteF ?_
        refine ⟨_, rfl, p, dx, _, rfl, hp, fl4_no e pl nl (by decide +kernel) (by decide +kernel) (by decide +kernel) (by decide +kernel), _, rfl, _, e, k, F, rfl, hN, ho, hn, hk, fun H1 s1 => ?_⟩
        refine ⟨_, rfl, p, C, dx, _, _, rfl, s1 _ _ hp, N.cl, N.nM, (fl4_most e pl nl).trans (congrArg some em), _, _, rfl, rfl, cmul_l (by decide) (by decide), _, _, rfl, ?_⟩
        have := q _ s1
        rw [reach_plain ho] at this
        exact this
/-- reach(q, k) -/
def spR (n : Nat) : Sp := fun vs H Q _ => ∃ (v : V) (e : E) (k : Int), vs = [v, .int k] ∧ EAt H e v ∧ Ok n false e ∧ n ≤ 8 ∧ 0 ≤ k ∧ ∀ H', Same H H' → Q (.int (reach e k)) H'
/-- Node(q) and its methods as callables -/
theorem node_made {H H' : Hp} {x dx : Addr} {o1 o2 : HO} (hx : H x = none) (hdx : H dx = none) (k : Keep x (upd (upd H dx o1) x o2) H') : Same H H' := fun b o z => k b o (by rw [upd_ne (ne_of_none z hx), upd_ne (ne_of_none z hdx)]; exact z) (ne_of_none z hx)
theorem ok_reach {f : Addr} {fd : FuncData} (F : FnP K "reach" "reach" sReach f fd) (N : TxN K mg C) (n : Nat) (cN : CalN P w K mg base C (2 * n + 3) ["self", "expression"] (spInit C n)) (cR : CalM P w K mg base C (2 * n + 3) "reach" ["self", "k"] (spNR C n)) :
    FnOk P w K mg base CX0 (2 * n + 5) f fd ["q", "k"] (spR n) := by
  refine FnP_ok F scReach (fun vs H Q E h => ?_) (fun cdv A outer s H vs Q E hr h => ?_)
  · obtain ⟨v, e, k, rfl, _⟩ := h; rfl
  · obtain ⟨v, e, k, rfl, hE, ho, hn, hk, q⟩ := h
    refine ⟨_, pss_one (ps_ret (pe_clm cR hr N.cl (pe_cln cN hr rfl (pa_cons (pv 0) pa_nil)) (pa_cons (pv 1) pa_nil))), ?_⟩
    refine ⟨_, rfl, fun x dx hx hdx hne => ⟨x, dx, v, e, false, rfl, upd_same, hE.mono (TS.trans (TS.new hdx) (TS.new (by rw [upd_ne (Ne.symm hne)]; exact hx))), ho, hn, fun H1 k1 nn => ⟨rfl, ?_⟩⟩⟩
    obtain ⟨p, dx', fs, e1, hp, l⟩ := nn.reach_at
    cases e1
    exact ⟨x, dx', fs, rfl, hp, l, _, rfl, _, e, k, false, _, rfl, nn, ho, hn, hk, fun H2 s2 => q _ ((node_made hx hdx k1).trans s2)⟩
end
end Ta

set_option maxHeartbeats 4000000
/-! finder: is_sure, longest, sided_cells, paper. -/
namespace Ta
open PySem PySem.Spec PyProof.Rows L2
def All2 {α β : Type} (R : α → β → Prop) : List α → List β → Prop
  | [], ys => ys = []
  | x :: xs, ys => ∃ y r, ys = y :: r ∧ R x y ∧ All2 R xs r
section
variable {α β : Type} {R R' : α → β → Prop}
theorem All2.mono (h : ∀ x y, R x y → R' x y) : ∀ {xs : List α} {ys : List β}, All2 R xs ys → All2 R' xs ys
  | [], ys, q => q
  | x :: xs, ys, q => by obtain ⟨y, r, rfl, a, b⟩ := q; exact ⟨y, r, rfl, h _ _ a, All2.mono h b⟩
theorem All2.length : ∀ {xs : List α} {ys : List β}, All2 R xs ys → xs.length = ys.length
  | [], ys, q => by rw [show ys = [] from q]; rfl
  | x :: xs, ys, q => by obtain ⟨y, r, rfl, a, b⟩ := q; rw [List.length_cons, List.length_cons, All2.length b]
theorem All2.snoc {x : α} {y : β} (h : R x y) : ∀ {xs : List α} {ys : List β}, All2 R xs ys → All2 R (xs ++ [x]) (ys ++ [y])
  | [], ys, q => by rw [show ys = [] from q]; exact ⟨y, [], rfl, h, rfl⟩
  | x' :: xs, ys, q => by obtain ⟨y', r, rfl, a, b⟩ := q; exact ⟨y', r ++ [y], rfl, a, All2.snoc h b⟩
theorem All2.get : ∀ {xs : List α} {ys : List β}, All2 R xs ys → ∀ {i : Nat} {x : α}, xs[i]? = some x → ∃ y, ys[i]? = some y ∧ R x y
  | [], ys, q, i, x, h => by cases h
  | x' :: xs, ys, q, 0, x, h => by obtain ⟨y, r, rfl, a, b⟩ := q; cases h; exact ⟨y, rfl, a⟩
  | x' :: xs, ys, q, i + 1, x, h => by obtain ⟨y, r, rfl, a, b⟩ := q; exact All2.get b (i := i) h
theorem All2.get2 : ∀ {xs : List α} {ys : List β}, All2 R xs ys → ∀ {i : Nat} {y : β}, ys[i]? = some y → ∃ x, xs[i]? = some x ∧ R x y
  | [], ys, q, i, y, h => by rw [show ys = [] from q] at h; cases h
  | x' :: xs, ys, q, 0, y, h => by obtain ⟨y', r, rfl, a, b⟩ := q; cases h; exact ⟨x', rfl, a⟩
  | x' :: xs, ys, q, i + 1, y, h => by obtain ⟨y', r, rfl, a, b⟩ := q; exact All2.get2 b (i := i) h
end
def CellAt (H : Hp) (x : V) (c : Cell) : Prop := ∃ a, x = .ref a ∧ H a = some (.tup [.int c.1, .int c.2.1, .bl c.2.2])
def PairAt (H : Hp) (x : V) (c : Int × Int) : Prop := ∃ a, x = .ref a ∧ H a = some (.tup [.int c.1, .int c.2])
def SideAt (H : Hp) (x : V) (c : Chg) : Prop := ∃ a, x = .ref a ∧ H a = some (.tup [.int c.1, .bl c.2])
def ChgAt (H : Hp) (x : V) (c : Chg) : Prop := ∃ a, x = .ref a ∧ H a = some (.tup [.int c.1, .str (sideS c.2)])
theorem CellAt.mono {H H' : Hp} (s : TS H H') (x : V) (c : Cell) (h : CellAt H x c) : CellAt H' x c := by obtain ⟨a, e, h⟩ := h; exact ⟨a, e, s _ _ h⟩
theorem PairAt.mono {H H' : Hp} (s : TS H H') (x : V) (c : Int × Int) (h : PairAt H x c) : PairAt H' x c := by obtain ⟨a, e, h⟩ := h; exact ⟨a, e, s _ _ h⟩
theorem SideAt.mono {H H' : Hp} (s : TS H H') (x : V) (c : Chg) (h : SideAt H x c) : SideAt H' x c := by obtain ⟨a, e, h⟩ := h; exact ⟨a, e, s _ _ h⟩
theorem ChgAt.mono {H H' : Hp} (s : TS H H') (x : V) (c : Chg) (h : ChgAt H x c) : ChgAt H' x c := by obtain ⟨a, e, h⟩ := h; exact ⟨a, e, s _ _ h⟩
/-- a list is written: the tuples stay -/
theorem TS.lst {H : Hp} {l : Addr} {xs ys : List V} (h : H l = some (.lst xs)) : TS H (upd H l (.lst ys)) := fun a zs e => by
  rw [upd_ne (ne_of e h (by intro z; cases z))]
  exact e
theorem tYesI {σ : L2.St} {H : Hp} {A B : Hp → Prop} (h : A H) : tYes σ H fun b H3 => if b = true then A H3 else B H3 := by
  show if true = true then A H else B H
  rw [if_pos rfl]
  exact h
section
variable {P : Program} {w : World} {K : PySem.W.Frag} {mg : Str → Option Value} {base : Heap} {C : Addr}
def spIS (C : Addr) (n : Nat) : Sp := fun vs H Q _ => ∃ (v : V) (e : E) (now k : Int) (F : Addr → Prop), vs = [v, .int now, .int k] ∧ NodeAt C H F e v ∧ Ok n false e ∧ n ≤ 8 ∧ 0 ≤ k ∧ ∀ H', Same H H' → Q (.bl (sure e now k)) H'
theorem ok_is {f : Addr} {fd : FuncData} (F : FnP K "is_sure" "is_sure" sIsSure f fd) (N : TxN K mg C) (n : Nat) (cR : CalM P w K mg base C (2 * n + 3) "reach" ["self", "k"] (spNR C n)) : FnOk P w K mg base CX0 (2 * n + 4) f fd ["node", "now", "k"] (spIS C n) := by
  refine FnP_ok F scIsSure (fun vs H Q E h => ?_) (fun cdv A outer s H vs Q E hr h => ?_)
  · obtain ⟨v, e, now, k, F, rfl, _⟩ := h; rfl
  · obtain ⟨v, e, now, k, F, rfl, hN, ho, hn, hk, q⟩ := h
    refine ⟨_, pss_one (ps_ret (pe_ifExp (pt_cmpR op_ge (pv 1) pe_int (nomark _)) (pe_cmpR op_le (pe_clm cR hr N.cl (pv 0) (pa_cons (pv 2) pa_nil)) (pv 1) (nomark _)) (pe_cmpR op_lt (pe_clm cR hr N.cl (pv 0) (pa_cons (pv 2) pa_nil)) (pe_un un_neg (pv 1)) (nomark _)))), ?_⟩
    obtain ⟨p, dx, fs, rfl, hp, l⟩ := hN.reach_at
    refine ⟨_, rfl, _, _, rfl, rfl, _, rfl, iD (fun z => ?_) (fun z => ?_)⟩
    · refine ⟨_, rfl, p, dx, fs, rfl, hp, l, _, rfl, _, e, k, false, F, rfl, hN, ho, hn, hk, fun H1 s1 => ⟨_, rfl, _, _, rfl, rfl, ?_⟩⟩
      have := q _ s1
      unfold sure at this
      rw [if_pos z] at this
      exact this
    · refine ⟨_, rfl, p, dx, fs, rfl, hp, l, _, rfl, _, e, k, false, F, rfl, hN, ho, hn, hk, fun H1 s1 => ⟨_, rfl, _, rfl, _, _, rfl, rfl, ?_⟩⟩
      have := q _ s1
      unfold sure at this
      rw [if_neg z] at this
      exact this
def spLon (C : Addr) (n : Nat) : Sp := fun vs H Q _ => ∃ (v : V) (e : E) (now room : Int) (F : Addr → Prop), vs = [v, .int now, .int room] ∧ NodeAt C H F e v ∧ Ok n false e ∧ n ≤ 8 ∧ 0 ≤ room ∧ ∀ H', Same H H' → Q (.int (lon e now room.toNat : Nat)) H'
theorem ok_lon {f : Addr} {fd : FuncData} (F : FnP K "longest" "longest" sLongest f fd) (T : Txt mg) (n : Nat) (cS : Cal P w K mg base (2 * n + 4) "is_sure" ["node", "now", "k"] (spIS C n)) : FnOk P w K mg base CX0 (2 * n + 5) f fd ["node", "now", "room"] (spLon C n) := by
  refine FnP_ok F scLongest (fun vs H Q E h => ?_) (fun cdv A outer s H vs Q E hr h => ?_)
  · obtain ⟨v, e, now, k, F, rfl, _⟩ := h; rfl
  · obtain ⟨v, e, now, room, F, rfl, hN, ho, hn, hk, q⟩ := h
    have nd := scLongest.nd
    refine ⟨_, pss_cons (ps_set (i := 3) nd rfl (.inl rfl) pe_int) (pss_cons (ps_set (i := 4) nd rfl (.inl rfl) pe_int)
      (pss_cons (ps_while PassesOwn.never (PW.pt (pw_and (pt_cmpR op_le (pv 4) (pv 2) (nomark _)) (pw_and1 (pt_val (pe_cl cS hr rfl (pa_cons (pv 0) (pa_cons (pv 1) (pa_cons (pv 4) pa_nil))))))))
        (pss_cons (ps_set (i := 3) nd rfl (.inl rfl) (pv 4)) (pss_one (ps_set (i := 4) nd rfl (.inl rfl) (pe_op op_mul pe_int (pv 4))))))
      (pss_cons (ps_set (i := 4) nd rfl (.inl rfl) (pe_callB (call_min2 rfl) (by rfl) T.min (by decide +kernel) (pa_cons (pv 4) (pa_cons (pe_op op_add (pv 2) pe_int) pa_nil))))
      (pss_cons (ps_while PassesOwn.never (pt_cmpR op_gt (pe_op op_sub (pv 4) (pv 3)) pe_int (nomark _))
        (pss_cons (ps_set (i := 5) nd rfl (.inl rfl) (pe_op op_fdiv (pe_op op_add (pv 3) (pv 4)) pe_int))
        (pss_one (ps_if (pt_val (pe_cl cS hr rfl (pa_cons (pv 0) (pa_cons (pv 1) (pa_cons (pv 5) pa_nil))))) (pss_one (ps_set (i := 3) nd rfl (.inl rfl) (pv 5))) (pss_one (ps_set (i := 4) nd rfl (.inl rfl) (pv 5)))))))
      (pss_one (ps_ret (pv 3))))))), ?_⟩
    refine ⟨fun m σ H1 => ∃ (good bad : Int) (y : Option V), σ = [some v, some (.int now), some (.int room), some (.int good), some (.int bad), y] ∧ Same H H1 ∧ m = (room + 1 - bad).toNat ∧ 0 ≤ good ∧ good < bad ∧ good ≤ room ∧ sure e now good = true,
      ⟨_, 0, 1, none, rfl, Same.refl H, rfl, by omega, by omega, hk, sure_zero ho now⟩, fun m σ H1 hW => ?_⟩
    obtain ⟨good, bad, y, rfl, s1, rfl, w1, w2, w3, w4⟩ := hW
    have after : ∀ H2, Same H H2 → (room < bad ∨ sure e now bad = false) → tSeq (tAsg (tCB (fun xs H Q => ∃ i j, xs = [.int i, .int j] ∧ Q (.int (if j < i then j else i)) H) (tCons (tVar 4) (tCons (tOp (rI0 fun i j => .int (i + j)) (tVar 2) (tC (.int 1))) tNil))) (gName 4))
        (tSeq (tWhile (tTest (tOp (rI0 fun i j => .bl (decide (j < i))) (tOp (rI0 fun i j => .int (i - j)) (tVar 4) (tVar 3)) (tC (.int 1))))
          (tSeq (tAsg (tOp (rI CDiv fun i j => .int (i / j)) (tOp (rI0 fun i j => .int (i + j)) (tVar 3) (tVar 4)) (tC (.int 2))) (gName 5))
            (tIfS (tB (tCall (spIS C n) [] E0 (tCons (tVar 0) (tCons (tVar 1) (tCons (tVar 5) tNil))))) (tAsg (tVar 5) (gName 3)) (tAsg (tVar 5) (gName 4)))))
        (tRet (tVar 3))) { nx := fun _ H' => Q .non H', rt := Q } [some v, some (.int now), some (.int room), some (.int good), some (.int bad), y] H2 := by
      intro H2 s2 hb
      refine ⟨_, rfl, _, rfl, _, _, rfl, rfl, _, _, rfl, ?_⟩
      refine ⟨fun m σ H3 => ∃ (good bad : Int) (y : Option V), σ = [some v, some (.int now), some (.int room), some (.int good), some (.int bad), y] ∧ Same H H3 ∧ m = (bad - good).toNat ∧ 0 ≤ good ∧ good < bad ∧ bad ≤ room + 1 ∧ sure e now good = true ∧ (bad = room + 1 ∨ sure e now bad = false),
        ⟨_, good, _, y, rfl, s2, rfl, w1, ?_, ?_, w4, ?_⟩, fun m σ H3 hW => ?_⟩
      · show good < (if room + 1 < bad then room + 1 else bad)
        split <;> omega
      · show (if room + 1 < bad then room + 1 else bad) ≤ room + 1
        split <;> omega
      · show (if room + 1 < bad then room + 1 else bad) = room + 1 ∨ sure e now (if room + 1 < bad then room + 1 else bad) = false
        by_cases z : room + 1 < bad
        · rw [if_pos z]; exact .inl rfl
        · rw [if_neg z]
          rcases hb with hb | hb
          · left; omega
          · exact .inr hb
      · obtain ⟨good, bad, y, rfl, s3, rfl, w1, w2, w3, w4, w5⟩ := hW
        refine ⟨_, rfl, _, rfl, _, _, rfl, rfl, _, _, rfl, rfl, _, rfl, iD (fun z => ?_) (fun z => ?_)⟩
        · refine ⟨fun σ' H' => ∃ (good' bad' : Int) (y : Option V), σ' = [some v, some (.int now), some (.int room), some (.int good'), some (.int bad'), y] ∧ Same H H' ∧ (bad' - good').toNat < (bad - good).toNat ∧ 0 ≤ good' ∧ good' < bad' ∧ bad' ≤ room + 1 ∧ sure e now good' = true ∧ (bad' = room + 1 ∨ sure e now bad' = false),
            fun σ' H' ⟨g', b', y, e1, e2, e3, e4⟩ => ⟨_, e3, g', b', y, e1, e2, rfl, e4⟩, ?_⟩
          refine ⟨_, rfl, _, rfl, _, _, rfl, rfl, _, _, rfl, rfl, ⟨by decide, by decide⟩, ?_⟩
          refine ⟨_, rfl, _, rfl, _, rfl, v, e, now, _, F, rfl, hN.same s3, ho, hn, by omega, fun H4 s4 => ⟨_, rfl, ?_⟩⟩
          cases hs : sure e now ((good + bad) / 2) with
          | true => exact iteT ⟨_, rfl, (good + bad) / 2, bad, _, rfl, s3.trans s4, by omega, by omega, by omega, w3, hs, w5⟩
          | false => exact iteF ⟨_, rfl, good, (good + bad) / 2, _, rfl, s3.trans s4, by omega, w1, by omega, by omega, w4, .inr hs⟩
        · refine ⟨_, rfl, ?_⟩
          have e0 : ((good.toNat : Nat) : Int) = good := by omega
          have := lon_eq ho (w := now) (k := good.toNat) (by rw [e0]; exact w4) (r := room.toNat) (by omega) (by
            rcases w5 with w5 | w5
            · left; omega
            · right
              have : ((good.toNat + 1 : Nat) : Int) = bad := by omega
              rw [this]; exact w5)
          have qq := q _ s3
          rw [this, e0] at qq
          exact qq
    refine ⟨_, rfl, _, rfl, _, _, rfl, rfl, _, rfl, iD (fun z => ?_) (fun z => ?_)⟩
    · refine ⟨_, rfl, _, rfl, _, rfl, v, e, now, bad, F, rfl, hN.same s1, ho, hn, by omega, fun H2 s2 => ⟨_, rfl, ?_⟩⟩
      cases hs : sure e now bad with
      | true =>
        refine iteT ⟨fun σ' H' => ∃ (good' bad' : Int) (y : Option V), σ' = [some v, some (.int now), some (.int room), some (.int good'), some (.int bad'), y] ∧ Same H H' ∧ (room + 1 - bad').toNat < (room + 1 - bad).toNat ∧ 0 ≤ good' ∧ good' < bad' ∧ good' ≤ room ∧ sure e now good' = true,
          fun σ' H' ⟨g', b', y, e1, e2, e3, e4⟩ => ⟨_, e3, g', b', y, e1, e2, rfl, e4⟩, ?_⟩
        exact ⟨_, rfl, _, rfl, _, _, rfl, rfl, cmul_l (by decide) (by decide), bad, 2 * bad, y, rfl, s1.trans s2, by omega, by omega, by omega, by omega, hs⟩
      | false => exact iteF (after H2 (s1.trans s2) (.inr hs))
    · exact iteF (after H1 s1 (.inl (by omega)))
def spSC (n : Nat) : Sp := fun vs H Q _ => ∃ (v : V) (e : E) (a b : Int), vs = [v, .int a, .int b] ∧ EAt H e v ∧ Ok n false e ∧ n ≤ 8 ∧ b - a ≤ 150 ∧
  ∀ (l : Addr) (H' : Hp) (xs : List V), Same H H' → H l = none → H' l = some (.lst xs) → All2 (CellAt H') xs (cells e a b) → Q (.ref l) H'
theorem ok_sc {f : Addr} {fd : FuncData} (F : FnP K "sided_cells" "sided_cells" sSidedCells f fd) (T : Txt mg) (n : Nat) (cN : CalN P w K mg base C (2 * n + 3) ["self", "expression"] (spInit C n)) (cV : Cal P w K mg base (n + 3) "value" ["q", "t"] (spVal false n))
    (cL : Cal P w K mg base (2 * n + 5) "longest" ["node", "now", "room"] (spLon C n)) : FnOk P w K mg base CX0 (2 * n + 6) f fd ["q", "start", "end"] (spSC n) := by
  refine FnP_ok F scSidedCells (fun vs H Q E h => ?_) (fun cdv A outer s H vs Q E hr h => ?_)
  · obtain ⟨v, e, a, b, rfl, _⟩ := h; rfl
  · obtain ⟨v, e, a, b, rfl, hE, ho, hn, hab, q⟩ := h
    have nd := scSidedCells.nd
    refine ⟨_, pss_cons (ps_set (i := 3) nd rfl (.inl rfl) (pe_cln cN hr rfl (pa_cons (pv 0) pa_nil)))
      (pss_cons (ps_set (i := 4) nd rfl (.inl rfl) (pe_lst pa_nil))
      (pss_cons (ps_set (i := 5) nd rfl (.inl rfl) (pv 1))
      (pss_cons (ps_while PassesOwn.never (pt_cmpR op_le (pv 5) (pv 2) (nomark _))
        (pss_cons (ps_set (i := 6) nd rfl (.inl rfl) (pe_cl cV hr rfl (pa_cons (pv 0) (pa_cons (pv 5) pa_nil))))
        (pss_cons (ps_set (i := 7) nd rfl (.inl rfl) (pe_cl cL hr rfl (pa_cons (pv 3) (pa_cons (pv 6) (pa_cons (pe_op op_sub (pv 2) (pv 5)) pa_nil)))))
        (pss_cons (ps_expr (pe_bm PySem.F.plainAttrs_list PySem.F.slot_list_append PySem.F.type_list_append mt_append (pv 4) (pa_cons (pe_tup (pa_cons (pv 5) (pa_cons (pv 7) (pa_cons (pe_cmpR op_ge (pv 6) pe_int (nomark _)) pa_nil)))) pa_nil)))
        (pss_one (ps_aug (i := 5) nd rfl (.inl rfl) (pe_op op_add (pv 7) pe_int) ip_add))))))
      (pss_one (ps_ret (pv 4)))))), ?_⟩
    refine ⟨_, rfl, fun x dx hx hdx hne => ⟨x, dx, v, e, false, rfl, upd_same, hE.mono (TS.trans (TS.new hdx) (TS.new (by rw [upd_ne (Ne.symm hne)]; exact hx))), ho, hn, fun H1 k1 nn => ⟨rfl, ?_⟩⟩⟩
    have s1 := node_made hx hdx k1
    refine ⟨Nat.zero_le _, fun l hl => ?_⟩
    refine ⟨_, rfl, ?_⟩
    refine ⟨fun m σ H2 => ∃ (t : Int) (xs : List V) (acc : List Cell) (y6 y7 : Option V), σ = [some v, some (.int a), some (.int b), some (.ref x), some (.ref l), some (.int t), y6, y7] ∧ m = (b + 1 - t).toNat ∧ a ≤ t ∧ Same H1 H2 ∧ H2 l = some (.lst xs) ∧ All2 (CellAt H2) xs acc ∧ cells e a b = acc ++ cells e t b,
      ⟨_, a, [], [], none, none, rfl, rfl, by omega, same_new hl, upd_same, rfl, rfl⟩, fun m σ H2 hW => ?_⟩
    obtain ⟨t, xs, acc, y6, y7, rfl, rfl, hat, s2, hl2, hA, hc⟩ := hW
    refine ⟨_, rfl, _, rfl, _, _, rfl, rfl, _, rfl, iD (fun z => ?_) (fun z => ?_)⟩
    · refine ⟨fun σ' H' => ∃ (t' : Int) (xs : List V) (acc : List Cell) (y6 y7 : Option V), σ' = [some v, some (.int a), some (.int b), some (.ref x), some (.ref l), some (.int t'), y6, y7] ∧ (b + 1 - t').toNat < (b + 1 - t).toNat ∧ a ≤ t' ∧ Same H1 H' ∧ H' l = some (.lst xs) ∧ All2 (CellAt H') xs acc ∧ cells e a b = acc ++ cells e t' b,
        fun σ' H' ⟨t', xs, acc, y6, y7, e1, e2, e3⟩ => ⟨_, e2, t', xs, acc, y6, y7, e1, rfl, e3⟩, ?_⟩
      have hE2 := hE.mono (s1.trans s2).ts
      refine ⟨_, rfl, _, rfl, v, e, t, rfl, hE2, ho, hn, fun H3 s3 => ?_⟩
      refine ⟨_, rfl, _, rfl, _, rfl, _, rfl, _, _, rfl, rfl, _, e, _, _, _, rfl, nn.same (s2.trans s3), ho, hn, by omega, fun H4 s4 => ?_⟩
      have s34 := s3.trans s4
      refine ⟨_, rfl, .inl ⟨rfl, _, SqL.of (s34 _ _ hl2)⟩, _, rfl, _, rfl, _, rfl, _, _, rfl, rfl, by show 3 ≤ sizeLine; decide, fun p hp => ?_⟩
      have s5 := same_new (o := .tup [.int t, .int ((lon e (val e t) (b - t).toNat : Nat) : Int), .bl (decide (0 ≤ val e t))]) hp
      have hlx := hA.length
      have hcl := cells_len e b _ a (Nat.le_refl _)
      have hle : xs.length ≤ 1000 := by
        have : (acc ++ cells e t b).length ≤ (b + 1 - a).toNat := by rw [← hc]; exact hcl
        rw [List.length_append] at this
        omega
      refine ⟨l, xs, _, rfl, rfl, s5 _ _ (s34 _ _ hl2), small1000 hle, ?_⟩
      have lp : l ≠ p := ne_of_none (s34 _ _ hl2) hp
      refine ⟨_, rfl, _, rfl, _, _, rfl, rfl, _, _, rfl, rfl, t + (lonAt e t b + 1), xs ++ [.ref p], acc ++ [(t, lonAt e t b, sd e t)], _, _, rfl, ?_, ?_, ?_, upd_same, ?_, ?_⟩
      · have := lonAt_nn e t b; omega
      · have := lonAt_nn e t b; omega
      · exact same_then ((s2.trans s34).trans s5) hl
      · have ts1 : TS H2 (upd (upd H4 p (.tup [.int t, .int ((lon e (val e t) (b - t).toNat : Nat) : Int), .bl (decide (0 ≤ val e t))])) l (.lst (xs ++ [.ref p]))) := (s34.trans s5).ts.trans (TS.lst (s5 _ _ (s34 _ _ hl2)))
        exact (hA.mono fun x c => CellAt.mono ts1 x c).snoc ⟨p, rfl, by rw [upd_ne lp.symm, upd_same]; rfl⟩
      · rw [hc, cells_go z, List.append_assoc, Int.add_assoc]; rfl
    · refine ⟨_, rfl, ?_⟩
      rw [cells_end (e := e) (t := t) (en := b) (by omega), List.append_nil] at hc
      rw [hc] at q
      exact q l H2 xs (s1.trans s2) (s1.free hl) hl2 hA
/-- paper -/
def pap (e : E) (a b : Int) : List (Int × Int) := (cells e a b).map fun c => (c.1, c.2.1)
def spPaper (n : Nat) : Sp := fun vs H Q _ => ∃ (v : V) (e : E) (a b : Int), vs = [v, .int a, .int b] ∧ EAt H e v ∧ Ok n false e ∧ n ≤ 8 ∧ b - a ≤ 150 ∧
  ∀ (l : Addr) (H' : Hp) (xs : List V), Same H H' → H l = none → H' l = some (.lst xs) → All2 (PairAt H') xs (pap e a b) → Q (.ref l) H'
theorem ok_paper {f : Addr} {fd : FuncData} (F : FnP K "paper" "paper" sPaper f fd) (n : Nat) (cS : Cal P w K mg base (2 * n + 6) "sided_cells" ["q", "start", "end"] (spSC n)) : FnOk P w K mg base CX0 (2 * n + 7) f fd ["q", "start", "end"] (spPaper n) := by
  refine FnP_ok F scPaper (fun vs H Q E h => ?_) (fun cdv A outer s H vs Q E hr h => ?_)
  · obtain ⟨v, e, a, b, rfl, _⟩ := h; rfl
  · obtain ⟨v, e, a, b, rfl, hE, ho, hn, hab, q⟩ := h
    have nd := scPaper.nd
    refine ⟨_, pss_one (ps_ret (pe_lc (own := [("t", 3), ("k", 4), ("_", 5)]) (g := gTup K 3 (gCons (gName 3) (gCons (gName 4) (gCons (gName 5) gNil)))) (tt := tYes) (te := tTup (tCons (tVar 3) (tCons (tVar 4) tNil))) rfl nd
      (pi_list (pe_cl cS hr rfl (pa_cons (pv 0) (pa_cons (pv 1) (pa_cons (pv 2) pa_nil)))))
      (blkOk_by (N := ["q", "start", "end", "t", "k", "_"]) (sc := defScope sPaper) (by decide +kernel)) (fun _ _ _ _ _ => pg_tup rfl (pgs_cons (pg_name (i := 3) nd rfl (Or.inl rfl)) (pgs_cons (pg_name (i := 4) nd rfl (Or.inl rfl)) (pgs_cons (pg_name (i := 5) nd rfl (Or.inl rfl)) pgs_nil))))
      (fun _ _ _ _ _ => pts_nil) (fun _ _ _ _ _ => pe_tup (pa_cons (pv 3) (pa_cons (pv 4) pa_nil))))), ?_⟩
    refine ⟨_, rfl, _, rfl, _, rfl, v, e, a, b, rfl, hE, ho, hn, hab, fun l H1 xs s1 hl hl1 hA => ?_⟩
    have hlx := hA.length
    have hcl := cells_len e b _ a (Nat.le_refl _)
    refine ⟨l, rfl, ⟨_, SqL.of hl1⟩, fun D hD => lc_list (K := K) (a := l) (xs := xs) (fun i H2 => Same H1 H2 ∧ ∃ ys, H2 D = some (.lst ys) ∧ All2 (PairAt H2) ys ((pap e a b).take i)) ⟨same_new hD, [], upd_same, rfl⟩ (fun i H2 _ h => SqL.of (h.1 _ _ hl1)) (fun i x H2 hi h => ?_) (fun H2 h => ?_)⟩
    · obtain ⟨s2, ys, hD2, hB⟩ := h
      obtain ⟨c, hc, ac, rfl, hac⟩ := hA.get hi
      have hac2 := s2 _ _ hac
      refine ⟨ac, _, rfl, SqT.of hac2, rfl, _, _, rfl, _, _, rfl, _, _, rfl, rfl, rfl, tYesI ?_⟩
      refine ⟨_, rfl, _, rfl, by show 2 ≤ sizeLine; decide, fun p hp => ?_⟩
      have s3 := same_new (o := .tup [.int c.1, .int c.2.1]) hp
      have Dp : D ≠ p := ne_of_none hD2 hp
      have hb := hB.length
      refine ⟨ys, s3 _ _ hD2, small1000 (by rw [hb, List.length_take]; have : (pap e a b).length = (cells e a b).length := List.length_map _; omega), same_then (s2.trans s3) hD, ys ++ [.ref p], upd_same, ?_⟩
      have hp' : (pap e a b)[i]? = some (c.1, c.2.1) := by unfold pap; rw [List.getElem?_map, hc]; rfl
      rw [List.take_add_one, hp']
      exact (hB.mono fun x c => PairAt.mono (s3.ts.trans (TS.lst (s3 _ _ hD2))) x c).snoc ⟨p, rfl, by rw [upd_ne Dp.symm, upd_same]⟩
    · obtain ⟨s2, ys, hD2, hB⟩ := h
      have e1 : (pap e a b).length = (cells e a b).length := List.length_map _
      rw [List.take_of_length_le (by omega)] at hB
      exact q D H2 ys (s1.trans s2) (s1.free hD) hD2 hB
end
end Ta

set_option maxHeartbeats 4000000
/-! changes; the judge: is_sure_cell, takes, changes_of. -/
namespace Ta
open PySem PySem.Spec PyProof.Rows L2
theorem chg_take {l : List Chg} {i : Nat} {a b : Chg} (ha : l[i]? = some a) (hb : l[i + 1]? = some b) : chg (l.take (i + 2)) = chg (l.take (i + 1)) ++ (if a.2 ≠ b.2 then [b] else []) := by
  have e1 : l.take (i + 1) = l.take i ++ [a] := by rw [List.take_add_one, ha]; rfl
  have e2 : l.take (i + 2) = l.take i ++ [a, b] := by rw [List.take_add_one, hb, e1, List.append_assoc]; rfl
  rw [e1, e2, chg_snoc]
theorem chg_len : ∀ l : List Chg, (chg l).length ≤ l.length
  | [] => Nat.le_refl _
  | [_] => Nat.zero_le _
  | a :: b :: r => by
    have := chg_len (b :: r)
    rw [chg_two]
    split
    · rw [List.length_cons, List.length_cons]; omega
    · rw [List.length_cons]; omega
theorem drop1L (xs : List V) : cutV xs (some 1) none = xs.drop 1 := by
  cases xs with
  | nil => rfl
  | cons x r => rw [drop1]; rfl
section
variable {P : Program} {w : World} {K : PySem.W.Frag} {mg : Str → Option Value} {base : Heap} {C : Addr}
/-- changes -/
def spChg (n : Nat) : Sp := fun vs H Q _ => ∃ (v : V) (e : E) (a b : Int), vs = [v, .int a, .int b] ∧ EAt H e v ∧ Ok n false e ∧ n ≤ 8 ∧ a ≤ b ∧ b - a ≤ 150 ∧
  ∀ (l : Addr) (H' : Hp) (xs : List V), Same H H' → H l = none → H' l = some (.lst xs) → All2 (ChgAt H') xs (chg (tk e a (b + 1 - a).toNat)) → Q (.ref l) H'
theorem ok_chg {f : Addr} {fd : FuncData} (F : FnP K "changes" "changes" sChanges f fd) (T : Txt mg) (n : Nat) (cS : Cal P w K mg base (2 * n + 6) "sided_cells" ["q", "start", "end"] (spSC n)) (cD : Cal P w K mg base 1 "side_name" ["is_up"] spSide) :
    FnOk P w K mg base CX0 (2 * n + 7) f fd ["q", "start", "end"] (spChg n) := by
  refine FnP_ok F scChanges (fun vs H Q E h => ?_) (fun cdv A outer s H vs Q E hr h => ?_)
  · obtain ⟨v, e, a, b, rfl, _⟩ := h; rfl
  · obtain ⟨v, e, a, b, rfl, hE, ho, hn, hle, hab, q⟩ := h
    have nd := scChanges.nd
    refine ⟨_, pss_cons (ps_set (i := 3) nd rfl (.inl rfl) (pe_cl cS hr rfl (pa_cons (pv 0) (pa_cons (pv 1) (pa_cons (pv 2) pa_nil)))))
      (pss_cons (ps_set (i := 4) nd rfl (.inl rfl) (pe_lst pa_nil))
      (pss_cons (ps_for PassesOwn.never rfl (pi_zip (by rfl) T.zip (pa_cons (pv 3) (pa_cons (pe_slice sl_list (pv 3) (po_some pe_int) po_none) pa_nil)))
        (pg_tup rfl (pgs_cons (pg_name (i := 5) nd rfl (.inl rfl)) (pgs_cons (pg_name (i := 6) nd rfl (.inl rfl)) pgs_nil)))
        (pss_one (ps_if (pt_cmpR op_ne (ix (pv 5) pe_int) (ix (pv 6) pe_int) (nomark _))
          (pss_one (ps_expr (pe_bm PySem.F.plainAttrs_list PySem.F.slot_list_append PySem.F.type_list_append mt_append (pv 4) (pa_cons (pe_tup (pa_cons (ix (pv 6) pe_int) (pa_cons (pe_cl cD hr rfl (pa_cons (ix (pv 6) pe_int) pa_nil)) pa_nil))) pa_nil)))) pss_nil)))
      (pss_one (ps_ret (pv 4))))), ?_⟩
    refine ⟨_, rfl, _, rfl, _, rfl, v, e, a, b, rfl, hE, ho, hn, hab, fun l H1 xs s1 hl hl1 hA => ?_⟩
    have hlx := hA.length
    have hcl := cells_len e b _ a (Nat.le_refl _)
    have hsl : (sides (cells e a b)).length = xs.length := by rw [hlx]; exact List.length_map _
    refine ⟨Nat.zero_le _, fun o no => ?_⟩
    have s2 := same_new (o := .lst []) no
    have hl2 := s2 _ _ hl1
    refine ⟨_, rfl, _, rfl, 1, rfl, l, xs, rfl, SqL.of hl2, fun c nc => ?_⟩
    rw [drop1L]
    have s3 := same_new (o := .lst (xs.drop 1)) nc
    have nco : c ≠ o := fun z => by rw [z, upd_same] at nc; cases nc
    have nlo : l ≠ o := ne_of_none hl1 no
    refine ⟨l, c, xs, xs.drop 1, rfl, SqL.of (s3 _ _ hl2), SqL.of upd_same, ?_⟩
    refine ⟨fun i m σ H3 => ∃ (ys : List V) (y5 y6 : Option V), σ = [some v, some (.int a), some (.int b), some (.ref l), some (.ref o), y5, y6] ∧ i + m = xs.length ∧ Same H1 H3 ∧ H3 c = some (.lst (xs.drop 1)) ∧ H3 o = some (.lst ys) ∧ All2 (ChgAt H3) ys (chg ((sides (cells e a b)).take (i + 1))),
      ⟨xs.length, [], none, none, rfl, by omega, s2.trans s3, upd_same, s3 _ _ upd_same, ?_⟩, fun i m σ H3 hW => ?_⟩
    · cases hq : sides (cells e a b) with
      | nil => rfl
      | cons z r => rfl
    · obtain ⟨ys, y5, y6, rfl, em, s4, hc, hoo, hB⟩ := hW
      have hl3 := s4 _ _ hl1
      by_cases hi : i + 1 < xs.length
      · have hx1 : xs[i]? = some xs[i] := List.getElem?_eq_getElem (by omega)
        have hx2 : xs[i + 1]? = some xs[i + 1] := List.getElem?_eq_getElem hi
        have hx2' : (xs.drop 1)[i]? = some xs[i + 1] := by rw [List.getElem?_drop, Nat.add_comm 1 i]; exact hx2
        obtain ⟨c1, hc1, a1, e1, ha1⟩ := hA.get hx1
        obtain ⟨c2, hc2, a2, e2, ha2⟩ := hA.get hx2
        have hb1 : (sides (cells e a b))[i]? = some (c1.1, c1.2.2) := by unfold sides; rw [List.getElem?_map, hc1]; rfl
        have hb2 : (sides (cells e a b))[i + 1]? = some (c2.1, c2.2.2) := by unfold sides; rw [List.getElem?_map, hc2]; rfl
        refine .inr ⟨⟨_, _, _, _, SqL.of hl3, SqL.of hc, hx1, hx2'⟩, fun σ' H' => ∃ (ys : List V) (y5 y6 : Option V), σ' = [some v, some (.int a), some (.int b), some (.ref l), some (.ref o), y5, y6] ∧ Same H1 H' ∧ H' c = some (.lst (xs.drop 1)) ∧ H' o = some (.lst ys) ∧ All2 (ChgAt H') ys (chg ((sides (cells e a b)).take (i + 2))),
          fun σ' H' ⟨ys, y5, y6, z1, z2⟩ => ⟨m - 1, by omega, ys, y5, y6, z1, by omega, z2⟩, fun x H' hy => ?_⟩
        obtain ⟨t, x1, x2, rfl, nT, rfl, f1, f2⟩ := hy
        have ex1 : x1 = .ref a1 := (Option.some.inj ((f1 _ (SqL.of hl3)).symm.trans hx1)).trans e1
        have ex2 : x2 = .ref a2 := (Option.some.inj ((f2 _ (SqL.of hc)).symm.trans hx2')).trans e2
        subst ex1 ex2
        have s5 := same_new (o := .tup [.ref a1, .ref a2]) nT
        have ha1' := s5 _ _ (s4 _ _ ha1)
        have ha2' := s5 _ _ (s4 _ _ ha2)
        refine ⟨t, [.ref a1, .ref a2], rfl, SqT.of upd_same, rfl, .ref a1, [.ref a2], rfl, .ref a2, [], rfl, rfl, ?_⟩
        refine ⟨_, rfl, a1, _, 2, _, rfl, rfl, SqT.of ha1', atI_nat (j := 2) rfl, _, rfl, a2, _, 2, _, rfl, rfl, SqT.of ha2', atI_nat (j := 2) rfl, rfl, _, rfl, ?_⟩
        have tk2 := chg_take hb1 hb2
        by_cases hs : c1.2.2 = c2.2.2
        · rw [decide_eq_true (congrArg V.bl hs)]
          rw [if_neg (by intro z; exact z hs), List.append_nil] at tk2
          refine iteF ⟨ys, _, _, rfl, s4.trans s5, s5 _ _ hc, s5 _ _ hoo, ?_⟩
          rw [tk2]
          exact hB.mono fun x c => ChgAt.mono s5.ts x c
        · rw [decide_eq_false fun z => hs (V.bl.inj z)]
          rw [if_pos hs] at tk2
          refine iteT ?_
          have ho' := s5 _ _ hoo
          refine ⟨_, rfl, .inl ⟨rfl, _, SqL.of ho'⟩, _, rfl, a2, _, 0, _, rfl, rfl, SqT.of ha2', atI_nat (j := 0) rfl, _, rfl, a2, _, 2, _, rfl, rfl, SqT.of ha2', atI_nat (j := 2) rfl, _, rfl, by show 2 ≤ sizeLine; decide, fun p hp => ?_⟩
          have s6 := same_new (o := .tup [.int c2.1, .str (sideS c2.2.2)]) hp
          have op : o ≠ p := ne_of_none ho' hp
          have hB' := hB.length
          have hcl2 := chg_len ((sides (cells e a b)).take (i + 1))
          rw [List.length_take] at hcl2
          refine ⟨o, ys, _, rfl, rfl, s6 _ _ ho', small1000 (by rw [hB']; omega), ys ++ [.ref p], _, _, rfl, same_then ((s4.trans s5).trans s6) no, by rw [upd_ne nco]; exact s6 _ _ (s5 _ _ hc), upd_same, ?_⟩
          rw [tk2]
          exact (hB.mono fun x c => ChgAt.mono ((s5.trans s6).ts.trans (TS.lst (s6 _ _ ho'))) x c).snoc ⟨p, rfl, by rw [upd_ne op.symm, upd_same]⟩
      · refine .inl ⟨⟨_, _, SqL.of hl3, SqL.of hc, .inr (by rw [List.length_drop]; omega)⟩, ?_⟩
        refine ⟨_, rfl, ?_⟩
        rw [List.take_of_length_le (by omega), chg_cells ho hle] at hB
        exact q o H3 ys (s1.trans s4) (s1.free no) hoo hB
/-- is_sure_cell -/
def spISC (n : Nat) : Sp := fun vs H Q _ => ∃ (v : V) (e : E) (t k : Int), vs = [v, .int t, .int k] ∧ EAt H e v ∧ Ok n false e ∧ n ≤ 8 ∧ 0 ≤ k ∧ ∀ H', Same H H' → Q (.bl (sure e (val e t) k)) H'
theorem ok_isc {f : Addr} {fd : FuncData} (F : FnP K "is_sure_cell" "is_sure_cell" sIsSureCell f fd) (n : Nat) (cV : Cal P w K mg base (n + 3) "value" ["q", "t"] (spVal false n)) (cR : Cal P w K mg base (2 * n + 5) "reach" ["q", "k"] (spR n)) :
    FnOk P w K mg base CX0 (2 * n + 6) f fd ["q", "t", "k"] (spISC n) := by
  refine FnP_ok F scIsSureCell (fun vs H Q E h => ?_) (fun cdv A outer s H vs Q E hr h => ?_)
  · obtain ⟨v, e, t, k, rfl, _⟩ := h; rfl
  · obtain ⟨v, e, t, k, rfl, hE, ho, hn, hk, q⟩ := h
    refine ⟨_, pss_cons (ps_set (i := 3) scIsSureCell.nd rfl (.inl rfl) (pe_cl cV hr rfl (pa_cons (pv 0) (pa_cons (pv 1) pa_nil))))
      (pss_one (ps_ret (pe_ifExp (pt_cmpR op_ge (pv 3) pe_int (nomark _)) (pe_cmpR op_le (pe_cl cR hr rfl (pa_cons (pv 0) (pa_cons (pv 2) pa_nil))) (pv 3) (nomark _)) (pe_cmpR op_lt (pe_cl cR hr rfl (pa_cons (pv 0) (pa_cons (pv 2) pa_nil))) (pe_un un_neg (pv 3)) (nomark _))))), ?_⟩
    refine ⟨_, rfl, _, rfl, v, e, t, rfl, hE, ho, hn, fun H1 s1 => ?_⟩
    refine ⟨_, rfl, _, _, rfl, rfl, _, rfl, iD (fun z => ?_) (fun z => ?_)⟩
    · refine ⟨_, rfl, _, rfl, v, e, k, rfl, hE.mono s1.ts, ho, hn, hk, fun H2 s2 => ⟨_, rfl, _, _, rfl, rfl, ?_⟩⟩
      have := q _ (s1.trans s2)
      unfold sure at this
      rw [if_pos z] at this
      exact this
    · refine ⟨_, rfl, _, rfl, v, e, k, rfl, hE.mono s1.ts, ho, hn, hk, fun H2 s2 => ⟨_, rfl, _, rfl, _, _, rfl, rfl, ?_⟩⟩
      have := q _ (s1.trans s2)
      unfold sure at this
      rw [if_neg z] at this
      exact this
/-- takes, of the longest paper -/
def spTakes (n : Nat) : Sp := fun vs H Q _ => ∃ (v : V) (e : E) (a b : Int) (l : Addr) (xs : List V), vs = [v, .int a, .int b, .ref l] ∧ EAt H e v ∧ Ok n false e ∧ n ≤ 8 ∧ a ≤ b ∧ H l = some (.lst xs) ∧ All2 (PairAt H) xs (pap e a b) ∧ ∀ H', Same H H' → Q (.bl true) H'
theorem ok_takes {f : Addr} {fd : FuncData} (F : FnP K "takes" "takes" sTakes f fd) (n : Nat) (cI : Cal P w K mg base (2 * n + 6) "is_sure_cell" ["q", "t", "k"] (spISC n)) : FnOk P w K mg base CX0 (2 * n + 7) f fd ["q", "start", "end", "cells"] (spTakes n) := by
  refine FnP_ok F scTakes (fun vs H Q E h => ?_) (fun cdv A outer s H vs Q E hr h => ?_)
  · obtain ⟨v, e, a, b, l, xs, rfl, _⟩ := h; rfl
  · obtain ⟨v, e, a, b, l, xs, rfl, hE, ho, hn, hle, hl, hA, q⟩ := h
    have nd := scTakes.nd
    refine ⟨_, pss_cons (ps_set (i := 4) nd rfl (.inl rfl) (pv 1))
      (pss_cons (ps_for PassesOwn.never rfl (pi_list (pv 3)) (pg_tup rfl (pgs_cons (pg_name (i := 5) nd rfl (.inl rfl)) (pgs_cons (pg_name (i := 6) nd rfl (.inl rfl)) pgs_nil)))
        (pss_cons (ps_if (PW.pt (pw_or (pt_cmpR op_ne (pv 5) (pv 4) (nomark _)) (pw_or (pt_cmpR op_lt (pv 6) pe_int (nomark _)) (pw_or (pt_cmpR op_gt (pe_op op_add (pv 5) (pv 6)) (pv 2) (nomark _)) (pw_or1 (pt_not (pt_val (pe_cl cI hr rfl (pa_cons (pv 0) (pa_cons (pv 5) (pa_cons (pv 6) pa_nil)))))))))))
          (pss_one (ps_ret pe_bl)) pss_nil)
        (pss_one (ps_set (i := 4) nd rfl (.inl rfl) (pe_op op_add (pe_op op_add (pv 5) (pv 6)) pe_int)))))
      (pss_one (ps_ret (pe_cmpR op_eq (pv 4) (pe_op op_add (pv 2) pe_int) (nomark _))))), ?_⟩
    have hlx := hA.length
    have hpl : (pap e a b).length = (cells e a b).length := List.length_map _
    refine ⟨_, rfl, ?_⟩
    refine ⟨_, rfl, l, rfl, ⟨_, SqL.of hl⟩, for_list (K := K) (a := l) (xs := xs) (fun i σ H1 => ∃ (t : Int) (y5 y6 : Option V), σ = [some v, some (.int a), some (.int b), some (.ref l), some (.int t), y5, y6] ∧ Same H H1 ∧ t ≤ b + 1 ∧ (cells e a b).drop i = cells e t b)
      ⟨a, none, none, rfl, Same.refl H, by omega, by simp⟩ (fun i σ H1 _ ⟨t, y5, y6, _, s1, _⟩ => SqL.of (s1 _ _ hl)) (fun i x σ H1 hi hP => ?_) (fun σ H1 hP => ?_)⟩
    · obtain ⟨t, y5, y6, rfl, s1, ht, hd⟩ := hP
      have hil : i < xs.length := (List.getElem?_eq_some_iff.mp hi).1
      obtain ⟨c, hc, ac, rfl, hac⟩ := hA.get hi
      have hac1 := s1 _ _ hac
      obtain ⟨d, hd0, hcd⟩ : ∃ d, (cells e a b)[i]? = some d ∧ c = (d.1, d.2.1) := by
        unfold pap at hc
        rw [List.getElem?_map] at hc
        cases hq : (cells e a b)[i]? with
        | none => rw [hq] at hc; cases hc
        | some d => rw [hq] at hc; exact ⟨d, rfl, (Option.some.inj hc).symm⟩
      have htb : t ≤ b := by
        by_cases z : t ≤ b
        · exact z
        · exfalso
          rw [cells_end (e := e) (t := t) (en := b) (by omega)] at hd
          have := congrArg List.length hd
          rw [List.length_drop] at this
          simp at this
          omega
      have hd' := hd
      rw [cells_go htb] at hd
      have hd1 : ((cells e a b).drop i)[0]? = some d := by rw [List.getElem?_drop]; exact hd0
      rw [hd] at hd1
      cases hd1
      subst hcd
      have k0 := lonAt_nn e t b
      have k1 := lonAt_le (e := e) htb
      refine ⟨ac, _, rfl, SqT.of hac1, rfl, _, _, rfl, _, _, rfl, rfl, ?_⟩
      refine ⟨_, rfl, _, rfl, rfl, _, rfl, iN (fun z => absurd rfl z) (fun _ => ?_)⟩
      refine ⟨_, rfl, _, _, rfl, rfl, _, rfl, iD (fun z => absurd z (by show ¬ lonAt e t b < 0; omega)) (fun _ => ?_)⟩
      refine ⟨_, rfl, _, rfl, _, _, rfl, rfl, _, rfl, _, _, rfl, rfl, _, rfl, iD (fun z => absurd z (by show ¬ b < t + lonAt e t b; omega)) (fun _ => ?_)⟩
      refine ⟨_, rfl, _, rfl, _, rfl, v, e, t, lonAt e t b, rfl, hE.mono s1.ts, ho, hn, k0, fun H2 s2 => ⟨_, rfl, ?_⟩⟩
      rw [lonAt_sure ho t b]
      refine iteF ?_
      refine ⟨_, rfl, _, rfl, _, _, rfl, rfl, _, _, rfl, rfl, t + lonAt e t b + 1, _, _, rfl, s1.trans s2, by omega, ?_⟩
      rw [← List.drop_drop, hd']
      rw [cells_go htb]
      rfl
    · obtain ⟨t, y5, y6, rfl, s1, ht, hd⟩ := hP
      rw [List.drop_of_length_le (by omega)] at hd
      have htb : t = b + 1 := by
        by_cases z : t ≤ b
        · rw [cells_go z] at hd; cases hd
        · omega
      subst htb
      refine ⟨_, rfl, _, rfl, _, _, rfl, rfl, rfl, ?_⟩
      rw [decide_eq_true rfl]
      exact q _ s1
/-- changes_of, of the longest paper -/
def spChgOf (n : Nat) : Sp := fun vs H Q _ => ∃ (v : V) (e : E) (a b : Int) (l : Addr) (xs : List V), vs = [v, .ref l] ∧ EAt H e v ∧ Ok n false e ∧ n ≤ 8 ∧ a ≤ b ∧ b - a ≤ 150 ∧ H l = some (.lst xs) ∧ All2 (PairAt H) xs (pap e a b) ∧
  ∀ (l' : Addr) (H' : Hp) (xs : List V), Same H H' → H l' = none → H' l' = some (.lst xs) → All2 (ChgAt H') xs (chg (tk e a (b + 1 - a).toNat)) → Q (.ref l') H'
/-- a cell's side is that of its first tick -/
theorem cells_side (e : E) (b : Int) : ∀ (f : Nat) (t : Int), (b + 1 - t).toNat ≤ f → ∀ c ∈ cells e t b, c.2.2 = sd e c.1
  | 0, t, h, c, hc => by rw [cells_end (by omega)] at hc; cases hc
  | f + 1, t, h, c, hc => by
    by_cases o : t ≤ b
    · have := lonAt_nn e t b
      rw [cells_go o] at hc
      rcases List.mem_cons.mp hc with rfl | hc
      · rfl
      · exact cells_side e b f _ (by omega) c hc
    · rw [cells_end (by omega)] at hc; cases hc
theorem ok_chgof {f : Addr} {fd : FuncData} (F : FnP K "changes_of" "changes_of" sChangesOf f fd) (T : Txt mg) (n : Nat) (cV : Cal P w K mg base (n + 3) "value" ["q", "t"] (spVal false n)) (cD : Cal P w K mg base 1 "side_name" ["is_up"] spSide) :
    FnOk P w K mg base CX0 (n + 4) f fd ["q", "cells"] (spChgOf n) := by
  refine FnP_ok F scChangesOf (fun vs H Q E h => ?_) (fun cdv A outer s H vs Q E hr h => ?_)
  · obtain ⟨v, e, a, b, l, xs, rfl, _⟩ := h; rfl
  · obtain ⟨v, e, a, b, l, ps, rfl, hE, ho, hn, hle, hab, hl, hP, q⟩ := h
    have nd := scChangesOf.nd
    refine ⟨_, pss_cons (ps_setLc (i := 2) (own := [("t", 3), ("_", 4)]) (g := gTup K 2 (gCons (gName 3) (gCons (gName 4) gNil))) (tt := tYes) (te := tTup (tCons (tVar 3) (tCons (tOp (rI0 fun i j => .bl (decide (j ≤ i))) (tCall (spVal false n) [] E0 (tCons (tVar 0) (tCons (tVar 3) tNil))) (tC (.int 0))) tNil))) rfl nd rfl rfl (sw_true rfl rfl rfl (by decide +kernel)) (pi_list (pv 1))
        (blkOk_by (N := ["q", "cells", "sides", "t", "_", "found", "before", "after"]) (sc := defScope sChangesOf) (by decide +kernel)) (fun _ _ _ _ _ => pg_tup rfl (pgs_cons (pg_name (i := 3) nd rfl (Or.inl rfl)) (pgs_cons (pg_name (i := 4) nd rfl (Or.inl rfl)) pgs_nil)))
        (fun _ _ _ _ _ => pts_nil) (fun _ _ _ _ _ => pe_tup (pa_cons (pv 3) (pa_cons (pe_cmpR op_ge (pe_cl cV hr rfl (pa_cons (pv 0) (pa_cons (pv 3) pa_nil))) pe_int (nomark _)) pa_nil))))
      (pss_cons (ps_set (i := 5) nd rfl (.inl rfl) (pe_lst pa_nil))
      (pss_cons (ps_for PassesOwn.never rfl (pi_zip (by rfl) T.zip (pa_cons (pv 2) (pa_cons (pe_slice sl_list (pv 2) (po_some pe_int) po_none) pa_nil)))
        (pg_tup rfl (pgs_cons (pg_name (i := 6) nd rfl (.inl rfl)) (pgs_cons (pg_name (i := 7) nd rfl (.inl rfl)) pgs_nil)))
        (pss_one (ps_if (pt_cmpR op_ne (ix (pv 6) pe_int) (ix (pv 7) pe_int) (nomark _))
          (pss_one (ps_expr (pe_bm PySem.F.plainAttrs_list PySem.F.slot_list_append PySem.F.type_list_append mt_append (pv 5) (pa_cons (pe_tup (pa_cons (ix (pv 7) pe_int) (pa_cons (pe_cl cD hr rfl (pa_cons (ix (pv 7) pe_int) pa_nil)) pa_nil))) pa_nil)))) pss_nil)))
      (pss_one (ps_ret (pv 5))))), ?_⟩
    have hpx := hP.length
    have hcl := cells_len e b _ a (Nat.le_refl _)
    have hpl : (pap e a b).length = (cells e a b).length := List.length_map _
    have hsl0 : (sides (cells e a b)).length = (cells e a b).length := List.length_map _
    refine ⟨_, rfl, l, rfl, ⟨_, SqL.of hl⟩, fun D hD => lc_list (K := K) (a := l) (xs := ps) (fun i H2 => Same H H2 ∧ ∃ ys, H2 D = some (.lst ys) ∧ All2 (SideAt H2) ys ((sides (cells e a b)).take i)) ⟨same_new hD, [], upd_same, rfl⟩ (fun i H2 _ h => SqL.of (h.1 _ _ hl)) (fun i x H2 hi h => ?_) (fun H1 h => ?_)⟩
    · obtain ⟨s2, ys, hD2, hB⟩ := h
      obtain ⟨c, hc, ac, rfl, hac⟩ := hP.get hi
      have hac2 := s2 _ _ hac
      obtain ⟨d, hd0, hcd⟩ : ∃ d, (cells e a b)[i]? = some d ∧ c = (d.1, d.2.1) := by
        unfold pap at hc
        rw [List.getElem?_map] at hc
        cases hq : (cells e a b)[i]? with
        | none => rw [hq] at hc; cases hc
        | some d => rw [hq] at hc; exact ⟨d, rfl, (Option.some.inj hc).symm⟩
      subst hcd
      refine ⟨ac, _, rfl, SqT.of hac2, rfl, _, _, rfl, _, _, rfl, rfl, rfl, tYesI ?_⟩
      refine ⟨_, rfl, _, rfl, _, rfl, v, e, d.1, rfl, hE.mono s2.ts, ho, hn, fun H3 s3 => ⟨_, _, rfl, rfl, by show 2 ≤ sizeLine; decide, fun p hp => ?_⟩⟩
      have s4 := same_new (o := .tup [.int d.1, .bl (decide (0 ≤ val e d.1))]) hp
      have hD3 := s3 _ _ hD2
      have Dp : D ≠ p := ne_of_none hD3 hp
      have hb := hB.length
      refine ⟨ys, s4 _ _ hD3, small1000 (by rw [hb, List.length_take]; omega), same_then ((s2.trans s3).trans s4) hD, ys ++ [.ref p], upd_same, ?_⟩
      have hs' : (sides (cells e a b))[i]? = some (d.1, sd e d.1) := by
        unfold sides; rw [List.getElem?_map, hd0]
        show some (d.1, d.2.2) = _
        rw [cells_side e b _ a (Nat.le_refl _) d (List.mem_of_getElem? hd0)]
      rw [List.take_add_one, hs']
      exact (hB.mono fun x c => SideAt.mono ((s3.trans s4).ts.trans (TS.lst (s4 _ _ hD3))) x c).snoc ⟨p, rfl, by rw [upd_ne Dp.symm, upd_same]; rfl⟩
    · obtain ⟨s1, xs, hl1, hA⟩ := h
      rw [List.take_of_length_le (by omega)] at hA
      have hlx := hA.length
      refine ⟨Nat.zero_le _, fun o no => ?_⟩
      have s2 := same_new (o := .lst []) no
      have hl2 := s2 _ _ hl1
      refine ⟨_, rfl, _, rfl, 1, rfl, D, xs, rfl, SqL.of hl2, fun c nc => ?_⟩
      rw [drop1L]
      have s3 := same_new (o := .lst (xs.drop 1)) nc
      have nco : c ≠ o := fun z => by rw [z, upd_same] at nc; cases nc
      refine ⟨D, c, xs, xs.drop 1, rfl, SqL.of (s3 _ _ hl2), SqL.of upd_same, ?_⟩
      refine ⟨fun i m σ H3 => ∃ (ys : List V) (y3 y4 y6 y7 : Option V), σ = [some v, some (.ref l), some (.ref D), y3, y4, some (.ref o), y6, y7] ∧ i + m = xs.length ∧ Same H1 H3 ∧ H3 c = some (.lst (xs.drop 1)) ∧ H3 o = some (.lst ys) ∧ All2 (ChgAt H3) ys (chg ((sides (cells e a b)).take (i + 1))),
        ⟨xs.length, [], none, none, none, none, rfl, by omega, s2.trans s3, upd_same, s3 _ _ upd_same, ?_⟩, fun i m σ H3 hW => ?_⟩
      · cases hq : sides (cells e a b) with
        | nil => rfl
        | cons z r => rfl
      · obtain ⟨ys, y3, y4, y6, y7, rfl, em, s4, hc, hoo, hB⟩ := hW
        have hl3 := s4 _ _ hl1
        by_cases hi : i + 1 < xs.length
        · have hx1 : xs[i]? = some xs[i] := List.getElem?_eq_getElem (by omega)
          have hx2 : xs[i + 1]? = some xs[i + 1] := List.getElem?_eq_getElem hi
          have hx2' : (xs.drop 1)[i]? = some xs[i + 1] := by rw [List.getElem?_drop, Nat.add_comm 1 i]; exact hx2
          obtain ⟨c1, hc1, a1, e1, ha1⟩ := hA.get hx1
          obtain ⟨c2, hc2, a2, e2, ha2⟩ := hA.get hx2
          refine .inr ⟨⟨_, _, _, _, SqL.of hl3, SqL.of hc, hx1, hx2'⟩, fun σ' H' => ∃ (ys : List V) (y3 y4 y6 y7 : Option V), σ' = [some v, some (.ref l), some (.ref D), y3, y4, some (.ref o), y6, y7] ∧ Same H1 H' ∧ H' c = some (.lst (xs.drop 1)) ∧ H' o = some (.lst ys) ∧ All2 (ChgAt H') ys (chg ((sides (cells e a b)).take (i + 2))),
            fun σ' H' ⟨ys, y3, y4, y6, y7, z1, z2⟩ => ⟨m - 1, by omega, ys, y3, y4, y6, y7, z1, by omega, z2⟩, fun x H' hy => ?_⟩
          obtain ⟨t, x1, x2, rfl, nT, rfl, f1, f2⟩ := hy
          have ex1 : x1 = .ref a1 := (Option.some.inj ((f1 _ (SqL.of hl3)).symm.trans hx1)).trans e1
          have ex2 : x2 = .ref a2 := (Option.some.inj ((f2 _ (SqL.of hc)).symm.trans hx2')).trans e2
          subst ex1 ex2
          have s5 := same_new (o := .tup [.ref a1, .ref a2]) nT
          have ha1' := s5 _ _ (s4 _ _ ha1)
          have ha2' := s5 _ _ (s4 _ _ ha2)
          refine ⟨t, [.ref a1, .ref a2], rfl, SqT.of upd_same, rfl, .ref a1, [.ref a2], rfl, .ref a2, [], rfl, rfl, ?_⟩
          refine ⟨_, rfl, a1, _, 1, _, rfl, rfl, SqT.of ha1', atI_nat (j := 1) rfl, _, rfl, a2, _, 1, _, rfl, rfl, SqT.of ha2', atI_nat (j := 1) rfl, rfl, _, rfl, ?_⟩
          have tk2 := chg_take hc1 hc2
          by_cases hs : c1.2 = c2.2
          · rw [decide_eq_true (congrArg V.bl hs)]
            rw [if_neg (by intro z; exact z hs), List.append_nil] at tk2
            refine iteF ⟨ys, _, _, _, _, rfl, s4.trans s5, s5 _ _ hc, s5 _ _ hoo, ?_⟩
            rw [tk2]
            exact hB.mono fun x c => ChgAt.mono s5.ts x c
          · rw [decide_eq_false fun z => hs (V.bl.inj z)]
            rw [if_pos hs] at tk2
            refine iteT ?_
            have ho' := s5 _ _ hoo
            refine ⟨_, rfl, .inl ⟨rfl, _, SqL.of ho'⟩, _, rfl, a2, _, 0, _, rfl, rfl, SqT.of ha2', atI_nat (j := 0) rfl, _, rfl, a2, _, 1, _, rfl, rfl, SqT.of ha2', atI_nat (j := 1) rfl, _, rfl, by show 2 ≤ sizeLine; decide, fun p hp => ?_⟩
            have s6 := same_new (o := .tup [.int c2.1, .str (sideS c2.2)]) hp
            have op : o ≠ p := ne_of_none ho' hp
            have hB' := hB.length
            have hcl2 := chg_len ((sides (cells e a b)).take (i + 1))
            rw [List.length_take] at hcl2
            refine ⟨o, ys, _, rfl, rfl, s6 _ _ ho', small1000 (by rw [hB']; omega), ys ++ [.ref p], _, _, _, _, rfl, same_then ((s4.trans s5).trans s6) no, by rw [upd_ne nco]; exact s6 _ _ (s5 _ _ hc), upd_same, ?_⟩
            rw [tk2]
            exact (hB.mono fun x c => ChgAt.mono ((s5.trans s6).ts.trans (TS.lst (s6 _ _ ho'))) x c).snoc ⟨p, rfl, by rw [upd_ne op.symm, upd_same]⟩
        · refine .inl ⟨⟨_, _, SqL.of hl3, SqL.of hc, .inr (by rw [List.length_drop]; omega)⟩, ?_⟩
          refine ⟨_, rfl, ?_⟩
          rw [List.take_of_length_le (by omega), chg_cells ho hle] at hB
          exact q o H3 ys (s1.trans s4) (s1.free no) hoo hB
end
end Ta

set_option maxHeartbeats 4000000
/-! The law's own changes, sure, longest, is. -/
namespace Ta
open PySem PySem.Spec PyProof.Rows L2
theorem rdSide {i : Nat} {σ : L2.St} {H : Hp} {b : Bool} {Q : VK} (h0 : σ[i]? = some (some (.bl b))) (q : Q (.str (sideS b)) H) : tIf (tB (tVar i)) (tC (.str "up")) (tC (.str "down")) σ H Q := by
  refine ⟨_, h0, b, rfl, ?_⟩
  cases b with
  | true => exact iteT q
  | false => exact iteF q
section
variable {P : Program} {w : World} {K : PySem.W.Frag} {mg : Str → Option Value} {base : Heap} {C : Addr}
def spLChg (n : Nat) : Sp := fun vs H Q _ => ∃ (v : V) (e : E) (a b : Int), vs = [v, .int a, .int b] ∧ EAt H e v ∧ Ok n false e ∧ n ≤ 8 ∧ a ≤ b ∧ b - a ≤ 150 ∧ (-20000 ≤ a ∧ b ≤ 20000) ∧
  ∀ (l : Addr) (H' : Hp) (xs : List V), Same H H' → H l = none → H' l = some (.lst xs) → All2 (ChgAt H') xs (chg (tk e a (b + 1 - a).toNat)) → Q (.ref l) H'
theorem ok_lchg {f : Addr} {fd : FuncData} (F : FnP K "_law_changes" "_law_changes" sLChanges f fd) (T : Txt mg) (n : Nat) (cV : Cal P w K mg base (n + 3) "_law_value" ["_law_q", "_law_t"] (spVal false n)) :
    FnOk P w K mg base CX0 (n + 4) f fd ["_law_q", "_law_start_here", "_law_end"] (spLChg n) := by
  refine FnP_ok F scLChanges (fun vs H Q E h => ?_) (fun cdv A outer s H vs Q E hr h => ?_)
  · obtain ⟨v, e, a, b, rfl, _⟩ := h; rfl
  · obtain ⟨v, e, a, b, rfl, hE, ho, hn, hle, hab, ⟨ha, hb⟩, q⟩ := h
    have nd := scLChanges.nd
    refine ⟨_, pss_cons (ps_set (i := 3) nd rfl (.inl rfl) (pe_lst pa_nil))
      (pss_cons (ps_set (i := 4) nd rfl (.inl rfl) (pe_cmpR op_ge (pe_cl cV hr rfl (pa_cons (pv 0) (pa_cons (pv 1) pa_nil))) pe_int (nomark _)))
      (pss_cons (ps_for PassesOwn.never rfl (pi_range2 (by rfl) T.range (pa_cons (pe_op op_add (pv 1) pe_int) (pa_cons (pe_op op_add (pv 2) pe_int) pa_nil))) (pg_name (i := 5) nd rfl (.inl rfl))
        (pss_cons (ps_set (i := 6) nd rfl (.inl rfl) (pe_cmpR op_ge (pe_cl cV hr rfl (pa_cons (pv 0) (pa_cons (pv 5) pa_nil))) pe_int (nomark _)))
        (pss_cons (ps_if (pt_cmpR op_ne (pv 6) (pv 4) (nomark _))
          (pss_one (ps_expr (pe_bm PySem.F.plainAttrs_list PySem.F.slot_list_append PySem.F.type_list_append mt_append (pv 3) (pa_cons (pe_tup (pa_cons (pv 5) (pa_cons (pe_ifExp (pt_val (pv 6)) pe_str pe_str) pa_nil))) pa_nil)))) pss_nil)
        (pss_one (ps_set (i := 4) nd rfl (.inl rfl) (pv 6))))))
      (pss_one (ps_ret (pv 3))))), ?_⟩
    refine ⟨Nat.zero_le _, fun l hl => ?_⟩
    have s0 := same_new (o := .lst []) hl
    refine ⟨_, rfl, _, rfl, v, e, a, rfl, hE.mono s0.ts, ho, hn, fun H1 s1 => ⟨_, _, rfl, rfl, ?_⟩⟩
    have hl1 := s1 _ _ (upd_same (H := H) (a := l) (o := .lst []))
    refine ⟨_, rfl, _, _, rfl, rfl, _, rfl, _, _, rfl, rfl, _, _, rfl, ⟨by omega, by omega, by omega, by omega⟩, ?_⟩
    refine for_range (lo := a + 1) (n := (b + 1 - (a + 1)).toNat) (fun i σ H2 => ∃ (ys : List V) (y5 y6 : Option V), σ = [some v, some (.int a), some (.int b), some (.ref l), some (.bl (sd e (a + (i : Int)))), y5, y6] ∧ Same H H2 ∧ H2 l = some (.lst ys) ∧ All2 (ChgAt H2) ys (chg (tk e a (i + 1))))
      ⟨[], none, none, ?_, fun c o z => s1 _ _ (s0 _ _ z), hl1, rfl⟩ (fun i σ H2 hi hP => ?_) (fun σ H2 hP => ?_)
    · show [some v, some (V.int a), some (V.int b), some (V.ref l), some (V.bl (decide (0 ≤ val e a))), none, none] = _
      unfold sd
      rw [show a + ((0 : Nat) : Int) = a by simp]
    · obtain ⟨ys, y5, y6, rfl, s2, hl2, hB⟩ := hP
      refine ⟨_, rfl, _, rfl, v, e, _, rfl, hE.mono s2.ts, ho, hn, fun H3 s3 => ⟨_, _, rfl, rfl, ?_⟩⟩
      have ei : a + 1 + (i : Int) = a + ((i + 1 : Nat) : Int) := by omega
      have hl3 := s3 _ _ hl2
      have t2 : chg (tk e a (i + 2)) = chg (tk e a (i + 1)) ++ (if sd e (a + (i : Int)) ≠ sd e (a + ((i + 1 : Nat) : Int)) then [(a + ((i + 1 : Nat) : Int), sd e (a + ((i + 1 : Nat) : Int)))] else []) := by
        rw [tk_succ, tk_succ, List.append_assoc]
        exact chg_snoc _ _ _
      rw [ei]
      refine ⟨_, rfl, _, rfl, rfl, _, rfl, ?_⟩
      by_cases hs : sd e (a + (i : Int)) = sd e (a + ((i + 1 : Nat) : Int))
      · rw [if_neg (by intro z; exact z hs), List.append_nil] at t2
        have : decide (V.bl (decide (0 ≤ val e (a + ((i + 1 : Nat) : Int)))) = V.bl (sd e (a + (i : Int)))) = true := decide_eq_true (by rw [hs]; rfl)
        rw [this]
        refine iteF ⟨_, rfl, ys, _, _, rfl, s2.trans s3, hl3, ?_⟩
        rw [t2]
        exact hB.mono fun x c => ChgAt.mono s3.ts x c
      · rw [if_pos hs] at t2
        have : decide (V.bl (decide (0 ≤ val e (a + ((i + 1 : Nat) : Int)))) = V.bl (sd e (a + (i : Int)))) = false := decide_eq_false (fun z => hs (V.bl.inj z).symm)
        rw [this]
        refine iteT ?_
        refine ⟨_, rfl, .inl ⟨rfl, _, SqL.of hl3⟩, _, rfl, rdSide (b := sd e (a + ((i + 1 : Nat) : Int))) rfl ⟨by show 2 ≤ sizeLine; decide, fun p hp => ?_⟩⟩
        have s4 := same_new (o := .tup [.int (a + ((i + 1 : Nat) : Int)), .str (sideS (sd e (a + ((i + 1 : Nat) : Int))))]) hp
        have hl4 := s4 _ _ hl3
        have lp : l ≠ p := ne_of_none hl3 hp
        have hbl := hB.length
        have hcl := chg_len (tk e a (i + 1))
        have htl : (tk e a (i + 1)).length = i + 1 := by unfold tk; rw [List.length_map, List.length_range]
        refine ⟨l, ys, _, rfl, rfl, hl4, small1000 (by omega), ?_⟩
        refine ⟨_, rfl, ys ++ [.ref p], _, _, rfl, same_then ((s2.trans s3).trans s4) hl, upd_same, ?_⟩
        rw [t2]
        exact (hB.mono fun x c => ChgAt.mono ((s3.trans s4).ts.trans (TS.lst hl4)) x c).snoc ⟨p, rfl, by rw [upd_ne lp.symm, upd_same]⟩
    · obtain ⟨ys, y5, y6, rfl, s2, hl2, hB⟩ := hP
      rw [show (b + 1 - (a + 1)).toNat + 1 = (b + 1 - a).toNat by omega] at hB
      exact ⟨_, rfl, q l H2 ys s2 hl hl2 hB⟩
def spLS (n : Nat) : Sp := fun vs H Q _ => ∃ (v : V) (e : E) (now k : Int), vs = [v, .int now, .int k] ∧ EAt H e v ∧ Ok n false e ∧ n ≤ 8 ∧ 0 ≤ k ∧ ∀ H', Same H H' → Q (.bl (sure e now k)) H'
theorem ok_lsure {f : Addr} {fd : FuncData} (F : FnP K "_law_sure" "_law_sure" sLSure f fd) (n : Nat) (cR : Cal P w K mg base (n + 3) "_law_reach" ["_law_q", "_law_k"] (spReach false n)) : FnOk P w K mg base CX0 (n + 4) f fd ["_law_q", "_law_now", "_law_k"] (spLS n) := by
  refine FnP_ok F scLSure (fun vs H Q E h => ?_) (fun cdv A outer s H vs Q E hr h => ?_)
  · obtain ⟨v, e, now, k, rfl, _⟩ := h; rfl
  · obtain ⟨v, e, now, k, rfl, hE, ho, hn, hk, q⟩ := h
    refine ⟨_, pss_one (ps_ret (pe_ifExp (pt_cmpR op_ge (pv 1) pe_int (nomark _)) (pe_cmpR op_le (pe_cl cR hr rfl (pa_cons (pv 0) (pa_cons (pv 2) pa_nil))) (pv 1) (nomark _)) (pe_cmpR op_lt (pe_cl cR hr rfl (pa_cons (pv 0) (pa_cons (pv 2) pa_nil))) (pe_un un_neg (pv 1)) (nomark _)))), ?_⟩
    refine ⟨_, rfl, _, _, rfl, rfl, _, rfl, iD (fun z => ?_) (fun z => ?_)⟩
    · refine ⟨_, rfl, _, rfl, v, e, k, rfl, hE, ho, hn, hk, fun H1 s1 => ⟨_, rfl, _, _, rfl, rfl, ?_⟩⟩
      have := q _ s1
      unfold sure at this
      rw [if_pos z] at this
      exact this
    · refine ⟨_, rfl, _, rfl, v, e, k, rfl, hE, ho, hn, hk, fun H1 s1 => ⟨_, rfl, _, rfl, _, _, rfl, rfl, ?_⟩⟩
      have := q _ s1
      unfold sure at this
      rw [if_neg z] at this
      exact this
def spLL (n : Nat) : Sp := fun vs H Q _ => ∃ (v : V) (e : E) (t room : Int), vs = [v, .int t, .int room] ∧ EAt H e v ∧ Ok n false e ∧ n ≤ 8 ∧ 0 ≤ room ∧ room ≤ 150 ∧ ∀ H', Same H H' → Q (.int (lon e (val e t) room.toNat : Nat)) H'
theorem half {x y i : Nat} (h : y * 2 ≤ x) (hx : x * 2 ^ i ≤ 150) : y * 2 ^ (i + 1) ≤ 150 := by
  rw [Nat.pow_succ, Nat.mul_comm (2 ^ i) 2, ← Nat.mul_assoc]
  exact Nat.le_trans (Nat.mul_le_mul_right _ h) hx
theorem ok_llon {f : Addr} {fd : FuncData} (F : FnP K "_law_longest" "_law_longest" sLLongest f fd) (T : Txt mg) (n : Nat) (cV : Cal P w K mg base (n + 3) "_law_value" ["_law_q", "_law_t"] (spVal false n)) (cS : Cal P w K mg base (n + 4) "_law_sure" ["_law_q", "_law_now", "_law_k"] (spLS n)) :
    FnOk P w K mg base CX0 (n + 5) f fd ["_law_q", "_law_t", "_law_room"] (spLL n) := by
  refine FnP_ok F scLLongest (fun vs H Q E h => ?_) (fun cdv A outer s H vs Q E hr h => ?_)
  · obtain ⟨v, e, now, k, rfl, _⟩ := h; rfl
  · obtain ⟨v, e, t, room, rfl, hE, ho, hn, h0, h1, q⟩ := h
    have nd := scLLongest.nd
    refine ⟨_, pss_cons (ps_set (i := 3) nd rfl (.inl rfl) (pe_cl cV hr rfl (pa_cons (pv 0) (pa_cons (pv 1) pa_nil))))
      (pss_cons (ps_set (i := 4) nd rfl (.inl rfl) pe_int)
      (pss_cons (ps_set (i := 5) nd rfl (.inl rfl) (pe_op op_add (pv 2) pe_int))
      (pss_cons (ps_for PassesOwn.never rfl (pi_range1 (by rfl) T.range (pa_cons pe_int pa_nil)) (pg_name (i := 6) nd rfl (.inl rfl))
        (pss_cons (ps_set (i := 7) nd rfl (.inl rfl) (pe_op op_fdiv (pe_op op_add (pv 4) (pv 5)) pe_int))
        (pss_one (ps_if (PW.pt (pw_and (pt_cmpR op_gt (pv 7) (pv 4) (nomark _)) (pw_and1 (pt_val (pe_cl cS hr rfl (pa_cons (pv 0) (pa_cons (pv 3) (pa_cons (pv 7) pa_nil))))))))
          (pss_one (ps_set (i := 4) nd rfl (.inl rfl) (pv 7)))
          (pss_one (ps_if (pt_cmpR op_gt (pv 7) (pv 4) (nomark _)) (pss_one (ps_set (i := 5) nd rfl (.inl rfl) (pv 7))) pss_nil))))))
      (pss_one (ps_ret (pv 4)))))), ?_⟩
    refine ⟨_, rfl, _, rfl, v, e, t, rfl, hE, ho, hn, fun H1 s1 => ?_⟩
    refine ⟨_, rfl, _, _, rfl, rfl, ?_⟩
    refine ⟨12, rfl, by decide, by decide, ?_⟩
    refine for_range (lo := 0) (n := 12) (fun i σ H2 => ∃ (low high : Int) (y6 y7 : Option V), σ = [some v, some (.int t), some (.int room), some (.int (val e t)), some (.int low), some (.int high), y6, y7] ∧ Same H H2 ∧ 0 ≤ low ∧ low < high ∧ high ≤ room + 1 ∧ sure e (val e t) low = true ∧ (high = room + 1 ∨ sure e (val e t) high = false) ∧ (high - low - 1).toNat * 2 ^ i ≤ 150)
      ⟨0, room + 1, none, none, rfl, s1, by omega, by omega, by omega, sure_zero ho _, .inl rfl, by simp; omega⟩ (fun i σ H2 hi hP => ?_) (fun σ H2 hP => ?_)
    · obtain ⟨low, high, y6, y7, rfl, s2, w1, w2, w3, w4, w5, w6⟩ := hP
      refine ⟨_, rfl, _, rfl, _, _, rfl, rfl, _, _, rfl, rfl, ⟨by decide, by decide⟩, ?_⟩
      refine ⟨_, rfl, _, rfl, _, _, rfl, rfl, _, rfl, iD (fun z => ?_) (fun z => ?_)⟩
      · refine ⟨_, rfl, _, rfl, _, rfl, v, e, _, _, rfl, hE.mono s2.ts, ho, hn, by omega, fun H3 s3 => ⟨_, rfl, ?_⟩⟩
        cases hs : sure e (val e t) ((low + high) / 2) with
        | true => exact iteT ⟨_, rfl, (low + high) / 2, high, _, _, rfl, s2.trans s3, by omega, by omega, by omega, hs, w5, half (by omega) w6⟩
        | false =>
          refine iteF ?_
          refine ⟨_, rfl, _, rfl, _, _, rfl, rfl, _, rfl, iD (fun _ => ?_) (fun z2 => absurd z z2)⟩
          exact ⟨_, rfl, low, (low + high) / 2, _, _, rfl, s2.trans s3, by omega, by omega, by omega, w4, .inr hs, half (by omega) w6⟩
      · refine iteF ?_
        refine ⟨_, rfl, _, rfl, _, _, rfl, rfl, _, rfl, iD (fun z2 => absurd z2 z) (fun _ => ?_)⟩
        have e0 : (high - low - 1).toNat = 0 := by omega
        exact ⟨low, high, _, _, rfl, s2, w1, w2, w3, w4, w5, by rw [e0, Nat.zero_mul]; omega⟩
    · obtain ⟨low, high, y6, y7, rfl, s2, w1, w2, w3, w4, w5, w6⟩ := hP
      have w7 : (high - low - 1).toNat * 4096 ≤ 150 := w6
      have w8 : high = low + 1 := by omega
      subst w8
      have e0 : ((low.toNat : Nat) : Int) = low := by omega
      have := lon_eq ho (w := val e t) (k := low.toNat) (by rw [e0]; exact w4) (r := room.toNat) (by omega) (by
        rcases w5 with w5 | w5
        · left; omega
        · right
          have : ((low.toNat + 1 : Nat) : Int) = low + 1 := by omega
          rw [this]; exact w5)
      have qq := q _ s2
      rw [this, e0] at qq
      exact ⟨_, rfl, qq⟩
theorem ok_lis {f : Addr} {fd : FuncData} (F : FnP K "_law_is" "_law_is" sLIs f fd) (T : Txt mg) : FnOk P w K mg base CX0 1 f fd ["_law_actual", "_law_due"] spIs := by
  refine FnP_ok F scLIs (fun vs H Q E h => ?_) (fun cdv A outer s H vs Q E hr h => ?_)
  · obtain ⟨a, b, rfl, _⟩ := h; rfl
  · obtain ⟨a, b, rfl, q⟩ := h
    refine ⟨_, pss_one (ps_ret (pe_and (pe_callB call_isi (by rfl) T.isinstance (by decide +kernel) (pa_cons (pv 0) (pa_cons (pe_bltn (v := .ty "bool") rfl T.bool (by decide +kernel) rfl) pa_nil))) (pe_one (pe_cmpR op_eq (pv 0) (pv 1) (nomark _))))), ?_⟩
    refine ⟨_, rfl, _, _, _, _, true, rfl, ClsV.ty "bool", TyX.base (TyOf.bl a), kit_ty (by decide +kernel), true, rfl, iteT ?_⟩
    refine ⟨_, rfl, _, rfl, rfl, ?_⟩
    have : decide (V.bl a = V.bl b) = decide (a = b) := by cases a <;> cases b <;> rfl
    rw [this]
    exact q
end
end Ta

set_option maxHeartbeats 4000000
/-! The law's state: start, draw, pick, number, divisor. -/
namespace Ta
open PySem PySem.Spec PyProof.Rows L2
def stK (c : Addr) (i left mix : Int) : List (Key × V) := [(.inr "cells", .ref c), (.inr "at", .int i), (.inr "left", .int left), (.inr "mix", .int mix)]
theorem kne {a b : Str} (h : decide (a = b) = false) : ¬ (Sum.inr a : Key) = Sum.inr b := fun z => of_decide_eq_false h (Sum.inr.inj z)
theorem stK_cells (c : Addr) (i left mix : Int) : valV (stK c i left mix) (.inr "cells") = some (.ref c) := by
  unfold stK; rw [valV_pos rfl]
theorem stK_at (c : Addr) (i left mix : Int) : valV (stK c i left mix) (.inr "at") = some (.int i) := by
  unfold stK
  rw [valV_neg (kne (by decide +kernel)), valV_pos rfl]
theorem stK_left (c : Addr) (i left mix : Int) : valV (stK c i left mix) (.inr "left") = some (.int left) := by
  unfold stK
  rw [valV_neg (kne (by decide +kernel)), valV_neg (kne (by decide +kernel)), valV_pos rfl]
theorem stK_mix (c : Addr) (i left mix : Int) : valV (stK c i left mix) (.inr "mix") = some (.int mix) := by
  unfold stK
  rw [valV_neg (kne (by decide +kernel)), valV_neg (kne (by decide +kernel)), valV_neg (kne (by decide +kernel)), valV_pos rfl]
theorem putK_there {kvs : List (Key × V)} {k : Key} {u : V} (v : V) (h : valV kvs k = some u) : putK kvs k v = kvs.map fun kv => if kv.1 = k then (kv.1, v) else kv := by
  unfold putK
  rw [valV_any, h]
  exact if_pos rfl
theorem stK_put_at (c : Addr) (i left mix j : Int) : putK (stK c i left mix) (.inr "at") (.int j) = stK c j left mix := by
  rw [putK_there _ (stK_at c i left mix)]
  unfold stK
  simp only [List.map_cons, List.map_nil, if_true]
  rw [if_neg (kne (by decide +kernel)), if_neg (kne (by decide +kernel)), if_neg (kne (by decide +kernel))]
theorem stK_put_left (c : Addr) (i left mix j : Int) : putK (stK c i left mix) (.inr "left") (.int j) = stK c i j mix := by
  rw [putK_there _ (stK_left c i left mix)]
  unfold stK
  simp only [List.map_cons, List.map_nil, if_true]
  rw [if_neg (kne (by decide +kernel)), if_neg (kne (by decide +kernel)), if_neg (kne (by decide +kernel))]
theorem stK_put_mix (c : Addr) (i left mix j : Int) : putK (stK c i left mix) (.inr "mix") (.int j) = stK c i left j := by
  rw [putK_there _ (stK_mix c i left mix)]
  unfold stK
  simp only [List.map_cons, List.map_nil, if_true]
  rw [if_neg (kne (by decide +kernel)), if_neg (kne (by decide +kernel)), if_neg (kne (by decide +kernel))]
/-- the law's state stands at d -/
def StAt (H : Hp) (d c : Addr) : Prop := ∃ (ns : List Int) (i : Nat) (left mix : Int), H d = some (.dK (stK c i left mix)) ∧ H c = some (.lst (ns.map V.int)) ∧ (∀ n ∈ ns, 0 ≤ n) ∧ 0 ≤ left
theorem StAt.same {H H' : Hp} {d c : Addr} (h : StAt H d c) (s : Same H H') : StAt H' d c := by
  obtain ⟨ns, i, left, mix, h1, h2, h3⟩ := h
  exact ⟨ns, i, left, mix, s _ _ h1, s _ _ h2, h3⟩
theorem StAt.cell {H : Hp} {d c : Addr} (h : StAt H d c) : ∃ xs, H c = some (.lst xs) := by
  obtain ⟨ns, i, left, mix, _, h2, _⟩ := h
  exact ⟨_, h2⟩
theorem StAt.dK {H : Hp} {d c : Addr} (h : StAt H d c) : ∃ kvs, H d = some (.dK kvs) := by
  obtain ⟨ns, i, left, mix, h1, _⟩ := h
  exact ⟨_, h1⟩
theorem Keep.refl (d : Addr) (H : Hp) : Keep d H H := fun _ _ h _ => h
theorem Keep.trans {d : Addr} {H H1 H2 : Hp} (a : Keep d H H1) (b : Keep d H1 H2) : Keep d H H2 := fun c o h n => b c o (a c o h n) n
theorem Keep.of {d : Addr} {H H' : Hp} (s : Same H H') : Keep d H H' := fun c o h _ => s c o h
theorem Keep.tsD {d c : Addr} {H H' : Hp} (k : Keep d H H') (h : StAt H d c) : TS H H' := fun a xs e => by
  obtain ⟨kvs, hd⟩ := h.dK
  exact k a _ e (ne_of e hd (by intro z; cases z))
theorem Keep.lst {d c l : Addr} {xs : List V} {H H' : Hp} (k : Keep d H H') (h : StAt H d c) (hl : H l = some (.lst xs)) : H' l = some (.lst xs) := by
  obtain ⟨kvs, hd⟩ := h.dK
  exact k l _ hl (ne_of hl hd (by intro z; cases z))
theorem Keep.tup {d c l : Addr} {xs : List V} {H H' : Hp} (k : Keep d H H') (h : StAt H d c) (hl : H l = some (.tup xs)) : H' l = some (.tup xs) := k.tsD h _ _ hl
section
variable {P : Program} {w : World} {K : PySem.W.Frag} {mg : Str → Option Value} {base : Heap} {C : Addr}
def spDraw : Sp := fun vs H Q _ => ∃ (d c : Addr) (b : Int), vs = [.ref d, .int b] ∧ 0 < b ∧ b < 18446744073709551616 ∧ StAt H d c ∧ ∀ (r : Int) (H' : Hp), 0 ≤ r → r < b → StAt H' d c → Keep d H H' → Q (.int r) H'
/-- state[a text], in slot 0 -/
theorem rdD {σ : L2.St} {H : Hp} {d : Addr} {kvs : List (Key × V)} {x : Str} {v : V} {Q : VK} (h0 : σ[0]? = some (some (.ref d))) (hd : H d = some (.dK kvs)) (hv : valV kvs (.inr x) = some v) (q : Q v H) : tDGet (tVar 0) (tC (.str x)) σ H Q :=
  ⟨_, h0, d, v, rfl, hv ▸ DGet.k (k := Sum.inr x) hd, q⟩
theorem ok_draw {f : Addr} {fd : FuncData} (F : FnP K "_law_draw" "_law_draw" sLDraw f fd) (T : Txt mg) : FnOk P w K mg base CX0 1 f fd ["_law_state", "_law_bound"] spDraw := by
  refine FnP_ok F scLDraw (fun vs H Q E h => ?_) (fun cdv A outer s H vs Q E hr h => ?_)
  · obtain ⟨d, c, b, rfl, _⟩ := h; rfl
  · obtain ⟨d, c, b, rfl, hb0, hb1, st, q⟩ := h
    have nd := scLDraw.nd
    have hu := hu_of hr
    refine ⟨_, pss_cons (ps_if (PW.pt (pw_and (pt_cmpR op_eq (pe_dget hu (pv 0) pe_str (fun _ _ => rfl)) pe_int (nomark _)) (pw_and1 (pt_cmpR op_lt (pe_dget hu (pv 0) pe_str (fun _ _ => rfl)) (pe_callB call_len_seq (by rfl) T.len PySem.boot_len (pa_cons (pe_dget hu (pv 0) pe_str (fun _ _ => rfl)) pa_nil)) (nomark _)))))
        (pss_cons (ps_set (i := 2) nd rfl (.inl rfl) (pe_ix ix_list (pe_dget hu (pv 0) pe_str (fun _ _ => rfl)) (pe_dget hu (pv 0) pe_str (fun _ _ => rfl)) (fun _ _ => rfl)))
        (pss_cons (ps_dput hu (pv 0) pe_str (pe_op op_add (pe_dget hu (pv 0) pe_str (fun _ _ => rfl)) pe_int) rfl)
        (pss_cons (ps_dput hu (pv 0) pe_str (pe_op op_mod (pe_callTy call_int1 (by rfl) T.int (by decide +kernel) (pa_cons (pe_op op_add (pe_op op_add (pe_op op_mul (pe_dget hu (pv 0) pe_str (fun _ _ => rfl)) pe_int) (pv 2)) pe_int) pa_nil)) pe_int) rfl)
        (pss_cons (ps_if (pt_cmpR op_lt (pv 2) (pe_op op_pow pe_int pe_int) (nomark _)) (pss_one (ps_ret (pe_op op_mod (pe_callTy call_int1 (by rfl) T.int (by decide +kernel) (pa_cons (pv 2) pa_nil)) (pv 1)))) pss_nil)
        (pss_one (ps_dput hu (pv 0) pe_str (pv 2) rfl)))))) pss_nil)
      (pss_cons (ps_if (pt_cmpR op_gt (pe_dget hu (pv 0) pe_str (fun _ _ => rfl)) pe_int (nomark _))
        (pss_cons (ps_set (i := 3) nd rfl (.inl rfl) (pe_op op_mod (pe_callTy call_int1 (by rfl) T.int (by decide +kernel) (pa_cons (pe_dget hu (pv 0) pe_str (fun _ _ => rfl)) pa_nil)) (pv 1)))
        (pss_cons (ps_dput hu (pv 0) pe_str (pe_op op_fdivW (pe_dget hu (pv 0) pe_str (fun _ _ => rfl)) (pv 1)) rfl)
        (pss_one (ps_ret (pv 3))))) pss_nil)
      (pss_cons (ps_dput hu (pv 0) pe_str (pe_op op_mod (pe_callTy call_int1 (by rfl) T.int (by decide +kernel) (pa_cons (pe_op op_add (pe_op op_mul (pe_dget hu (pv 0) pe_str (fun _ _ => rfl)) pe_int) pe_int) pa_nil)) pe_int) rfl)
      (pss_one (ps_ret (pe_op op_mod (pe_callTy call_int1 (by rfl) T.int (by decide +kernel) (pa_cons (pe_op op_mod (pe_callTy call_int1 (by rfl) T.int (by decide +kernel) (pa_cons (pe_op op_add (pe_op op_mul (pe_dget hu (pv 0) pe_str (fun _ _ => rfl)) pe_int) pe_int) pa_nil)) pe_int) pa_nil)) (pv 1)))))), ?_⟩
    obtain ⟨ns, i, left, mix, hd, hc, hns, hl0⟩ := st
    have ncd : c ≠ d := ne_of hc hd (by intro z; cases z)
    have hz4 : ∀ (c : Addr) (i l m : Int), (stK c i l m).length < sizeLine := fun _ _ _ _ => small1000 (by show 4 ≤ 1000; decide)
    have fin : ∀ (y2 y3 : Option V) (H1 : Hp) (i : Nat) (left mix : Int), H1 d = some (.dK (stK c i left mix)) → H1 c = some (.lst (ns.map V.int)) → 0 ≤ left → Keep d H H1 →
        tSeq (tIfS (tTest (tOp (rI0 fun i j => .bl (decide (j < i))) (tDGet (tVar 0) (tC (.str "left"))) (tC (.int 0))))
          (tSeq (tAsg (tOp (rI (fun _ j => 0 < j) fun i j => .int (i % j)) (tCB (fun xs H Q => (∃ i, xs = [.int i] ∧ Q (.int i) H) ∨ ∃ k, xs = [.bl k] ∧ Q (.int (if k then 1 else 0)) H) (tCons (tDGet (tVar 0) (tC (.str "left"))) tNil)) (tVar 1)) (gName 3))
            (tSeq (sDPut (tVar 0) (tC (.str "left")) (tOp (rI CDivW fun i j => .int (i / j)) (tDGet (tVar 0) (tC (.str "left"))) (tVar 1))) (tRet (tVar 3)))) tNext)
          (tSeq (sDPut (tVar 0) (tC (.str "mix")) (tOp (rI (fun _ j => 0 < j) fun i j => .int (i % j)) (tCB (fun xs H Q => (∃ i, xs = [.int i] ∧ Q (.int i) H) ∨ ∃ k, xs = [.bl k] ∧ Q (.int (if k then 1 else 0)) H) (tCons (tOp (rI0 fun i j => .int (i + j)) (tOp (rI CMul fun i j => .int (i * j)) (tDGet (tVar 0) (tC (.str "mix"))) (tC (.int 48271))) (tC (.int 11))) tNil)) (tC (.int 2147483647))))
          (tRet (tOp (rI (fun _ j => 0 < j) fun i j => .int (i % j)) (tCB (fun xs H Q => (∃ i, xs = [.int i] ∧ Q (.int i) H) ∨ ∃ k, xs = [.bl k] ∧ Q (.int (if k then 1 else 0)) H) (tCons (tOp (rI (fun _ j => 0 < j) fun i j => .int (i % j)) (tCB (fun xs H Q => (∃ i, xs = [.int i] ∧ Q (.int i) H) ∨ ∃ k, xs = [.bl k] ∧ Q (.int (if k then 1 else 0)) H) (tCons (tOp (rI0 fun i j => .int (i + j)) (tOp (rI CMul fun i j => .int (i * j)) (tDGet (tVar 0) (tC (.str "mix"))) (tC (.int 69621))) (tC (.int 5))) tNil)) (tC (.int 2147483629))) tNil)) (tVar 1))))
          { nx := fun _ H' => Q .non H', rt := Q } [some (.ref d), some (.int b), y2, y3] H1 := by
      intro y2 y3 H1 i left mix hd1 hc1 hl kk
      refine rdD rfl hd1 (stK_left ..) ⟨left, 0, rfl, rfl, _, rfl, iD (fun z => ?_) (fun z => ?_)⟩
      · refine rdD rfl hd1 (stK_left ..) (.inl ⟨left, rfl, _, rfl, left, b, rfl, rfl, hb0, ?_⟩)
        refine rdD rfl hd1 (stK_left ..) ⟨_, rfl, left, b, rfl, rfl, cdiv_lit hb0 hb1, _, rfl, d, _, rfl, DPut.k (k := Sum.inr "left") hd1 (hz4 ..), ?_⟩
        rw [stK_put_left]
        refine ⟨_, rfl, q _ _ (Int.emod_nonneg _ (by omega)) (Int.emod_lt_of_pos _ hb0) ⟨ns, i, left / b, mix, upd_same, by rw [upd_ne ncd]; exact hc1, hns, Int.ediv_nonneg hl (by omega)⟩ fun a o z n => by rw [upd_ne n]; exact kk a o z n⟩
      · refine rdD rfl hd1 (stK_mix ..) ⟨mix, 48271, rfl, rfl, cmul_r (by decide) (by decide), _, _, rfl, rfl, .inl ⟨_, rfl, _, _, rfl, rfl, (by decide : (0 : Int) < 2147483647), _, rfl, d, _, rfl, DPut.k (k := Sum.inr "mix") hd1 (hz4 ..), ?_⟩⟩
        rw [stK_put_mix]
        refine rdD rfl upd_same (stK_mix ..) ⟨_, 69621, rfl, rfl, cmul_r (by decide) (by decide), _, _, rfl, rfl, .inl ⟨_, rfl, _, _, rfl, rfl, (by decide : (0 : Int) < 2147483629), .inl ⟨_, rfl, _, rfl, _, b, rfl, rfl, hb0, ?_⟩⟩⟩
        exact q _ _ (Int.emod_nonneg _ (by omega)) (Int.emod_lt_of_pos _ hb0) ⟨ns, i, left, _, upd_same, by rw [upd_ne ncd]; exact hc1, hns, hl⟩ fun a o z n => by rw [upd_ne n]; exact kk a o z n
    refine rdD rfl hd (stK_left ..) ⟨rfl, _, rfl, iI (fun z => ?_) (fun _ => fin _ _ H i left mix hd hc hl0 (Keep.refl d H))⟩
    refine rdD rfl hd (stK_at ..) ?_
    refine rdD rfl hd (stK_cells ..) ⟨c, _, rfl, .inl (SqL.of hc), _, _, rfl, rfl, _, rfl, iD (fun z2 => ?_) (fun _ => fin _ _ H i left mix hd hc hl0 (Keep.refl d H))⟩
    have hil : i < ns.length := by rw [List.length_map] at z2; omega
    have hn0 : 0 ≤ ns[i] := hns _ (List.getElem_mem hil)
    refine rdD rfl hd (stK_cells ..) ?_
    refine rdD rfl hd (stK_at ..) ⟨c, _, (i : Int), .int ns[i], rfl, rfl, SqL.of hc, atI_nat (by rw [List.getElem?_map, List.getElem?_eq_getElem hil]; rfl), ?_⟩
    refine rdD rfl hd (stK_at ..) ⟨_, _, rfl, rfl, _, rfl, d, _, rfl, DPut.k (k := Sum.inr "at") hd (hz4 ..), ?_⟩
    rw [stK_put_at]
    refine rdD rfl upd_same (stK_mix ..) ⟨mix, 48271, rfl, rfl, cmul_r (by decide) (by decide), _, rfl, _, _, rfl, rfl, _, _, rfl, rfl, .inl ⟨_, rfl, _, _, rfl, rfl, (by decide : (0 : Int) < 2147483647), _, rfl, d, _, rfl, DPut.k (k := Sum.inr "mix") upd_same (hz4 ..), ?_⟩⟩
    rw [stK_put_mix, upd_upd]
    have ei : ((i : Int) + 1) = ((i + 1 : Nat) : Int) := by omega
    rw [ei]
    have hd2 : ∀ m, (upd H d (.dK (stK c ((i + 1 : Nat) : Int) left m))) d = some (.dK (stK c ((i + 1 : Nat) : Int) left m)) := fun m => upd_same
    have hc2 : ∀ o, (upd H d o) c = some (.lst (ns.map V.int)) := fun o => by rw [upd_ne ncd]; exact hc
    have kk2 : ∀ o, Keep d H (upd H d o) := fun o a u z n => by rw [upd_ne n]; exact z
    refine ⟨_, rfl, 10, 18, rfl, rfl, ⟨by decide, by decide, by decide⟩, _, _, rfl, rfl, _, rfl, iD (fun z3 => ?_) (fun z3 => ?_)⟩
    · refine ⟨_, rfl, .inl ⟨_, rfl, _, rfl, ns[i], b, rfl, rfl, hb0, ?_⟩⟩
      exact q _ _ (Int.emod_nonneg _ (by omega)) (Int.emod_lt_of_pos _ hb0) ⟨ns, i + 1, left, _, upd_same, hc2 _, hns, hl0⟩ (kk2 _)
    · refine ⟨_, rfl, _, rfl, d, _, rfl, DPut.k (k := Sum.inr "left") upd_same (hz4 ..), ?_⟩
      rw [stK_put_left, upd_upd]
      exact fin _ _ _ (i + 1) ns[i] _ upd_same (hc2 _) hn0 (kk2 _)
end
end Ta

set_option maxHeartbeats 4000000
/-! The law's builders: start, pick, number, divisor, wave_part. -/
namespace Ta
open PySem PySem.Spec PyProof.Rows L2
theorem merge_stK (c : Addr) (i left mix : Int) : mergeK [] (stK c i left mix) = stK c i left mix := by
  have p1 : putK ([] : List (Key × V)) (.inr "cells") (.ref c) = [(.inr "cells", .ref c)] := putK_new _ valV_nil
  have p2 : putK ([(.inr "cells", .ref c)] : List (Key × V)) (.inr "at") (.int i) = [(.inr "cells", .ref c), (.inr "at", .int i)] := putK_new _ (by rw [valV_neg (kne (by decide +kernel)), valV_nil])
  have p3 : putK ([(.inr "cells", .ref c), (.inr "at", .int i)] : List (Key × V)) (.inr "left") (.int left) = [(.inr "cells", .ref c), (.inr "at", .int i), (.inr "left", .int left)] := putK_new _ (by rw [valV_neg (kne (by decide +kernel)), valV_neg (kne (by decide +kernel)), valV_nil])
  have p4 : putK ([(.inr "cells", .ref c), (.inr "at", .int i), (.inr "left", .int left)] : List (Key × V)) (.inr "mix") (.int mix) = stK c i left mix := putK_new _ (by rw [valV_neg (kne (by decide +kernel)), valV_neg (kne (by decide +kernel)), valV_neg (kne (by decide +kernel)), valV_nil])
  show putK (putK (putK (putK ([] : List (Key × V)) (Sum.inr "cells" : Key) (V.ref c)) (Sum.inr "at" : Key) (V.int i)) (Sum.inr "left" : Key) (V.int left)) (Sum.inr "mix" : Key) (V.int mix) = _
  rw [p1, p2, p3, p4]
section
variable {P : Program} {w : World} {K : PySem.W.Frag} {mg : Str → Option Value} {base : Heap} {C : Addr}
/-! start -/
def spStart (K : PySem.W.Frag) : Sp := fun vs H Q _ => ∃ (a : Addr) (ns : List Int), vs = [.ref a] ∧ SqL K H a (ns.map V.int) ∧ ns.length ≤ 63 ∧ ∀ (d c : Addr) (H' : Hp), StAt H' d c → Same H H' → Q (.ref d) H'
theorem ok_start {f : Addr} {fd : FuncData} (F : FnP K "_law_start" "_law_start" sLStart f fd) (T : Txt mg) : FnOk P w K mg base CX0 1 f fd ["_law_script"] (spStart K) := by
  refine FnP_ok F scLStart (fun vs H Q E h => ?_) (fun cdv A outer s H vs Q E hr h => ?_)
  · obtain ⟨a, ns, rfl, _⟩ := h; rfl
  · obtain ⟨a, ns, rfl, hS, hl, q⟩ := h
    have nd := scLStart.nd
    refine ⟨_, pss_one (ps_ret (pe_disp (pps_cons pe_str (pe_lc (own := [("_law_cell", 1)]) (g := gName 1) (tt := tYes) (te := tCB (fun xs H Q => ∃ i, xs = [.int i] ∧ Q (.int (if i < 0 then -i else i)) H) (tCons (tCB (fun xs H Q => (∃ i, xs = [.int i] ∧ Q (.int i) H) ∨ ∃ k, xs = [.bl k] ∧ Q (.int (if k then 1 else 0)) H) (tCons (tVar 1) tNil)) tNil)) rfl nd (pi_list (pv 0))
        (blkOk_by (N := ["_law_script", "_law_cell"]) (sc := defScope sLStart) (by decide +kernel)) (fun _ _ _ _ _ => pg_name (i := 1) nd rfl (Or.inl rfl)) (fun _ _ _ _ _ => pts_nil)
        (fun _ _ _ _ _ => pe_callB call_abs (by rfl) T.abs (by decide +kernel) (pa_cons (pe_callTy call_int1 (by rfl) T.int (by decide +kernel) (pa_cons (pv 1) pa_nil)) pa_nil)))
      (pps_cons pe_str pe_int (pps_cons pe_str pe_int (pps_cons pe_str (pe_op op_add pe_int (pe_callB call_len_seq (by rfl) T.len PySem.boot_len (pa_cons (pv 0) pa_nil))) pps_nil)))) (by rfl) (by rfl) (fun z => by cases z) (by decide))), ?_⟩
    intro d hd
    have s1 := same_new (o := .dK []) hd
    refine ⟨_, rfl, a, rfl, ⟨_, s1.seq hS⟩, fun D hD => lc_ints_list (ns.map ab) (by rw [List.length_map, List.length_map]) (by rw [List.length_map]; omega) hD (s1.seq hS) (fun i v m H2 hi hm s2 Q2 q2 => ?_) (gName_mono 1) tYes_mono (fun H2 s2 hDd => ?_)⟩
    · rw [List.getElem?_map] at hi hm
      cases hq : ns[i]? with
      | none => rw [hq] at hi; cases hi
      | some z =>
        rw [hq] at hi hm
        cases hi
        cases hm
        exact ⟨rfl, rfl, _, rfl, .inl ⟨z, rfl, z, rfl, q2 _ (Same.refl _)⟩⟩
    · have hd2 : H2 d = some (.dK []) := s2 _ _ upd_same
      refine ⟨_, rfl, a, _, rfl, .inl ((s1.trans s2).seq hS), _, _, rfl, rfl, hd2, stK D 0 0 (7 + (ns.map V.int).length), rfl, by show 4 ≤ 15; decide, ?_⟩
      have nDd : D ≠ d := fun z => by rw [z, upd_same] at hD; cases hD
      refine q d D _ ⟨ns.map ab, 0, 0, 7 + (ns.map V.int).length, ?_, by rw [upd_ne nDd]; exact hDd, fun n hn => ?_, by decide⟩ (same_then (s1.trans s2) hd)
      · rw [upd_same]
        have e := merge_stK D 0 0 (7 + (ns.map V.int).length)
        rw [e]
        rfl
      · obtain ⟨m, _, rfl⟩ := List.mem_map.mp hn
        exact ab_nn m
/-! pick -/
def spPick : Sp := fun vs H Q _ => ∃ (d c l : Addr) (xs : List V), vs = [.ref d, .ref l] ∧ StAt H d c ∧ H l = some (.lst xs) ∧ 0 < xs.length ∧ xs.length ≤ 1000 ∧ ∀ (x : V) (H' : Hp), x ∈ xs → StAt H' d c → Keep d H H' → Q x H'
theorem ok_pick {f : Addr} {fd : FuncData} (F : FnP K "_law_pick" "_law_pick" sLPick f fd) (T : Txt mg) (cD : Cal P w K mg base 1 "_law_draw" ["_law_state", "_law_bound"] spDraw) : FnOk P w K mg base CX0 2 f fd ["_law_state", "_law_things"] spPick := by
  refine FnP_ok F scLPick (fun vs H Q E h => ?_) (fun cdv A outer s H vs Q E hr h => ?_)
  · obtain ⟨d, c, l, xs, rfl, _⟩ := h; rfl
  · obtain ⟨d, c, l, xs, rfl, st, hl, h0, h1, q⟩ := h
    refine ⟨_, pss_one (ps_ret (pe_ix ix_list (pv 1) (pe_cl cD hr rfl (pa_cons (pv 0) (pa_cons (pe_callB call_len_seq (by rfl) T.len PySem.boot_len (pa_cons (pv 1) pa_nil)) pa_nil))) (fun _ _ => rfl))), ?_⟩
    refine ⟨_, rfl, _, rfl, _, rfl, l, xs, rfl, .inl (SqL.of hl), d, c, _, rfl, by omega, by omega, st, fun r H1 r0 r1 st1 k1 => ?_⟩
    have hr' : r.toNat < xs.length := by omega
    have er : ((r.toNat : Nat) : Int) = r := by omega
    refine ⟨l, xs, r, xs[r.toNat], rfl, rfl, SqL.of (k1.lst st hl), ?_, q _ _ (List.getElem_mem hr') st1 k1⟩
    have := atI_nat (List.getElem?_eq_getElem hr')
    rw [er] at this
    exact this
/-! number, divisor -/
def spNum : Sp := fun vs H Q _ => ∃ (d c : Addr), vs = [.ref d] ∧ StAt H d c ∧ ∀ (n : Int) (H' : Hp), -1000000000000 ≤ n → n ≤ 1000000000000 → StAt H' d c → Keep d H H' → Q (.int n) H'
theorem mul_pm {s r : Int} (hs : s = -1 ∨ s = 1) (h0 : 0 ≤ r) (h1 : r ≤ 1000000000000) : -1000000000000 ≤ s * r ∧ s * r ≤ 1000000000000 := by
  rcases hs with rfl | rfl
  · rw [Int.neg_mul, Int.one_mul]; omega
  · rw [Int.one_mul]; omega
theorem ok_num {f : Addr} {fd : FuncData} (F : FnP K "_law_number" "_law_number" sLNumber f fd) (cD : Cal P w K mg base 1 "_law_draw" ["_law_state", "_law_bound"] spDraw) (cP : Cal P w K mg base 2 "_law_pick" ["_law_state", "_law_things"] spPick) : FnOk P w K mg base CX0 3 f fd ["_law_state"] spNum := by
  refine FnP_ok F scLNumber (fun vs H Q E h => ?_) (fun cdv A outer s H vs Q E hr h => ?_)
  · obtain ⟨d, c, rfl, _⟩ := h; rfl
  · obtain ⟨d, c, rfl, st, q⟩ := h
    refine ⟨_, pss_one (ps_ret (pe_op op_mul (pe_cl cP hr rfl (pa_cons (pv 0) (pa_cons (pe_lst (pa_cons (pe_un un_neg pe_int) (pa_cons pe_int pa_nil))) pa_nil)))
      (pe_cl cD hr rfl (pa_cons (pv 0) (pa_cons (pe_cl cP hr rfl (pa_cons (pv 0) (pa_cons (pe_lst (pa_cons pe_int (pa_cons pe_int (pa_cons (pe_op op_pow pe_int pe_int) (pa_cons (pe_op op_mul pe_int (pe_op op_pow pe_int pe_int)) (pa_cons (pe_op op_add (pe_op op_pow pe_int pe_int) pe_int) pa_nil)))))) pa_nil))) pa_nil))))), ?_⟩
    refine ⟨_, rfl, 1, rfl, by show 2 ≤ sizeLine; decide, fun l hl => ⟨d, c, l, _, rfl, st.same (same_new hl), upd_same, by decide, by decide, fun x H1 hx st1 k1 => ?_⟩⟩
    have k1' := (Keep.of (d := d) (same_new (o := .lst [V.int (-1), V.int 1]) hl)).trans k1
    obtain ⟨sg, rfl, hsg⟩ : ∃ sg : Int, x = .int sg ∧ (sg = -1 ∨ sg = 1) := by
      rcases List.mem_cons.mp hx with rfl | hx
      · exact ⟨_, rfl, .inl rfl⟩
      · obtain rfl := List.mem_singleton.mp hx
        exact ⟨_, rfl, .inr rfl⟩
    refine ⟨_, rfl, _, rfl, 10, 6, rfl, rfl, ⟨by decide, by decide, by decide⟩, 10, 6, rfl, rfl, ⟨by decide, by decide, by decide⟩, 2, _, rfl, rfl, cmul_l (by decide) (by decide), 10, 12, rfl, rfl, ⟨by decide, by decide, by decide⟩, _, 1, rfl, rfl, by show 5 ≤ sizeLine; decide, fun l2 hl2 => ⟨d, c, l2, _, rfl, st1.same (same_new hl2), upd_same, by decide, by decide, fun y H2 hy st2 k2 => ?_⟩⟩
    obtain ⟨bd, rfl, hb0, hb1⟩ : ∃ bd : Int, y = .int bd ∧ 0 < bd ∧ bd ≤ 1000000000001 := by
      simp only [List.mem_cons, List.mem_nil_iff, or_false] at hy
      rcases hy with rfl | rfl | rfl | rfl | rfl
      · exact ⟨_, rfl, by decide, by decide⟩
      · exact ⟨_, rfl, by decide, by decide⟩
      · exact ⟨_, rfl, by decide, by decide⟩
      · exact ⟨_, rfl, by decide, by decide⟩
      · exact ⟨_, rfl, by decide, by decide⟩
    refine ⟨d, c, bd, rfl, hb0, by omega, st2, fun r H3 r0 r1 st3 k3 => ?_⟩
    have hm := mul_pm hsg r0 (by omega)
    exact ⟨sg, r, rfl, rfl, cmul_l (by rcases hsg with rfl | rfl <;> decide) (by rcases hsg with rfl | rfl <;> decide), q _ _ hm.1 hm.2 st3 (((k1'.trans (Keep.of (same_new hl2))).trans k2).trans k3)⟩
def spDiv : Sp := fun vs H Q _ => ∃ (d c : Addr), vs = [.ref d] ∧ StAt H d c ∧ ∀ (n : Int) (H' : Hp), 1 ≤ n → n ≤ 1000000000000 → StAt H' d c → Keep d H H' → Q (.int n) H'
theorem ok_div {f : Addr} {fd : FuncData} (F : FnP K "_law_divisor" "_law_divisor" sLDivisor f fd) (cD : Cal P w K mg base 1 "_law_draw" ["_law_state", "_law_bound"] spDraw) (cP : Cal P w K mg base 2 "_law_pick" ["_law_state", "_law_things"] spPick) : FnOk P w K mg base CX0 3 f fd ["_law_state"] spDiv := by
  refine FnP_ok F scLDivisor (fun vs H Q E h => ?_) (fun cdv A outer s H vs Q E hr h => ?_)
  · obtain ⟨d, c, rfl, _⟩ := h; rfl
  · obtain ⟨d, c, rfl, st, q⟩ := h
    refine ⟨_, pss_one (ps_ret (pe_op op_add pe_int (pe_cl cD hr rfl (pa_cons (pv 0) (pa_cons (pe_cl cP hr rfl (pa_cons (pv 0) (pa_cons (pe_lst (pa_cons pe_int (pa_cons pe_int (pa_cons (pe_op op_pow pe_int pe_int) (pa_cons (pe_op op_pow pe_int pe_int) pa_nil))))) pa_nil))) pa_nil))))), ?_⟩
    refine ⟨_, rfl, _, rfl, 10, 6, rfl, rfl, ⟨by decide, by decide, by decide⟩, 10, 12, rfl, rfl, ⟨by decide, by decide, by decide⟩, by show 4 ≤ sizeLine; decide, fun l2 hl2 => ⟨d, c, l2, _, rfl, st.same (same_new hl2), upd_same, by decide, by decide, fun y H2 hy st2 k2 => ?_⟩⟩
    obtain ⟨bd, rfl, hb0, hb1⟩ : ∃ bd : Int, y = .int bd ∧ 0 < bd ∧ bd ≤ 1000000000000 := by
      simp only [List.mem_cons, List.mem_nil_iff, or_false] at hy
      rcases hy with rfl | rfl | rfl | rfl
      · exact ⟨_, rfl, by decide, by decide⟩
      · exact ⟨_, rfl, by decide, by decide⟩
      · exact ⟨_, rfl, by decide, by decide⟩
      · exact ⟨_, rfl, by decide, by decide⟩
    refine ⟨d, c, bd, rfl, hb0, by omega, st2, fun r H3 r0 r1 st3 k3 => ?_⟩
    exact ⟨1, r, rfl, rfl, q _ _ (by omega) (by omega) st3 (((Keep.of (same_new hl2)).trans k2).trans k3)⟩
/-! wave_part -/
def spWP : Sp := fun vs H Q _ => ∃ (d c : Addr), vs = [.ref d] ∧ StAt H d c ∧ ∀ (a a2 : Addr) (s m dd : Int) (H' : Hp), H' a = some (.tup [.str "wave", .ref a2]) → H' a2 = some (.tup [.str "turning", .int s, .int m, .int dd]) → (-1000000000000 ≤ m ∧ m ≤ 1000000000000) → 1 ≤ dd → dd ≤ 1000000000000 → StAt H' d c → Keep d H H' → Q (.ref a) H'
theorem ok_wp {f : Addr} {fd : FuncData} (F : FnP K "_law_wave_part" "_law_wave_part" sLWavePart f fd) (cD : Cal P w K mg base 1 "_law_draw" ["_law_state", "_law_bound"] spDraw) (cP : Cal P w K mg base 2 "_law_pick" ["_law_state", "_law_things"] spPick) : FnOk P w K mg base CX0 3 f fd ["_law_state"] spWP := by
  refine FnP_ok F scLWavePart (fun vs H Q E h => ?_) (fun cdv A outer s H vs Q E hr h => ?_)
  · obtain ⟨d, c, rfl, _⟩ := h; rfl
  · obtain ⟨d, c, rfl, st, q⟩ := h
    have nd := scLWavePart.nd
    refine ⟨_, pss_cons (ps_set (i := 1) nd rfl (.inl rfl) (pe_op op_mul (pe_cl cP hr rfl (pa_cons (pv 0) (pa_cons (pe_lst (pa_cons (pe_un un_neg pe_int) (pa_cons pe_int pa_nil))) pa_nil)))
        (pe_op op_add pe_int (pe_cl cD hr rfl (pa_cons (pv 0) (pa_cons (pe_cl cP hr rfl (pa_cons (pv 0) (pa_cons (pe_lst (pa_cons pe_int (pa_cons pe_int (pa_cons pe_int pa_nil)))) pa_nil))) pa_nil))))))
      (pss_one (ps_ret (pe_tup (pa_cons pe_str (pa_cons (pe_tup (pa_cons pe_str (pa_cons (pe_cl cD hr rfl (pa_cons (pv 0) (pa_cons pe_int pa_nil))) (pa_cons (pv 1) (pa_cons (pe_cl cP hr rfl (pa_cons (pv 0) (pa_cons (pe_lst (pa_cons pe_int (pa_cons pe_int (pa_cons pe_int (pa_cons pe_int pa_nil))))) pa_nil))) pa_nil))))) pa_nil))))), ?_⟩
    refine ⟨_, rfl, 1, rfl, by show 2 ≤ sizeLine; decide, fun l hl => ⟨d, c, l, _, rfl, st.same (same_new hl), upd_same, by decide, by decide, fun x H1 hx st1 k1 => ?_⟩⟩
    have k1' := (Keep.of (d := d) (same_new (o := .lst [V.int (-1), V.int 1]) hl)).trans k1
    obtain ⟨sg, rfl, hsg⟩ : ∃ sg : Int, x = .int sg ∧ (sg = -1 ∨ sg = 1) := by
      rcases List.mem_cons.mp hx with rfl | hx
      · exact ⟨_, rfl, .inl rfl⟩
      · obtain rfl := List.mem_singleton.mp hx
        exact ⟨_, rfl, .inr rfl⟩
    refine ⟨_, rfl, _, rfl, by show 3 ≤ sizeLine; decide, fun l2 hl2 => ⟨d, c, l2, _, rfl, st1.same (same_new hl2), upd_same, by decide, by decide, fun y H2 hy st2 k2 => ?_⟩⟩
    obtain ⟨bd, rfl, hb0, hb1⟩ : ∃ bd : Int, y = .int bd ∧ 0 < bd ∧ bd ≤ 200000 := by
      simp only [List.mem_cons, List.mem_nil_iff, or_false] at hy
      rcases hy with rfl | rfl | rfl
      · exact ⟨_, rfl, by decide, by decide⟩
      · exact ⟨_, rfl, by decide, by decide⟩
      · exact ⟨_, rfl, by decide, by decide⟩
    refine ⟨d, c, bd, rfl, hb0, by omega, st2, fun r H3 r0 r1 st3 k3 => ⟨1, r, rfl, rfl, ?_⟩⟩
    have hm := mul_pm (r := 1 + r) hsg (by omega) (by omega)
    have kk3 := ((k1'.trans (Keep.of (same_new hl2))).trans k2).trans k3
    refine ⟨sg, 1 + r, rfl, rfl, cmul_l (by rcases hsg with rfl | rfl <;> decide) (by rcases hsg with rfl | rfl <;> decide), ?_⟩
    refine ⟨_, rfl, d, c, 1296000, rfl, by decide, by decide, st3, fun r2 H4 r20 r21 st4 k4 => ?_⟩
    refine ⟨_, rfl, _, rfl, by show 4 ≤ sizeLine; decide, fun l5 hl5 => ⟨d, c, l5, _, rfl, st4.same (same_new hl5), upd_same, by decide, by decide, fun z H5 hz st5 k5 => ?_⟩⟩
    obtain ⟨dd, rfl, hd0, hd1⟩ : ∃ dd : Int, z = .int dd ∧ 1 ≤ dd ∧ dd ≤ 60 := by
      simp only [List.mem_cons, List.mem_nil_iff, or_false] at hz
      rcases hz with rfl | rfl | rfl | rfl
      · exact ⟨_, rfl, by decide, by decide⟩
      · exact ⟨_, rfl, by decide, by decide⟩
      · exact ⟨_, rfl, by decide, by decide⟩
      · exact ⟨_, rfl, by decide, by decide⟩
    refine ⟨by show 4 ≤ sizeLine; decide, fun a2 ha2 => ⟨by show 2 ≤ sizeLine; decide, fun a ha => ?_⟩⟩
    have s6 := same_new (o := .tup [.str "turning", .int r2, .int (sg * (1 + r)), .int dd]) ha2
    have s7 := same_new (o := .tup [.str "wave", .ref a2]) ha
    exact q a a2 r2 (sg * (1 + r)) dd _ upd_same (s7 _ _ upd_same) hm hd0 (by omega) (st5.same (s6.trans s7)) ((((kk3.trans k4).trans (Keep.of (same_new hl5))).trans k5).trans (Keep.of (s6.trans s7)))
end
end Ta

set_option maxHeartbeats 4000000
/-! _law_angle, _law_quantity, _law_series. -/
namespace Ta
open PySem PySem.Spec PyProof.Rows L2
theorem iIn2 {r a b : Int} {A B : Prop} (h1 : r = a ∨ r = b → A) (h2 : r ≠ a → r ≠ b → B) : if (if (false : Bool) = true then !inV (.int r) [V.int a, V.int b] else inV (.int r) [V.int a, V.int b]) = true then A else B := by
  rw [if_neg (show ¬ (false : Bool) = true by decide)]
  have e : inV (.int r) [V.int a, V.int b] = (a == r || (b == r || false)) := rfl
  rw [e]
  by_cases ha : a = r
  · rw [beq_iff_eq.mpr ha]; exact iteT (h1 (.inl ha.symm))
  · by_cases hb : b = r
    · rw [beq_iff_eq.mpr hb, beq_eq_false_iff_ne.mpr ha]; exact iteT (h1 (.inr hb.symm))
    · rw [beq_eq_false_iff_ne.mpr ha, beq_eq_false_iff_ne.mpr hb]
      exact iteF (h2 (fun z => ha z.symm) fun z => hb z.symm)
section
variable {P : Program} {w : World} {K : PySem.W.Frag} {mg : Str → Option Value} {base : Heap} {C : Addr}
def spAng (m : Nat) : Sp := fun vs H Q _ => ∃ (d c : Addr) (deep : Int), vs = [.ref d, .int deep] ∧ deep = (m : Int) ∧ StAt H d c ∧ ∀ (x : V) (e : E) (H' : Hp), EAt H' e x → Ok (2 * m + 1) true e → StAt H' d c → Keep d H H' → Q x H'
def spQty (m : Nat) : Sp := fun vs H Q _ => ∃ (d c : Addr) (deep : Int), vs = [.ref d, .int deep] ∧ deep = (m : Int) ∧ StAt H d c ∧ ∀ (x : V) (e : E) (H' : Hp), EAt H' e x → Ok (2 * m + 2) false e → StAt H' d c → Keep d H H' → Q x H'
/-- the callables the builders lean on -/
structure Bld (P : Program) (w : World) (K : PySem.W.Frag) (mg : Str → Option Value) (base : Heap) : Prop where
  draw : Cal P w K mg base 1 "_law_draw" ["_law_state", "_law_bound"] spDraw
  pick : Cal P w K mg base 2 "_law_pick" ["_law_state", "_law_things"] spPick
  num : Cal P w K mg base 3 "_law_number" ["_law_state"] spNum
  div : Cal P w K mg base 3 "_law_divisor" ["_law_state"] spDiv
def tTurn : L2.TS := tSeq (tAsg (tOp (rI CMul fun i j => .int (i * j)) (tCall spPick [] E0 (tCons (tVar 0) (tCons (tLst (tCons (tUn (rU fun i => .int (-i)) (tC (.int 1))) (tCons (tC (.int 1)) tNil))) tNil)))
      (tCall spDraw [] E0 (tCons (tVar 0) (tCons (tCall spPick [] E0 (tCons (tVar 0) (tCons (tLst (tCons (tC (.int 9)) (tCons (tC (.int 1000)) (tCons (tC (.int 400000)) (tCons (tOp (rI CPow fun i j => .int (i ^ j.toNat)) (tC (.int 10)) (tC (.int 12))) tNil))))) tNil))) tNil)))) (gName 3))
    (tRet (tTup (tCons (tC (.str "turning")) (tCons (tCall spNum [] E0 (tCons (tVar 0) tNil)) (tCons (tVar 3) (tCons (tCall spPick [] E0 (tCons (tVar 0) (tCons (tLst (tCons (tC (.int 1)) (tCons (tC (.int 1)) (tCons (tC (.int 7)) (tCons (tC (.int 1000)) (tCons (tOp (rI CPow fun i j => .int (i ^ j.toNat)) (tC (.int 10)) (tC (.int 9))) tNil)))))) tNil))) tNil))))))
theorem rd_turn {d c : Addr} {y1 y2 y3 : Option V} {H : Hp} {D : Ends} (st : StAt H d c) (q : ∀ (x : V) (e : E) (H' : Hp), EAt H' e x → Ok 1 true e → StAt H' d c → Keep d H H' → D.rt x H') : tTurn D [some (.ref d), y1, y2, y3] H := by
  refine ⟨_, rfl, 1, rfl, by show 2 ≤ sizeLine; decide, fun l hl => ⟨d, c, l, _, rfl, st.same (same_new hl), upd_same, by decide, by decide, fun x H1 hx st1 k1 => ?_⟩⟩
  have k1' := (Keep.of (d := d) (same_new (o := .lst [V.int (-1), V.int 1]) hl)).trans k1
  obtain ⟨sg, rfl, hsg⟩ : ∃ sg : Int, x = .int sg ∧ (sg = -1 ∨ sg = 1) := by
    rcases List.mem_cons.mp hx with rfl | hx
    · exact ⟨_, rfl, .inl rfl⟩
    · obtain rfl := List.mem_singleton.mp hx
      exact ⟨_, rfl, .inr rfl⟩
  refine ⟨_, rfl, _, rfl, 10, 12, rfl, rfl, ⟨by decide, by decide, by decide⟩, by show 4 ≤ sizeLine; decide, fun l2 hl2 => ⟨d, c, l2, _, rfl, st1.same (same_new hl2), upd_same, by decide, by decide, fun y H2 hy st2 k2 => ?_⟩⟩
  obtain ⟨bd, rfl, hb0, hb1⟩ : ∃ bd : Int, y = .int bd ∧ 0 < bd ∧ bd ≤ 1000000000000 := by
    simp only [List.mem_cons, List.mem_nil_iff, or_false] at hy
    rcases hy with rfl | rfl | rfl | rfl
    · exact ⟨_, rfl, by decide, by decide⟩
    · exact ⟨_, rfl, by decide, by decide⟩
    · exact ⟨_, rfl, by decide, by decide⟩
    · exact ⟨_, rfl, by decide, by decide⟩
  refine ⟨d, c, bd, rfl, hb0, by omega, st2, fun r H3 r0 r1 st3 k3 => ?_⟩
  have hm := mul_pm hsg r0 (by omega)
  have kk3 := ((k1'.trans (Keep.of (same_new hl2))).trans k2).trans k3
  refine ⟨sg, r, rfl, rfl, cmul_l (by rcases hsg with rfl | rfl <;> decide) (by rcases hsg with rfl | rfl <;> decide), ?_⟩
  refine ⟨_, rfl, d, c, rfl, st3, fun n H4 n0 n1 st4 k4 => ?_⟩
  refine ⟨_, rfl, _, rfl, 10, 9, rfl, rfl, ⟨by decide, by decide, by decide⟩, by show 5 ≤ sizeLine; decide, fun l5 hl5 => ⟨d, c, l5, _, rfl, st4.same (same_new hl5), upd_same, by decide, by decide, fun z H5 hz st5 k5 => ?_⟩⟩
  obtain ⟨dd, rfl, hd0, hd1⟩ : ∃ dd : Int, z = .int dd ∧ 1 ≤ dd ∧ dd ≤ 1000000000000 := by
    simp only [List.mem_cons, List.mem_nil_iff, or_false] at hz
    rcases hz with rfl | rfl | rfl | rfl | rfl
    · exact ⟨_, rfl, by decide, by decide⟩
    · exact ⟨_, rfl, by decide, by decide⟩
    · exact ⟨_, rfl, by decide, by decide⟩
    · exact ⟨_, rfl, by decide, by decide⟩
    · exact ⟨_, rfl, by decide, by decide⟩
  refine ⟨by show 4 ≤ sizeLine; decide, fun a ha => ?_⟩
  have s6 := same_new (o := .tup [.str "turning", .int n, .int (sg * r), .int dd]) ha
  exact q (.ref a) (.turn n (sg * r) dd) _ ⟨a, rfl, upd_same⟩ ⟨hm, hd0, hd1⟩ (st5.same s6) ((((kk3.trans k4).trans (Keep.of (same_new hl5))).trans k5).trans (Keep.of s6))
theorem ok_ang0 {f : Addr} {fd : FuncData} (F : FnP K "_law_angle" "_law_angle" sLAngle f fd) (B : Bld P w K mg base) : FnOk P w K mg base CX0 4 f fd ["_law_state", "_law_deep"] (spAng 0) := by
  have cD := B.draw
  have cP := B.pick
  have cN := B.num
  refine FnP_ok F scLAngle (fun vs H Q E h => ?_) (fun cdv A outer s H vs Q E hr h => ?_)
  · obtain ⟨d, c, deep, rfl, _⟩ := h; rfl
  · obtain ⟨d, c, deep, rfl, rfl, st, q⟩ := h
    have nd := scLAngle.nd
    refine ⟨_, pss_cons (ps_set (i := 2) nd rfl (.inl rfl) (pe_ifExp (pt_cmpR op_gt (pv 1) pe_int (nomark _)) (pe_cl cD hr rfl (pa_cons (pv 0) (pa_cons pe_int pa_nil))) pe_int))
      (pss_cons (ps_if (t := tTurn) (pt_cmpR op_lt (pv 2) pe_int (nomark _))
        (pss_cons (ps_set (i := 3) nd rfl (.inl rfl) (pe_op op_mul (pe_cl cP hr rfl (pa_cons (pv 0) (pa_cons (pe_lst (pa_cons (pe_un un_neg pe_int) (pa_cons pe_int pa_nil))) pa_nil)))
          (pe_cl cD hr rfl (pa_cons (pv 0) (pa_cons (pe_cl cP hr rfl (pa_cons (pv 0) (pa_cons (pe_lst (pa_cons pe_int (pa_cons pe_int (pa_cons pe_int (pa_cons (pe_op op_pow pe_int pe_int) pa_nil))))) pa_nil))) pa_nil)))))
        (pss_one (ps_ret (pe_tup (pa_cons pe_str (pa_cons (pe_cl cN hr rfl (pa_cons (pv 0) pa_nil)) (pa_cons (pv 3) (pa_cons (pe_cl cP hr rfl (pa_cons (pv 0) (pa_cons (pe_lst (pa_cons pe_int (pa_cons pe_int (pa_cons pe_int (pa_cons pe_int (pa_cons (pe_op op_pow pe_int pe_int) pa_nil)))))) pa_nil))) pa_nil)))))))) pss_nil)
      pss_never), ?_⟩
    refine ⟨_, rfl, _, _, rfl, rfl, _, rfl, iD (fun z => absurd z (by decide)) (fun _ => ?_)⟩
    refine ⟨_, rfl, _, _, rfl, rfl, _, rfl, iD (fun _ => ?_) (fun z => absurd (by decide) z)⟩
    exact rd_turn st fun x e H' h1 h2 h3 h4 => q x e H' h1 h2 h3 h4
theorem ok_qty0 {f : Addr} {fd : FuncData} (F : FnP K "_law_quantity" "_law_quantity" sLQuantity f fd) (T : Txt mg) (B : Bld P w K mg base) (cA : Cal P w K mg base 4 "_law_angle" ["_law_state", "_law_deep"] (spAng 0)) : FnOk P w K mg base CX0 5 f fd ["_law_state", "_law_deep"] (spQty 0) := by
  have cD := B.draw
  have cN := B.num
  refine FnP_ok F scLQuantity (fun vs H Q E h => ?_) (fun cdv A outer s H vs Q E hr h => ?_)
  · obtain ⟨d, c, deep, rfl, _⟩ := h; rfl
  · obtain ⟨d, c, deep, rfl, rfl, st, q⟩ := h
    have nd := scLQuantity.nd
    refine ⟨_, pss_cons (ps_set (i := 2) nd rfl (.inl rfl) (pe_ifExp (pt_cmpR op_gt (pv 1) pe_int (nomark _)) (pe_cl cD hr rfl (pa_cons (pv 0) (pa_cons pe_int pa_nil))) (pe_op op_mul (pe_cl cD hr rfl (pa_cons (pv 0) (pa_cons pe_int pa_nil))) pe_int)))
      (pss_cons (ps_if (pt_cmpR op_eq (pv 2) pe_int (nomark _)) (pss_one (ps_ret (pe_tup (pa_cons pe_str (pa_cons (pe_cl cN hr rfl (pa_cons (pv 0) pa_nil)) pa_nil))))) pss_nil)
      (pss_cons (ps_if (pt_cmpR op_in_seq (pv 2) (pe_lst (pa_cons pe_int (pa_cons pe_int pa_nil))) rfl) (pss_one (ps_ret (pe_tup (pa_cons pe_str (pa_cons (pe_cl cA hr rfl (pa_cons (pv 0) (pa_cons (pe_callB (call_max2 rfl) (by rfl) T.max (by decide +kernel) (pa_cons pe_int (pa_cons (pe_op op_sub (pv 1) pe_int) pa_nil))) pa_nil))) pa_nil))))) pss_nil)
      pss_never)), ?_⟩
    refine ⟨_, rfl, _, _, rfl, rfl, _, rfl, iD (fun z => absurd z (by decide)) (fun _ => ?_)⟩
    refine ⟨_, rfl, d, c, 2, rfl, by decide, by decide, st, fun r H1 r0 r1 st1 k1 => ⟨r, 7, rfl, rfl, cmul_r (by decide) (by decide), ?_⟩⟩
    refine ⟨_, rfl, rfl, _, rfl, iI (fun z => ?_) (fun z => ?_)⟩
    · refine ⟨_, rfl, d, c, rfl, st1, fun n H2 n0 n1 st2 k2 => ⟨by show 2 ≤ sizeLine; decide, fun p hp => ?_⟩⟩
      exact q (.ref p) (.num n) _ ⟨p, rfl, upd_same⟩ ⟨n0, n1⟩ (st2.same (same_new hp)) ((k1.trans k2).trans (Keep.of (same_new hp)))
    · refine ⟨_, rfl, by show 2 ≤ sizeLine; decide, fun l hl => ⟨l, _, rfl, .inl (SqL.of upd_same), rfl, rfl, _, rfl, iIn2 (fun _ => ?_) (fun z1 z2 => absurd (show r * 7 = 7 by omega) z2)⟩⟩
      have s2 := same_new (o := .lst [V.int 1, V.int 7]) hl
      refine ⟨_, rfl, _, rfl, _, _, rfl, rfl, _, _, rfl, d, c, _, rfl, rfl, st1.same s2, fun x e H2 hE ho st2 k2 => ?_⟩
      refine ⟨by show 2 ≤ sizeLine; decide, fun p hp => ?_⟩
      exact q (.ref p) (.wave e) _ ⟨p, x, rfl, upd_same, hE.mono (TS.new hp)⟩ ho (st2.same (same_new hp)) (((k1.trans (Keep.of s2)).trans k2).trans (Keep.of (same_new hp)))
theorem ok_ang1 {f : Addr} {fd : FuncData} (F : FnP K "_law_angle" "_law_angle" sLAngle f fd) (B : Bld P w K mg base) (m : Nat) (cA : Cal P w K mg base (2 * m + 4) "_law_angle" ["_law_state", "_law_deep"] (spAng m)) (cQ : Cal P w K mg base (2 * m + 5) "_law_quantity" ["_law_state", "_law_deep"] (spQty m)) :
    FnOk P w K mg base CX0 (2 * m + 6) f fd ["_law_state", "_law_deep"] (spAng (m + 1)) := by
  have cD := B.draw
  have cP := B.pick
  have cN := B.num
  refine FnP_ok F scLAngle (fun vs H Q E h => ?_) (fun cdv A outer s H vs Q E hr h => ?_)
  · obtain ⟨d, c, deep, rfl, _⟩ := h; rfl
  · obtain ⟨d, c, deep, rfl, hdeep, st, q⟩ := h
    have nd := scLAngle.nd
    refine ⟨_, pss_cons (ps_set (i := 2) nd rfl (.inl rfl) (pe_ifExp (pt_cmpR op_gt (pv 1) pe_int (nomark _)) (pe_cl cD hr rfl (pa_cons (pv 0) (pa_cons pe_int pa_nil))) pe_int))
      (pss_cons (ps_if (t := tTurn) (pt_cmpR op_lt (pv 2) pe_int (nomark _))
        (pss_cons (ps_set (i := 3) nd rfl (.inl rfl) (pe_op op_mul (pe_cl cP hr rfl (pa_cons (pv 0) (pa_cons (pe_lst (pa_cons (pe_un un_neg pe_int) (pa_cons pe_int pa_nil))) pa_nil)))
          (pe_cl cD hr rfl (pa_cons (pv 0) (pa_cons (pe_cl cP hr rfl (pa_cons (pv 0) (pa_cons (pe_lst (pa_cons pe_int (pa_cons pe_int (pa_cons pe_int (pa_cons (pe_op op_pow pe_int pe_int) pa_nil))))) pa_nil))) pa_nil)))))
        (pss_one (ps_ret (pe_tup (pa_cons pe_str (pa_cons (pe_cl cN hr rfl (pa_cons (pv 0) pa_nil)) (pa_cons (pv 3) (pa_cons (pe_cl cP hr rfl (pa_cons (pv 0) (pa_cons (pe_lst (pa_cons pe_int (pa_cons pe_int (pa_cons pe_int (pa_cons pe_int (pa_cons (pe_op op_pow pe_int pe_int) pa_nil)))))) pa_nil))) pa_nil)))))))) pss_nil)
      (pss_cons (ps_if (pt_cmpR op_eq (pv 2) pe_int (nomark _)) (pss_one (ps_ret (pe_tup (pa_cons pe_str (pa_cons (pe_cl cA hr rfl (pa_cons (pv 0) (pa_cons (pe_op op_sub (pv 1) pe_int) pa_nil))) (pa_cons (pe_cl cQ hr rfl (pa_cons (pv 0) (pa_cons (pe_op op_sub (pv 1) pe_int) pa_nil))) pa_nil)))))) pss_nil)
      (pss_one (ps_ret (pe_tup (pa_cons pe_str (pa_cons (pe_cl cA hr rfl (pa_cons (pv 0) (pa_cons (pe_op op_sub (pv 1) pe_int) pa_nil))) (pa_cons (pe_cl cA hr rfl (pa_cons (pv 0) (pa_cons (pe_op op_sub (pv 1) pe_int) pa_nil))) pa_nil)))))))), ?_⟩
    refine ⟨_, rfl, _, _, rfl, rfl, _, rfl, iD (fun _ => ?_) (fun z => absurd (by omega) z)⟩
    refine ⟨_, rfl, d, c, 4, rfl, by decide, by decide, st, fun r H1 r0 r1 st1 k1 => ?_⟩
    refine ⟨_, rfl, _, _, rfl, rfl, _, rfl, iD (fun _ => ?_) (fun z => ?_)⟩
    · exact rd_turn st1 fun x e H' h1 h2 h3 h4 => q x e H' h1 (h2.mono (by omega)) h3 (k1.trans h4)
    · refine ⟨_, rfl, rfl, _, rfl, iI (fun z1 => ?_) (fun z1 => ?_)⟩
      · refine ⟨_, rfl, _, rfl, _, _, rfl, rfl, d, c, _, rfl, by omega, st1, fun x e H2 hE ho st2 k2 => ?_⟩
        refine ⟨_, rfl, _, rfl, _, _, rfl, rfl, d, c, _, rfl, by omega, st2, fun x2 e2 H3 hE2 ho2 st3 k3 => ?_⟩
        refine ⟨by show 3 ≤ sizeLine; decide, fun p hp => ?_⟩
        have t3 := k3.tsD st2
        exact q (.ref p) (.moved e e2) _ ⟨p, x, x2, rfl, upd_same, hE.mono (t3.trans (TS.new hp)), hE2.mono (TS.new hp)⟩ (show Ok (2 * m + 2 + 1) true (.moved e e2) from ⟨ho.mono (by omega), ho2⟩) (st3.same (same_new hp)) (((k1.trans k2).trans k3).trans (Keep.of (same_new hp)))
      · refine ⟨_, rfl, _, rfl, _, _, rfl, rfl, d, c, _, rfl, by omega, st1, fun x e H2 hE ho st2 k2 => ?_⟩
        refine ⟨_, rfl, _, rfl, _, _, rfl, rfl, d, c, _, rfl, by omega, st2, fun x2 e2 H3 hE2 ho2 st3 k3 => ?_⟩
        refine ⟨by show 3 ≤ sizeLine; decide, fun p hp => ?_⟩
        have t3 := k3.tsD st2
        exact q (.ref p) (.minus e e2) _ ⟨p, x, x2, rfl, upd_same, hE.mono (t3.trans (TS.new hp)), hE2.mono (TS.new hp)⟩ (show Ok (2 * m + 2 + 1) true (.minus e e2) from ⟨ho.mono (by omega), ho2.mono (by omega)⟩) (st3.same (same_new hp)) (((k1.trans k2).trans k3).trans (Keep.of (same_new hp)))
theorem ok_qty1 {f : Addr} {fd : FuncData} (F : FnP K "_law_quantity" "_law_quantity" sLQuantity f fd) (T : Txt mg) (B : Bld P w K mg base) (m : Nat) (cA : Cal P w K mg base (2 * m + 4) "_law_angle" ["_law_state", "_law_deep"] (spAng m)) (cQ : Cal P w K mg base (2 * m + 5) "_law_quantity" ["_law_state", "_law_deep"] (spQty m)) :
    FnOk P w K mg base CX0 (2 * m + 7) f fd ["_law_state", "_law_deep"] (spQty (m + 1)) := by
  have cD := B.draw
  have cN := B.num
  have cV := B.div
  refine FnP_ok F scLQuantity (fun vs H Q E h => ?_) (fun cdv A outer s H vs Q E hr h => ?_)
  · obtain ⟨d, c, deep, rfl, _⟩ := h; rfl
  · obtain ⟨d, c, deep, rfl, hdeep, st, q⟩ := h
    have nd := scLQuantity.nd
    refine ⟨_, pss_cons (ps_set (i := 2) nd rfl (.inl rfl) (pe_ifExp (pt_cmpR op_gt (pv 1) pe_int (nomark _)) (pe_cl cD hr rfl (pa_cons (pv 0) (pa_cons pe_int pa_nil))) (pe_op op_mul (pe_cl cD hr rfl (pa_cons (pv 0) (pa_cons pe_int pa_nil))) pe_int)))
      (pss_cons (ps_if (pt_cmpR op_eq (pv 2) pe_int (nomark _)) (pss_one (ps_ret (pe_tup (pa_cons pe_str (pa_cons (pe_cl cN hr rfl (pa_cons (pv 0) pa_nil)) pa_nil))))) pss_nil)
      (pss_cons (ps_if (pt_cmpR op_in_seq (pv 2) (pe_lst (pa_cons pe_int (pa_cons pe_int pa_nil))) rfl) (pss_one (ps_ret (pe_tup (pa_cons pe_str (pa_cons (pe_cl cA hr rfl (pa_cons (pv 0) (pa_cons (pe_callB (call_max2 rfl) (by rfl) T.max (by decide +kernel) (pa_cons pe_int (pa_cons (pe_op op_sub (pv 1) pe_int) pa_nil))) pa_nil))) pa_nil))))) pss_nil)
      (pss_cons (ps_if (pt_cmpR op_in_seq (pv 2) (pe_lst (pa_cons pe_int (pa_cons pe_int pa_nil))) rfl) (pss_one (ps_ret (pe_op op_catT (pe_tup (pa_cons pe_str pa_nil)) (pe_callTy call_tuple_of (by rfl) T.tuple (by decide +kernel) (pa_cons (pe_lc (own := [("_law_k", 3)]) (g := gName 3) (tt := tYes) (te := tCall (spQty m) [] E0 (tCons (tVar 0) (tCons (tOp (rI0 fun i j => .int (i - j)) (tVar 1) (tC (.int 1))) tNil))) rfl nd
          (pi_range1 (by rfl) T.range (pa_cons (pe_op op_add pe_int (pe_cl cD hr rfl (pa_cons (pv 0) (pa_cons pe_int pa_nil)))) pa_nil)) (blkOk_by (N := ["_law_state", "_law_deep", "_law_kind", "_law_k"]) (sc := defScope sLQuantity) (by decide +kernel)) (fun _ _ _ _ _ => pg_name (i := 3) nd rfl (Or.inl rfl))
          (fun _ _ _ _ _ => pts_nil) (fun _ _ _ _ _ => pe_cl cQ hr rfl (pa_cons (pv 0) (pa_cons (pe_op op_sub (pv 1) pe_int) pa_nil)))) pa_nil))))) pss_nil)
      (pss_cons (ps_if (pt_cmpR op_eq (pv 2) pe_int (nomark _)) (pss_one (ps_ret (pe_tup (pa_cons pe_str (pa_cons (pe_cl cQ hr rfl (pa_cons (pv 0) (pa_cons (pe_op op_sub (pv 1) pe_int) pa_nil))) (pa_cons (pe_cl cN hr rfl (pa_cons (pv 0) pa_nil)) (pa_cons (pe_cl cV hr rfl (pa_cons (pv 0) pa_nil)) pa_nil))))))) pss_nil)
      (pss_cons (ps_if (pt_cmpR op_eq (pv 2) pe_int (nomark _)) (pss_one (ps_ret (pe_tup (pa_cons pe_str (pa_cons (pe_cl cQ hr rfl (pa_cons (pv 0) (pa_cons (pe_op op_sub (pv 1) pe_int) pa_nil))) (pa_cons (pe_cl cQ hr rfl (pa_cons (pv 0) (pa_cons (pe_op op_sub (pv 1) pe_int) pa_nil))) (pa_cons (pe_cl cV hr rfl (pa_cons (pv 0) pa_nil)) pa_nil))))))) pss_nil)
      (pss_one (ps_ret (pe_tup (pa_cons pe_str (pa_cons (pe_cl cQ hr rfl (pa_cons (pv 0) (pa_cons (pe_op op_sub (pv 1) pe_int) pa_nil))) (pa_cons (pe_op op_sub (pe_cl cD hr rfl (pa_cons (pv 0) (pa_cons pe_int pa_nil))) pe_int) pa_nil))))))))))), ?_⟩
    refine ⟨_, rfl, _, _, rfl, rfl, _, rfl, iD (fun _ => ?_) (fun z => absurd (by omega) z)⟩
    refine ⟨_, rfl, d, c, 8, rfl, by decide, by decide, st, fun r H1 r0 r1 st1 k1 => ?_⟩
    refine ⟨_, rfl, rfl, _, rfl, iI (fun z => ?_) (fun z => ?_)⟩
    · refine ⟨_, rfl, d, c, rfl, st1, fun n H2 n0 n1 st2 k2 => ⟨by show 2 ≤ sizeLine; decide, fun p hp => ?_⟩⟩
      exact q (.ref p) (.num n) _ ⟨p, rfl, upd_same⟩ ⟨n0, n1⟩ (st2.same (same_new hp)) ((k1.trans k2).trans (Keep.of (same_new hp)))
    refine ⟨_, rfl, by show 2 ≤ sizeLine; decide, fun l hl => ⟨l, _, rfl, .inl (SqL.of upd_same), rfl, rfl, _, rfl, iIn2 (fun _ => ?_) (fun z1 z2 => ?_)⟩⟩
    · have s2 := same_new (o := .lst [V.int 1, V.int 7]) hl
      refine ⟨_, rfl, _, rfl, _, _, rfl, rfl, _, _, rfl, d, c, _, rfl, ?_, st1.same s2, fun x e H2 hE ho st2 k2 => ?_⟩
      · split <;> omega
      refine ⟨by show 2 ≤ sizeLine; decide, fun p hp => ?_⟩
      exact q (.ref p) (.wave e) _ ⟨p, x, rfl, upd_same, hE.mono (TS.new hp)⟩ (show Ok (2 * m + 3) true e from ho.mono (by omega)) (st2.same (same_new hp)) (((k1.trans (Keep.of s2)).trans k2).trans (Keep.of (same_new hp)))
    have s2 := same_new (o := .lst [V.int 1, V.int 7]) hl
    have st2 := st1.same s2
    have k2 := k1.trans (Keep.of (d := d) s2)
    refine ⟨_, rfl, by show 2 ≤ sizeLine; decide, fun l' hl' => ⟨l', _, rfl, .inl (SqL.of upd_same), rfl, rfl, _, rfl, iIn2 (fun _ => ?_) (fun z3 z4 => ?_)⟩⟩
    · have s3 := same_new (o := .lst [V.int 2, V.int 3]) hl'
      have st3 := st2.same s3
      have k3 := k2.trans (Keep.of (d := d) s3)
      refine ⟨by show 1 ≤ sizeLine; decide, fun p0 hp0 => ?_⟩
      have s4 := same_new (o := .tup [V.str "sum"]) hp0
      have st4 := st3.same s4
      have k4 := k3.trans (Keep.of (d := d) s4)
      refine ⟨_, rfl, d, c, 3, rfl, by decide, by decide, st4, fun r2 H5 r20 r21 st5 k5 => ⟨1, r2, rfl, rfl, 1 + r2, rfl, by omega, by omega, fun D hD => ?_⟩⟩
      have hp05 := k5.tup st4 (upd_same (H := upd (upd H1 l (.lst [V.int 1, V.int 7])) l' (.lst [V.int 2, V.int 3])) (a := p0) (o := .tup [V.str "sum"]))
      refine lc_range (lo := 0) (n := (1 + r2).toNat) (fun i Hc => StAt Hc d c ∧ Keep d H5 Hc ∧ ∃ us es, Hc D = some (.lst us) ∧ EAts Hc es us ∧ es.length = i ∧ ∀ e ∈ es, Ok (2 * m + 2) false e) ⟨st5.same (same_new hD), Keep.of (same_new hD), [], [], upd_same, rfl, rfl, fun _ z => nomatch z⟩ (fun i Hc hi hP => ?_) (fun Hc hP => ?_)
      · obtain ⟨stc, kc, us, es, hDc, hEs, hlen, hok⟩ := hP
        refine ⟨rfl, tYesI ?_⟩
        refine ⟨_, rfl, _, rfl, _, _, rfl, rfl, d, c, _, rfl, by omega, stc, fun x e Hd hE ho std kd => ?_⟩
        have hDd := kd.lst stc hDc
        have hul := hEs.length
        have nDd : D ≠ d := by
          obtain ⟨kvs, hdc⟩ := stc.dK
          exact ne_of hDc hdc (by intro z; cases z)
        have tsD := TS.lst (ys := us ++ [x]) hDd
        obtain ⟨ns, i', left, mix, h1, h2, h3⟩ := id std
        have ncD : c ≠ D := by
          obtain ⟨zs, hc5⟩ := st5.cell
          exact ne_of_none hc5 hD
        refine ⟨us, hDd, small1000 (by omega), ?_, ?_, us ++ [x], es ++ [e], upd_same, (hEs.mono ((kd.tsD stc).trans tsD)).snoc (hE.mono tsD), by rw [List.length_append, hlen]; rfl, fun e' he' => ?_⟩
        · exact ⟨ns, i', left, mix, by rw [upd_ne nDd.symm]; exact h1, by rw [upd_ne ncD]; exact h2, h3⟩
        · exact fun a o z n => by rw [upd_ne (ne_of_none z hD)]; exact kd a o (kc a o z n) n
        · rcases List.mem_append.mp he' with he' | he'
          · exact hok e' he'
          · obtain rfl := List.mem_singleton.mp he'; exact ho
      · obtain ⟨stc, kc, us, es, hDc, hEs, hlen, hok⟩ := hP
        have hul := hEs.length
        refine ⟨D, us, rfl, .inl ⟨SqL.of hDc, fun p2 hp2 => ?_⟩⟩
        have s6 := same_new (o := .tup us) hp2
        have hp0c := s6 _ _ (kc.tup st5 hp05)
        refine ⟨p0, p2, _, us, rfl, rfl, SqT.of hp0c, SqT.of upd_same, (by intro z; cases z), by show 1 + us.length ≤ sizeLine; exact Nat.le_of_lt (small1000 (by omega)), fun z => ?_, fun _ p3 hp3 => ?_⟩
        · rw [z] at hul; rw [List.length_nil] at hul; omega
        · have s7 := same_new (o := .tup ([V.str "sum"] ++ us)) hp3
          exact q (.ref p3) (.sum es) _ ⟨p3, us, rfl, upd_same, hEs.mono (s6.trans s7).ts⟩ (show Ok (2 * m + 3 + 1) false (.sum es) from ⟨by omega, by omega, fun e he => (hok e he).mono (by omega)⟩) ((stc.same s6).same s7) (((k4.trans k5).trans kc).trans ((Keep.of s6).trans (Keep.of s7)))
    have s3 := same_new (o := .lst [V.int 2, V.int 3]) hl'
    have st3 := st2.same s3
    have k3 := k2.trans (Keep.of (d := d) s3)
    refine ⟨_, rfl, rfl, _, rfl, iI (fun z5 => ?_) (fun z5 => ?_)⟩
    · refine ⟨_, rfl, _, rfl, _, _, rfl, rfl, d, c, _, rfl, by omega, st3, fun x e H4 hE ho st4 k4 => ?_⟩
      refine ⟨_, rfl, d, c, rfl, st4, fun n H5 n0 n1 st5 k5 => ?_⟩
      refine ⟨_, rfl, d, c, rfl, st5, fun dd H6 d0 d1 st6 k6 => ?_⟩
      refine ⟨by show 4 ≤ sizeLine; decide, fun p hp => ?_⟩
      exact q (.ref p) (.share e n dd) _ ⟨p, x, rfl, upd_same, hE.mono (((k5.tsD st4).trans (k6.tsD st5)).trans (TS.new hp))⟩ (show Ok (2 * m + 3 + 1) false (.share e n dd) from ⟨ho.mono (by omega), ⟨n0, n1⟩, d0, d1⟩) (st6.same (same_new hp)) ((((k3.trans k4).trans k5).trans k6).trans (Keep.of (same_new hp)))
    refine ⟨_, rfl, rfl, _, rfl, iI (fun z6 => ?_) (fun z6 => ?_)⟩
    · refine ⟨_, rfl, _, rfl, _, _, rfl, rfl, d, c, _, rfl, by omega, st3, fun x e H4 hE ho st4 k4 => ?_⟩
      refine ⟨_, rfl, _, rfl, _, _, rfl, rfl, d, c, _, rfl, by omega, st4, fun x2 e2 H5 hE2 ho2 st5 k5 => ?_⟩
      refine ⟨_, rfl, d, c, rfl, st5, fun dd H6 d0 d1 st6 k6 => ?_⟩
      refine ⟨by show 4 ≤ sizeLine; decide, fun p hp => ?_⟩
      exact q (.ref p) (.prod e e2 dd) _ ⟨p, x, x2, rfl, upd_same, hE.mono (((k5.tsD st4).trans (k6.tsD st5)).trans (TS.new hp)), hE2.mono ((k6.tsD st5).trans (TS.new hp))⟩ (show Ok (2 * m + 3 + 1) false (.prod e e2 dd) from ⟨ho.mono (by omega), ho2.mono (by omega), d0, d1⟩) (st6.same (same_new hp)) ((((k3.trans k4).trans k5).trans k6).trans (Keep.of (same_new hp)))
    · refine ⟨_, rfl, _, rfl, _, _, rfl, rfl, d, c, _, rfl, by omega, st3, fun x e H4 hE ho st4 k4 => ?_⟩
      refine ⟨_, rfl, d, c, 2001, rfl, by decide, by decide, st4, fun r5 H5 r50 r51 st5 k5 => ⟨r5, 1000, rfl, rfl, ?_⟩⟩
      refine ⟨by show 3 ≤ sizeLine; decide, fun p hp => ?_⟩
      exact q (.ref p) (.later e (r5 - 1000)) _ ⟨p, x, rfl, upd_same, hE.mono ((k5.tsD st4).trans (TS.new hp))⟩ (show Ok (2 * m + 3 + 1) false (.later e (r5 - 1000)) from ho.mono (by omega)) (st5.same (same_new hp)) (((k3.trans k4).trans k5).trans (Keep.of (same_new hp)))
theorem ok_aq {fA fQ : Addr} {fdA fdQ : FuncData} (DA : Dn K mg "_law_angle" sLAngle ["_law_state", "_law_deep"] fA fdA) (DQ : Dn K mg "_law_quantity" sLQuantity ["_law_state", "_law_deep"] fQ fdQ) (T : Txt mg) (B : Bld P w K mg base) :
    ∀ m, Cal P w K mg base (2 * m + 4) "_law_angle" ["_law_state", "_law_deep"] (spAng m) ∧ Cal P w K mg base (2 * m + 5) "_law_quantity" ["_law_state", "_law_deep"] (spQty m)
  | 0 => by
    have a := DA.cal (ok_ang0 DA.F B)
    exact ⟨a, DQ.cal (ok_qty0 DQ.F T B a)⟩
  | m + 1 => by
    obtain ⟨a, b⟩ := ok_aq DA DQ T B m
    exact ⟨DA.cal (ok_ang1 DA.F B m a b), DQ.cal (ok_qty1 DQ.F T B m a b)⟩
end
end Ta

set_option maxHeartbeats 4000000
/-! _law_series. -/
namespace Ta
open PySem PySem.Spec PyProof.Rows L2
section
variable {P : Program} {w : World} {K : PySem.W.Frag} {mg : Str → Option Value} {base : Heap} {C : Addr}
def spSer : Sp := fun vs H Q _ => ∃ (d c : Addr), vs = [.ref d] ∧ StAt H d c ∧ ∀ (x : V) (e : E) (H' : Hp), EAt H' e x → Ok 8 false e → StAt H' d c → Keep d H H' → Q x H'
/-- a list that grows, apart from the state -/
theorem StAt.put {H : Hp} {d c l : Addr} {o : HO} (h : StAt H d c) (h1 : d ≠ l) (h2 : c ≠ l) : StAt (upd H l o) d c := by
  obtain ⟨ns, i, left, mix, g1, g2, g3⟩ := h
  exact ⟨ns, i, left, mix, by rw [upd_ne h1]; exact g1, by rw [upd_ne h2]; exact g2, g3⟩
theorem ok_series {f : Addr} {fd : FuncData} (F : FnP K "_law_series" "_law_series" sLSeries f fd) (T : Txt mg) (B : Bld P w K mg base) (cW : Cal P w K mg base 3 "_law_wave_part" ["_law_state"] spWP) : FnOk P w K mg base CX0 4 f fd ["_law_state"] spSer := by
  have cD := B.draw
  have cP := B.pick
  refine FnP_ok F scLSeries (fun vs H Q XE h => ?_) (fun cdv A outer s H vs Q XE hr h => ?_)
  · obtain ⟨d, c, rfl, _⟩ := h; rfl
  · obtain ⟨d, c, rfl, st, q⟩ := h
    have nd := scLSeries.nd
    refine ⟨_, pss_cons (ps_set (i := 1) nd rfl (.inl rfl) (pe_lst pa_nil))
      (pss_cons (ps_for PassesOwn.never rfl (pi_range1 (by rfl) T.range (pa_cons (pe_op op_add pe_int (pe_cl cD hr rfl (pa_cons (pv 0) (pa_cons pe_int pa_nil)))) pa_nil)) (pg_name (i := 2) nd rfl (.inl rfl))
        (pss_cons (ps_set (i := 3) nd rfl (.inl rfl) (pe_cl cW hr rfl (pa_cons (pv 0) pa_nil)))
        (pss_cons (ps_set (i := 4) nd rfl (.inl rfl) (pe_cl cD hr rfl (pa_cons (pv 0) (pa_cons pe_int pa_nil))))
        (pss_cons (ps_if (pt_cmpR op_eq (pv 4) pe_int (nomark _)) (pss_one (ps_set (i := 3) nd rfl (.inl rfl) (pe_tup (pa_cons pe_str (pa_cons (pv 3) (pa_cons (pe_cl cW hr rfl (pa_cons (pv 0) pa_nil)) (pa_cons pe_int pa_nil))))))) pss_nil)
        (pss_cons (ps_if (pt_cmpR op_eq (pv 4) pe_int (nomark _)) (pss_one (ps_set (i := 3) nd rfl (.inl rfl) (pe_tup (pa_cons pe_str (pa_cons (pv 3) (pa_cons (pe_op op_sub (pe_cl cD hr rfl (pa_cons (pv 0) (pa_cons pe_int pa_nil))) pe_int) (pa_cons pe_int pa_nil))))))) pss_nil)
        (pss_cons (ps_if (pt_cmpR op_eq (pv 4) pe_int (nomark _)) (pss_one (ps_set (i := 3) nd rfl (.inl rfl) (pe_tup (pa_cons pe_str (pa_cons (pe_tup (pa_cons pe_str (pa_cons (ix (pv 3) pe_int) (pa_cons (pe_tup (pa_cons pe_str (pa_cons (pe_cl cW hr rfl (pa_cons (pv 0) pa_nil)) (pa_cons (pe_cl cD hr rfl (pa_cons (pv 0) (pa_cons pe_int pa_nil))) (pa_cons pe_int pa_nil))))) pa_nil)))) pa_nil))))) pss_nil)
        (pss_one (ps_expr (pe_bm PySem.F.plainAttrs_list PySem.F.slot_list_append PySem.F.type_list_append mt_append (pv 1) (pa_cons (pv 3) pa_nil))))))))))
      (pss_cons (ps_expr (pe_bm PySem.F.plainAttrs_list PySem.F.slot_list_append PySem.F.type_list_append mt_append (pv 1) (pa_cons (pe_tup (pa_cons pe_str (pa_cons (pe_cl cP hr rfl (pa_cons (pv 0) (pa_cons (pe_lst (pa_cons pe_int (pa_cons pe_int (pa_cons pe_int (pa_cons (pe_un un_neg pe_int) (pa_cons (pe_op op_sub (pe_cl cD hr rfl (pa_cons (pv 0) (pa_cons pe_int pa_nil))) pe_int) pa_nil)))))) pa_nil))) pa_nil))) pa_nil)))
      (pss_one (ps_ret (pe_op op_catT (pe_tup (pa_cons pe_str pa_nil)) (pe_callTy call_tuple_of (by rfl) T.tuple (by decide +kernel) (pa_cons (pv 1) pa_nil))))))), ?_⟩
    refine ⟨Nat.zero_le _, fun l hl => ?_⟩
    have st0 := st.same (same_new (o := .lst []) hl)
    have ncl : c ≠ l := by obtain ⟨zs, hc⟩ := st.cell; exact ne_of_none hc hl
    have ndl : d ≠ l := by obtain ⟨zs, hd⟩ := st.dK; exact ne_of_none hd hl
    refine ⟨_, rfl, d, c, 3, rfl, by decide, by decide, st0, fun r H1 r0 r1 st1 k1 => ⟨1, r, rfl, rfl, 1 + r, rfl, by omega, by omega, ?_⟩⟩
    have k01 : Keep d H H1 := (Keep.of (same_new (o := .lst []) hl)).trans k1
    refine for_range (lo := 0) (n := (1 + r).toNat) (fun i σ H2 => ∃ (y2 y3 y4 : Option V) (us : List V) (es : List E), σ = [some (.ref d), some (.ref l), y2, y3, y4] ∧ StAt H2 d c ∧ Keep d H H2 ∧ H2 l = some (.lst us) ∧ EAts H2 es us ∧ es.length = i ∧ ∀ e ∈ es, Ok 5 false e)
      ⟨none, none, none, [], [], rfl, st1, k01, k1.lst st0 upd_same, rfl, rfl, fun _ z => nomatch z⟩ (fun i σ H2 hi hP => ?_) (fun σ H2 hP => ?_)
    · obtain ⟨y2, y3, y4, us, es, rfl, st2, k2, hl2, hEs, hlen, hok⟩ := hP
      have app : ∀ (y2 y4 : Option V) (x : V) (e : E) (H3 : Hp), EAt H3 e x → Ok 5 false e → StAt H3 d c → Keep d H2 H3 →
          tDrop (tBM K "list" rAppend (tVar 1) (tCons (tVar 3) tNil)) { nx := fun σ H2 => ∃ (y2 y3 y4 : Option V) (us : List V) (es : List E), σ = [some (.ref d), some (.ref l), y2, y3, y4] ∧ StAt H2 d c ∧ Keep d H H2 ∧ H2 l = some (.lst us) ∧ EAts H2 es us ∧ es.length = i + 1 ∧ ∀ e ∈ es, Ok 5 false e, rt := Q }
            [some (.ref d), some (.ref l), y2, some x, y4] H3 := by
        intro y2 y4 x e H3 hE ho st3 k3
        have hl3 := k3.lst st2 hl2
        have hul := hEs.length
        have tsl := TS.lst (ys := us ++ [x]) hl3
        refine ⟨_, rfl, .inl ⟨rfl, _, SqL.of hl3⟩, _, rfl, l, us, x, rfl, rfl, hl3, small1000 (by omega), y2, _, y4, us ++ [x], es ++ [e], rfl, st3.put ndl ncl, fun a o z n => ?_, upd_same, (hEs.mono ((k3.tsD st2).trans tsl)).snoc (hE.mono tsl), by rw [List.length_append, hlen]; rfl, fun e' he' => ?_⟩
        · rw [upd_ne (ne_of_none z hl)]; exact k3 a o (k2 a o z n) n
        · rcases List.mem_append.mp he' with he' | he'
          · exact hok e' he'
          · obtain rfl := List.mem_singleton.mp he'; exact ho
      refine ⟨_, rfl, d, c, rfl, st2, fun a a2 s m dd H3 ha ha2 hm hd0 hd1 st3 k3 => ?_⟩
      refine ⟨_, rfl, d, c, 4, rfl, by decide, by decide, st3, fun kd H4 kd0 kd1 st4 k4 => ?_⟩
      have k34 := k3.trans k4
      have ha4 := k4.tup st3 ha
      have ha24 := k4.tup st3 ha2
      have hEw : EAt H4 (.wave (.turn s m dd)) (.ref a) := ⟨a, .ref a2, rfl, ha4, a2, rfl, ha24⟩
      have hok1 : Ok 1 true (.turn s m dd) := ⟨hm, hd0, hd1⟩
      have hokw : Ok 2 false (.wave (.turn s m dd)) := hok1
      refine ⟨_, rfl, rfl, _, rfl, iI (fun z => ?_) (fun z => ?_)⟩
      · refine ⟨_, rfl, _, rfl, d, c, rfl, st4, fun b b2 s' m' dd' H5 hb hb2 hm' hd0' hd1' st5 k5 => ⟨by show 4 ≤ sizeLine; decide, fun p hp => ?_⟩⟩
        have hE5 := hEw.mono (k5.tsD st4)
        have hEb : EAt H5 (.wave (.turn s' m' dd')) (.ref b) := ⟨b, .ref b2, rfl, hb, b2, rfl, hb2⟩
        refine ⟨_, rfl, rfl, _, rfl, iI (fun z1 => absurd (z.symm.trans z1) (by decide)) (fun _ => ?_)⟩
        refine ⟨_, rfl, rfl, _, rfl, iI (fun z1 => absurd (z.symm.trans z1) (by decide)) (fun _ => ?_)⟩
        exact app _ _ (.ref p) (.prod (.wave (.turn s m dd)) (.wave (.turn s' m' dd')) 1000000) _ ⟨p, .ref a, .ref b, rfl, upd_same, hE5.mono (TS.new hp), hEb.mono (TS.new hp)⟩
          (show Ok 5 false (.prod (.wave (.turn s m dd)) (.wave (.turn s' m' dd')) 1000000) from ⟨hokw.mono (by decide), (show Ok 2 false (.wave (.turn s' m' dd')) from ⟨hm', hd0', hd1'⟩).mono (by decide), by decide, by decide⟩) (st5.same (same_new hp)) ((k34.trans k5).trans (Keep.of (same_new hp)))
      refine ⟨_, rfl, rfl, _, rfl, iI (fun z1 => ?_) (fun z1 => ?_)⟩
      · refine ⟨_, rfl, _, rfl, d, c, 4001, rfl, by decide, by decide, st4, fun r5 H5 r50 r51 st5 k5 => ⟨r5, 2000, rfl, rfl, by show 4 ≤ sizeLine; decide, fun p hp => ?_⟩⟩
        have hE5 := hEw.mono (k5.tsD st4)
        refine ⟨_, rfl, rfl, _, rfl, iI (fun z2 => absurd (z1.symm.trans z2) (by decide)) (fun _ => ?_)⟩
        exact app _ _ (.ref p) (.share (.wave (.turn s m dd)) (r5 - 2000) 1000) _ ⟨p, .ref a, rfl, upd_same, hE5.mono (TS.new hp)⟩
          (show Ok 5 false (.share (.wave (.turn s m dd)) (r5 - 2000) 1000) from ⟨hokw.mono (by decide), ⟨by omega, by omega⟩, by decide, by decide⟩) (st5.same (same_new hp)) ((k34.trans k5).trans (Keep.of (same_new hp)))
      refine ⟨_, rfl, rfl, _, rfl, iI (fun z2 => ?_) (fun z2 => ?_)⟩
      · refine ⟨_, rfl, a, _, 1, _, rfl, rfl, SqT.of ha4, atI_nat (j := 1) rfl, ?_⟩
        refine ⟨_, rfl, d, c, rfl, st4, fun b b2 s' m' dd' H5 hb hb2 hm' hd0' hd1' st5 k5 => ?_⟩
        refine ⟨_, rfl, d, c, 40000, rfl, by decide, by decide, st5, fun r6 H6 r60 r61 st6 k6 => ⟨by show 4 ≤ sizeLine; decide, fun p1 hp1 => ⟨by show 3 ≤ sizeLine; decide, fun p2 hp2 => ⟨by show 2 ≤ sizeLine; decide, fun p3 hp3 => ?_⟩⟩⟩⟩
        have hb6 := k6.tup st5 hb
        have hb26 := k6.tup st5 hb2
        have ha26 := k6.tup st5 (k5.tup st4 ha24)
        have s1 := same_new (o := .tup [.str "share", .ref b, .int r6, .int 1000000]) hp1
        have s2 := same_new (o := .tup [.str "moved", .ref a2, .ref p1]) hp2
        have s3 := same_new (o := .tup [.str "wave", .ref p2]) hp3
        have s23 := s2.trans s3
        have s13 := s1.trans s23
        refine app _ _ (.ref p3) (.wave (.moved (.turn s m dd) (.share (.wave (.turn s' m' dd')) r6 1000000))) _
          ⟨p3, .ref p2, rfl, upd_same, p2, .ref a2, .ref p1, rfl, s3 _ _ upd_same, ⟨a2, rfl, s13 _ _ ha26⟩, p1, .ref b, rfl, s23 _ _ upd_same, b, .ref b2, rfl, s13 _ _ hb6, b2, rfl, s13 _ _ hb26⟩ ?_ (st6.same s13) (((k34.trans k5).trans k6).trans (Keep.of s13))
        exact show Ok 4 true (.moved (.turn s m dd) (.share (.wave (.turn s' m' dd')) r6 1000000)) from ⟨hok1.mono (by decide), show Ok 3 false (.share (.wave (.turn s' m' dd')) r6 1000000) from ⟨⟨hm', hd0', hd1'⟩, ⟨by omega, by omega⟩, by decide, by decide⟩⟩
      · exact app _ _ (.ref a) _ H4 hEw (hokw.mono (by omega)) st4 k34
    · obtain ⟨y2, y3, y4, us, es, rfl, st2, k2, hl2, hEs, hlen, hok⟩ := hP
      have hul := hEs.length
      refine ⟨_, rfl, .inl ⟨rfl, _, SqL.of hl2⟩, ?_⟩
      refine ⟨_, rfl, 1, rfl, _, rfl, d, c, 2000001, rfl, by decide, by decide, st2, fun r3 H3 r30 r31 st3 k3 => ⟨r3, 1000000, rfl, rfl, by show 5 ≤ sizeLine; decide, fun l4 hl4 => ⟨d, c, l4, _, rfl, st3.same (same_new hl4), upd_same, by show 0 < 5; decide, by show 5 ≤ 1000; decide, fun x H5 hx st5 k5 => ?_⟩⟩⟩
      obtain ⟨n, rfl, hn0, hn1⟩ : ∃ n : Int, x = .int n ∧ -1000000000000 ≤ n ∧ n ≤ 1000000000000 := by
        simp only [List.mem_cons, List.mem_nil_iff, or_false] at hx
        rcases hx with rfl | rfl | rfl | rfl | rfl
        · exact ⟨_, rfl, by decide, by decide⟩
        · exact ⟨_, rfl, by decide, by decide⟩
        · exact ⟨_, rfl, by decide, by decide⟩
        · exact ⟨_, rfl, by decide, by decide⟩
        · exact ⟨_, rfl, by omega, by omega⟩
      refine ⟨by show 2 ≤ sizeLine; decide, fun p6 hp6 => ?_⟩
      have s4 := same_new (o := .lst [V.int 0, V.int 0, V.int 1, V.int (-1), V.int (r3 - 1000000)]) hl4
      have s6 := same_new (o := .tup [.str "number", .int n]) hp6
      have k26 : Keep d H2 (upd H5 p6 (.tup [.str "number", .int n])) := ((k3.trans (Keep.of s4)).trans k5).trans (Keep.of s6)
      have st6 := st5.same s6
      have hl6 := k26.lst st2 hl2
      refine ⟨l, us, _, rfl, rfl, hl6, small1000 (by omega), ?_⟩
      have tsl := TS.lst (ys := us ++ [V.ref p6]) hl6
      have hEn : EAt (upd (upd H5 p6 (.tup [.str "number", .int n])) l (.lst (us ++ [.ref p6]))) (.num n) (.ref p6) := ⟨p6, rfl, tsl _ _ upd_same⟩
      have hEs7 := (hEs.mono ((k26.tsD st2).trans tsl)).snoc hEn
      have st7 := st6.put (o := .lst (us ++ [.ref p6])) ndl ncl
      refine ⟨by show 1 ≤ sizeLine; decide, fun p8 hp8 => ?_⟩
      have s8 := same_new (o := .tup [V.str "sum"]) hp8
      refine ⟨_, rfl, l, us ++ [.ref p6], rfl, .inl ⟨SqL.of (s8 _ _ upd_same), fun p9 hp9 => ?_⟩⟩
      have s9 := same_new (o := .tup (us ++ [V.ref p6])) hp9
      refine ⟨p8, p9, _, _, rfl, rfl, SqT.of (s9 _ _ upd_same), SqT.of upd_same, (by intro z; cases z), by show 1 + (us ++ [V.ref p6]).length ≤ sizeLine; rw [List.length_append]; exact Nat.le_of_lt (small1000 (by show 1 + (us.length + 1) ≤ 1000; omega)), fun z => ?_, fun _ p10 hp10 => ?_⟩
      · cases us with
        | nil => cases z
        | cons _ _ => cases z
      · have s10 := same_new (o := .tup ([V.str "sum"] ++ (us ++ [V.ref p6]))) hp10
        have s810 := (s8.trans s9).trans s10
        refine q (.ref p10) (.sum (es ++ [.num n])) _ ⟨p10, us ++ [.ref p6], rfl, upd_same, hEs7.mono s810.ts⟩ ?_ (st7.same s810) ?_
        · refine show Ok 8 false (.sum (es ++ [.num n])) from ⟨by rw [List.length_append]; show 1 ≤ es.length + 1; omega, by rw [List.length_append]; show es.length + 1 ≤ 4; omega, fun e he => ?_⟩
          rcases List.mem_append.mp he with he | he
          · exact (hok e he).mono (by decide)
          · obtain rfl := List.mem_singleton.mp he
            exact ⟨hn0, hn1⟩
        · refine Keep.trans (fun a o z n' => ?_) (Keep.of s810)
          rw [upd_ne (ne_of_none z hl)]
          exact k26 a o (k2 a o z n') n'
end
end Ta

set_option maxHeartbeats 8000000
/-! The law. -/
namespace Ta
open PySem PySem.Spec PyProof.Rows L2
def dC (c : Chg) : PyData := .tuple [.int c.1, .str (sideS c.2)]
def dP (c : Int × Int) : PyData := .tuple [.int c.1, .int c.2]
theorem side_ok (b : Bool) : PyData.canLay0 (.str (sideS b)) = true := by cases b <;> decide +kernel
theorem dC_ok (c : Chg) : (dC c).canLay0 = true ∧ (dC c).depth ≤ 1 := by
  constructor
  · have := side_ok c.2
    simp only [dC, PyData.canLay0, PyData.canLayAll0] at this ⊢
    rw [this]; rfl
  · show max 0 (max 0 0) + 1 ≤ 1; decide
theorem dP_ok (c : Int × Int) : (dP c).canLay0 = true ∧ (dP c).depth ≤ 1 := ⟨rfl, by show max 0 (max 0 0) + 1 ≤ 1; decide⟩
theorem all_ok {α : Type} {f : α → PyData} (h : ∀ x, (f x).canLay0 = true ∧ (f x).depth ≤ 1) : ∀ xs : List α, PyData.canLayAll0 (xs.map f) = true ∧ PyData.depthAll (xs.map f) ≤ 1
  | [] => ⟨rfl, by show 0 ≤ 1; decide⟩
  | x :: xs => by
    obtain ⟨a, b⟩ := all_ok h xs
    obtain ⟨c, d⟩ := h x
    constructor
    · show (PyData.canLay0 (f x) && PyData.canLayAll0 (xs.map f)) = true
      rw [a, c]; rfl
    · show max (PyData.depth (f x)) (PyData.depthAll (xs.map f)) ≤ 1
      omega
theorem list_shaped {α : Type} {f : α → PyData} (h : ∀ x, (f x).canLay0 = true ∧ (f x).depth ≤ 1) (xs : List α) : SeqAt.shaped (.list (xs.map f)) = true := by
  obtain ⟨a, b⟩ := all_ok h xs
  unfold SeqAt.shaped
  rw [Bool.and_eq_true]
  exact ⟨a, decide_eq_true (by show PyData.depthAll (xs.map f) + 1 ≤ 64; omega)⟩
theorem one_shaped {d : PyData} (h : d.canLay0 = true ∧ d.depth ≤ 1) : SeqAt.shaped d = true := by
  unfold SeqAt.shaped
  rw [Bool.and_eq_true]
  exact ⟨h.1, decide_eq_true (by omega)⟩
theorem shaped_refl {d : PyData} (h : SeqAt.shaped d = true) : PyData.eqv d d = true := SeqAt.eqv_refl d (SeqAt.canLay_of_shaped h)
theorem dp_chg {K : PySem.W.Frag} {H : Hp} {x : V} {c : Chg} (h : ChgAt H x c) : Dp K H x (dC c) := by
  obtain ⟨a, rfl, h⟩ := h
  exact .tup (SqT.of h) (.cons (.int _) (.cons (.str _) .nil))
theorem dp_pair {K : PySem.W.Frag} {H : Hp} {x : V} {c : Int × Int} (h : PairAt H x c) : Dp K H x (dP c) := by
  obtain ⟨a, rfl, h⟩ := h
  exact .tup (SqT.of h) (.cons (.int _) (.cons (.int _) .nil))
theorem dp_all {K : PySem.W.Frag} {H : Hp} {α : Type} {R : V → α → Prop} {f : α → PyData} (h : ∀ x c, R x c → Dp K H x (f c)) : ∀ {xs : List V} {cs : List α}, All2 R xs cs → DpAll K H xs (cs.map f)
  | [], cs, q => by rw [show cs = [] from q]; exact .nil
  | x :: xs, cs, q => by obtain ⟨y, r, rfl, a, b⟩ := q; exact .cons (h _ _ a) (dp_all h b)
theorem dp_chgs {K : PySem.W.Frag} {H : Hp} {l : Addr} {xs : List V} {cs : List Chg} (hl : H l = some (.lst xs)) (h : All2 (ChgAt H) xs cs) : Dp K H (.ref l) (.list (cs.map dC)) := .lst (SqL.of hl) (dp_all (fun _ _ q => dp_chg q) h)
theorem dp_pairs {K : PySem.W.Frag} {H : Hp} {l : Addr} {xs : List V} {cs : List (Int × Int)} (hl : H l = some (.lst xs)) (h : All2 (PairAt H) xs cs) : Dp K H (.ref l) (.list (cs.map dP)) := .lst (SqL.of hl) (dp_all (fun _ _ q => dp_pair q) h)
/-- != of the same data, == of the same data -/
theorem rd_ne {K : PySem.W.Frag} {H : Hp} {x y : V} {d : PyData} {Q : VK} (hx : Dp K H x d) (hy : Dp K H y d) (s : SeqAt.shaped d = true) (q : Q (.bl false) H) : rNeD K x y H Q := ⟨d, d, hx, hy, s, s, by rw [shaped_refl s]; exact q⟩
theorem rd_eq {K : PySem.W.Frag} {H : Hp} {x y : V} {d : PyData} {Q : VK} (hx : Dp K H x d) (hy : Dp K H y d) (s : SeqAt.shaped d = true) (q : Q (.bl true) H) : rEqD K x y H Q := ⟨d, d, hx, hy, s, s, by rw [shaped_refl s]; exact q⟩
section
variable {P : Program} {w : World} {K : PySem.W.Frag} {mg : Str → Option Value} {base : Heap} {C : Addr}
/-- what the law calls -/
structure LawC (P : Program) (w : World) (K : PySem.W.Frag) (mg : Str → Option Value) (base : Heap) : Prop where
  start : Cal P w K mg base 1 "_law_start" ["_law_script"] (spStart K)
  draw : Cal P w K mg base 1 "_law_draw" ["_law_state", "_law_bound"] spDraw
  pick : Cal P w K mg base 2 "_law_pick" ["_law_state", "_law_things"] spPick
  series : Cal P w K mg base 4 "_law_series" ["_law_state"] spSer
  qty : Cal P w K mg base 11 "_law_quantity" ["_law_state", "_law_deep"] (spQty 3)
  lchg : Cal P w K mg base 12 "_law_changes" ["_law_q", "_law_start_here", "_law_end"] (spLChg 8)
  chg : Cal P w K mg base 23 "changes" ["q", "start", "end"] (spChg 8)
  paper : Cal P w K mg base 23 "paper" ["q", "start", "end"] (spPaper 8)
  llon : Cal P w K mg base 13 "_law_longest" ["_law_q", "_law_t", "_law_room"] (spLL 8)
  chgof : Cal P w K mg base 12 "changes_of" ["q", "cells"] (spChgOf 8)
  takes : Cal P w K mg base 23 "takes" ["q", "start", "end", "cells"] (spTakes 8)
  lis : Cal P w K mg base 1 "_law_is" ["_law_actual", "_law_due"] spIs
/-- the quantity, in either way -/
theorem rd_q {σ : L2.St} {H : Hp} {d c : Addr} {Q : VK} (h0 : σ[1]? = some (some (.ref d))) (st : StAt H d c) (q : ∀ (x : V) (e : E) (H1 : Hp), EAt H1 e x → Ok 8 false e → StAt H1 d c → Q x H1) :
    tIf (tTest (tOp (rI0 fun i j => .bl (decide (j < i))) (tCall spDraw [] E0 (tCons (tVar 1) (tCons (tC (.int 4)) tNil))) (tC (.int 0)))) (tCall spSer [] E0 (tCons (tVar 1) tNil)) (tCall (spQty 3) [] E0 (tCons (tVar 1) (tCons (tC (.int 3)) tNil))) σ H Q := by
  refine ⟨_, h0, d, c, 4, rfl, by decide, by decide, st, fun r H1 r0 r1 st1 k1 => ⟨r, 0, rfl, rfl, _, rfl, iD (fun _ => ?_) (fun _ => ?_)⟩⟩
  · exact ⟨_, h0, d, c, rfl, st1, fun x e H2 hE ho st2 k2 => q x e H2 hE ho st2⟩
  · exact ⟨_, h0, d, c, 3, rfl, rfl, st1, fun x e H2 hE ho st2 k2 => q x e H2 hE ho st2⟩
def spLaw (K : PySem.W.Frag) : Sp := fun vs H Q _ => ∃ (a : Addr) (ns : List Int), vs = [.ref a] ∧ SqL K H a (ns.map V.int) ∧ ns.length ≤ 63 ∧ ∀ H', Q (.bl true) H'
theorem ok_law {f : Addr} {fd : FuncData} (F : FnP K "law" "law" sLaw f fd) (T : Txt mg) (L : LawC P w K mg base) : FnOk P w K mg base CX0 24 f fd ["_law_script"] (spLaw K) := by
  have cStart := L.start
  have cDraw := L.draw
  have cPick := L.pick
  have cSer := L.series
  have cQty := L.qty
  have cLC := L.lchg
  have cC := L.chg
  have cP := L.paper
  have cLL := L.llon
  have cOf := L.chgof
  have cT := L.takes
  have cIs := L.lis
  refine FnP_ok F scLaw (fun vs H Q XE h => ?_) (fun cdv A outer s H vs Q XE hr h => ?_)
  · obtain ⟨a, ns, rfl, _⟩ := h; rfl
  · obtain ⟨sc, ns, rfl, hS, hlen, q⟩ := h
    have nd := scLaw.nd
    refine ⟨_, pss_cons (ps_set (i := 1) nd rfl (.inl rfl) (pe_cl cStart hr rfl (pa_cons (pv 0) pa_nil)))
      (pss_cons (ps_set (i := 2) nd rfl (.inl rfl) (pe_ifExp (pt_cmpR op_gt (pe_cl cDraw hr rfl (pa_cons (pv 1) (pa_cons pe_int pa_nil))) pe_int (nomark _)) (pe_cl cSer hr rfl (pa_cons (pv 1) pa_nil)) (pe_cl cQty hr rfl (pa_cons (pv 1) (pa_cons pe_int pa_nil)))))
      (pss_cons (ps_set (i := 3) nd rfl (.inl rfl) (pe_op op_sub (pe_cl cDraw hr rfl (pa_cons (pv 1) (pa_cons pe_int pa_nil))) pe_int))
      (pss_cons (ps_set (i := 4) nd rfl (.inl rfl) (pe_op op_add (pv 3) (pe_cl cDraw hr rfl (pa_cons (pv 1) (pa_cons (pe_cl cPick hr rfl (pa_cons (pv 1) (pa_cons (pe_lst (pa_cons pe_int (pa_cons pe_int (pa_cons pe_int (pa_cons pe_int pa_nil))))) pa_nil))) pa_nil)))))
      (pss_cons (ps_set (i := 5) nd rfl (.inl rfl) (pe_cl cLC hr rfl (pa_cons (pv 2) (pa_cons (pv 3) (pa_cons (pv 4) pa_nil)))))
      (pss_cons (ps_set (i := 6) nd rfl (.inl rfl) (pe_cl cC hr rfl (pa_cons (pv 2) (pa_cons (pv 3) (pa_cons (pv 4) pa_nil)))))
      (pss_cons (ps_set (i := 7) nd rfl (.inl rfl) (pe_cl cP hr rfl (pa_cons (pv 2) (pa_cons (pv 3) (pa_cons (pv 4) pa_nil)))))
      (pss_cons (ps_if (PW.pt (pw_or (pt_not (pt_val (pe_callB call_isi (by rfl) T.isinstance (by decide +kernel) (pa_cons (pv 6) (pa_cons (pe_bltn (v := .ty "list") rfl T.list (by decide +kernel) rfl) pa_nil)))))
          (pw_or (pt_cmpR (op_neD hr.units) (pv 6) (pv 5) (nomark _))
          (pw_or (pt_not (pt_val (pe_callB call_isi (by rfl) T.isinstance (by decide +kernel) (pa_cons (pv 7) (pa_cons (pe_bltn (v := .ty "list") rfl T.list (by decide +kernel) rfl) pa_nil)))))
          (pw_or1 (pt_cmpR op_gt (pe_callB call_len_seq (by rfl) T.len PySem.boot_len (pa_cons (pv 7) pa_nil)) (pe_op op_add (pe_op op_sub (pv 4) (pv 3)) pe_int) (nomark _)))))))
        (pss_one (ps_ret pe_bl)) pss_nil)
      (pss_cons (ps_set (i := 8) nd rfl (.inl rfl) (pv 3))
      (pss_cons (ps_for PassesOwn.never rfl (pi_list (pv 7)) (pg_name (i := 9) nd rfl (.inl rfl))
        (pss_cons (ps_if (pt_cmpR (op_neD hr.units) (pv 9) (pe_tup (pa_cons (pv 8) (pa_cons (pe_cl cLL hr rfl (pa_cons (pv 2) (pa_cons (pv 8) (pa_cons (pe_op op_sub (pv 4) (pv 8)) pa_nil)))) pa_nil))) (nomark _)) (pss_one (ps_ret pe_bl)) pss_nil)
        (pss_one (ps_set (i := 8) nd rfl (.inl rfl) (pe_op op_add (pe_op op_add (pv 8) (ix (pv 9) pe_int)) pe_int)))))
      (pss_cons (ps_if (PW.pt (pw_or (pt_cmpR op_ne (pv 8) (pe_op op_add (pv 4) pe_int) (nomark _))
          (pw_or (pt_cmpR (op_neD hr.units) (pe_cl cOf hr rfl (pa_cons (pv 2) (pa_cons (pe_callTy call_list_of (by rfl) T.list (by decide +kernel) (pa_cons (pv 7) pa_nil)) pa_nil))) (pv 5) (nomark _))
          (pw_or1 (pt_not (pt_val (pe_cl cIs hr rfl (pa_cons (pe_cl cT hr rfl (pa_cons (pv 2) (pa_cons (pv 3) (pa_cons (pv 4) (pa_cons (pe_callTy call_list_of (by rfl) T.list (by decide +kernel) (pa_cons (pv 7) pa_nil)) pa_nil))))) (pa_cons pe_bl pa_nil)))))))))
        (pss_one (ps_ret pe_bl)) pss_nil)
      (pss_cons (ps_expr (pe_bm PySem.F.plainAttrs_list PySem.F.slot_list_append PySem.F.type_list_append mt_append (pv 6) (pa_cons pe_str pa_nil)))
      (pss_cons (ps_set (i := 10) nd rfl (.inl rfl) (pe_callTy call_list_of (by rfl) T.list (by decide +kernel) (pa_cons (pv 7) pa_nil)))
      (pss_cons (ps_expr (pe_bm PySem.F.plainAttrs_list PySem.F.slot_list_append PySem.F.type_list_append mt_append (pv 7) (pa_cons pe_str pa_nil)))
      (pss_one (ps_ret (pe_and (pe_cmpR (op_eqD hr.units) (pe_cl cC hr rfl (pa_cons (pv 2) (pa_cons (pv 3) (pa_cons (pv 4) pa_nil)))) (pv 5) (nomark _))
        (pe_one (pe_cmpR (op_eqD hr.units) (pe_cl cP hr rfl (pa_cons (pv 2) (pa_cons (pv 3) (pa_cons (pv 4) pa_nil)))) (pv 10) (nomark _))))))))))))))))))), ?_⟩
    refine ⟨_, rfl, sc, ns, rfl, hS, hlen, fun d c H0 st0 s0 => ?_⟩
    refine rd_q rfl st0 fun x e H1 hE1 ho st1 => ?_
    refine ⟨_, rfl, d, c, 20001, rfl, by decide, by decide, st1, fun r2 H2 r20 r21 st2 k2 => ⟨r2, 10000, rfl, rfl, ?_⟩⟩
    have hE2 := hE1.mono (k2.tsD st1)
    refine ⟨_, rfl, _, rfl, _, rfl, by show 4 ≤ sizeLine; decide, fun l hl => ⟨d, c, l, _, rfl, st2.same (same_new hl), upd_same, by decide, by decide, fun y H3 hy st3 k3 => ?_⟩⟩
    obtain ⟨bd, rfl, hb0, hb1⟩ : ∃ bd : Int, y = .int bd ∧ 0 < bd ∧ bd ≤ 151 := by
      simp only [List.mem_cons, List.mem_nil_iff, or_false] at hy
      rcases hy with rfl | rfl | rfl | rfl
      · exact ⟨_, rfl, by decide, by decide⟩
      · exact ⟨_, rfl, by decide, by decide⟩
      · exact ⟨_, rfl, by decide, by decide⟩
      · exact ⟨_, rfl, by decide, by decide⟩
    refine ⟨d, c, bd, rfl, hb0, by omega, st3, fun r4 H4 r40 r41 st4 k4 => ⟨_, r4, rfl, rfl, ?_⟩⟩
    have hE4 := hE2.mono (((TS.new (o := .lst [V.int 1, V.int 9, V.int 60, V.int 151]) hl).trans (k3.tsD (st2.same (same_new hl)))).trans (k4.tsD st3))
    have h1 : r2 - 10000 ≤ r2 - 10000 + r4 := by omega
    have h2 : r2 - 10000 + r4 - (r2 - 10000) ≤ 150 := by omega
    have h3 : -20000 ≤ r2 - 10000 ∧ r2 - 10000 + r4 ≤ 20000 := by omega
    clear hE1 hE2 st0 s0 st1 st2 k2 hl hy st3 k3 k4 st4
    dsimp only
    generalize r2 - 10000 = a at *
    generalize a + r4 = b at *
    refine ⟨_, rfl, _, rfl, _, rfl, x, e, a, b, rfl, hE4, ho, by decide, h1, h2, h3, fun l5 H5 xs5 s5 n5 hl5 hA5 => ?_⟩
    refine ⟨_, rfl, _, rfl, _, rfl, x, e, a, b, rfl, hE4.mono s5.ts, ho, by decide, h1, h2, fun l6 H6 xs6 s6 n6 hl6 hA6 => ?_⟩
    have hl5' := s6 _ _ hl5
    have hA5' := hA5.mono fun x c => ChgAt.mono s6.ts x c
    refine ⟨_, rfl, _, rfl, _, rfl, x, e, a, b, rfl, hE4.mono (s5.trans s6).ts, ho, by decide, h2, fun l7 H7 xs7 s7 n7 hl7 hA7 => ?_⟩
    have hE7 := hE4.mono ((s5.trans s6).trans s7).ts
    have g5 := s7 _ _ hl5'
    have g6 := s7 _ _ hl6
    have gA5 := hA5'.mono fun x c => ChgAt.mono s7.ts x c
    have gA6 := hA6.mono fun x c => ChgAt.mono s7.ts x c
    have n56 : l5 ≠ l6 := ne_of_none hl5 n6
    have n57 : l5 ≠ l7 := ne_of_none hl5' n7
    have n67 : l6 ≠ l7 := ne_of_none hl6 n7
    have shC := list_shaped dC_ok (chg (tk e a (b + 1 - a).toNat))
    have shP := list_shaped dP_ok (pap e a b)
    have hlx := hA7.length
    have hpl : (pap e a b).length = (cells e a b).length := List.length_map _
    have hcl := cells_len e b _ a (Nat.le_refl _)
    refine ⟨_, rfl, _, _, _, _, true, rfl, ClsV.ty "list", TyX.base (TyOf.lst g6), kit_ty (by decide +kernel), true, rfl, iteF ?_⟩
    refine ⟨_, rfl, _, rfl, rd_ne (dp_chgs g6 gA6) (dp_chgs g5 gA5) shC ⟨false, rfl, iteF ?_⟩⟩
    refine ⟨_, rfl, _, _, _, _, true, rfl, ClsV.ty "list", TyX.base (TyOf.lst hl7), kit_ty (by decide +kernel), true, rfl, iteF ?_⟩
    refine ⟨_, rfl, l7, _, rfl, .inl (SqL.of hl7), _, rfl, _, rfl, _, _, rfl, rfl, _, _, rfl, rfl, _, _, rfl, rfl, _, rfl, iD (fun z => absurd z (by omega)) (fun _ => ?_)⟩
    refine ⟨_, rfl, ?_⟩
    refine ⟨_, rfl, l7, rfl, ⟨_, SqL.of hl7⟩, for_list (K := K) (a := l7) (xs := xs7) (fun i σ H8 => ∃ (t : Int) (y9 : Option V), σ = [some (.ref sc), some (.ref d), some x, some (.int a), some (.int b), some (.ref l5), some (.ref l6), some (.ref l7), some (.int t), y9, none] ∧ Same H7 H8 ∧ a ≤ t ∧ t ≤ b + 1 ∧ (cells e a b).drop i = cells e t b)
      ⟨a, none, rfl, Same.refl _, by omega, by omega, by simp⟩ (fun i σ H8 _ ⟨t, y9, _, s8, _⟩ => SqL.of (s8 _ _ hl7)) (fun i y σ H8 hi hP => ?_) (fun σ H8 hP => ?_)⟩
    · obtain ⟨t, y9, rfl, s8, ht0, ht, hd⟩ := hP
      have hil : i < xs7.length := (List.getElem?_eq_some_iff.mp hi).1
      obtain ⟨pc, hpc, ac, rfl, hac⟩ := hA7.get hi
      have hac8 := s8 _ _ hac
      obtain ⟨dd, hd0, hcd⟩ : ∃ dd, (cells e a b)[i]? = some dd ∧ pc = (dd.1, dd.2.1) := by
        unfold pap at hpc
        rw [List.getElem?_map] at hpc
        cases hq : (cells e a b)[i]? with
        | none => rw [hq] at hpc; cases hpc
        | some dd => rw [hq] at hpc; exact ⟨dd, rfl, (Option.some.inj hpc).symm⟩
      have htb : t ≤ b := by
        by_cases z : t ≤ b
        · exact z
        · exfalso
          rw [cells_end (e := e) (t := t) (en := b) (by omega)] at hd
          have := congrArg List.length hd
          rw [List.length_drop] at this
          simp at this
          omega
      have hd' := hd
      rw [cells_go htb] at hd
      have hd1 : ((cells e a b).drop i)[0]? = some dd := by rw [List.getElem?_drop]; exact hd0
      rw [hd] at hd1
      cases hd1
      subst hcd
      have k0 := lonAt_nn e t b
      have k1 := lonAt_le (e := e) htb
      refine ⟨_, rfl, _, rfl, _, rfl, _, rfl, _, rfl, _, rfl, _, _, rfl, rfl, x, e, t, b - t, rfl, hE7.mono s8.ts, ho, by decide, by omega, by omega, fun H9 s9 => ⟨by show 2 ≤ sizeLine; decide, fun p hp => ?_⟩⟩
      have s10 := same_new (o := .tup [.int t, .int ((lon e (val e t) (b - t).toNat : Nat) : Int)]) hp
      have hac10 := s10 _ _ (s9 _ _ hac8)
      refine rd_ne (d := dP (t, lonAt e t b)) (dp_pair ⟨ac, rfl, hac10⟩) (dp_pair ⟨p, rfl, upd_same⟩) (one_shaped (dP_ok _)) ⟨false, rfl, iteF ?_⟩
      refine ⟨_, rfl, _, rfl, ac, _, 1, _, rfl, rfl, SqT.of hac10, atI_nat (j := 1) rfl, _, _, rfl, rfl, _, _, rfl, rfl, t + lonAt e t b + 1, _, rfl, (s8.trans s9).trans s10, by omega, by omega, ?_⟩
      rw [← List.drop_drop, hd', cells_go htb]
      rfl
    · obtain ⟨t, y9, rfl, s8, ht0, ht, hd⟩ := hP
      rw [List.drop_of_length_le (by omega)] at hd
      have htb : t = b + 1 := by
        by_cases z : t ≤ b
        · rw [cells_go z] at hd; cases hd
        · omega
      subst htb
      clear hd ht0 ht
      have hE8 := hE7.mono s8.ts
      have g7 := s8 _ _ hl7
      have gA7 := hA7.mono fun x c => PairAt.mono s8.ts x c
      refine ⟨_, rfl, _, rfl, _, _, rfl, rfl, rfl, _, rfl, iN (fun z => absurd rfl z) (fun _ => ?_)⟩
      refine ⟨_, rfl, _, rfl, l7, _, rfl, .inl (SqL.of g7), fun l11 n11 => ?_⟩
      have s11 := same_new (o := .lst xs7) n11
      have s811 := s8.trans s11
      refine ⟨x, e, a, b, l11, xs7, rfl, hE8.mono s11.ts, ho, by decide, h1, h2, upd_same, gA7.mono fun x c => PairAt.mono s11.ts x c, fun l12 H12 xs12 s12 n12 hl12 hA12 => ?_⟩
      have s7C := s811.trans s12
      refine ⟨_, rfl, rd_ne (dp_chgs hl12 hA12) (dp_chgs (s7C _ _ g5) (gA5.mono fun x c => ChgAt.mono s7C.ts x c)) shC ⟨false, rfl, iteF ?_⟩⟩
      refine ⟨_, rfl, _, rfl, _, rfl, _, rfl, l7, _, rfl, .inl (SqL.of (s7C _ _ hl7)), fun l13 n13 => ?_⟩
      have s13 := same_new (o := .lst xs7) n13
      have s7D := s7C.trans s13
      refine ⟨x, e, a, b, l13, xs7, rfl, hE7.mono s7D.ts, ho, by decide, h1, upd_same, hA7.mono fun x c => PairAt.mono s7D.ts x c, fun H14 s14 => ?_⟩
      have s7E := s7D.trans s14
      refine ⟨true, true, rfl, true, rfl, iteF ?_⟩
      have e6 := s7E _ _ g6
      have e7 := s7E _ _ hl7
      have e5 := s7E _ _ g5
      have hl5len := gA5.length
      have hl6len := gA6.length
      have hchl := chg_len (tk e a (b + 1 - a).toNat)
      have htk : (tk e a (b + 1 - a).toNat).length = (b + 1 - a).toNat := by unfold tk; rw [List.length_map, List.length_range]
      refine ⟨_, rfl, .inl ⟨rfl, _, SqL.of e6⟩, l6, xs6, _, rfl, rfl, e6, small1000 (by omega), ?_⟩
      have t15 := TS.lst (ys := xs6 ++ [V.str "spoilt"]) e6
      refine ⟨_, rfl, l7, xs7, rfl, .inl (SqL.of (by rw [upd_ne n67.symm]; exact e7)), fun l16 n16 => ?_⟩
      have s16 := same_new (o := .lst xs7) n16
      have n76 : l7 ≠ l16 := ne_of_none (by rw [upd_ne n67.symm]; exact e7) n16
      have n516 : l5 ≠ l16 := ne_of_none (by rw [upd_ne n56]; exact e5) n16
      have f7 : (upd (upd H14 l6 (.lst (xs6 ++ [.str "spoilt"]))) l16 (.lst xs7)) l7 = some (.lst xs7) := s16 _ _ (by rw [upd_ne n67.symm]; exact e7)
      refine ⟨_, rfl, .inl ⟨rfl, _, SqL.of f7⟩, l7, xs7, _, rfl, rfl, f7, small1000 (by omega), ?_⟩
      have t17 := TS.lst (ys := xs7 ++ [V.str "spoilt"]) f7
      have tE := (s7E.ts.trans t15).trans (s16.ts.trans t17)
      have f5 : (upd (upd (upd H14 l6 (.lst (xs6 ++ [.str "spoilt"]))) l16 (.lst xs7)) l7 (.lst (xs7 ++ [.str "spoilt"]))) l5 = some (.lst xs5) := by
        rw [upd_ne n57, upd_ne n516, upd_ne n56]; exact e5
      have f16 : (upd (upd (upd H14 l6 (.lst (xs6 ++ [.str "spoilt"]))) l16 (.lst xs7)) l7 (.lst (xs7 ++ [.str "spoilt"]))) l16 = some (.lst xs7) := by
        rw [upd_ne n76.symm, upd_same]
      refine ⟨_, rfl, _, rfl, _, rfl, x, e, a, b, rfl, hE7.mono tE, ho, by decide, h1, h2, fun l18 H18 xs18 s18 n18 hl18 hA18 => ?_⟩
      refine ⟨_, rfl, rd_eq (dp_chgs hl18 hA18) (dp_chgs (s18 _ _ f5) (gA5.mono fun x c => ChgAt.mono (tE.trans s18.ts) x c)) shC ⟨true, rfl, iteT ?_⟩⟩
      refine ⟨_, rfl, _, rfl, _, rfl, x, e, a, b, rfl, hE7.mono (tE.trans s18.ts), ho, by decide, h2, fun l19 H19 xs19 s19 n19 hl19 hA19 => ?_⟩
      exact ⟨_, rfl, rd_eq (dp_pairs hl19 hA19) (dp_pairs (s19 _ _ (s18 _ _ f16)) (hA7.mono fun x c => PairAt.mono ((tE.trans s18.ts).trans s19.ts) x c)) shP (q _)⟩
end
end Ta

set_option maxHeartbeats 0
/-! The head: what the top leaves, read as facts; the promises joined. -/
namespace Ta
open PySem PySem.Spec PyProof.Rows L2
def dArch : He.DefD := ⟨("arch", none), "arch", "arch", defArgs sArch, defBody sArch, defScope sArch, [], []⟩
def dWave : He.DefD := ⟨("wave", none), "wave", "wave", defArgs sWave, defBody sWave, defScope sWave, [], []⟩
def dWaveReach : He.DefD := ⟨("wave_reach", none), "wave_reach", "wave_reach", defArgs sWaveReach, defBody sWaveReach, defScope sWaveReach, [], []⟩
def dRatioUp : He.DefD := ⟨("ratio_up", none), "ratio_up", "ratio_up", defArgs sRatioUp, defBody sRatioUp, defScope sRatioUp, [], []⟩
def dNInit : He.DefD := ⟨("Node", some "__init__"), "__init__", "Node.__init__", defArgs sNInit, defBody sNInit, defScope sNInit, [], []⟩
def dNFindMost : He.DefD := ⟨("Node", some "_find_most"), "_find_most", "Node._find_most", defArgs sNFindMost, defBody sNFindMost, defScope sNFindMost, [], []⟩
def dNReach : He.DefD := ⟨("Node", some "reach"), "reach", "Node.reach", defArgs sNReach, defBody sNReach, defScope sNReach, [], []⟩
def dNAngleReach : He.DefD := ⟨("Node", some "_angle_reach"), "_angle_reach", "Node._angle_reach", defArgs sNAngleReach, defBody sNAngleReach, defScope sNAngleReach, [], []⟩
def dNPlainReach : He.DefD := ⟨("Node", some "_plain_reach"), "_plain_reach", "Node._plain_reach", defArgs sNPlainReach, defBody sNPlainReach, defScope sNPlainReach, [], []⟩
def dReach : He.DefD := ⟨("reach", none), "reach", "reach", defArgs sReach, defBody sReach, defScope sReach, [], []⟩
def dAngleValue : He.DefD := ⟨("angle_value", none), "angle_value", "angle_value", defArgs sAngleValue, defBody sAngleValue, defScope sAngleValue, [], []⟩
def dValue : He.DefD := ⟨("value", none), "value", "value", defArgs sValue, defBody sValue, defScope sValue, [], []⟩
def dIsSure : He.DefD := ⟨("is_sure", none), "is_sure", "is_sure", defArgs sIsSure, defBody sIsSure, defScope sIsSure, [], []⟩
def dLongest : He.DefD := ⟨("longest", none), "longest", "longest", defArgs sLongest, defBody sLongest, defScope sLongest, [], []⟩
def dSidedCells : He.DefD := ⟨("sided_cells", none), "sided_cells", "sided_cells", defArgs sSidedCells, defBody sSidedCells, defScope sSidedCells, [], []⟩
def dPaper : He.DefD := ⟨("paper", none), "paper", "paper", defArgs sPaper, defBody sPaper, defScope sPaper, [], []⟩
def dSideName : He.DefD := ⟨("side_name", none), "side_name", "side_name", defArgs sSideName, defBody sSideName, defScope sSideName, [], []⟩
def dChanges : He.DefD := ⟨("changes", none), "changes", "changes", defArgs sChanges, defBody sChanges, defScope sChanges, [], []⟩
def dIsSureCell : He.DefD := ⟨("is_sure_cell", none), "is_sure_cell", "is_sure_cell", defArgs sIsSureCell, defBody sIsSureCell, defScope sIsSureCell, [], []⟩
def dTakes : He.DefD := ⟨("takes", none), "takes", "takes", defArgs sTakes, defBody sTakes, defScope sTakes, [], []⟩
def dChangesOf : He.DefD := ⟨("changes_of", none), "changes_of", "changes_of", defArgs sChangesOf, defBody sChangesOf, defScope sChangesOf, [], []⟩
def dLStart : He.DefD := ⟨("_law_start", none), "_law_start", "_law_start", defArgs sLStart, defBody sLStart, defScope sLStart, [], []⟩
def dLDraw : He.DefD := ⟨("_law_draw", none), "_law_draw", "_law_draw", defArgs sLDraw, defBody sLDraw, defScope sLDraw, [], []⟩
def dLPick : He.DefD := ⟨("_law_pick", none), "_law_pick", "_law_pick", defArgs sLPick, defBody sLPick, defScope sLPick, [], []⟩
def dLIs : He.DefD := ⟨("_law_is", none), "_law_is", "_law_is", defArgs sLIs, defBody sLIs, defScope sLIs, [], []⟩
def dLNumber : He.DefD := ⟨("_law_number", none), "_law_number", "_law_number", defArgs sLNumber, defBody sLNumber, defScope sLNumber, [], []⟩
def dLDivisor : He.DefD := ⟨("_law_divisor", none), "_law_divisor", "_law_divisor", defArgs sLDivisor, defBody sLDivisor, defScope sLDivisor, [], []⟩
def dLAngle : He.DefD := ⟨("_law_angle", none), "_law_angle", "_law_angle", defArgs sLAngle, defBody sLAngle, defScope sLAngle, [], []⟩
def dLQuantity : He.DefD := ⟨("_law_quantity", none), "_law_quantity", "_law_quantity", defArgs sLQuantity, defBody sLQuantity, defScope sLQuantity, [], []⟩
def dLWavePart : He.DefD := ⟨("_law_wave_part", none), "_law_wave_part", "_law_wave_part", defArgs sLWavePart, defBody sLWavePart, defScope sLWavePart, [], []⟩
def dLSeries : He.DefD := ⟨("_law_series", none), "_law_series", "_law_series", defArgs sLSeries, defBody sLSeries, defScope sLSeries, [], []⟩
def dLArch : He.DefD := ⟨("_law_arch", none), "_law_arch", "_law_arch", defArgs sLArch, defBody sLArch, defScope sLArch, [], []⟩
def dLWave : He.DefD := ⟨("_law_wave", none), "_law_wave", "_law_wave", defArgs sLWave, defBody sLWave, defScope sLWave, [], []⟩
def dLAngleAt : He.DefD := ⟨("_law_angle_at", none), "_law_angle_at", "_law_angle_at", defArgs sLAngleAt, defBody sLAngleAt, defScope sLAngleAt, [], []⟩
def dLValue : He.DefD := ⟨("_law_value", none), "_law_value", "_law_value", defArgs sLValue, defBody sLValue, defScope sLValue, [], []⟩
def dLUp : He.DefD := ⟨("_law_up", none), "_law_up", "_law_up", defArgs sLUp, defBody sLUp, defScope sLUp, [], []⟩
def dLMost : He.DefD := ⟨("_law_most", none), "_law_most", "_law_most", defArgs sLMost, defBody sLMost, defScope sLMost, [], []⟩
def dLAngleReach : He.DefD := ⟨("_law_angle_reach", none), "_law_angle_reach", "_law_angle_reach", defArgs sLAngleReach, defBody sLAngleReach, defScope sLAngleReach, [], []⟩
def dLReach : He.DefD := ⟨("_law_reach", none), "_law_reach", "_law_reach", defArgs sLReach, defBody sLReach, defScope sLReach, [], []⟩
def dLChanges : He.DefD := ⟨("_law_changes", none), "_law_changes", "_law_changes", defArgs sLChanges, defBody sLChanges, defScope sLChanges, [], []⟩
def dLSure : He.DefD := ⟨("_law_sure", none), "_law_sure", "_law_sure", defArgs sLSure, defBody sLSure, defScope sLSure, [], []⟩
def dLLongest : He.DefD := ⟨("_law_longest", none), "_law_longest", "_law_longest", defArgs sLLongest, defBody sLLongest, defScope sLLongest, [], []⟩
def dLaw : He.DefD := ⟨("law", none), "law", "law", defArgs sLaw, defBody sLaw, defScope sLaw, [], []⟩
def fnsA : List He.DefD := [dArch, dWave, dWaveReach, dRatioUp, dNInit, dNFindMost, dNReach, dNAngleReach, dNPlainReach, dReach, dAngleValue, dValue, dIsSure, dLongest, dSidedCells, dPaper, dSideName, dChanges, dIsSureCell, dTakes, dChangesOf, dLStart, dLDraw, dLPick]
def fnsB : List He.DefD := [dLIs, dLNumber, dLDivisor, dLAngle, dLQuantity, dLWavePart, dLSeries, dLArch, dLWave, dLAngleAt, dLValue, dLUp, dLMost, dLAngleReach, dLReach, dLChanges, dLSure, dLLongest, dLaw]
def fns : List He.DefD := fnsA ++ fnsB
def faA : List He.Fa := [.glo "arch", .glo "wave", .glo "wave_reach", .glo "ratio_up", .glo "reach", .glo "angle_value", .glo "value", .glo "is_sure", .glo "longest", .glo "sided_cells", .glo "paper", .glo "side_name", .glo "changes", .glo "is_sure_cell", .glo "takes", .glo "changes_of", .glo "_law_start", .glo "_law_draw", .glo "_law_pick", .glo "_law_is", .glo "_law_number", .glo "_law_divisor", .glo "_law_angle", .glo "_law_quantity", .glo "_law_wave_part", .glo "_law_series", .glo "_law_arch", .glo "_law_wave", .glo "_law_angle_at", .glo "_law_value"]
def faB : List He.Fa := [.glo "_law_up", .glo "_law_most", .glo "_law_angle_reach", .glo "_law_reach", .glo "_law_changes", .glo "_law_sure", .glo "_law_longest", .glo "law", .glo "Node", .free "divmod", .free "abs", .free "isinstance", .free "tuple", .free "sum", .free "min", .free "max", .free "zip", .free "len", .free "range", .free "int", .free "list", .free "bool", .int "TURN" 1296000, .int "QUARTER" 324000, .int "ONE" 1000000, .cls "Node", .noat "Node" "kind", .noat "Node" "parts", .noat "Node" "numbers", .noat "Node" "most", .meth "Node" "_find_most", .meth "Node" "reach", .meth "Node" "_angle_reach", .meth "Node" "_plain_reach", .mkr "Node"]
def fas : List He.Fa := faA ++ faB
def loose : List Str := (["TURN", "QUARTER", "ONE", "arch", "wave", "wave_reach", "ratio_up", "Node", "reach", "angle_value", "value", "is_sure", "longest", "sided_cells", "paper", "side_name", "changes", "is_sure_cell", "takes", "changes_of", "_law_start", "_law_draw", "_law_pick", "_law_is_number", "_law_is", "_law_number", "_law_divisor", "_law_angle", "_law_quantity", "_law_wave_part"] : List Str) ++ (["_law_series", "_law_arch", "_law_wave", "_law_angle_at", "_law_value", "_law_up", "_law_most", "_law_angle_reach", "_law_reach", "_law_changes", "_law_sure", "_law_longest"] : List Str)
abbrev R : PySem.W.OpenRow := PySem.W.OpenLaw.row PySem.Challenge.rw_truealmanac_k06_whole_changes_and_papers
abbrev hk : PySem.W.Hook := He.hookD 6 fas fns
def ob (s : PySem.W.SharedT) : He.AlD := He.obsDG 6 fas fns (HandSHeadRun.getT s)
theorem ob_eq (s : PySem.W.SharedT) : ob s = hk.obs s.abs := He.obsDG_eq (HandSHeadRun.getT_eq s)
theorem run (w : World) : HandSHeadRun.RunEq R (PySem.W.view R.prog [48]) hk ob 4000 loose w := by
  intro os
  kernel_rfl
theorem facts {P : Program} {w : World} {K : PySem.W.Frag} {h : Heap} {mg : Str → Option Value} {f : Addr} (X : K.In h) (G : h.Ns mainGlobals mg) (hfa : mg ("law" : Str) = some (.ref f)) (c : He.SaysD fas fns K) :
    ∃ fd : FuncData, (∀ (s : Shared) (v : Value), BindsTo s fd ⟨[v], []⟩ [("_law_script", v)]) ∧ ∀ base : Heap, K.In base → base.Ns mainGlobals mg → FnOk P w K mg base CX0 24 f fd ["_law_script"] (spLaw K) := by
  obtain ⟨fdArch, FArch⟩ := c.def_ 0 (d := dArch) rfl
  obtain ⟨fdWave, FWave⟩ := c.def_ 1 (d := dWave) rfl
  obtain ⟨fdWaveReach, FWaveReach⟩ := c.def_ 2 (d := dWaveReach) rfl
  obtain ⟨fdRatioUp, FRatioUp⟩ := c.def_ 3 (d := dRatioUp) rfl
  obtain ⟨fdNInit, FNInit⟩ := c.def_ 4 (d := dNInit) rfl
  obtain ⟨fdNFindMost, FNFindMost⟩ := c.def_ 5 (d := dNFindMost) rfl
  obtain ⟨fdNReach, FNReach⟩ := c.def_ 6 (d := dNReach) rfl
  obtain ⟨fdNAngleReach, FNAngleReach⟩ := c.def_ 7 (d := dNAngleReach) rfl
  obtain ⟨fdNPlainReach, FNPlainReach⟩ := c.def_ 8 (d := dNPlainReach) rfl
  obtain ⟨fdReach, FReach⟩ := c.def_ 9 (d := dReach) rfl
  obtain ⟨fdAngleValue, FAngleValue⟩ := c.def_ 10 (d := dAngleValue) rfl
  obtain ⟨fdValue, FValue⟩ := c.def_ 11 (d := dValue) rfl
  obtain ⟨fdIsSure, FIsSure⟩ := c.def_ 12 (d := dIsSure) rfl
  obtain ⟨fdLongest, FLongest⟩ := c.def_ 13 (d := dLongest) rfl
  obtain ⟨fdSidedCells, FSidedCells⟩ := c.def_ 14 (d := dSidedCells) rfl
  obtain ⟨fdPaper, FPaper⟩ := c.def_ 15 (d := dPaper) rfl
  obtain ⟨fdSideName, FSideName⟩ := c.def_ 16 (d := dSideName) rfl
  obtain ⟨fdChanges, FChanges⟩ := c.def_ 17 (d := dChanges) rfl
  obtain ⟨fdIsSureCell, FIsSureCell⟩ := c.def_ 18 (d := dIsSureCell) rfl
  obtain ⟨fdTakes, FTakes⟩ := c.def_ 19 (d := dTakes) rfl
  obtain ⟨fdChangesOf, FChangesOf⟩ := c.def_ 20 (d := dChangesOf) rfl
  obtain ⟨fdLStart, FLStart⟩ := c.def_ 21 (d := dLStart) rfl
  obtain ⟨fdLDraw, FLDraw⟩ := c.def_ 22 (d := dLDraw) rfl
  obtain ⟨fdLPick, FLPick⟩ := c.def_ 23 (d := dLPick) rfl
  obtain ⟨fdLIs, FLIs⟩ := c.def_ 24 (d := dLIs) rfl
  obtain ⟨fdLNumber, FLNumber⟩ := c.def_ 25 (d := dLNumber) rfl
  obtain ⟨fdLDivisor, FLDivisor⟩ := c.def_ 26 (d := dLDivisor) rfl
  obtain ⟨fdLAngle, FLAngle⟩ := c.def_ 27 (d := dLAngle) rfl
  obtain ⟨fdLQuantity, FLQuantity⟩ := c.def_ 28 (d := dLQuantity) rfl
  obtain ⟨fdLWavePart, FLWavePart⟩ := c.def_ 29 (d := dLWavePart) rfl
  obtain ⟨fdLSeries, FLSeries⟩ := c.def_ 30 (d := dLSeries) rfl
  obtain ⟨fdLArch, FLArch⟩ := c.def_ 31 (d := dLArch) rfl
  obtain ⟨fdLWave, FLWave⟩ := c.def_ 32 (d := dLWave) rfl
  obtain ⟨fdLAngleAt, FLAngleAt⟩ := c.def_ 33 (d := dLAngleAt) rfl
  obtain ⟨fdLValue, FLValue⟩ := c.def_ 34 (d := dLValue) rfl
  obtain ⟨fdLUp, FLUp⟩ := c.def_ 35 (d := dLUp) rfl
  obtain ⟨fdLMost, FLMost⟩ := c.def_ 36 (d := dLMost) rfl
  obtain ⟨fdLAngleReach, FLAngleReach⟩ := c.def_ 37 (d := dLAngleReach) rfl
  obtain ⟨fdLReach, FLReach⟩ := c.def_ 38 (d := dLReach) rfl
  obtain ⟨fdLChanges, FLChanges⟩ := c.def_ 39 (d := dLChanges) rfl
  obtain ⟨fdLSure, FLSure⟩ := c.def_ 40 (d := dLSure) rfl
  obtain ⟨fdLLongest, FLLongest⟩ := c.def_ 41 (d := dLLongest) rfl
  obtain ⟨fdLaw, FLaw⟩ := c.def_ 42 (d := dLaw) rfl
  have T : Txt mg := ⟨He.int_ok X G (c.fact 52 (f := .int "TURN" 1296000) rfl), He.int_ok X G (c.fact 53 (f := .int "QUARTER" 324000) rfl), He.int_ok X G (c.fact 54 (f := .int "ONE" 1000000) rfl), He.free_ok X G (c.fact 39 (f := .free "divmod") rfl), He.free_ok X G (c.fact 40 (f := .free "abs") rfl), He.free_ok X G (c.fact 41 (f := .free "isinstance") rfl), He.free_ok X G (c.fact 42 (f := .free "tuple") rfl), He.free_ok X G (c.fact 43 (f := .free "sum") rfl), He.free_ok X G (c.fact 44 (f := .free "min") rfl), He.free_ok X G (c.fact 45 (f := .free "max") rfl), He.free_ok X G (c.fact 46 (f := .free "zip") rfl), He.free_ok X G (c.fact 47 (f := .free "len") rfl), He.free_ok X G (c.fact 48 (f := .free "range") rfl), He.free_ok X G (c.fact 49 (f := .free "int") rfl), He.free_ok X G (c.fact 50 (f := .free "list") rfl), He.free_ok X G (c.fact 51 (f := .free "bool") rfl)⟩
  have N : TxN K mg (He.ga K "Node") := ⟨He.cls_ok (c.fact 55 (f := .cls "Node") rfl), He.noat_ok (c.fact 56 (f := .noat "Node" "kind") rfl), He.noat_ok (c.fact 57 (f := .noat "Node" "parts") rfl), He.noat_ok (c.fact 58 (f := .noat "Node" "numbers") rfl), He.noat_ok (c.fact 59 (f := .noat "Node" "most") rfl), He.glo_ok X G (c.fact 38 (f := .glo "Node") rfl)⟩
  have DArch : Dn K mg "arch" sArch ["u"] _ fdArch := ⟨FArch, He.glo_ok X G (c.fact 0 (f := .glo "arch") rfl), FunD.bindsN FArch fun _ _ _ _ _ _ us hl => match us, hl with | [_], _ => rfl⟩
  have DWave : Dn K mg "wave" sWave ["x"] _ fdWave := ⟨FWave, He.glo_ok X G (c.fact 1 (f := .glo "wave") rfl), FunD.bindsN FWave fun _ _ _ _ _ _ us hl => match us, hl with | [_], _ => rfl⟩
  have DWaveReach : Dn K mg "wave_reach" sWaveReach ["distance"] _ fdWaveReach := ⟨FWaveReach, He.glo_ok X G (c.fact 2 (f := .glo "wave_reach") rfl), FunD.bindsN FWaveReach fun _ _ _ _ _ _ us hl => match us, hl with | [_], _ => rfl⟩
  have DRatioUp : Dn K mg "ratio_up" sRatioUp ["number", "divisor"] _ fdRatioUp := ⟨FRatioUp, He.glo_ok X G (c.fact 3 (f := .glo "ratio_up") rfl), FunD.bindsN FRatioUp fun _ _ _ _ _ _ us hl => match us, hl with | [_, _], _ => rfl⟩
  have M : Mk K (He.ga K "Node") (He.ma K (He.ga K "Node") "__init__") := He.mkr_ok (c.fact 64 (f := .mkr "Node") rfl)
  have bI : Binds K fdNInit ["self", "expression"] [] := FunD.bindsN FNInit fun _ _ _ _ _ _ us hl => match us, hl with | [_, _], _ => rfl
  have DNFindMost : Dm K (He.ga K "Node") "_find_most" "Node._find_most" sNFindMost ["self"] _ fdNFindMost := ⟨FNFindMost, He.meth_ok (c.fact 60 (f := .meth "Node" "_find_most") rfl), FunD.bindsN FNFindMost fun _ _ _ _ _ _ us hl => match us, hl with | [_], _ => rfl⟩
  have DNReach : Dm K (He.ga K "Node") "reach" "Node.reach" sNReach ["self", "k"] _ fdNReach := ⟨FNReach, He.meth_ok (c.fact 61 (f := .meth "Node" "reach") rfl), FunD.bindsN FNReach fun _ _ _ _ _ _ us hl => match us, hl with | [_, _], _ => rfl⟩
  have DNAngleReach : Dm K (He.ga K "Node") "_angle_reach" "Node._angle_reach" sNAngleReach ["self", "k"] _ fdNAngleReach := ⟨FNAngleReach, He.meth_ok (c.fact 62 (f := .meth "Node" "_angle_reach") rfl), FunD.bindsN FNAngleReach fun _ _ _ _ _ _ us hl => match us, hl with | [_, _], _ => rfl⟩
  have DNPlainReach : Dm K (He.ga K "Node") "_plain_reach" "Node._plain_reach" sNPlainReach ["self", "k"] _ fdNPlainReach := ⟨FNPlainReach, He.meth_ok (c.fact 63 (f := .meth "Node" "_plain_reach") rfl), FunD.bindsN FNPlainReach fun _ _ _ _ _ _ us hl => match us, hl with | [_, _], _ => rfl⟩
  have DReach : Dn K mg "reach" sReach ["q", "k"] _ fdReach := ⟨FReach, He.glo_ok X G (c.fact 4 (f := .glo "reach") rfl), FunD.bindsN FReach fun _ _ _ _ _ _ us hl => match us, hl with | [_, _], _ => rfl⟩
  have DAngleValue : Dn K mg "angle_value" sAngleValue ["a", "t"] _ fdAngleValue := ⟨FAngleValue, He.glo_ok X G (c.fact 5 (f := .glo "angle_value") rfl), FunD.bindsN FAngleValue fun _ _ _ _ _ _ us hl => match us, hl with | [_, _], _ => rfl⟩
  have DValue : Dn K mg "value" sValue ["q", "t"] _ fdValue := ⟨FValue, He.glo_ok X G (c.fact 6 (f := .glo "value") rfl), FunD.bindsN FValue fun _ _ _ _ _ _ us hl => match us, hl with | [_, _], _ => rfl⟩
  have DIsSure : Dn K mg "is_sure" sIsSure ["node", "now", "k"] _ fdIsSure := ⟨FIsSure, He.glo_ok X G (c.fact 7 (f := .glo "is_sure") rfl), FunD.bindsN FIsSure fun _ _ _ _ _ _ us hl => match us, hl with | [_, _, _], _ => rfl⟩
  have DLongest : Dn K mg "longest" sLongest ["node", "now", "room"] _ fdLongest := ⟨FLongest, He.glo_ok X G (c.fact 8 (f := .glo "longest") rfl), FunD.bindsN FLongest fun _ _ _ _ _ _ us hl => match us, hl with | [_, _, _], _ => rfl⟩
  have DSidedCells : Dn K mg "sided_cells" sSidedCells ["q", "start", "end"] _ fdSidedCells := ⟨FSidedCells, He.glo_ok X G (c.fact 9 (f := .glo "sided_cells") rfl), FunD.bindsN FSidedCells fun _ _ _ _ _ _ us hl => match us, hl with | [_, _, _], _ => rfl⟩
  have DPaper : Dn K mg "paper" sPaper ["q", "start", "end"] _ fdPaper := ⟨FPaper, He.glo_ok X G (c.fact 10 (f := .glo "paper") rfl), FunD.bindsN FPaper fun _ _ _ _ _ _ us hl => match us, hl with | [_, _, _], _ => rfl⟩
  have DSideName : Dn K mg "side_name" sSideName ["is_up"] _ fdSideName := ⟨FSideName, He.glo_ok X G (c.fact 11 (f := .glo "side_name") rfl), FunD.bindsN FSideName fun _ _ _ _ _ _ us hl => match us, hl with | [_], _ => rfl⟩
  have DChanges : Dn K mg "changes" sChanges ["q", "start", "end"] _ fdChanges := ⟨FChanges, He.glo_ok X G (c.fact 12 (f := .glo "changes") rfl), FunD.bindsN FChanges fun _ _ _ _ _ _ us hl => match us, hl with | [_, _, _], _ => rfl⟩
  have DIsSureCell : Dn K mg "is_sure_cell" sIsSureCell ["q", "t", "k"] _ fdIsSureCell := ⟨FIsSureCell, He.glo_ok X G (c.fact 13 (f := .glo "is_sure_cell") rfl), FunD.bindsN FIsSureCell fun _ _ _ _ _ _ us hl => match us, hl with | [_, _, _], _ => rfl⟩
  have DTakes : Dn K mg "takes" sTakes ["q", "start", "end", "cells"] _ fdTakes := ⟨FTakes, He.glo_ok X G (c.fact 14 (f := .glo "takes") rfl), FunD.bindsN FTakes fun _ _ _ _ _ _ us hl => match us, hl with | [_, _, _, _], _ => rfl⟩
  have DChangesOf : Dn K mg "changes_of" sChangesOf ["q", "cells"] _ fdChangesOf := ⟨FChangesOf, He.glo_ok X G (c.fact 15 (f := .glo "changes_of") rfl), FunD.bindsN FChangesOf fun _ _ _ _ _ _ us hl => match us, hl with | [_, _], _ => rfl⟩
  have DLStart : Dn K mg "_law_start" sLStart ["_law_script"] _ fdLStart := ⟨FLStart, He.glo_ok X G (c.fact 16 (f := .glo "_law_start") rfl), FunD.bindsN FLStart fun _ _ _ _ _ _ us hl => match us, hl with | [_], _ => rfl⟩
  have DLDraw : Dn K mg "_law_draw" sLDraw ["_law_state", "_law_bound"] _ fdLDraw := ⟨FLDraw, He.glo_ok X G (c.fact 17 (f := .glo "_law_draw") rfl), FunD.bindsN FLDraw fun _ _ _ _ _ _ us hl => match us, hl with | [_, _], _ => rfl⟩
  have DLPick : Dn K mg "_law_pick" sLPick ["_law_state", "_law_things"] _ fdLPick := ⟨FLPick, He.glo_ok X G (c.fact 18 (f := .glo "_law_pick") rfl), FunD.bindsN FLPick fun _ _ _ _ _ _ us hl => match us, hl with | [_, _], _ => rfl⟩
  have DLIs : Dn K mg "_law_is" sLIs ["_law_actual", "_law_due"] _ fdLIs := ⟨FLIs, He.glo_ok X G (c.fact 19 (f := .glo "_law_is") rfl), FunD.bindsN FLIs fun _ _ _ _ _ _ us hl => match us, hl with | [_, _], _ => rfl⟩
  have DLNumber : Dn K mg "_law_number" sLNumber ["_law_state"] _ fdLNumber := ⟨FLNumber, He.glo_ok X G (c.fact 20 (f := .glo "_law_number") rfl), FunD.bindsN FLNumber fun _ _ _ _ _ _ us hl => match us, hl with | [_], _ => rfl⟩
  have DLDivisor : Dn K mg "_law_divisor" sLDivisor ["_law_state"] _ fdLDivisor := ⟨FLDivisor, He.glo_ok X G (c.fact 21 (f := .glo "_law_divisor") rfl), FunD.bindsN FLDivisor fun _ _ _ _ _ _ us hl => match us, hl with | [_], _ => rfl⟩
  have DLAngle : Dn K mg "_law_angle" sLAngle ["_law_state", "_law_deep"] _ fdLAngle := ⟨FLAngle, He.glo_ok X G (c.fact 22 (f := .glo "_law_angle") rfl), FunD.bindsN FLAngle fun _ _ _ _ _ _ us hl => match us, hl with | [_, _], _ => rfl⟩
  have DLQuantity : Dn K mg "_law_quantity" sLQuantity ["_law_state", "_law_deep"] _ fdLQuantity := ⟨FLQuantity, He.glo_ok X G (c.fact 23 (f := .glo "_law_quantity") rfl), FunD.bindsN FLQuantity fun _ _ _ _ _ _ us hl => match us, hl with | [_, _], _ => rfl⟩
  have DLWavePart : Dn K mg "_law_wave_part" sLWavePart ["_law_state"] _ fdLWavePart := ⟨FLWavePart, He.glo_ok X G (c.fact 24 (f := .glo "_law_wave_part") rfl), FunD.bindsN FLWavePart fun _ _ _ _ _ _ us hl => match us, hl with | [_], _ => rfl⟩
  have DLSeries : Dn K mg "_law_series" sLSeries ["_law_state"] _ fdLSeries := ⟨FLSeries, He.glo_ok X G (c.fact 25 (f := .glo "_law_series") rfl), FunD.bindsN FLSeries fun _ _ _ _ _ _ us hl => match us, hl with | [_], _ => rfl⟩
  have DLArch : Dn K mg "_law_arch" sLArch ["_law_u"] _ fdLArch := ⟨FLArch, He.glo_ok X G (c.fact 26 (f := .glo "_law_arch") rfl), FunD.bindsN FLArch fun _ _ _ _ _ _ us hl => match us, hl with | [_], _ => rfl⟩
  have DLWave : Dn K mg "_law_wave" sLWave ["_law_x"] _ fdLWave := ⟨FLWave, He.glo_ok X G (c.fact 27 (f := .glo "_law_wave") rfl), FunD.bindsN FLWave fun _ _ _ _ _ _ us hl => match us, hl with | [_], _ => rfl⟩
  have DLAngleAt : Dn K mg "_law_angle_at" sLAngleAt ["_law_a", "_law_t"] _ fdLAngleAt := ⟨FLAngleAt, He.glo_ok X G (c.fact 28 (f := .glo "_law_angle_at") rfl), FunD.bindsN FLAngleAt fun _ _ _ _ _ _ us hl => match us, hl with | [_, _], _ => rfl⟩
  have DLValue : Dn K mg "_law_value" sLValue ["_law_q", "_law_t"] _ fdLValue := ⟨FLValue, He.glo_ok X G (c.fact 29 (f := .glo "_law_value") rfl), FunD.bindsN FLValue fun _ _ _ _ _ _ us hl => match us, hl with | [_, _], _ => rfl⟩
  have DLUp : Dn K mg "_law_up" sLUp ["_law_number_here", "_law_divisor_here"] _ fdLUp := ⟨FLUp, He.glo_ok X G (c.fact 30 (f := .glo "_law_up") rfl), FunD.bindsN FLUp fun _ _ _ _ _ _ us hl => match us, hl with | [_, _], _ => rfl⟩
  have DLMost : Dn K mg "_law_most" sLMost ["_law_q"] _ fdLMost := ⟨FLMost, He.glo_ok X G (c.fact 31 (f := .glo "_law_most") rfl), FunD.bindsN FLMost fun _ _ _ _ _ _ us hl => match us, hl with | [_], _ => rfl⟩
  have DLAngleReach : Dn K mg "_law_angle_reach" sLAngleReach ["_law_a", "_law_k"] _ fdLAngleReach := ⟨FLAngleReach, He.glo_ok X G (c.fact 32 (f := .glo "_law_angle_reach") rfl), FunD.bindsN FLAngleReach fun _ _ _ _ _ _ us hl => match us, hl with | [_, _], _ => rfl⟩
  have DLReach : Dn K mg "_law_reach" sLReach ["_law_q", "_law_k"] _ fdLReach := ⟨FLReach, He.glo_ok X G (c.fact 33 (f := .glo "_law_reach") rfl), FunD.bindsN FLReach fun _ _ _ _ _ _ us hl => match us, hl with | [_, _], _ => rfl⟩
  have DLChanges : Dn K mg "_law_changes" sLChanges ["_law_q", "_law_start_here", "_law_end"] _ fdLChanges := ⟨FLChanges, He.glo_ok X G (c.fact 34 (f := .glo "_law_changes") rfl), FunD.bindsN FLChanges fun _ _ _ _ _ _ us hl => match us, hl with | [_, _, _], _ => rfl⟩
  have DLSure : Dn K mg "_law_sure" sLSure ["_law_q", "_law_now", "_law_k"] _ fdLSure := ⟨FLSure, He.glo_ok X G (c.fact 35 (f := .glo "_law_sure") rfl), FunD.bindsN FLSure fun _ _ _ _ _ _ us hl => match us, hl with | [_, _, _], _ => rfl⟩
  have DLLongest : Dn K mg "_law_longest" sLLongest ["_law_q", "_law_t", "_law_room"] _ fdLLongest := ⟨FLLongest, He.glo_ok X G (c.fact 36 (f := .glo "_law_longest") rfl), FunD.bindsN FLLongest fun _ _ _ _ _ _ us hl => match us, hl with | [_, _, _], _ => rfl⟩
  have e := hfa.symm.trans (He.glo_ok X G (c.fact 37 (f := .glo "law") rfl))
  cases e
  have bl := FunD.bindsA (ps := ["_law_script"]) FLaw fun _ _ _ _ _ _ us hl => match us, hl with | [_], _ => rfl
  refine ⟨fdLaw, fun s v => bl s [v] rfl, fun base _ _ => ?_⟩
  have cArch := DArch.cal (P := P) (w := w) (base := base) (ok_arch DArch.F T)
  have cWave := DWave.cal (P := P) (w := w) (base := base) (ok_wave DWave.F T cArch)
  have cWR := DWaveReach.cal (P := P) (w := w) (base := base) (ok_wr DWaveReach.F)
  have cRU := DRatioUp.cal (P := P) (w := w) (base := base) (ok_ru DRatioUp.F)
  have cSide := DSideName.cal (P := P) (w := w) (base := base) (ok_side DSideName.F)
  have cV := fun n => DValue.cal (P := P) (w := w) (base := base) (ok_val DValue DAngleValue T cWave n).1
  have cFM := fun n => DNFindMost.cal (P := P) (w := w) (base := base) (ok_fm DNFindMost T N cRU n)
  have cN : ∀ n, CalN P w K mg base (He.ga K "Node") (2 * n + 3) ["self", "expression"] (spInit (He.ga K "Node") n) := fun n => ⟨_, _, M, N.mgC, bI, ok_init FNInit M bI T N cFM n⟩
  have cR := fun n => DNReach.cal (P := P) (w := w) (base := base) (ok_nreach DNReach DNAngleReach DNPlainReach T N cRU cWR n)
  have cReach := DReach.cal (P := P) (w := w) (base := base) (ok_reach DReach.F N 8 (cN 8) (cR 8))
  have cIS := DIsSure.cal (P := P) (w := w) (base := base) (ok_is DIsSure.F N 8 (cR 8))
  have cLon := DLongest.cal (P := P) (w := w) (base := base) (ok_lon DLongest.F T 8 cIS)
  have cSC := DSidedCells.cal (P := P) (w := w) (base := base) (ok_sc DSidedCells.F T 8 (cN 8) (cV 8) cLon)
  have cPaper := DPaper.cal (P := P) (w := w) (base := base) (ok_paper DPaper.F 8 cSC)
  have cChg := DChanges.cal (P := P) (w := w) (base := base) (ok_chg DChanges.F T 8 cSC cSide)
  have cISC := DIsSureCell.cal (P := P) (w := w) (base := base) (ok_isc DIsSureCell.F 8 (cV 8) cReach)
  have cTakes := DTakes.cal (P := P) (w := w) (base := base) (ok_takes DTakes.F 8 cISC)
  have cOf := DChangesOf.cal (P := P) (w := w) (base := base) (ok_chgof DChangesOf.F T 8 (cV 8) cSide)
  have cLA := DLArch.cal (P := P) (w := w) (base := base) (ok_larch DLArch.F)
  have cLW := DLWave.cal (P := P) (w := w) (base := base) (ok_lwave DLWave.F T cLA)
  have cLV := fun n => DLValue.cal (P := P) (w := w) (base := base) (ok_lval DLValue DLAngleAt T cLW n).1
  have cLU := DLUp.cal (P := P) (w := w) (base := base) (ok_lup DLUp.F)
  have cLM := fun n => DLMost.cal (P := P) (w := w) (base := base) (ok_lmost DLMost T cLU n)
  have cLR := fun n => DLReach.cal (P := P) (w := w) (base := base) (ok_lreach DLReach DLAngleReach T cLU cLM n).1
  have cLC := DLChanges.cal (P := P) (w := w) (base := base) (ok_lchg DLChanges.F T 8 (cLV 8))
  have cLS := DLSure.cal (P := P) (w := w) (base := base) (ok_lsure DLSure.F 8 (cLR 8))
  have cLL := DLLongest.cal (P := P) (w := w) (base := base) (ok_llon DLLongest.F T 8 (cLV 8) cLS)
  have cLI := DLIs.cal (P := P) (w := w) (base := base) (ok_lis DLIs.F T)
  have cSt := DLStart.cal (P := P) (w := w) (base := base) (ok_start DLStart.F T)
  have cDr := DLDraw.cal (P := P) (w := w) (base := base) (ok_draw DLDraw.F T)
  have cPi := DLPick.cal (P := P) (w := w) (base := base) (ok_pick DLPick.F T cDr)
  have cNu := DLNumber.cal (P := P) (w := w) (base := base) (ok_num DLNumber.F cDr cPi)
  have cDi := DLDivisor.cal (P := P) (w := w) (base := base) (ok_div DLDivisor.F cDr cPi)
  have cWP := DLWavePart.cal (P := P) (w := w) (base := base) (ok_wp DLWavePart.F cDr cPi)
  have B : Bld P w K mg base := ⟨cDr, cPi, cNu, cDi⟩
  have cAQ := ok_aq DLAngle DLQuantity T B 3
  have cSe := DLSeries.cal (P := P) (w := w) (base := base) (ok_series DLSeries.F T B cWP)
  exact ok_law FLaw T ⟨cSt, cDr, cPi, cSe, cAQ.2, cLC, cChg, cPaper, cLL, cOf, cTakes, cLI⟩
end Ta
open PySem PySem.W PySem.Calls PyProof.Rows
theorem PySem.Challenge.cw_truealmanac_k06_whole_changes_and_papers_holds : PySem.Challenge.rw_truealmanac_k06_whole_changes_and_papers.Holds := by
  w_on; o_law
  refine HandSHeadRun.head_any (r := OpenLaw.row PySem.Challenge.rw_truealmanac_k06_whole_changes_and_papers) (q := view (OpenLaw.row PySem.Challenge.rw_truealmanac_k06_whole_changes_and_papers).prog [48]) (H := Ta.hk) (ob := Ta.ob) (M := 4000) (loose := Ta.loose) (d := HandSHeadRun.topDef (OpenLaw.row PySem.Challenge.rw_truealmanac_k06_whole_changes_and_papers).prog 48) (kwd := []) Ta.ob_eq
    (by kernel_rfl) (fun s => by kernel_rfl) Ta.run (by kernel_rfl) (by kernel_rfl) (by kernel_rfl) (by rfl) (by first | assumption | decide +kernel) (by decide +kernel) ⟨rfl, rfl, rfl, rfl, rfl, by decide +kernel⟩ ?hw ?hc
  case hw => w_witness2
  case hc =>
    refine L2.walk_ofE (l := PySem.Challenge.rw_truealmanac_k06_whole_changes_and_papers) (n := 63) (k := 24) (x := "_law_script") (CX := L2.CX0) rfl (by decide) (by kernel_rfl) ⟨rfl, by decide, by decide⟩ ?F (fun _ _ _ _ z => z)
    intro w mg fa h Y G hmg0
    obtain ⟨K, KX, c⟩ := Y
    have hmg : mg ("law" : PySem.Str) = some (.ref fa) := by
      have e : (HandSHeadRun.topDef (OpenLaw.row PySem.Challenge.rw_truealmanac_k06_whole_changes_and_papers).prog 48).name = ("law" : PySem.Str) := by kernel_rfl
      rw [← e]
      exact hmg0
    obtain ⟨fd, hb, hF⟩ := Ta.facts (P := (PySem.Challenge.rw_truealmanac_k06_whole_changes_and_papers).prog) (w := w) KX G hmg c
    exact ⟨K, fd, Ta.spLaw K, KX, hb, fun H a ns hl _ hS => ⟨a, ns, rfl, hS, hl, fun _ => rfl⟩, hF⟩
