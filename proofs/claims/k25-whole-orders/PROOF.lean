import PyProof.Rows.All
import Wide.All
import OpenK.AllK
import Wide.FinOn
import HandS.ForMost
import HandS.Sort
import HandS.SortOrd
import HandS.SortInts
import HandS.TupLe
import HandS.NamedTupSort
import HandS.Gcd
import HandS.Wide
import HandS.WideMore
import HandS.Deep
import HandS.DictComp
import HandS.Zip
import HandS.SetFor
import HandS.Evl
import HandS.Walk
import HandS.Defaults
import KE.KStateDown
import HandS.Head0
import HandS.Head1
import HandS.Head2
import HandS.Head3
import HandS.HeadEnd
import HandS.HeadHook1
import HandS.HeadHook2
import HandS.HeadHook3
import HandS.HeadHook4
import PySem.Challenge.RW_turnprimes_k25_whole_orders
set_option Elab.async false
set_option linter.all false
set_option maxRecDepth 100000
set_option maxHeartbeats 4000000
/-! The numbers of four parts in a basis without conditions; sums, products, norms, remainders, common divisors. -/
namespace TP
structure Hz where
  p : Int
  q : Int
  r : Int
  s : Int
  deriving DecidableEq
namespace Hz
def zero : Hz := ⟨0, 0, 0, 0⟩
def one : Hz := ⟨2, -1, -1, -1⟩
def ofI (n : Int) : Hz := ⟨2 * n, -n, -n, -n⟩
def add (x y : Hz) : Hz := ⟨x.p + y.p, x.q + y.q, x.r + y.r, x.s + y.s⟩
def sub (x y : Hz) : Hz := ⟨x.p - y.p, x.q - y.q, x.r - y.r, x.s - y.s⟩
def smul (n : Int) (x : Hz) : Hz := ⟨n * x.p, n * x.q, n * x.r, n * x.s⟩
def conj (x : Hz) : Hz := ⟨x.p, -x.p - x.q, -x.p - x.r, -x.p - x.s⟩
def mul (x y : Hz) : Hz :=
  ⟨-(x.p * y.p) - x.p * (y.q + y.r + y.s) - y.p * (x.q + x.r + x.s) - 2 * (x.q * y.q + x.r * y.r + x.s * y.s),
   x.p * y.p + x.p * (y.q + y.s) + y.p * (x.q + x.r) + (x.r * y.s - x.s * y.r) + (x.q * y.q + x.r * y.r + x.s * y.s),
   x.p * y.p + x.p * (y.r + y.q) + y.p * (x.r + x.s) + (x.s * y.q - x.q * y.s) + (x.q * y.q + x.r * y.r + x.s * y.s),
   x.p * y.p + x.p * (y.s + y.r) + y.p * (x.s + x.q) + (x.q * y.r - x.r * y.q) + (x.q * y.q + x.r * y.r + x.s * y.s)⟩
def nm (x : Hz) : Int := x.p * x.p + x.p * (x.q + x.r + x.s) + (x.q * x.q + x.r * x.r + x.s * x.s)
/-- the doubled parts -/
def dl (x : Hz) : List Int := [x.p, x.p + 2 * x.q, x.p + 2 * x.r, x.p + 2 * x.s]
def ofD (a b c d : Int) : Hz := ⟨a, (b - a) / 2, (c - a) / 2, (d - a) / 2⟩

theorem ext4 {x y : Hz} (h1 : x.p = y.p) (h2 : x.q = y.q) (h3 : x.r = y.r) (h4 : x.s = y.s) : x = y := by
  cases x; cases y; simp only at h1 h2 h3 h4; subst h1 h2 h3 h4; rfl
theorem dl_inj {x y : Hz} (h : dl x = dl y) : x = y := by
  simp only [dl, List.cons.injEq, and_true] at h
  obtain ⟨h1, h2, h3, h4⟩ := h
  exact ext4 h1 (by omega) (by omega) (by omega)

theorem nm_mul (x y : Hz) : nm (mul x y) = nm x * nm y := by
  simp only [nm, mul]; grind
theorem mul_assoc (x y z : Hz) : mul (mul x y) z = mul x (mul y z) := by
  apply ext4 <;> simp only [mul] <;> grind
theorem mul_add (x y z : Hz) : mul x (add y z) = add (mul x y) (mul x z) := by
  apply ext4 <;> simp only [mul, add] <;> grind
theorem mul_sub (x y z : Hz) : mul x (sub y z) = sub (mul x y) (mul x z) := by
  apply ext4 <;> simp only [mul, sub] <;> grind
theorem add_mul (x y z : Hz) : mul (add x y) z = add (mul x z) (mul y z) := by
  apply ext4 <;> simp only [mul, add] <;> grind
theorem mul_smul (n : Int) (x y : Hz) : mul x (smul n y) = smul n (mul x y) := by
  apply ext4 <;> simp only [mul, smul] <;> grind
theorem smul_mul (n : Int) (x y : Hz) : mul (smul n x) y = smul n (mul x y) := by
  apply ext4 <;> simp only [mul, smul] <;> grind
theorem smul_smul (m n : Int) (x : Hz) : smul m (smul n x) = smul (m * n) x := by
  apply ext4 <;> simp only [smul] <;> grind
theorem smul_add (n : Int) (x y : Hz) : smul n (add x y) = add (smul n x) (smul n y) := by
  apply ext4 <;> simp only [smul, add] <;> grind
theorem conj_mul (x y : Hz) : conj (mul x y) = mul (conj y) (conj x) := by
  apply ext4 <;> simp only [mul, conj] <;> grind
theorem conj_conj (x : Hz) : conj (conj x) = x := by
  apply ext4 <;> simp only [conj] <;> omega
theorem conj_smul (n : Int) (x : Hz) : conj (smul n x) = smul n (conj x) := by
  apply ext4 <;> simp only [conj, smul] <;> grind
theorem nm_conj (x : Hz) : nm (conj x) = nm x := by simp only [nm, conj]; grind
theorem nm_smul (n : Int) (x : Hz) : nm (smul n x) = n * n * nm x := by simp only [nm, smul]; grind
theorem nm_ofI (n : Int) : nm (ofI n) = n * n := by simp only [nm, ofI]; grind
theorem ofI_mul (n : Int) (x : Hz) : mul (ofI n) x = smul n x := by
  apply ext4 <;> simp only [mul, ofI, smul] <;> grind
theorem mul_ofI (n : Int) (x : Hz) : mul x (ofI n) = smul n x := by
  apply ext4 <;> simp only [mul, ofI, smul] <;> grind
theorem conj_mul_self (x : Hz) : mul (conj x) x = ofI (nm x) := by
  apply ext4 <;> simp only [mul, conj, ofI, nm] <;> grind
theorem mul_conj_self (x : Hz) : mul x (conj x) = ofI (nm x) := by
  apply ext4 <;> simp only [mul, conj, ofI, nm] <;> grind
theorem one_eq : one = ofI 1 := rfl
theorem smul_one (x : Hz) : smul 1 x = x := by apply ext4 <;> simp only [smul] <;> omega
theorem one_mul (x : Hz) : mul one x = x := by rw [one_eq, ofI_mul, smul_one]
theorem mul_one (x : Hz) : mul x one = x := by rw [one_eq, mul_ofI, smul_one]
theorem mul_zero (x : Hz) : mul x zero = zero := by apply ext4 <;> simp [mul, zero]
theorem zero_mul (x : Hz) : mul zero x = zero := by apply ext4 <;> simp [mul, zero]
theorem sub_self (x : Hz) : sub x x = zero := by apply ext4 <;> simp only [sub, zero] <;> omega
theorem eq_of_sub {x y : Hz} (h : sub x y = zero) : x = y := by
  simp only [sub, zero, Hz.mk.injEq] at h
  apply ext4 <;> omega
theorem add_zero (x : Hz) : add x zero = x := by apply ext4 <;> simp only [add, zero] <;> omega
theorem zero_add (x : Hz) : add zero x = x := by apply ext4 <;> simp only [add, zero] <;> omega

theorem four_nm (x : Hz) : 4 * nm x = x.p * x.p + (x.p + 2 * x.q) * (x.p + 2 * x.q) + (x.p + 2 * x.r) * (x.p + 2 * x.r) + (x.p + 2 * x.s) * (x.p + 2 * x.s) := by
  simp only [nm]; grind
theorem sq_nonneg (a : Int) : 0 ≤ a * a := by
  rcases Int.le_total 0 a with h | h
  · exact Int.mul_nonneg h h
  · exact Int.mul_nonneg_of_nonpos_of_nonpos h h
theorem sq_zero {a : Int} (h : a * a = 0) : a = 0 := by
  rcases Int.mul_eq_zero.mp h with h | h <;> exact h
theorem nm_nonneg (x : Hz) : 0 ≤ nm x := by
  have h := four_nm x
  have a := sq_nonneg x.p
  have b := sq_nonneg (x.p + 2 * x.q)
  have c := sq_nonneg (x.p + 2 * x.r)
  have d := sq_nonneg (x.p + 2 * x.s)
  omega
theorem nm_eq_zero {x : Hz} (h : nm x = 0) : x = zero := by
  have h4 := four_nm x
  have a := sq_nonneg x.p
  have b := sq_nonneg (x.p + 2 * x.q)
  have c := sq_nonneg (x.p + 2 * x.r)
  have d := sq_nonneg (x.p + 2 * x.s)
  have e1 := sq_zero (a := x.p) (by omega)
  have e2 := sq_zero (a := x.p + 2 * x.q) (by omega)
  have e3 := sq_zero (a := x.p + 2 * x.r) (by omega)
  have e4 := sq_zero (a := x.p + 2 * x.s) (by omega)
  apply ext4 <;> simp only [zero] <;> omega
theorem nm_zero : nm zero = 0 := rfl
theorem nm_pos {x : Hz} (h : x ≠ zero) : 0 < nm x := by
  have := nm_nonneg x
  rcases Int.lt_or_eq_of_le this with h1 | h1
  · exact h1
  · exact absurd (nm_eq_zero h1.symm) h
theorem mul_eq_zero {b x : Hz} (hb : b ≠ zero) (h : mul b x = zero) : x = zero := by
  have e := congrArg nm h
  rw [nm_mul, nm_zero] at e
  rcases Int.mul_eq_zero.mp e with e | e
  · exact absurd (nm_eq_zero e) hb
  · exact nm_eq_zero e
theorem mul_left_cancel {b x y : Hz} (hb : b ≠ zero) (h : mul b x = mul b y) : x = y := by
  refine eq_of_sub (mul_eq_zero hb ?_)
  rw [mul_sub, h, sub_self]
theorem smul_eq_zero {n : Int} {x : Hz} (hn : n ≠ 0) (h : smul n x = zero) : x = zero := by
  have e := congrArg nm h
  rw [nm_smul, nm_zero] at e
  rcases Int.mul_eq_zero.mp e with e | e
  · rcases Int.mul_eq_zero.mp e with e | e <;> exact absurd e hn
  · exact nm_eq_zero e
theorem smul_cancel {n : Int} {x y : Hz} (hn : n ≠ 0) (h : smul n x = smul n y) : x = y := by
  refine eq_of_sub (smul_eq_zero hn ?_)
  have e : smul n (sub x y) = sub (smul n x) (smul n y) := by apply ext4 <;> simp only [smul, sub] <;> grind
  rw [e, h, sub_self]

/-! ### the nearest number -/
/-- the square of the distance of n times x from z, in doubled parts -/
def dist (z : Hz) (n : Int) (x : Hz) : Int :=
  (n * x.p - z.p) * (n * x.p - z.p) + (n * (x.p + 2 * x.q) - (z.p + 2 * z.q)) * (n * (x.p + 2 * x.q) - (z.p + 2 * z.q))
  + (n * (x.p + 2 * x.r) - (z.p + 2 * z.r)) * (n * (x.p + 2 * x.r) - (z.p + 2 * z.r)) + (n * (x.p + 2 * x.s) - (z.p + 2 * z.s)) * (n * (x.p + 2 * x.s) - (z.p + 2 * z.s))
theorem dist_eq (z : Hz) (n : Int) (x : Hz) : dist z n x = 4 * nm (sub (smul n x) z) := by
  simp only [dist, nm, sub, smul]; grind
def wh (t n : Int) : Int := 2 * ((t + n) / (2 * n))
def ha (t n : Int) : Int := 2 * (t / (2 * n)) + 1
def whole (z : Hz) (n : Int) : Hz := ofD (wh z.p n) (wh (z.p + 2 * z.q) n) (wh (z.p + 2 * z.r) n) (wh (z.p + 2 * z.s) n)
def halves (z : Hz) (n : Int) : Hz := ofD (ha z.p n) (ha (z.p + 2 * z.q) n) (ha (z.p + 2 * z.r) n) (ha (z.p + 2 * z.s) n)
theorem dl_ofD {a b c d : Int} (h1 : (b - a) % 2 = 0) (h2 : (c - a) % 2 = 0) (h3 : (d - a) % 2 = 0) : dl (ofD a b c d) = [a, b, c, d] := by
  simp only [dl, ofD, List.cons.injEq, and_true]
  refine ⟨trivial, ?_, ?_, ?_⟩ <;> omega
theorem whole_dl (z : Hz) (n : Int) : dl (whole z n) = [wh z.p n, wh (z.p + 2 * z.q) n, wh (z.p + 2 * z.r) n, wh (z.p + 2 * z.s) n] :=
  dl_ofD (by simp only [wh]; omega) (by simp only [wh]; omega) (by simp only [wh]; omega)
theorem halves_dl (z : Hz) (n : Int) : dl (halves z n) = [ha z.p n, ha (z.p + 2 * z.q) n, ha (z.p + 2 * z.r) n, ha (z.p + 2 * z.s) n] :=
  dl_ofD (by simp only [ha]; omega) (by simp only [ha]; omega) (by simp only [ha]; omega)
/-- lexicographic order of the doubled parts -/
def lexL : List Int → List Int → Bool
  | [], [] => false
  | [], _ :: _ => true
  | _ :: _, [] => false
  | x :: xs, y :: ys => if x = y then lexL xs ys else decide (x < y)
def lt (x y : Hz) : Bool := lexL (dl x) (dl y)
def near (z : Hz) (n : Int) : Hz :=
  if dist z n (whole z n) = dist z n (halves z n) then (if lt (whole z n) (halves z n) = true then halves z n else whole z n)
  else if dist z n (whole z n) < dist z n (halves z n) then whole z n else halves z n
theorem coord (t n : Int) (hn : 0 < n) : (n * wh t n - t) * (n * wh t n - t) + (n * ha t n - t) * (n * ha t n - t) ≤ n * n := by
  -- t = 2 n k + u
  have hk : t = 2 * n * (t / (2 * n)) + t % (2 * n) := (Int.mul_ediv_add_emod t (2 * n)).symm
  have hu0 : 0 ≤ t % (2 * n) := Int.emod_nonneg _ (by omega)
  have hu1 : t % (2 * n) < 2 * n := Int.emod_lt_of_pos _ (by omega)
  generalize hK : t / (2 * n) = k at hk
  generalize t % (2 * n) = u at hk hu0 hu1
  by_cases c : u < n
  · have hw : (t + n) / (2 * n) = k := by
      have e : t + n = (u + n) + 2 * n * k := by rw [hk]; omega
      rw [e, Int.add_mul_ediv_left _ _ (by omega), Int.ediv_eq_zero_of_lt (by omega) (by omega)]
      omega
    have e1 : n * wh t n - t = -u := by simp only [wh, hw]; rw [hk]; grind
    have e2 : n * ha t n - t = n - u := by simp only [ha, hK]; rw [hk]; grind
    rw [e1, e2]
    have m : 0 ≤ u * (n - u) := Int.mul_nonneg hu0 (by omega)
    have : n * n - (-u * -u + (n - u) * (n - u)) = 2 * (u * (n - u)) := by grind
    omega
  · have hw : (t + n) / (2 * n) = k + 1 := by
      have e : t + n = (u - n) + 2 * n * (k + 1) := by rw [hk]; grind
      rw [e, Int.add_mul_ediv_left _ _ (by omega), Int.ediv_eq_zero_of_lt (by omega) (by omega)]
      omega
    have e1 : n * wh t n - t = 2 * n - u := by simp only [wh, hw]; rw [hk]; grind
    have e2 : n * ha t n - t = n - u := by simp only [ha, hK]; rw [hk]; grind
    rw [e1, e2]
    have m : 0 ≤ (2 * n - u) * (u - n) := Int.mul_nonneg (by omega) (by omega)
    have : n * n - ((2 * n - u) * (2 * n - u) + (n - u) * (n - u)) = 2 * ((2 * n - u) * (u - n)) := by grind
    omega
theorem dist_of_dl {z x : Hz} {n a b c d : Int} (h : dl x = [a, b, c, d]) : dist z n x = (n * a - z.p) * (n * a - z.p) + (n * b - (z.p + 2 * z.q)) * (n * b - (z.p + 2 * z.q)) + (n * c - (z.p + 2 * z.r)) * (n * c - (z.p + 2 * z.r)) + (n * d - (z.p + 2 * z.s)) * (n * d - (z.p + 2 * z.s)) := by
  simp only [dl, List.cons.injEq, and_true] at h
  obtain ⟨h1, h2, h3, h4⟩ := h
  simp only [dist, h1, ← h2, ← h3, ← h4]
theorem near_le (z : Hz) (n : Int) (hn : 0 < n) : dist z n (near z n) ≤ 2 * (n * n) := by
  have e1 := dist_of_dl (z := z) (n := n) (whole_dl z n)
  have e2 := dist_of_dl (z := z) (n := n) (halves_dl z n)
  have c1 := coord z.p n hn
  have c2 := coord (z.p + 2 * z.q) n hn
  have c3 := coord (z.p + 2 * z.r) n hn
  have c4 := coord (z.p + 2 * z.s) n hn
  have s : dist z n (whole z n) + dist z n (halves z n) ≤ 4 * (n * n) := by omega
  unfold near
  split
  · split <;> omega
  · split <;> omega
def rem (a b : Hz) : Hz := sub a (mul b (near (mul (conj b) a) (nm b)))
def quo (a b : Hz) : Hz := near (mul (conj b) a) (nm b)
theorem rem_key (a b x : Hz) : nm b * nm (sub a (mul b x)) = nm (sub (smul (nm b) x) (mul (conj b) a)) := by
  have e : nm b * nm (sub a (mul b x)) = nm (mul (conj b) (sub a (mul b x))) := by rw [nm_mul, nm_conj]
  rw [e, mul_sub, ← mul_assoc, conj_mul_self, ofI_mul]
  simp only [nm, sub]; grind
theorem rem_half (a b : Hz) (hb : b ≠ zero) : 2 * nm (rem a b) ≤ nm b := by
  have hn := nm_pos hb
  have h1 := near_le (mul (conj b) a) (nm b) hn
  rw [dist_eq, ← rem_key] at h1
  have h2 : nm b * (2 * nm (rem a b)) ≤ nm b * nm b := by
    have : nm b * (2 * nm (rem a b)) = 2 * (nm b * nm (sub a (mul b (near (mul (conj b) a) (nm b))))) := by unfold rem; grind
    omega
  exact Int.le_of_mul_le_mul_left h2 hn
theorem rem_lt (a b : Hz) (hb : b ≠ zero) : nm (rem a b) < nm b := by
  have := rem_half a b hb
  have := nm_nonneg (rem a b)
  have := nm_pos hb
  omega
/-- an exact quotient is found -/
theorem quo_mul (b x : Hz) (hb : b ≠ zero) : quo (mul b x) b = x := by
  have h := rem_half (mul b x) b hb
  have e : rem (mul b x) b = mul b (sub x (quo (mul b x) b)) := by unfold rem quo; rw [mul_sub]
  rw [e, nm_mul] at h
  have hn := nm_pos hb
  have z : nm (sub x (quo (mul b x) b)) = 0 := by
    have := nm_nonneg (sub x (quo (mul b x) b))
    rcases Int.lt_or_eq_of_le this with l | l
    · exfalso
      have : nm b * 1 ≤ nm b * nm (sub x (quo (mul b x) b)) := Int.mul_le_mul_of_nonneg_left l (by omega)
      omega
    · exact l.symm
  exact (eq_of_sub (nm_eq_zero z)).symm
theorem rem_mul (b x : Hz) (hb : b ≠ zero) : rem (mul b x) b = zero := by
  have e : rem (mul b x) b = sub (mul b x) (mul b (quo (mul b x) b)) := rfl
  rw [e, quo_mul b x hb, sub_self]

/-! ### the greatest common left divisor -/
def gcdF : Nat → Hz → Hz → Hz
  | 0, a, _ => a
  | k + 1, a, b => if b = zero then a else gcdF k b (rem a b)
def gcd (a b : Hz) : Hz := gcdF ((nm b).toNat + 1) a b
theorem sub_add (x y : Hz) : add (sub x y) y = x := by apply ext4 <;> simp only [add, sub] <;> omega
theorem gcdF_spec : ∀ (k : Nat) (a b : Hz), (nm b).toNat < k → ∃ x y u v, gcdF k a b = add (mul a x) (mul b y) ∧ a = mul (gcdF k a b) u ∧ b = mul (gcdF k a b) v
  | 0, a, b, h => absurd h (Nat.not_lt_zero _)
  | k + 1, a, b, h => by
    unfold gcdF
    by_cases hb : b = zero
    · rw [if_pos hb]
      refine ⟨one, zero, one, zero, ?_, (mul_one _).symm, ?_⟩
      · rw [mul_one, mul_zero, add_zero]
      · rw [mul_zero]; exact hb
    · rw [if_neg hb]
      have hl := rem_lt a b hb
      have h0 := nm_nonneg (rem a b)
      obtain ⟨x, y, u, v, e, e1, e2⟩ := gcdF_spec k b (rem a b) (by omega)
      generalize gcdF k b (rem a b) = g at e e1 e2
      refine ⟨y, sub x (mul (quo a b) y), add v (mul u (quo a b)), u, ?_, ?_, e1⟩
      · rw [e]
        have : rem a b = sub a (mul b (quo a b)) := rfl
        rw [this, mul_sub, ← mul_assoc b (quo a b) y]
        generalize mul b (quo a b) = w
        apply ext4 <;> simp only [add, sub, mul] <;> grind
      · have : a = add (rem a b) (mul b (quo a b)) := (sub_add a _).symm
        rw [mul_add, ← e2, ← mul_assoc, ← e1]
        exact this
theorem gcd_spec (a b : Hz) : ∃ x y u v, gcd a b = add (mul a x) (mul b y) ∧ a = mul (gcd a b) u ∧ b = mul (gcd a b) v := gcdF_spec _ a b (Nat.lt_succ_self _)
end Hz
end TP
set_option maxHeartbeats 4000000
/-! Units, the canonical associate, primitive numbers, rows. -/
namespace TP
namespace Hz
/-! ### the order -/
theorem lexL_irrefl : ∀ l : List Int, lexL l l = false
  | [] => rfl
  | x :: l => by show (if x = x then lexL l l else decide (x < x)) = false; rw [if_pos rfl]; exact lexL_irrefl l
theorem lexL_tri : ∀ l m : List Int, l.length = m.length → lexL l m = false → lexL m l = false → l = m
  | [], [], _, _, _ => rfl
  | [], _ :: _, h, _, _ => by simp at h
  | _ :: _, [], h, _, _ => by simp at h
  | x :: l, y :: m, h, h1, h2 => by
    by_cases e : x = y
    · subst e
      have a : lexL l m = false := by have := h1; unfold lexL at this; rwa [if_pos rfl] at this
      have b : lexL m l = false := by have := h2; unfold lexL at this; rwa [if_pos rfl] at this
      rw [lexL_tri l m (by simpa using h) a b]
    · have a : decide (x < y) = false := by have := h1; unfold lexL at this; rwa [if_neg e] at this
      have b : decide (y < x) = false := by have := h2; unfold lexL at this; rwa [if_neg (Ne.symm e)] at this
      have a' := of_decide_eq_false a
      have b' := of_decide_eq_false b
      omega
/-- not below, carried on -/
theorem lexL_tr : ∀ l m n : List Int, l.length = m.length → m.length = n.length → lexL l m = false → lexL m n = false → lexL l n = false
  | [], [], [], _, _, _, _ => rfl
  | [], _ :: _, _, h, _, _, _ => by simp at h
  | _ :: _, [], _, h, _, _, _ => by simp at h
  | [], [], _ :: _, _, h, _, _ => by simp at h
  | _ :: _, _ :: _, [], _, h, _, _ => by simp at h
  | x :: l, y :: m, z :: n, h, h', h1, h2 => by
    have a : (if x = y then lexL l m else decide (x < y)) = false := h1
    have b : (if y = z then lexL m n else decide (y < z)) = false := h2
    show (if x = z then lexL l n else decide (x < z)) = false
    by_cases e : x = y
    · subst e
      rw [if_pos rfl] at a
      by_cases f : x = z
      · subst f
        rw [if_pos rfl] at b ⊢
        exact lexL_tr l m n (by simpa using h) (by simpa using h') a b
      · rw [if_neg f] at b ⊢
        exact b
    · rw [if_neg e] at a
      have a' := of_decide_eq_false a
      by_cases f : y = z
      · subst f
        rw [if_neg e]
        exact a
      · rw [if_neg f] at b
        have b' := of_decide_eq_false b
        rw [if_neg (by omega)]
        exact decide_eq_false (by omega)
theorem dl_len (x : Hz) : (dl x).length = 4 := rfl
theorem lt_irrefl (x : Hz) : lt x x = false := lexL_irrefl _
theorem lt_tri {x y : Hz} (h1 : lt x y = false) (h2 : lt y x = false) : x = y := dl_inj (lexL_tri _ _ rfl h1 h2)
theorem lt_tr {x y z : Hz} (h1 : lt x y = false) (h2 : lt y z = false) : lt x z = false := lexL_tr (dl x) (dl y) (dl z) rfl rfl h1 h2
theorem lexL_asym : ∀ l m : List Int, lexL l m = true → lexL m l = false
  | [], [], h => by cases h
  | [], _ :: _, _ => rfl
  | _ :: _, [], h => by cases h
  | x :: l, y :: m, h => by
    have a : (if x = y then lexL l m else decide (x < y)) = true := h
    show (if y = x then lexL m l else decide (y < x)) = false
    by_cases e : x = y
    · subst e
      rw [if_pos rfl] at a ⊢
      exact lexL_asym l m a
    · rw [if_neg e] at a
      have := of_decide_eq_true a
      rw [if_neg (Ne.symm e)]
      exact decide_eq_false (by omega)

/-- the greatest of a list, from a first one on -/
def mx (a : Hz) (l : List Hz) : Hz := l.foldl (fun m y => if lt m y = true then y else m) a
theorem mx_spec : ∀ (l : List Hz) (a : Hz), (mx a l = a ∨ mx a l ∈ l) ∧ lt (mx a l) a = false ∧ ∀ y ∈ l, lt (mx a l) y = false
  | [], a => ⟨.inl rfl, lt_irrefl a, fun y h => by simp at h⟩
  | y :: l, a => by
    have e : mx a (y :: l) = mx (if lt a y = true then y else a) l := rfl
    rw [e]
    obtain ⟨h1, h2, h3⟩ := mx_spec l (if lt a y = true then y else a)
    by_cases c : lt a y = true
    · rw [if_pos c] at h1 h2 h3 ⊢
      refine ⟨.inr ?_, ?_, ?_⟩
      · rcases h1 with h1 | h1
        · rw [h1]; exact List.mem_cons_self
        · exact List.mem_cons_of_mem _ h1
      · exact lt_tr h2 (lexL_asym _ _ c)
      · intro z hz
        rcases List.mem_cons.mp hz with e | hz
        · rw [e]; exact h2
        · exact h3 z hz
    · rw [if_neg c] at h1 h2 h3 ⊢
      refine ⟨?_, h2, ?_⟩
      · rcases h1 with h1 | h1
        · exact .inl h1
        · exact .inr (List.mem_cons_of_mem _ h1)
      · intro z hz
        rcases List.mem_cons.mp hz with e | hz
        · rw [e]; exact lt_tr h2 (by simpa using c)
        · exact h3 z hz

/-! ### the units -/
def unitsD : List (Int × Int × Int × Int) := [(-2, 0, 0, 0), (-1, -1, -1, -1), (-1, -1, -1, 1), (-1, -1, 1, -1), (-1, -1, 1, 1), (-1, 1, -1, -1), (-1, 1, -1, 1), (-1, 1, 1, -1), (-1, 1, 1, 1), (0, -2, 0, 0), (0, 0, -2, 0), (0, 0, 0, -2), (0, 0, 0, 2), (0, 0, 2, 0), (0, 2, 0, 0), (1, -1, -1, -1), (1, -1, -1, 1), (1, -1, 1, -1), (1, -1, 1, 1), (1, 1, -1, -1), (1, 1, -1, 1), (1, 1, 1, -1), (1, 1, 1, 1), (2, 0, 0, 0)]
def units : List Hz := unitsD.map fun t => ofD t.1 t.2.1 t.2.2.1 t.2.2.2
theorem units_dl : units.map dl = unitsD.map fun t => [t.1, t.2.1, t.2.2.1, t.2.2.2] := by decide +kernel
theorem units_nm : ∀ u ∈ units, nm u = 1 := by decide +kernel
theorem units_nodup : units.Nodup := by decide +kernel
theorem unit_small {a b c d : Int} (h : a * a + b * b + c * c + d * d = 4) : -2 ≤ a ∧ a ≤ 2 := by
  have hb := sq_nonneg b
  have hc := sq_nonneg c
  have hd := sq_nonneg d
  have ha : a * a ≤ 4 := by omega
  constructor
  · apply Int.not_lt.mp
    intro hl
    have : 3 * 3 ≤ (-a) * (-a) := Int.mul_le_mul (by omega) (by omega) (by omega) (by omega)
    have e : (-a) * (-a) = a * a := by grind
    omega
  · apply Int.not_lt.mp
    intro hl
    have : 3 * 3 ≤ a * a := Int.mul_le_mul (by omega) (by omega) (by omega) (by omega)
    omega
theorem small_all : ∀ a ∈ [-2, -1, 0, 1, 2], ∀ b ∈ [-2, -1, 0, 1, 2], ∀ c ∈ [-2, -1, 0, 1, 2], ∀ d ∈ ([-2, -1, 0, 1, 2] : List Int),
    (b - a) % 2 = 0 → (c - a) % 2 = 0 → (d - a) % 2 = 0 → a * a + b * b + c * c + d * d = 4 → ofD a b c d ∈ units := by decide +kernel
theorem small_mem {a : Int} (h : -2 ≤ a ∧ a ≤ 2) : a ∈ ([-2, -1, 0, 1, 2] : List Int) := by
  have : a = -2 ∨ a = -1 ∨ a = 0 ∨ a = 1 ∨ a = 2 := by omega
  rcases this with h | h | h | h | h <;> subst h <;> decide
theorem ofD_dl (x : Hz) : ofD x.p (x.p + 2 * x.q) (x.p + 2 * x.r) (x.p + 2 * x.s) = x := by
  apply ext4 <;> simp only [ofD] <;> omega
theorem mem_units {u : Hz} (h : nm u = 1) : u ∈ units := by
  have e := four_nm u
  rw [h] at e
  have ea := unit_small (a := u.p) (b := u.p + 2 * u.q) (c := u.p + 2 * u.r) (d := u.p + 2 * u.s) (by omega)
  have eb := unit_small (a := u.p + 2 * u.q) (b := u.p) (c := u.p + 2 * u.r) (d := u.p + 2 * u.s) (by omega)
  have ec := unit_small (a := u.p + 2 * u.r) (b := u.p) (c := u.p + 2 * u.q) (d := u.p + 2 * u.s) (by omega)
  have ed := unit_small (a := u.p + 2 * u.s) (b := u.p) (c := u.p + 2 * u.q) (d := u.p + 2 * u.r) (by omega)
  rw [← ofD_dl u]
  exact small_all _ (small_mem ea) _ (small_mem eb) _ (small_mem ec) _ (small_mem ed) (by omega) (by omega) (by omega) (by omega)
theorem unit_inv {u : Hz} (h : nm u = 1) : mul u (conj u) = one := by rw [mul_conj_self, h]; rfl
theorem unit_inv' {u : Hz} (h : nm u = 1) : mul (conj u) u = one := by rw [conj_mul_self, h]; rfl
theorem nm_one : nm one = 1 := by decide

/-! ### the canonical associate -/
def canon (x : Hz) : Hz := mx (mul x one) (units.map (mul x))
theorem canon_unit (x : Hz) : ∃ u, nm u = 1 ∧ canon x = mul x u := by
  obtain ⟨h, _, _⟩ := mx_spec (units.map (mul x)) (mul x one)
  rcases h with h | h
  · exact ⟨one, nm_one, h⟩
  · obtain ⟨u, hu, e⟩ := List.mem_map.mp h
    exact ⟨u, units_nm u hu, e.symm⟩
theorem canon_top (x u : Hz) (hu : nm u = 1) : lt (canon x) (mul x u) = false :=
  (mx_spec (units.map (mul x)) (mul x one)).2.2 _ (List.mem_map.mpr ⟨u, mem_units hu, rfl⟩)
theorem canon_uniq {x z u : Hz} (hu : nm u = 1) (hz : z = mul x u) (h : ∀ v, nm v = 1 → lt z (mul x v) = false) : z = canon x := by
  obtain ⟨w, hw, e⟩ := canon_unit x
  refine lt_tri ?_ ?_
  · rw [e]; exact h w hw
  · rw [hz]; exact canon_top x u hu
theorem canon_assoc (x v : Hz) (hv : nm v = 1) : canon (mul x v) = canon x := by
  obtain ⟨w, hw, e⟩ := canon_unit (mul x v)
  refine canon_uniq (u := mul v w) (by rw [nm_mul, hv, hw]; rfl) (by rw [e, mul_assoc]) fun t ht => ?_
  have q := canon_top (mul x v) (mul (conj v) t) (by rw [nm_mul, nm_conj, hv, ht]; rfl)
  have e2 : mul (mul x v) (mul (conj v) t) = mul x t := by
    rw [mul_assoc, ← mul_assoc v (conj v) t, unit_inv hv, one_mul]
  rw [e2] at q
  exact q
theorem nm_canon (x : Hz) : nm (canon x) = nm x := by
  obtain ⟨w, hw, e⟩ := canon_unit x
  rw [e, nm_mul, hw]; omega

/-! ### primitive numbers -/
def Prim (x : Hz) : Prop := ∀ (m : Int) (y : Hz), x = smul m y → m = 1 ∨ m = -1
theorem smul_zero (m : Int) : smul m zero = zero := by apply ext4 <;> simp [smul, zero]
theorem Prim.ne {x : Hz} (h : Prim x) : x ≠ zero := fun e => by
  have := h 2 zero (by rw [e, smul_zero])
  omega
theorem Prim.unit {x u : Hz} (h : Prim x) (hu : nm u = 1) : Prim (mul x u) := fun m y e => by
  refine h m (mul y (conj u)) ?_
  rw [← smul_mul, ← e, mul_assoc, unit_inv hu, mul_one]
theorem Prim.right {x c t : Hz} (h : Prim x) (e : x = mul c t) : Prim t := fun m y e2 => by
  refine h m (mul c y) ?_
  rw [e, e2, mul_smul]
def isP (p : Int) : Prop := p = 2 ∨ p = 3 ∨ p = 5 ∨ p = 7
theorem sq_divs {p d e : Int} (hp : isP p) (hd : 0 ≤ d) (h : d * e = p * p) : d = 1 ∨ d = p ∨ d = p * p := by
  have dv : d ∣ p * p := ⟨e, h.symm⟩
  have pos : 0 < p * p := by rcases hp with h | h | h | h <;> subst h <;> decide
  have le := Int.le_of_dvd pos dv
  have nz : d ≠ 0 := fun z => by rw [z, Int.zero_mul] at h; omega
  obtain ⟨n, rfl⟩ : ∃ n : Nat, d = (n : Int) := ⟨d.toNat, by omega⟩
  have key : ∀ k : Nat, (∀ n : Nat, n < k + 1 → n ∣ k → n = 1 ∨ n * n = k ∨ n = k) → (p * p = (k : Int)) → (n : Int) = 1 ∨ (n : Int) * n = p * p ∨ (n : Int) = p * p := fun k hk ek => by
    rw [ek] at dv le ⊢
    have := hk n (by omega) (Int.natCast_dvd_natCast.mp dv)
    omega
  have h3 : (n : Int) = 1 ∨ (n : Int) * n = p * p ∨ (n : Int) = p * p := by
    rcases hp with h | h | h | h <;> subst h
    · exact key 4 (by decide) rfl
    · exact key 9 (by decide) rfl
    · exact key 25 (by decide) rfl
    · exact key 49 (by decide) rfl
  rcases h3 with h3 | h3 | h3
  · exact .inl h3
  · refine .inr (.inl ?_)
    have : ((n : Int) - p) * (n + p) = 0 := by grind
    have pp : 0 < p := by rcases hp with h | h | h | h <;> subst h <;> decide
    rcases Int.mul_eq_zero.mp this with z | z <;> omega
  · exact .inr (.inr h3)
theorem isP.two {p : Int} (h : isP p) : 2 ≤ p := by rcases h with h | h | h | h <;> subst h <;> decide
/-- the heart: the common divisor of a primitive number and a prime of its norm has the prime as its norm -/
theorem gcd_nm {q : Hz} {p : Int} (hp : isP p) (hq : Prim q) (hd : p ∣ nm q) : nm (gcd q (ofI p)) = p := by
  have p2 := hp.two
  obtain ⟨x, y, u, v, e, e1, e2⟩ := gcd_spec q (ofI p)
  generalize hg : gcd q (ofI p) = g at e e1 e2
  have en : nm g * nm v = p * p := by rw [← nm_mul, ← e2, nm_ofI]
  rcases sq_divs hp (nm_nonneg g) en with h | h | h
  · exfalso
    obtain ⟨k, hk⟩ := hd
    have e3 : conj q = smul p (add (smul k (mul x (conj g))) (mul (conj q) (mul y (conj g)))) := by
      have s1 : mul (conj q) (mul g (conj g)) = conj q := by rw [unit_inv h, mul_one]
      generalize conj g = c at s1 ⊢
      rw [e, add_mul, mul_add, mul_assoc, ← mul_assoc (conj q) q, conj_mul_self, ofI_mul, hk, ofI_mul, smul_mul, mul_smul] at s1
      rw [smul_add, smul_smul]
      exact s1.symm
    have e4 := congrArg conj e3
    rw [conj_conj, conj_smul] at e4
    have := hq p _ e4
    omega
  · exact h
  · exfalso
    have hv : nm v = 1 := by
      rw [h] at en
      have pp : 0 < p * p := Int.mul_pos (by omega) (by omega)
      have : p * p * nm v = p * p * 1 := by omega
      exact Int.eq_of_mul_eq_mul_left (by omega) this
    have e3 : g = smul p (conj v) := by
      have s1 : mul (mul g v) (conj v) = g := by rw [mul_assoc, unit_inv hv, mul_one]
      rw [← e2, ofI_mul] at s1
      exact s1.symm
    have e4 : q = smul p (mul (conj v) u) := by rw [← smul_mul, ← e3]; exact e1
    have := hq p _ e4
    omega
/-- a unit behind the number leaves the canonical common divisor -/
theorem gcd_unit {q w : Hz} {p : Int} (hw : nm w = 1) (hz : gcd q (ofI p) ≠ zero) : canon (gcd (mul q w) (ofI p)) = canon (gcd q (ofI p)) := by
  obtain ⟨x, y, u, v, e, e1, e2⟩ := gcd_spec q (ofI p)
  obtain ⟨x', y', u', v', f, f1, f2⟩ := gcd_spec (mul q w) (ofI p)
  generalize gcd q (ofI p) = g at e e1 e2 hz ⊢
  generalize gcd (mul q w) (ofI p) = h at f f1 f2 ⊢
  have k1 : h = mul g (add (mul u (mul w x')) (mul v y')) := by
    rw [mul_add, ← mul_assoc g u, ← e1, ← mul_assoc g v, ← e2, ← mul_assoc]
    exact f
  have k2 : g = mul h (add (mul u' (mul (conj w) x)) (mul v' y)) := by
    rw [mul_add, ← mul_assoc h u', ← f1, ← mul_assoc h v', ← f2, ← mul_assoc, mul_assoc q, unit_inv hw, mul_one]
    exact e
  generalize add (mul u (mul w x')) (mul v y') = a at k1
  generalize add (mul u' (mul (conj w) x)) (mul v' y) = b at k2
  have ab : mul a b = one := by
    refine mul_left_cancel hz ?_
    rw [← mul_assoc, ← k1, ← k2, mul_one]
  have na : nm a = 1 := by
    have n1 : nm a * nm b = 1 := by rw [← nm_mul, ab]; rfl
    have a0 := nm_nonneg a
    exact Int.eq_one_of_mul_eq_one_right a0 n1
  rw [k1, canon_assoc _ _ na]

/-! ### rows -/
def fac (q : Hz) (p : Int) : Hz := canon (gcd q (ofI p))
def rowF : List Int → Hz → List Hz × Hz
  | [], x => ([], x)
  | p :: ps, x => (fac x p :: (rowF ps (quo x (fac x p))).1, (rowF ps (quo x (fac x p))).2)
def prod : List Int → Int
  | [] => 1
  | p :: ps => p * prod ps
theorem fac_step {q : Hz} {p : Int} (hp : isP p) (hq : Prim q) (hd : p ∣ nm q) :
    nm (fac q p) = p ∧ q = mul (fac q p) (quo q (fac q p)) ∧ Prim (quo q (fac q p)) ∧ nm q = p * nm (quo q (fac q p)) := by
  have hn := gcd_nm hp hq hd
  have p2 := hp.two
  have hc : nm (fac q p) = p := by unfold fac; rw [nm_canon, hn]
  have hz : fac q p ≠ zero := fun z => by rw [z, nm_zero] at hc; omega
  obtain ⟨x, y, u, v, e, e1, e2⟩ := gcd_spec q (ofI p)
  obtain ⟨w, hw, ec⟩ := canon_unit (gcd q (ofI p))
  have e3 : q = mul (fac q p) (mul (conj w) u) := by
    unfold fac
    rw [ec, mul_assoc, ← mul_assoc w, unit_inv hw, one_mul]
    exact e1
  have e4 : quo q (fac q p) = mul (conj w) u := by
    have := quo_mul (fac q p) (mul (conj w) u) hz
    rw [← e3] at this
    exact this
  rw [e4]
  refine ⟨hc, e3, hq.right e3, ?_⟩
  have := congrArg nm e3
  rw [nm_mul, hc] at this
  exact this
theorem rowF_len : ∀ (ps : List Int) (x : Hz), (rowF ps x).1.length = ps.length
  | [], _ => rfl
  | p :: ps, x => by
    show (rowF ps _).1.length + 1 = ps.length + 1
    rw [rowF_len]
theorem rowF_unit : ∀ (ps : List Int) (x w : Hz), (∀ p ∈ ps, isP p) → Prim x → nm x = prod ps → nm w = 1 → rowF ps (mul x w) = ((rowF ps x).1, mul (rowF ps x).2 w)
  | [], _, _, _, _, _, _ => rfl
  | p :: ps, x, w, hps, hx, hn, hw => by
    have hp := hps p List.mem_cons_self
    have hd : p ∣ nm x := ⟨prod ps, hn⟩
    have g1 := gcd_nm hp hx hd
    have hz : gcd x (ofI p) ≠ zero := fun z => by rw [z, nm_zero] at g1; have := hp.two; omega
    obtain ⟨s1, s2, s3, s4⟩ := fac_step hp hx hd
    have ef : fac (mul x w) p = fac x p := gcd_unit hw hz
    have fz : fac x p ≠ zero := fun z => by rw [z, nm_zero] at s1; have := hp.two; omega
    have eq : quo (mul x w) (fac x p) = mul (quo x (fac x p)) w := by
      have := quo_mul (fac x p) (mul (quo x (fac x p)) w) fz
      rw [← mul_assoc, ← s2] at this
      exact this
    have hn2 : nm (quo x (fac x p)) = prod ps := by
      have : p * nm (quo x (fac x p)) = p * prod ps := by rw [← s4]; exact hn
      exact Int.eq_of_mul_eq_mul_left (by have := hp.two; omega) this
    have ih := rowF_unit ps (quo x (fac x p)) w (fun r hr => hps r (List.mem_cons_of_mem _ hr)) s3 hn2 hw
    show (fac (mul x w) p :: (rowF ps (quo (mul x w) (fac (mul x w) p))).1, (rowF ps (quo (mul x w) (fac (mul x w) p))).2) = (fac x p :: (rowF ps (quo x (fac x p))).1, mul (rowF ps (quo x (fac x p))).2 w)
    rw [ef, eq, ih]
theorem rowF_prefix : ∀ (ps rs : List Int) (x : Hz) (k : Nat), k < ps.length → k < rs.length → ps.take (k + 1) = rs.take (k + 1) → (rowF ps x).1[k]? = (rowF rs x).1[k]?
  | [], _, _, k, h, _, _ => absurd h (Nat.not_lt_zero _)
  | _ :: _, [], _, k, _, h, _ => absurd h (Nat.not_lt_zero _)
  | p :: ps, r :: rs, x, k, h1, h2, e => by
    rw [List.take_succ_cons, List.take_succ_cons] at e
    injection e with e1 e2
    subst e1
    cases k with
    | zero => rfl
    | succ k =>
      show (rowF ps _).1[k]? = (rowF rs _).1[k]?
      exact rowF_prefix ps rs _ k (by simpa using h1) (by simpa using h2) e2
theorem row_next {p : Int} {ps : List Int} {x : Hz} (hps : ∀ r ∈ p :: ps, isP r) (hx : Prim x) (hn : nm x = prod (p :: ps)) : Prim (quo x (fac x p)) ∧ nm (quo x (fac x p)) = prod ps ∧ nm (fac x p) = p ∧ x = mul (fac x p) (quo x (fac x p)) := by
  have hp := hps p List.mem_cons_self
  obtain ⟨s1, s2, s3, s4⟩ := fac_step hp hx ⟨prod ps, hn⟩
  refine ⟨s3, ?_, s1, s2⟩
  have : p * nm (quo x (fac x p)) = p * prod ps := by rw [← s4]; exact hn
  exact Int.eq_of_mul_eq_mul_left (by have := hp.two; omega) this
theorem rowF_nm1 : ∀ (ps : List Int) (x : Hz), (∀ p ∈ ps, isP p) → Prim x → nm x = prod ps → nm (rowF ps x).2 = 1
  | [], _, _, _, hn => hn
  | p :: ps, x, hps, hx, hn => by
    obtain ⟨a, b, _, _⟩ := row_next hps hx hn
    exact rowF_nm1 ps _ (fun r hr => hps r (List.mem_cons_of_mem _ hr)) a b
end Hz
end TP
set_option maxHeartbeats 4000000
/-! Rules of our own: tuples of ints sorted, the greatest of tuples, factorial. -/
namespace TP.R
open PySem PySem.Spec PyProof.Rows L2

/-! ### tuples of ints in a heap, and how two of them compare in a sort -/
/-- v is a tuple of these ints -/
def Tp (h : Heap) (v : Value) (ns : List Int) : Prop := TS.TupInts h v ns
theorem Tp.keep {h g : Heap} {v : Value} {ns : List Int} (t : Tp h v ns) (k : ∀ b o, h.get? b = some o → o.cls = .type "tuple" → g.get? b = some o) : Tp g v ns := TS.TupInts.keeps t k
section
variable {prog : Program} {w : World} {A : Around} {E : Value → Shared → Prop} {s : Shared}
theorem one_lt (c : Bool) {p q : Int} {t u : Tok} {Q : Bool → Shared → Prop} (hq : Q (decide (p < q)) s) : wpAny (model prog w) A (oneLt' c (.int p t) (.int q u)) Q E s := by
  cases c
  · exact PySem.W.kat_one _ _ (PyProof.Rows.lt_int (Q := PySem.W.BoolBack Q) hq)
  · exact oneLt_int hq
theorem lex_walk {b : Bool} {Q : Bool → Shared → Prop} {xs : List Value} {ns : List Int} (hx : IntsAre xs ns) : ∀ {ys : List Value} {ms : List Int} (i : Nat), IntsAre ys ms → ns.length = ms.length → Q (HT.lexLt ns ms) s →
    PySem.W.KatLex prog w A b false Q (xs.zip ys) i s := by
  induction hx with
  | nil =>
    intro ys ms i hy hl hq
    cases hy with
    | nil => exact PySem.W.kat_nil hq
    | cons _ _ _ => exact absurd hl (by simp)
  | @cons p t vs ns' _ ih =>
    intro ys ms i hy hl hq
    cases hy with
    | nil => exact absurd hl (by simp)
    | @cons q u ws ms' hw =>
      show PySem.W.KatLex prog w A b false Q ((.int p t, .int q u) :: vs.zip ws) i s
      refine PySem.W.kat_cons (wpAny_eqBool_int ?_)
      rw [HT.lexLt_cons] at hq
      by_cases pq : p = q
      · rw [if_pos pq] at hq
        rw [pq, beq_self_eq_true]
        exact PySem.W.kat_yes (ih (i + 1) hw (Nat.succ.inj hl) hq)
      · rw [if_neg pq] at hq
        rw [beq_eq_false_iff_ne.mpr pq]
        exact PySem.W.kat_no (one_lt _ hq)
/-- the first items, which tell the sort its kind -/
theorem heads {h : Heap} {d : Nat} : ∀ (vs : List Value) (k : Value → List Int), (∀ v ∈ vs, Tp h v (k v) ∧ (k v).length = d + 1) → ∃ fs, PySem.W.KatTups h vs fs ∧ fs.length = vs.length ∧ ∀ f ∈ fs, ∃ n t, f = Value.int n t
  | [], _, _ => ⟨[], trivial, rfl, fun _ z => by cases z⟩
  | v :: vs, k, hv => by
    obtain ⟨fs, z1, z2, z3⟩ := heads vs k fun u m => hv u (List.mem_cons_of_mem _ m)
    obtain ⟨⟨a, xs, ea, ⟨o, ho, hc, n, hd⟩, hi⟩, hl⟩ := hv v List.mem_cons_self
    have hlen := hi.length
    rw [hl] at hlen
    match hxs : xs.toList, hlen with
    | [], bad => simp at bad
    | y :: rest, _ =>
      rw [hxs] at hi
      have hy : ∃ m t, y = Value.int m t := by
        generalize k v = kv at hi
        cases hi with
        | cons m t _ => exact ⟨m, t, rfl⟩
      have h0 : xs[0]? = some y := by
        rw [← Array.getElem?_toList, hxs]
        rfl
      rw [ea]
      refine ⟨y :: fs, PySem.W.KatTups.cons ho hc hd h0 z1, congrArg (· + 1) z2, fun f hf => ?_⟩
      rcases List.mem_cons.mp hf with e | hf
      · rw [e]; exact hy
      · exact z3 f hf
theorem tup_cmp {d : Nat} {vs : List Value} {k : Value → List Int} (hv : ∀ v ∈ vs, Tp s.heap v (k v) ∧ (k v).length = d + 1) :
    SrtO.Cmp prog w A s (tuples' true) (fun p => p.1 ∈ vs) (SrtO.lt2 fun v u => HT.lexLt (k v) (k u)) := fun p q hp hq => by
  show wpAny (model prog w) A (keyLt' (tuples' true) p.1 q.1) (fun r s' => s' = s ∧ r = HT.lexLt (k p.1) (k q.1)) (fun _ _ => False) s
  obtain ⟨h1, l1⟩ := hv _ hp
  obtain ⟨h2, l2⟩ := hv _ hq
  generalize k p.1 = kp at h1 l1 ⊢
  generalize k q.1 = kq at h2 l2 ⊢
  obtain ⟨a, xs, ea, ⟨o, ho, _, n, hd⟩, hi⟩ := h1
  obtain ⟨c, ys, ec, ⟨o', ho', _, m, hd'⟩, hj⟩ := h2
  rw [ea, ec]
  refine PySem.W.kat_lt ho hd ho' hd' ?_
  have z1 := hi.length
  have z2 := hj.length
  rw [Array.length_toList] at z1 z2
  rw [decide_eq_false (by omega : ¬ xs.size < ys.size)]
  exact lex_walk hi 0 hj (by omega) ⟨rfl, rfl⟩
theorem tup_sortable {a : Addr} {d : Nat} {vs : List Value} {k : Value → List Int} (h0 : 0 < vs.length) (hv : ∀ v ∈ vs, Tp s.heap v (k v) ∧ (k v).length = d + 1) (ha : ∀ o, s.heap.get? a = some o → o.cls ≠ .type "tuple") :
    SrtO.SortableO prog w A s a vs fun v u => HT.lexLt (k v) (k u) := fun g keep => by
  have hg : ∀ v ∈ vs, Tp g v (k v) ∧ (k v).length = d + 1 := fun v m => by
    obtain ⟨t, l⟩ := hv v m
    refine ⟨t.keep fun b o e c => keep b o (fun z => ?_) e, l⟩
    rw [z] at e
    exact ha o e c
  obtain ⟨fs, z1, z2, z3⟩ := heads vs k hg
  refine ⟨tuples' true, fun Q E hq => ?_, tup_cmp (s := { s with heap := g }) hg⟩
  refine PySem.W.kat_kind (T := .type "int") z1 (by omega) (fun f hf => ?_) rfl ?_
  · obtain ⟨n, t, e⟩ := z3 f hf
    rw [e]
    exact PySem.W.Looks.now
  · have ne : (Value.type "int" != Value.type "tuple") = true := by decide +kernel
    rw [ne]
    exact hq
end
/-- sorted(xs), xs a list of tuples of d + 1 ints -/
def rSortQ (K : PySem.W.Frag) (d : Nat) : List V → Hp → VK → Prop := fun vs H Q => ∃ (a : Addr) (xs : List V) (k : V → List Int), vs = [V.ref a] ∧ SqL K H a xs ∧
  (∀ x ∈ xs, ∃ t, x = V.ref t ∧ SqT K H t ((k x).map V.int) ∧ (k x).length = d + 1) ∧
  ∀ ys p, ys.Perm xs → ys.Pairwise (fun x y => HT.lexLt (k y) (k x) = false) → H p = none → Q (.ref p) (upd H p (.lst ys))
section
variable {X : Cx}
theorem cr_sortQ {d : Nat} : CallR X (.builtin "sorted") (rSortQ X.K d) := by
  intro pins s σ H vs us Q I r h
  obtain ⟨a, xs, k, ev, hs, hx, q⟩ := h
  rw [ev] at r
  obtain ⟨its, rv, hl, hz⟩ := I.list hs
  obtain ⟨u, eu, ru⟩ := vals1 r
  have ru' : u = Value.ref a := ru
  rw [eu, ru']
  obtain ⟨e1, e2⟩ := refs_back rv fun x m => (hx x m).imp fun t z => z.1
  have tps : ∀ v ∈ its, Tp s.heap v (k (backV v)) ∧ (k (backV v)).length = d + 1 := fun v hv => by
    obtain ⟨t, et⟩ := e2 v hv
    have hm : V.ref t ∈ xs := by
      rw [e1]
      exact List.mem_map.mpr ⟨v, hv, by rw [et]; rfl⟩
    obtain ⟨t', ett, ht, hl⟩ := hx _ hm
    cases ett
    obtain ⟨jts, rj, hj, _⟩ := I.tuple ht
    rw [et]
    show Tp s.heap (.ref t) (k (V.ref t)) ∧ (k (V.ref t)).length = d + 1
    exact ⟨⟨t, _, rfl, hj, by simpa using rj.ints⟩, hl⟩
  refine SrtO.sorted_ord (NtL.swo_lexL fun v => k (backV v)) hl.isList (by rw [← rv.length]; exact hz) (fun two g c hc kk => ?_) fun out h1 h2 => ?_
  · refine tup_sortable (d := d) (s := { s with heap := g }) (by omega) (fun v m => ?_) fun o ho cls => ?_
    · obtain ⟨z1, z2⟩ := tps v m
      exact ⟨z1.keep fun b o e _ => (kk b o e).2, z2⟩
    · rw [hc] at ho
      rw [← Option.some.inj ho] at cls
      exact absurd (Value.type.inj cls) (by decide)
  · have h3 : ∀ v ∈ out, ∃ t, v = Value.ref t := fun v m => e2 v (h2.perm.mem_iff.mp m)
    have pm : (out.map backV).Perm xs := by
      rw [e1]
      exact h2.perm.map backV
    obtain ⟨ep, hep⟩ := PyProof.Rows.sortedAll_at s.heap its out.toArray
    refine ⟨.ref _, upd H (s.heap.objs.size + 1) (.lst (out.map backV)), I.laid (t' := s.toks) (fun _ _ => PyProof.Rows.sortedAll_old) (Nat.le_succ _) ⟨?_, out, ep, vals_back h3, hep⟩, rfl, q _ _ pm ?_ (I.hok.fresh (Nat.le_succ _))⟩
    · rw [pm.length_eq]
      exact hz
    · exact List.pairwise_map.mpr h1
end

/-! ### math.factorial -/
def rFact : List V → Hp → VK → Prop := fun vs H Q => ∃ a : Int, vs = [.int a] ∧ 0 ≤ a ∧ a ≤ 12 ∧ Q (.int ((Builtin.Math.factorialNat a.toNat : Nat) : Int)) H
theorem fact_small : ∀ n : Nat, n < 13 → (((Builtin.Math.factorialNat n : Nat) : Int)).natAbs.log2 < bitsLine := by decide +kernel
theorem cr_fact {X : Cx} : CallR X (.builtin "math.factorial") rFact := by
  intro pins s σ H vs us Q I r h
  obtain ⟨a, ev, h0, h1, q⟩ := h
  rw [ev] at r
  obtain ⟨u, eu, t, et⟩ := vals1 r
  rw [eu, et]
  refine PySem.W.mg_factorial ?_ (by omega) ?_ (fact_small a.toNat (by omega)) ⟨.int _, H, I.tok _, ⟨_, rfl⟩, q⟩
  · have : (12 : Int) ≤ Builtin.Math.maxSsize := by decide +kernel
    omega
  · have : (12 : Int) ≤ Builtin.Math.manyFactors := by decide +kernel
    omega
end TP.R
set_option maxHeartbeats 4000000
namespace TP.R
open PySem PySem.Spec PyProof.Rows L2

/-! ### t > u of tuples of ints -/
theorem lexAt_gt : ∀ (k i : Nat) (ns ms : List Int), ns.length = ms.length → i + k = ns.length →
    Ob.lexAt (fun j => decide (ns.getD j 0 = ms.getD j 0)) (fun j => decide (ms.getD j 0 < ns.getD j 0)) false i k = HT.lexLt (ms.drop i) (ns.drop i)
  | 0, i, ns, ms, hl, hk => by
    rw [List.drop_eq_nil_of_le (by omega), List.drop_eq_nil_of_le (by omega)]
    rfl
  | k + 1, i, ns, ms, hl, hk => by
    have h1 : i < ns.length := by omega
    have h2 : i < ms.length := by omega
    rw [Ob.lexAt_succ, List.drop_eq_getElem_cons h1, List.drop_eq_getElem_cons h2, HT.lexLt_cons, lexAt_gt k (i + 1) ns ms hl (by omega)]
    have e1 : ns.getD i 0 = ns[i] := by simp [h1]
    have e2 : ms.getD i 0 = ms[i] := by simp [h2]
    rw [e1, e2]
    by_cases q : ns[i] = ms[i]
    · rw [if_pos (decide_eq_true q), if_pos q.symm]
    · rw [if_neg (by rw [decide_eq_false q]; decide), if_neg (Ne.symm q)]
theorem gt_tups {prog : Program} {w : World} {A : Around} {E : Value → Shared → Prop} {s : Shared} {v u : Value} {ns ms : List Int} {Q : Value → Shared → Prop} (hv : Tp s.heap v ns) (hw : Tp s.heap u ms) (hl : ns.length = ms.length)
    (hu : A.units < cLine) (h : Q (.bool (HT.lexLt ms ns)) s) : wpAny (model prog w) A (richCompare .Gt v u) Q E s := by
  obtain ⟨a, xs, ea, tx, hi⟩ := hv
  obtain ⟨b, ys, eb, ty, hj⟩ := hw
  have n1 := hi.length
  have n2 := hj.length
  rw [Array.length_toList] at n1 n2
  have at1 : ∀ j (q : j < xs.size), ∃ t, xs[j] = .int (ns.getD j 0) t := fun j q => PyProof.Rows.IntsAre.int_at hi _ _ (by simp [q])
  have at2 : ∀ j (q : j < ys.size), ∃ t, ys[j] = .int (ms.getD j 0) t := fun j q => PyProof.Rows.IntsAre.int_at hj _ _ (by simp [q])
  have run := Ob.RcOp.tuples_gt (A := A) (s := s) (e := fun j => decide (ns.getD j 0 = ms.getD j 0)) (r := fun j => decide (ms.getD j 0 < ns.getD j 0)) tx ty hu
    (fun j q1 q2 => by
      obtain ⟨t, et⟩ := at1 j q1
      obtain ⟨t', et'⟩ := at2 j q2
      rw [et, et', ← Bool.beq_eq_decide_eq]
      exact SeqAt.EqAt.int_int _ _ _ _)
    (fun j q1 q2 _ => by
      obtain ⟨t, et⟩ := at1 j q1
      obtain ⟨t', et'⟩ := at2 j q2
      rw [et, et']
      exact Ob.RcOp.gt_int _ _ _ _)
  rw [n1, n2, ← hl, Nat.min_self, show (decide (ns.length > ns.length)) = false from decide_eq_false (by omega), lexAt_gt ns.length 0 ns ms hl (by omega)] at run
  rw [ea, eb]
  exact run prog w E Q h

/-! ### the greatest of what is walked, the items objects of a heap that stays -/
section
variable {prog : Program} {w : World} {A : Around} {R : Result → Shared → Prop} {I S : Addr} {fp wr : List Addr} {n : Nat} {P : Nat → Value → Prop} {St : Nat → Heap → Prop} {h0 : Heap}
/-- what stood in h0 still stands, but the records that turn -/
def Old (h0 : Heap) (wr : List Addr) (S : Addr) (h : Heap) : Prop := ∀ b o, b ∉ wr → b ≠ S → h0.get? b = some o → h.get? b = some o
theorem Old.step {h g : Heap} (k : Old h0 wr S h) (k2 : ∀ b o, b ∉ wr → h.get? b = some o → g.get? b = some o) : Old h0 wr S g := fun b o x y z => k2 b o x (k b o x y z)
theorem Old.put {h : Heap} (k : Old h0 wr S h) (f : Obj → Obj) : Old h0 wr S (h.update S f) := fun b o x y z => (Heap.get?_update_other _ _ (Ne.symm y)).trans (k b o x y z)
def CmpIn (prog : Program) (w : World) (A : Around) (h0 : Heap) (wr : List Addr) (S : Addr) (P : Nat → Value → Prop) (bt : Nat → Nat → Bool) : Prop :=
  ∀ i j vi vj (s : Shared) (Q : Value → Shared → Prop) (E : Value → Shared → Prop), Old h0 wr S s.heap → P i vi → P j vj → Q (.bool (bt i j)) s → wpAny (model prog w) A (richCompare .Gt vi vj) Q E s
theorem max_more (W : Walks prog w A.in1 I fp wr n P St) (bt : Nat → Nat → Bool) (cmp : CmpIn prog w A.in1 h0 wr S P bt) (hSf : S ∉ fp) :
    ∀ (k j : Nat) (s : Shared) (top : Value) (c : Nat), (∀ v h' tk, P (argBest bt (n - 1)) v → Old h0 wr S h' → R (.ok (.ret v)) { s with heap := h', toks := tk }) → j + 1 + k = n → St (j + 1) s.heap → P (argBest bt j) top → Old h0 wr S s.heap →
      s.heap.get? S = some { cls := .type "list", dict := none, data := .seq #[top, top] c, slots := #[] } →
      codeAny (model prog w) A (.builtin "max.loop" ⟨[.ref I, .none, .ref S], []⟩) R s := by
  have nSw : S ∉ wr := fun z => hSf (W.sub _ z)
  have nm : (toString "max" ++ toString ".loop" : String) = "max.loop" := by decide
  intro k
  induction k with
  | zero =>
    intro j s top c done hjk hst hP old hS
    refine codeAny_builtin F.entry_max_loop ?_
    rw [Around.under_plainId F.plain_max_loop _]
    show wpAny _ A.in1 (seqItems? (.ref S) >>= _) _ _ s
    refine wpAny_bind (wpAny_seqItems hS rfl ?_)
    show wpAny _ A.in1 (tryCatch (pyNext (.ref I)) _ >>= _) _ _ s
    have stn : St n s.heap := by rw [← hjk]; exact hst
    refine wpAny_bind (wpAny_tryCatch (W.done s _ _ stn fun g tk kp => ?_))
    show wpAny _ A.in1 (updateSeq S (fun _ => #[]) >>= _) _ _ _
    have bj : argBest bt (n - 1) = argBest bt j := by
      congr 1
      omega
    refine wpAny_bind (wpAny_updateSeq (kp S _ nSw hS) rfl (wpAny_bind (wpAny_letGo (wpAny_pure ?_))))
    exact done top _ tk (by rw [bj]; exact hP) ((old.step kp).put _)
  | succ k ih =>
    intro j s top c done hjk hst hP old hS
    refine codeAny_builtin F.entry_max_loop ?_
    rw [Around.under_plainId F.plain_max_loop _]
    show wpAny _ A.in1 (seqItems? (.ref S) >>= _) _ _ s
    refine wpAny_bind (wpAny_seqItems hS rfl ?_)
    show wpAny _ A.in1 (tryCatch (pyNext (.ref I)) _ >>= _) _ _ s
    refine wpAny_bind (wpAny_tryCatch (W.item (j + 1) s _ _ (by omega) hst fun v g tk hPv hst2 kp => ?_))
    have old2 := old.step kp
    have hS2 := kp S _ nSw hS
    show wpAny _ A.in1 (tryCatch (holding [v, v] (richCompare .Gt v top >>= _)) _ >>= _) _ _ _
    refine wpAny_bind (wpAny_tryCatch (wpAny_holding (wpAny_bind (cmp (j + 1) (argBest bt j) v top _ _ _ old2 hPv hP ?_))))
    refine wpAny_bind (wpAny_holding (wpAny_truthy_bool (wpAny_bind (wpAny_letGo (wpAny_pure ?_)))))
    have ab : argBest bt (j + 1) = if bt (j + 1) (argBest bt j) = true then j + 1 else argBest bt j := rfl
    cases gt : bt (j + 1) (argBest bt j) with
    | false =>
      rw [gt, if_neg Bool.false_ne_true] at ab
      simp only [Bool.false_eq_true, if_false]
      refine wpAny_bind (wpAny_letGo ?_)
      rw [nm]
      exact wpAny_pure ⟨plainId_quiet F.plain_max_loop _, ih (j + 1) _ top c done (by omega) hst2 (by rw [ab]; exact hP) old2 hS2⟩
    | true =>
      rw [gt, if_pos rfl] at ab
      simp only [if_true]
      refine wpAny_bind (wpAny_updateSeq hS2 rfl (wpAny_bind (wpAny_letGo ?_)))
      rw [nm]
      refine wpAny_pure ⟨plainId_quiet F.plain_max_loop _, ih (j + 1) _ v _ done (by omega) ?_ (by rw [ab]; exact hPv) (old2.put _) (Heap.get?_update_self _ hS2 rfl)⟩
      exact W.frame _ _ _ hst2 fun b m o e => (Heap.get?_update_other _ _ fun (z : S = b) => hSf (by rw [z]; exact m)).trans e
theorem max_first (W : Walks prog w A.in1 I fp wr n P St) (bt : Nat → Nat → Bool) (cmp : CmpIn prog w A.in1 h0 wr S P bt) (hSf : S ∉ fp) (hn : 0 < n) {s : Shared} {c : Nat}
    (done : ∀ v h' tk, P (argBest bt (n - 1)) v → Old h0 wr S h' → R (.ok (.ret v)) { s with heap := h', toks := tk }) (hst : St 0 s.heap) (old : Old h0 wr S s.heap)
    (hS : s.heap.get? S = some { cls := .type "list", dict := none, data := .seq #[] c, slots := #[] }) :
    codeAny (model prog w) A (.builtin "max.loop" ⟨[.ref I, .none, .ref S], []⟩) R s := by
  have nSw : S ∉ wr := fun z => hSf (W.sub _ z)
  have nm : (toString "max" ++ toString ".loop" : String) = "max.loop" := by decide
  refine codeAny_builtin F.entry_max_loop ?_
  rw [Around.under_plainId F.plain_max_loop _]
  show wpAny _ A.in1 (seqItems? (.ref S) >>= _) _ _ s
  refine wpAny_bind (wpAny_seqItems hS rfl ?_)
  show wpAny _ A.in1 (tryCatch (pyNext (.ref I)) _ >>= _) _ _ s
  refine wpAny_bind (wpAny_tryCatch (W.item 0 s _ _ hn hst fun v g tk hPv hst2 kp => ?_))
  have hS2 := kp S _ nSw hS
  show wpAny _ A.in1 (updateSeq S (fun _ => #[v, v]) >>= _) _ _ _
  refine wpAny_bind (wpAny_updateSeq hS2 rfl ?_)
  rw [nm]
  refine wpAny_pure ⟨plainId_quiet F.plain_max_loop _, max_more W bt cmp hSf (n - 1) 0 _ v _ done (by omega) ?_ hPv ((old.step kp).put _) (Heap.get?_update_self _ hS2 rfl)⟩
  exact W.frame _ _ _ hst2 fun b m o e => (Heap.get?_update_other _ _ fun (z : S = b) => hSf (by rw [z]; exact m)).trans e
end
section
variable {prog : Program} {w : World} {A : Around} {E : Value → Shared → Prop} {s : Shared}
/-- what a walk of the argument has to give: h0 the heap whose objects the items are -/
def MaxWalk (prog : Program) (w : World) (A : Around) (h0 : Heap) (Q : Value → Shared → Prop) (it : Value) (s₂ : Shared) : Prop :=
  ∃ I fp n P St bt, it = .ref I ∧ Walks prog w A.in1 I fp [I] n P St ∧ St 0 s₂.heap ∧ (∀ b ∈ fp, b < s₂.heap.objs.size) ∧ 0 < n ∧ (∀ b o, h0.get? b = some o → s₂.heap.get? b = some o ∧ b ≠ I) ∧
    (∀ S, (∀ b o, h0.get? b = some o → b ≠ S) → CmpIn prog w A.in1 h0 [I] S P bt) ∧ ∀ v h' tk, P (argBest bt (n - 1)) v → (∀ b o, h0.get? b = some o → h'.get? b = some o) → Q v { s₂ with heap := h', toks := tk }
theorem max_end {h0 : Heap} {Q : Value → Shared → Prop} {it : Value} {s₂ : Shared} {R : Result → Shared → Prop} (h : MaxWalk prog w A h0 Q it s₂) (hR : ∀ v s', Q v s' → R (.ok (.ret v)) s') :
    codeAny (model prog w) A (.builtin "max.loop" ⟨[it, .none, .ref s₂.heap.objs.size], []⟩) R { s₂ with heap := s₂.heap.push { cls := .type "list", data := .seq #[] } } := by
  obtain ⟨I, fp, n, P, St, bt, ei, W, st, hf, hn, keep, cmp, hQ⟩ := h
  rw [ei]
  have apart : ∀ b o, h0.get? b = some o → b ≠ s₂.heap.objs.size := fun b o e => Nat.ne_of_lt (Heap.lt_size (keep b o e).1)
  refine max_first (R := R) (h0 := h0) (c := 0) W bt (cmp _ apart) (fun z => Nat.lt_irrefl _ (hf _ z)) hn (fun v g tk z old => hR _ _ (hQ v g tk z fun b o e => ?_)) (W.frame _ _ _ st fun b _ o e => Heap.get?_push_of_some _ e)
    (fun b o _ _ e => Heap.get?_push_of_some _ (keep b o e).1) (Heap.get?_push_size _ rfl)
  exact old b o (by simpa using (keep b o e).2) (apart b o e) e
theorem max_call1 {h0 : Heap} {x : Value} {Q : Value → Shared → Prop} (h : wpAny (model prog w) A.in1 (pyIter x) (fun it s₂ => MaxWalk prog w A h0 Q it s₂) E s) : wpAny (model prog w) A (call (.builtin "max") [x]) Q E s := by
  have nm : (toString "max" ++ toString ".loop" : String) = "max.loop" := by decide
  refine call_function_tree F.kind_max F.plain_max F.entry_max (F.args_max1 _) ?_
  show wpAny _ A.in1 (Builtin.Builtins.bindParams "max" ["key", "default"] 0 ⟨[], []⟩ >>= _) _ _ s
  refine wpAny_bind (wpAny_of_eq (show Builtin.Builtins.bindParams "max" ["key", "default"] 0 ⟨[], []⟩ = pure [none, none] from rfl) (wpAny_bind (wpAny_pure ?_)))
  refine wpAny_bind (wpAny_mono h (fun it s₂ h₂ => wpAny_bind (wpAny_newObj_type ?_)) fun _ _ e => e)
  rw [nm]
  exact wpAny_pure ⟨plainId_quiet F.plain_max_loop _, max_end h₂ fun v s' q => q⟩
theorem max_call2 {h0 : Heap} {x y : Value} {Q : Value → Shared → Prop}
    (h : wpAny (model prog w) A.in1 (pyIter (.ref s.heap.objs.size)) (fun it s₂ => MaxWalk prog w A h0 Q it s₂) E { s with heap := s.heap.push { cls := .type "tuple", data := .seq #[x, y] } }) : wpAny (model prog w) A (call (.builtin "max") [x, y]) Q E s := by
  have nm : (toString "max" ++ toString ".loop" : String) = "max.loop" := by decide
  refine call_function_tree F.kind_max F.plain_max F.entry_max (F.args_max2 _ _) ?_
  show wpAny _ A.in1 (Builtin.Builtins.bindParams "max" ["key", "default"] 0 ⟨[], []⟩ >>= _) _ _ s
  refine wpAny_bind (wpAny_of_eq (show Builtin.Builtins.bindParams "max" ["key", "default"] 0 ⟨[], []⟩ = pure [none, none] from rfl) ?_)
  show wpAny _ A.in1 (newTuple [x, y] >>= _) _ _ s
  refine wpAny_bind (wpAny_newObj_type (wpAny_bind (wpAny_mono h (fun it s₂ h₂ => wpAny_bind (wpAny_newObj_type ?_)) fun _ _ e => e)))
  rw [nm]
  exact wpAny_pure ⟨plainId_quiet F.plain_max_loop _, max_end h₂ fun v s' q => q⟩
end
end TP.R
set_option maxHeartbeats 4000000
namespace TP.R
open PySem PySem.Spec PyProof.Rows L2

theorem best_lt (bt : Nat → Nat → Bool) : ∀ n, argBest bt n ≤ n
  | 0 => Nat.le_refl _
  | n + 1 => by
    have h := best_lt bt n
    show (if bt (n + 1) (argBest bt n) = true then n + 1 else argBest bt n) ≤ n + 1
    split <;> omega
theorem best_top (kk : Nat → List Int) : ∀ n i, i ≤ n → HT.lexLt (kk (argBest (fun i j => HT.lexLt (kk j) (kk i)) n)) (kk i) = false
  | 0, i, h => by
    have e : i = 0 := by omega
    rw [e]
    exact (NtL.swo_lexL fun l : List Int => l).refl _
  | n + 1, i, h => by
    have ih := best_top kk n
    have e : argBest (fun i j => HT.lexLt (kk j) (kk i)) (n + 1) = if HT.lexLt (kk (argBest (fun i j => HT.lexLt (kk j) (kk i)) n)) (kk (n + 1)) = true then n + 1 else argBest (fun i j => HT.lexLt (kk j) (kk i)) n := rfl
    rw [e]
    generalize argBest (fun i j => HT.lexLt (kk j) (kk i)) n = m at ih ⊢
    by_cases c : HT.lexLt (kk m) (kk (n + 1)) = true
    · rw [if_pos c]
      by_cases hi : i = n + 1
      · rw [hi]
        exact (NtL.swo_lexL fun l : List Int => l).refl _
      · exact NtL.lex_tr _ _ _ (ih i (by omega)) (NtL.lex_asym _ _ c)
    · rw [if_neg c]
      by_cases hi : i = n + 1
      · rw [hi]
        simpa using c
      · exact ih i (by omega)
section
variable {X : Cx} {pins : List (Addr × Obj)} {σ : L2.St} {H : Hp} {s : Shared}
theorem tp_of (I : Inv X pins σ H s) {t : Addr} {ns : List Int} (h : SqT X.K H t (ns.map V.int)) : Tp s.heap (.ref t) ns := by
  obtain ⟨jts, rj, hj, _⟩ := I.tuple h
  exact ⟨t, _, rfl, hj, by simpa using rj.ints⟩
/-- the comparison that the walk wants, from what the items are in h0 -/
theorem cmp_of {prog : Program} {w : World} {A : Around} {h0 : Heap} {J S : Addr} {its : Array Value} {k : Value → List Int} {d : Nat} (hv : ∀ v ∈ its, Tp h0 v (k v) ∧ (k v).length = d) (hJ : ∀ b o, h0.get? b = some o → b ≠ J)
    (hS : ∀ b o, h0.get? b = some o → b ≠ S) (hu : A.units < cLine) :
    CmpIn prog w A h0 [J] S (fun i v => its[i]? = some v) fun i j => HT.lexLt (k (its.getD j .none)) (k (its.getD i .none)) := by
  intro i j vi vj s Q E old hi hj hq
  have m1 : vi ∈ its := Array.mem_of_getElem? hi
  have m2 : vj ∈ its := Array.mem_of_getElem? hj
  have e1 : its.getD i .none = vi := by simp [Array.getD_eq_getD_getElem?, hi]
  have e2 : its.getD j .none = vj := by simp [Array.getD_eq_getD_getElem?, hj]
  have hq2 : Q (.bool (HT.lexLt (k (its.getD j .none)) (k (its.getD i .none)))) s := hq
  rw [e1, e2] at hq2
  have kp : ∀ b o, h0.get? b = some o → o.cls = .type "tuple" → s.heap.get? b = some o := fun b o e _ => old b o (by simpa using hJ b o e) (hS b o e) e
  exact gt_tups ((hv vi m1).1.keep kp) ((hv vj m2).1.keep kp) ((hv vi m1).2.trans (hv vj m2).2.symm) hu hq2
end
/-- max(xs), xs a list of tuples of d ints: one of the greatest -/
def rMaxQ (K : PySem.W.Frag) (d : Nat) : List V → Hp → VK → Prop := fun vs H Q => ∃ (a : Addr) (xs : List V) (k : V → List Int), vs = [V.ref a] ∧ SqL K H a xs ∧ xs ≠ [] ∧
  (∀ x ∈ xs, ∃ t, x = V.ref t ∧ SqT K H t ((k x).map V.int) ∧ (k x).length = d) ∧ ∀ x ∈ xs, (∀ y ∈ xs, HT.lexLt (k x) (k y) = false) → Q x H
/-- max(x, y) of two tuples of d ints -/
def rMaxQ2 (K : PySem.W.Frag) : List V → Hp → VK → Prop := fun vs H Q => ∃ (a b : Addr) (ns ms : List Int), vs = [V.ref a, V.ref b] ∧ SqT K H a (ns.map V.int) ∧ SqT K H b (ms.map V.int) ∧ ns.length = ms.length ∧
  Q (if HT.lexLt ns ms = true then .ref b else .ref a) H
section
variable {X : Cx}
theorem cr_maxQ {d : Nat} (hc : X.calm = true) (hu : X.A.units + 1 < cLine) : CallR X (.builtin "max") (rMaxQ X.K d) := by
  intro pins s σ H vs us Q I r h
  obtain ⟨a, xs, k, ev, hs, hne, hx, q⟩ := h
  rw [ev] at r
  obtain ⟨its, rv, hl, hz⟩ := I.list hs
  obtain ⟨u, eu, ru⟩ := vals1 r
  have ru' : u = Value.ref a := ru
  rw [eu, ru']
  obtain ⟨e1, e2⟩ := refs_back rv fun x m => (hx x m).imp fun t z => z.1
  have tps : ∀ v ∈ its.toArray, Tp s.heap v (k (backV v)) ∧ (k (backV v)).length = d := fun v hv => by
    have hv' : v ∈ its := by simpa using hv
    obtain ⟨t, et⟩ := e2 v hv'
    have hm : V.ref t ∈ xs := by
      rw [e1]
      exact List.mem_map.mpr ⟨v, hv', by rw [et]; rfl⟩
    obtain ⟨t', ett, ht, hl⟩ := hx _ hm
    cases ett
    rw [et]
    exact ⟨tp_of I ht, hl⟩
  have hpos : 0 < its.toArray.size := by
    rw [List.size_toArray, ← rv.length]
    exact List.length_pos_iff.mpr hne
  have li := hl.isList
  refine max_call1 (h0 := s.heap) (wpAny_pyIter_list li ?_)
  obtain ⟨ob, hob, hcls, nn, hdt⟩ := id li
  have ax : a < s.heap.objs.size := Heap.lt_size hob
  refine ⟨s.heap.objs.size, [s.heap.objs.size, a], _, _, _, fun i j => HT.lexLt (k (backV (its.toArray.getD j .none))) (k (backV (its.toArray.getD i .none))), rfl, Walks.list (A := X.A.in1) (I.ok.hd hc) s.heap.objs.size a (Nat.ne_of_lt ax) its.toArray,
    ⟨⟨_, Heap.get?_push_size _ rfl, rfl, rfl⟩, li.push _⟩, fun b hb => ?_, hpos, fun b o e => ⟨Heap.get?_push_of_some _ e, Nat.ne_of_lt (Heap.lt_size e)⟩,
    fun S hS => cmp_of (k := fun v => k (backV v)) (d := d) tps (fun b o e => Nat.ne_of_lt (Heap.lt_size e)) hS hu, fun v g tk hv kp => ?_⟩
  · show b < (s.heap.push _).objs.size
    rw [Heap.size_push]
    rcases List.mem_cons.mp hb with e | hb
    · rw [e]; exact Nat.lt_succ_self _
    · rw [List.mem_singleton.mp hb]; exact Nat.lt_succ_of_lt ax
  · have mv : v ∈ its := by simpa using Array.mem_of_getElem? hv
    obtain ⟨t, et⟩ := e2 v mv
    have ex : V.ref t = backV v := by rw [et]; rfl
    have hm : V.ref t ∈ xs := by
      rw [e1, ex]
      exact List.mem_map.mpr ⟨v, mv, rfl⟩
    refine ⟨V.ref t, H, I.kept (t' := tk) kp, et, q _ hm fun y hy => ?_⟩
    rw [e1] at hy
    obtain ⟨u, hu1, eu1⟩ := List.mem_map.mp hy
    obtain ⟨i, hi, ei⟩ := List.mem_iff_getElem.mp hu1
    have top := best_top (fun i => k (backV (its.toArray.getD i .none))) (its.toArray.size - 1) i (by rw [List.size_toArray]; omega)
    have b1 : its.toArray.getD (argBest (fun i j => HT.lexLt (k (backV (its.toArray.getD j .none))) (k (backV (its.toArray.getD i .none)))) (its.toArray.size - 1)) .none = v := by
      rw [Array.getD_eq_getD_getElem?, hv]
      rfl
    have b2 : its.toArray.getD i .none = u := by simp [Array.getD_eq_getD_getElem?, hi, ei]
    rw [b1, b2] at top
    rw [ex, ← eu1]
    exact top
theorem cr_maxQ2 (hc : X.calm = true) (hu : X.A.units + 1 < cLine) : CallR X (.builtin "max") (rMaxQ2 X.K) := by
  intro pins s σ H vs us Q I r h
  obtain ⟨a, b, ns, ms, ev, ha, hb, hl, q⟩ := h
  rw [ev] at r
  obtain ⟨u1, u2, eu, r1, r2⟩ := vals2 r
  have r1' : u1 = Value.ref a := r1
  have r2' : u2 = Value.ref b := r2
  rw [eu, r1', r2']
  have ta := tp_of I ha
  have tb := tp_of I hb
  -- which ints a value holds: by its place
  have hT : (s.heap.push { cls := .type "tuple", data := .seq #[.ref a, .ref b] }).IsTuple s.heap.objs.size #[.ref a, .ref b] := ⟨_, Heap.get?_push_size _ rfl, rfl, 0, rfl⟩
  have hsz : (s.heap.push { cls := .type "tuple", data := .seq #[.ref a, .ref b] }).objs.size = s.heap.objs.size + 1 := Heap.size_push ..
  have lt1 : ∀ c o, s.heap.get? c = some o → c ≠ (s.heap.push { cls := .type "tuple", data := .seq #[.ref a, .ref b] }).objs.size := fun c o e => by
    rw [hsz]
    exact Nat.ne_of_lt (Nat.lt_succ_of_lt (Heap.lt_size e))
  refine max_call2 (h0 := s.heap) (wpAny_pyIter_tuple hT ?_)
  refine ⟨_, [_, s.heap.objs.size], 2, fun i v => (#[Value.ref a, Value.ref b] : Array Value)[i]? = some v, _, fun i j => HT.lexLt (if j = 0 then ns else ms) (if i = 0 then ns else ms), rfl,
    Walks.tuple (A := X.A.in1) (I.ok.hd hc) _ s.heap.objs.size (by show s.heap.objs.size ≠ (s.heap.push _).objs.size; rw [hsz]; exact Nat.ne_of_lt (Nat.lt_succ_self _)) #[.ref a, .ref b],
    ⟨⟨_, Heap.get?_push_size _ rfl, rfl, rfl⟩, hT.push _⟩, fun c hc => ?_, by decide, fun c o e => ⟨Heap.get?_push_of_some _ (Heap.get?_push_of_some _ e), lt1 c o e⟩,
    fun S hS => ?_, fun v g tk hv kp => ?_⟩
  · show c < ((s.heap.push _).push _).objs.size
    rw [Heap.size_push]
    rcases List.mem_cons.mp hc with e | hc
    · rw [e]; exact Nat.lt_succ_self _
    · rw [List.mem_singleton.mp hc, hsz]; exact Nat.lt_succ_of_lt (Nat.lt_succ_self _)
  · intro i j vi vj s' Q' E' old hi hj hq
    have kp : ∀ c o, s.heap.get? c = some o → o.cls = .type "tuple" → s'.heap.get? c = some o := fun c o e _ => old c o (by simpa using lt1 c o e) (hS c o e) e
    have ta' := ta.keep kp
    have tb' := tb.keep kp
    have at_ : ∀ i v, (#[Value.ref a, Value.ref b] : Array Value)[i]? = some v → Tp s'.heap v (if i = 0 then ns else ms) ∧ (if i = 0 then ns else ms).length = ns.length := fun i v e => by
      match i, e with
      | 0, e => cases e; exact ⟨ta', rfl⟩
      | 1, e => cases e; exact ⟨tb', hl.symm⟩
      | i + 2, e => simp at e
    obtain ⟨t1, l1⟩ := at_ i vi hi
    obtain ⟨t2, l2⟩ := at_ j vj hj
    exact gt_tups t1 t2 (l1.trans l2.symm) hu hq
  · have ab : argBest (fun i j => HT.lexLt (if j = 0 then ns else ms) (if i = 0 then ns else ms)) (2 - 1) = if HT.lexLt ns ms = true then 1 else 0 := rfl
    rw [ab] at hv
    refine ⟨_, H, I.kept (t' := tk) kp, ?_, q⟩
    by_cases c : HT.lexLt ns ms = true
    · rw [if_pos c] at hv ⊢
      cases hv
      rfl
    · rw [if_neg c] at hv ⊢
      cases hv
      rfl
end
end TP.R
set_option maxHeartbeats 4000000
namespace TP.R
open PySem PySem.Spec PyProof.Rows L2

/-! ### a list comprehension of many clauses, none with a test: the loop of one clause, whatever follows -/
section
variable {prog : Program} {w : World} {A : Around} {R : Result → Shared → Prop} {t i i1 elt : Expr} {gens : List Comprehension} {scope : Scope} {pos : Pos} {k : Nat} {it acc : Value} {env : Env}
/-- what is wanted of an exception -/
abbrev NB (prog : Program) (w : World) (A : Around) (env : Env) (R : Result → Shared → Prop) : Value → Shared → Prop := notedBy (model prog w) A env fun x s' => R (.error x) s'
/-- a clause that has a next one -/
theorem loop_out
    (ht : compTurn (.ListComp elt gens scope pos) k it acc env = (do
      standAt i.pos
      match ← pyNext it with
      | none => pure (.done .next)
      | some v =>
        letOwnedTupleGo t it v
        assign t env v
        let mut ok := true
        for c in ([] : List Expr) do
          if ok then ok ← isTrue c env (eval c env)
        if ok then
          let x ← eval i1 env
          standAt i1.pos
          let x ← foldedSetIterable i1 env x
          let _ ← runOwn (.compStart (.ListComp elt gens scope pos) (k + 1) (← holding [x] (pyIter x)) acc env) env
        again (.compLoop (.ListComp elt gens scope pos) k it acc env)))
    (hs : ∀ x, foldedSetIterable i1 env x = pure x) (J : Nat → Shared → Prop)
    (turn : ∀ n s, J n s → wpAny (model prog w) A (pyNext it) (fun r s₁ => match r with
      | none => R (.ok .next) s₁
      | some v => wpAny (model prog w) A (letOwnedTupleGo t it v) (fun _ s₂ => wpAny (model prog w) A (assign t env v) (fun _ s₃ =>
          wpAny (model prog w) A (eval i1 env) (fun x s₄ => wpAny (model prog w) A (pyIter x) (fun it1 s₅ =>
            codeAny (model prog w) A (.compStart (.ListComp elt gens scope pos) (k + 1) it1 acc env) (fun r s' => match r with
              | .ok _ => ∃ m, m < n ∧ J m s'
              | .error _ => False) s₅) (NB prog w A env R) s₄) (NB prog w A env R) s₃) (NB prog w A env R) s₂) (NB prog w A env R) s₁) (NB prog w A env R) s)
    (n : Nat) {s : Shared} (h : J n s) : codeAny (model prog w) A (.compLoop (.ListComp elt gens scope pos) k it acc env) R s := by
  refine codeAny_loop rfl J (fun n s hJ => ?_) n h
  show wpAny _ A ((compTurn (.ListComp elt gens scope pos) k it acc env).onRaise (fun x => do noteFrame x env; theTreesLotGoes x)) _ _ s
  refine wpAny_noted ?_
  rw [ht]
  refine wpAny_bind (wpAny_standAt (wpAny_bind (wpAny_mono (turn n s hJ) (fun r s₁ q1 => ?_) fun _ _ z => z)))
  cases r with
  | none => exact wpAny_pure q1
  | some v =>
    refine wpAny_bind (wpAny_mono q1 (fun _ s₂ q2 => ?_) fun _ _ z => z)
    refine wpAny_bind (wpAny_mono q2 (fun _ s₃ q3 => wpAny_bind (wpAny_tests_nil ?_)) fun _ _ z => z)
    simp only [if_true]
    refine wpAny_bind (wpAny_mono q3 (fun x s₄ q4 => ?_) fun _ _ z => z)
    refine wpAny_bind (wpAny_standAt (wpAny_bind (wpAny_of_eq (hs x) (wpAny_bind (wpAny_holding (wpAny_mono q4 (fun it1 s₅ q5 => ?_) fun _ _ z => z))))))
    refine wpAny_bind (wpAny_runOwn ?_)
    rw [Around.mark_none]
    refine codeAny_mono q5 fun r s' hr => ?_
    cases r with
    | ok f =>
      first
        | exact wpAny_pure ⟨rfl, hr⟩
        | exact wpAny_bind (wpAny_pure (wpAny_pure ⟨rfl, hr⟩))
    | error x => exact hr.elim
/-- the last clause -/
theorem loop_in
    (ht : compTurn (.ListComp elt gens scope pos) k it acc env = (do
      standAt i.pos
      match ← pyNext it with
      | none => pure (.done .next)
      | some v =>
        letOwnedTupleGo t it v
        assign t env v
        let mut ok := true
        for c in ([] : List Expr) do
          if ok then ok ← isTrue c env (eval c env)
        if ok then
          (do let _ ← call (.builtin "list.append") [acc, ← eval elt env])
        again (.compLoop (.ListComp elt gens scope pos) k it acc env)))
    (J : Nat → Shared → Prop)
    (turn : ∀ n s, J n s → wpAny (model prog w) A (pyNext it) (fun r s₁ => match r with
      | none => R (.ok .next) s₁
      | some v => wpAny (model prog w) A (letOwnedTupleGo t it v) (fun _ s₂ => wpAny (model prog w) A (assign t env v) (fun _ s₃ =>
          wpAny (model prog w) A (eval elt env) (fun x s₄ => wpAny (model prog w) A (call (.builtin "list.append") [acc, x]) (fun _ s₅ => ∃ m, m < n ∧ J m s₅) (NB prog w A env R) s₄) (NB prog w A env R) s₃) (NB prog w A env R) s₂) (NB prog w A env R) s₁)
        (NB prog w A env R) s)
    (n : Nat) {s : Shared} (h : J n s) : codeAny (model prog w) A (.compLoop (.ListComp elt gens scope pos) k it acc env) R s := by
  refine codeAny_loop rfl J (fun n s hJ => ?_) n h
  show wpAny _ A ((compTurn (.ListComp elt gens scope pos) k it acc env).onRaise (fun x => do noteFrame x env; theTreesLotGoes x)) _ _ s
  refine wpAny_noted ?_
  rw [ht]
  refine wpAny_bind (wpAny_standAt (wpAny_bind (wpAny_mono (turn n s hJ) (fun r s₁ q1 => ?_) fun _ _ z => z)))
  cases r with
  | none => exact wpAny_pure q1
  | some v =>
    refine wpAny_bind (wpAny_mono q1 (fun _ s₂ q2 => ?_) fun _ _ z => z)
    refine wpAny_bind (wpAny_mono q2 (fun _ s₃ q3 => wpAny_bind (wpAny_tests_nil ?_)) fun _ _ z => z)
    simp only [if_true]
    exact wpAny_bind (wpAny_bind (wpAny_mono q3 (fun x s₄ q4 => wpAny_bind (wpAny_mono q4 (fun _ s₅ q5 => wpAny_pure (wpAny_pure ⟨rfl, q5⟩)) fun _ _ z => z)) fun _ _ z => z))
/-- a later clause's start -/
theorem start_ok {g : Comprehension} (hg : (clausesOf (.ListComp elt gens scope pos))[k]? = some g) (ga : g.is_async = 0) {s : Shared}
    (h0 : codeAny (model prog w) A (.compLoop (.ListComp elt gens scope pos) k it acc env) R s)
    (h : wpAny (model prog w) A (pyIter it) (fun it' s' => codeAny (model prog w) A (.compLoop (.ListComp elt gens scope pos) k it' acc env) R s') (NB prog w A env R) s) :
    codeAny (model prog w) A (.compStart (.ListComp elt gens scope pos) k it acc env) R s := by
  refine codeAny_of_tree ?_
  show wpAny _ _ ((compStart (.ListComp elt gens scope pos) k it acc env).onRaise (fun x => do noteFrame x env; standAt theWindowsPlace)) _ _ s
  refine wpAny_notedAt ?_
  unfold compStart
  have e1 : (((clausesOf (.ListComp elt gens scope pos))[k]?).elim false (·.is_async != 0)) = false := by
    rw [hg]
    show (g.is_async != 0) = false
    rw [ga]
    rfl
  rw [e1, hg]
  show wpAny _ _ (ask >>= _) _ _ s
  refine wpAny_bind (wpAny_askSetting (wpAny_ite ?_))
  split
  · first
      | exact wpAny_bind (wpAny_pure (wpAny_pure (And.intro rfl h0)))
      | exact wpAny_pure (And.intro rfl h0)
  · first
      | exact wpAny_bind (wpAny_rule (wpAny_bind (wpAny_standAt (wpAny_bind (wpAny_mono h (fun it' s' z => wpAny_pure (And.intro rfl z)) fun _ _ x => x)))))
      | (refine wpAny_bind (wpAny_rule ?_); show wpAny _ _ (standAt g.iter.pos >>= _) _ _ s; exact wpAny_bind (wpAny_standAt (wpAny_bind (wpAny_mono h (fun it' s' z => wpAny_pure (And.intro rfl z)) fun _ _ x => x))))
end
end TP.R
set_option maxHeartbeats 4000000
namespace TP.R
open PySem PySem.Spec PyProof.Rows L2

/-- the end of a clause's loop: the slots below are as they were, the heap as wanted -/
def LEnd (X : Cx) (pins : List (Addr × Obj)) (σ : L2.St) (Nx : Hp → Prop) (r : Result) (s' : Shared) : Prop := match r with
  | .ok _ => ∃ H', Inv X pins σ H' s' ∧ Nx H'
  | .error _ => False
/-- a clause from its source on: vs are its own and its followers' slots -/
structure Lp (X : Cx) (elt : Expr) (gens : List Comprehension) (scope : Scope) (pos : Pos) (k : Nat) (D : Addr) (i : Expr) (vs : List Nat) (rd : L2.St → Hp → (Hp → Prop) → Prop) : Prop where
  run : ∀ (pins : List (Addr × Obj)) (s : Shared) (σ : L2.St) (H : Hp) (Nx : Hp → Prop), Inv X pins σ H s → rd σ H Nx →
    wpAny (model X.prog X.w) X.A (eval i X.env) (fun x s1 => wpAny (model X.prog X.w) X.A (pyIter x) (fun it s2 =>
      codeAny (model X.prog X.w) X.A (.compStart (.ListComp elt gens scope pos) k it (.ref D) X.env) (LEnd X pins (wipe σ vs) Nx) s2) (fun _ _ => False) s1) (fun _ _ => False) s
/-- its reading: b what its body reads -/
def rdL (wi : TI) (g : TG) (vs : List Nat) (b : L2.St → Hp → (Hp → Prop) → Prop) : L2.St → Hp → (Hp → Prop) → Prop := fun σ H Nx => wi σ H fun J H1 => ∃ W : Nat → Nat → Hp → Prop, (∃ m, W 0 m H1) ∧ ∀ i m H, W i m H →
  (J.stop i H ∧ Nx H) ∨ (J.go i H ∧ ∃ Nk : Hp → Prop, (∀ H', Nk H' → ∃ m', m' < m ∧ W (i + 1) m' H') ∧ ∀ x H', J.yld i H x H' → g x (wipe σ vs) H' fun σ2 H2 => wipe σ2 vs = wipe σ vs ∧ b σ2 H2 Nk)
/-- the last body: the element, appended -/
def bApp (te : TE) (D : Addr) : L2.St → Hp → (Hp → Prop) → Prop := fun σ H Nx => te σ H fun y H1 => ∃ acc, H1 D = some (.lst acc) ∧ acc.length < sizeLine ∧ Nx (upd H1 D (.lst (acc ++ [y])))
section
variable {X : Cx} {elt t i i1 : Expr} {gens : List Comprehension} {scope : Scope} {pos : Pos} {k : Nat} {D : Addr} {wi : TI} {g : TG} {te : TE} {vs vs1 : List Nat} {rd1 : L2.St → Hp → (Hp → Prop) → Prop}
/-- a body, from slots where the target is stored: its code's end with the slots below as they were -/
def Bdy (X : Cx) (vs : List Nat) (b : L2.St → Hp → (Hp → Prop) → Prop) (code : (Result → Shared → Prop) → Shared → Prop) : Prop :=
  ∀ (pins : List (Addr × Obj)) (s : Shared) (σ : L2.St) (H : Hp) (Nx : Hp → Prop) (R : Result → Shared → Prop), Inv X pins σ H s → b σ H Nx → (∀ r s', LEnd X pins (wipe σ vs) Nx r s' → R r s') → code R s
/-- the turns, by the body's code -/
theorem turns {code : (Result → Shared → Prop) → Shared → Prop} {b : L2.St → Hp → (Hp → Prop) → Prop} (hx : X.xe = fun _ _ => False) (hc : X.calm = true) (hg : PG X t g) (hb : Bdy X vs b code) {pins : List (Addr × Obj)} {σ : L2.St} {Nx : Hp → Prop} {it : Addr} {fp : List Addr}
    {tn : Nat → Heap → Prop} {J : It} (T : Turn X.prog X.w X.K t J fp it tn) {W : Nat → Nat → Hp → Prop}
    (turn : ∀ i m H, W i m H → (J.stop i H ∧ Nx H) ∨ (J.go i H ∧ ∃ Nk : Hp → Prop, (∀ H', Nk H' → ∃ m', m' < m ∧ W (i + 1) m' H') ∧ ∀ x H', J.yld i H x H' → g x (wipe σ vs) H' fun σ2 H2 => wipe σ2 vs = wipe σ vs ∧ b σ2 H2 Nk))
    (fpk : ∀ b ∈ fp, ∀ H', H' b = none → FpOk X pins H' b) (m : Nat) (s : Shared) (Q : Option Value → Shared → Prop)
    (h : ∃ i H', Inv X pins (wipe σ vs) H' s ∧ tn i s.heap ∧ (∀ b ∈ fp, H' b = none) ∧ W i m H')
    (q0 : ∀ s' H', Inv X pins (wipe σ vs) H' s' → Nx H' → Q none s')
    (q1 : ∀ v s', wpAny (model X.prog X.w) X.A (letOwnedTupleGo t (.ref it) v) (fun _ s2 => wpAny (model X.prog X.w) X.A (assign t X.env v) (fun _ s3 =>
      code (fun r s4 => match r with
        | .ok _ => ∃ m', m' < m ∧ ∃ i H', Inv X pins (wipe σ vs) H' s4 ∧ tn i s4.heap ∧ (∀ b ∈ fp, H' b = none) ∧ W i m' H'
        | .error _ => False) s3) (fun _ _ => False) s2) (fun _ _ => False) s' → Q (some v) s') :
    wpAny (model X.prog X.w) X.A (pyNext (.ref it)) Q (fun _ _ => False) s := by
  obtain ⟨i, H1, I1, st1, n1, w1⟩ := h
  have stat : ∀ {H' : Hp}, (∀ b ∈ fp, H' b = none) → ∀ b ∈ fp, FpOk X pins H' b := fun hn b hb => fpk b hb _ (hn b hb)
  rcases turn i m H1 w1 with ⟨stop, nx⟩ | ⟨go, Nk, hNk, step⟩
  · refine thnF (T.done X rfl rfl rfl hc i pins s (wipe σ vs) H1 (fun _ _ => False) I1 (stat n1) st1 stop) fun r s2 ⟨hr, I2⟩ => ?_
    rw [hr]
    exact q0 s2 H1 I2 nx
  · refine thnF (T.item X rfl rfl rfl hc i pins s (wipe σ vs) H1 (fun _ _ => False) I1 (stat n1) st1 go) fun r s2 ⟨u, hr, h2⟩ => ?_
    rw [hr]
    refine q1 u s2 (thnF h2 fun _ s3 ⟨x, H3, I3, r3, y3, st3, n3⟩ => ?_)
    have I3p := I3.pinned (stat n3) (T.obj _ _ st3)
    have pg := hg.run _ s3 (wipe σ vs) H3 x u _ I3p r3 (step x H3 y3)
    rw [hx] at pg
    refine thnF pg fun _ s4 ⟨σ4, H4, I4, hw4, q4⟩ => ?_
    refine hb _ s4 σ4 H4 Nk _ I4 q4 fun r s5 h5 => ?_
    cases r with
    | error z => exact h5.elim
    | ok f =>
      obtain ⟨H5, I5, nk⟩ := h5
      obtain ⟨m', hm, w'⟩ := hNk H5 nk
      have pin' : ∀ b ∈ fp, ∀ o, s3.heap.get? b = some o → s5.heap.get? b = some o ∧ H5 b = none := fun b hb o e =>
        let z := I5.pin (b, o) (List.mem_append_right _ (List.mem_append_right _ (mem_pinsAt hb e)))
        ⟨z.1, z.2.1⟩
      rw [hw4] at I5
      refine ⟨m', hm, i + 1, H5, I5.unpinned, T.keep _ _ _ st3 fun b hb o e => (pin' b hb o e).1, fun b hb => ?_, w'⟩
      obtain ⟨o, e, _⟩ := T.obj _ _ st3 b hb
      exact (pin' b hb o e).2
theorem weak_wipe {pins : List (Addr × Obj)} {σ : L2.St} {H : Hp} {s : Shared} (hv : ∀ i ∈ vs1, i ∈ vs) (I : Inv X pins (wipe σ vs1) H s) : Inv X pins (wipe σ vs) H s :=
  I.weak ((wipe_length σ vs).trans (wipe_length σ vs1).symm) fun j v e => by
    obtain ⟨e1, e2⟩ := wipe_some e
    rw [wipe_out fun z => e2 (hv j z)]
    exact e1
theorem bdy_app (hx : X.xe = fun _ _ => False) (he : PE X elt te) : Bdy X vs (bApp te D) fun R s => wpAny (model X.prog X.w) X.A (eval elt X.env) (fun x s1 =>
    wpAny (model X.prog X.w) X.A (call (.builtin "list.append") [.ref D, x]) (fun _ s2 => R (.ok .next) s2) (fun _ _ => False) s1) (fun _ _ => False) s := fun pins s σ H Nx R I h hR => by
  have pe := he.run pins s σ H _ I h
  rw [hx] at pe
  refine thnF pe fun x s1 ⟨y, H1, I1, r1, acc, hD, hz, nx⟩ => ?_
  refine app_ok I1 hD hz r1 fun s2 I2 => hR _ _ ⟨_, weak_wipe (vs1 := []) (fun _ z => by cases z) I2, nx⟩
theorem bdy_lp {rd : L2.St → Hp → (Hp → Prop) → Prop} (L : Lp X elt gens scope pos k D i1 vs1 rd) (hv : ∀ i ∈ vs1, i ∈ vs) : Bdy X vs rd fun R s => wpAny (model X.prog X.w) X.A (eval i1 X.env) (fun x s1 => wpAny (model X.prog X.w) X.A (pyIter x) (fun it s2 =>
    codeAny (model X.prog X.w) X.A (.compStart (.ListComp elt gens scope pos) k it (.ref D) X.env) R s2) (fun _ _ => False) s1) (fun _ _ => False) s := fun pins s σ H Nx R I h hR => by
  refine thnF (L.run pins s σ H Nx I h) fun x s1 h1 => thnF h1 fun it s2 h2 => codeAny_mono h2 fun r s3 h3 => hR r s3 ?_
  cases r with
  | error z => exact h3.elim
  | ok f =>
    obtain ⟨H', I', nx⟩ := h3
    exact ⟨H', weak_wipe hv I', nx⟩
/-- a later clause, from its loop's rule -/
theorem lp_of {code : (Result → Shared → Prop) → Shared → Prop} {b : L2.St → Hp → (Hp → Prop) → Prop} {cg : Comprehension} (hk : (clausesOf (.ListComp elt gens scope pos))[k]? = some cg) (ha : cg.is_async = 0)
    (hx : X.xe = fun _ _ => False) (hc : X.calm = true) (hi : PI X t i wi) (hg : PG X t g) (hb : Bdy X vs b code)
    (rule : ∀ (it : Addr) (R : Result → Shared → Prop) (J : Nat → Shared → Prop),
      (∀ m s, J m s → wpAny (model X.prog X.w) X.A (pyNext (.ref it)) (fun r s1 => match r with
        | none => R (.ok .next) s1
        | some v => wpAny (model X.prog X.w) X.A (letOwnedTupleGo t (.ref it) v) (fun _ s2 => wpAny (model X.prog X.w) X.A (assign t X.env v) (fun _ s3 =>
            code (fun r s4 => match r with
              | .ok _ => ∃ m', m' < m ∧ J m' s4
              | .error _ => False) s3) (fun _ _ => False) s2) (fun _ _ => False) s1) (fun _ _ => False) s) →
      ∀ m s, J m s → codeAny (model X.prog X.w) X.A (.compLoop (.ListComp elt gens scope pos) k (.ref it) (.ref D) X.env) R s) :
    Lp X elt gens scope pos k D i vs (rdL wi g vs b) := ⟨fun pins s σ H Nx I h => by
  have pi := hi.run pins s σ H _ I h
  rw [hx] at pi
  refine thnF pi fun x s1 h1 => thnF h1 fun itv s2 h2 => ?_
  obtain ⟨it, fp, tn, J, H2, e, I2, T, st2, f2, W, ⟨m0, w0⟩, turn⟩ := h2
  rw [e]
  have loop : codeAny (model X.prog X.w) X.A (.compLoop (.ListComp elt gens scope pos) k (.ref it) (.ref D) X.env) (LEnd X pins (wipe σ vs) Nx) s2 := by
    refine rule it _ (fun m s' => ∃ i H', Inv X pins (wipe σ vs) H' s' ∧ tn i s'.heap ∧ (∀ b ∈ fp, H' b = none) ∧ W i m H') (fun m s3 hj => ?_) m0 s2 ⟨0, H2, weak_wipe (vs1 := []) (fun _ z => by cases z) I2, st2, fun b hb => (f2 b hb).1, w0⟩
    exact turns hx hc hg hb T turn (fun b hb H' hn => ⟨hn, (f2 b hb).2⟩) m s3 _ hj (fun s' H' I' nx => ⟨H', I', nx⟩) fun v s' hv => hv
  exact start_ok hk ha loop (T.self X.A 0 _ _ _ st2 loop)⟩
end
end TP.R
set_option maxHeartbeats 4000000
namespace TP.R
open PySem PySem.Spec PyProof.Rows L2

abbrev Cl (t i : Expr) : Comprehension := { target := t, iter := i, ifs := [], is_async := 0 }
/-- the reading of the whole: the list at D is made first -/
def tLcN (wi : TI) (g : TG) (vs : List Nat) (b : Addr → L2.St → Hp → (Hp → Prop) → Prop) : TE := fun σ H Q => wi σ H fun J H1 => ∀ D, H1 D = none → ∃ W : Nat → Nat → Hp → Prop, (∃ m, W 0 m (upd H1 D (.lst []))) ∧ ∀ i m H, W i m H →
  (J.stop i H ∧ Q (.ref D) H) ∨ (J.go i H ∧ ∃ Nk : Hp → Prop, (∀ H', Nk H' → ∃ m', m' < m ∧ W (i + 1) m' H') ∧ ∀ x H', J.yld i H x H' → g x (wipe σ vs) H' fun σ2 H2 => wipe σ2 vs = wipe σ vs ∧ b D σ2 H2 Nk)
section
variable {X : Cx}
theorem lcN_core {pins : List (Addr × Obj)} {s : Shared} {σ : L2.St} {H : Hp} {Q : VK} {use : Option (Value → Sem Unit)} {Qf : Value → Shared → Prop} {pos' : Pos} {elt t i i1 : Expr} {gs : List Comprehension} {scope : Scope} {own : List (Str × Nat)} {pos : Pos} {wi : TI} {g : TG} {vs1 : List Nat} {rd : Addr → L2.St → Hp → (Hp → Prop) → Prop} (hc : X.calm = true) (hN : X.N.Nodup) (I : Inv X pins σ H s) (hi : PI X t i wi) (ok : BlkOk X.N X.env.scope scope own)
    (hv : ∀ j ∈ vs1, j ∈ own.map (·.2))
    (hg : ∀ (s : Shared) (H : Hp) (C : Addr) (cl : List (Str × Addr)) (fp : List Addr), PG (X.blk s H scope (compEnvC scope cl C X.env) fp) t g)
    (hl : ∀ (D : Addr) (s : Shared) (H : Hp) (C : Addr) (cl : List (Str × Addr)) (fp : List Addr), Lp (X.blk s H scope (compEnvC scope cl C X.env) fp) elt (Cl t i :: gs) scope pos 1 D i1 vs1 (rd D))
    (ht : ∀ (it acc : Value) (env : Env), compTurn (.ListComp elt (Cl t i :: gs) scope pos) 0 it acc env = (do
      standAt i.pos
      match ← pyNext it with
      | none => pure (.done .next)
      | some v =>
        letOwnedTupleGo t it v
        assign t env v
        let mut ok := true
        for c in ([] : List Expr) do
          if ok then ok ← isTrue c env (eval c env)
        if ok then
          let x ← eval i1 env
          standAt i1.pos
          let x ← foldedSetIterable i1 env x
          let _ ← runOwn (.compStart (.ListComp elt (Cl t i :: gs) scope pos) (0 + 1) (← holding [x] (pyIter x)) acc env) env
        again (.compLoop (.ListComp elt (Cl t i :: gs) scope pos) 0 it acc env)))
    (hs : ∀ x, foldedSetIterable i X.env x = pure x) (hs1 : ∀ env x, foldedSetIterable i1 env x = pure x)
    (h : tLcN wi g (own.map (·.2)) rd σ H Q)
    (hRR : ∀ D C s' m H', Inv X pins σ H' s' → Q (.ref D) H' → s'.heap.Ns C m → FpOk X pins H' C → compPost (model X.prog X.w) X.A X.xe use Qf (.ref D) C (.ok .next) s') :
    wpAny (model X.prog X.w) X.A (comprehension (.ListComp elt (Cl t i :: gs) scope pos) scope X.env pos' (newList []) false (eval i X.env) use) Qf X.xe s := by
  have clo : ∀ y ∈ scope.names, y.2 = .free → ∃ c, X.env.cells.lookup y.1 = some c := fun y hy e => (ok.free y hy e).elim (fun z => I.ok.has _ (.inl z)) fun z => I.ok.has _ (.inr z)
  refine wpAny_comprehension_free (use := use) rfl hs (closure_ok clo) ok.kind (fun y hy e => by rw [ok.uniq y hy, e]) (thn (hi.run pins s σ H _ I h) fun xv s1 h1 => thn h1 fun itv s2 h2 => ?_)
  obtain ⟨it, fp, tn, J, H2, e, I2, T, st2, f2, q⟩ := h2
  rw [e]
  refine wpAny_newObj_type (newEnv_comp ?_) (by show 0 ≤ sizeLine; decide)
  -- the new list, at the heap's end
  generalize hD : s2.heap.objs.size = D
  have hDn : H2 D = none := I2.hok.fresh (Nat.le_of_eq hD)
  obtain ⟨W, ⟨m0, w0⟩, turn⟩ := q D hDn
  generalize hs3 : ({ s2 with heap := s2.heap.push { cls := .type "list", data := .seq ([] : List Value).toArray } } : Shared) = s3
  have h3 : s3.heap = s2.heap.push { cls := .type "list", data := .seq ([] : List Value).toArray } := by rw [← hs3]
  have g3 : ∀ b o, s2.heap.get? b = some o → s3.heap.get? b = some o := fun b o z => by
    rw [h3]
    exact Heap.get?_push_of_some _ z
  have I3 : Inv X pins σ (upd H2 D (.lst [])) s3 := by
    rw [← hs3]
    refine I2.laid (t' := s2.toks) (fun b o z => Heap.get?_push_of_some _ z) (Nat.le_of_eq hD) ⟨Nat.zero_le _, [], 0, .nil, ?_⟩
    rw [← hD]
    exact Heap.get?_push_size _ rfl
  have lt2 : ∀ b ∈ fp, b < s2.heap.objs.size := fun b hb => by
    obtain ⟨o, z, _⟩ := T.obj _ _ st2 b hb
    exact Heap.lt_size z
  have f3 : ∀ b ∈ fp, FpOk X pins (upd H2 D (.lst [])) b ∧ b < s3.heap.objs.size := fun b hb => by
    have l := lt2 b hb
    have nD : b ≠ D := by
      rw [← hD]
      exact Nat.ne_of_lt l
    refine ⟨⟨(upd_ne nD).trans (f2 b hb).1, (f2 b hb).2⟩, ?_⟩
    rw [h3, Heap.size_push]
    exact Nat.lt_succ_of_lt l
  have I4 := block_start I3 ok hN f3
  have pg := hg s3 (upd H2 D (.lst [])) s3.heap.objs.size (cellsFrom (s3.heap.objs.size + 1) scope.names (cloFrom X.env.cells scope.names [])) fp
  have lp := hl D s3 (upd H2 D (.lst [])) s3.heap.objs.size (cellsFrom (s3.heap.objs.size + 1) scope.names (cloFrom X.env.cells scope.names [])) fp
  have nfp : ∀ b ∈ fp, (upd H2 D (.lst [])) b = none := fun b hb => (f3 b hb).1.1
  show codeAny _ _ (.compStart (.ListComp elt (Cl t i :: gs) scope pos) 0 (.ref it) (.ref D) (compEnvC scope (cellsFrom (s3.heap.objs.size + 1) scope.names (cloFrom X.env.cells scope.names [])) s3.heap.objs.size X.env))
    (compPost (model X.prog X.w) X.A X.xe use Qf (.ref D) s3.heap.objs.size) { s3 with heap := pushCells (s3.heap.push { cls := .type "dict", data := .dict #[] }) scope.names }
  generalize hce : compEnvC scope (cellsFrom (s3.heap.objs.size + 1) scope.names (cloFrom X.env.cells scope.names [])) s3.heap.objs.size X.env = ce at I4 pg lp ⊢
  have cL : ce.locals = s3.heap.objs.size := by rw [← hce] <;> rfl
  generalize upd H2 D (.lst []) = H3 at I3 I4 pg lp w0 nfp f3
  generalize hs4 : ({ s3 with heap := pushCells (s3.heap.push { cls := .type "dict", data := .dict #[] }) scope.names } : Shared) = s4 at I4 ⊢
  have st4 : tn 0 s4.heap := T.keep _ _ _ st2 fun b _ o z => by
    rw [← hs4]
    exact pushCells_keeps _ _ _ _ (Heap.get?_push_of_some _ (g3 b o z))
  have loop : codeAny (model X.prog X.w) X.A (.compLoop (.ListComp elt (Cl t i :: gs) scope pos) 0 (.ref it) (.ref D) ce) (compPost (model X.prog X.w) X.A X.xe use Qf (.ref D) s3.heap.objs.size) s4 := by
    refine loop_out (ht _ _ _) (hs1 ce) (fun m s' => ∃ i H', Inv (X.blk s3 H3 scope ce fp) [] (wipe σ (own.map (·.2))) H' s' ∧ tn i s'.heap ∧ (∀ b ∈ fp, H' b = none) ∧ W i m H') (fun m s5 hj => ?_) m0 ⟨0, H3, I4, st4, nfp, w0⟩
    have xok : ∀ {H' : Hp} {s' : Shared}, Inv (X.blk s3 H3 scope ce fp) [] (wipe σ (own.map (·.2))) H' s' → (X.blk s3 H3 scope ce fp).Ok := fun z => z.ok
    obtain ⟨_, H5, I5, _⟩ := id hj
    have okb := I5.ok
    refine wpAny_mono (turns (X := X.blk s3 H3 scope ce fp) (pins := []) (Nx := fun H' => Q (.ref D) H') rfl hc pg (bdy_lp lp hv) T turn
      (fun b hb H' hn => ⟨hn, (okb.exf b hb).1, okb.exfs b hb, .inl hb, fun x c z => (okb.exf b hb).2 x c z, fun p hp => by simp at hp⟩) m s5
      (fun r s1 => match r with
        | none => compPost (model X.prog X.w) X.A X.xe use Qf (.ref D) s3.heap.objs.size (.ok .next) s1
        | some v => wpAny (model X.prog X.w) X.A (letOwnedTupleGo t (.ref it) v) (fun _ s2 => wpAny (model X.prog X.w) X.A (assign t ce v) (fun _ s3' =>
            wpAny (model X.prog X.w) X.A (eval i1 ce) (fun x s4 => wpAny (model X.prog X.w) X.A (pyIter x) (fun it1 s6 =>
              codeAny (model X.prog X.w) X.A (.compStart (.ListComp elt (Cl t i :: gs) scope pos) (0 + 1) it1 (.ref D) ce) (fun r s' => match r with
                | .ok _ => ∃ m', m' < m ∧ ∃ i H', Inv (X.blk s3 H3 scope ce fp) [] (wipe σ (own.map (·.2))) H' s' ∧ tn i s'.heap ∧ (∀ b ∈ fp, H' b = none) ∧ W i m' H'
                | .error _ => False) s6) (fun _ _ => False) s4) (fun _ _ => False) s3') (fun _ _ => False) s2) (fun _ _ => False) s1)
      hj (fun s6 H6 I6 qq => ?_) fun v s' hv => hv) (fun r s1 hr => ?_) fun _ _ z => z.elim
    · -- back in the def
      have I7 : Inv X pins σ H6 s6 := I3.call' (ch := fp) I6.os I6.base I6.hok I6.bare fun b hb => ⟨(f3 b hb).1.2.2.2.1, (f3 b hb).1.2.1, (f3 b hb).1.2.2.2.2.1, (f3 b hb).1.2.2.2.2.2⟩
      obtain ⟨mm, hn, _⟩ := I6.loc
      have hn' : s6.heap.Ns ce.locals mm := hn
      have nC : H6 ce.locals = none := I6.free
      rw [cL] at hn' nC
      exact hRR D s3.heap.objs.size s6 mm H6 I7 qq hn' (I3.fpOk (Nat.le_refl _) nC)
    · cases r with
      | none => exact hr
      | some v => exact thnF hr fun _ s2 h2 => thnF h2 fun _ s3 h3 => thnF h3 fun x s4 h4 => thnF h4 fun it1 s5 h5 => h5
  exact codeAny_compStart_list loop (T.self X.A 0 _ _ _ st4 loop)
theorem pe_lcN {elt t i i1 : Expr} {gs : List Comprehension} {scope : Scope} {own : List (Str × Nat)} {pos : Pos} {wi : TI} {g : TG} {vs1 : List Nat} {rd : Addr → L2.St → Hp → (Hp → Prop) → Prop} (hc : X.calm = true) (hN : X.N.Nodup) (hi : PI X t i wi) (ok : BlkOk X.N X.env.scope scope own)
    (hv : ∀ j ∈ vs1, j ∈ own.map (·.2))
    (hg : ∀ (s : Shared) (H : Hp) (C : Addr) (cl : List (Str × Addr)) (fp : List Addr), PG (X.blk s H scope (compEnvC scope cl C X.env) fp) t g)
    (hl : ∀ (D : Addr) (s : Shared) (H : Hp) (C : Addr) (cl : List (Str × Addr)) (fp : List Addr), Lp (X.blk s H scope (compEnvC scope cl C X.env) fp) elt (Cl t i :: gs) scope pos 1 D i1 vs1 (rd D))
    (ht : ∀ (it acc : Value) (env : Env), compTurn (.ListComp elt (Cl t i :: gs) scope pos) 0 it acc env = (do
      standAt i.pos
      match ← pyNext it with
      | none => pure (.done .next)
      | some v =>
        letOwnedTupleGo t it v
        assign t env v
        let mut ok := true
        for c in ([] : List Expr) do
          if ok then ok ← isTrue c env (eval c env)
        if ok then
          let x ← eval i1 env
          standAt i1.pos
          let x ← foldedSetIterable i1 env x
          let _ ← runOwn (.compStart (.ListComp elt (Cl t i :: gs) scope pos) (0 + 1) (← holding [x] (pyIter x)) acc env) env
        again (.compLoop (.ListComp elt (Cl t i :: gs) scope pos) 0 it acc env)))
    (hs : ∀ x, foldedSetIterable i X.env x = pure x := by intro _; rfl) (hs1 : ∀ env x, foldedSetIterable i1 env x = pure x := by intro _ _; rfl) :
    PE X (.ListComp elt (Cl t i :: gs) scope pos) (tLcN wi g (own.map (·.2)) rd) := by
  refine ⟨fun pins s σ H Q I h => ?_⟩
  rw [eval_ListComp]
  refine lcN_core (use := none) hc hN I hi ok hv hg hl ht hs hs1 h fun D C s' m H' I' q hn f => ⟨m, hn, fun g' sb => ?_⟩
  obtain ⟨f0, f1, f2, f3, f4, f5⟩ := f
  exact ⟨.ref D, H', I'.turned (t' := s'.toks) (fun b o hb e => (sb.2 b hb).trans e) f0 f1 f3 f4 f5, rfl, q⟩
theorem ps_setLcN {ny : Nat} {y : Str} {py spos : Pos} {elt t i i1 : Expr} {gs : List Comprehension} {scope : Scope} {own : List (Str × Nat)} {pos : Pos} {wi : TI} {g : TG} {vs1 : List Nat} {rd : Addr → L2.St → Hp → (Hp → Prop) → Prop} (hc : X.calm = true) (hN : X.N.Nodup) (hy : X.N[ny]? = some y) (hyl : X.env.scope.names.lookup y = some .local)
    (hsw : swapsWith (.ListComp elt (Cl t i :: gs) scope pos) (some (.Name y py)) spos.line X.env = pure true) (hi : PI X t i wi) (ok : BlkOk X.N X.env.scope scope own)
    (hv : ∀ j ∈ vs1, j ∈ own.map (·.2))
    (hg : ∀ (s : Shared) (H : Hp) (C : Addr) (cl : List (Str × Addr)) (fp : List Addr), PG (X.blk s H scope (compEnvC scope cl C X.env) fp) t g)
    (hl : ∀ (D : Addr) (s : Shared) (H : Hp) (C : Addr) (cl : List (Str × Addr)) (fp : List Addr), Lp (X.blk s H scope (compEnvC scope cl C X.env) fp) elt (Cl t i :: gs) scope pos 1 D i1 vs1 (rd D))
    (ht : ∀ (it acc : Value) (env : Env), compTurn (.ListComp elt (Cl t i :: gs) scope pos) 0 it acc env = (do
      standAt i.pos
      match ← pyNext it with
      | none => pure (.done .next)
      | some v =>
        letOwnedTupleGo t it v
        assign t env v
        let mut ok := true
        for c in ([] : List Expr) do
          if ok then ok ← isTrue c env (eval c env)
        if ok then
          let x ← eval i1 env
          standAt i1.pos
          let x ← foldedSetIterable i1 env x
          let _ ← runOwn (.compStart (.ListComp elt (Cl t i :: gs) scope pos) (0 + 1) (← holding [x] (pyIter x)) acc env) env
        again (.compLoop (.ListComp elt (Cl t i :: gs) scope pos) 0 it acc env)))
    (hs : ∀ x, foldedSetIterable i X.env x = pure x := by intro _; rfl) (hs1 : ∀ env x, foldedSetIterable i1 env x = pure x := by intro _ _; rfl) :
    PS X (.Assign [.Name y py] (.ListComp elt (Cl t i :: gs) scope pos) spos) (tAsg (tLcN wi g (own.map (·.2)) rd) (gName ny)) := by
  refine ⟨fun pins s σ H D I h => ?_⟩
  rw [exec_Assign_Name_used _ _ _ _ hsw]
  refine wpAny_bind (wpAny_standAt (wpAny_bind ?_))
  show wpAny _ X.A (do let _ ← comprehension (.ListComp elt (Cl t i :: gs) scope pos) scope X.env (firstIterPos (Cl t i :: gs) pos) (newList []) false (eval i X.env) (some (assign (.Name y py) X.env))) _ _ s
  have h2 : tLcN wi g (own.map (·.2)) rd σ H (fun x H1 => gName ny x σ H1 D.nx) := h
  refine wpAny_bind (thn (lcN_core (use := some (assign (.Name y py) X.env)) (Qf := fun _ s' => SP X pins D .next s') hc hN I hi ok hv hg hl ht hs hs1 h2 fun L C s' m H' I' q hn f => ?_) fun _ s' hq => wpAny_pure (wpAny_pure hq))
  show wpAny _ _ (assign (.Name y py) X.env (.ref L)) _ _ _
  refine wpAny_assign_Name (store_ok2 (v := V.ref L) I' hN hy (.inl hyl) rfl (fun s2 I2 ⟨a, sb, ha⟩ => ?_) (.inr hyl))
  obtain ⟨f0, f1, f2, f3, f4, f5⟩ := f
  have apart : C ≠ a := by
    rcases ha with z | z
    · rw [z]; exact f1
    · exact fun e => f4 y a z e.symm
  refine ⟨m, hn.sameBut sb apart, fun g3 sb3 => ?_⟩
  exact ⟨_, H', I2.turned (t' := s2.toks) (fun b o hb e => (sb3.2 b hb).trans e) f0 f1 f3 f4 f5, q⟩
end

/-! ### four clauses -/
/-- the reading -/
def tLc4 (w0 w1 w2 w3 : TI) (g0 g1 g2 g3 : TG) (te : TE) (vs : List Nat) (v1 v2 v3 : List Nat) : TE := tLcN w0 g0 vs fun D => rdL w1 g1 v1 (rdL w2 g2 v2 (rdL w3 g3 v3 (bApp te D)))
section
variable {X : Cx} {elt t0 i0 t1 i1 t2 i2 t3 i3 : Expr} {scope : Scope} {pos : Pos} {D : Addr} {w1 w2 w3 : TI} {g1 g2 g3 : TG} {te : TE} {v1 v2 v3 : List Nat}
theorem lp3 (hx : X.xe = fun _ _ => False) (hc : X.calm = true) (hi3 : PI X t3 i3 w3) (hg3 : PG X t3 g3) (he : PE X elt te) :
    Lp X elt [Cl t0 i0, Cl t1 i1, Cl t2 i2, Cl t3 i3] scope pos 3 D i3 v3 (rdL w3 g3 v3 (bApp te D)) :=
  lp_of (cg := Cl t3 i3) rfl rfl hx hc hi3 hg3 (bdy_app hx he) fun it R J turn m s h => loop_in (i := i3) (by rfl) J (fun n s hj => wpAny_mono (turn n s hj) (fun r s1 hr => by
    cases r with
    | none => exact hr
    | some v => exact thnF hr fun _ s2 h2 => thnF h2 fun _ s3 h3 => thnF h3 fun x s4 h4 => thnF h4 fun _ s5 h5 => h5) fun _ _ z => z.elim) m h
theorem lp2 (hx : X.xe = fun _ _ => False) (hc : X.calm = true) (hv : ∀ j ∈ v3, j ∈ v2) (hi2 : PI X t2 i2 w2) (hg2 : PG X t2 g2) (hi3 : PI X t3 i3 w3) (hg3 : PG X t3 g3) (he : PE X elt te) (hs : ∀ x, foldedSetIterable i3 X.env x = pure x) :
    Lp X elt [Cl t0 i0, Cl t1 i1, Cl t2 i2, Cl t3 i3] scope pos 2 D i2 v2 (rdL w2 g2 v2 (rdL w3 g3 v3 (bApp te D))) :=
  lp_of (cg := Cl t2 i2) rfl rfl hx hc hi2 hg2 (bdy_lp (lp3 hx hc hi3 hg3 he) hv) fun it R J turn m s h => loop_out (i := i2) (i1 := i3) (by rfl) hs J (fun n s hj => wpAny_mono (turn n s hj) (fun r s1 hr => by
    cases r with
    | none => exact hr
    | some v => exact thnF hr fun _ s2 h2 => thnF h2 fun _ s3 h3 => thnF h3 fun x s4 h4 => thnF h4 fun _ s5 h5 => h5) fun _ _ z => z.elim) m h
theorem lp1 (hx : X.xe = fun _ _ => False) (hc : X.calm = true) (hv1 : ∀ j ∈ v2, j ∈ v1) (hv : ∀ j ∈ v3, j ∈ v2) (hi1 : PI X t1 i1 w1) (hg1 : PG X t1 g1) (hi2 : PI X t2 i2 w2) (hg2 : PG X t2 g2) (hi3 : PI X t3 i3 w3) (hg3 : PG X t3 g3) (he : PE X elt te)
    (hs2 : ∀ x, foldedSetIterable i2 X.env x = pure x) (hs : ∀ x, foldedSetIterable i3 X.env x = pure x) :
    Lp X elt [Cl t0 i0, Cl t1 i1, Cl t2 i2, Cl t3 i3] scope pos 1 D i1 v1 (rdL w1 g1 v1 (rdL w2 g2 v2 (rdL w3 g3 v3 (bApp te D)))) :=
  lp_of (cg := Cl t1 i1) rfl rfl hx hc hi1 hg1 (bdy_lp (lp2 hx hc hv hi2 hg2 hi3 hg3 he hs) hv1) fun it R J turn m s h => loop_out (i := i1) (i1 := i2) (by rfl) hs2 J (fun n s hj => wpAny_mono (turn n s hj) (fun r s1 hr => by
    cases r with
    | none => exact hr
    | some v => exact thnF hr fun _ s2 h2 => thnF h2 fun _ s3 h3 => thnF h3 fun x s4 h4 => thnF h4 fun _ s5 h5 => h5) fun _ _ z => z.elim) m h
end
section
variable {X : Cx} {elt t0 i0 t1 i1 t2 i2 t3 i3 : Expr} {scope : Scope} {own : List (Str × Nat)} {pos : Pos} {w0 w1 w2 w3 : TI} {g0 g1 g2 g3 : TG} {te : TE} {v1 v2 v3 : List Nat}
abbrev AllB (X : Cx) (scope : Scope) (φ : Cx → Prop) : Prop := ∀ (s : Shared) (H : Hp) (C : Addr) (cl : List (Str × Addr)) (fp : List Addr), φ (X.blk s H scope (compEnvC scope cl C X.env) fp)
theorem ps_setLc4 {ny : Nat} {y : Str} {py spos : Pos} (hc : X.calm = true) (hN : X.N.Nodup) (hy : X.N[ny]? = some y) (hyl : X.env.scope.names.lookup y = some .local)
    (hsw : swapsWith (.ListComp elt [Cl t0 i0, Cl t1 i1, Cl t2 i2, Cl t3 i3] scope pos) (some (.Name y py)) spos.line X.env = pure true) (hv0 : ∀ j ∈ v1, j ∈ own.map (·.2)) (hv1 : ∀ j ∈ v2, j ∈ v1) (hv : ∀ j ∈ v3, j ∈ v2)
    (hi0 : PI X t0 i0 w0) (ok : BlkOk X.N X.env.scope scope own) (hg0 : AllB X scope fun Y => PG Y t0 g0) (hi1 : AllB X scope fun Y => PI Y t1 i1 w1) (hg1 : AllB X scope fun Y => PG Y t1 g1) (hi2 : AllB X scope fun Y => PI Y t2 i2 w2) (hg2 : AllB X scope fun Y => PG Y t2 g2)
    (hi3 : AllB X scope fun Y => PI Y t3 i3 w3) (hg3 : AllB X scope fun Y => PG Y t3 g3) (he : AllB X scope fun Y => PE Y elt te)
    (hs : ∀ x, foldedSetIterable i0 X.env x = pure x := by intro _; rfl) (hs1 : ∀ env x, foldedSetIterable i1 env x = pure x := by intro _ _; rfl) (hs2 : ∀ env x, foldedSetIterable i2 env x = pure x := by intro _ _; rfl) (hs3 : ∀ env x, foldedSetIterable i3 env x = pure x := by intro _ _; rfl) :
    PS X (.Assign [.Name y py] (.ListComp elt [Cl t0 i0, Cl t1 i1, Cl t2 i2, Cl t3 i3] scope pos) spos) (tAsg (tLc4 w0 w1 w2 w3 g0 g1 g2 g3 te (own.map (·.2)) v1 v2 v3) (gName ny)) :=
  ps_setLcN (i1 := i1) hc hN hy hyl hsw hi0 ok hv0 hg0 (fun D s H C cl fp => lp1 rfl hc hv1 hv (hi1 s H C cl fp) (hg1 s H C cl fp) (hi2 s H C cl fp) (hg2 s H C cl fp) (hi3 s H C cl fp) (hg3 s H C cl fp) (he s H C cl fp) (hs2 _) (hs3 _)) (fun _ _ _ => by rfl) hs hs1
end
end TP.R
set_option maxHeartbeats 4000000
/-! Data in the heap, and what a reading evaluates to as data. -/
namespace TP.L
open PySem PySem.Spec PyProof.Rows L2 Evl

/-! ### data -/
section
variable {K : PySem.W.Frag} {H H' : Hp}
mutual
theorem dp_ex (e : Ex H H') : ∀ {d : PyData} {v : V}, Dp K H v d → Dp K H' v d
  | _, _, .non => .non
  | _, _, .bl b => .bl b
  | _, _, .int i => .int i
  | _, _, .str x => .str x
  | _, _, .lst h a => .lst (ex_l e h) (dps_ex e a)
  | _, _, .tup h a => .tup (ex_t e h) (dps_ex e a)
theorem dps_ex (e : Ex H H') : ∀ {ds : List PyData} {vs : List V}, DpAll K H vs ds → DpAll K H' vs ds
  | _, _, .nil => .nil
  | _, _, .cons h t => .cons (dp_ex e h) (dps_ex e t)
end
mutual
def flat : PyData → Bool
  | .list _ => false
  | .dict _ => false
  | .tuple ds => flats ds
  | _ => true
def flats : List PyData → Bool
  | [] => true
  | d :: ds => flat d && flats ds
end
/-- all but what stands at D is as it was -/
def ExB (D : Addr) (H H' : Hp) : Prop := ∀ a o, a ≠ D → H a = some o → H' a = some o
theorem ExB.refl (D : Addr) (H : Hp) : ExB D H H := fun _ _ _ h => h
theorem ExB.trans {D : Addr} {H H1 H2 : Hp} (a : ExB D H H1) (b : ExB D H1 H2) : ExB D H H2 := fun x o n h => b x o n (a x o n h)
theorem ExB.of {D : Addr} (e : Ex H H') : ExB D H H' := fun a o _ h => e a o h
theorem ExB.put {D : Addr} {o : HO} : ExB D H (upd H D o) := fun a u n h => by rw [upd_ne n]; exact h
/-- at D a list is kept -/
def IsL (H : Hp) (D : Addr) : Prop := ∃ vs, H D = some (.lst vs)
theorem ne_tup {D a : Addr} {xs : List V} (hD : IsL H D) (h : H a = some (.tup xs)) : a ≠ D := fun e => by
  obtain ⟨vs, q⟩ := hD
  rw [e, q] at h
  cases h
theorem ne_frz {D a : Addr} {o : Obj} {u : HO} (hD : IsL H D) (h : H a = some (.frz o u)) : a ≠ D := fun e => by
  obtain ⟨vs, q⟩ := hD
  rw [e, q] at h
  cases h
theorem exb_t {D a : Addr} {xs : List V} (hD : IsL H D) (e : ExB D H H') (h : SqT K H a xs) : SqT K H' a xs := by
  rcases h with (h | ⟨o, h⟩) | h
  · exact .inl (.inl (e a _ (ne_tup hD h) h))
  · exact .inl (.inr ⟨o, e a _ (ne_frz hD h) h⟩)
  · exact .inr h
mutual
theorem dp_exb {D : Addr} (hD : IsL H D) (e : ExB D H H') : ∀ {d : PyData} {v : V}, flat d = true → Dp K H v d → Dp K H' v d
  | _, _, _, .non => .non
  | _, _, _, .bl b => .bl b
  | _, _, _, .int i => .int i
  | _, _, _, .str x => .str x
  | _, _, f, .lst h a => by cases f
  | _, _, f, .tup h a => .tup (exb_t hD e h) (dps_exb hD e (by unfold flat at f; exact f) a)
theorem dps_exb {D : Addr} (hD : IsL H D) (e : ExB D H H') : ∀ {ds : List PyData} {vs : List V}, flats ds = true → DpAll K H vs ds → DpAll K H' vs ds
  | _, _, _, .nil => .nil
  | _, _, f, .cons h t => by
    unfold flats at f
    obtain ⟨f1, f2⟩ := Bool.and_eq_true_iff.mp f
    exact .cons (dp_exb hD e f1 h) (dps_exb hD e f2 t)
end
theorem dps_len : ∀ {ds : List PyData} {vs : List V}, DpAll K H vs ds → vs.length = ds.length
  | _, _, .nil => rfl
  | _, _, .cons _ t => congrArg (· + 1) (dps_len t)
theorem dps_get : ∀ {ds : List PyData} {vs : List V} {i : Nat} {x : V}, DpAll K H vs ds → vs[i]? = some x → ∃ d, ds[i]? = some d ∧ Dp K H x d
  | _, _, _, _, .nil, e => by simp at e
  | _, _, 0, _, .cons h _, e => by cases e; exact ⟨_, rfl, h⟩
  | _, _, i + 1, _, .cons _ t, e => by
    obtain ⟨d, a, b⟩ := dps_get (i := i) t (by simpa using e)
    exact ⟨d, by simpa using a, b⟩
theorem dps_at : ∀ {ds : List PyData} {vs : List V} {i : Nat} {d : PyData}, DpAll K H vs ds → ds[i]? = some d → ∃ x, vs[i]? = some x ∧ Dp K H x d
  | _, _, _, _, .nil, e => by simp at e
  | _, _, 0, _, .cons h _, e => by cases e; exact ⟨_, rfl, h⟩
  | _, _, i + 1, _, .cons _ t, e => by
    obtain ⟨d, a, b⟩ := dps_at (i := i) t (by simpa using e)
    exact ⟨d, by simpa using a, b⟩
theorem dps_app : ∀ {ds es : List PyData} {vs us : List V}, DpAll K H vs ds → DpAll K H us es → DpAll K H (vs ++ us) (ds ++ es)
  | _, _, _, _, .nil, b => b
  | _, _, _, _, .cons h t, b => .cons h (dps_app t b)
theorem dps_take : ∀ {ds : List PyData} {vs : List V} (n : Nat), DpAll K H vs ds → DpAll K H (vs.take n) (ds.take n)
  | _, _, 0, _ => .nil
  | _, _, _ + 1, .nil => .nil
  | _, _, n + 1, .cons h t => .cons h (dps_take n t)
theorem dps_drop : ∀ {ds : List PyData} {vs : List V} (n : Nat), DpAll K H vs ds → DpAll K H (vs.drop n) (ds.drop n)
  | _, _, 0, h => h
  | _, _, _ + 1, .nil => .nil
  | _, _, n + 1, .cons _ t => dps_drop n t
theorem dps_erase : ∀ {ds : List PyData} {vs : List V} (n : Nat), DpAll K H vs ds → DpAll K H (vs.eraseIdx n) (ds.eraseIdx n)
  | _, _, _, .nil => .nil
  | _, _, 0, .cons _ t => t
  | _, _, n + 1, .cons h t => .cons h (dps_erase n t)
theorem dp_int {i : Int} {v : V} (h : Dp K H v (.int i)) : v = .int i := by cases h; rfl
theorem dp_bl {b : Bool} {v : V} (h : Dp K H v (.bool b)) : v = .bl b := by cases h; rfl
theorem dp_non {v : V} (h : Dp K H v .none) : v = .non := by cases h; rfl
theorem dp_tup {ds : List PyData} {v : V} (h : Dp K H v (.tuple ds)) : ∃ a vs, v = .ref a ∧ SqT K H a vs ∧ DpAll K H vs ds := by cases h with | tup h a => exact ⟨_, _, rfl, h, a⟩
theorem dp_lst {ds : List PyData} {v : V} (h : Dp K H v (.list ds)) : ∃ a vs, v = .ref a ∧ SqL K H a vs ∧ DpAll K H vs ds := by cases h with | lst h a => exact ⟨_, _, rfl, h, a⟩
abbrev inz (ns : List Int) : List PyData := ns.map PyData.int
abbrev tupI (ns : List Int) : PyData := .tuple (inz ns)
theorem dps_ints : ∀ {ns : List Int} {vs : List V}, DpAll K H vs (inz ns) → vs = ns.map V.int
  | [], _, .nil => rfl
  | n :: ns, _, .cons h t => by rw [dp_int h, dps_ints t]; rfl
theorem dps_of_ints : ∀ ns : List Int, DpAll K H (ns.map V.int) (inz ns)
  | [] => .nil
  | n :: ns => .cons (.int n) (dps_of_ints ns)
theorem dp_tupI {ns : List Int} {v : V} (h : Dp K H v (tupI ns)) : ∃ a, v = .ref a ∧ SqT K H a (ns.map V.int) := by
  obtain ⟨a, vs, e, h1, h2⟩ := dp_tup h
  rw [dps_ints h2] at h1
  exact ⟨a, e, h1⟩
theorem flats_ints : ∀ ns : List Int, flats (inz ns) = true
  | [] => rfl
  | n :: ns => by show (flat (.int n) && flats (inz ns)) = true; rw [flats_ints ns]; rfl
theorem flat_tupI (ns : List Int) : flat (tupI ns) = true := flats_ints ns
theorem flats_all : ∀ {ds : List PyData}, (∀ d ∈ ds, flat d = true) → flats ds = true
  | [], _ => rfl
  | d :: ds, h => by
    show (flat d && flats ds) = true
    rw [h d List.mem_cons_self, flats_all fun e m => h e (List.mem_cons_of_mem _ m)]
    rfl
end

/-! ### what a reading evaluates to -/
/-- data that R tells, whatever more stands in the heap -/
def Sh (K : PySem.W.Frag) (te : TE) (σ : L2.St) (H : Hp) (R : PyData → Prop) : Prop := ∀ H1, Ex H H1 → ∀ Q : VK, (∀ v H2 d, Ex H1 H2 → R d → Dp K H2 v d → Q v H2) → te σ H1 Q
def Is (K : PySem.W.Frag) (te : TE) (σ : L2.St) (H : Hp) (d : PyData) : Prop := ∀ H1, Ex H H1 → ∀ Q : VK, (∀ v H2, Ex H1 H2 → Dp K H2 v d → Q v H2) → te σ H1 Q
/-- a new list of data -/
def Nw (K : PySem.W.Frag) (te : TE) (σ : L2.St) (H : Hp) (ds : List PyData) : Prop := ∀ H1, Ex H H1 → ∀ Q : VK, (∀ p vs H2, H1 p = none → Ex H1 H2 → H2 p = some (.lst vs) → DpAll K H2 vs ds → Q (.ref p) H2) → te σ H1 Q
def IsA (K : PySem.W.Frag) (ta : TA) (σ : L2.St) (H : Hp) (ds : List PyData) : Prop := ∀ H1, Ex H H1 → ∀ Q : List V → Hp → Prop, (∀ vs H2, Ex H1 H2 → DpAll K H2 vs ds → Q vs H2) → ta σ H1 Q
section
variable {K : PySem.W.Frag} {σ : L2.St} {H H' : Hp} {ta tb te : TE} {tr : TA} {t u : TT} {d d' : PyData} {ds : List PyData} {i j : Int}
theorem Is.up (e : Ex H H') (h : Is K te σ H d) : Is K te σ H' d := fun H1 a Q q => h H1 (e.trans a) Q q
theorem IsA.up (e : Ex H H') (h : IsA K tr σ H ds) : IsA K tr σ H' ds := fun H1 a Q q => h H1 (e.trans a) Q q
theorem Nw.up (e : Ex H H') (h : Nw K te σ H ds) : Nw K te σ H' ds := fun H1 a Q q => h H1 (e.trans a) Q q
theorem Is.eq (h : Is K te σ H d) (e : d = d') : Is K te σ H d' := e ▸ h
theorem Is.sh {R : PyData → Prop} (h : Is K te σ H d) (r : R d) : Sh K te σ H R := fun H1 e Q q => h H1 e Q fun v H2 e2 dv => q v H2 d e2 r dv
theorem Sh.is {R : PyData → Prop} (h : Sh K te σ H R) (u : ∀ x, R x → x = d) : Is K te σ H d := fun H1 e Q q => h H1 e Q fun v H2 x e2 r dv => q v H2 e2 (u x r ▸ dv)
theorem Nw.is (h : Nw K te σ H ds) : Is K te σ H (.list ds) := fun H1 e Q q => h H1 e Q fun p vs H2 _ e2 hp hd => q _ H2 e2 (.lst (.inl (.inl hp)) hd)
theorem is_var {k : Nat} {v : V} (h : σ[k]? = some (some v)) (hd : Dp K H v d) : Is K (tVar k) σ H d := fun H1 e Q q => ⟨v, h, q v H1 (Ex.refl _) (dp_ex e hd)⟩
theorem is_c {v : V} (hd : Dp K H v d) : Is K (tC v) σ H d := fun H1 e Q q => q v H1 (Ex.refl _) (dp_ex e hd)
theorem is_int : Is K (tC (.int i)) σ H (.int i) := is_c (.int i)
theorem is_bl {b : Bool} : Is K (tC (.bl b)) σ H (.bool b) := is_c (.bl b)
theorem is_non : Is K (tC .non) σ H .none := is_c .non
/-- two operands -/
theorem is_op {r : R2} (ha : Is K ta σ H d) (hb : Is K tb σ H d') {x : PyData} (hr : ∀ v w H1, Ex H H1 → Dp K H1 v d → Dp K H1 w d' → ∀ Q : VK, (∀ z H2, Ex H1 H2 → Dp K H2 z x → Q z H2) → r v w H1 Q) : Is K (tOp r ta tb) σ H x := fun H1 e Q q =>
  ha H1 e _ fun v H2 e2 dv => hb H2 (e.trans e2) _ fun w H3 e3 dw => hr v w H3 ((e.trans e2).trans e3) (dp_ex e3 dv) dw Q fun z H4 e4 dz => q z H4 ((e2.trans e3).trans e4) dz
theorem is_I0 {g : Int → Int → V} (ha : Is K ta σ H (.int i)) (hb : Is K tb σ H (.int j)) {x : PyData} (hx : ∀ H, Dp K H (g i j) x) : Is K (tOp (rI0 g) ta tb) σ H x :=
  is_op ha hb fun v w H1 _ dv dw Q q => ⟨i, j, dp_int dv, dp_int dw, q _ H1 (Ex.refl _) (hx H1)⟩
theorem is_I {C : Int → Int → Prop} {g : Int → Int → V} (ha : Is K ta σ H (.int i)) (hb : Is K tb σ H (.int j)) (hc : C i j) {x : PyData} (hx : ∀ H, Dp K H (g i j) x) : Is K (tOp (rI C g) ta tb) σ H x :=
  is_op ha hb fun v w H1 _ dv dw Q q => ⟨i, j, dp_int dv, dp_int dw, hc, q _ H1 (Ex.refl _) (hx H1)⟩
theorem is_add (ha : Is K ta σ H (.int i)) (hb : Is K tb σ H (.int j)) : Is K (tOp (rI0 fun i j => .int (i + j)) ta tb) σ H (.int (i + j)) := is_I0 ha hb fun _ => .int _
theorem is_sub (ha : Is K ta σ H (.int i)) (hb : Is K tb σ H (.int j)) : Is K (tOp (rI0 fun i j => .int (i - j)) ta tb) σ H (.int (i - j)) := is_I0 ha hb fun _ => .int _
theorem is_mulW (ha : Is K ta σ H (.int i)) (hb : Is K tb σ H (.int j)) (hc : CMulW i j) : Is K (tOp (rI CMulW fun i j => .int (i * j)) ta tb) σ H (.int (i * j)) := is_I ha hb hc fun _ => .int _
theorem is_mul (ha : Is K ta σ H (.int i)) (hb : Is K tb σ H (.int j)) (hc : CMul i j) : Is K (tOp (rI CMul fun i j => .int (i * j)) ta tb) σ H (.int (i * j)) := is_I ha hb hc fun _ => .int _
theorem is_div (ha : Is K ta σ H (.int i)) (hb : Is K tb σ H (.int j)) (hc : CDivW i j) : Is K (tOp (rI CDivW fun i j => .int (i / j)) ta tb) σ H (.int (i / j)) := is_I ha hb hc fun _ => .int _
theorem is_mod (ha : Is K ta σ H (.int i)) (hb : Is K tb σ H (.int j)) (hc : 0 < j) : Is K (tOp (rI (fun _ j => 0 < j) fun i j => .int (i % j)) ta tb) σ H (.int (i % j)) := is_I ha hb hc fun _ => .int _
theorem is_pow (ha : Is K ta σ H (.int i)) (hb : Is K tb σ H (.int j)) (hc : CPow i j) : Is K (tOp (rI CPow fun i j => .int (i ^ j.toNat)) ta tb) σ H (.int (i ^ j.toNat)) := is_I ha hb hc fun _ => .int _
theorem is_lt (ha : Is K ta σ H (.int i)) (hb : Is K tb σ H (.int j)) : Is K (tOp (rI0 fun i j => .bl (decide (i < j))) ta tb) σ H (.bool (decide (i < j))) := is_I0 ha hb fun _ => .bl _
theorem is_le (ha : Is K ta σ H (.int i)) (hb : Is K tb σ H (.int j)) : Is K (tOp (rI0 fun i j => .bl (decide (i ≤ j))) ta tb) σ H (.bool (decide (i ≤ j))) := is_I0 ha hb fun _ => .bl _
theorem is_gt (ha : Is K ta σ H (.int i)) (hb : Is K tb σ H (.int j)) : Is K (tOp (rI0 fun i j => .bl (decide (j < i))) ta tb) σ H (.bool (decide (j < i))) := is_I0 ha hb fun _ => .bl _
theorem is_ge (ha : Is K ta σ H (.int i)) (hb : Is K tb σ H (.int j)) : Is K (tOp (rI0 fun i j => .bl (decide (j ≤ i))) ta tb) σ H (.bool (decide (j ≤ i))) := is_I0 ha hb fun _ => .bl _
theorem dec_int2 (i j : Int) : decide (V.int i = V.int j) = decide (i = j) := decide_eq_decide.mpr ⟨fun h => V.int.inj h, fun h => congrArg V.int h⟩
theorem is_eqI (ha : Is K ta σ H (.int i)) (hb : Is K tb σ H (.int j)) : Is K (tOp rEq ta tb) σ H (.bool (decide (i = j))) :=
  is_op ha hb fun v w H1 _ dv dw Q q => by
    rw [dp_int dv, dp_int dw]
    exact ⟨rfl, q _ H1 (Ex.refl _) (by rw [dec_int2]; exact .bl _)⟩
theorem is_neI (ha : Is K ta σ H (.int i)) (hb : Is K tb σ H (.int j)) : Is K (tOp rNe ta tb) σ H (.bool (!decide (i = j))) :=
  is_op ha hb fun v w H1 _ dv dw Q q => by
    rw [dp_int dv, dp_int dw]
    exact ⟨rfl, q _ H1 (Ex.refl _) (by rw [dec_int2]; exact .bl _)⟩
/-- data compared, to any depth -/
theorem is_eqD (ha : Is K ta σ H d) (hb : Is K tb σ H d') (h1 : SeqAt.shaped d = true) (h2 : SeqAt.shaped d' = true) : Is K (tOp (rEqD K) ta tb) σ H (.bool (PyData.eqv d d')) :=
  is_op ha hb fun v w H1 _ dv dw Q q => ⟨d, d', dv, dw, h1, h2, q _ H1 (Ex.refl _) (.bl _)⟩
theorem is_neD (ha : Is K ta σ H d) (hb : Is K tb σ H d') (h1 : SeqAt.shaped d = true) (h2 : SeqAt.shaped d' = true) : Is K (tOp (rNeD K) ta tb) σ H (.bool (!PyData.eqv d d')) :=
  is_op ha hb fun v w H1 _ dv dw Q q => ⟨d, d', dv, dw, h1, h2, q _ H1 (Ex.refl _) (.bl _)⟩
theorem is_notInD (ha : Is K ta σ H d) (hb : Is K tb σ H (.list ds)) (h1 : SeqAt.shaped d = true) (h2 : SeqAt.shaped (.list ds) = true) : Is K (tOp (rNotInD K) ta tb) σ H (.bool (!ds.any fun z => PyData.eqv z d)) :=
  is_op ha hb fun v w H1 _ dv dw Q q => ⟨d, ds, dv, dw, h1, h2, q _ H1 (Ex.refl _) (.bl _)⟩
theorem is_neg (ha : Is K ta σ H (.int i)) : Is K (tUn (rU fun i => .int (-i)) ta) σ H (.int (-i)) := fun H1 e Q q => ha H1 e _ fun v H2 e2 dv => ⟨i, dp_int dv, q _ H2 e2 (.int _)⟩
theorem is_notN (ha : Is K ta σ H d) : Is K (tOp (fun x y H Q => y = V.non ∧ Q (.bl (!decide (x = .non))) H) ta (tC .non)) σ H (.bool (match d with | .none => false | _ => true)) :=
  is_op ha is_non fun v w H1 _ dv dw Q q => ⟨dp_non dw, q _ H1 (Ex.refl _) (by cases dv <;> exact .bl _)⟩
theorem is_isN (ha : Is K ta σ H d) : Is K (tOp (fun x y H Q => y = V.non ∧ Q (.bl (decide (x = .non))) H) ta (tC .non)) σ H (.bool (match d with | .none => true | _ => false)) :=
  is_op ha is_non fun v w H1 _ dv dw Q q => ⟨dp_non dw, q _ H1 (Ex.refl _) (by cases dv <;> exact .bl _)⟩
/-- items -/
theorem at_nat {α : Type} {xs : List α} {k : Nat} {x : α} (h : xs[k]? = some x) : atI xs (k : Int) = some x := atI_nat h
theorem is_ixL {k : Nat} (ha : Is K ta σ H (.list ds)) (hb : Is K tb σ H (.int (k : Int))) (hk : ds[k]? = some d) : Is K (tOp (rIxL K) ta tb) σ H d :=
  is_op ha hb fun v w H1 _ dv dw Q q => by
    obtain ⟨a, vs, e, h1, h2⟩ := dp_lst dv
    obtain ⟨x, e1, e2⟩ := dps_at h2 hk
    exact ⟨a, vs, (k : Int), x, e, dp_int dw, h1, atI_nat e1, q _ H1 (Ex.refl _) e2⟩
theorem is_ixT {k : Nat} (ha : Is K ta σ H (.tuple ds)) (hb : Is K tb σ H (.int (k : Int))) (hk : ds[k]? = some d) : Is K (tOp (rIxT K) ta tb) σ H d :=
  is_op ha hb fun v w H1 _ dv dw Q q => by
    obtain ⟨a, vs, e, h1, h2⟩ := dp_tup dv
    obtain ⟨x, e1, e2⟩ := dps_at h2 hk
    exact ⟨a, vs, (k : Int), x, e, dp_int dw, h1, atI_nat e1, q _ H1 (Ex.refl _) e2⟩
theorem is_lastL (ha : Is K ta σ H (.list ds)) (hb : Is K tb σ H (.int (-1))) (hk : ds.getLast? = some d) : Is K (tOp (rIxL K) ta tb) σ H d :=
  is_op ha hb fun v w H1 _ dv dw Q q => by
    obtain ⟨a, vs, e, h1, h2⟩ := dp_lst dv
    rw [List.getLast?_eq_getElem?] at hk
    obtain ⟨x, e1, e2⟩ := dps_at h2 hk
    have hl := dps_len h2
    have pos : ds.length ≠ 0 := fun z => by
      rw [List.getElem?_eq_none (by omega)] at hk
      cases hk
    refine ⟨a, vs, -1, x, e, dp_int dw, h1, ?_, q _ H1 (Ex.refl _) e2⟩
    unfold atI ixN
    rw [if_neg (by omega), if_pos (by omega)]
    show vs[((-1 : Int) + (vs.length : Int)).toNat]? = some x
    rw [show ((-1 : Int) + (vs.length : Int)).toNat = ds.length - 1 by omega]
    exact e1
/-- displays, arguments -/
theorem ia_nil : IsA K tNil σ H [] := fun H1 _ Q q => q [] H1 (Ex.refl _) .nil
theorem ia_cons (h : Is K te σ H d) (hr : IsA K tr σ H ds) : IsA K (tCons te tr) σ H (d :: ds) := fun H1 e Q q =>
  h H1 e _ fun v H2 e2 dv => hr H2 (e.trans e2) _ fun vs H3 e3 dvs => q _ H3 (e2.trans e3) (.cons (dp_ex e3 dv) dvs)
theorem is_tup (h : IsA K tr σ H ds) (hl : ds.length ≤ 100000) : Is K (tTup tr) σ H (.tuple ds) := fun H1 e Q q =>
  h H1 e _ fun vs H2 e2 dvs => ⟨sz_of (by rw [dps_len dvs]; exact hl), fun p hp => q _ _ (e2.trans (Ex.new hp)) (.tup (.inl (.inl upd_same)) (dps_ex (Ex.new hp) dvs))⟩
theorem nw_lst (h : IsA K tr σ H ds) (hl : ds.length ≤ 100000) : Nw K (tLst tr) σ H ds := fun H1 e Q q =>
  h H1 e _ fun vs H2 e2 dvs => ⟨sz_of (by rw [dps_len dvs]; exact hl), fun p hp => q p vs _ (fresh_back e2 hp) (e2.trans (Ex.new hp)) upd_same (dps_ex (Ex.new hp) dvs)⟩
/-- built-ins by values -/
theorem is_cb {r : List V → Hp → VK → Prop} (h : IsA K tr σ H ds) {x : PyData} (hr : ∀ vs H1, Ex H H1 → DpAll K H1 vs ds → ∀ Q : VK, (∀ z H2, Ex H1 H2 → Dp K H2 z x → Q z H2) → r vs H1 Q) : Is K (tCB r tr) σ H x := fun H1 e Q q =>
  h H1 e _ fun vs H2 e2 dvs => hr vs H2 (e.trans e2) dvs Q fun z H3 e3 dz => q z H3 (e2.trans e3) dz
theorem nw_cb {r : List V → Hp → VK → Prop} {xs : List PyData} (h : IsA K tr σ H ds) (hr : ∀ vs H1, Ex H H1 → DpAll K H1 vs ds → ∀ Q : VK, (∀ p us H2, H1 p = none → Ex H1 H2 → H2 p = some (.lst us) → DpAll K H2 us xs → Q (.ref p) H2) → r vs H1 Q) : Nw K (tCB r tr) σ H xs := fun H1 e Q q =>
  h H1 e _ fun vs H2 e2 dvs => hr vs H2 (e.trans e2) dvs Q fun p us H3 hp e3 hl hd => q p us H3 (fresh_back e2 hp) (e2.trans e3) hl hd
theorem one_ {vs : List V} (h : DpAll K H vs [d]) : ∃ v, vs = [v] ∧ Dp K H v d := by
  cases h with
  | cons a b => cases b; exact ⟨_, rfl, a⟩
theorem two_ {vs : List V} (h : DpAll K H vs [d, d']) : ∃ v w, vs = [v, w] ∧ Dp K H v d ∧ Dp K H w d' := by
  cases h with
  | cons a b =>
    obtain ⟨w, e, c⟩ := one_ b
    exact ⟨_, w, by rw [e], a, c⟩
theorem is_lenL (h : Is K te σ H (.list ds)) : Is K (tCB (fun xs H Q => ∃ p ys, xs = [V.ref p] ∧ (SqL K H p ys ∨ SqT K H p ys) ∧ Q (.int ys.length) H) (tCons te tNil)) σ H (.int (ds.length : Int)) :=
  is_cb (ia_cons h ia_nil) fun vs H1 e dvs Q q => by
    obtain ⟨v, ev, dv⟩ := one_ dvs
    obtain ⟨a, us, e2, h1, h2⟩ := dp_lst dv
    exact ⟨a, us, by rw [ev, e2], .inl h1, q _ H1 (Ex.refl _) (by rw [dps_len h2]; exact .int _)⟩
theorem is_lenT (h : Is K te σ H (.tuple ds)) : Is K (tCB (fun xs H Q => ∃ p ys, xs = [V.ref p] ∧ (SqL K H p ys ∨ SqT K H p ys) ∧ Q (.int ys.length) H) (tCons te tNil)) σ H (.int (ds.length : Int)) :=
  is_cb (ia_cons h ia_nil) fun vs H1 e dvs Q q => by
    obtain ⟨v, ev, dv⟩ := one_ dvs
    obtain ⟨a, us, e2, h1, h2⟩ := dp_tup dv
    exact ⟨a, us, by rw [ev, e2], .inr h1, q _ H1 (Ex.refl _) (by rw [dps_len h2]; exact .int _)⟩
theorem is_tupleL (h : Is K te σ H (.list ds)) : Is K (tCB (fun xs H Q => ∃ p ys, xs = [V.ref p] ∧ ((SqL K H p ys ∧ ∀ l, H l = none → Q (.ref l) (upd H l (.tup ys))) ∨ (SqT K H p ys ∧ Q (.ref p) H))) (tCons te tNil)) σ H (.tuple ds) :=
  is_cb (ia_cons h ia_nil) fun vs H1 e dvs Q q => by
    obtain ⟨v, ev, dv⟩ := one_ dvs
    obtain ⟨a, us, e2, h1, h2⟩ := dp_lst dv
    exact ⟨a, us, by rw [ev, e2], .inl ⟨h1, fun l hl => q _ _ (Ex.new hl) (.tup (.inl (.inl upd_same)) (dps_ex (Ex.new hl) h2))⟩⟩
theorem is_tupleT (h : Is K te σ H (.tuple ds)) : Is K (tCB (fun xs H Q => ∃ p ys, xs = [V.ref p] ∧ ((SqL K H p ys ∧ ∀ l, H l = none → Q (.ref l) (upd H l (.tup ys))) ∨ (SqT K H p ys ∧ Q (.ref p) H))) (tCons te tNil)) σ H (.tuple ds) :=
  is_cb (ia_cons h ia_nil) fun vs H1 e dvs Q q => by
    obtain ⟨v, ev, dv⟩ := one_ dvs
    obtain ⟨a, us, e2, h1, h2⟩ := dp_tup dv
    exact ⟨a, us, by rw [ev, e2], .inr ⟨h1, q _ H1 (Ex.refl _) (.tup h1 h2)⟩⟩
theorem is_sum {ns : List Int} (h : Is K te σ H (.list (inz ns))) : Is K (tCB (rSum K) (tCons te tNil)) σ H (.int ns.sum) :=
  is_cb (ia_cons h ia_nil) fun vs H1 e dvs Q q => by
    obtain ⟨v, ev, dv⟩ := one_ dvs
    obtain ⟨a, us, e2, h1, h2⟩ := dp_lst dv
    rw [dps_ints h2] at h1
    exact ⟨a, ns, by rw [ev, e2], h1, q _ H1 (Ex.refl _) (.int _)⟩
abbrev bls (bs : List Bool) : List PyData := bs.map PyData.bool
theorem dps_bls : ∀ {bs : List Bool} {vs : List V}, DpAll K H vs (bls bs) → vs = bs.map V.bl
  | [], _, .nil => rfl
  | n :: ns, _, .cons h t => by rw [dp_bl h, dps_bls t]; rfl
theorem is_any {bs : List Bool} (h : Is K te σ H (.list (bls bs))) : Is K (tCB (rAny K) (tCons te tNil)) σ H (.bool (bs.any id)) :=
  is_cb (ia_cons h ia_nil) fun vs H1 e dvs Q q => by
    obtain ⟨v, ev, dv⟩ := one_ dvs
    obtain ⟨a, us, e2, h1, h2⟩ := dp_lst dv
    rw [dps_bls h2] at h1
    exact ⟨a, bs, by rw [ev, e2], h1, q _ H1 (Ex.refl _) (.bl _)⟩
theorem is_all {bs : List Bool} (h : Is K te σ H (.list (bls bs))) : Is K (tCB (rAll K) (tCons te tNil)) σ H (.bool (bs.all id)) :=
  is_cb (ia_cons h ia_nil) fun vs H1 e dvs Q q => by
    obtain ⟨v, ev, dv⟩ := one_ dvs
    obtain ⟨a, us, e2, h1, h2⟩ := dp_lst dv
    rw [dps_bls h2] at h1
    exact ⟨a, bs, by rw [ev, e2], h1, q _ H1 (Ex.refl _) (.bl _)⟩
theorem is_abs (h : Is K te σ H (.int i)) : Is K (tCB (fun xs H Q => ∃ i, xs = [V.int i] ∧ Q (.int (if i < 0 then -i else i)) H) (tCons te tNil)) σ H (.int (if i < 0 then -i else i)) :=
  is_cb (ia_cons h ia_nil) fun vs H1 e dvs Q q => by
    obtain ⟨v, ev, dv⟩ := one_ dvs
    exact ⟨i, by rw [ev, dp_int dv], q _ H1 (Ex.refl _) (.int _)⟩
theorem is_max2 (ha : Is K ta σ H (.int i)) (hb : Is K tb σ H (.int j)) : Is K (tCB (fun xs H Q => ∃ i j, xs = [V.int i, V.int j] ∧ Q (.int (if j > i then j else i)) H) (tCons ta (tCons tb tNil))) σ H (.int (if j > i then j else i)) :=
  is_cb (ia_cons ha (ia_cons hb ia_nil)) fun vs H1 e dvs Q q => by
    obtain ⟨v, w, ev, dv, dw⟩ := two_ dvs
    exact ⟨i, j, by rw [ev, dp_int dv, dp_int dw], q _ H1 (Ex.refl _) (.int _)⟩
theorem is_gcd (ha : Is K ta σ H (.int i)) (hb : Is K tb σ H (.int j)) : Is K (tCB rGcd (tCons ta (tCons tb tNil))) σ H (.int ((Nat.gcd i.natAbs j.natAbs : Nat) : Int)) :=
  is_cb (ia_cons ha (ia_cons hb ia_nil)) fun vs H1 e dvs Q q => by
    obtain ⟨v, w, ev, dv, dw⟩ := two_ dvs
    exact ⟨i, j, by rw [ev, dp_int dv, dp_int dw], q _ H1 (Ex.refl _) (.int _)⟩
theorem is_fact (ha : Is K ta σ H (.int i)) (h0 : 0 ≤ i) (h1 : i ≤ 12) : Is K (tCB TP.R.rFact (tCons ta tNil)) σ H (.int ((Builtin.Math.factorialNat i.toNat : Nat) : Int)) :=
  is_cb (ia_cons ha ia_nil) fun vs H1 e dvs Q q => by
    obtain ⟨v, ev, dv⟩ := one_ dvs
    exact ⟨i, by rw [ev, dp_int dv], h0, h1, q _ H1 (Ex.refl _) (.int _)⟩
end
end TP.L
set_option maxHeartbeats 4000000
/-! Comprehensions, calls, statements over data. -/
namespace TP.L
open PySem PySem.Spec PyProof.Rows L2 Evl RZ

section
variable {K : PySem.W.Frag} {σ : L2.St} {H H' : Hp} {ta tb te tl : TE} {tr : TA} {t u : TT} {d d' : PyData} {ds es f : List PyData} {i j : Int} {wi : TI} {g : TG} {vs : List Nat}
theorem flats_at : ∀ {f : List PyData} {i : Nat} {r : PyData}, flats f = true → f[i]? = some r → flat r = true
  | [], _, _, _, h => by simp at h
  | d :: f, 0, r, hf, h => by
    cases h
    unfold flats at hf
    exact (Bool.and_eq_true_iff.mp hf).1
  | d :: f, i + 1, r, hf, h => by
    unfold flats at hf
    exact flats_at (Bool.and_eq_true_iff.mp hf).2 (by simpa using h)
theorem flats_take {f : List PyData} (n : Nat) (h : flats f = true) : flats (f.take n) = true := flats_all fun d m => by
  obtain ⟨i, hi, e⟩ := List.mem_iff_getElem.mp m
  rw [List.length_take] at hi
  refine flats_at (i := i) h ?_
  rw [← e, List.getElem_take, List.getElem?_eq_getElem]
/-- a comprehension over any walk: f the list of what is given -/
theorem nw_core {n : Nat} (hl : f.length = n) (hf : flats f = true) (hn : n ≤ 40000)
    (src : ∀ H1, Ex H H1 → ∀ R : It → Hp → Prop, (∀ J H2 (G : Hp → Prop) (Y : Nat → Hp → V → Hp → Prop), Ex H1 H2 → Walk J n G Y → (∀ H3, Ex H2 H3 → G H3) →
      (∀ (i : Nat) (x : V) (Ha Hb : Hp) (r : PyData), i < n → f[i]? = some r → Ex H2 Ha → Y i Ha x Hb → Ex Ha Hb ∧ ∀ (Qe : VK) (Els : Hp → Prop), (∀ v Hc, Ex Ha Hc → Dp K Hc v r → Qe v Hc) → g x (wipe σ vs) Hb fun σ2 Hc => wipe σ2 vs = wipe σ vs ∧ if true = true then te σ2 Hc Qe else Els Hc) → R J H2) → wi σ H1 R) :
    Nw K (tLc wi g tYes te vs) σ H f := fun H1 e1 Q q => src H1 e1 _ fun J H2 G Y e2 w hG step D hD => by
  refine lc_it w (fun i H' => Ex H2 H' ∧ ∃ acc, H' D = some (.lst acc) ∧ DpAll K H' acc (f.take i)) ⟨Ex.new hD, [], upd_same, ?_⟩ (fun i H' _ p => hG H' p.1) (fun i x Ha Hb hi p y => ?_) (fun H' p => ?_)
  · rw [List.take_zero]
    exact .nil
  · obtain ⟨p1, acc, p2, p3⟩ := p
    obtain ⟨r, hr⟩ : ∃ r, f[i]? = some r := ⟨f[i]'(by omega), List.getElem?_eq_getElem _⟩
    obtain ⟨hb, st⟩ := step i x Ha Hb r hi hr p1 y
    refine st (fun v Hc => ∃ acc, Hc D = some (.lst acc) ∧ acc.length < sizeLine ∧ Ex H2 (upd Hc D (.lst (acc ++ [v]))) ∧ ∃ acc', (upd Hc D (.lst (acc ++ [v]))) D = some (.lst acc') ∧ DpAll K (upd Hc D (.lst (acc ++ [v]))) acc' (f.take (i + 1))) (fun H3 => Ex H2 H3 ∧ ∃ acc, H3 D = some (.lst acc) ∧ DpAll K H3 acc (f.take (i + 1))) fun v Hc ec dv => ?_
    · have hDc : Hc D = some (.lst acc) := ec D _ p2
      have hlen := dps_len p3
      rw [List.length_take] at hlen
      refine ⟨acc, hDc, sz_lt (by omega), Ex.mut (p1.trans ec) hD, acc ++ [v], upd_same, ?_⟩
      rw [List.take_add_one, hr]
      have isl : IsL Hc D := ⟨acc, hDc⟩
      exact dps_app (dps_exb isl ExB.put (flats_take i hf) (dps_ex ec p3)) (dps_exb isl ExB.put (by show flats [r] = true; unfold flats; rw [flats_at hf hr]; rfl) (.cons dv .nil))
  · obtain ⟨p1, acc, p2, p3⟩ := p
    rw [List.take_of_length_le (by omega)] at p3
    exact q D acc H' (fresh_back e2 hD) (e2.trans p1) p2 p3
theorem nw_lcL {k : Nat} (h : Is K tl σ H (.list es)) (hz : es.length ≤ 40000) (hw : ∀ x, wipe ((wipe σ vs).set k (some x)) vs = wipe σ vs) (hl : f.length = es.length) (hf : flats f = true)
    (he : ∀ (i : Nat) (x : V) (d r : PyData) H1, Ex H H1 → es[i]? = some d → f[i]? = some r → Dp K H1 x d → Is K te ((wipe σ vs).set k (some x)) H1 r) : Nw K (tLc (iList K tl) (gName k) tYes te vs) σ H f :=
  nw_core hl hf hz fun H1 e1 R hR => h H1 e1 _ fun v H2 e2 dv => by
    obtain ⟨a, us, ev, hs, hd⟩ := dp_lst dv
    refine ⟨a, ev, ⟨us, hs⟩, ?_⟩
    have w := walk_list (K := K) (a := a) (xs := us)
    rw [dps_len hd] at w
    refine hR _ H2 _ _ e2 w (fun H3 e3 => ex_l e3 hs) fun i x Ha Hb r hi hr ea y => ?_
    obtain ⟨y1, y2⟩ := y
    rw [y1]
    obtain ⟨d, hd1, hd2⟩ := dps_get hd y2
    exact ⟨Ex.refl _, fun Qe Els hq => ⟨hw x, iteT (he i x d r Ha (e1.trans (e2.trans ea)) hd1 hr (dp_ex ea hd2) Ha (Ex.refl _) Qe hq)⟩⟩
theorem nw_lcT {k : Nat} (h : Is K tl σ H (.tuple es)) (hz : es.length ≤ 40000) (hw : ∀ x, wipe ((wipe σ vs).set k (some x)) vs = wipe σ vs) (hl : f.length = es.length) (hf : flats f = true)
    (he : ∀ (i : Nat) (x : V) (d r : PyData) H1, Ex H H1 → es[i]? = some d → f[i]? = some r → Dp K H1 x d → Is K te ((wipe σ vs).set k (some x)) H1 r) : Nw K (tLc (iTup K tl) (gName k) tYes te vs) σ H f :=
  nw_core hl hf hz fun H1 e1 R hR => h H1 e1 _ fun v H2 e2 dv => by
    obtain ⟨a, us, ev, hs, hd⟩ := dp_tup dv
    refine ⟨a, ev, ⟨us, hs⟩, ?_⟩
    have w := walk_tup (K := K) (a := a) (xs := us)
    rw [dps_len hd] at w
    refine hR _ H2 _ _ e2 w (fun H3 e3 => ex_t e3 hs) fun i x Ha Hb r hi hr ea y => ?_
    obtain ⟨y1, y2⟩ := y
    rw [y1]
    obtain ⟨d, hd1, hd2⟩ := dps_get hd y2
    exact ⟨Ex.refl _, fun Qe Els hq => ⟨hw x, iteT (he i x d r Ha (e1.trans (e2.trans ea)) hd1 hr (dp_ex ea hd2) Ha (Ex.refl _) Qe hq)⟩⟩
/-- over range(n) -/
theorem nw_lcR {k n : Nat} (h : IsA K tr σ H [.int (n : Int)]) (hz : n ≤ 40000) (hw : ∀ x, wipe ((wipe σ vs).set k (some x)) vs = wipe σ vs) (hl : f.length = n) (hf : flats f = true)
    (he : ∀ (i : Nat) (r : PyData) H1, Ex H H1 → i < n → f[i]? = some r → Is K te ((wipe σ vs).set k (some (.int (i : Int)))) H1 r) : Nw K (tLc (iRng1 tr) (gName k) tYes te vs) σ H f :=
  nw_core hl hf hz fun H1 e1 R hR => h H1 e1 _ fun us H2 e2 dvs => by
    obtain ⟨v, ev, dv⟩ := one_ dvs
    refine ⟨(n : Int), by rw [ev, dp_int dv], by omega, by omega, ?_⟩
    rw [Int.toNat_natCast]
    refine hR _ H2 _ _ e2 (walk_range (lo := 0) (n := n)) (fun _ _ => trivial) fun i x Ha Hb r hi hr ea y => ?_
    obtain ⟨y1, y2⟩ := y
    have y3 : x = .int ((0 : Int) + (i : Int)) := y2
    rw [y1, y3, Int.zero_add]
    exact ⟨Ex.refl _, fun Qe Els hq => ⟨hw _, iteT (he i r Ha (e1.trans (e2.trans ea)) hi hr Ha (Ex.refl _) Qe hq)⟩⟩
theorem walk_zipT {a b : Addr} {xs ys : List V} {n : Nat} (hn : n = xs.length) (hm : n = ys.length) : Walk (ItzT K a b) n (fun H => SqT K H a xs ∧ SqT K H b ys) (YPair (fun i => xs[i]?) (fun i => ys[i]?)) := by
  refine ⟨fun i _ hi q => ⟨xs, ys, xs[i]'(by omega), ys[i]'(by omega), q.1, q.2, List.getElem?_eq_getElem _, List.getElem?_eq_getElem _⟩, fun _ q => ⟨xs, ys, q.1, q.2, by omega⟩, fun i H v H' _ q y => ?_⟩
  obtain ⟨T, x, z, h1, h2, h3, h4, h5⟩ := y
  exact ⟨T, x, z, h1, h2, h3, h4 xs q.1, h5 ys q.2⟩
/-- over zip of two tuples, the target a pair of names -/
theorem nw_lcZ {k m : Nat} (h : IsA K tr σ H [.tuple ds, .tuple es]) (he2 : es.length = ds.length) (hz : ds.length ≤ 40000) (hw : ∀ x y, wipe (((wipe σ vs).set k (some x)).set m (some y)) vs = wipe σ vs) (hl : f.length = ds.length) (hf : flats f = true)
    (he : ∀ (i : Nat) (x y : V) (a b r : PyData) H1, Ex H H1 → ds[i]? = some a → es[i]? = some b → f[i]? = some r → Dp K H1 x a → Dp K H1 y b → Is K te (((wipe σ vs).set k (some x)).set m (some y)) H1 r) :
    Nw K (tLc (iZipA K tr) (gTup K 2 (gCons (gName k) (gCons (gName m) gNil))) tYes te vs) σ H f :=
  nw_core hl hf hz fun H1 e1 R hR => h H1 e1 _ fun us H2 e2 dvs => by
    obtain ⟨v, w, ev, dv, dw⟩ := two_ dvs
    obtain ⟨a, xs, ea, ha, hxs⟩ := dp_tup dv
    obtain ⟨b, ys, eb, hb, hys⟩ := dp_tup dw
    refine ⟨a, b, xs, ys, by rw [ev, ea, eb], .inr ⟨ha, hb, ?_⟩⟩
    have l1 := dps_len hxs
    have l2 := dps_len hys
    refine hR _ H2 _ _ e2 (walk_zipT l1.symm (he2.symm.trans l2.symm)) (fun H3 e3 => ⟨ex_t e3 ha, ex_t e3 hb⟩) fun i x Ha Hb r hi hr ea y => ?_
    obtain ⟨T, p, q, y1, y2, y3, y4, y5⟩ := y
    rw [y3, y1]
    obtain ⟨d1, c1, c2⟩ := dps_get hxs y4
    obtain ⟨d2, c3, c4⟩ := dps_get hys y5
    refine ⟨Ex.new y2, fun Qe Els hq => ⟨T, [p, q], rfl, .inl (.inl upd_same), rfl, p, [q], rfl, q, [], rfl, rfl, hw p q, ?_⟩⟩
    have en : Ex Ha (upd Ha T (.tup [p, q])) := Ex.new y2
    exact iteT (he i p q d1 d2 r _ (e1.trans (e2.trans (ea.trans en))) c1 c3 hr (dp_ex (ea.trans en) c2) (dp_ex (ea.trans en) c4) _ (Ex.refl _) Qe fun v Hc ec dv => hq v Hc (en.trans ec) dv)
/-! ### calls -/
/-- a value: r from the arguments ds -/
def spV (K : PySem.W.Frag) (pre : List PyData → PyData → Prop) : Sp := fun vs H Q _ => ∃ ds r, DpAll K H vs ds ∧ pre ds r ∧ ∀ v H', Ex H H' → Dp K H' v r → Q v H'
/-- a new list -/
def spL (K : PySem.W.Frag) (pre : List PyData → List PyData → Prop) : Sp := fun vs H Q _ => ∃ ds r, DpAll K H vs ds ∧ pre ds r ∧ ∀ p us H', H p = none → Ex H H' → H' p = some (.lst us) → DpAll K H' us r → Q (.ref p) H'
theorem is_call {pre : List PyData → PyData → Prop} {E : XK} {r : PyData} (h : IsA K tr σ H ds) (hp : pre ds r) : Is K (tCall (spV K pre) [] E tr) σ H r := fun H1 e Q q =>
  h H1 e _ fun us H2 e2 dvs => ⟨ds, r, by rw [List.append_nil]; exact dvs, hp, fun v H3 e3 dv => q v H3 (e2.trans e3) dv⟩
theorem nw_call {pre : List PyData → List PyData → Prop} {E : XK} {r : List PyData} (h : IsA K tr σ H ds) (hp : pre ds r) : Nw K (tCall (spL K pre) [] E tr) σ H r := fun H1 e Q q =>
  h H1 e _ fun us H2 e2 dvs => ⟨ds, r, by rw [List.append_nil]; exact dvs, hp, fun p ws H3 hp e3 hl hd => q p ws H3 (fresh_back e2 hp) (e2.trans e3) hl hd⟩
theorem ia0 (h : Is K te σ H d) : IsA K (tCons te tNil) σ H [d] := ia_cons h ia_nil
theorem ia2 (h : Is K ta σ H d) (h2 : Is K tb σ H d') : IsA K (tCons ta (tCons tb tNil)) σ H [d, d'] := ia_cons h (ia0 h2)
/-! ### tests -/
theorem et_is {b : Bool} (h : Is K te σ H (.bool b)) : EvT (tTest te) σ H b := fun H1 e Q q => h H1 e _ fun v H2 e2 dv => ⟨b, dp_bl dv, q H2 e2⟩
theorem et_isB {b : Bool} (h : Is K te σ H (.bool b)) : EvT (tB te) σ H b := fun H1 e Q q => h H1 e _ fun v H2 e2 dv => ⟨b, dp_bl dv, q H2 e2⟩
theorem is_and {a b : Bool} (h1 : Is K ta σ H (.bool a)) (h2 : a = true → Is K tb σ H (.bool b)) : Is K (tAndV ta tb) σ H (.bool (a && b)) := fun H1 e Q q => h1 H1 e _ fun v H2 e2 dv => ⟨a, dp_bl dv, by
  cases a with
  | true =>
    show tb σ H2 Q
    exact h2 rfl H2 (e.trans e2) Q fun w H3 e3 dw => q w H3 (e2.trans e3) dw
  | false =>
    show Q (.bl false) H2
    exact q _ H2 e2 (.bl _)⟩
theorem is_if {b : Bool} (h : EvT t σ H b) (h1 : b = true → Is K ta σ H d) (h2 : b = false → Is K tb σ H d) : Is K (tIf t ta tb) σ H d := fun H1 e Q q => h H1 e _ fun H2 e2 => by
  cases b with
  | true =>
    show ta σ H2 Q
    exact h1 rfl H2 (e.trans e2) Q fun w H3 e3 dw => q w H3 (e2.trans e3) dw
  | false =>
    show tb σ H2 Q
    exact h2 rfl H2 (e.trans e2) Q fun w H3 e3 dw => q w H3 (e2.trans e3) dw
theorem is_chain {r r' : R2} {tc : TE} {x y z : PyData} {b c : Bool} (ha : Is K ta σ H x) (hb : Is K tb σ H y) (hc : Is K tc σ H z)
    (hr : ∀ v w H1, Dp K H1 v x → Dp K H1 w y → ∀ Q : VK, Q (.bl b) H1 → r v w H1 Q) (hr' : ∀ v w H1, Dp K H1 v y → Dp K H1 w z → ∀ Q : VK, Q (.bl c) H1 → r' v w H1 Q) : Is K (tChain r r' ta tb tc) σ H (.bool (b && c)) := fun H1 e Q q =>
  ha H1 e _ fun v H2 e2 dv => hb H2 (e.trans e2) _ fun w H3 e3 dw => hr v w H3 (dp_ex e3 dv) dw _ ⟨b, rfl, by
    cases b with
    | true =>
      show tc σ H3 _
      exact hc H3 ((e.trans e2).trans e3) _ fun u H4 e4 du => hr' w u H4 (dp_ex e4 dw) du _ (q _ H4 ((e2.trans e3).trans e4) (.bl _))
    | false =>
      show Q (.bl false) H3
      exact q _ H3 (e2.trans e3) (.bl _)⟩
/-! ### statements -/
variable {D : Ends} {tz tu : TS}
theorem q_is {k : Nat} (h : Is K te σ H d) (z : ∀ v H1, Ex H H1 → Dp K H1 v d → tz D (σ.set k (some v)) H1) : tSeq (tAsg te (gName k)) tz D σ H := h H (Ex.refl _) _ fun v H1 e dv => z v H1 e dv
theorem q_sh {k : Nat} {R : PyData → Prop} (h : Sh K te σ H R) (z : ∀ v H1 d, Ex H H1 → R d → Dp K H1 v d → tz D (σ.set k (some v)) H1) : tSeq (tAsg te (gName k)) tz D σ H := h H (Ex.refl _) _ fun v H1 d e r dv => z v H1 d e r dv
theorem q_nw {k : Nat} (h : Nw K te σ H ds) (z : ∀ p us H1, H p = none → Ex H H1 → H1 p = some (.lst us) → DpAll K H1 us ds → tz D (σ.set k (some (.ref p))) H1) : tSeq (tAsg te (gName k)) tz D σ H := h H (Ex.refl _) _ fun p us H1 hp e hl hd => z p us H1 hp e hl hd
theorem q_dropD (h : Is K te σ H d) (z : ∀ H1, Ex H H1 → tz D σ H1) : tSeq (tDrop te) tz D σ H := h H (Ex.refl _) _ fun v H1 e dv => z H1 e
theorem s_drop_D (h : Is K te σ H d) (z : ∀ H1, Ex H H1 → D.nx σ H1) : tDrop te D σ H := h H (Ex.refl _) _ fun v H1 e dv => z H1 e
theorem s_isRet (h : Is K te σ H d) (z : ∀ v H1, Ex H H1 → Dp K H1 v d → D.rt v H1) : tRet te D σ H := h H (Ex.refl _) _ fun v H1 e dv => z v H1 e dv
theorem s_nwRet (h : Nw K te σ H ds) (z : ∀ p us H1, H p = none → Ex H H1 → H1 p = some (.lst us) → DpAll K H1 us ds → D.rt (.ref p) H1) : tRet te D σ H := h H (Ex.refl _) _ fun p us H1 hp e hl hd => z p us H1 hp e hl hd
/-- a, b, c, d = a tuple of four -/
theorem q_un4 {i0 i1 i2 i3 : Nat} {a b c e : PyData} (h : Is K te σ H (.tuple [a, b, c, e])) (z : ∀ w x y v H1, Ex H H1 → Dp K H1 w a → Dp K H1 x b → Dp K H1 y c → Dp K H1 v e → tz D ((((σ.set i0 (some w)).set i1 (some x)).set i2 (some y)).set i3 (some v)) H1) :
    tSeq (tAsg te (gTup K 4 (gCons (gName i0) (gCons (gName i1) (gCons (gName i2) (gCons (gName i3) gNil)))))) tz D σ H := h H (Ex.refl _) _ fun v H1 ex dv => by
  obtain ⟨p, us, ev, hs, hd⟩ := dp_tup dv
  cases hd with
  | cons d1 r1 => cases r1 with
    | cons d2 r2 => cases r2 with
      | cons d3 r3 =>
        obtain ⟨v4, e4, d4⟩ := one_ r3
        rw [e4] at hs
        exact ⟨p, _, ev, hs, rfl, _, _, rfl, _, _, rfl, _, _, rfl, _, _, rfl, rfl, z _ _ _ _ H1 ex d1 d2 d3 d4⟩
theorem q_un2 {i0 i1 : Nat} {a b : PyData} (h : Is K te σ H (.tuple [a, b])) (z : ∀ w x H1, Ex H H1 → Dp K H1 w a → Dp K H1 x b → tz D ((σ.set i0 (some w)).set i1 (some x)) H1) :
    tSeq (tAsg te (gTup K 2 (gCons (gName i0) (gCons (gName i1) gNil)))) tz D σ H := h H (Ex.refl _) _ fun v H1 ex dv => by
  obtain ⟨p, us, ev, hs, hd⟩ := dp_tup dv
  obtain ⟨v1, v2, e2, d1, d2⟩ := two_ hd
  rw [e2] at hs
  exact ⟨p, _, ev, hs, rfl, _, _, rfl, _, _, rfl, rfl, z _ _ H1 ex d1 d2⟩
/-- xs.append(e), e's data flat -/
theorem q_appD {l : Addr} {us : List V} (hl : H l = some (.lst us)) (ha : ∃ k, ta = tVar k ∧ σ[k]? = some (some (.ref l))) (h : Is K te σ H d) (hz : us.length < 100000) (z : ∀ v H1, Ex H H1 → Dp K H1 v d → tz D σ (upd H1 l (.lst (us ++ [v])))) :
    tSeq (tDrop (tBM K "list" rAppend ta (tCons te tNil))) tz D σ H := by
  obtain ⟨k, ek, hk⟩ := ha
  rw [ek]
  exact ⟨.ref l, hk, .inl ⟨rfl, us, sq_of hl⟩, h H (Ex.refl _) _ fun v H1 e dv => ⟨l, us, v, rfl, rfl, e l _ hl, sz_lt hz, z v H1 e dv⟩⟩
theorem s_appD {l : Addr} {us : List V} (hl : H l = some (.lst us)) (ha : ∃ k, ta = tVar k ∧ σ[k]? = some (some (.ref l))) (h : Is K te σ H d) (hz : us.length < 100000) (z : ∀ v H1, Ex H H1 → Dp K H1 v d → D.nx σ (upd H1 l (.lst (us ++ [v])))) :
    tDrop (tBM K "list" rAppend ta (tCons te tNil)) D σ H := by
  obtain ⟨k, ek, hk⟩ := ha
  rw [ek]
  exact ⟨.ref l, hk, .inl ⟨rfl, us, sq_of hl⟩, h H (Ex.refl _) _ fun v H1 e dv => ⟨l, us, v, rfl, rfl, e l _ hl, sz_lt hz, z v H1 e dv⟩⟩
end
end TP.L
set_option maxHeartbeats 4000000
/-! sorted and max of tuples of ints, over data. -/
namespace TP.L
open PySem PySem.Spec PyProof.Rows L2 Evl RZ

section
variable {X : Cx} {pins : List (Addr × Obj)} {σ : L2.St} {H : Hp} {s : Shared}
theorem map_int_inj : ∀ {a b : List Int}, a.map V.int = b.map V.int → a = b
  | [], [], _ => rfl
  | [], _ :: _, h => by cases h
  | _ :: _, [], h => by cases h
  | x :: a, y :: b, h => by
    rw [List.map_cons, List.map_cons] at h
    injection h with h1 h2
    rw [V.int.inj h1, map_int_inj h2]
/-- some ints that the tuple at x holds -/
noncomputable def kOf (K : PySem.W.Frag) (H : Hp) (x : V) : List Int := Classical.epsilon fun ns => ∃ t, x = .ref t ∧ SqT K H t (ns.map V.int)
theorem kOf_eq (I : Inv X pins σ H s) {x : V} {ns : List Int} (h : Dp X.K H x (tupI ns)) : kOf X.K H x = ns ∧ ∃ t, x = .ref t ∧ SqT X.K H t ((kOf X.K H x).map V.int) := by
  obtain ⟨t, e, hs⟩ := dp_tupI h
  obtain ⟨t', e', hs'⟩ := Classical.epsilon_spec (p := fun ns => ∃ t, x = .ref t ∧ SqT X.K H t (ns.map V.int)) ⟨ns, t, e, hs⟩
  have et : t' = t := by
    rw [e] at e'
    exact (V.ref.inj e').symm
  rw [et] at hs'
  exact ⟨map_int_inj (I.tuple_inj hs' hs), t, e, hs'⟩
theorem kOf_all (I : Inv X pins σ H s) : ∀ {nss : List (List Int)} {us : List V}, DpAll X.K H us (nss.map tupI) → us.map (kOf X.K H) = nss ∧ ∀ x ∈ us, Dp X.K H x (tupI (kOf X.K H x)) ∧ ∃ t, x = .ref t ∧ SqT X.K H t ((kOf X.K H x).map V.int)
  | [], _, .nil => ⟨rfl, fun x m => by cases m⟩
  | ns :: nss, _, .cons h t => by
    obtain ⟨a, b⟩ := kOf_all I t
    obtain ⟨c, d⟩ := kOf_eq I h
    refine ⟨by rw [List.map_cons, a, c], fun x m => ?_⟩
    rcases List.mem_cons.mp m with e | m
    · rw [e]
      exact ⟨by rw [c]; exact h, d⟩
    · exact b x m
end
theorem dps_map {K : PySem.W.Frag} {H : Hp} {k : V → PyData} : ∀ {us : List V}, (∀ x ∈ us, Dp K H x (k x)) → DpAll K H us (us.map k)
  | [], _ => .nil
  | x :: us, h => .cons (h x List.mem_cons_self) (dps_map fun y m => h y (List.mem_cons_of_mem _ m))
def rSortD (K : PySem.W.Frag) (d : Nat) : List V → Hp → VK → Prop := fun vs H Q => ∃ (a : Addr) (us : List V) (nss : List (List Int)), vs = [V.ref a] ∧ SqL K H a us ∧ DpAll K H us (nss.map tupI) ∧ (∀ ns ∈ nss, ns.length = d + 1) ∧
  ∀ (nss' : List (List Int)) (us' : List V) (p : Addr), nss'.Perm nss → nss'.Pairwise (fun x y => HT.lexLt y x = false) → DpAll K H us' (nss'.map tupI) → H p = none → Q (.ref p) (upd H p (.lst us'))
def rMaxD (K : PySem.W.Frag) (d : Nat) : List V → Hp → VK → Prop := fun vs H Q => ∃ (a : Addr) (us : List V) (nss : List (List Int)), vs = [V.ref a] ∧ SqL K H a us ∧ DpAll K H us (nss.map tupI) ∧ nss ≠ [] ∧ (∀ ns ∈ nss, ns.length = d) ∧
  ∀ (ns : List Int) (x : V), ns ∈ nss → (∀ ms ∈ nss, HT.lexLt ns ms = false) → Dp K H x (tupI ns) → Q x H
section
variable {X : Cx}
theorem cr_sortD {d : Nat} : CallR X (.builtin "sorted") (rSortD X.K d) := fun pins s σ H vs us Q I r h => by
  obtain ⟨a, ws, nss, ev, hs, hd, hl, q⟩ := h
  obtain ⟨e1, e2⟩ := kOf_all I hd
  refine TP.R.cr_sortQ (d := d) pins s σ H vs us Q I r ⟨a, ws, kOf X.K H, ev, hs, fun x m => ?_, fun ys p pm pw hp => ?_⟩
  · obtain ⟨t, et, ht⟩ := (e2 x m).2
    exact ⟨t, et, ht, hl _ (by rw [← e1]; exact List.mem_map.mpr ⟨x, m, rfl⟩)⟩
  · refine q (ys.map (kOf X.K H)) ys p ?_ (List.pairwise_map.mpr pw) ?_ hp
    · have z := pm.map (kOf X.K H)
      rw [e1] at z
      exact z
    · rw [List.map_map]
      exact dps_map fun x m => (e2 x (pm.mem_iff.mp m)).1
theorem cr_maxD {d : Nat} (hc : X.calm = true) (hu : X.A.units + 1 < cLine) : CallR X (.builtin "max") (rMaxD X.K d) := fun pins s σ H vs us Q I r h => by
  obtain ⟨a, ws, nss, ev, hs, hd, hne, hl, q⟩ := h
  obtain ⟨e1, e2⟩ := kOf_all I hd
  refine TP.R.cr_maxQ (d := d) hc hu pins s σ H vs us Q I r ⟨a, ws, kOf X.K H, ev, hs, fun z => ?_, fun x m => ?_, fun x m top => ?_⟩
  · rw [z] at e1
    exact hne e1.symm
  · obtain ⟨t, et, ht⟩ := (e2 x m).2
    exact ⟨t, et, ht, hl _ (by rw [← e1]; exact List.mem_map.mpr ⟨x, m, rfl⟩)⟩
  · refine q (kOf X.K H x) x (by rw [← e1]; exact List.mem_map.mpr ⟨x, m, rfl⟩) (fun ms mm => ?_) (e2 x m).1
    rw [← e1] at mm
    obtain ⟨y, my, ey⟩ := List.mem_map.mp mm
    rw [← ey]
    exact top y my
end
section
variable {K : PySem.W.Frag} {σ : L2.St} {H H' : Hp} {ta tb te tl : TE} {nss nst : List (List Int)} {d : Nat}
/-- two sorted arrangements of the same lists are one -/
theorem lex_tri : ∀ l m : List Int, l.length = m.length → HT.lexLt l m = false → HT.lexLt m l = false → l = m
  | [], [], _, _, _ => rfl
  | [], _ :: _, h, _, _ => by simp at h
  | _ :: _, [], h, _, _ => by simp at h
  | x :: l, y :: m, h, h1, h2 => by
    rw [HT.lexLt_cons] at h1 h2
    by_cases e : x = y
    · rw [if_pos e] at h1
      rw [if_pos e.symm] at h2
      rw [e, lex_tri l m (by simpa using h) h1 h2]
    · rw [if_neg e] at h1
      rw [if_neg (Ne.symm e)] at h2
      have a := of_decide_eq_false h1
      have b := of_decide_eq_false h2
      omega
theorem sort_one (hl : ∀ ns ∈ nst, ns.length = d) (p : nss.Perm nst) (h1 : nss.Pairwise fun x y => HT.lexLt y x = false) (h2 : nst.Pairwise fun x y => HT.lexLt y x = false) : nss = nst :=
  p.eq_of_pairwise (le := fun x y => HT.lexLt y x = false) (fun a b ma mb z1 z2 => lex_tri a b ((hl a (p.mem_iff.mp ma)).trans (hl b mb).symm) z2 z1) h1 h2
theorem nw_sort (h : Is K te σ H (.list (nss.map tupI))) (hl : ∀ ns ∈ nss, ns.length = d + 1) (hp : nss.Perm nst) (hs : nst.Pairwise fun x y => HT.lexLt y x = false) : Nw K (tCB (rSortD K d) (tCons te tNil)) σ H (nst.map tupI) :=
  nw_cb (ia0 h) fun vs H1 e dvs Q q => by
    obtain ⟨v, ev, dv⟩ := one_ dvs
    obtain ⟨a, us, e2, h1, h2⟩ := dp_lst dv
    refine ⟨a, us, nss, by rw [ev, e2], h1, h2, hl, fun nss' us' p pm pw hd hpn => q p us' _ hpn (Ex.new hpn) upd_same (dps_ex (Ex.new hpn) ?_)⟩
    have z : nss' = nst := sort_one (d := d + 1) (fun ns m => hl ns (hp.mem_iff.mpr m)) (pm.trans hp) pw hs
    rw [← z]
    exact hd
/-- a sorted list, by one of its facts: the last one is the greatest -/
theorem nw_sortR (h : Is K te σ H (.list (nss.map tupI))) (hl : ∀ ns ∈ nss, ns.length = d + 1) : ∀ H1, Ex H H1 → ∀ Q : VK, (∀ (p : Addr) (us : List V) (H2 : Hp) (nst : List (List Int)), H1 p = none → Ex H1 H2 → H2 p = some (.lst us) → DpAll K H2 us (nst.map tupI) → nst.Perm nss → (nst.Pairwise fun x y => HT.lexLt y x = false) → Q (.ref p) H2) → tCB (rSortD K d) (tCons te tNil) σ H1 Q := fun H1 e1 Q q =>
  h H1 e1 _ fun v H2 e2 dv => by
    obtain ⟨a, us, e3, h1, h2⟩ := dp_lst dv
    exact ⟨a, us, nss, by rw [e3], h1, h2, hl, fun nss' us' p pm pw hd hpn => q p us' _ nss' (fresh_back e2 hpn) (e2.trans (Ex.new hpn)) upd_same (dps_ex (Ex.new hpn) hd) pm pw⟩
theorem nw_sortI {ns nt : List Int} (h : Is K te σ H (.list (inz ns))) (hp : ns.Perm nt) (hs : nt.Pairwise (· ≤ ·)) : Nw K (tCB (rSortedI K) (tCons te tNil)) σ H (inz nt) :=
  nw_cb (ia0 h) fun vs H1 e dvs Q q => by
    obtain ⟨v, ev, dv⟩ := one_ dvs
    obtain ⟨a, us, e2, h1, h2⟩ := dp_lst dv
    rw [dps_ints h2] at h1
    refine ⟨a, ns, by rw [ev, e2], h1, fun ns' p pm pw hpn => ?_⟩
    have z : ns' = nt := (pm.trans hp).eq_of_pairwise (le := (· ≤ ·)) (fun a b _ _ z1 z2 => Int.le_antisymm z1 z2) pw hs
    rw [z]
    exact q p _ _ hpn (Ex.new hpn) upd_same (dps_of_ints nt)
theorem is_maxD {r : List Int} (h : Is K te σ H (.list (nss.map tupI))) (hl : ∀ ns ∈ nss, ns.length = d) (hr : r ∈ nss) (ht : ∀ ns ∈ nss, HT.lexLt r ns = false) : Is K (tCB (rMaxD K d) (tCons te tNil)) σ H (tupI r) :=
  is_cb (ia0 h) fun vs H1 e dvs Q q => by
    obtain ⟨v, ev, dv⟩ := one_ dvs
    obtain ⟨a, us, e2, h1, h2⟩ := dp_lst dv
    refine ⟨a, us, nss, by rw [ev, e2], h1, h2, (by intro z; rw [z] at hr; cases hr), hl, fun ns x m top dx => ?_⟩
    have z : ns = r := lex_tri ns r ((hl ns m).trans (hl r hr).symm) (top r hr) (ht ns m)
    rw [z] at dx
    exact q x H1 (Ex.refl _) dx
theorem is_maxD2 {a b : List Int} (ha : Is K ta σ H (tupI a)) (hb : Is K tb σ H (tupI b)) (hl : a.length = b.length) : Is K (tCB (TP.R.rMaxQ2 K) (tCons ta (tCons tb tNil))) σ H (tupI (if HT.lexLt a b = true then b else a)) :=
  is_cb (ia2 ha hb) fun vs H1 e dvs Q q => by
    obtain ⟨v, w, ev, dv, dw⟩ := two_ dvs
    obtain ⟨p, e1, h1⟩ := dp_tupI dv
    obtain ⟨p', e2, h2⟩ := dp_tupI dw
    refine ⟨p, p', a, b, by rw [ev, e1, e2], h1, h2, hl, q _ H1 (Ex.refl _) ?_⟩
    by_cases c : HT.lexLt a b = true
    · rw [if_pos c, if_pos c, ← e2]
      exact dw
    · rw [if_neg c, if_neg c, ← e1]
      exact dv
end
end TP.L
set_option maxHeartbeats 4000000
/-! Loops over data; comprehensions of four clauses. -/
namespace TP.L
open PySem PySem.Spec PyProof.Rows L2 Evl RZ

section
variable {K : PySem.W.Frag} {σ : L2.St} {H H' : Hp} {ta tb te tl : TE} {tr : TA} {t u : TT} {d d' : PyData} {ds es f : List PyData} {ns : List Int} {D : Ends} {tz tu : TS} {g : TG} {l : Addr}
theorem ia_ev (h : IsA K tr σ H (inz ns)) : EvA tr σ H (ns.map V.int) := fun H1 e Q q => h H1 e _ fun vs H2 e2 dvs => by rw [dps_ints dvs]; exact q H2 e2
theorem exb_l {a : Addr} {xs : List V} (ne : a ≠ l) (e : ExB l H H') (h : SqL K H a xs) : SqL K H' a xs := by
  rcases h with (h | ⟨o, h⟩) | h
  · exact .inl (.inl (e a _ ne h))
  · exact .inl (.inr ⟨o, e a _ ne h⟩)
  · exact .inr h
/-- for over a tuple, the list at l changed within -/
theorem s_forT (h : Is K tl σ H (.tuple es)) (Pv : Hp → Nat → L2.St → Hp → Prop) (hl : IsL H l) (h0 : ∀ H1, Ex H H1 → Pv H1 0 σ H1) (stay : ∀ H1 i σ' H', Ex H H1 → Pv H1 i σ' H' → ExB l H1 H')
    (hs : ∀ H1 i x d σ' H', Ex H H1 → es[i]? = some d → Dp K H1 x d → Pv H1 i σ' H' → g x σ' H' fun σ2 H2 => tu { D with nx := Pv H1 (i + 1), ct := Pv H1 (i + 1), bk := D.nx } σ2 H2) (hd : ∀ H1 σ' H', Ex H H1 → Pv H1 es.length σ' H' → D.nx σ' H') : tFor (iTup K tl) g tu D σ H :=
  h H (Ex.refl _) _ fun v H1 e1 dv => by
    obtain ⟨a, us, ev, hq, hd2⟩ := dp_tup dv
    have il : IsL H1 l := by
      obtain ⟨ws, z⟩ := hl
      exact ⟨ws, e1 _ _ z⟩
    refine ⟨a, ev, ⟨us, hq⟩, for_tup (K := K) (xs := us) (Pv H1) (h0 H1 e1) (fun i σ' H' _ p => exb_t il (stay H1 i σ' H' e1 p) hq) (fun i x σ' H' hx p => ?_) fun σ' H' p => hd H1 σ' H' e1 (by rw [← dps_len hd2]; exact p)⟩
    obtain ⟨d, z1, z2⟩ := dps_get hd2 hx
    exact hs H1 i x d σ' H' e1 z1 z2 p
/-- .. nothing changed within but what is new -/
theorem s_forTX (h : Is K tl σ H (.tuple es)) (Pv : Hp → Nat → L2.St → Hp → Prop) (h0 : ∀ H1, Ex H H1 → Pv H1 0 σ H1) (stay : ∀ H1 i σ' H', Ex H H1 → Pv H1 i σ' H' → Ex H1 H')
    (hs : ∀ H1 i x d σ' H', Ex H H1 → es[i]? = some d → Dp K H1 x d → Pv H1 i σ' H' → g x σ' H' fun σ2 H2 => tu { D with nx := Pv H1 (i + 1), ct := Pv H1 (i + 1), bk := D.nx } σ2 H2) (hd : ∀ H1 σ' H', Ex H H1 → Pv H1 es.length σ' H' → D.nx σ' H') : tFor (iTup K tl) g tu D σ H :=
  h H (Ex.refl _) _ fun v H1 e1 dv => by
    obtain ⟨a, us, ev, hq, hd2⟩ := dp_tup dv
    refine ⟨a, ev, ⟨us, hq⟩, for_tup (K := K) (xs := us) (Pv H1) (h0 H1 e1) (fun i σ' H' _ p => ex_t (stay H1 i σ' H' e1 p) hq) (fun i x σ' H' hx p => ?_) fun σ' H' p => hd H1 σ' H' e1 (by rw [← dps_len hd2]; exact p)⟩
    obtain ⟨d, z1, z2⟩ := dps_get hd2 hx
    exact hs H1 i x d σ' H' e1 z1 z2 p
/-- for over a list that stays -/
theorem s_forLX (h : Is K tl σ H (.list es)) (Pv : Hp → Nat → L2.St → Hp → Prop) (h0 : ∀ H1, Ex H H1 → Pv H1 0 σ H1) (stay : ∀ H1 i σ' H', Ex H H1 → Pv H1 i σ' H' → Ex H1 H')
    (hs : ∀ H1 i x d σ' H', Ex H H1 → es[i]? = some d → Dp K H1 x d → Pv H1 i σ' H' → g x σ' H' fun σ2 H2 => tu { D with nx := Pv H1 (i + 1), ct := Pv H1 (i + 1), bk := D.nx } σ2 H2) (hd : ∀ H1 σ' H', Ex H H1 → Pv H1 es.length σ' H' → D.nx σ' H') : tFor (iList K tl) g tu D σ H :=
  h H (Ex.refl _) _ fun v H1 e1 dv => by
    obtain ⟨a, us, ev, hq, hd2⟩ := dp_lst dv
    refine ⟨a, ev, ⟨us, hq⟩, for_list (K := K) (xs := us) (Pv H1) (h0 H1 e1) (fun i σ' H' _ p => ex_l (stay H1 i σ' H' e1 p) hq) (fun i x σ' H' hx p => ?_) fun σ' H' p => hd H1 σ' H' e1 (by rw [← dps_len hd2]; exact p)⟩
    obtain ⟨d, z1, z2⟩ := dps_get hd2 hx
    exact hs H1 i x d σ' H' e1 z1 z2 p
/-- for over a list at a, another list changed within -/
theorem s_forLA {a : Addr} {k : Nat} {us : List V} (hk : σ[k]? = some (some (.ref a))) (hq : SqL K H a us) (hd2 : DpAll K H us es) (ne : a ≠ l) (Pv : Nat → L2.St → Hp → Prop) (h0 : Pv 0 σ H) (stay : ∀ i σ' H', Pv i σ' H' → ExB l H H')
    (hs : ∀ i x d σ' H', es[i]? = some d → Dp K H x d → Pv i σ' H' → g x σ' H' fun σ2 H2 => tu { D with nx := Pv (i + 1), ct := Pv (i + 1), bk := D.nx } σ2 H2) (hd : ∀ σ' H', Pv es.length σ' H' → D.nx σ' H') : tFor (iList K (tVar k)) g tu D σ H := by
  refine ⟨.ref a, hk, a, rfl, ⟨us, hq⟩, for_list (K := K) (xs := us) Pv h0 (fun i σ' H' _ p => exb_l ne (stay i σ' H' p) hq) (fun i x σ' H' hx p => ?_) fun σ' H' p => hd σ' H' (by rw [← dps_len hd2]; exact p)⟩
  obtain ⟨d, z1, z2⟩ := dps_get hd2 hx
  exact hs i x d σ' H' z1 z2 p
/-! ### four clauses -/
/-- at D a list of this data -/
def LAt (K : PySem.W.Frag) (D : Addr) (acc : List PyData) (H : Hp) : Prop := ∃ us, H D = some (.lst us) ∧ DpAll K H us acc
def BC (K : PySem.W.Frag) (D : Addr) (b : L2.St → Hp → (Hp → Prop) → Prop) (σ : L2.St) (out : List PyData) : Prop :=
  ∀ H acc, LAt K D acc H → flats acc = true → acc.length + out.length ≤ 1000 → ∀ Nx : Hp → Prop, (∀ H', ExB D H H' → LAt K D (acc ++ out) H' → Nx H') → b σ H Nx
theorem flats_app {a b : List PyData} (h1 : flats a = true) (h2 : flats b = true) : flats (a ++ b) = true := flats_all fun d m => by
  rcases List.mem_append.mp m with m | m
  · obtain ⟨i, hi, e⟩ := List.mem_iff_getElem.mp m
    exact flats_at (i := i) h1 (by rw [← e]; exact List.getElem?_eq_getElem hi)
  · obtain ⟨i, hi, e⟩ := List.mem_iff_getElem.mp m
    exact flats_at (i := i) h2 (by rw [← e]; exact List.getElem?_eq_getElem hi)
theorem bc_app {D : Addr} {r : PyData} (h : ∀ H, Is K te σ H r) (hf : flat r = true) : BC K D (TP.R.bApp te D) σ [r] := fun H acc ⟨us, h1, h2⟩ fa hn Nx k =>
  h H H (Ex.refl _) _ fun v H1 e1 dv => by
    have hD := e1 D _ h1
    have isl : IsL H1 D := ⟨us, hD⟩
    have hl := dps_len h2
    refine ⟨us, hD, sz_lt (by omega), k _ ((ExB.of e1).trans ExB.put) ⟨_, upd_same, dps_app (dps_exb isl ExB.put fa (dps_ex e1 h2)) (dps_exb isl ExB.put ?_ (.cons dv .nil))⟩⟩
    unfold flats
    rw [hf]
    rfl
theorem flats_fm {out : Int → List PyData} (ho : ∀ n, flats (out n) = true) : ∀ ns : List Int, flats (ns.flatMap out) = true
  | [] => rfl
  | n :: ns => by
    rw [List.flatMap_cons]
    exact flats_app (ho n) (flats_fm ho ns)
theorem fm_len {out : Int → List PyData} : ∀ (ns : List Int) (i : Nat), ((ns.take i).flatMap out).length ≤ (ns.flatMap out).length
  | [], i => by simp
  | n :: ns, 0 => by simp
  | n :: ns, i + 1 => by
    have := fm_len (out := out) ns i
    rw [List.take_succ_cons, List.flatMap_cons, List.flatMap_cons, List.length_append, List.length_append]
    omega
theorem fm_len1 {out : Int → List PyData} : ∀ (ns : List Int) (i : Nat) (n : Int), ns[i]? = some n → ((ns.take i).flatMap out).length + (out n).length ≤ (ns.flatMap out).length
  | [], i, n, h => by simp at h
  | m :: ns, 0, n, h => by
    cases h
    rw [List.flatMap_cons, List.length_append]
    simp
  | m :: ns, i + 1, n, h => by
    have := fm_len1 (out := out) ns i n (by simpa using h)
    rw [List.take_succ_cons, List.flatMap_cons, List.flatMap_cons, List.length_append, List.length_append]
    omega
theorem bc_loop {D : Addr} {vs : List Nat} {k : Nat} {b : L2.St → Hp → (Hp → Prop) → Prop} {out : Int → List PyData} (h : ∀ H, Is K tl σ H (tupI ns)) (hw : ∀ x, wipe ((wipe σ vs).set k (some x)) vs = wipe σ vs) (ho : ∀ n, flats (out n) = true)
    (hb : ∀ n ∈ ns, BC K D b ((wipe σ vs).set k (some (.int n))) (out n)) : BC K D (TP.R.rdL (iTup K tl) (gName k) vs b) σ (ns.flatMap out) := fun H acc ⟨us, h1, h2⟩ fa hn Nx kx =>
  h H H (Ex.refl _) _ fun v H1 e1 dv => by
    obtain ⟨p, ev, hq⟩ := dp_tupI dv
    have hD := e1 D _ h1
    have isl : IsL H1 D := ⟨us, hD⟩
    refine ⟨p, ev, ⟨_, hq⟩, fun i m H' => m = ns.length - i ∧ i ≤ ns.length ∧ ExB D H1 H' ∧ LAt K D (acc ++ (ns.take i).flatMap out) H', ⟨_, rfl, Nat.zero_le _, ExB.refl _ _, us, hD, ?_⟩, ?_⟩
    · rw [List.take_zero]
      show DpAll K H1 us (acc ++ [])
      rw [List.append_nil]
      exact dps_ex e1 h2
    rintro i m H' ⟨hm, hi, p1, p2⟩
    have hq' := exb_t isl p1 hq
    by_cases hlt : i < ns.length
    · have g : (ns.map V.int)[i]? = some (.int ns[i]) := by rw [List.getElem?_map, List.getElem?_eq_getElem hlt]; rfl
      refine .inr ⟨⟨_, _, hq', g⟩, fun H3 => ExB D H1 H3 ∧ LAt K D (acc ++ (ns.take (i + 1)).flatMap out) H3, fun H3 z => ⟨ns.length - (i + 1), by omega, rfl, hlt, z⟩, fun x H3 y => ?_⟩
      obtain ⟨y1, y2⟩ := y
      rw [y1]
      have ex : x = V.int ns[i] := Option.some.inj ((y2 _ hq').symm.trans g)
      rw [ex]
      have l1 := fm_len1 (out := out) ns i ns[i] (List.getElem?_eq_getElem hlt)
      refine ⟨hw _, hb ns[i] (List.getElem_mem hlt) H' _ p2 (flats_app fa (flats_fm ho _)) (by rw [List.length_append]; omega) _ fun H4 e4 h4 => ⟨p1.trans e4, ?_⟩⟩
      rw [List.take_add_one, List.getElem?_eq_getElem hlt, List.flatMap_append]
      show LAt K D (acc ++ ((ns.take i).flatMap out ++ [ns[i]].flatMap out)) H4
      rw [← List.append_assoc, List.flatMap_singleton]
      exact h4
    · have e : i = ns.length := by omega
      rw [e, List.take_length] at p2
      exact .inl ⟨⟨_, hq', by rw [List.length_map]; omega⟩, kx H' ((ExB.of e1).trans p1) p2⟩
theorem nw_lcN {vs : List Nat} {k : Nat} {b : Addr → L2.St → Hp → (Hp → Prop) → Prop} {out : Int → List PyData} (h : Is K tl σ H (tupI ns)) (hw : ∀ x, wipe ((wipe σ vs).set k (some x)) vs = wipe σ vs) (ho : ∀ n, flats (out n) = true) (hz : (ns.flatMap out).length ≤ 1000)
    (hb : ∀ D, ∀ n ∈ ns, BC K D (b D) ((wipe σ vs).set k (some (.int n))) (out n)) : Nw K (TP.R.tLcN (iTup K tl) (gName k) vs b) σ H (ns.flatMap out) := fun H1 e1 Q q =>
  h H1 e1 _ fun v H2 e2 dv => by
    obtain ⟨p, ev, hq⟩ := dp_tupI dv
    refine ⟨p, ev, ⟨_, hq⟩, fun D hD => ⟨fun i m H' => m = ns.length - i ∧ i ≤ ns.length ∧ Ex H2 H' ∧ LAt K D ((ns.take i).flatMap out) H', ⟨_, rfl, Nat.zero_le _, Ex.new hD, [], upd_same, ?_⟩, ?_⟩⟩
    · rw [List.take_zero]
      exact .nil
    rintro i m H' ⟨hm, hi, p1, p2⟩
    have hq' := ex_t p1 hq
    by_cases hlt : i < ns.length
    · have g : (ns.map V.int)[i]? = some (.int ns[i]) := by rw [List.getElem?_map, List.getElem?_eq_getElem hlt]; rfl
      refine .inr ⟨⟨_, _, hq', g⟩, fun H3 => Ex H2 H3 ∧ LAt K D ((ns.take (i + 1)).flatMap out) H3, fun H3 z => ⟨ns.length - (i + 1), by omega, rfl, hlt, z⟩, fun x H3 y => ?_⟩
      obtain ⟨y1, y2⟩ := y
      rw [y1]
      have ex : x = V.int ns[i] := Option.some.inj ((y2 _ hq').symm.trans g)
      rw [ex]
      have l1 := fm_len1 (out := out) ns i ns[i] (List.getElem?_eq_getElem hlt)
      refine ⟨hw _, hb D ns[i] (List.getElem_mem hlt) H' _ p2 (flats_fm ho _) (by omega) _ fun H4 e4 h4 => ⟨fun a o z => e4 a o (ne_of_none z hD) (p1 a o z), ?_⟩⟩
      rw [List.take_add_one, List.getElem?_eq_getElem hlt, List.flatMap_append]
      show LAt K D ((ns.take i).flatMap out ++ [ns[i]].flatMap out) H4
      rw [List.flatMap_singleton]
      exact h4
    · have e : i = ns.length := by omega
      rw [e, List.take_length] at p2
      obtain ⟨us, z1, z2⟩ := p2
      exact .inl ⟨⟨_, hq', by rw [List.length_map]; omega⟩, q D us H' (fresh_back e2 hD) (e2.trans p1) z1 z2⟩
end
end TP.L
set_option maxHeartbeats 4000000
/-! The defs of the text: what each is called with and what it hands back, as data. -/
namespace TP.W
open PySem PySem.Spec PyProof.Rows L2 Evl RZ TP.L

def top (i : Nat) : Stmt := PySem.Challenge.pw_turnprimes_k25_whole_orders.main.body.getD i (.Pass ⟨0, 0, 0, 0⟩)
abbrev FnP (K : PySem.W.Frag) (x : Str) (st : Stmt) (f : Addr) (fd : FuncData) : Prop := FunD K x x (defArgs st) (defBody st) (defScope st) [] [] f fd
/-- a def of the text stands behind the top -/
structure Dn (K : PySem.W.Frag) (mg : Str → Option Value) (x : Str) (st : Stmt) : Prop where
  ex : ∃ f fd, FnP K x st f fd ∧ mg x = some (.ref f)
/-- .. and keeps a promise -/
structure Has (P : Program) (w : World) (K : PySem.W.Frag) (mg : Str → Option Value) (base : Heap) (x : Str) (k : Nat) (ps : List Str) (sp : Sp) : Prop where
  ex : ∃ f fd, FnOk P w K mg base CX0 k f fd ps sp ∧ mg x = some (.ref f) ∧ PySem.W.keepIn K (.ref f) = true ∧ Binds K fd ps []
section
variable {P : Program} {w : World} {K : PySem.W.Frag} {mg : Str → Option Value} {base : Heap} {x : Str} {st : Stmt} {N ps : List Str} {k : Nat} {sp : Sp}
theorem Dn.has (D : Dn K mg x st) (S : FnScope N ps (defScope st)) (hb : ∀ (kV doc pm : Value) (an : Option Addr) (cdv ct : Value) (us : List Value), us.length = ps.length → bindArgs (PySem.W.fnOf x x (defArgs st) (defBody st) (defScope st) .none kV doc pm an cdv ct) ⟨us, []⟩ = pure (ps.zip us))
    (len : ∀ vs H Q E, sp vs H Q E → vs.length = ps.length)
    (body : ∀ (f : Addr) (cdv : Value) (A : Around) (outer : List Env) (s : Shared) (H : Hp) (vs : List V) (Q : VK) (E : XK), Room k (A.deeper (envOfC x (defScope st) s.heap.objs.size f cdv)) → sp vs H Q E →
      ∃ t, PSs (cxOf CX0 P w K mg base N x (defScope st) f cdv A outer s H E).nox (defBody st) t ∧ t { nx := fun _ H' => Q .non H', rt := Q } (start N vs) H) : Has P w K mg base x (k + 1) ps sp := by
  obtain ⟨f, fd, F, g⟩ := D.ex
  refine ⟨f, fd, F.ok S len fun cdv A outer s H vs Q E hr h => ?_, g, F.kp, F.bindsN hb⟩
  obtain ⟨t, p, r⟩ := body f cdv A outer s H vs Q E hr h
  exact ⟨t, p.nox, r⟩
end
section
variable {X : Cx} {x : Str} {k : Nat} {ps : List Str} {sp : Sp} {p pos : Pos} {e : Expr} {es : List Expr} {t : TA}
theorem pe_has (h : Has X.prog X.w X.K X.mg X.base x k ps sp) (hr : Room k X.A) (hg : Gl X x) (ha : PA X (e :: es) t) (hdb : (x == ("__debug__" : Str)) = false := by decide) (he : starEach (e :: es) X.env = (false, eval e X.env) :: starEach es X.env := by rfl) (hpl : (backTo pos (starEach es X.env)).any (·.1) = false := by rfl) :
    PE X (.Call (.Name x p) (e :: es) [] pos) (tCall sp [] E0 t) := by
  obtain ⟨f, fd, G, g, kp, b⟩ := h.ex
  exact pe_call G hr hg g kp b .nil pass0 ha hdb he hpl
theorem pe_has0 (h : Has X.prog X.w X.K X.mg X.base x k ps sp) (hr : Room k X.A) (hg : Gl X x) (hdb : (x == ("__debug__" : Str)) = false := by decide) : PE X (.Call (.Name x p) [] [] pos) (tCall sp [] E0 tNil) := by
  obtain ⟨f, fd, G, g, kp, b⟩ := h.ex
  exact pe_call0 G hr hg g kp b .nil pass0 hdb
end
/-- what the module's other names stand for -/
structure Txt (K : PySem.W.Frag) (mg : Str → Option Value) : Prop where
  len : mg "len" = none
  tuple : mg "tuple" = none
  sum : mg "sum" = none
  sorted : mg "sorted" = none
  max : mg "max" = none
  any : mg "any" = none
  all : mg "all" = none
  abs : mg "abs" = none
  int : mg "int" = none
  range : mg "range" = none
  zip : mg "zip" = none
  gcd : mg "gcd" = some (.builtin "math.gcd")
  factorial : mg "factorial" = some (.builtin "math.factorial")
  gPARTS : ∃ t, mg "PARTS" = some (.int 4 t)
  gMOST : ∃ t, mg "MOST_VALUE" = some (.int 1000000000000 t)
  gZN : ∃ a, mg "ZERO_numbers" = some (.ref a) ∧ ∀ H, SqT K H a ([0, 0, 0, 0].map V.int)
  gZD : ∃ a, mg "ZERO_dividing" = some (.ref a) ∧ ∀ H, SqT K H a ([0, 0, 0, 0].map V.int)
  gONE : ∃ a, mg "ONE" = some (.ref a) ∧ ∀ H, SqT K H a ([2, 0, 0, 0].map V.int)
theorem b_len : bootBuiltins "len" = some (.builtin "len") := PySem.boot_len
theorem b_sum : bootBuiltins "sum" = some (.builtin "sum") := by decide +kernel
theorem b_sorted : bootBuiltins "sorted" = some (.builtin "sorted") := by decide +kernel
theorem b_max : bootBuiltins "max" = some (.builtin "max") := by decide +kernel
theorem b_any : bootBuiltins "any" = some (.builtin "any") := by decide +kernel
theorem b_all : bootBuiltins "all" = some (.builtin "all") := by decide +kernel
theorem b_abs : bootBuiltins "abs" = some (.builtin "abs") := by decide +kernel
theorem b_int : bootBuiltins "int" = some (.type "int") := by decide +kernel
theorem b_tuple : bootBuiltins "tuple" = some (.type "tuple") := by decide +kernel
/-- a written object, by a fact that tells its address: the reading speaks of some value with the data -/
def tK (K : PySem.W.Frag) (d : PyData) : TE := fun σ H Q => ∀ v, (∀ H', Dp K H' v d) → Q v H
theorem is_K {K : PySem.W.Frag} {σ : L2.St} {H : Hp} {d : PyData} : Is K (tK K d) σ H d := fun H1 e Q q v hv => q v H1 (Ex.refl _) (hv H1)
section
variable {X : Cx} {pos : Pos}
theorem dp_written {K : PySem.W.Frag} {a : Addr} {ns : List Int} (h : ∀ H, SqT K H a (ns.map V.int)) (H : Hp) : Dp K H (.ref a) (tupI ns) := .tup (h H) (dps_of_ints ns)
theorem vTup {x : Str} {ns : List Int} (h : ∃ a, X.mg x = some (.ref a) ∧ ∀ H, SqT X.K H a (ns.map V.int)) (hg : Gl X x) (hd : (x == ("__debug__" : Str)) = false := by decide) : PE X (.Name x pos) (tK X.K (tupI ns)) := by
  obtain ⟨a, g, s⟩ := h
  exact ⟨fun pins s0 σ H Q I hq => (pe_glob (v := .ref a) hg g rfl hd).run pins s0 σ H Q I (hq (.ref a) (dp_written s))⟩
theorem vInt {x : Str} {i : Int} (h : ∃ t, X.mg x = some (.int i t)) (hg : Gl X x) (hd : (x == ("__debug__" : Str)) = false := by decide) : PE X (.Name x pos) (tC (.int i)) := by
  obtain ⟨t, g⟩ := h
  exact pe_glob hg g ⟨t, rfl⟩ hd
end
end TP.W
set_option maxHeartbeats 0
namespace TP.W
open PySem PySem.Spec PyProof.Rows L2 Evl RZ TP.L
/-! ### the head: the run -/
def d_is_number : He.DefD := ⟨("is_number", none), "is_number", "is_number", defArgs (top 9), defBody (top 9), defScope (top 9), [], []⟩
def d_check_number : He.DefD := ⟨("check_number", none), "check_number", "check_number", defArgs (top 10), defBody (top 10), defScope (top 10), [], []⟩
def d_check_not_zero : He.DefD := ⟨("check_not_zero", none), "check_not_zero", "check_not_zero", defArgs (top 11), defBody (top 11), defScope (top 11), [], []⟩
def d_conjugate : He.DefD := ⟨("conjugate", none), "conjugate", "conjugate", defArgs (top 12), defBody (top 12), defScope (top 12), [], []⟩
def d_norm : He.DefD := ⟨("norm", none), "norm", "norm", defArgs (top 13), defBody (top 13), defScope (top 13), [], []⟩
def d_less : He.DefD := ⟨("less", none), "less", "less", defArgs (top 14), defBody (top 14), defScope (top 14), [], []⟩
def d_product : He.DefD := ⟨("product", none), "product", "product", defArgs (top 15), defBody (top 15), defScope (top 15), [], []⟩
def d_units : He.DefD := ⟨("units", none), "units", "units", defArgs (top 16), defBody (top 16), defScope (top 16), [], []⟩
def d_associates : He.DefD := ⟨("associates", none), "associates", "associates", defArgs (top 17), defBody (top 17), defScope (top 17), [], []⟩
def d_canonical : He.DefD := ⟨("canonical", none), "canonical", "canonical", defArgs (top 18), defBody (top 18), defScope (top 18), [], []⟩
def d_content : He.DefD := ⟨("content", none), "content", "content", defArgs (top 19), defBody (top 19), defScope (top 19), [], []⟩
def d_is_primitive : He.DefD := ⟨("is_primitive", none), "is_primitive", "is_primitive", defArgs (top 20), defBody (top 20), defScope (top 20), [], []⟩
def d_distance_of : He.DefD := ⟨("distance_of", none), "distance_of", "distance_of", defArgs (top 23), defBody (top 23), defScope (top 23), [], []⟩
def d_nearest : He.DefD := ⟨("nearest", none), "nearest", "nearest", defArgs (top 24), defBody (top 24), defScope (top 24), [], []⟩
def d_check_pair : He.DefD := ⟨("check_pair", none), "check_pair", "check_pair", defArgs (top 25), defBody (top 25), defScope (top 25), [], []⟩
def d_divided_left : He.DefD := ⟨("divided_left", none), "divided_left", "divided_left", defArgs (top 26), defBody (top 26), defScope (top 26), [], []⟩
def d_left_quotient : He.DefD := ⟨("left_quotient", none), "left_quotient", "left_quotient", defArgs (top 27), defBody (top 27), defScope (top 27), [], []⟩
def d_steps_of : He.DefD := ⟨("steps_of", none), "steps_of", "steps_of", defArgs (top 29), defBody (top 29), defScope (top 29), [], []⟩
def d_check_some : He.DefD := ⟨("check_some", none), "check_some", "check_some", defArgs (top 30), defBody (top 30), defScope (top 30), [], []⟩
def d_left_common : He.DefD := ⟨("left_common", none), "left_common", "left_common", defArgs (top 31), defBody (top 31), defScope (top 31), [], []⟩
def d_whole_primes : He.DefD := ⟨("whole_primes", none), "whole_primes", "whole_primes", defArgs (top 34), defBody (top 34), defScope (top 34), [], []⟩
def d_prime_list : He.DefD := ⟨("prime_list", none), "prime_list", "prime_list", defArgs (top 35), defBody (top 35), defScope (top 35), [], []⟩
def d_check_order : He.DefD := ⟨("check_order", none), "check_order", "check_order", defArgs (top 36), defBody (top 36), defScope (top 36), [], []⟩
def d_left_prime : He.DefD := ⟨("left_prime", none), "left_prime", "left_prime", defArgs (top 37), defBody (top 37), defScope (top 37), [], []⟩
def d_row_of : He.DefD := ⟨("row_of", none), "row_of", "row_of", defArgs (top 38), defBody (top 38), defScope (top 38), [], []⟩
def d_order_count : He.DefD := ⟨("order_count", none), "order_count", "order_count", defArgs (top 40), defBody (top 40), defScope (top 40), [], []⟩
def d_law_row : He.DefD := ⟨("_law_row", none), "_law_row", "_law_row", defArgs (top 42), defBody (top 42), defScope (top 42), [], []⟩
def d_law_numbers : He.DefD := ⟨("_law_numbers", none), "_law_numbers", "_law_numbers", defArgs (top 43), defBody (top 43), defScope (top 43), [], []⟩
def d_law_pick : He.DefD := ⟨("_law_pick", none), "_law_pick", "_law_pick", defArgs (top 44), defBody (top 44), defScope (top 44), [], []⟩
def d_law_product : He.DefD := ⟨("_law_product", none), "_law_product", "_law_product", defArgs (top 45), defBody (top 45), defScope (top 45), [], []⟩
def d_law_conjugate : He.DefD := ⟨("_law_conjugate", none), "_law_conjugate", "_law_conjugate", defArgs (top 46), defBody (top 46), defScope (top 46), [], []⟩
def d_law_norm : He.DefD := ⟨("_law_norm", none), "_law_norm", "_law_norm", defArgs (top 47), defBody (top 47), defScope (top 47), [], []⟩
def d_law_units : He.DefD := ⟨("_law_units", none), "_law_units", "_law_units", defArgs (top 48), defBody (top 48), defScope (top 48), [], []⟩
def d_law_canonical : He.DefD := ⟨("_law_canonical", none), "_law_canonical", "_law_canonical", defArgs (top 49), defBody (top 49), defScope (top 49), [], []⟩
def d_law_primes : He.DefD := ⟨("_law_primes", none), "_law_primes", "_law_primes", defArgs (top 50), defBody (top 50), defScope (top 50), [], []⟩
def d_law_divides : He.DefD := ⟨("_law_divides", none), "_law_divides", "_law_divides", defArgs (top 51), defBody (top 51), defScope (top 51), [], []⟩
def d_law_is_primitive : He.DefD := ⟨("_law_is_primitive", none), "_law_is_primitive", "_law_is_primitive", defArgs (top 52), defBody (top 52), defScope (top 52), [], []⟩
def d_law_drawn_factors : He.DefD := ⟨("_law_drawn_factors", none), "_law_drawn_factors", "_law_drawn_factors", defArgs (top 53), defBody (top 53), defScope (top 53), [], []⟩
def d_law_all_product : He.DefD := ⟨("_law_all_product", none), "_law_all_product", "_law_all_product", defArgs (top 54), defBody (top 54), defScope (top 54), [], []⟩
def d_law_order : He.DefD := ⟨("_law_order", none), "_law_order", "_law_order", defArgs (top 55), defBody (top 55), defScope (top 55), [], []⟩
def d_law : He.DefD := ⟨("law", none), "law", "law", defArgs (top 56), defBody (top 56), defScope (top 56), [], []⟩
def fn0 : List He.DefD := [d_is_number, d_check_number, d_check_not_zero, d_conjugate, d_norm, d_less, d_product, d_units, d_associates, d_canonical, d_content, d_is_primitive, d_distance_of, d_nearest, d_check_pair, d_divided_left, d_left_quotient, d_steps_of, d_check_some, d_left_common]
def fn1 : List He.DefD := [d_whole_primes, d_prime_list, d_check_order, d_left_prime, d_row_of, d_order_count, d_law_row, d_law_numbers, d_law_pick, d_law_product, d_law_conjugate, d_law_norm, d_law_units, d_law_canonical, d_law_primes, d_law_divides, d_law_is_primitive, d_law_drawn_factors, d_law_all_product, d_law_order]
def fn2 : List He.DefD := [d_law]
def fn : List He.DefD := fn0 ++ fn1 ++ fn2
def fa0 : List He.Fa := [.glo "is_number", .glo "check_number", .glo "check_not_zero", .glo "conjugate", .glo "norm", .glo "less", .glo "product", .glo "units", .glo "associates", .glo "canonical", .glo "content", .glo "is_primitive", .glo "distance_of", .glo "nearest", .glo "check_pair", .glo "divided_left", .glo "left_quotient", .glo "steps_of", .glo "check_some", .glo "left_common"]
def fa1 : List He.Fa := [.glo "whole_primes", .glo "prime_list", .glo "check_order", .glo "left_prime", .glo "row_of", .glo "order_count", .glo "_law_row", .glo "_law_numbers", .glo "_law_pick", .glo "_law_product", .glo "_law_conjugate", .glo "_law_norm", .glo "_law_units", .glo "_law_canonical", .glo "_law_primes", .glo "_law_divides", .glo "_law_is_primitive", .glo "_law_drawn_factors", .glo "_law_all_product", .glo "_law_order"]
def fa2 : List He.Fa := [.glo "law", .glo "ZERO_numbers", .glo "ONE", .glo "ZERO_dividing", .int "PARTS" 4, .int "MOST_VALUE" 1000000000000, .free "len", .free "tuple", .free "sum", .free "sorted", .free "max", .free "any", .free "all", .free "abs", .free "int", .free "range", .free "zip"]
def fa : List He.Fa := fa0 ++ fa1 ++ fa2
def loose0 : List Str := ["TurnprimesError", "InvalidNumber", "InvalidQuestion", "ZERO_numbers", "ONE", "PARTS", "ZERO_dividing", "MOST_VALUE", "is_number", "check_number", "check_not_zero", "conjugate", "norm", "less", "product", "units", "associates", "canonical", "content", "is_primitive"]
def loose1 : List Str := ["distance_of", "nearest", "check_pair", "divided_left", "left_quotient", "steps_of", "check_some", "left_common", "whole_primes", "prime_list", "check_order", "left_prime", "row_of", "order_count", "_law_row", "_law_numbers", "_law_pick", "_law_product", "_law_conjugate", "_law_norm"]
def loose2 : List Str := ["_law_units", "_law_canonical", "_law_primes", "_law_divides", "_law_is_primitive", "_law_drawn_factors", "_law_all_product", "_law_order"]
def loose : List Str := loose0 ++ loose1 ++ loose2
def ex (K : PySem.W.Frag) : Bool := He.tupB K "ZERO_numbers" [.int 0, .int 0, .int 0, .int 0] && (He.tupB K "ZERO_dividing" [.int 0, .int 0, .int 0, .int 0] && (He.tupB K "ONE" [.int 2, .int 0, .int 0, .int 0] && (He.eqO (PySem.W.nsIn K mainGlobals "gcd") (some (some (.builtin "math.gcd"))) && He.eqO (PySem.W.nsIn K mainGlobals "factorial") (some (some (.builtin "math.factorial"))))))
abbrev R : PySem.W.OpenRow := PySem.W.OpenLaw.row PySem.Challenge.rw_turnprimes_k25_whole_orders
abbrev hk : PySem.W.Hook := He.hookX 2 fa fn [] [] ex
def ob (s : PySem.W.SharedT) : He.AlX := He.obsX 2 fa fn [] [] ex (HandSHeadRun.getT s)
theorem ob_eq (s : PySem.W.SharedT) : ob s = hk.obs s.abs := He.obsX_eq (HandSHeadRun.getT_eq s)
theorem run (w : World) : HandSHeadRun.RunEqI R (PySem.W.view R.prog [0, 56]) hk ob 6000 loose w := by
  unfold HandSHeadRun.RunEqI
  kernel_rfl
end TP.W
set_option maxHeartbeats 4000000
namespace TP.W
open PySem PySem.Spec PyProof.Rows L2 Evl RZ TP.L

abbrev tq (x : Hz) : PyData := tupI x.dl
/-! ### the dict of the parts' remainders -/
def dk (ns : List Int) : List (Key × V) := ns.foldl (fun acc n => putK acc (Sum.inl (n % 2)) (V.bl true)) []
theorem dk_app (ns : List Int) (n : Int) : dk (ns ++ [n]) = putK (dk ns) (Sum.inl (n % 2)) (V.bl true) := by unfold dk; rw [List.foldl_append]; rfl
theorem dk_len : ∀ ns : List Int, (dk ns).length ≤ ns.length := fun ns => by
  have gen : ∀ (l : List Int) (acc : List (Key × V)), (l.foldl (fun acc n => putK acc (Sum.inl (n % 2)) (V.bl true)) acc).length ≤ acc.length + l.length := fun l => by
    induction l with
    | nil => intro acc; exact Nat.le_refl _
    | cons n l ih =>
      intro acc
      have h1 := ih (putK acc (Sum.inl (n % 2)) (V.bl true))
      have h2 := length_putK acc (Sum.inl (n % 2)) (V.bl true)
      rw [List.foldl_cons, List.length_cons]
      omega
  have := gen ns []
  unfold dk
  simpa using this
def par (a b c e : Int) : Bool := decide (b % 2 = a % 2) && decide (c % 2 = a % 2) && decide (e % 2 = a % 2)
theorem dk_two : ∀ p ∈ ([0, 1] : List Int), ∀ q ∈ ([0, 1] : List Int), ∀ r ∈ ([0, 1] : List Int), ∀ s ∈ ([0, 1] : List Int),
    decide (((putK (putK (putK (putK ([] : List (Key × V)) (Sum.inl p) (V.bl true)) (Sum.inl q) (V.bl true)) (Sum.inl r) (V.bl true)) (Sum.inl s) (V.bl true)).length : Int) = 1) = (decide (q = p) && decide (r = p) && decide (s = p)) := by decide
theorem dk_par (a b c e : Int) : decide (((dk [a, b, c, e]).length : Int) = 1) = par a b c e := by
  have two : ∀ x : Int, x % 2 ∈ ([0, 1] : List Int) := fun x => by
    have : x % 2 = 0 ∨ x % 2 = 1 := by omega
    rcases this with h | h <;> rw [h] <;> decide
  exact dk_two _ (two a) _ (two b) _ (two c) _ (two e)
section
variable {K : PySem.W.Frag} {σ : L2.St} {H : Hp} {tl tk tv : TE} {vs : List Nat} {ns : List Int}
theorem len_dc {k : Nat} {wi : TI} (hz : ns.length ≤ 1000) (hw : ∀ x, wipe ((wipe σ vs).set k (some x)) vs = wipe σ vs)
    (src : ∀ H1, Ex H H1 → ∀ R : It → Hp → Prop, (∀ J H2 (G : Hp → Prop), Ex H1 H2 → Walk J ns.length G (YAt (ns.map V.int)) → (∀ H3, Ex H2 H3 → G H3) → R J H2) → wi σ H1 R)
    (hk : ∀ (i : Int) H1, Ex H H1 → Is K tk ((wipe σ vs).set k (some (.int i))) H1 (.int (i % 2))) (hv : ∀ (i : Int) H1, Ex H H1 → Is K tv ((wipe σ vs).set k (some (.int i))) H1 (.bool true)) :
    ∀ H1, Ex H H1 → ∀ Q : VK, (∀ H2, Ex H1 H2 → Q (.int ((dk ns).length : Int)) H2) → tCB (fun xs H Q => ∃ a kvs, xs = [V.ref a] ∧ H a = some (.dK kvs) ∧ Q (.int kvs.length) H) (tCons (tDc wi (gName k) tYes tk tv vs) tNil) σ H1 Q := fun H1 e1 Q q => by
  refine src H1 e1 _ fun J H2 G e2 w hG D hD => ?_
  refine ⟨fun i m H' => m = ns.length - i ∧ i ≤ ns.length ∧ Ex H2 H' ∧ H' D = some (.dK (dk (ns.take i))), ⟨_, rfl, Nat.zero_le _, Ex.new hD, upd_same⟩, ?_⟩
  rintro i m H' ⟨hm, hi, p1, p2⟩
  by_cases hlt : i < ns.length
  · refine .inr ⟨w.goes i H' hlt (hG H' p1), fun H3 => Ex H2 H3 ∧ H3 D = some (.dK (dk (ns.take (i + 1)))), fun H3 z => ⟨ns.length - (i + 1), by omega, rfl, hlt, z⟩, fun x H3 y => ?_⟩
    obtain ⟨y1, y2⟩ := w.yields i H' x H3 hlt (hG H' p1) y
    rw [y1]
    rw [List.getElem?_map, List.getElem?_eq_getElem hlt] at y2
    have ex : x = V.int ns[i] := (Option.some.inj y2).symm
    rw [ex]
    refine ⟨hw _, iteT (B := Ex H2 H' ∧ H' D = some (.dK (dk (ns.take (i + 1))))) (hk ns[i] H' (e1.trans (e2.trans p1)) H' (Ex.refl _) _ fun v H4 e4 dv => hv ns[i] H4 (e1.trans (e2.trans (p1.trans e4))) H4 (Ex.refl _) _ fun u H5 e5 du => ?_)⟩
    rw [dp_int dv, dp_bl du]
    have hl := dk_len (ns.take i)
    rw [List.length_take] at hl
    refine ⟨dk (ns.take i), Sum.inl (ns[i] % 2), rfl, e5 D _ (e4 D _ p2), sz_lt (by omega), Ex.mut (p1.trans (e4.trans e5)) hD, ?_⟩
    rw [upd_same, List.take_add_one, List.getElem?_eq_getElem hlt]
    show some (HO.dK (putK _ _ _)) = some (HO.dK (dk (ns.take i ++ [ns[i]])))
    rw [dk_app]
  · have e : i = ns.length := by omega
    rw [e] at p2 ⊢
    rw [List.take_length] at p2
    exact .inl ⟨w.stops H' (hG H' p1), D, _, rfl, p2, q H' (e2.trans p1)⟩
end
section
variable {P : Program} {w : World} {K : PySem.W.Frag} {mg : Str → Option Value} {base : Heap}
/-- one parameter -/
theorem len1 {pre : List PyData → PyData → Prop} (h : ∀ ds r, pre ds r → ds.length = 1) {vs H Q E} (z : spV K pre vs H Q E) : vs.length = 1 := by
  obtain ⟨ds, r, hd, hp, _⟩ := z
  rw [dps_len hd, h ds r hp]
theorem lenN {pre : List PyData → PyData → Prop} (n : Nat) (h : ∀ ds r, pre ds r → ds.length = n) {vs H Q E} (z : spV K pre vs H Q E) : vs.length = n := by
  obtain ⟨ds, r, hd, hp, _⟩ := z
  rw [dps_len hd, h ds r hp]
theorem lenL {pre : List PyData → List PyData → Prop} (n : Nat) (h : ∀ ds r, pre ds r → ds.length = n) {vs H Q E} (z : spL K pre vs H Q E) : vs.length = n := by
  obtain ⟨ds, r, hd, hp, _⟩ := z
  rw [dps_len hd, h ds r hp]
abbrev s_is_number : Stmt := top 9
abbrev N_is_number : List Str := ["number", "part"]
theorem sc_is_number : FnScope N_is_number ["number"] (defScope s_is_number) := ⟨rfl, rfl, rfl, by decide +kernel, rfl, by decide +kernel, by decide +kernel⟩
def pNumT : List PyData → PyData → Prop := fun ds r => ∃ a b c e : Int, ds = [tupI [a, b, c, e]] ∧ r = .bool (par a b c e)
theorem ok_is_number_T (D : Dn K mg "is_number" s_is_number) (T : Txt K mg) : Has P w K mg base "is_number" 1 ["number"] (spV K pNumT) := by
  refine D.has sc_is_number (fun _ _ _ _ _ _ us hl => match us, hl with | [_], _ => rfl) (fun vs H Q E => lenN 1 fun ds r ⟨_, _, _, _, e, _⟩ => by rw [e]; rfl) fun f cdv A outer s H vs Q E hr h => ?_
  obtain ⟨ds, r, hd, ⟨a, b, c, e, rfl, rfl⟩, q⟩ := h
  obtain ⟨v, rfl, dv⟩ := one_ hd
  refine ⟨_, (pss_one (ps_ret (pe_and (pe_cmpR op_eq (pe_callB call_len_seq (by rfl) T.len b_len (pa_cons (pv 0) pa_nil)) (vInt T.gPARTS (by rfl)) (nomark _)) (pe_one (pe_cmpR op_eq (pe_callB call_lenD (by rfl) T.len b_len (pa_cons (pe_dc (own := [("part", 1)]) (tt := tYes) (g := (gName 1)) rfl sc_is_number.nd (pi_tup (pv 0)) (blkOk_by (own := [("part", 1)]) (N := N_is_number) (sc := defScope s_is_number) (by decide +kernel)) (fun _ _ _ _ _ => (pg_name (i := 1) sc_is_number.nd rfl (Or.inl rfl))) (fun _ _ _ _ _ => pts_nil) (fun _ _ _ _ _ => (pe_op op_mod (pv 1) pe_int)) (fun _ _ _ _ _ => pe_bl)) pa_nil)) pe_int (nomark _)))))), ?_⟩
  refine s_isRet (is_and (b := par a b c e) (is_eqI (is_lenT (is_var rfl dv)) is_int) fun _ => ?_) fun v H1 e1 dv => q v H1 e1 dv
  rw [← dk_par]
  refine is_eqI (i := ((dk [a, b, c, e]).length : Int)) (fun H1 e1 Q q => len_dc (K := K) (ns := [a, b, c, e]) (by show 4 ≤ 1000; decide) (fun _ => rfl) (fun H2 e2 R hR => ?_) (fun i H2 e2 => is_mod (is_var rfl (.int i)) is_int (by decide)) (fun i H2 e2 => is_bl) H1 e1 Q fun H2 e2 => q _ H2 e2 (.int _)) is_int
  obtain ⟨p, e3, hs⟩ := dp_tupI (dp_ex e2 dv)
  exact ⟨v, rfl, p, e3, ⟨_, hs⟩, hR _ H2 (fun H3 => SqT K H3 p ([a, b, c, e].map V.int)) (Ex.refl _) (walk_tup (K := K) (a := p) (xs := [a, b, c, e].map V.int)) fun H3 e4 => ex_t e4 hs⟩
end
end TP.W
set_option maxHeartbeats 4000000
namespace TP.W
open PySem PySem.Spec PyProof.Rows L2 Evl RZ TP.L

/-! ### comprehensions of ints -/
section
variable {K : PySem.W.Frag} {σ : L2.St} {H : Hp} {tl te : TE} {tr : TA} {vs : List Nat} {ns ms : List Int}
theorem inz_get {ns : List Int} {i : Nat} {d : PyData} (h : (inz ns)[i]? = some d) : ∃ n, ns[i]? = some n ∧ d = .int n := by
  rw [List.getElem?_map] at h
  cases e : ns[i]? with
  | none => rw [e] at h; cases h
  | some n => rw [e] at h; exact ⟨n, rfl, (Option.some.inj h).symm⟩
theorem nw_lcTI {k : Nat} (g : Int → Int) (h : Is K tl σ H (tupI ns)) (hz : ns.length ≤ 1000) (hw : ∀ x, wipe ((wipe σ vs).set k (some x)) vs = wipe σ vs)
    (he : ∀ n ∈ ns, ∀ H1, Ex H H1 → Is K te ((wipe σ vs).set k (some (.int n))) H1 (.int (g n))) : Nw K (tLc (iTup K tl) (gName k) tYes te vs) σ H (inz (ns.map g)) := by
  refine nw_lcT h (by rw [List.length_map]; omega) hw (by simp) (flats_ints _) fun i x d r H1 e1 h1 h2 dx => ?_
  obtain ⟨n, a, b⟩ := inz_get h1
  obtain ⟨m, c, e⟩ := inz_get h2
  rw [List.getElem?_map, a] at c
  rw [b] at dx
  rw [dp_int dx, e, ← Option.some.inj c]
  exact he n (List.mem_of_getElem? a) H1 e1
theorem nw_lcLI {k : Nat} (g : Int → Int) (h : Is K tl σ H (.list (inz ns))) (hz : ns.length ≤ 1000) (hw : ∀ x, wipe ((wipe σ vs).set k (some x)) vs = wipe σ vs)
    (he : ∀ n ∈ ns, ∀ H1, Ex H H1 → Is K te ((wipe σ vs).set k (some (.int n))) H1 (.int (g n))) : Nw K (tLc (iList K tl) (gName k) tYes te vs) σ H (inz (ns.map g)) := by
  refine nw_lcL h (by rw [List.length_map]; omega) hw (by simp) (flats_ints _) fun i x d r H1 e1 h1 h2 dx => ?_
  obtain ⟨n, a, b⟩ := inz_get h1
  obtain ⟨m, c, e⟩ := inz_get h2
  rw [List.getElem?_map, a] at c
  rw [b] at dx
  rw [dp_int dx, e, ← Option.some.inj c]
  exact he n (List.mem_of_getElem? a) H1 e1
theorem nw_lcTB {k : Nat} (g : Int → Bool) (h : Is K tl σ H (tupI ns)) (hz : ns.length ≤ 1000) (hw : ∀ x, wipe ((wipe σ vs).set k (some x)) vs = wipe σ vs)
    (he : ∀ n ∈ ns, ∀ H1, Ex H H1 → Is K te ((wipe σ vs).set k (some (.int n))) H1 (.bool (g n))) : Nw K (tLc (iTup K tl) (gName k) tYes te vs) σ H (bls (ns.map g)) := by
  refine nw_lcT h (by rw [List.length_map]; omega) hw (by simp) (flats_all fun d m => by obtain ⟨b, _, e⟩ := List.mem_map.mp m; rw [← e]; rfl) fun i x d r H1 e1 h1 h2 dx => ?_
  obtain ⟨n, a, b⟩ := inz_get h1
  rw [List.getElem?_map, List.getElem?_map, a] at h2
  rw [b] at dx
  rw [dp_int dx, ← Option.some.inj h2]
  exact he n (List.mem_of_getElem? a) H1 e1
theorem nw_lcLB {k : Nat} (g : Int → Bool) (h : Is K tl σ H (.list (inz ns))) (hz : ns.length ≤ 1000) (hw : ∀ x, wipe ((wipe σ vs).set k (some x)) vs = wipe σ vs)
    (he : ∀ n ∈ ns, ∀ H1, Ex H H1 → Is K te ((wipe σ vs).set k (some (.int n))) H1 (.bool (g n))) : Nw K (tLc (iList K tl) (gName k) tYes te vs) σ H (bls (ns.map g)) := by
  refine nw_lcL h (by rw [List.length_map]; omega) hw (by simp) (flats_all fun d m => by obtain ⟨b, _, e⟩ := List.mem_map.mp m; rw [← e]; rfl) fun i x d r H1 e1 h1 h2 dx => ?_
  obtain ⟨n, a, b⟩ := inz_get h1
  rw [List.getElem?_map, List.getElem?_map, a] at h2
  rw [b] at dx
  rw [dp_int dx, ← Option.some.inj h2]
  exact he n (List.mem_of_getElem? a) H1 e1
theorem nw_lcZI {k m : Nat} (g : Int → Int → Int) (h : IsA K tr σ H [tupI ns, tupI ms]) (hl : ms.length = ns.length) (hz : ns.length ≤ 1000) (hw : ∀ x y, wipe (((wipe σ vs).set k (some x)).set m (some y)) vs = wipe σ vs)
    (he : ∀ a ∈ ns, ∀ b ∈ ms, ∀ H1, Ex H H1 → Is K te (((wipe σ vs).set k (some (.int a))).set m (some (.int b))) H1 (.int (g a b))) :
    Nw K (tLc (iZipA K tr) (gTup K 2 (gCons (gName k) (gCons (gName m) gNil))) tYes te vs) σ H (inz (List.zipWith g ns ms)) := by
  refine nw_lcZ h (by rw [List.length_map, List.length_map, hl]) (by rw [List.length_map]; omega) hw (by simp [hl]) (flats_ints _) fun i x y d1 d2 r H1 e1 h1 h2 h3 dx dy => ?_
  obtain ⟨a, a1, a2⟩ := inz_get h1
  obtain ⟨b, b1, b2⟩ := inz_get h2
  obtain ⟨c, c1, c2⟩ := inz_get h3
  rw [List.getElem?_zipWith, a1, b1] at c1
  rw [a2] at dx
  rw [b2] at dy
  rw [dp_int dx, dp_int dy, c2, ← Option.some.inj c1]
  exact he a (List.mem_of_getElem? a1) b (List.mem_of_getElem? b1) H1 e1
end
/-! ### sizes -/
def Bd (n : Nat) (x : Hz) : Prop := ∀ a ∈ x.dl, a.natAbs < 2 ^ n
theorem Bd.mono {m n : Nat} {x : Hz} (h : Bd m x) (l : m ≤ n) : Bd n x := fun a ha => Nat.lt_of_lt_of_le (h a ha) (Nat.pow_le_pow_right (by decide) l)
theorem wide4 {i j : Int} (hi : i.natAbs < 2 ^ 4000) (hj : j.natAbs < 2 ^ 4000) : CMulW i j := wide_mul hi hj (by decide) (by decide) (by decide)
theorem div_small {i j : Int} (h : 0 < j) (hb : j < 1000000) : CDivW i j := wide_div (b := 60) h (by omega) (by decide) (by decide)
theorem par_dl (x : Hz) : par x.p (x.p + 2 * x.q) (x.p + 2 * x.r) (x.p + 2 * x.s) = true := by
  unfold par
  rw [decide_eq_true (by omega), decide_eq_true (by omega), decide_eq_true (by omega)]
  rfl
theorem prod_half (x y : Hz) : (([x.p * y.p - (x.p + 2 * x.q) * (y.p + 2 * y.q) - (x.p + 2 * x.r) * (y.p + 2 * y.r) - (x.p + 2 * x.s) * (y.p + 2 * y.s),
    x.p * (y.p + 2 * y.q) + (x.p + 2 * x.q) * y.p + (x.p + 2 * x.r) * (y.p + 2 * y.s) - (x.p + 2 * x.s) * (y.p + 2 * y.r),
    x.p * (y.p + 2 * y.r) - (x.p + 2 * x.q) * (y.p + 2 * y.s) + (x.p + 2 * x.r) * y.p + (x.p + 2 * x.s) * (y.p + 2 * y.q),
    x.p * (y.p + 2 * y.s) + (x.p + 2 * x.q) * (y.p + 2 * y.r) - (x.p + 2 * x.r) * (y.p + 2 * y.q) + (x.p + 2 * x.s) * y.p] : List Int).map fun n => n / 2) = (Hz.mul x y).dl := by
  have half : ∀ {a b : Int}, a = 2 * b → a / 2 = b := fun h => by omega
  simp only [List.map_cons, List.map_nil, Hz.dl, Hz.mul, List.cons.injEq, and_true]
  refine ⟨half ?_, half ?_, half ?_, half ?_⟩ <;> grind
theorem sum_sq (x : Hz) : (x.dl.map fun n => n * n).sum / 4 = x.nm := by
  have h := Hz.four_nm x
  have e : (x.dl.map fun n => n * n).sum = 4 * x.nm := by
    rw [h]
    simp only [Hz.dl, List.map_cons, List.map_nil, List.sum_cons, List.sum_nil]
    omega
  rw [e]
  omega
theorem zip_sub (x y : Hz) : List.zipWith (fun a b => a - b) x.dl y.dl = (Hz.sub x y).dl := by
  simp only [Hz.dl, Hz.sub, List.zipWith_cons_cons, List.zipWith_nil_left, List.cons.injEq, and_true]
  refine ⟨trivial, ?_, ?_, ?_⟩ <;> omega
theorem eqv_int (a b : Int) : PyData.eqv (.int a) (.int b) = decide (a = b) := by
  rw [show PyData.eqv (.int a) (.int b) = (a == b) from rfl, Bool.beq_eq_decide_eq]
theorem eqv_tupI : ∀ ns ms : List Int, PyData.eqv (tupI ns) (tupI ms) = decide (ns = ms) := fun ns ms => by
  have all : ∀ ns ms : List Int, PyData.eqvAll (inz ns) (inz ms) = decide (ns = ms) := fun ns => by
    induction ns with
    | nil => intro ms; cases ms <;> rfl
    | cons n ns ih =>
      intro ms
      cases ms with
      | nil => rfl
      | cons m ms =>
        show (PyData.eqv (.int n) (.int m) && PyData.eqvAll (inz ns) (inz ms)) = _
        rw [eqv_int, ih]
        by_cases h1 : n = m <;> by_cases h2 : ns = ms <;> simp [h1, h2]
  exact all ns ms
theorem shaped_tupI : ∀ x : Hz, SeqAt.shaped (tq x) = true := fun x => rfl
theorem dl_zero {x : Hz} (h : x.dl = [0, 0, 0, 0]) : x = Hz.zero := Hz.dl_inj h
section
variable {P : Program} {w : World} {K : PySem.W.Frag} {mg : Str → Option Value} {base : Heap}
def pNumL : List PyData → PyData → Prop := fun ds r => ∃ a b c e : Int, ds = [.list (inz [a, b, c, e])] ∧ r = .bool (par a b c e)
theorem ok_is_number_L (D : Dn K mg "is_number" s_is_number) (T : Txt K mg) : Has P w K mg base "is_number" 1 ["number"] (spV K pNumL) := by
  refine D.has sc_is_number (fun _ _ _ _ _ _ us hl => match us, hl with | [_], _ => rfl) (fun vs H Q E => lenN 1 fun ds r ⟨_, _, _, _, e, _⟩ => by rw [e]; rfl) fun f cdv A outer s H vs Q E hr h => ?_
  obtain ⟨ds, r, hd, ⟨a, b, c, e, rfl, rfl⟩, q⟩ := h
  obtain ⟨v, rfl, dv⟩ := one_ hd
  refine ⟨_, (pss_one (ps_ret (pe_and (pe_cmpR op_eq (pe_callB call_len_seq (by rfl) T.len b_len (pa_cons (pv 0) pa_nil)) (vInt T.gPARTS (by rfl)) (nomark _)) (pe_one (pe_cmpR op_eq (pe_callB call_lenD (by rfl) T.len b_len (pa_cons (pe_dc (own := [("part", 1)]) (tt := tYes) (g := (gName 1)) rfl sc_is_number.nd (pi_list (pv 0)) (blkOk_by (own := [("part", 1)]) (N := N_is_number) (sc := defScope s_is_number) (by decide +kernel)) (fun _ _ _ _ _ => (pg_name (i := 1) sc_is_number.nd rfl (Or.inl rfl))) (fun _ _ _ _ _ => pts_nil) (fun _ _ _ _ _ => (pe_op op_mod (pv 1) pe_int)) (fun _ _ _ _ _ => pe_bl)) pa_nil)) pe_int (nomark _)))))), ?_⟩
  refine s_isRet (is_and (b := par a b c e) (is_eqI (is_lenL (is_var rfl dv)) is_int) fun _ => ?_) fun v H1 e1 dv => q v H1 e1 dv
  rw [← dk_par]
  refine is_eqI (i := ((dk [a, b, c, e]).length : Int)) (fun H1 e1 Q q => len_dc (K := K) (ns := [a, b, c, e]) (by show 4 ≤ 1000; decide) (fun _ => rfl) (fun H2 e2 R hR => ?_) (fun i H2 e2 => is_mod (is_var rfl (.int i)) is_int (by decide)) (fun i H2 e2 => is_bl) H1 e1 Q fun H2 e2 => q _ H2 e2 (.int _)) is_int
  obtain ⟨p, us, e3, hs, hus⟩ := dp_lst (dp_ex e2 dv)
  rw [dps_ints hus] at hs
  exact ⟨v, rfl, p, e3, ⟨_, hs⟩, hR _ H2 (fun H3 => SqL K H3 p ([a, b, c, e].map V.int)) (Ex.refl _) (walk_list (K := K) (a := p) (xs := [a, b, c, e].map V.int)) fun H3 e4 => ex_l e4 hs⟩
abbrev s_check_number : Stmt := top 10
abbrev N_check_number : List Str := ["number"]
theorem sc_check_number : FnScope N_check_number ["number"] (defScope s_check_number) := ⟨rfl, rfl, rfl, by decide +kernel, rfl, by decide +kernel, by decide +kernel⟩
def pChk : List PyData → PyData → Prop := fun ds r => ∃ x : Hz, ds = [tq x] ∧ r = .none
theorem ok_check_number (D : Dn K mg "check_number" s_check_number) (T : Txt K mg) (h_is_number : Has P w K mg base "is_number" 1 ["number"] (spV K pNumT)) : Has P w K mg base "check_number" 2 ["number"] (spV K pChk) := by
  refine D.has sc_check_number (fun _ _ _ _ _ _ us hl => match us, hl with | [_], _ => rfl) (fun vs H Q E => lenN 1 fun ds r ⟨_, e, _⟩ => by rw [e]; rfl) fun f cdv A outer s H vs Q E hr h => ?_
  obtain ⟨ds, r, hd, ⟨x, rfl, rfl⟩, q⟩ := h
  obtain ⟨v, rfl, dv⟩ := one_ hd
  refine ⟨_, (pss_one (ps_if (pt_not (pt_val (pe_has h_is_number (hr.mono (by decide)) (by rfl) (pa_cons (pv 0) pa_nil)))) (pss_one ps_never) pss_nil)), ?_⟩
  refine s_when (et_not (et_isB (is_call (ia0 (is_var rfl dv)) ⟨_, _, _, _, rfl, rfl⟩))) (fun z => ?_) fun _ H1 e1 => q .non H1 e1 .non
  rw [par_dl] at z
  cases z
abbrev s_check_not_zero : Stmt := top 11
abbrev N_check_not_zero : List Str := ["number"]
theorem sc_check_not_zero : FnScope N_check_not_zero ["number"] (defScope s_check_not_zero) := ⟨rfl, rfl, rfl, by decide +kernel, rfl, by decide +kernel, by decide +kernel⟩
def pChz : List PyData → PyData → Prop := fun ds r => ∃ x : Hz, ds = [tq x] ∧ x ≠ Hz.zero ∧ r = .none
theorem ok_check_not_zero (D : Dn K mg "check_not_zero" s_check_not_zero) (T : Txt K mg) (h_check_number : Has P w K mg base "check_number" 2 ["number"] (spV K pChk)) : Has P w K mg base "check_not_zero" 3 ["number"] (spV K pChz) := by
  refine D.has sc_check_not_zero (fun _ _ _ _ _ _ us hl => match us, hl with | [_], _ => rfl) (fun vs H Q E => lenN 1 fun ds r ⟨_, e, _⟩ => by rw [e]; rfl) fun f cdv A outer s H vs Q E hr h => ?_
  obtain ⟨ds, r, hd, ⟨x, rfl, hx, rfl⟩, q⟩ := h
  obtain ⟨v, rfl, dv⟩ := one_ hd
  refine ⟨_, (pss_cons (ps_expr (pe_has h_check_number (hr.mono (by decide)) (by rfl) (pa_cons (pv 0) pa_nil)))
      (pss_one (ps_if (pt_cmpR (op_eqD hr.units) (pe_callTy call_tuple_of (by rfl) T.tuple b_tuple (pa_cons (pv 0) pa_nil)) (vTup T.gZN (by rfl)) (nomark _)) (pss_one ps_never) pss_nil))), ?_⟩
  refine q_dropD (is_call (ia0 (is_var rfl dv)) ⟨x, rfl, rfl⟩) fun H1 e1 => ?_
  refine s_when (et_is (is_eqD (is_tupleT (is_var rfl (dp_ex e1 dv))) is_K (shaped_tupI x) rfl)) (fun z => ?_) fun _ H2 e2 => q .non H2 (e1.trans e2) .non
  rw [eqv_tupI] at z
  exact absurd (dl_zero (of_decide_eq_true z)) hx
abbrev s_conjugate : Stmt := top 12
abbrev N_conjugate : List Str := ["number", "a", "b", "c", "d"]
theorem sc_conjugate : FnScope N_conjugate ["number"] (defScope s_conjugate) := ⟨rfl, rfl, rfl, by decide +kernel, rfl, by decide +kernel, by decide +kernel⟩
def pConj : List PyData → PyData → Prop := fun ds r => ∃ x : Hz, ds = [tq x] ∧ r = tq x.conj
theorem ok_conjugate (D : Dn K mg "conjugate" s_conjugate) (T : Txt K mg) (h_check_number : Has P w K mg base "check_number" 2 ["number"] (spV K pChk)) : Has P w K mg base "conjugate" 3 ["number"] (spV K pConj) := by
  refine D.has sc_conjugate (fun _ _ _ _ _ _ us hl => match us, hl with | [_], _ => rfl) (fun vs H Q E => lenN 1 fun ds r ⟨_, e, _⟩ => by rw [e]; rfl) fun f cdv A outer s H vs Q E hr h => ?_
  obtain ⟨ds, r, hd, ⟨x, rfl, rfl⟩, q⟩ := h
  obtain ⟨v, rfl, dv⟩ := one_ hd
  refine ⟨_, (pss_cons (ps_expr (pe_has h_check_number (hr.mono (by decide)) (by rfl) (pa_cons (pv 0) pa_nil)))
      (pss_cons (ps_asg (pv 0) (pg_tup rfl (pgs_cons (pg_name (i := 1) sc_conjugate.nd rfl (Or.inl rfl)) (pgs_cons (pg_name (i := 2) sc_conjugate.nd rfl (Or.inl rfl)) (pgs_cons (pg_name (i := 3) sc_conjugate.nd rfl (Or.inl rfl)) (pgs_cons (pg_name (i := 4) sc_conjugate.nd rfl (Or.inl rfl)) pgs_nil))))))
      (pss_one (ps_ret (pe_tup (pa_cons (pv 1) (pa_cons (pe_un un_neg (pv 2)) (pa_cons (pe_un un_neg (pv 3)) (pa_cons (pe_un un_neg (pv 4)) pa_nil))))))))), ?_⟩
  refine q_dropD (is_call (ia0 (is_var rfl dv)) ⟨x, rfl, rfl⟩) fun H1 e1 => ?_
  refine q_un4 (is_var rfl (dp_ex e1 dv)) fun a b c d H2 e2 da db dc dd => ?_
  have e : (.tuple [.int x.p, .int (-(x.p + 2 * x.q)), .int (-(x.p + 2 * x.r)), .int (-(x.p + 2 * x.s))] : PyData) = tq x.conj := by
    show tupI [x.p, -(x.p + 2 * x.q), -(x.p + 2 * x.r), -(x.p + 2 * x.s)] = tupI x.conj.dl
    congr 1
    simp only [Hz.dl, Hz.conj, List.map_cons, List.map_nil, List.cons.injEq, and_true, PyData.int.injEq]
    refine ⟨trivial, ?_, ?_, ?_⟩ <;> omega
  rw [← e] at q
  exact s_isRet (is_tup (ia_cons (is_var rfl da) (ia_cons (is_neg (is_var rfl db)) (ia_cons (is_neg (is_var rfl dc)) (ia_cons (is_neg (is_var rfl dd)) ia_nil)))) (by show 4 ≤ 100000; decide)) fun v H3 e3 dv => q v H3 (e1.trans (e2.trans e3)) dv
abbrev s_norm : Stmt := top 13
abbrev N_norm : List Str := ["number", "part"]
theorem sc_norm : FnScope N_norm ["number"] (defScope s_norm) := ⟨rfl, rfl, rfl, by decide +kernel, rfl, by decide +kernel, by decide +kernel⟩
def pNorm : List PyData → PyData → Prop := fun ds r => ∃ x : Hz, ds = [tq x] ∧ Bd 4000 x ∧ r = .int x.nm
theorem ok_norm (D : Dn K mg "norm" s_norm) (T : Txt K mg) (h_check_number : Has P w K mg base "check_number" 2 ["number"] (spV K pChk)) : Has P w K mg base "norm" 3 ["number"] (spV K pNorm) := by
  refine D.has sc_norm (fun _ _ _ _ _ _ us hl => match us, hl with | [_], _ => rfl) (fun vs H Q E => lenN 1 fun ds r ⟨_, e, _⟩ => by rw [e]; rfl) fun f cdv A outer s H vs Q E hr h => ?_
  obtain ⟨ds, r, hd, ⟨x, rfl, hb, rfl⟩, q⟩ := h
  obtain ⟨v, rfl, dv⟩ := one_ hd
  refine ⟨_, (pss_cons (ps_expr (pe_has h_check_number (hr.mono (by decide)) (by rfl) (pa_cons (pv 0) pa_nil)))
      (pss_one (ps_ret (pe_op op_fdivW (pe_callB (cr_sum rfl) (by rfl) T.sum b_sum (pa_cons (pe_lc (own := [("part", 1)]) (tt := tYes) (g := (gName 1)) rfl sc_norm.nd (pi_tup (pv 0)) (blkOk_by (own := [("part", 1)]) (N := N_norm) (sc := defScope s_norm) (by decide +kernel)) (fun _ _ _ _ _ => (pg_name (i := 1) sc_norm.nd rfl (Or.inl rfl))) (fun _ _ _ _ _ => pts_nil) (fun _ _ _ _ _ => (pe_op op_mulW (pv 1) (pv 1)))) pa_nil)) pe_int)))), ?_⟩
  refine q_dropD (is_call (ia0 (is_var rfl dv)) ⟨x, rfl, rfl⟩) fun H1 e1 => ?_
  rw [← sum_sq] at q
  refine s_isRet (is_div (is_sum (nw_lcTI (fun n => n * n) (is_var rfl (dp_ex e1 dv)) (by show 4 ≤ 1000; decide) (fun _ => rfl) fun n hn H2 e2 => ?_).is) is_int (div_small (by decide) (by decide))) fun v H3 e3 dv => q v H3 (e1.trans e3) dv
  exact is_mulW (is_var rfl (.int n)) (is_var rfl (.int n)) (wide4 (hb n hn) (hb n hn))
abbrev s_less : Stmt := top 14
abbrev N_less : List Str := ["one", "other", "part", "far"]
theorem sc_less : FnScope N_less ["one", "other"] (defScope s_less) := ⟨rfl, rfl, rfl, by decide +kernel, rfl, by decide +kernel, by decide +kernel⟩
def pLess : List PyData → PyData → Prop := fun ds r => ∃ x y : Hz, ds = [tq x, tq y] ∧ r = tq (Hz.sub x y)
theorem ok_less (D : Dn K mg "less" s_less) (T : Txt K mg) (h_check_number : Has P w K mg base "check_number" 2 ["number"] (spV K pChk)) : Has P w K mg base "less" 3 ["one", "other"] (spV K pLess) := by
  refine D.has sc_less (fun _ _ _ _ _ _ us hl => match us, hl with | [_, _], _ => rfl) (fun vs H Q E => lenN 2 fun ds r ⟨_, _, e, _⟩ => by rw [e]; rfl) fun f cdv A outer s H vs Q E hr h => ?_
  obtain ⟨ds, r, hd, ⟨x, y, rfl, rfl⟩, q⟩ := h
  obtain ⟨v, u, rfl, dv, du⟩ := two_ hd
  refine ⟨_, (pss_cons (ps_expr (pe_has h_check_number (hr.mono (by decide)) (by rfl) (pa_cons (pv 0) pa_nil)))
      (pss_cons (ps_expr (pe_has h_check_number (hr.mono (by decide)) (by rfl) (pa_cons (pv 1) pa_nil)))
      (pss_one (ps_ret (pe_callTy call_tuple_of (by rfl) T.tuple b_tuple (pa_cons (pe_lc (own := [("part", 2), ("far", 3)]) (tt := tYes) (g := (gTup K 2 (gCons (gName 2) (gCons (gName 3) gNil)))) rfl sc_less.nd (RZ.pi_zipA (by rfl) T.zip (pa_cons (pv 0) (pa_cons (pv 1) pa_nil))) (blkOk_by (own := [("part", 2), ("far", 3)]) (N := N_less) (sc := defScope s_less) (by decide +kernel)) (fun _ _ _ _ _ => (pg_tup rfl (pgs_cons (pg_name (i := 2) sc_less.nd rfl (Or.inl rfl)) (pgs_cons (pg_name (i := 3) sc_less.nd rfl (Or.inl rfl)) pgs_nil)))) (fun _ _ _ _ _ => pts_nil) (fun _ _ _ _ _ => (pe_op op_sub (pv 2) (pv 3)))) pa_nil)))))), ?_⟩
  refine q_dropD (is_call (ia0 (is_var rfl dv)) ⟨x, rfl, rfl⟩) fun H1 e1 => ?_
  refine q_dropD (is_call (ia0 (is_var rfl (dp_ex e1 du))) ⟨y, rfl, rfl⟩) fun H2 e2 => ?_
  have e12 := e1.trans e2
  rw [show tq (Hz.sub x y) = tupI (List.zipWith (fun a b => a - b) x.dl y.dl) by rw [zip_sub]] at q
  refine s_isRet (is_tupleL (nw_lcZI (fun a b => a - b) (ia2 (is_var rfl (dp_ex e12 dv)) (is_var rfl (dp_ex e12 du))) rfl (by show 4 ≤ 1000; decide) (fun _ _ => rfl) fun a ha b hb H3 e3 => ?_).is) fun v H3 e3 dv => q v H3 (e12.trans e3) dv
  exact is_sub (is_var rfl (.int a)) (is_var rfl (.int b))
abbrev s_product : Stmt := top 15
abbrev N_product : List Str := ["one", "other", "a", "b", "c", "d", "e", "f", "g", "h", "parts", "part"]
theorem sc_product : FnScope N_product ["one", "other"] (defScope s_product) := ⟨rfl, rfl, rfl, by decide +kernel, rfl, by decide +kernel, by decide +kernel⟩
def pProd : List PyData → PyData → Prop := fun ds r => ∃ x y : Hz, ds = [tq x, tq y] ∧ Bd 4000 x ∧ Bd 4000 y ∧ r = tq (Hz.mul x y)
theorem ok_product (D : Dn K mg "product" s_product) (T : Txt K mg) (h_check_number : Has P w K mg base "check_number" 2 ["number"] (spV K pChk)) : Has P w K mg base "product" 3 ["one", "other"] (spV K pProd) := by
  refine D.has sc_product (fun _ _ _ _ _ _ us hl => match us, hl with | [_, _], _ => rfl) (fun vs H Q E => lenN 2 fun ds r ⟨_, _, e, _⟩ => by rw [e]; rfl) fun f cdv A outer s H vs Q E hr h => ?_
  obtain ⟨ds, r, hd, ⟨x, y, rfl, hx, hy, rfl⟩, q⟩ := h
  obtain ⟨v, u, rfl, dv, du⟩ := two_ hd
  refine ⟨_, (pss_cons (ps_expr (pe_has h_check_number (hr.mono (by decide)) (by rfl) (pa_cons (pv 0) pa_nil)))
      (pss_cons (ps_expr (pe_has h_check_number (hr.mono (by decide)) (by rfl) (pa_cons (pv 1) pa_nil)))
      (pss_cons (ps_asg (pv 0) (pg_tup rfl (pgs_cons (pg_name (i := 2) sc_product.nd rfl (Or.inl rfl)) (pgs_cons (pg_name (i := 3) sc_product.nd rfl (Or.inl rfl)) (pgs_cons (pg_name (i := 4) sc_product.nd rfl (Or.inl rfl)) (pgs_cons (pg_name (i := 5) sc_product.nd rfl (Or.inl rfl)) pgs_nil))))))
      (pss_cons (ps_asg (pv 1) (pg_tup rfl (pgs_cons (pg_name (i := 6) sc_product.nd rfl (Or.inl rfl)) (pgs_cons (pg_name (i := 7) sc_product.nd rfl (Or.inl rfl)) (pgs_cons (pg_name (i := 8) sc_product.nd rfl (Or.inl rfl)) (pgs_cons (pg_name (i := 9) sc_product.nd rfl (Or.inl rfl)) pgs_nil))))))
      (pss_cons (ps_set (i := 10) sc_product.nd rfl (Or.inl rfl) (pe_tup (pa_cons (pe_op op_sub (pe_op op_sub (pe_op op_sub (pe_op op_mulW (pv 2) (pv 6)) (pe_op op_mulW (pv 3) (pv 7))) (pe_op op_mulW (pv 4) (pv 8))) (pe_op op_mulW (pv 5) (pv 9))) (pa_cons (pe_op op_sub (pe_op op_add (pe_op op_add (pe_op op_mulW (pv 2) (pv 7)) (pe_op op_mulW (pv 3) (pv 6))) (pe_op op_mulW (pv 4) (pv 9))) (pe_op op_mulW (pv 5) (pv 8))) (pa_cons (pe_op op_add (pe_op op_add (pe_op op_sub (pe_op op_mulW (pv 2) (pv 8)) (pe_op op_mulW (pv 3) (pv 9))) (pe_op op_mulW (pv 4) (pv 6))) (pe_op op_mulW (pv 5) (pv 7))) (pa_cons (pe_op op_add (pe_op op_sub (pe_op op_add (pe_op op_mulW (pv 2) (pv 9)) (pe_op op_mulW (pv 3) (pv 8))) (pe_op op_mulW (pv 4) (pv 7))) (pe_op op_mulW (pv 5) (pv 6))) pa_nil))))))
      (pss_one (ps_ret (pe_callTy call_tuple_of (by rfl) T.tuple b_tuple (pa_cons (pe_lc (own := [("part", 11)]) (tt := tYes) (g := (gName 11)) rfl sc_product.nd (pi_tup (pv 10)) (blkOk_by (own := [("part", 11)]) (N := N_product) (sc := defScope s_product) (by decide +kernel)) (fun _ _ _ _ _ => (pg_name (i := 11) sc_product.nd rfl (Or.inl rfl))) (fun _ _ _ _ _ => pts_nil) (fun _ _ _ _ _ => (pe_op op_fdivW (pv 11) pe_int))) pa_nil))))))))), ?_⟩
  refine q_dropD (is_call (ia0 (is_var rfl dv)) ⟨x, rfl, rfl⟩) fun H1 e1 => ?_
  refine q_dropD (is_call (ia0 (is_var rfl (dp_ex e1 du))) ⟨y, rfl, rfl⟩) fun H2 e2 => ?_
  have e12 := e1.trans e2
  refine q_un4 (is_var rfl (dp_ex e12 dv)) fun a b c d H3 e3 da db dc dd => ?_
  refine q_un4 (is_var rfl (dp_ex (e12.trans e3) du)) fun a' b' c' d' H4 e4 da' db' dc' dd' => ?_
  cases dp_int da; cases dp_int db; cases dp_int dc; cases dp_int dd
  cases dp_int da'; cases dp_int db'; cases dp_int dc'; cases dp_int dd'
  have mm : ∀ {i i' : Int}, i ∈ x.dl → i' ∈ y.dl → CMulW i i' := fun h1 h2 => wide4 (hx _ h1) (hy _ h2)
  have a0 : x.p ∈ x.dl := by simp [Hz.dl]
  have a1 : x.p + 2 * x.q ∈ x.dl := by simp [Hz.dl]
  have a2 : x.p + 2 * x.r ∈ x.dl := by simp [Hz.dl]
  have a3 : x.p + 2 * x.s ∈ x.dl := by simp [Hz.dl]
  have b0 : y.p ∈ y.dl := by simp [Hz.dl]
  have b1 : y.p + 2 * y.q ∈ y.dl := by simp [Hz.dl]
  have b2 : y.p + 2 * y.r ∈ y.dl := by simp [Hz.dl]
  have b3 : y.p + 2 * y.s ∈ y.dl := by simp [Hz.dl]
  refine q_is (K := K) (is_tup (ia_cons (is_sub (is_sub (is_sub (is_mulW (is_var rfl (.int _)) (is_var rfl (.int _)) (mm a0 b0)) (is_mulW (is_var rfl (.int _)) (is_var rfl (.int _)) (mm a1 b1))) (is_mulW (is_var rfl (.int _)) (is_var rfl (.int _)) (mm a2 b2))) (is_mulW (is_var rfl (.int _)) (is_var rfl (.int _)) (mm a3 b3)))
    (ia_cons (is_sub (is_add (is_add (is_mulW (is_var rfl (.int _)) (is_var rfl (.int _)) (mm a0 b1)) (is_mulW (is_var rfl (.int _)) (is_var rfl (.int _)) (mm a1 b0))) (is_mulW (is_var rfl (.int _)) (is_var rfl (.int _)) (mm a2 b3))) (is_mulW (is_var rfl (.int _)) (is_var rfl (.int _)) (mm a3 b2)))
    (ia_cons (is_add (is_add (is_sub (is_mulW (is_var rfl (.int _)) (is_var rfl (.int _)) (mm a0 b2)) (is_mulW (is_var rfl (.int _)) (is_var rfl (.int _)) (mm a1 b3))) (is_mulW (is_var rfl (.int _)) (is_var rfl (.int _)) (mm a2 b0))) (is_mulW (is_var rfl (.int _)) (is_var rfl (.int _)) (mm a3 b1)))
    (ia_cons (is_add (is_sub (is_add (is_mulW (is_var rfl (.int _)) (is_var rfl (.int _)) (mm a0 b3)) (is_mulW (is_var rfl (.int _)) (is_var rfl (.int _)) (mm a1 b2))) (is_mulW (is_var rfl (.int _)) (is_var rfl (.int _)) (mm a2 b1))) (is_mulW (is_var rfl (.int _)) (is_var rfl (.int _)) (mm a3 b0)))
    ia_nil)))) (by show 4 ≤ 100000; decide)) fun z H5 e5 dz => ?_
  rw [show tq (Hz.mul x y) = tupI _ from (congrArg tupI (prod_half x y)).symm] at q
  refine s_isRet (is_tupleL (nw_lcTI (fun n => n / 2) (is_var rfl dz) (by show 4 ≤ 1000; decide) (fun _ => rfl) fun n hn H6 e6 => ?_).is) fun v H6 e6 dv => q v H6 (e12.trans (e3.trans (e4.trans (e5.trans e6)))) dv
  exact is_div (is_var rfl (.int n)) is_int (div_small (by decide) (by decide))
end
end TP.W
set_option maxHeartbeats 4000000
namespace TP.W
open PySem PySem.Spec PyProof.Rows L2 Evl RZ TP.L

/-! ### plain facts: the units' list, the sorted associates, the content -/
theorem lex_eq : ∀ l m : List Int, Hz.lexL l m = HT.lexLt l m
  | [], [] => rfl
  | [], _ :: _ => rfl
  | _ :: _, [] => rfl
  | x :: l, y :: m => by
    show (if x = y then Hz.lexL l m else decide (x < y)) = if x = y then HT.lexLt l m else decide (x < y)
    rw [lex_eq l m]
def pm : List Int := [-1, 1]
def found0 : List (List Int) := pm.flatMap fun a => pm.flatMap fun b => pm.flatMap fun c => pm.flatMap fun d => [[a, b, c, d]]
def eU (i : Nat) (p : Int) : List Int := (List.range 4).map fun j => if j = i then p else 0
def foundN (n : Nat) : List (List Int) := (List.range n).flatMap fun i => [-2, 2].map (eU i)
theorem found_perm : (found0 ++ foundN 4).Perm (Hz.units.map Hz.dl) := by decide +kernel
theorem units_sorted : (Hz.units.map Hz.dl).Pairwise fun x y => HT.lexLt y x = false := by decide +kernel
theorem found_len : ∀ ns ∈ found0 ++ foundN 4, ns.length = 4 := by decide +kernel
/-- the associates in their order -/
def orb (x : Hz) : List (List Int) := (Hz.units.map fun u => (Hz.mul x u).dl).mergeSort fun a b => !HT.lexLt b a
theorem orb_perm (x : Hz) : (orb x).Perm (Hz.units.map fun u => (Hz.mul x u).dl) := List.mergeSort_perm _ _
theorem orb_sorted (x : Hz) : (orb x).Pairwise fun a b => HT.lexLt b a = false := by
  have O := NtL.swo_lexL fun l : List Int => l
  have h := List.pairwise_mergeSort (le := fun a b : List Int => !HT.lexLt b a) (fun a b c h1 h2 => by
    have z1 : HT.lexLt b a = false := by simpa using h1
    have z2 : HT.lexLt c b = false := by simpa using h2
    have z := NtL.lex_tr a b c z1 z2
    show (!HT.lexLt c a) = true
    rw [z]
    rfl) (fun a b => by
    show (!HT.lexLt b a || !HT.lexLt a b) = true
    cases e : HT.lexLt b a with
    | false => rfl
    | true =>
      rw [NtL.lex_asym _ _ e]
      rfl) (Hz.units.map fun u => (Hz.mul x u).dl)
  exact h.imp fun z => by simpa using z
theorem orb_last (x : Hz) : (orb x).getLast? = some (Hz.canon x).dl := by
  have p := orb_perm x
  have s := orb_sorted x
  have hl : (orb x).length = 24 := by rw [p.length_eq, List.length_map]; rfl
  obtain ⟨l, z, e⟩ : ∃ l z, orb x = l ++ [z] := by
    have ne : orb x ≠ [] := fun q => by rw [q] at hl; cases hl
    exact ⟨_, _, (List.dropLast_concat_getLast ne).symm⟩
  rw [e] at s p
  rw [e, List.getLast?_concat]
  obtain ⟨u, hu, eu⟩ := List.mem_map.mp (p.mem_iff.mp (List.mem_append_right l (List.mem_singleton.mpr rfl)))
  have top : ∀ v, Hz.nm v = 1 → Hz.lt (Hz.mul x u) (Hz.mul x v) = false := fun v hv => by
    unfold Hz.lt
    rw [lex_eq, eu]
    rcases List.mem_append.mp (p.mem_iff.mpr (List.mem_map.mpr ⟨v, Hz.mem_units hv, rfl⟩)) with m | m
    · exact (List.pairwise_append.mp s).2.2 _ m z (List.mem_singleton.mpr rfl)
    · rw [List.mem_singleton.mp m]
      exact (NtL.swo_lexL fun l : List Int => l).refl _
  rw [← eu, Hz.canon_uniq (Hz.units_nm u hu) rfl top]
/-- the greatest integer that divides -/
def gcd4 (x : Hz) : Int := ((Nat.gcd ((Nat.gcd x.p.natAbs (x.p + 2 * x.q).natAbs : Nat) : Int).natAbs ((Nat.gcd (x.p + 2 * x.r).natAbs (x.p + 2 * x.s).natAbs : Nat) : Int).natAbs : Nat) : Int)
def cont (x : Hz) : Int := if par (x.p / gcd4 x) ((x.p + 2 * x.q) / gcd4 x) ((x.p + 2 * x.r) / gcd4 x) ((x.p + 2 * x.s) / gcd4 x) = true then gcd4 x else gcd4 x / 2
theorem gcd4_dvd (x : Hz) : gcd4 x ∣ x.p ∧ gcd4 x ∣ x.p + 2 * x.q ∧ gcd4 x ∣ x.p + 2 * x.r ∧ gcd4 x ∣ x.p + 2 * x.s := by
  have go : ∀ {n : Nat} {a : Int}, n ∣ a.natAbs → (n : Int) ∣ a := fun h => Int.natAbs_dvd_natAbs.mp (by simpa using h)
  refine ⟨go ?_, go ?_, go ?_, go ?_⟩
  · exact Nat.dvd_trans (Nat.gcd_dvd_left _ _) (by rw [Int.natAbs_natCast]; exact Nat.gcd_dvd_left _ _)
  · exact Nat.dvd_trans (Nat.gcd_dvd_left _ _) (by rw [Int.natAbs_natCast]; exact Nat.gcd_dvd_right _ _)
  · exact Nat.dvd_trans (Nat.gcd_dvd_right _ _) (by rw [Int.natAbs_natCast]; exact Nat.gcd_dvd_left _ _)
  · exact Nat.dvd_trans (Nat.gcd_dvd_right _ _) (by rw [Int.natAbs_natCast]; exact Nat.gcd_dvd_right _ _)
theorem gcd4_pos {x : Hz} (h : x ≠ Hz.zero) : 0 < gcd4 x := by
  have h0 : 0 ≤ gcd4 x := Int.natCast_nonneg _
  rcases Int.lt_or_eq_of_le h0 with l | l
  · exact l
  · exfalso
    obtain ⟨d1, d2, d3, d4⟩ := gcd4_dvd x
    rw [← l] at d1 d2 d3 d4
    have e1 := Int.zero_dvd.mp d1
    have e2 := Int.zero_dvd.mp d2
    have e3 := Int.zero_dvd.mp d3
    have e4 := Int.zero_dvd.mp d4
    exact h (Hz.ext4 e1 (by show x.q = 0; omega) (by show x.r = 0; omega) (by show x.s = 0; omega))
theorem gcd4_le {x : Hz} (h : x ≠ Hz.zero) {n : Nat} (hb : Bd n x) : gcd4 x < 2 ^ n := by
  -- one of the parts is not zero
  obtain ⟨d1, d2, d3, d4⟩ := gcd4_dvd x
  have key : ∀ a ∈ x.dl, a ≠ 0 → gcd4 x ∣ a → gcd4 x < 2 ^ n := fun a m ne d => by
    have h1 := Int.le_natAbs (a := gcd4 x)
    have h2 := Nat.le_of_dvd (by omega) (Int.natAbs_dvd_natAbs.mpr d)
    have h3 := hb a m
    have h4 : ((gcd4 x).natAbs : Int) < ((2 ^ n : Nat) : Int) := by exact_mod_cast Nat.lt_of_le_of_lt h2 h3
    rw [Int.natCast_pow] at h4
    exact Int.lt_of_le_of_lt h1 h4
  by_cases e1 : x.p = 0
  · by_cases e2 : x.p + 2 * x.q = 0
    · by_cases e3 : x.p + 2 * x.r = 0
      · by_cases e4 : x.p + 2 * x.s = 0
        · exact absurd (Hz.ext4 e1 (by show x.q = 0; omega) (by show x.r = 0; omega) (by show x.s = 0; omega)) h
        · exact key _ (by simp [Hz.dl]) e4 d4
      · exact key _ (by simp [Hz.dl]) e3 d3
    · exact key _ (by simp [Hz.dl]) e2 d2
  · exact key _ (by simp [Hz.dl]) e1 d1
/-- the content divides -/
theorem cont_dvd {x : Hz} (h : x ≠ Hz.zero) : 1 ≤ cont x ∧ ∃ y, x = Hz.smul (cont x) y := by
  have gp := gcd4_pos h
  obtain ⟨⟨a, ha⟩, ⟨b, hb⟩, ⟨c, hc⟩, ⟨e, he⟩⟩ := gcd4_dvd x
  have q1 : x.p / gcd4 x = a := by rw [ha]; exact Int.mul_ediv_cancel_left _ (by omega)
  have q2 : (x.p + 2 * x.q) / gcd4 x = b := by rw [hb]; exact Int.mul_ediv_cancel_left _ (by omega)
  have q3 : (x.p + 2 * x.r) / gcd4 x = c := by rw [hc]; exact Int.mul_ediv_cancel_left _ (by omega)
  have q4 : (x.p + 2 * x.s) / gcd4 x = e := by rw [he]; exact Int.mul_ediv_cancel_left _ (by omega)
  unfold cont
  rw [q1, q2, q3, q4]
  generalize gcd4 x = g at *
  by_cases pr : par a b c e = true
  · rw [if_pos pr]
    refine ⟨by omega, Hz.ofD a b c e, ?_⟩
    unfold par at pr
    simp only [Bool.and_eq_true, decide_eq_true_eq] at pr
    obtain ⟨⟨p1, p2⟩, p3⟩ := pr
    have f1 : 2 * ((b - a) / 2) = b - a := by omega
    have f2 : 2 * ((c - a) / 2) = c - a := by omega
    have f3 : 2 * ((e - a) / 2) = e - a := by omega
    apply Hz.ext4 <;> simp only [Hz.smul, Hz.ofD]
    · exact ha
    · generalize (b - a) / 2 = m at f1 ⊢
      have : 2 * x.q = 2 * (g * m) := by grind
      omega
    · generalize (c - a) / 2 = m at f2 ⊢
      have : 2 * x.r = 2 * (g * m) := by grind
      omega
    · generalize (e - a) / 2 = m at f3 ⊢
      have : 2 * x.s = 2 * (g * m) := by grind
      omega
  · rw [if_neg pr]
    -- g is even
    have ev : g % 2 = 0 := by
      rcases (by omega : g % 2 = 0 ∨ g % 2 = 1) with z | z
      · exact z
      · exfalso
        apply pr
        obtain ⟨k, hk⟩ : ∃ k, g = 2 * k + 1 := ⟨g / 2, by omega⟩
        have fx : ∀ m : Int, (g * m) % 2 = m % 2 := fun m => by
          have : g * m = 2 * (k * m) + m := by rw [hk]; grind
          omega
        have g1 := fx a
        have g2 := fx b
        have g3 := fx c
        have g4 := fx e
        rw [← ha] at g1
        rw [← hb] at g2
        rw [← hc] at g3
        rw [← he] at g4
        unfold par
        rw [decide_eq_true (by omega : b % 2 = a % 2), decide_eq_true (by omega : c % 2 = a % 2), decide_eq_true (by omega : e % 2 = a % 2)]
        rfl
    obtain ⟨k, hk⟩ : ∃ k, g = 2 * k := ⟨g / 2, by omega⟩
    have e2 : g / 2 = k := by omega
    rw [e2]
    refine ⟨by omega, ⟨2 * a, b - a, c - a, e - a⟩, ?_⟩
    apply Hz.ext4 <;> simp only [Hz.smul]
    · rw [ha, hk]; grind
    · have : 2 * x.q = 2 * (k * (b - a)) := by grind
      omega
    · have : 2 * x.r = 2 * (k * (c - a)) := by grind
      omega
    · have : 2 * x.s = 2 * (k * (e - a)) := by grind
      omega
theorem cont_prim {x : Hz} (h : Hz.Prim x) : cont x = 1 := by
  obtain ⟨h1, y, e⟩ := cont_dvd h.ne
  have := h _ y e
  omega
theorem unit_bd {u : Hz} (h : u ∈ Hz.units) : Bd 4000 u := by
  have all : ∀ u ∈ Hz.units, ∀ a ∈ u.dl, a.natAbs < 3 := by decide +kernel
  intro a ha
  exact Nat.lt_of_lt_of_le (all u h a ha) (Nat.le_trans (by decide : 3 ≤ 2 ^ 2) (Nat.pow_le_pow_right (by decide) (by decide)))
theorem map_tupI (l : List Hz) : (l.map Hz.dl).map tupI = l.map tq := by rw [List.map_map]; rfl
section
variable {P : Program} {w : World} {K : PySem.W.Frag} {mg : Str → Option Value} {base : Heap}
theorem lat_app {l : Addr} {us : List V} {H1 : Hp} {acc : List PyData} {v : V} {r : PyData} (h1 : H1 l = some (.lst us)) (h2 : DpAll K H1 us acc) (fa : flats acc = true) (dv : Dp K H1 v r) (hf : flat r = true) : LAt K l (acc ++ [r]) (upd H1 l (.lst (us ++ [v]))) := by
  have isl : IsL H1 l := ⟨us, h1⟩
  refine ⟨_, upd_same, dps_app (dps_exb isl ExB.put fa h2) (dps_exb isl ExB.put ?_ (.cons dv .nil))⟩
  unfold flats
  rw [hf]
  rfl
theorem lat_ex {l : Addr} {acc : List PyData} {H1 H2 : Hp} (e : Ex H1 H2) (h : LAt K l acc H1) : LAt K l acc H2 := by
  obtain ⟨us, a, b⟩ := h
  exact ⟨us, e _ _ a, dps_ex e b⟩
theorem lat_is {l : Addr} {acc : List PyData} {σ : L2.St} {H1 : Hp} {k : Nat} (hk : σ[k]? = some (some (.ref l))) (h : LAt K l acc H1) : Is K (tVar k) σ H1 (.list acc) := by
  obtain ⟨us, a, b⟩ := h
  exact is_var hk (.lst (.inl (.inl a)) b)
theorem flats_tup (nss : List (List Int)) : flats (nss.map tupI) = true := flats_all fun d m => by
  obtain ⟨ns, _, e⟩ := List.mem_map.mp m
  rw [← e]
  exact flat_tupI ns
theorem is_pm {σ : L2.St} {H : Hp} : Is K (tTup (tCons (tUn (rU fun i => .int (-i)) (tC (.int 1))) (tCons (tC (.int 1)) tNil))) σ H (tupI pm) := is_tup (ia_cons (is_neg is_int) (ia_cons is_int ia_nil)) (by decide)
theorem is_pm2 {σ : L2.St} {H : Hp} : Is K (tTup (tCons (tUn (rU fun i => .int (-i)) (tC (.int 2))) (tCons (tC (.int 2)) tNil))) σ H (tupI [-2, 2]) := is_tup (ia_cons (is_neg is_int) (ia_cons is_int ia_nil)) (by decide)
abbrev wPM (K : PySem.W.Frag) : TI := iTup K (tTup (tCons (tUn (rU fun i => .int (-i)) (tC (.int 1))) (tCons (tC (.int 1)) tNil)))
abbrev s_units : Stmt := top 16
abbrev N_units : List Str := ["found", "place", "part", "a", "b", "c", "d", "at"]
theorem sc_units : FnScope N_units [] (defScope s_units) := ⟨rfl, rfl, rfl, by decide +kernel, rfl, by decide +kernel, by decide +kernel⟩
def pUnits : List PyData → List PyData → Prop := fun ds r => ds = [] ∧ r = Hz.units.map tq
theorem ok_units (D : Dn K mg "units" s_units) (T : Txt K mg) : Has P w K mg base "units" 1 [] (spL K pUnits) := by
  refine D.has sc_units (fun _ _ _ _ _ _ us hl => match us, hl with | [], _ => rfl) (fun vs H Q E => lenL 0 fun ds r ⟨e, _⟩ => by rw [e]; rfl) fun f cdv A outer s H vs Q E hr h => ?_
  obtain ⟨ds, r, hd, ⟨rfl, rfl⟩, q⟩ := h
  cases hd
  refine ⟨_, (pss_cons (TP.R.ps_setLc4 (ny := 0) (own := [("a", 3), ("b", 4), ("c", 5), ("d", 6)]) (v1 := [4, 5, 6]) (v2 := [5, 6]) (v3 := [6]) (w1 := wPM K) (w2 := wPM K) (w3 := wPM K) rfl sc_units.nd rfl rfl (sw_true rfl rfl rfl (by decide +kernel)) (by decide) (by decide) (by decide) (pi_tup (pe_tup (pa_cons (pe_un un_neg pe_int) (pa_cons pe_int pa_nil)))) (blkOk_by (own := [("a", 3), ("b", 4), ("c", 5), ("d", 6)]) (N := N_units) (sc := defScope s_units) (by decide +kernel)) (fun _ _ _ _ _ => (pg_name (i := 3) sc_units.nd rfl (Or.inl rfl))) (fun _ _ _ _ _ => (pi_tup (pe_tup (pa_cons (pe_un un_neg pe_int) (pa_cons pe_int pa_nil))))) (fun _ _ _ _ _ => (pg_name (i := 4) sc_units.nd rfl (Or.inl rfl))) (fun _ _ _ _ _ => (pi_tup (pe_tup (pa_cons (pe_un un_neg pe_int) (pa_cons pe_int pa_nil))))) (fun _ _ _ _ _ => (pg_name (i := 5) sc_units.nd rfl (Or.inl rfl))) (fun _ _ _ _ _ => (pi_tup (pe_tup (pa_cons (pe_un un_neg pe_int) (pa_cons pe_int pa_nil))))) (fun _ _ _ _ _ => (pg_name (i := 6) sc_units.nd rfl (Or.inl rfl))) (fun _ _ _ _ _ => (pe_tup (pa_cons (pv 3) (pa_cons (pv 4) (pa_cons (pv 5) (pa_cons (pv 6) pa_nil)))))))
      (pss_cons (ps_for PassesOwn.never rfl (pi_range1 (by rfl) T.range (pa_cons (vInt T.gPARTS (by rfl)) pa_nil)) (pg_name (i := 1) sc_units.nd rfl (Or.inr rfl))
      (pss_one (ps_for PassesOwn.never rfl (pi_tup (pe_tup (pa_cons (pe_un un_neg pe_int) (pa_cons pe_int pa_nil)))) (pg_name (i := 2) sc_units.nd rfl (Or.inr rfl))
      (pss_one (ps_expr (pe_bm PySem.F.plainAttrs_list PySem.F.slot_list_append PySem.F.type_list_append mt_append (pv 0) (pa_cons (pe_callTy call_tuple_of (by rfl) T.tuple b_tuple (pa_cons (pe_lc (own := [("at", 7)]) (tt := tYes) (g := (gName 7)) rfl sc_units.nd (pi_range1 (by rfl) T.range (pa_cons (vInt T.gPARTS (by rfl)) pa_nil)) (blkOk_by (own := [("at", 7)]) (N := N_units) (sc := defScope s_units) (by decide +kernel)) (fun _ _ _ _ _ => (pg_name (i := 7) sc_units.nd rfl (Or.inl rfl))) (fun _ _ _ _ _ => pts_nil) (fun _ _ _ _ _ => (pe_ifExp (pt_cmpR op_eq (pv 7) (pv 1) (nomark _)) (pv 2) pe_int))) pa_nil)) pa_nil)))))))
      (pss_one (ps_ret (pe_callB (cr_sortD (d := 3)) (by rfl) T.sorted b_sorted (pa_cons (pv 0) pa_nil)))))), ?_⟩
  -- the sixteen of halves
  refine q_nw (K := K) (ds := found0.map tupI) ?_ fun l us H1 hl e1 h1 hd1 => ?_
  · have e : found0.map tupI = pm.flatMap fun a => pm.flatMap fun b => pm.flatMap fun c => pm.flatMap fun d => [tupI [a, b, c, d]] := by rfl
    rw [e]
    refine nw_lcN (K := K) (ns := pm) is_pm (fun _ => rfl) (fun a => by rfl) (by decide) fun D a ha => ?_
    refine bc_loop (ns := pm) (fun H => is_pm) (fun _ => rfl) (fun b => by rfl) fun b hb => ?_
    refine bc_loop (ns := pm) (fun H => is_pm) (fun _ => rfl) (fun c => by rfl) fun c hc => ?_
    refine bc_loop (ns := pm) (fun H => is_pm) (fun _ => rfl) (fun d => by rfl) fun d hd => ?_
    exact bc_app (fun H => is_tup (ds := inz [a, b, c, d]) (ia_cons (is_var rfl (.int a)) (ia_cons (is_var rfl (.int b)) (ia_cons (is_var rfl (.int c)) (ia_cons (is_var rfl (.int d)) ia_nil)))) (by show 4 ≤ 100000; decide)) rfl
  -- the eight others
  have hn : H l = none := hl
  refine q_forR1 (n := 4) (ia_ev (K := K) (ns := [4]) (ia0 is_int)) (by decide) (fun i σ' H' => ∃ y1 y2, σ' = [some (.ref l), y1, y2, none, none, none, none, none] ∧ Ex H H' ∧ LAt K l ((found0 ++ foundN i).map tupI) H') (fun H2 e2 => ⟨none, none, rfl, e1.trans e2, us, e2 _ _ h1, ?_⟩) (fun i σ' H' hi p => ?_) fun σ' H' p => ?_
  · show DpAll K H2 us ((found0 ++ []).map tupI)
    rw [List.append_nil]
    exact dps_ex e2 hd1
  · obtain ⟨y1, y2, rfl, e2, h2⟩ := p
    refine s_forT (K := K) (es := inz [-2, 2]) (l := l) is_pm2 (fun H3 j σ2 H4 => ∃ y2, σ2 = [some (.ref l), some (.int i), y2, none, none, none, none, none] ∧ Ex H H4 ∧ ExB l H3 H4 ∧ LAt K l ((found0 ++ foundN i ++ ([-2, 2].take j).map (eU i)).map tupI) H4)
      (by obtain ⟨ws, z, _⟩ := h2; exact ⟨ws, z⟩) (fun H3 e3 => ⟨y2, rfl, e2.trans e3, ExB.refl _ _, ?_⟩) (fun H3 j σ2 H4 _ z => ?_) (fun H3 j x d σ2 H4 e3 hj dx z => ?_) fun H3 σ2 H4 e3 z => ?_
    · rw [List.take_zero, List.map_nil, List.append_nil]
      exact lat_ex e3 h2
    · obtain ⟨_, _, _, z, _⟩ := z
      exact z
    · obtain ⟨y3, rfl, e4, b4, ws, h4, d4⟩ := z
      obtain ⟨n, hn2, ed⟩ := inz_get hj
      rw [ed] at dx
      rw [dp_int dx]
      have hlen := dps_len d4
      have small : ws.length < 100000 := by
        have a3 : ((([-2, 2] : List Int).take j).length) ≤ 2 := by rw [List.length_take]; exact Nat.min_le_right _ _
        rw [hlen, List.length_map, List.length_append, List.length_append, List.length_map]
        have a1 : found0.length = 16 := by decide
        have a2 : (foundN i).length = 2 * i := by
          unfold foundN
          rw [List.length_flatMap]
          have : (List.map (fun a => (List.map (eU a) ([-2, 2] : List Int)).length) (List.range i)) = List.replicate i 2 := by
            rw [List.map_congr_left (g := fun _ => 2) (fun a _ => by rfl), List.map_const', List.length_range]
          rw [this, List.sum_replicate_nat]
          omega
        omega
      refine s_appD (K := K) (d := tupI (eU i n)) h4 ⟨0, rfl, rfl⟩ (is_tupleL (nw_lcR (n := 4) (f := inz (eU i n)) (ia0 is_int) (by decide) (fun _ => rfl) (by simp [eU]) (flats_ints _) fun j r H5 e5 hj5 hr5 => ?_).is) small fun v H5 e5 dv => ?_
      · have er : r = .int (if j = i then n else 0) := by
          obtain ⟨m, hm, e⟩ := inz_get hr5
          unfold eU at hm
          rw [List.getElem?_map, List.getElem?_range hj5] at hm
          rw [e, ← Option.some.inj hm]
        rw [er]
        refine is_if (et_is (K := K) (is_eqI (is_var rfl (.int (j : Int))) (is_var rfl (.int (i : Int))))) (fun c => ?_) fun c => ?_
        · have c2 : j = i := by have := of_decide_eq_true c; omega
          rw [if_pos c2]
          exact is_var rfl (.int n)
        · have c2 : ¬ j = i := by have := of_decide_eq_false c; omega
          rw [if_neg c2]
          exact is_int
      · have new := lat_app (K := K) (r := tupI (eU i n)) (e5 _ _ h4) (dps_ex e5 d4) (flats_tup _) dv (flat_tupI _)
        refine ⟨_, rfl, Ex.mut (e4.trans e5) hn, (b4.trans (ExB.of e5)).trans ExB.put, ?_⟩
        have e : (found0 ++ foundN i ++ (([-2, 2] : List Int).take (j + 1)).map (eU i)).map tupI = (found0 ++ foundN i ++ (([-2, 2] : List Int).take j).map (eU i)).map tupI ++ [tupI (eU i n)] := by
          rw [List.take_add_one, hn2]
          simp only [Option.toList_some, List.map_append, List.append_assoc, List.map_cons, List.map_nil]
        rw [e]
        exact new
    · obtain ⟨y3, rfl, e4, b4, h4⟩ := z
      refine ⟨_, _, rfl, e4, ?_⟩
      have e : found0 ++ foundN (i + 1) = found0 ++ foundN i ++ ([-2, 2].take 2).map (eU i) := by
        unfold foundN
        rw [List.range_succ, List.flatMap_append, List.flatMap_singleton, ← List.append_assoc]
        rfl
      rw [e]
      exact h4
  · obtain ⟨y1, y2, rfl, e2, h2⟩ := p
    refine s_nwRet (K := K) (ds := (Hz.units.map Hz.dl).map tupI) (nw_sort (nss := found0 ++ foundN 4) (lat_is rfl h2) found_len found_perm units_sorted) fun p us H3 hp e3 h3 d3 => ?_
    rw [map_tupI] at d3
    exact q p us H3 (fresh_back e2 hp) (e2.trans e3) h3 d3
abbrev s_associates : Stmt := top 17
abbrev N_associates : List Str := ["number", "unit"]
theorem sc_associates : FnScope N_associates ["number"] (defScope s_associates) := ⟨rfl, rfl, rfl, by decide +kernel, rfl, by decide +kernel, by decide +kernel⟩
def pAssoc : List PyData → List PyData → Prop := fun ds r => ∃ x : Hz, ds = [tq x] ∧ x ≠ Hz.zero ∧ Bd 4000 x ∧ r = (orb x).map tupI
theorem ok_associates (D : Dn K mg "associates" s_associates) (T : Txt K mg) (h_check_not_zero : Has P w K mg base "check_not_zero" 3 ["number"] (spV K pChz)) (h_units : Has P w K mg base "units" 1 [] (spL K pUnits)) (h_product : Has P w K mg base "product" 3 ["one", "other"] (spV K pProd)) :
    Has P w K mg base "associates" 4 ["number"] (spL K pAssoc) := by
  refine D.has sc_associates (fun _ _ _ _ _ _ us hl => match us, hl with | [_], _ => rfl) (fun vs H Q E => lenL 1 fun ds r ⟨_, e, _⟩ => by rw [e]; rfl) fun f cdv A outer s H vs Q E hr h => ?_
  obtain ⟨ds, r, hd, ⟨x, rfl, hx, hb, rfl⟩, q⟩ := h
  obtain ⟨v, rfl, dv⟩ := one_ hd
  refine ⟨_, (pss_cons (ps_expr (pe_has h_check_not_zero (hr.mono (by decide)) (by rfl) (pa_cons (pv 0) pa_nil)))
      (pss_one (ps_ret (pe_callB (cr_sortD (d := 3)) (by rfl) T.sorted b_sorted (pa_cons (pe_lc (own := [("unit", 1)]) (tt := tYes) (g := (gName 1)) rfl sc_associates.nd (pi_list (pe_has0 h_units (hr.mono (by decide)) (by rfl))) (blkOk_by (own := [("unit", 1)]) (N := N_associates) (sc := defScope s_associates) (by decide +kernel)) (fun _ _ _ _ _ => (pg_name (i := 1) sc_associates.nd rfl (Or.inl rfl))) (fun _ _ _ _ _ => pts_nil) (fun _ _ _ _ _ => (pe_has h_product (hr.mono (by decide)) (by rfl) (pa_cons (pv 0) (pa_cons (pv 1) pa_nil))))) pa_nil))))), ?_⟩
  refine q_dropD (is_call (ia0 (is_var rfl dv)) ⟨x, rfl, hx, rfl⟩) fun H1 e1 => ?_
  refine s_nwRet (K := K) (nw_sort (nss := Hz.units.map fun u => (Hz.mul x u).dl) (Nw.is (nw_lcL (es := Hz.units.map tq) (nw_call ia_nil ⟨rfl, rfl⟩).is (by decide) (fun _ => rfl) (by simp) (flats_tup _) fun i y d r H2 e2 h1 h2 dy => ?_)) (fun ns m => ?_) (orb_perm x).symm (orb_sorted x)) fun p us H3 hp e3 h3 d3 => q p us H3 (fresh_back e1 hp) (e1.trans e3) h3 d3
  · rw [List.getElem?_map] at h1
    rw [List.getElem?_map, List.getElem?_map] at h2
    cases hu : Hz.units[i]? with
    | none => rw [hu] at h1; cases h1
    | some u =>
      rw [hu] at h1 h2
      have ed : d = tq u := (Option.some.inj h1).symm
      have er : r = tq (Hz.mul x u) := (Option.some.inj h2).symm
      rw [ed] at dy
      rw [er]
      exact is_call (ia2 (is_var rfl (dp_ex (e1.trans e2) dv)) (is_var rfl dy)) ⟨x, u, rfl, hb, unit_bd (List.mem_of_getElem? hu), rfl⟩
  · obtain ⟨u, _, e⟩ := List.mem_map.mp m
    rw [← e]
    rfl
abbrev s_canonical : Stmt := top 18
abbrev N_canonical : List Str := ["number"]
theorem sc_canonical : FnScope N_canonical ["number"] (defScope s_canonical) := ⟨rfl, rfl, rfl, by decide +kernel, rfl, by decide +kernel, by decide +kernel⟩
def pCanon : List PyData → PyData → Prop := fun ds r => ∃ x : Hz, ds = [tq x] ∧ x ≠ Hz.zero ∧ Bd 4000 x ∧ r = tq (Hz.canon x)
theorem ok_canonical (D : Dn K mg "canonical" s_canonical) (T : Txt K mg) (h_associates : Has P w K mg base "associates" 4 ["number"] (spL K pAssoc)) : Has P w K mg base "canonical" 5 ["number"] (spV K pCanon) := by
  refine D.has sc_canonical (fun _ _ _ _ _ _ us hl => match us, hl with | [_], _ => rfl) (fun vs H Q E => lenN 1 fun ds r ⟨_, e, _⟩ => by rw [e]; rfl) fun f cdv A outer s H vs Q E hr h => ?_
  obtain ⟨ds, r, hd, ⟨x, rfl, hx, hb, rfl⟩, q⟩ := h
  obtain ⟨v, rfl, dv⟩ := one_ hd
  refine ⟨_, (pss_one (ps_ret (pe_ix ix_list (pe_has h_associates (hr.mono (by decide)) (by rfl) (pa_cons (pv 0) pa_nil)) (pe_un un_neg pe_int) (fun _ _ => rfl)))), ?_⟩
  refine s_isRet (K := K) (d := tq (Hz.canon x)) (is_lastL (nw_call (ia0 (is_var rfl dv)) ⟨x, rfl, hx, hb, rfl⟩).is (is_neg is_int) ?_) fun v H1 e1 dv => q v H1 e1 dv
  rw [List.getLast?_map, orb_last]
  rfl
abbrev s_content : Stmt := top 19
abbrev N_content : List Str := ["number", "common", "part"]
theorem sc_content : FnScope N_content ["number"] (defScope s_content) := ⟨rfl, rfl, rfl, by decide +kernel, rfl, by decide +kernel, by decide +kernel⟩
def pCont : List PyData → PyData → Prop := fun ds r => ∃ x : Hz, ds = [tq x] ∧ x ≠ Hz.zero ∧ Bd 4000 x ∧ r = .int (cont x)
theorem ok_content (D : Dn K mg "content" s_content) (T : Txt K mg) (h_check_not_zero : Has P w K mg base "check_not_zero" 3 ["number"] (spV K pChz)) (h_is_number : Has P w K mg base "is_number" 1 ["number"] (spV K pNumL)) : Has P w K mg base "content" 4 ["number"] (spV K pCont) := by
  refine D.has sc_content (fun _ _ _ _ _ _ us hl => match us, hl with | [_], _ => rfl) (fun vs H Q E => lenN 1 fun ds r ⟨_, e, _⟩ => by rw [e]; rfl) fun f cdv A outer s H vs Q E hr h => ?_
  obtain ⟨ds, r, hd, ⟨x, rfl, hx, hb, rfl⟩, q⟩ := h
  obtain ⟨v, rfl, dv⟩ := one_ hd
  refine ⟨_, (pss_cons (ps_expr (pe_has h_check_not_zero (hr.mono (by decide)) (by rfl) (pa_cons (pv 0) pa_nil)))
      (pss_cons (ps_set (i := 1) sc_content.nd rfl (Or.inr rfl) (pe_callBfun cr_gcd (by rfl) T.gcd (pa_cons (pe_callBfun cr_gcd (by rfl) T.gcd (pa_cons (pe_ix ix_tup (pv 0) pe_int (fun _ _ => rfl)) (pa_cons (pe_ix ix_tup (pv 0) pe_int (fun _ _ => rfl)) pa_nil))) (pa_cons (pe_callBfun cr_gcd (by rfl) T.gcd (pa_cons (pe_ix ix_tup (pv 0) pe_int (fun _ _ => rfl)) (pa_cons (pe_ix ix_tup (pv 0) pe_int (fun _ _ => rfl)) pa_nil))) pa_nil))))
      (pss_cons (ps_if (pt_val (pe_has h_is_number (hr.mono (by decide)) (by rfl) (pa_cons (pe_lc (own := [("part", 2)]) (tt := tYes) (g := (gName 2)) rfl sc_content.nd (pi_tup (pv 0)) (blkOk_by (own := [("part", 2)]) (N := N_content) (sc := defScope s_content) (by decide +kernel)) (fun _ _ _ _ _ => (pg_name (i := 2) sc_content.nd rfl (Or.inl rfl))) (fun _ _ _ _ _ => pts_nil) (fun _ _ _ _ _ => (pe_op op_fdivW (pv 2) (pv 1)))) pa_nil))) (pss_one (ps_ret (pv 1))) pss_nil)
      (pss_one (ps_ret (pe_op op_fdivW (pv 1) pe_int)))))), ?_⟩
  refine q_dropD (is_call (ia0 (is_var rfl dv)) ⟨x, rfl, hx, rfl⟩) fun H1 e1 => ?_
  have d1 := dp_ex e1 dv
  refine q_is (K := K) (d := .int (gcd4 x)) (is_gcd (is_gcd (is_ixT (k := 0) (is_var rfl d1) is_int rfl) (is_ixT (k := 1) (is_var rfl d1) is_int rfl)) (is_gcd (is_ixT (k := 2) (is_var rfl d1) is_int rfl) (is_ixT (k := 3) (is_var rfl d1) is_int rfl))) fun u H2 e2 du => ?_
  rw [dp_int du]
  have d2 := dp_ex e2 d1
  have gp := gcd4_pos hx
  have gl := gcd4_le hx hb
  have cd : ∀ n : Int, CDivW n (gcd4 x) := fun n => wide_div (b := 4000) gp (by omega) (by decide) (by decide)
  have e12 := e1.trans e2
  refine q_when (et_isB (is_call (K := K) (pre := pNumL) (ia0 (nw_lcTI (ns := x.dl) (fun n => n / gcd4 x) (is_var rfl d2) (by show 4 ≤ 1000; decide) (fun _ => rfl) fun n hn H3 e3 => is_div (is_var rfl (.int n)) (is_var rfl (.int _)) (cd n)).is) ⟨_, _, _, _, rfl, rfl⟩)) (fun c H3 e3 => ?_) fun c H3 e3 => ?_
  · have ec : cont x = gcd4 x := by unfold cont; rw [if_pos c]
    rw [ec] at q
    exact s_isRet (K := K) (is_var rfl (.int _)) fun v H4 e4 dv => q v H4 (e12.trans (e3.trans e4)) dv
  · have ec : cont x = gcd4 x / 2 := by unfold cont; rw [if_neg (by rw [c]; decide)]
    rw [ec] at q
    exact s_isRet (K := K) (is_div (is_var rfl (.int _)) is_int (div_small (by decide) (by decide))) fun v H4 e4 dv => q v H4 (e12.trans (e3.trans e4)) dv
abbrev s_is_primitive : Stmt := top 20
abbrev N_is_primitive : List Str := ["number"]
theorem sc_is_primitive : FnScope N_is_primitive ["number"] (defScope s_is_primitive) := ⟨rfl, rfl, rfl, by decide +kernel, rfl, by decide +kernel, by decide +kernel⟩
def pPrim : List PyData → PyData → Prop := fun ds r => ∃ x : Hz, ds = [tq x] ∧ x ≠ Hz.zero ∧ Bd 4000 x ∧ r = .bool (decide (cont x = 1))
theorem ok_is_primitive (D : Dn K mg "is_primitive" s_is_primitive) (T : Txt K mg) (h_content : Has P w K mg base "content" 4 ["number"] (spV K pCont)) : Has P w K mg base "is_primitive" 5 ["number"] (spV K pPrim) := by
  refine D.has sc_is_primitive (fun _ _ _ _ _ _ us hl => match us, hl with | [_], _ => rfl) (fun vs H Q E => lenN 1 fun ds r ⟨_, e, _⟩ => by rw [e]; rfl) fun f cdv A outer s H vs Q E hr h => ?_
  obtain ⟨ds, r, hd, ⟨x, rfl, hx, hb, rfl⟩, q⟩ := h
  obtain ⟨v, rfl, dv⟩ := one_ hd
  refine ⟨_, (pss_one (ps_ret (pe_cmpR op_eq (pe_has h_content (hr.mono (by decide)) (by rfl) (pa_cons (pv 0) pa_nil)) pe_int (nomark _)))), ?_⟩
  exact s_isRet (K := K) (is_eqI (is_call (ia0 (is_var rfl dv)) ⟨x, rfl, hx, hb, rfl⟩) is_int) fun v H1 e1 dv => q v H1 e1 dv
end
end TP.W
set_option maxHeartbeats 4000000
namespace TP.W
open PySem PySem.Spec PyProof.Rows L2 Evl RZ TP.L

/-! ### sizes -/
theorem bd4 {n : Nat} {x : Hz} (h0 : x.p.natAbs < 2 ^ n) (h1 : (x.p + 2 * x.q).natAbs < 2 ^ n) (h2 : (x.p + 2 * x.r).natAbs < 2 ^ n) (h3 : (x.p + 2 * x.s).natAbs < 2 ^ n) : Bd n x := fun a ha => by
  simp only [Hz.dl, List.mem_cons, List.not_mem_nil, or_false] at ha
  rcases ha with e | e | e | e <;> rw [e] <;> assumption
theorem Bd.at4 {n : Nat} {x : Hz} (h : Bd n x) : x.p.natAbs < 2 ^ n ∧ (x.p + 2 * x.q).natAbs < 2 ^ n ∧ (x.p + 2 * x.r).natAbs < 2 ^ n ∧ (x.p + 2 * x.s).natAbs < 2 ^ n :=
  ⟨h _ (by simp [Hz.dl]), h _ (by simp [Hz.dl]), h _ (by simp [Hz.dl]), h _ (by simp [Hz.dl])⟩
theorem Bd.of_dl {n : Nat} {x : Hz} {l : List Int} (e : x.dl = l) (h : ∀ a ∈ l, a.natAbs < 2 ^ n) : Bd n x := fun a ha => h a (by rw [← e]; exact ha)
theorem bd_mul {m n : Nat} {x y : Hz} (hx : Bd m x) (hy : Bd n y) : Bd (m + n + 1) (Hz.mul x y) := by
  have e := prod_half x y
  refine Bd.of_dl e.symm fun a ha => ?_
  obtain ⟨b, hb, eb⟩ := List.mem_map.mp ha
  rw [← eb]
  obtain ⟨x0, x1, x2, x3⟩ := hx.at4
  obtain ⟨y0, y1, y2, y3⟩ := hy.at4
  have w : ∀ {i j : Int}, i.natAbs < 2 ^ m → j.natAbs < 2 ^ n → (i * j).natAbs < 2 ^ (m + n) := fun h1 h2 => wide_lt h1 h2
  have pw : (2 : Nat) ^ (m + n + 1) = 2 * 2 ^ (m + n) := by rw [Nat.pow_succ]; omega
  rw [pw]
  generalize (2 : Nat) ^ (m + n) = N at w
  simp only [List.mem_cons, List.not_mem_nil, or_false] at hb
  rcases hb with e | e | e | e
  · have a0 := w x0 y0
    have a1 := w x1 y1
    have a2 := w x2 y2
    have a3 := w x3 y3
    rw [e]
    omega
  · have a0 := w x0 y1
    have a1 := w x1 y0
    have a2 := w x2 y3
    have a3 := w x3 y2
    rw [e]
    omega
  · have a0 := w x0 y2
    have a1 := w x1 y3
    have a2 := w x2 y0
    have a3 := w x3 y1
    rw [e]
    omega
  · have a0 := w x0 y3
    have a1 := w x1 y2
    have a2 := w x2 y1
    have a3 := w x3 y0
    rw [e]
    omega
theorem nat_abs_lt {i : Int} {N : Nat} (h1 : i < (N : Int)) (h2 : -i < (N : Int)) : i.natAbs < N := by omega
theorem abs_lt1 {i : Int} {N : Nat} (h : i.natAbs < N) : i < (N : Int) := by omega
theorem abs_lt2 {i : Int} {N : Nat} (h : i.natAbs < N) : -i < (N : Int) := by omega
theorem bd_sub {n : Nat} {x y : Hz} (hx : Bd n x) (hy : Bd n y) : Bd (n + 1) (Hz.sub x y) := by
  obtain ⟨x0, x1, x2, x3⟩ := hx.at4
  obtain ⟨y0, y1, y2, y3⟩ := hy.at4
  have pw : (2 : Nat) ^ (n + 1) = 2 * 2 ^ n := by rw [Nat.pow_succ]; omega
  have key : ∀ {a b c : Int}, a.natAbs < 2 ^ n → b.natAbs < 2 ^ n → c = a - b → c.natAbs < 2 ^ (n + 1) := fun h1 h2 e => by
    rw [pw, e]
    generalize (2 : Nat) ^ n = N at h1 h2
    omega
  refine bd4 (key x0 y0 rfl) (key x1 y1 ?_) (key x2 y2 ?_) (key x3 y3 ?_) <;> simp only [Hz.sub] <;> clear key x0 x1 x2 x3 y0 y1 y2 y3 pw <;> omega
theorem bd_conj {n : Nat} {x : Hz} (hx : Bd n x) : Bd n x.conj := by
  obtain ⟨x0, x1, x2, x3⟩ := hx.at4
  have key : ∀ {a c : Int}, a.natAbs < 2 ^ n → c = -a → c.natAbs < 2 ^ n := fun h1 e => by rw [e, Int.natAbs_neg]; exact h1
  refine bd4 ?_ (key x1 ?_) (key x2 ?_) (key x3 ?_)
  · exact x0
  all_goals simp only [Hz.conj]
  all_goals clear key x0 x1 x2 x3
  all_goals omega
theorem bd_nm {x : Hz} (h : x.nm ≤ 1048576) : Bd 12 x := by
  have e := Hz.four_nm x
  have s0 := Hz.sq_nonneg x.p
  have s1 := Hz.sq_nonneg (x.p + 2 * x.q)
  have s2 := Hz.sq_nonneg (x.p + 2 * x.r)
  have s3 := Hz.sq_nonneg (x.p + 2 * x.s)
  have key : ∀ a : Int, a * a ≤ 4194304 → a.natAbs < 2 ^ 12 := fun a ha => by
    have e : (a.natAbs : Int) * a.natAbs = a * a := Int.natAbs_mul_self' a
    have h2 : (2 : Nat) ^ 12 = 4096 := by decide
    rw [h2]
    refine Nat.lt_of_not_le fun h => ?_
    have : (4096 : Int) * 4096 ≤ (a.natAbs : Int) * a.natAbs := Int.mul_le_mul (by omega) (by omega) (by omega) (by omega)
    omega
  exact bd4 (key _ (by omega)) (key _ (by omega)) (key _ (by omega)) (key _ (by omega))
theorem nm_lt {x : Hz} (h : Bd 12 x) : x.nm < 268435456 := by
  have e := Hz.four_nm x
  obtain ⟨x0, x1, x2, x3⟩ := h.at4
  have key : ∀ a : Int, a.natAbs < 2 ^ 12 → a * a < 16777216 := fun a ha => by
    have e : (a.natAbs : Int) * a.natAbs = a * a := Int.natAbs_mul_self' a
    have h2 : (2 : Nat) ^ 12 = 4096 := by decide
    rw [h2] at ha
    have : (a.natAbs : Int) * a.natAbs ≤ 4095 * 4095 := Int.mul_le_mul (by omega) (by omega) (by omega) (by omega)
    omega
  have k0 := key _ x0
  have k1 := key _ x1
  have k2 := key _ x2
  have k3 := key _ x3
  omega
theorem whole_bd {z : Hz} {n : Int} (hz : Bd 28 z) (h0 : 0 < n) (hn : n < 268435456) : Bd 31 (Hz.whole z n) := by
  refine Bd.of_dl (Hz.whole_dl z n) fun a ha => ?_
  have key : ∀ t : Int, t.natAbs < 2 ^ 28 → (Hz.wh t n).natAbs < 2 ^ 31 := fun t ht => by
    unfold Hz.wh
    have := Int.natAbs_ediv_le_natAbs (t + n) (2 * n)
    have e1 : (2 : Nat) ^ 28 = 268435456 := by decide
    have e2 : (2 : Nat) ^ 31 = 2147483648 := by decide
    omega
  obtain ⟨z0, z1, z2, z3⟩ := hz.at4
  simp only [List.mem_cons, List.not_mem_nil, or_false] at ha
  rcases ha with e | e | e | e <;> rw [e] <;> exact key _ (by assumption)
theorem halves_bd {z : Hz} {n : Int} (hz : Bd 28 z) (h0 : 0 < n) (hn : n < 268435456) : Bd 31 (Hz.halves z n) := by
  refine Bd.of_dl (Hz.halves_dl z n) fun a ha => ?_
  have key : ∀ t : Int, t.natAbs < 2 ^ 28 → (Hz.ha t n).natAbs < 2 ^ 31 := fun t ht => by
    unfold Hz.ha
    have := Int.natAbs_ediv_le_natAbs t (2 * n)
    have e1 : (2 : Nat) ^ 28 = 268435456 := by decide
    have e2 : (2 : Nat) ^ 31 = 2147483648 := by decide
    omega
  obtain ⟨z0, z1, z2, z3⟩ := hz.at4
  simp only [List.mem_cons, List.not_mem_nil, or_false] at ha
  rcases ha with e | e | e | e <;> rw [e] <;> exact key _ (by assumption)
theorem near_bd {z : Hz} {n : Int} (hz : Bd 28 z) (h0 : 0 < n) (hn : n < 268435456) : Bd 31 (Hz.near z n) := by
  have a := whole_bd hz h0 hn
  have b := halves_bd hz h0 hn
  unfold Hz.near
  split
  · split <;> assumption
  · split <;> assumption
theorem dist_sum (z : Hz) (n : Int) (q : Hz) : (List.zipWith (fun near part => (n * near - part) ^ (2 : Int).toNat) q.dl z.dl).sum = Hz.dist z n q := by
  have sq : ∀ i : Int, i ^ (2 : Int).toNat = i * i := fun i => by
    show i ^ 2 = i * i
    rw [Int.pow_succ, Int.pow_succ, Int.pow_zero, Int.one_mul]
  simp only [Hz.dl, List.zipWith_cons_cons, List.zipWith_nil_left, List.sum_cons, List.sum_nil, sq, Hz.dist]
  omega
theorem tq_ofI (p : Int) : (tupI [2 * p, 0, 0, 0] : PyData) = tq (Hz.ofI p) := by
  show tupI [2 * p, 0, 0, 0] = tupI (Hz.ofI p).dl
  congr 1
  simp only [Hz.dl, Hz.ofI, List.map_cons, List.map_nil, List.cons.injEq, and_true, PyData.int.injEq]
  refine ⟨trivial, ?_, ?_, ?_⟩ <;> omega
end TP.W
set_option maxHeartbeats 4000000
namespace TP.W
open PySem PySem.Spec PyProof.Rows L2 Evl RZ TP.L

/-- an answer that post tells -/
def spR (K : PySem.W.Frag) (pre : List PyData → Prop) (post : List PyData → PyData → Prop) : Sp := fun vs H Q _ => ∃ ds, DpAll K H vs ds ∧ pre ds ∧ ∀ r v H', post ds r → Ex H H' → Dp K H' v r → Q v H'
theorem lenR {K : PySem.W.Frag} {pre : List PyData → Prop} {post : List PyData → PyData → Prop} (n : Nat) (h : ∀ ds, pre ds → ds.length = n) {vs H Q E} (z : spR K pre post vs H Q E) : vs.length = n := by
  obtain ⟨ds, hd, hp, _⟩ := z
  rw [dps_len hd, h ds hp]
section
variable {K : PySem.W.Frag} {σ : L2.St} {H : Hp} {ta tb te : TE} {tr : TA} {ds : List PyData}
theorem sh_call {pre : List PyData → Prop} {post : List PyData → PyData → Prop} {E : XK} (h : IsA K tr σ H ds) (hp : pre ds) : Sh K (tCall (spR K pre post) [] E tr) σ H (post ds) := fun H1 e Q q =>
  h H1 e _ fun us H2 e2 dvs => ⟨ds, by rw [List.append_nil]; exact dvs, hp, fun r v H3 pr e3 dv => q v H3 r (e2.trans e3) pr dv⟩
theorem sh_ixT {R S : PyData → Prop} {k : Nat} (h : Sh K ta σ H R) (hb : Is K tb σ H (.int (k : Int))) (hk : ∀ d, R d → ∃ es x, d = .tuple es ∧ es[k]? = some x ∧ S x) : Sh K (tOp (rIxT K) ta tb) σ H S := fun H1 e Q q =>
  h H1 e _ fun v H2 d e2 r dv => hb H2 (e.trans e2) _ fun w H3 e3 dw => by
    obtain ⟨es, x, ed, hx, sx⟩ := hk d r
    rw [ed] at dv
    obtain ⟨a, us, ev, h1, h2⟩ := dp_tup (dp_ex e3 dv)
    obtain ⟨y, y1, y2⟩ := dps_at h2 hx
    exact ⟨a, us, (k : Int), y, ev, dp_int dw, h1, atI_nat y1, q y H3 x (e2.trans e3) sx y2⟩
end
end TP.W
set_option maxHeartbeats 4000000
namespace TP.W
open PySem PySem.Spec PyProof.Rows L2 Evl RZ TP.L

section
variable {P : Program} {w : World} {K : PySem.W.Frag} {mg : Str → Option Value} {base : Heap}
abbrev s_distance_of : Stmt := top 23
abbrev N_distance_of : List Str := ["parts", "size", "number", "near", "part"]
theorem sc_distance_of : FnScope N_distance_of ["parts", "size", "number"] (defScope s_distance_of) := ⟨rfl, rfl, rfl, by decide +kernel, rfl, by decide +kernel, by decide +kernel⟩
def pDist : List PyData → PyData → Prop := fun ds r => ∃ (z : Hz) (n : Int) (q : Hz), ds = [tq z, .int n, tq q] ∧ Bd 28 z ∧ 0 < n ∧ n < 268435456 ∧ Bd 31 q ∧ r = .int (Hz.dist z n q)
theorem ok_distance_of (D : Dn K mg "distance_of" s_distance_of) (T : Txt K mg) : Has P w K mg base "distance_of" 1 ["parts", "size", "number"] (spV K pDist) := by
  refine D.has sc_distance_of (fun _ _ _ _ _ _ us hl => match us, hl with | [_, _, _], _ => rfl) (fun vs H Q E => lenN 3 fun ds r ⟨_, _, _, e, _⟩ => by rw [e]; rfl) fun f cdv A outer s H vs Q E hr h => ?_
  obtain ⟨ds, r, hd, ⟨z, n, x, rfl, hz, h0, hn, hx, rfl⟩, q⟩ := h
  cases hd with | cons d0 hd => ?_
  obtain ⟨u1, u2, rfl, d1, d2⟩ := two_ hd
  refine ⟨_, (pss_one (ps_ret (pe_callB (cr_sum rfl) (by rfl) T.sum b_sum (pa_cons (pe_lc (own := [("near", 3), ("part", 4)]) (tt := tYes) (g := (gTup K 2 (gCons (gName 3) (gCons (gName 4) gNil)))) rfl sc_distance_of.nd (RZ.pi_zipA (by rfl) T.zip (pa_cons (pv 2) (pa_cons (pv 0) pa_nil))) (blkOk_by (own := [("near", 3), ("part", 4)]) (N := N_distance_of) (sc := defScope s_distance_of) (by decide +kernel)) (fun _ _ _ _ _ => (pg_tup rfl (pgs_cons (pg_name (i := 3) sc_distance_of.nd rfl (Or.inl rfl)) (pgs_cons (pg_name (i := 4) sc_distance_of.nd rfl (Or.inl rfl)) pgs_nil)))) (fun _ _ _ _ _ => pts_nil) (fun _ _ _ _ _ => (pe_op op_pow (pe_op op_sub (pe_op op_mulW (pv 1) (pv 3)) (pv 4)) pe_int))) pa_nil)))), ?_⟩
  rw [dp_int d1]
  rw [← dist_sum] at q
  refine s_isRet (K := K) (is_sum (nw_lcZI (K := K) (ns := x.dl) (ms := z.dl) (fun near part => (n * near - part) ^ (2 : Int).toNat) (ia2 (is_var rfl d2) (is_var rfl d0)) rfl (by show 4 ≤ 1000; decide) (fun _ _ => rfl) fun a ha b hb H1 e1 => ?_).is) fun v H1 e1 dv => q v H1 e1 dv
  have b1 := hx a ha
  have b2 := hz b hb
  have nb : n.natAbs < 2 ^ 28 := by have : (2 : Nat) ^ 28 = 268435456 := by decide
                                    omega
  have pr := wide_lt nb b1
  refine is_pow (is_sub (is_mulW (is_var rfl (.int n)) (is_var rfl (.int a)) (wide_mul nb b1 (by decide) (by decide) (by decide))) (is_var rfl (.int b))) is_int ⟨by decide, by decide, ?_⟩
  have e1 : (2 : Nat) ^ (28 + 31) = 576460752303423488 := by decide
  have e2 : (2 : Nat) ^ 28 = 268435456 := by decide
  have e3 : (2 : Nat) ^ 64 = 18446744073709551616 := by decide
  omega
end
end TP.W
set_option maxHeartbeats 4000000
namespace TP.W
open PySem PySem.Spec PyProof.Rows L2 Evl RZ TP.L

section
variable {P : Program} {w : World} {K : PySem.W.Frag} {mg : Str → Option Value} {base : Heap}
abbrev s_nearest : Stmt := top 24
abbrev N_nearest : List Str := ["parts", "size", "whole", "halves", "far", "further", "part"]
theorem sc_nearest : FnScope N_nearest ["parts", "size"] (defScope s_nearest) := ⟨rfl, rfl, rfl, by decide +kernel, rfl, by decide +kernel, by decide +kernel⟩
def pNear : List PyData → PyData → Prop := fun ds r => ∃ (z : Hz) (n : Int), ds = [tq z, .int n] ∧ Bd 28 z ∧ 0 < n ∧ n < 268435456 ∧ r = tq (Hz.near z n)
theorem ok_nearest (D : Dn K mg "nearest" s_nearest) (T : Txt K mg) (h_distance_of : Has P w K mg base "distance_of" 1 ["parts", "size", "number"] (spV K pDist)) : Has P w K mg base "nearest" 2 ["parts", "size"] (spV K pNear) := by
  refine D.has sc_nearest (fun _ _ _ _ _ _ us hl => match us, hl with | [_, _], _ => rfl) (fun vs H Q E => lenN 2 fun ds r ⟨_, _, e, _⟩ => by rw [e]; rfl) fun f cdv A outer s H vs Q E hr h => ?_
  obtain ⟨ds, r, hd, ⟨z, n, rfl, hz, h0, hn, rfl⟩, q⟩ := h
  obtain ⟨v, u, rfl, dv, du⟩ := two_ hd
  refine ⟨_, (pss_cons (ps_set (i := 2) sc_nearest.nd rfl (Or.inl rfl) (pe_callTy call_tuple_of (by rfl) T.tuple b_tuple (pa_cons (pe_lc (own := [("part", 6)]) (tt := tYes) (g := (gName 6)) rfl sc_nearest.nd (pi_tup (pv 0)) (blkOk_by (own := [("part", 6)]) (N := N_nearest) (sc := defScope s_nearest) (by decide +kernel)) (fun _ _ _ _ _ => (pg_name (i := 6) sc_nearest.nd rfl (Or.inl rfl))) (fun _ _ _ _ _ => pts_nil) (fun _ _ _ _ _ => (pe_op op_mulW pe_int (pe_op op_fdivW (pe_op op_add (pv 6) (pv 1)) (pe_op op_mulW pe_int (pv 1)))))) pa_nil)))
      (pss_cons (ps_set (i := 3) sc_nearest.nd rfl (Or.inl rfl) (pe_callTy call_tuple_of (by rfl) T.tuple b_tuple (pa_cons (pe_lc (own := [("part", 6)]) (tt := tYes) (g := (gName 6)) rfl sc_nearest.nd (pi_tup (pv 0)) (blkOk_by (own := [("part", 6)]) (N := N_nearest) (sc := defScope s_nearest) (by decide +kernel)) (fun _ _ _ _ _ => (pg_name (i := 6) sc_nearest.nd rfl (Or.inl rfl))) (fun _ _ _ _ _ => pts_nil) (fun _ _ _ _ _ => (pe_op op_add (pe_op op_mulW pe_int (pe_op op_fdivW (pv 6) (pe_op op_mulW pe_int (pv 1)))) pe_int))) pa_nil)))
      (pss_cons (ps_set (i := 4) sc_nearest.nd rfl (Or.inl rfl) (pe_has h_distance_of (hr.mono (by decide)) (by rfl) (pa_cons (pv 0) (pa_cons (pv 1) (pa_cons (pv 2) pa_nil)))))
      (pss_cons (ps_set (i := 5) sc_nearest.nd rfl (Or.inl rfl) (pe_has h_distance_of (hr.mono (by decide)) (by rfl) (pa_cons (pv 0) (pa_cons (pv 1) (pa_cons (pv 3) pa_nil)))))
      (pss_cons (ps_if (pt_cmpR op_eq (pv 4) (pv 5) (nomark _)) (pss_one (ps_ret (pe_callB (TP.R.cr_maxQ2 rfl (hu_of hr)) (by rfl) T.max b_max (pa_cons (pv 2) (pa_cons (pv 3) pa_nil))))) pss_nil)
      (pss_one (ps_ret (pe_ifExp (pt_cmpR op_lt (pv 4) (pv 5) (nomark _)) (pv 2) (pv 3))))))))), ?_⟩
  rw [dp_int du]
  have e28 : (2 : Nat) ^ 28 = 268435456 := by decide
  have nb : n.natAbs < 2 ^ 28 := by omega
  have two : (2 : Int).natAbs < 2 ^ 2 := by decide
  have c2 : CMulW 2 n := wide_mul two nb (by decide) (by decide) (by decide)
  have big : ∀ m : Int, m.natAbs < 2 ^ 40 → CMulW 2 m := fun m hm => wide_mul two hm (by decide) (by decide) (by decide)
  have e40 : (2 : Nat) ^ 40 = 1099511627776 := by decide
  have dv2 : ∀ m : Int, CDivW m (2 * n) := fun m => wide_div (b := 40) (by omega) (by rw [e40]; omega) (by decide) (by decide)
  refine q_is (K := K) (d := tq (Hz.whole z n)) ?_ fun v2 H1 e1 d1 => ?_
  · rw [show tq (Hz.whole z n) = tupI (z.dl.map fun t => Hz.wh t n) from congrArg tupI (Hz.whole_dl z n)]
    refine is_tupleL (nw_lcTI (fun t => Hz.wh t n) (is_var rfl dv) (by show 4 ≤ 1000; decide) (fun _ => rfl) fun t ht H2 e2 => ?_).is
    have bt := hz t ht
    refine is_mulW is_int (is_div (is_add (is_var rfl (.int t)) (is_var rfl (.int n))) (is_mulW is_int (is_var rfl (.int n)) c2) (dv2 _)) (big _ ?_)
    have := Int.natAbs_ediv_le_natAbs (t + n) (2 * n)
    rw [e40]
    omega
  refine q_is (K := K) (d := tq (Hz.halves z n)) ?_ fun v3 H2 e2 d2 => ?_
  · rw [show tq (Hz.halves z n) = tupI (z.dl.map fun t => Hz.ha t n) from congrArg tupI (Hz.halves_dl z n)]
    refine is_tupleL (nw_lcTI (fun t => Hz.ha t n) (is_var rfl (dp_ex e1 dv)) (by show 4 ≤ 1000; decide) (fun _ => rfl) fun t ht H3 e3 => ?_).is
    have bt := hz t ht
    refine is_add (is_mulW is_int (is_div (is_var rfl (.int t)) (is_mulW is_int (is_var rfl (.int n)) c2) (dv2 _)) (big _ ?_)) is_int
    have := Int.natAbs_ediv_le_natAbs t (2 * n)
    rw [e40]
    omega
  have e12 := e1.trans e2
  refine q_is (K := K) (is_call (ia_cons (is_var rfl (dp_ex e12 dv)) (ia2 (is_var rfl (.int n)) (is_var rfl (dp_ex e2 d1)))) ⟨z, n, _, rfl, hz, h0, hn, whole_bd hz h0 hn, rfl⟩) fun v4 H3 e3 d3 => ?_
  refine q_is (K := K) (is_call (ia_cons (is_var rfl (dp_ex (e12.trans e3) dv)) (ia2 (is_var rfl (.int n)) (is_var rfl (dp_ex e3 d2)))) ⟨z, n, _, rfl, hz, h0, hn, halves_bd hz h0 hn, rfl⟩) fun v5 H4 e4 d4 => ?_
  rw [dp_int d3, dp_int d4]
  have e14 := e12.trans (e3.trans e4)
  have w1 := dp_ex (e2.trans (e3.trans e4)) d1
  have w2 := dp_ex (e3.trans e4) d2
  refine q_when (et_is (K := K) (is_eqI (is_var rfl (.int _)) (is_var rfl (.int _)))) (fun c H5 e5 => ?_) fun c H5 e5 => ?_
  · have c := of_decide_eq_true c
    have er : tq (Hz.near z n) = tupI (if HT.lexLt (Hz.whole z n).dl (Hz.halves z n).dl = true then (Hz.halves z n).dl else (Hz.whole z n).dl) := by
      unfold Hz.near
      rw [if_pos c, ← lex_eq]
      show tupI (if Hz.lexL (Hz.whole z n).dl (Hz.halves z n).dl = true then _ else _ : Hz).dl = _
      split <;> rfl
    rw [er] at q
    exact s_isRet (K := K) (is_maxD2 (is_var rfl (dp_ex e5 w1)) (is_var rfl (dp_ex e5 w2)) rfl) fun v H6 e6 dv => q v H6 (e14.trans (e5.trans e6)) dv
  · have c := of_decide_eq_false c
    refine s_isRet (K := K) (d := tq (Hz.near z n)) (is_if (et_is (K := K) (is_lt (is_var rfl (.int _)) (is_var rfl (.int _)))) (fun c2 => ?_) fun c2 => ?_) fun v H6 e6 dv => q v H6 (e14.trans (e5.trans e6)) dv
    · have er : Hz.near z n = Hz.whole z n := by unfold Hz.near; rw [if_neg c, if_pos (of_decide_eq_true c2)]
      rw [er]
      exact is_var rfl (dp_ex e5 w1)
    · have er : Hz.near z n = Hz.halves z n := by unfold Hz.near; rw [if_neg c, if_neg (of_decide_eq_false c2)]
      rw [er]
      exact is_var rfl (dp_ex e5 w2)
end
end TP.W
set_option maxHeartbeats 4000000
namespace TP.W
open PySem PySem.Spec PyProof.Rows L2 Evl RZ TP.L

section
variable {P : Program} {w : World} {K : PySem.W.Frag} {mg : Str → Option Value} {base : Heap}
abbrev s_check_pair : Stmt := top 25
abbrev N_check_pair : List Str := ["number", "divisor"]
theorem sc_check_pair : FnScope N_check_pair ["number", "divisor"] (defScope s_check_pair) := ⟨rfl, rfl, rfl, by decide +kernel, rfl, by decide +kernel, by decide +kernel⟩
def pPair : List PyData → PyData → Prop := fun ds r => ∃ x y : Hz, ds = [tq x, tq y] ∧ y ≠ Hz.zero ∧ r = .none
theorem ok_check_pair (D : Dn K mg "check_pair" s_check_pair) (T : Txt K mg) (h_check_number : Has P w K mg base "check_number" 2 ["number"] (spV K pChk)) (h_check_not_zero : Has P w K mg base "check_not_zero" 3 ["number"] (spV K pChz)) : Has P w K mg base "check_pair" 4 ["number", "divisor"] (spV K pPair) := by
  refine D.has sc_check_pair (fun _ _ _ _ _ _ us hl => match us, hl with | [_, _], _ => rfl) (fun vs H Q E => lenN 2 fun ds r ⟨_, _, e, _⟩ => by rw [e]; rfl) fun f cdv A outer s H vs Q E hr h => ?_
  obtain ⟨ds, r, hd, ⟨x, y, rfl, hy, rfl⟩, q⟩ := h
  obtain ⟨v, u, rfl, dv, du⟩ := two_ hd
  refine ⟨_, (pss_cons (ps_expr (pe_has h_check_number (hr.mono (by decide)) (by rfl) (pa_cons (pv 0) pa_nil)))
      (pss_one (ps_expr (pe_has h_check_not_zero (hr.mono (by decide)) (by rfl) (pa_cons (pv 1) pa_nil))))), ?_⟩
  refine q_dropD (is_call (ia0 (is_var rfl dv)) ⟨x, rfl, rfl⟩) fun H1 e1 => ?_
  exact s_drop_D (is_call (ia0 (is_var rfl (dp_ex e1 du))) ⟨y, rfl, hy, rfl⟩) fun H2 e2 => q .non H2 (e1.trans e2) .non
end
end TP.W
set_option maxHeartbeats 4000000
namespace TP.W
open PySem PySem.Spec PyProof.Rows L2 Evl RZ TP.L

section
variable {P : Program} {w : World} {K : PySem.W.Frag} {mg : Str → Option Value} {base : Heap}
abbrev s_divided_left : Stmt := top 26
abbrev N_divided_left : List Str := ["number", "divisor", "quotient"]
theorem sc_divided_left : FnScope N_divided_left ["number", "divisor"] (defScope s_divided_left) := ⟨rfl, rfl, rfl, by decide +kernel, rfl, by decide +kernel, by decide +kernel⟩
def pDivl : List PyData → PyData → Prop := fun ds r => ∃ x y : Hz, ds = [tq x, tq y] ∧ y ≠ Hz.zero ∧ Bd 12 x ∧ Bd 12 y ∧ r = .tuple [tq (Hz.quo x y), tq (Hz.rem x y)]
theorem ok_divided_left (D : Dn K mg "divided_left" s_divided_left) (T : Txt K mg) (h_check_pair : Has P w K mg base "check_pair" 4 ["number", "divisor"] (spV K pPair)) (h_nearest : Has P w K mg base "nearest" 2 ["parts", "size"] (spV K pNear))
    (h_product : Has P w K mg base "product" 3 ["one", "other"] (spV K pProd)) (h_conjugate : Has P w K mg base "conjugate" 3 ["number"] (spV K pConj)) (h_norm : Has P w K mg base "norm" 3 ["number"] (spV K pNorm)) (h_less : Has P w K mg base "less" 3 ["one", "other"] (spV K pLess)) :
    Has P w K mg base "divided_left" 5 ["number", "divisor"] (spV K pDivl) := by
  refine D.has sc_divided_left (fun _ _ _ _ _ _ us hl => match us, hl with | [_, _], _ => rfl) (fun vs H Q E => lenN 2 fun ds r ⟨_, _, e, _⟩ => by rw [e]; rfl) fun f cdv A outer s H vs Q E hr h => ?_
  obtain ⟨ds, r, hd, ⟨x, y, rfl, hy, bx, bY, rfl⟩, q⟩ := h
  obtain ⟨v, u, rfl, dv, du⟩ := two_ hd
  refine ⟨_, (pss_cons (ps_expr (pe_has h_check_pair (hr.mono (by decide)) (by rfl) (pa_cons (pv 0) (pa_cons (pv 1) pa_nil))))
      (pss_cons (ps_set (i := 2) sc_divided_left.nd rfl (Or.inl rfl) (pe_has h_nearest (hr.mono (by decide)) (by rfl) (pa_cons (pe_has h_product (hr.mono (by decide)) (by rfl) (pa_cons (pe_has h_conjugate (hr.mono (by decide)) (by rfl) (pa_cons (pv 1) pa_nil)) (pa_cons (pv 0) pa_nil))) (pa_cons (pe_has h_norm (hr.mono (by decide)) (by rfl) (pa_cons (pv 1) pa_nil)) pa_nil))))
      (pss_one (ps_ret (pe_tup (pa_cons (pv 2) (pa_cons (pe_has h_less (hr.mono (by decide)) (by rfl) (pa_cons (pv 0) (pa_cons (pe_has h_product (hr.mono (by decide)) (by rfl) (pa_cons (pv 1) (pa_cons (pv 2) pa_nil))) pa_nil))) pa_nil))))))), ?_⟩
  have np := Hz.nm_pos hy
  have nl := nm_lt bY
  have bz : Bd 28 (Hz.mul y.conj x) := (bd_mul (bd_conj bY) bx).mono (by decide)
  have bq : Bd 31 (Hz.quo x y) := near_bd bz np nl
  refine q_dropD (is_call (ia2 (is_var rfl dv) (is_var rfl du)) ⟨x, y, rfl, hy, rfl⟩) fun H1 e1 => ?_
  have d1 := dp_ex e1 dv
  have d2 := dp_ex e1 du
  refine q_is (K := K) (d := tq (Hz.quo x y)) (is_call (ia2 (is_call (ia2 (is_call (ia0 (is_var rfl d2)) ⟨y, rfl, rfl⟩) (is_var rfl d1)) ⟨y.conj, x, rfl, (bd_conj bY).mono (by decide), bx.mono (by decide), rfl⟩) (is_call (ia0 (is_var rfl d2)) ⟨y, rfl, bY.mono (by decide), rfl⟩)) ⟨Hz.mul y.conj x, y.nm, rfl, bz, np, nl, rfl⟩) fun v2 H2 e2 dq => ?_
  have d3 := dp_ex e2 d1
  have d4 := dp_ex e2 d2
  refine s_isRet (K := K) (is_tup (ia2 (is_var rfl dq) (is_call (r := tq (Hz.rem x y)) (ia2 (is_var rfl d3) (is_call (ia2 (is_var rfl d4) (is_var rfl dq)) ⟨y, Hz.quo x y, rfl, bY.mono (by decide), bq.mono (by decide), rfl⟩)) ⟨x, Hz.mul y (Hz.quo x y), rfl, rfl⟩)) (by show 2 ≤ 100000; decide)) fun v H3 e3 dv => q v H3 (e1.trans (e2.trans e3)) dv
end
end TP.W
set_option maxHeartbeats 4000000
namespace TP.W
open PySem PySem.Spec PyProof.Rows L2 Evl RZ TP.L

section
variable {P : Program} {w : World} {K : PySem.W.Frag} {mg : Str → Option Value} {base : Heap}
abbrev s_left_quotient : Stmt := top 27
abbrev N_left_quotient : List Str := ["number", "divisor", "quotient", "rest"]
theorem sc_left_quotient : FnScope N_left_quotient ["number", "divisor"] (defScope s_left_quotient) := ⟨rfl, rfl, rfl, by decide +kernel, rfl, by decide +kernel, by decide +kernel⟩
def pLq : List PyData → PyData → Prop := fun ds r => ∃ x y : Hz, ds = [tq (Hz.mul y x), tq y] ∧ y ≠ Hz.zero ∧ Bd 12 (Hz.mul y x) ∧ Bd 12 y ∧ r = tq x
theorem ok_left_quotient (D : Dn K mg "left_quotient" s_left_quotient) (T : Txt K mg) (h_divided_left : Has P w K mg base "divided_left" 5 ["number", "divisor"] (spV K pDivl)) : Has P w K mg base "left_quotient" 6 ["number", "divisor"] (spV K pLq) := by
  refine D.has sc_left_quotient (fun _ _ _ _ _ _ us hl => match us, hl with | [_, _], _ => rfl) (fun vs H Q E => lenN 2 fun ds r ⟨_, _, e, _⟩ => by rw [e]; rfl) fun f cdv A outer s H vs Q E hr h => ?_
  obtain ⟨ds, r, hd, ⟨x, y, rfl, hy, bx, bY, rfl⟩, q⟩ := h
  obtain ⟨v, u, rfl, dv, du⟩ := two_ hd
  refine ⟨_, (pss_cons (ps_asg (pe_has h_divided_left (hr.mono (by decide)) (by rfl) (pa_cons (pv 0) (pa_cons (pv 1) pa_nil))) (pg_tup rfl (pgs_cons (pg_name (i := 2) sc_left_quotient.nd rfl (Or.inl rfl)) (pgs_cons (pg_name (i := 3) sc_left_quotient.nd rfl (Or.inl rfl)) pgs_nil))))
      (pss_one (ps_ret (pe_ifExp (pt_cmpR (op_eqD hr.units) (pv 3) (vTup T.gZD (by rfl)) (nomark _)) (pv 2) pe_non)))), ?_⟩
  refine q_un2 (is_call (ia2 (is_var rfl dv) (is_var rfl du)) ⟨Hz.mul y x, y, rfl, hy, bx, bY, rfl⟩) fun v2 v3 H1 e1 d1 d2 => ?_
  rw [Hz.quo_mul y x hy] at d1
  rw [Hz.rem_mul y x hy] at d2
  exact s_isRet (K := K) (is_if (et_is (K := K) (is_eqD (is_var rfl d2) is_K (shaped_tupI _) rfl)) (fun _ => is_var rfl d1) fun c => by
    rw [eqv_tupI] at c
    exact absurd rfl (of_decide_eq_false c)) fun v H2 e2 dv => q v H2 (e1.trans e2) dv
end
end TP.W
set_option maxHeartbeats 4000000
namespace TP.W
open PySem PySem.Spec PyProof.Rows L2 Evl RZ TP.L
theorem eqv_zero (x : Hz) : PyData.eqv (tq x) (tupI [0, 0, 0, 0]) = decide (x = Hz.zero) := by
  show PyData.eqv (tupI x.dl) (tupI [0, 0, 0, 0]) = _
  rw [eqv_tupI]
  exact decide_eq_decide.mpr ⟨fun h => dl_zero h, fun h => by rw [h]; rfl⟩
theorem q_par {K : PySem.W.Frag} {ta : TA} {tz : TS} {D : Ends} {σ : L2.St} {H : Hp} {i j : Nat} {d d' : PyData} (h : IsA K ta σ H [d, d']) (z : ∀ v w H1, Ex H H1 → Dp K H1 v d → Dp K H1 w d' → tz D ((σ.set i (some v)).set j (some w)) H1) : tSeq (tPar i j ta) tz D σ H := h H (Ex.refl _) _ fun vs H1 e dvs => by
  obtain ⟨v, w, rfl, dv, dw⟩ := two_ dvs
  exact ⟨v, w, rfl, z v w H1 e dv dw⟩
theorem s_par {K : PySem.W.Frag} {ta : TA} {D : Ends} {σ : L2.St} {H : Hp} {i j : Nat} {d d' : PyData} (h : IsA K ta σ H [d, d']) (z : ∀ v w H1, Ex H H1 → Dp K H1 v d → Dp K H1 w d' → D.nx ((σ.set i (some v)).set j (some w)) H1) : tPar i j ta D σ H := h H (Ex.refl _) _ fun vs H1 e dvs => by
  obtain ⟨v, w, rfl, dv, dw⟩ := two_ dvs
  exact ⟨v, w, rfl, z v w H1 e dv dw⟩
theorem bd_one : Bd 4 Hz.one := fun a ha => by
  have : ∀ a ∈ Hz.one.dl, a.natAbs < 2 ^ 4 := by decide
  exact this a ha
theorem bd_zero : Bd 4 Hz.zero := fun a ha => by
  have : ∀ a ∈ Hz.zero.dl, a.natAbs < 2 ^ 4 := by decide
  exact this a ha
theorem gcdF_stop {k : Nat} {a b : Hz} (hk : 0 < k) (hb : b = Hz.zero) : Hz.gcdF k a b = a := by
  cases k with
  | zero => exact absurd hk (Nat.lt_irrefl _)
  | succ k => unfold Hz.gcdF; rw [if_pos hb]
theorem gcdF_go {k : Nat} {a b : Hz} (hb : b ≠ Hz.zero) : Hz.gcdF (k + 1) a b = Hz.gcdF k b (Hz.rem a b) := by
  show (if b = Hz.zero then a else _) = _
  rw [if_neg hb]
def tri (a s t : Hz) : PyData := .tuple [tq a, tq s, tq t]
section
variable {P : Program} {w : World} {K : PySem.W.Frag} {mg : Str → Option Value} {base : Heap}
abbrev s_steps_of : Stmt := top 29
abbrev N_steps_of : List Str := ["one", "other", "now", "following", "quotient", "rest", "first", "second"]
theorem sc_steps_of : FnScope N_steps_of ["one", "other"] (defScope s_steps_of) := ⟨rfl, rfl, rfl, by decide +kernel, rfl, by decide +kernel, by decide +kernel⟩
def pSteps : List PyData → PyData → Prop := fun ds r => ∃ x y : Hz, ds = [tq x, tq y] ∧ x.nm ≤ 1048576 ∧ y.nm ≤ 100 ∧ ∃ s t u, r = .tuple [tri (Hz.gcd x y) s t, u]
def preSteps : List PyData → Prop := fun ds => ∃ x y : Hz, ds = [tq x, tq y] ∧ x.nm ≤ 1048576 ∧ y.nm ≤ 100
def WS (K : PySem.W.Frag) (x y : Hz) (H : Hp) (v0 v1 : V) (m : Nat) (σ' : L2.St) (H' : Hp) : Prop :=
  ∃ (v2 v3 : V) (y4 y5 y6 y7 : Option V) (a b s0 t0 s1 t1 : Hz) (k : Nat), σ' = [some v0, some v1, some v2, some v3, y4, y5, y6, y7] ∧ Ex H H' ∧ Dp K H' v2 (tri a s0 t0) ∧ Dp K H' v3 (tri b s1 t1) ∧
    b.nm.toNat = m ∧ m < k ∧ Hz.gcdF k a b = Hz.gcd x y ∧ a.nm ≤ 1048576 ∧ m ≤ 100 ∧ Bd (34 * (100 - m) + 4) s0 ∧ Bd (34 * (100 - m) + 4) t0 ∧ Bd (34 * (100 - m) + 4) s1 ∧ Bd (34 * (100 - m) + 4) t1
theorem ok_steps_of (D : Dn K mg "steps_of" s_steps_of) (T : Txt K mg) (h_divided_left : Has P w K mg base "divided_left" 5 ["number", "divisor"] (spV K pDivl))
    (h_product : Has P w K mg base "product" 3 ["one", "other"] (spV K pProd)) (h_less : Has P w K mg base "less" 3 ["one", "other"] (spV K pLess)) :
    Has P w K mg base "steps_of" 6 ["one", "other"] (spR K preSteps pSteps) := by
  refine D.has sc_steps_of (fun _ _ _ _ _ _ us hl => match us, hl with | [_, _], _ => rfl) (fun vs H Q E => lenR 2 fun ds ⟨_, _, e, _⟩ => by rw [e]; rfl) fun f cdv A outer s H vs Q E hr h => ?_
  obtain ⟨ds, hd, ⟨x, y, rfl, hx, hy⟩, q⟩ := h
  obtain ⟨v, u, rfl, dv, du⟩ := two_ hd
  refine ⟨_, (pss_cons (ps_set (i := 2) sc_steps_of.nd rfl (Or.inl rfl) (pe_tup (pa_cons (pe_callTy call_tuple_of (by rfl) T.tuple b_tuple (pa_cons (pv 0) pa_nil)) (pa_cons (vTup T.gONE (by rfl)) (pa_cons (vTup T.gZN (by rfl)) pa_nil)))))
      (pss_cons (ps_set (i := 3) sc_steps_of.nd rfl (Or.inl rfl) (pe_tup (pa_cons (pe_callTy call_tuple_of (by rfl) T.tuple b_tuple (pa_cons (pv 1) pa_nil)) (pa_cons (vTup T.gZN (by rfl)) (pa_cons (vTup T.gONE (by rfl)) pa_nil)))))
      (pss_cons (ps_while PassesOwn.never (pt_cmpR (op_neD hr.units) (pe_ix ix_tup (pv 3) pe_int (fun _ _ => rfl)) (vTup T.gZN (by rfl)) (nomark _))
      (pss_cons (ps_asg (pe_has h_divided_left (hr.mono (by decide)) (by rfl) (pa_cons (pe_ix ix_tup (pv 2) pe_int (fun _ _ => rfl)) (pa_cons (pe_ix ix_tup (pv 3) pe_int (fun _ _ => rfl)) pa_nil))) (pg_tup rfl (pgs_cons (pg_name (i := 4) sc_steps_of.nd rfl (Or.inl rfl)) (pgs_cons (pg_name (i := 5) sc_steps_of.nd rfl (Or.inl rfl)) pgs_nil))))
      (pss_cons (ps_set (i := 6) sc_steps_of.nd rfl (Or.inl rfl) (pe_has h_less (hr.mono (by decide)) (by rfl) (pa_cons (pe_ix ix_tup (pv 2) pe_int (fun _ _ => rfl)) (pa_cons (pe_has h_product (hr.mono (by decide)) (by rfl) (pa_cons (pe_ix ix_tup (pv 3) pe_int (fun _ _ => rfl)) (pa_cons (pv 4) pa_nil))) pa_nil))))
      (pss_cons (ps_set (i := 7) sc_steps_of.nd rfl (Or.inl rfl) (pe_has h_less (hr.mono (by decide)) (by rfl) (pa_cons (pe_ix ix_tup (pv 2) pe_int (fun _ _ => rfl)) (pa_cons (pe_has h_product (hr.mono (by decide)) (by rfl) (pa_cons (pe_ix ix_tup (pv 3) pe_int (fun _ _ => rfl)) (pa_cons (pv 4) pa_nil))) pa_nil))))
      (pss_one (ps_par (i := 2) (j := 3) rfl sc_steps_of.nd rfl rfl (by decide) rfl rfl (pa_cons (pv 3) (pa_cons (pe_tup (pa_cons (pv 5) (pa_cons (pv 6) (pa_cons (pv 7) pa_nil)))) pa_nil)) (by rfl)))))))
      (pss_one (ps_ret (pe_tup (pa_cons (pv 2) (pa_cons (pv 3) pa_nil)))))))), ?_⟩
  have ny := Hz.nm_nonneg y
  refine q_is (K := K) (d := tri x Hz.one Hz.zero) (is_tup (ds := [tq x, tq Hz.one, tq Hz.zero]) (ia_cons (is_tupleT (is_var rfl dv)) (ia2 is_K is_K)) (by show 3 ≤ 100000; decide)) fun v2 H1 e1 d2 => ?_
  refine q_is (K := K) (d := tri y Hz.zero Hz.one) (is_tup (ds := [tq y, tq Hz.zero, tq Hz.one]) (ia_cons (is_tupleT (is_var rfl (dp_ex e1 du))) (ia2 is_K is_K)) (by show 3 ≤ 100000; decide)) fun v3 H2 e2 d3 => ?_
  refine q_while (WS K x y H v u) y.nm.toNat ⟨v2, v3, none, none, none, none, x, y, _, _, _, _, y.nm.toNat + 1, rfl, e1.trans e2, dp_ex e2 d2, d3, rfl, Nat.lt_succ_self _, rfl, hx, by omega, bd_one.mono (by omega), bd_zero.mono (by omega), bd_zero.mono (by omega), bd_one.mono (by omega)⟩ fun m σ' H' z => ?_
  obtain ⟨v4, v5, y4, y5, y6, y7, a, b, s0, t0, s1, t1, k, rfl, e3, d4, d5, hm, hk, hg, ha, hm2, b1, b2, b3, b4⟩ := z
  refine ⟨_, et_is (K := K) (is_neD (is_ixT (k := 0) (is_var rfl d5) is_int rfl) is_K (shaped_tupI b) rfl), fun c H3 e4 => ?_, fun c H3 e4 => ?_⟩
  · rw [eqv_zero] at c
    have hb : b ≠ Hz.zero := by
      intro h
      rw [decide_eq_true h] at c
      cases c
    refine ⟨fun σ2 H4 => ∃ m', m' < m ∧ WS K x y H v u m' σ2 H4, fun σ2 H4 z => z, ?_⟩
    have bnp := Hz.nm_pos hb
    have rl := Hz.rem_lt a b hb
    have rn := Hz.nm_nonneg (Hz.rem a b)
    have ba : Bd 12 a := bd_nm ha
    have bb : Bd 12 b := bd_nm (by omega)
    have bq : Bd 31 (Hz.quo a b) := near_bd ((bd_mul (bd_conj bb) ba).mono (by decide)) bnp (nm_lt bb)
    have f4 := dp_ex e4 d4
    have f5 := dp_ex e4 d5
    refine q_un2 (K := K) (a := tq (Hz.quo a b)) (b := tq (Hz.rem a b)) (is_call (ia2 (is_ixT (k := 0) (is_var rfl f4) is_int rfl) (is_ixT (k := 0) (is_var rfl f5) is_int rfl)) ⟨a, b, rfl, hb, ba, bb, rfl⟩) fun w4 w5 H4 e5 g4 g5 => ?_
    have h4 := dp_ex e5 f4
    have h5 := dp_ex e5 f5
    refine q_is (K := K) (d := tq (Hz.sub s0 (Hz.mul s1 (Hz.quo a b)))) (is_call (ia2 (is_ixT (k := 1) (is_var rfl h4) is_int rfl) (is_call (r := tq (Hz.mul s1 (Hz.quo a b))) (ia2 (is_ixT (k := 1) (is_var rfl h5) is_int rfl) (is_var rfl g4)) ⟨s1, _, rfl, b3.mono (by omega), bq.mono (by decide), rfl⟩)) ⟨s0, _, rfl, rfl⟩) fun w6 H5 e6 g6 => ?_
    refine q_is (K := K) (d := tq (Hz.sub t0 (Hz.mul t1 (Hz.quo a b)))) (is_call (ia2 (is_ixT (k := 2) (is_var rfl (dp_ex e6 h4)) is_int rfl) (is_call (r := tq (Hz.mul t1 (Hz.quo a b))) (ia2 (is_ixT (k := 2) (is_var rfl (dp_ex e6 h5)) is_int rfl) (is_var rfl (dp_ex e6 g4))) ⟨t1, _, rfl, b4.mono (by omega), bq.mono (by decide), rfl⟩)) ⟨t0, _, rfl, rfl⟩) fun w7 H6 e7 g7 => ?_
    have e67 := e6.trans e7
    refine s_par (K := K) (d := tri b s1 t1) (d' := tri (Hz.rem a b) (Hz.sub s0 (Hz.mul s1 (Hz.quo a b))) (Hz.sub t0 (Hz.mul t1 (Hz.quo a b)))) (ia2 (is_var rfl (dp_ex e67 h5)) (is_tup (ia_cons (is_var rfl (dp_ex e67 g5)) (ia2 (is_var rfl (dp_ex e7 g6)) (is_var rfl g7))) (by show 3 ≤ 100000; decide))) fun v6 v7 H7 e8 g8 g9 => ?_
    have lt : (Hz.rem a b).nm.toNat < m := by omega
    have grow : ∀ {s t : Hz}, Bd (34 * (100 - m) + 4) s → Bd (34 * (100 - m) + 4) t → Bd (34 * (100 - (Hz.rem a b).nm.toNat) + 4) (Hz.sub s (Hz.mul t (Hz.quo a b))) := fun hs ht =>
      (bd_sub (hs.mono (Nat.le_add_right _ (31 + 1))) (bd_mul ht bq)).mono (by omega)
    refine ⟨(Hz.rem a b).nm.toNat, lt, v6, v7, some w4, some w5, some w6, some w7, b, Hz.rem a b, s1, t1, _, _, k - 1, rfl, e3.trans (e4.trans (e5.trans (e67.trans e8))), g8, g9, rfl, by omega, ?_, by omega, by omega, b3.mono (by omega), b4.mono (by omega), grow b1 b3, grow b2 b4⟩
    rw [← hg, show k = (k - 1) + 1 by omega, gcdF_go hb]
    rfl
  · rw [eqv_zero] at c
    have hb : b = Hz.zero := by
      cases h : decide (b = Hz.zero) with
      | true => exact of_decide_eq_true h
      | false => rw [h] at c; cases c
    have hg2 : Hz.gcd x y = a := hg.symm.trans (gcdF_stop (by omega) hb)
    refine s_isRet (K := K) (is_tup (ia2 (is_var rfl (dp_ex e4 d4)) (is_var rfl (dp_ex e4 d5))) (by show 2 ≤ 100000; decide)) fun v8 H4 e5 d8 => q _ v8 H4 ⟨x, y, rfl, hx, hy, s0, t0, tri b s1 t1, ?_⟩ (e3.trans (e4.trans e5)) d8
    rw [hg2]
end
end TP.W
set_option maxHeartbeats 4000000
namespace TP.W
open PySem PySem.Spec PyProof.Rows L2 Evl RZ TP.L
theorem gcd_small {x y : Hz} (hy : y ≠ Hz.zero) : Hz.gcd x y ≠ Hz.zero ∧ (Hz.gcd x y).nm ≤ y.nm := by
  obtain ⟨_, _, _, v, _, _, e⟩ := Hz.gcd_spec x y
  have hg : Hz.gcd x y ≠ Hz.zero := fun h => hy (by rw [e, h, Hz.zero_mul])
  refine ⟨hg, ?_⟩
  have hv : v ≠ Hz.zero := fun h => hy (by rw [e, h, Hz.mul_zero])
  have h2 : y.nm = (Hz.gcd x y).nm * v.nm := by
    have := congrArg Hz.nm e
    rw [Hz.nm_mul] at this
    exact this
  have a := Hz.nm_pos hg
  have b := Hz.nm_pos hv
  have : (Hz.gcd x y).nm * 1 ≤ (Hz.gcd x y).nm * v.nm := Int.mul_le_mul_of_nonneg_left (by omega) (by omega)
  omega
section
variable {X : Cx} {K : PySem.W.Frag} {pos : Pos}
theorem vTupK {x : Str} {ns : List Int} (hK : X.K = K) (h : ∃ a, X.mg x = some (.ref a) ∧ ∀ H, SqT X.K H a (ns.map V.int)) (hg : Gl X x) (hd : (x == ("__debug__" : Str)) = false := by decide) : PE X (.Name x pos) (tK K (tupI ns)) := hK ▸ vTup h hg hd
theorem op_eqDK (hK : X.K = K) (hu : X.A.units + 64 < cLine) : OpR X (compareOp .Eq) (rEqD K) := hK ▸ op_eqD hu
theorem ix_listK (hK : X.K = K) : IxR X (rIxL K) := hK ▸ ix_list
theorem ix_tupK (hK : X.K = K) : IxR X (rIxT K) := hK ▸ ix_tup
theorem call_tuple_ofK (hK : X.K = K) : CallR X (.type "tuple") (fun xs H Q => ∃ p ys, xs = [.ref p] ∧ ((SqL K H p ys ∧ ∀ l, H l = none → Q (.ref l) (upd H l (.tup ys))) ∨ (SqT K H p ys ∧ Q (.ref p) H))) := hK ▸ call_tuple_of
end
theorem canon_nm2 (x : Hz) : (Hz.canon x).nm = x.nm := Hz.nm_canon x
section
variable {P : Program} {w : World} {K : PySem.W.Frag} {mg : Str → Option Value} {base : Heap}
abbrev s_check_some : Stmt := top 30
abbrev N_check_some : List Str := ["numbers", "number"]
theorem sc_check_some : FnScope N_check_some ["numbers"] (defScope s_check_some) := ⟨rfl, rfl, rfl, by decide +kernel, rfl, by decide +kernel, by decide +kernel⟩
def pSome : List PyData → PyData → Prop := fun ds r => ∃ x y : Hz, ds = [.list [tq x, tq y]] ∧ y ≠ Hz.zero ∧ r = .none
theorem ok_check_some (D : Dn K mg "check_some" s_check_some) (T : Txt K mg) (h_check_number : Has P w K mg base "check_number" 2 ["number"] (spV K pChk)) : Has P w K mg base "check_some" 3 ["numbers"] (spV K pSome) := by
  refine D.has sc_check_some (fun _ _ _ _ _ _ us hl => match us, hl with | [_], _ => rfl) (fun vs H Q E => lenN 1 fun ds r ⟨_, _, e, _⟩ => by rw [e]; rfl) fun f cdv A outer s H vs Q E hr h => ?_
  obtain ⟨ds, r, hd, ⟨x, y, rfl, hy, rfl⟩, q⟩ := h
  obtain ⟨v, rfl, dv⟩ := one_ hd
  refine ⟨_, (pss_cons (ps_for PassesOwn.never rfl (pi_list (pv 0)) (pg_name (i := 1) sc_check_some.nd rfl (Or.inl rfl))
      (pss_one (ps_expr (pe_has h_check_number (hr.mono (by decide)) (by rfl) (pa_cons (pv 1) pa_nil)))))
      (pss_one (ps_if (pt_val (pe_callB (cr_all rfl) (by rfl) T.all b_all (pa_cons (pe_lc (own := [("number", 1)]) (tt := tYes) (g := (gName 1)) rfl sc_check_some.nd (pi_list (pv 0)) (blkOk_by (own := [("number", 1)]) (N := N_check_some) (sc := defScope s_check_some) (by decide +kernel)) (fun _ _ _ _ _ => (pg_name (i := 1) sc_check_some.nd rfl (Or.inl rfl))) (fun _ _ _ _ _ => pts_nil) (fun _ _ _ _ _ => (pe_cmpR (op_eqDK (K := K) rfl hr.units) (pe_callTy (call_tuple_ofK (K := K) rfl) (by rfl) T.tuple b_tuple (pa_cons (pv 1) pa_nil)) (vTupK (K := K) rfl T.gZN (by rfl)) (nomark _)))) pa_nil))) (pss_one ps_never) pss_nil))), ?_⟩
  refine s_forLX (K := K) (es := [tq x, tq y]) (is_var rfl dv) (fun H1 i σ' H' => ∃ y1, σ' = [some v, y1] ∧ Ex H H' ∧ Ex H1 H') (fun H1 e => ⟨none, rfl, e, Ex.refl _⟩) (fun H1 i σ' H' _ ⟨_, _, _, z⟩ => z) (fun H1 i z d σ' H' e1 hi dz p => ?_) fun H1 σ' H' e1 p => ?_
  · obtain ⟨y1, rfl, e2, e3⟩ := p
    have : ∃ t : Hz, d = tq t := by
      match i, hi with
      | 0, hi => exact ⟨x, (Option.some.inj hi).symm⟩
      | 1, hi => exact ⟨y, (Option.some.inj hi).symm⟩
      | n + 2, hi => cases hi
    obtain ⟨t, rfl⟩ := this
    exact s_drop_D (is_call (ia0 (is_var rfl (dp_ex e3 dz))) ⟨t, rfl, rfl⟩) fun H4 e4 => ⟨_, rfl, e2.trans e4, e3.trans e4⟩
  · obtain ⟨y1, rfl, e2, e3⟩ := p
    refine s_when (b := (([decide (x = Hz.zero), decide (y = Hz.zero)] : List Bool).all id)) (et_is (K := K) (is_all (bs := [decide (x = Hz.zero), decide (y = Hz.zero)]) (nw_lcL (es := [tq x, tq y]) (is_var rfl (dp_ex e2 dv)) (by show 2 ≤ 40000; decide) (fun _ => rfl) (by rfl) rfl fun i z d r H4 e4 h1 h2 dz => ?_).is)) (fun c H4 e4 => ?_) fun c H4 e4 => q .non H4 (e2.trans e4) .non
    · have : ∃ t : Hz, d = tq t ∧ r = .bool (decide (t = Hz.zero)) := by
        match i, h1, h2 with
        | 0, h1, h2 => exact ⟨x, (Option.some.inj h1).symm, (Option.some.inj h2).symm⟩
        | 1, h1, h2 => exact ⟨y, (Option.some.inj h1).symm, (Option.some.inj h2).symm⟩
        | n + 2, h1, h2 => cases h1
      obtain ⟨t, rfl, rfl⟩ := this
      rw [← eqv_zero]
      exact is_eqD (is_tupleT (is_var rfl dz)) is_K (shaped_tupI t) rfl
    · rw [decide_eq_false hy] at c
      simp at c
abbrev s_left_common : Stmt := top 31
abbrev N_left_common : List Str := ["one", "other"]
theorem sc_left_common : FnScope N_left_common ["one", "other"] (defScope s_left_common) := ⟨rfl, rfl, rfl, by decide +kernel, rfl, by decide +kernel, by decide +kernel⟩
def pLc : List PyData → PyData → Prop := fun ds r => ∃ x y : Hz, ds = [tq x, tq y] ∧ y ≠ Hz.zero ∧ x.nm ≤ 1048576 ∧ y.nm ≤ 100 ∧ r = tq (Hz.canon (Hz.gcd x y))
theorem ok_left_common (D : Dn K mg "left_common" s_left_common) (T : Txt K mg) (h_check_some : Has P w K mg base "check_some" 3 ["numbers"] (spV K pSome)) (h_canonical : Has P w K mg base "canonical" 5 ["number"] (spV K pCanon))
    (h_steps_of : Has P w K mg base "steps_of" 6 ["one", "other"] (spR K preSteps pSteps)) : Has P w K mg base "left_common" 7 ["one", "other"] (spV K pLc) := by
  refine D.has sc_left_common (fun _ _ _ _ _ _ us hl => match us, hl with | [_, _], _ => rfl) (fun vs H Q E => lenN 2 fun ds r ⟨_, _, e, _⟩ => by rw [e]; rfl) fun f cdv A outer s H vs Q E hr h => ?_
  obtain ⟨ds, r, hd, ⟨x, y, rfl, hy, hx, hn, rfl⟩, q⟩ := h
  obtain ⟨v, u, rfl, dv, du⟩ := two_ hd
  refine ⟨_, (pss_cons (ps_expr (pe_has h_check_some (hr.mono (by decide)) (by rfl) (pa_cons (pe_lst (pa_cons (pv 0) (pa_cons (pv 1) pa_nil))) pa_nil)))
      (pss_one (ps_ret (pe_has h_canonical (hr.mono (by decide)) (by rfl) (pa_cons (pe_ix ix_tup (pe_ix ix_tup (pe_has h_steps_of (hr.mono (by decide)) (by rfl) (pa_cons (pv 0) (pa_cons (pv 1) pa_nil))) pe_int (fun _ _ => rfl)) pe_int (fun _ _ => rfl)) pa_nil))))), ?_⟩
  obtain ⟨hg, hgn⟩ := gcd_small (x := x) hy
  refine q_dropD (is_call (ia0 (nw_lst (ia2 (is_var rfl dv) (is_var rfl du)) (by show 2 ≤ 100000; decide)).is) ⟨x, y, rfl, hy, rfl⟩) fun H1 e1 => ?_
  have d1 := dp_ex e1 dv
  have d2 := dp_ex e1 du
  refine s_isRet (K := K) (is_call (ia0 (Sh.is (R := fun d => d = tq (Hz.gcd x y)) (sh_ixT (k := 0) (R := fun d => ∃ s t, d = tri (Hz.gcd x y) s t) (sh_ixT (k := 0) (sh_call (ia2 (is_var rfl d1) (is_var rfl d2)) ⟨x, y, rfl, hx, hn⟩) is_int (fun d hd => ?_)) is_int (fun d hd => ?_)) fun _ h => h)) ⟨Hz.gcd x y, rfl, hg, (bd_nm (by omega)).mono (by decide), rfl⟩) fun v3 H3 e3 d3 => q v3 H3 (e1.trans e3) d3
  · obtain ⟨x', y', e, _, _, s, t, u, e2⟩ := hd
    have ex : x' = x ∧ y' = y := by
      have h0 : tq x = tq x' := by injection e
      have h1 : tq y = tq y' := by
        have := List.cons.inj e
        exact (List.cons.inj this.2).1
      have inj : ∀ {a b : Hz}, tq a = tq b → a = b := fun {a b} h => by
        have h2 := eqv_tupI a.dl b.dl
        have h3 : PyData.eqv (tupI a.dl) (tupI b.dl) = PyData.eqv (tupI b.dl) (tupI b.dl) := congrArg (fun z => PyData.eqv z (tupI b.dl)) h
        rw [h2, eqv_tupI, decide_eq_true (rfl : b.dl = b.dl)] at h3
        exact Hz.dl_inj (of_decide_eq_true h3)
      exact ⟨(inj h0).symm, (inj h1).symm⟩
    rw [ex.1, ex.2] at e2
    exact ⟨_, _, e2, rfl, s, t, rfl⟩
  · obtain ⟨s, t, e⟩ := hd
    exact ⟨_, _, e, rfl, rfl⟩
abbrev s_left_prime : Stmt := top 37
abbrev N_left_prime : List Str := ["number", "prime"]
theorem sc_left_prime : FnScope N_left_prime ["number", "prime"] (defScope s_left_prime) := ⟨rfl, rfl, rfl, by decide +kernel, rfl, by decide +kernel, by decide +kernel⟩
def pLp : List PyData → PyData → Prop := fun ds r => ∃ (x : Hz) (p : Int), ds = [tq x, .int p] ∧ x.nm ≤ 1048576 ∧ 0 < p ∧ p ≤ 10 ∧ r = tq (Hz.fac x p)
theorem ok_left_prime (D : Dn K mg "left_prime" s_left_prime) (T : Txt K mg) (h_left_common : Has P w K mg base "left_common" 7 ["one", "other"] (spV K pLc)) : Has P w K mg base "left_prime" 8 ["number", "prime"] (spV K pLp) := by
  refine D.has sc_left_prime (fun _ _ _ _ _ _ us hl => match us, hl with | [_, _], _ => rfl) (fun vs H Q E => lenN 2 fun ds r ⟨_, _, e, _⟩ => by rw [e]; rfl) fun f cdv A outer s H vs Q E hr h => ?_
  obtain ⟨ds, r, hd, ⟨x, p, rfl, hx, h0, hp, rfl⟩, q⟩ := h
  obtain ⟨v, u, rfl, dv, du⟩ := two_ hd
  refine ⟨_, (pss_one (ps_ret (pe_has h_left_common (hr.mono (by decide)) (by rfl) (pa_cons (pv 0) (pa_cons (pe_tup (pa_cons (pe_op op_mulW pe_int (pv 1)) (pa_cons pe_int (pa_cons pe_int (pa_cons pe_int pa_nil))))) pa_nil))))), ?_⟩
  rw [dp_int du]
  have pn : (Hz.ofI p).nm = p * p := Hz.nm_ofI p
  have pp : p * p ≤ 10 * 10 := Int.mul_le_mul hp hp (by omega) (by omega)
  have cm : CMulW 2 p := wide_mul (a := 2) (b := 10) (by decide) (by have : (2 : Nat) ^ 10 = 1024 := by decide
                                                                     omega) (by decide) (by decide) (by decide)
  have hz : Hz.ofI p ≠ Hz.zero := fun h => by
    have := congrArg Hz.p h
    have e : 2 * p = 0 := this
    omega
  refine s_isRet (K := K) (is_call (ia2 (is_var rfl dv) (Is.eq (d := tupI [2 * p, 0, 0, 0]) (is_tup (ds := inz [2 * p, 0, 0, 0]) (ia_cons (is_mulW is_int (is_var rfl (.int p)) cm) (ia_cons is_int (ia2 is_int is_int))) (by show 4 ≤ 100000; decide)) (tq_ofI p))) ⟨x, Hz.ofI p, rfl, hz, hx, by rw [pn]; omega, rfl⟩) fun v1 H1 e1 d1 => q v1 H1 e1 d1
end
end TP.W
set_option maxHeartbeats 4000000
namespace TP.W
open PySem PySem.Spec PyProof.Rows L2 Evl RZ TP.L
/-! ### the parts of an integer -/
def strip : Nat → Int → Int → Int → Int × Int
  | 0, v, _, c => (v, c)
  | k + 1, v, p, c => if v % p = 0 then strip k (v / p) p (c + 1) else (v, c)
theorem div_lt {v p : Int} (hv : 1 ≤ v) (hp : 2 ≤ p) (h : v % p = 0) : 1 ≤ v / p ∧ v / p < v := by
  have e := Int.emod_add_mul_ediv v p
  rw [h, Int.zero_add] at e
  have h1 : 0 < v / p := by
    refine Int.not_le.mp fun h2 => ?_
    have : p * (v / p) ≤ 0 := Int.mul_nonpos_of_nonneg_of_nonpos (by omega) h2
    omega
  refine ⟨h1, ?_⟩
  have : 2 * (v / p) ≤ p * (v / p) := Int.mul_le_mul_of_nonneg_right hp (by omega)
  omega
theorem strip_stop {k : Nat} {v p c : Int} (h : ¬ v % p = 0) : strip k v p c = (v, c) := by
  cases k with
  | zero => rfl
  | succ k => show (if v % p = 0 then _ else _) = _; rw [if_neg h]
theorem strip_go {k : Nat} {v p c : Int} (h : v % p = 0) : strip (k + 1) v p c = strip k (v / p) p (c + 1) := by
  show (if v % p = 0 then _ else _) = _; rw [if_pos h]
theorem strip_bd : ∀ (k : Nat) {v p c : Int}, 1 ≤ v → 2 ≤ p → 0 ≤ c → 1 ≤ (strip k v p c).1 ∧ (strip k v p c).1 ≤ v ∧ 0 ≤ (strip k v p c).2
  | 0, v, p, c, hv, hp, hc => ⟨hv, Int.le_refl _, hc⟩
  | k + 1, v, p, c, hv, hp, hc => by
    by_cases h : v % p = 0
    · rw [strip_go h]
      obtain ⟨a, b⟩ := div_lt hv hp h
      obtain ⟨i, j, l⟩ := strip_bd k a hp (Int.le_trans hc (Int.le_of_lt (Int.lt_succ _)))
      exact ⟨i, by omega, l⟩
    · rw [strip_stop h]
      exact ⟨hv, Int.le_refl _, hc⟩
def wpF : Nat → Int → Int → List (Int × Int) → List (Int × Int)
  | 0, _, _, acc => acc
  | k + 1, v, p, acc => if p * p ≤ v then wpF k (strip (v.toNat + 1) v p 0).1 (p + if p = 2 then 1 else 2) (if 0 < (strip (v.toNat + 1) v p 0).2 then acc ++ [(p, (strip (v.toNat + 1) v p 0).2)] else acc) else acc ++ (if 1 < v then [(v, 1)] else [])
theorem wpF_stop {k : Nat} {v p : Int} {acc : List (Int × Int)} (h : ¬ p * p ≤ v) : wpF (k + 1) v p acc = acc ++ (if 1 < v then [(v, 1)] else []) := by
  show (if p * p ≤ v then _ else _) = _; rw [if_neg h]
theorem wpF_go {k : Nat} {v p : Int} {acc : List (Int × Int)} (h : p * p ≤ v) : wpF (k + 1) v p acc = wpF k (strip (v.toNat + 1) v p 0).1 (p + if p = 2 then 1 else 2) (if 0 < (strip (v.toNat + 1) v p 0).2 then acc ++ [(p, (strip (v.toNat + 1) v p 0).2)] else acc) := by
  show (if p * p ≤ v then _ else _) = _; rw [if_pos h]
def wp (v : Int) : List (Int × Int) := wpF (v.toNat + 2) v 2 []
def pairD (t : Int × Int) : PyData := tupI [t.1, t.2]
theorem flats_pair (l : List (Int × Int)) : flats (l.map pairD) = true := flats_all fun d m => by
  obtain ⟨t, _, e⟩ := List.mem_map.mp m
  rw [← e]
  exact flat_tupI _
/-! ### rows -/
section
variable {K : PySem.W.Frag} {σ : L2.St} {H : Hp} {ta tb te : TE} {tt : TT} {D : Ends} {tz : TS} {ds es : List PyData} {a b : Int}
theorem q_augI {C : Int → Int → Prop} {f : Int → Int → V} {i : Nat} (hx : σ[i]? = some (some (.int a))) (h : Is K te σ H (.int b)) (hc : C a b) (z : ∀ H1, Ex H H1 → tz D (σ.set i (some (f a b))) H1) : tSeq (tAug i te (rI C f)) tz D σ H :=
  ⟨.int a, hx, h H (Ex.refl H) _ fun v H1 e dv => ⟨a, b, rfl, dp_int dv, hc, z H1 e⟩⟩
theorem s_augI {C : Int → Int → Prop} {f : Int → Int → V} {i : Nat} (hx : σ[i]? = some (some (.int a))) (h : Is K te σ H (.int b)) (hc : C a b) (z : ∀ H1, Ex H H1 → D.nx (σ.set i (some (f a b))) H1) : tAug i te (rI C f) D σ H :=
  ⟨.int a, hx, h H (Ex.refl H) _ fun v H1 e dv => ⟨a, b, rfl, dp_int dv, hc, z H1 e⟩⟩
theorem s_aug0 {f : Int → Int → V} {i : Nat} (hx : σ[i]? = some (some (.int a))) (h : Is K te σ H (.int b)) (z : ∀ H1, Ex H H1 → D.nx (σ.set i (some (f a b))) H1) : tAug i te (rI0 f) D σ H :=
  ⟨.int a, hx, h H (Ex.refl H) _ fun v H1 e dv => ⟨a, b, rfl, dp_int dv, z H1 e⟩⟩
theorem nw_if {b : Bool} (h : EvT tt σ H b) (h1 : b = true → Nw K ta σ H ds) (h2 : b = false → Nw K tb σ H ds) : Nw K (tIf tt ta tb) σ H ds := fun H1 e Q q => h H1 e _ fun H2 e2 => by
  cases b with
  | true =>
    show ta σ H2 Q
    exact h1 rfl H2 (e.trans e2) Q fun p vs H3 n e3 hp hd => q p vs H3 (fresh_back e2 n) (e2.trans e3) hp hd
  | false =>
    show tb σ H2 Q
    exact h2 rfl H2 (e.trans e2) Q fun p vs H3 n e3 hp hd => q p vs H3 (fresh_back e2 n) (e2.trans e3) hp hd
theorem nw_cat {l : Addr} {k : Nat} (hk : σ[k]? = some (some (.ref l))) (hl : LAt K l ds H) (h : Nw K tb σ H es) (hz : ds.length + es.length ≤ 100000) : Nw K (tOp rCat (tVar k) tb) σ H (ds ++ es) := fun H1 e Q q =>
  ⟨.ref l, hk, h H1 e _ fun p vs H2 n e2 hp hd => by
    obtain ⟨us, h1, h2⟩ := hl
    refine ⟨l, p, us, vs, rfl, rfl, e2 _ _ (e _ _ h1), hp, ?_, fun r hr => q r _ _ (fresh_back e2 hr) (e2.trans (Ex.new hr)) upd_same (dps_ex (Ex.new hr) (dps_app (dps_ex (e.trans e2) h2) hd))⟩
    rw [dps_len h2, dps_len hd]
    exact Nat.le_trans hz (by decide)⟩
end
section
variable {P : Program} {w : World} {K : PySem.W.Frag} {mg : Str → Option Value} {base : Heap}
abbrev s_whole_primes : Stmt := top 34
abbrev N_whole_primes : List Str := ["value", "found", "prime", "power"]
theorem sc_whole_primes : FnScope N_whole_primes ["value"] (defScope s_whole_primes) := ⟨rfl, rfl, rfl, by decide +kernel, rfl, by decide +kernel, by decide +kernel⟩
def pWP : List PyData → List PyData → Prop := fun ds r => ∃ v : Int, ds = [.int v] ∧ 1 ≤ v ∧ v ≤ 1048576 ∧ r = (wp v).map pairD
theorem ok_whole_primes (D : Dn K mg "whole_primes" s_whole_primes) (T : Txt K mg) : Has P w K mg base "whole_primes" 1 ["value"] (spL K pWP) := by
  refine D.has sc_whole_primes (fun _ _ _ _ _ _ us hl => match us, hl with | [_], _ => rfl) (fun vs H Q E => lenL 1 fun ds r ⟨_, e, _⟩ => by rw [e]; rfl) fun f cdv A outer s H vs Q E hr h => ?_
  obtain ⟨ds, r, hd, ⟨v, rfl, h1, h2, rfl⟩, q⟩ := h
  obtain ⟨v0, rfl, dv⟩ := one_ hd
  rw [dp_int dv]
  refine ⟨_, (pss_cons (ps_if (pt_not (pt_chain op_le op_le pe_int (pv 0) (vInt T.gMOST (by rfl)))) (pss_one ps_never) pss_nil)
      (pss_cons (ps_set (i := 1) sc_whole_primes.nd rfl (Or.inl rfl) (pe_lst pa_nil))
      (pss_cons (ps_set (i := 2) sc_whole_primes.nd rfl (Or.inl rfl) pe_int)
      (pss_cons (ps_while PassesOwn.never (pt_cmpR op_le (pe_op op_mulW (pv 2) (pv 2)) (pv 0) (nomark _))
      (pss_cons (ps_set (i := 3) sc_whole_primes.nd rfl (Or.inl rfl) pe_int)
      (pss_cons (ps_while PassesOwn.never (pt_cmpR op_eq (pe_op op_mod (pv 0) (pv 2)) pe_int (nomark _))
      (pss_cons (ps_aug (i := 0) sc_whole_primes.nd rfl (Or.inl rfl) (pv 2) iop_fdivW)
      (pss_one (ps_aug (i := 3) sc_whole_primes.nd rfl (Or.inl rfl) pe_int iop_add))))
      (pss_cons (ps_if (pt_cmpR op_gt (pv 3) pe_int (nomark _)) (pss_one (ps_expr (pe_bm PySem.F.plainAttrs_list PySem.F.slot_list_append PySem.F.type_list_append mt_append (pv 1) (pa_cons (pe_tup (pa_cons (pv 2) (pa_cons (pv 3) pa_nil))) pa_nil)))) pss_nil)
      (pss_one (ps_aug (i := 2) sc_whole_primes.nd rfl (Or.inl rfl) (pe_ifExp (pt_cmpR op_eq (pv 2) pe_int (nomark _)) pe_int pe_int) iop_add))))))
      (pss_one (ps_ret (pe_op op_cat (pv 1) (pe_ifExp (pt_cmpR op_gt (pv 0) pe_int (nomark _)) (pe_lst (pa_cons (pe_tup (pa_cons (pv 0) (pa_cons pe_int pa_nil))) pa_nil)) (pe_lst pa_nil))))))))), ?_⟩
  refine q_when (b := false) (Evl.et_not (a := true) (et_is (K := K) (Is.eq (is_chain (is_int (i := 1)) (is_var rfl (.int v)) (is_int (i := 1000000000000)) (b := decide ((1 : Int) ≤ v)) (c := decide (v ≤ 1000000000000)) (fun a b H1 da db Q q => ⟨1, v, dp_int da, dp_int db, q⟩) (fun a b H1 da db Q q => ⟨v, 1000000000000, dp_int da, dp_int db, q⟩)) (by rw [decide_eq_true h1, decide_eq_true (show v ≤ 1000000000000 by omega)]; rfl)))) (fun c => by cases c) fun _ H1 e1 => ?_
  refine q_nw (K := K) (ds := []) (nw_lst ia_nil (by decide)) fun l us H2 hl e2 hl2 hd2 => ?_
  have hn : H l = none := fresh_back e1 hl
  refine q_is (K := K) (is_int (i := 2)) fun v2 H3 e3 d3 => ?_
  rw [dp_int d3]
  refine q_while (fun m σ' H' => ∃ (u p : Int) (y3 : Option V) (acc : List (Int × Int)) (k : Nat), σ' = [some (.int u), some (.ref l), some (.int p), y3] ∧ Ex H H' ∧ LAt K l (acc.map pairD) H' ∧ 1 ≤ u ∧ u ≤ 1048576 ∧ 2 ≤ p ∧ p ≤ 1026 ∧ (acc.length : Int) + 2 ≤ p ∧ acc.length ≤ 2000 ∧ m = (u + 1 - p).toNat ∧ m < k ∧ wpF k u p acc = wp v) (v + 1 - 2).toNat
    ⟨v, 2, none, [], _, rfl, (e1.trans e2).trans e3, ⟨us, e3 _ _ hl2, dps_ex e3 hd2⟩, h1, h2, by decide, by decide, by decide, by decide, rfl, (by omega : (v + 1 - 2).toNat < v.toNat + 2), rfl⟩ fun m σ' H' z => ?_
  obtain ⟨u, p, y3, acc, k, rfl, e4, hA, u1, u2, p2, p26, ap, al, hm, hk, hw⟩ := z
  have pp : p * p ≤ u → p ≤ 1024 ∧ 2 * p ≤ u := fun h => by
    have h3 : 2 * p ≤ p * p := Int.mul_le_mul_of_nonneg_right p2 (by omega)
    refine ⟨Int.not_lt.mp fun h4 => ?_, by omega⟩
    have : 1025 * 1025 ≤ p * p := Int.mul_le_mul (by omega) (by omega) (by omega) (by omega)
    omega
  have cm : CMulW p p := wide_mul (a := 40) (b := 40) (by have : (2 : Nat) ^ 40 = 1099511627776 := by decide
                                                          omega) (by have : (2 : Nat) ^ 40 = 1099511627776 := by decide
                                                                     omega) (by decide) (by decide) (by decide)
  refine ⟨_, et_is (K := K) (is_le (is_mulW (is_var rfl (.int p)) (is_var rfl (.int p)) cm) (is_var rfl (.int u))), fun c H5 e5 => ?_, fun c H5 e5 => ?_⟩
  · have c := of_decide_eq_true c
    obtain ⟨p3, p4⟩ := pp c
    refine ⟨fun σ2 H6 => ∃ m', m' < m ∧ ∃ (u p : Int) (y3 : Option V) (acc : List (Int × Int)) (k : Nat), σ2 = [some (.int u), some (.ref l), some (.int p), y3] ∧ Ex H H6 ∧ LAt K l (acc.map pairD) H6 ∧ 1 ≤ u ∧ u ≤ 1048576 ∧ 2 ≤ p ∧ p ≤ 1026 ∧ (acc.length : Int) + 2 ≤ p ∧ acc.length ≤ 2000 ∧ m' = (u + 1 - p).toNat ∧ m' < k ∧ wpF k u p acc = wp v, fun _ _ z => z, ?_⟩
    refine q_is (K := K) (is_int (i := 0)) fun v3 H6 e6 d6 => ?_
    rw [dp_int d6]
    have hA6 := lat_ex (e5.trans e6) hA
    refine q_while (fun n σ2 H7 => ∃ (t c : Int) (j : Nat), σ2 = [some (.int t), some (.ref l), some (.int p), some (.int c)] ∧ Ex H H7 ∧ LAt K l (acc.map pairD) H7 ∧ 1 ≤ t ∧ 0 ≤ c ∧ n = t.toNat ∧ n < j ∧ strip j t p c = strip (u.toNat + 1) u p 0) u.toNat
      ⟨u, 0, _, rfl, e4.trans (e5.trans e6), hA6, u1, by decide, rfl, Nat.lt_succ_self _, rfl⟩ fun n σ2 H7 z => ?_
    obtain ⟨t, c0, j, rfl, e7, hA7, t1, c1, hn2, hj, hs⟩ := z
    refine ⟨_, et_is (K := K) (is_eqI (is_mod (is_var rfl (.int t)) (is_var rfl (.int p)) (by omega)) is_int), fun c2 H8 e8 => ?_, fun c2 H8 e8 => ?_⟩
    · have c2 := of_decide_eq_true c2
      obtain ⟨d1, d2⟩ := div_lt t1 p2 c2
      refine ⟨fun σ3 H9 => ∃ n', n' < n ∧ ∃ (t c : Int) (j : Nat), σ3 = [some (.int t), some (.ref l), some (.int p), some (.int c)] ∧ Ex H H9 ∧ LAt K l (acc.map pairD) H9 ∧ 1 ≤ t ∧ 0 ≤ c ∧ n' = t.toNat ∧ n' < j ∧ strip j t p c = strip (u.toNat + 1) u p 0, fun _ _ z => z, ?_⟩
      refine q_augI (K := K) (a := t) (b := p) rfl (is_var rfl (.int p)) (div_small (by omega) (by omega)) fun H9 e9 => ?_
      refine s_aug0 (K := K) (a := c0) (b := 1) rfl is_int fun H10 e10 => ?_
      have e80 := e8.trans (e9.trans e10)
      refine ⟨(t / p).toNat, by omega, t / p, c0 + 1, j - 1, rfl, e7.trans e80, lat_ex e80 hA7, d1, by omega, rfl, by omega, ?_⟩
      rw [← hs, show j = (j - 1) + 1 by omega, strip_go c2]
      rfl
    · have c2 := of_decide_eq_false c2
      have hs2 : strip (u.toNat + 1) u p 0 = (t, c0) := hs.symm.trans (strip_stop c2)
      have sb := strip_bd (u.toNat + 1) u1 p2 (Int.le_refl 0)
      rw [hs2] at sb
      have hw2 : wpF (k - 1) t (p + if p = 2 then 1 else 2) (if 0 < c0 then acc ++ [(p, c0)] else acc) = wp v := by
        rw [← hw, show k = (k - 1) + 1 by omega, wpF_go c, hs2]
        rfl
      have hA8 := lat_ex e8 hA7
      have inc : 1 ≤ (if p = 2 then (1 : Int) else 2) ∧ (if p = 2 then (1 : Int) else 2) ≤ 2 := by split <;> omega
      have fin : ∀ (acc2 : List (Int × Int)) (H9 : Hp), acc2.length ≤ acc.length + 1 → wpF (k - 1) t (p + if p = 2 then 1 else 2) acc2 = wp v → Ex H H9 → LAt K l (acc2.map pairD) H9 → ∀ H10, Ex H9 H10 →
          ∃ m', m' < m ∧ ∃ (u p' : Int) (y3 : Option V) (acc : List (Int × Int)) (k : Nat), [some (V.int t), some (.ref l), some (.int (p + if p = 2 then 1 else 2)), some (.int c0)] = [some (.int u), some (.ref l), some (.int p'), y3] ∧ Ex H H10 ∧ LAt K l (acc.map pairD) H10 ∧ 1 ≤ u ∧ u ≤ 1048576 ∧ 2 ≤ p' ∧ p' ≤ 1026 ∧ (acc.length : Int) + 2 ≤ p' ∧ acc.length ≤ 2000 ∧ m' = (u + 1 - p').toNat ∧ m' < k ∧ wpF k u p' acc = wp v := fun acc2 H9 h1 h2 h3 h4 H10 e10 => by
        generalize hq : (if p = 2 then (1 : Int) else 2) = ip at *
        exact ⟨(t + 1 - (p + ip)).toNat, by omega, t, p + ip, _, acc2, k - 1, rfl, h3.trans e10, lat_ex e10 h4, t1, by omega, by omega, by omega, by omega, by omega, rfl, by omega, h2⟩
      have step : ∀ (acc2 : List (Int × Int)) (H9 : Hp), acc2.length ≤ acc.length + 1 → wpF (k - 1) t (p + if p = 2 then 1 else 2) acc2 = wp v → Ex H H9 → LAt K l (acc2.map pairD) H9 → Is K (tIf (tTest (tOp rEq (tVar 2) (tC (.int 2)))) (tC (.int 1)) (tC (.int 2))) [some (.int t), some (.ref l), some (.int p), some (.int c0)] H9 (.int (if p = 2 then 1 else 2)) := fun _ H9 _ _ _ _ => by
        refine is_if (et_is (K := K) (is_eqI (is_var rfl (.int p)) is_int)) (fun c3 => ?_) fun c3 => ?_
        · rw [if_pos (of_decide_eq_true c3)]; exact is_int
        · rw [if_neg (of_decide_eq_false c3)]; exact is_int
      refine q_when (et_is (K := K) (is_gt (is_var rfl (.int c0)) is_int)) (fun c3 H9 e9 => ?_) fun c3 H9 e9 => ?_
      · have c3 := of_decide_eq_true c3
        rw [if_pos c3] at hw2
        obtain ⟨ws, w1, w2⟩ := lat_ex e9 hA8
        have wl := dps_len w2
        rw [List.length_map] at wl
        refine s_appD (K := K) (d := tupI [p, c0]) w1 ⟨1, rfl, rfl⟩ (is_tup (ds := inz [p, c0]) (ia2 (is_var rfl (.int p)) (is_var rfl (.int c0))) (by show 2 ≤ 100000; decide)) (by omega) fun v9 H10 e10 d10 => ?_
        have new := lat_app (K := K) (r := tupI [p, c0]) (e10 _ _ w1) (dps_ex e10 w2) (flats_pair _) d10 (flat_tupI _)
        have em : acc.map pairD ++ [tupI [p, c0]] = (acc ++ [(p, c0)]).map pairD := by rw [List.map_append]; rfl
        rw [em] at new
        have ee : Ex H (upd H10 l (.lst (ws ++ [v9]))) := Ex.mut (e7.trans (e8.trans (e9.trans e10))) hn
        have ll : (acc ++ [(p, c0)]).length ≤ acc.length + 1 := by rw [List.length_append]; exact Nat.le_refl _
        exact s_aug0 (K := K) (a := p) rfl (step _ _ ll hw2 ee new) fun H11 e11 => fin _ _ ll hw2 ee new H11 e11
      · have c3 := of_decide_eq_false c3
        rw [if_neg c3] at hw2
        have hA9 := lat_ex e9 hA8
        have ee : Ex H H9 := e7.trans (e8.trans e9)
        exact s_aug0 (K := K) (a := p) rfl (step _ _ (by omega) hw2 ee hA9) fun H11 e11 => fin _ _ (by omega) hw2 ee hA9 H11 e11
  · have c := of_decide_eq_false c
    have hw2 : acc ++ (if 1 < u then [(u, 1)] else []) = wp v := by
      rw [← hw, show k = (k - 1) + 1 by omega, wpF_stop c]
    rw [← hw2, List.map_append] at q
    refine s_nwRet (K := K) (nw_cat rfl (lat_ex e5 hA) (es := (if 1 < u then [(u, 1)] else []).map pairD) (nw_if (et_is (K := K) (is_gt (is_var rfl (.int u)) is_int)) (fun c2 => ?_) fun c2 => ?_) ?_) fun pr ps H6 n e6 h6 d6 => q pr ps H6 (fresh_back (e4.trans e5) n) (e4.trans (e5.trans e6)) h6 d6
    · rw [if_pos (of_decide_eq_true c2)]
      exact nw_lst (ia0 (is_tup (ds := inz [u, 1]) (ia2 (is_var rfl (.int u)) is_int) (by show 2 ≤ 100000; decide))) (by show 1 ≤ 100000; decide)
    · rw [if_neg (of_decide_eq_false c2)]
      exact nw_lst ia_nil (by decide)
    · rw [List.length_map, List.length_map]
      have : (if 1 < u then [(u, (1 : Int))] else []).length ≤ 1 := by split <;> simp
      omega
end
end TP.W
set_option maxHeartbeats 4000000
namespace TP.W
open PySem PySem.Spec PyProof.Rows L2 Evl RZ TP.L
/-! ### data that may be compared -/
def Lay (n : Nat) (d : PyData) : Prop := d.canLay0 = true ∧ d.depth ≤ n
theorem lay_int (i : Int) : Lay 1 (.int i) := ⟨by simp [PyData.canLay0], by simp [PyData.depth]⟩
theorem lay_all {n : Nat} : ∀ {ds : List PyData}, (∀ d ∈ ds, Lay n d) → PyData.canLayAll0 ds = true ∧ PyData.depthAll ds ≤ n
  | [], _ => ⟨by simp [PyData.canLayAll0], by simp [PyData.depthAll]⟩
  | d :: ds, h => by
    obtain ⟨a, b⟩ := h d List.mem_cons_self
    obtain ⟨c, e⟩ := lay_all fun x m => h x (List.mem_cons_of_mem _ m)
    refine ⟨?_, ?_⟩
    · simp [PyData.canLayAll0, a, c]
    · simp only [PyData.depthAll]
      omega
theorem lay_lst {n : Nat} {ds : List PyData} (h : ∀ d ∈ ds, Lay n d) : Lay (n + 1) (.list ds) := by
  obtain ⟨a, b⟩ := lay_all h
  refine ⟨by simp [PyData.canLay0, a], ?_⟩
  simp only [PyData.depth]
  omega
theorem lay_tup {n : Nat} {ds : List PyData} (h : ∀ d ∈ ds, Lay n d) : Lay (n + 1) (.tuple ds) := by
  obtain ⟨a, b⟩ := lay_all h
  refine ⟨by simp [PyData.canLay0, a], ?_⟩
  simp only [PyData.depth]
  omega
theorem Lay.mono {m n : Nat} {d : PyData} (h : Lay m d) (l : m ≤ n) : Lay n d := ⟨h.1, Nat.le_trans h.2 l⟩
theorem Lay.shaped {n : Nat} {d : PyData} (h : Lay n d) (l : n ≤ 64 := by decide) : SeqAt.shaped d = true := by
  unfold SeqAt.shaped
  rw [h.1, decide_eq_true (Nat.le_trans h.2 l)]
  rfl
theorem lay_inz {ns : List Int} : ∀ d ∈ inz ns, Lay 1 d := fun d m => by
  obtain ⟨i, _, e⟩ := List.mem_map.mp m
  rw [← e]
  exact lay_int i
theorem lay_tq (x : Hz) : Lay 2 (tq x) := lay_tup lay_inz
theorem lay_tqs (l : List Hz) : ∀ d ∈ l.map tq, Lay 2 d := fun d m => by
  obtain ⟨i, _, e⟩ := List.mem_map.mp m
  rw [← e]
  exact lay_tq i
theorem eqv_lay {n : Nat} {d : PyData} (h : Lay n d) : PyData.eqv d d = true := PySem.SeqAt.eqv_refl d h.1
theorem neg_lay {n : Nat} {d : PyData} (h : Lay n d) : (!PyData.eqv d d) = false := by rw [eqv_lay h]; rfl
/-! ### powers -/
def powers (v : Int) : List Int := (wp v).map (·.2)
def plist (v : Int) : List Int := (wp v).flatMap fun t => List.replicate t.2.toNat t.1
def good (v : Int) : Bool := (wp v).all (fun t => decide (0 ≤ t.2) && decide (t.2 ≤ 12)) && decide ((wp v).length ≤ 30) && decide ((powers v).sum ≤ 12) && decide (0 ≤ (powers v).sum)
theorem good_at {v : Int} (h : good v = true) : (∀ t ∈ wp v, 0 ≤ t.2 ∧ t.2 ≤ 12) ∧ (wp v).length ≤ 30 ∧ (powers v).sum ≤ 12 ∧ 0 ≤ (powers v).sum := by
  unfold good at h
  rw [Bool.and_eq_true, Bool.and_eq_true, Bool.and_eq_true, List.all_eq_true] at h
  obtain ⟨⟨⟨a, b⟩, c⟩, d⟩ := h
  refine ⟨fun t m => ?_, of_decide_eq_true b, of_decide_eq_true c, of_decide_eq_true d⟩
  have := a t m
  rw [Bool.and_eq_true] at this
  exact ⟨of_decide_eq_true this.1, of_decide_eq_true this.2⟩
def fct (k : Int) : Int := ((Builtin.Math.factorialNat k.toNat : Nat) : Int)
theorem fct_small : ∀ n : Nat, n < 13 → 0 < Builtin.Math.factorialNat n ∧ Builtin.Math.factorialNat n < 1000000000 := by decide +kernel
theorem fct_bd {k : Int} (h0 : 0 ≤ k) (h1 : k ≤ 12) : 0 < fct k ∧ fct k < 1000000000 := by
  obtain ⟨a, b⟩ := fct_small k.toNat (by omega)
  unfold fct
  omega
def ocount (v : Int) : Int := (powers v).foldl (fun f k => f / fct k) (fct (powers v).sum)
section
variable {K : PySem.W.Frag} {σ : L2.St} {H : Hp} {tl te : TE} {vs vs1 : List Nat}
/-- one clause over pairs -/
theorem nw_lcP {i0 i1 : Nat} {l : List (Int × Int)} (g : Int × Int → Int) (h : Is K tl σ H (.list (l.map pairD))) (hz : l.length ≤ 40000) (hw : ∀ x y, wipe (((wipe σ vs).set i0 (some x)).set i1 (some y)) vs = wipe σ vs)
    (he : ∀ t ∈ l, ∀ H1, Ex H H1 → Is K te (((wipe σ vs).set i0 (some (.int t.1))).set i1 (some (.int t.2))) H1 (.int (g t))) : Nw K (tLc (iList K tl) (gTup K 2 (gCons (gName i0) (gCons (gName i1) gNil))) tYes te vs) σ H (inz (l.map g)) :=
  nw_core (n := l.length) (by simp [inz]) (flats_ints _) hz fun H1 e1 R hR => h H1 e1 _ fun v H2 e2 dv => by
    obtain ⟨a, us, ev, hs, hd⟩ := dp_lst dv
    refine ⟨a, ev, ⟨us, hs⟩, ?_⟩
    have w := walk_list (K := K) (a := a) (xs := us)
    rw [dps_len hd, List.length_map] at w
    refine hR _ H2 _ _ e2 w (fun H3 e3 => ex_l e3 hs) fun i x Ha Hb r hi hr ea y => ?_
    obtain ⟨y1, y2⟩ := y
    rw [y1]
    obtain ⟨d, hd1, hd2⟩ := dps_get hd y2
    rw [List.getElem?_map] at hd1
    obtain ⟨m, hm, er⟩ := inz_get hr
    rw [List.getElem?_map] at hm
    cases ht : l[i]? with
    | none => rw [ht] at hd1; cases hd1
    | some t =>
      rw [ht] at hd1 hm
      rw [er, ← Option.some.inj hm]
      rw [← Option.some.inj hd1] at hd2
      obtain ⟨b, eb, hq⟩ := dp_tupI (dp_ex ea hd2)
      exact ⟨Ex.refl _, fun Qe Els hq2 => ⟨b, _, eb, hq, rfl, _, _, rfl, _, _, rfl, rfl, hw _ _, iteT (he t (List.mem_of_getElem? ht) Ha (e1.trans (e2.trans ea)) Ha (Ex.refl _) Qe hq2)⟩⟩
/-- two clauses: over pairs, over range(the second), the first as many times -/
theorem nw_lcRep {i0 i1 i2 : Nat} {l : List (Int × Int)} (h : Is K tl σ H (.list (l.map pairD))) (hl : l.length ≤ 30) (hb : ∀ t ∈ l, 0 ≤ t.2 ∧ t.2 ≤ 12) (hw : ∀ x y, wipe (((wipe σ vs).set i0 (some x)).set i1 (some y)) vs = wipe σ vs)
    (hw1 : ∀ x y z, wipe ((wipe (((wipe σ vs).set i0 (some x)).set i1 (some y)) vs1).set i2 (some z)) vs1 = wipe (((wipe σ vs).set i0 (some x)).set i1 (some y)) vs1)
    (h1 : ∀ x y, (((wipe σ vs).set i0 (some x)).set i1 (some y))[i1]? = some (some y))
    (h0 : ∀ x y z, ((wipe (((wipe σ vs).set i0 (some x)).set i1 (some y)) vs1).set i2 (some z))[i0]? = some (some x)) :
    Nw K (tLc2 (iList K tl) (gTup K 2 (gCons (gName i0) (gCons (gName i1) gNil))) tYes (iRng1 (tCons (tVar i1) tNil)) (gName i2) tYes (tVar i0) vs vs1) σ H (inz (l.flatMap fun t => List.replicate t.2.toNat t.1)) := fun H1 e1 Q q =>
  h H1 e1 _ fun v H2 e2 dv => by
    obtain ⟨p, us, ev, hs, hd⟩ := dp_lst dv
    have hlen := dps_len hd
    rw [List.length_map] at hlen
    refine ⟨p, ev, ⟨us, hs⟩, fun D hD => ⟨fun i m H' => m = l.length - i ∧ i ≤ l.length ∧ Ex H2 H' ∧ ∃ acc, H' D = some (.lst (acc.map V.int)) ∧ acc = (l.take i).flatMap (fun t => List.replicate t.2.toNat t.1) ∧ acc.length ≤ 12 * i, ⟨_, rfl, Nat.zero_le _, Ex.new hD, [], upd_same, by rw [List.take_zero]; rfl, Nat.le_refl _⟩, ?_⟩⟩
    rintro i m H' ⟨hm, hi, p1, acc, a1, a2, a3⟩
    have hq' := ex_l p1 hs
    by_cases hlt : i < l.length
    · obtain ⟨x, hx⟩ : ∃ x, us[i]? = some x := ⟨us[i]'(by omega), List.getElem?_eq_getElem _⟩
      refine .inr ⟨⟨_, _, hq', hx⟩, fun H3 => Ex H2 H3 ∧ ∃ acc, H3 D = some (.lst (acc.map V.int)) ∧ acc = (l.take (i + 1)).flatMap (fun t => List.replicate t.2.toNat t.1) ∧ acc.length ≤ 12 * (i + 1), fun H3 z => ⟨l.length - (i + 1), by omega, rfl, hlt, z⟩, fun x' H3 y => ?_⟩
      obtain ⟨y1, y2⟩ := y
      rw [y1]
      have ex : x' = x := Option.some.inj ((y2 _ hq').symm.trans hx)
      rw [ex]
      obtain ⟨d, hd1, hd2⟩ := dps_get hd hx
      rw [List.getElem?_map, List.getElem?_eq_getElem hlt] at hd1
      have ht := hb _ (List.getElem_mem hlt)
      have dd := dp_ex p1 hd2
      rw [← Option.some.inj hd1] at dd
      obtain ⟨b, eb, hq⟩ := dp_tupI dd
      refine ⟨b, _, eb, hq, rfl, _, _, rfl, _, _, rfl, rfl, hw _ _, ?_⟩
      simp only [tYes, ↓reduceIte]
      refine ⟨_, h1 _ _, l[i].2, rfl, by omega, by omega, ?_⟩
      refine ⟨fun j k H4 => k = l[i].2.toNat - j ∧ j ≤ l[i].2.toNat ∧ Ex H2 H4 ∧ H4 D = some (.lst ((acc ++ List.replicate j l[i].1).map V.int)), ⟨_, rfl, Nat.zero_le _, p1, by rw [List.replicate_zero, List.append_nil]; exact a1⟩, ?_⟩
      rintro j k H4 ⟨hk, hj, p4, p5⟩
      by_cases hlj : j < l[i].2.toNat
      · refine .inr ⟨hlj, fun H5 => Ex H2 H5 ∧ H5 D = some (.lst ((acc ++ List.replicate (j + 1) l[i].1).map V.int)), fun H5 z => ⟨l[i].2.toNat - (j + 1), by omega, rfl, hlj, z⟩, fun z H5 yz => ?_⟩
        obtain ⟨z1, z2⟩ := yz
        rw [z1]
        refine ⟨hw1 _ _ _, ?_⟩
        refine ⟨_, h0 _ _ _, _, p5, ?_, Ex.mut p4 hD, ?_⟩
        · rw [List.length_map, List.length_append, List.length_replicate]
          exact sz_lt (by omega)
        · rw [upd_same, List.replicate_succ', ← List.append_assoc, List.map_append (l₁ := acc ++ _)]
          rfl
      · have ej : j = l[i].2.toNat := by omega
        refine .inl ⟨by show l[i].2.toNat ≤ j; omega, p4, _, p5, ?_, ?_⟩
        · rw [List.take_add_one, List.getElem?_eq_getElem hlt, List.flatMap_append, ← a2, ej]
          simp
        · rw [List.length_append, List.length_replicate]
          omega
    · have e : i = l.length := by omega
      rw [e, List.take_length] at a2
      refine .inl ⟨⟨_, hq', by omega⟩, q D _ H' (fresh_back e2 hD) (e2.trans p1) a1 ?_⟩
      rw [← a2]
      exact dps_of_ints acc
end
section
variable {P : Program} {w : World} {K : PySem.W.Frag} {mg : Str → Option Value} {base : Heap}
abbrev s_prime_list : Stmt := top 35
abbrev N_prime_list : List Str := ["value", "prime", "power", "_"]
theorem sc_prime_list : FnScope N_prime_list ["value"] (defScope s_prime_list) := ⟨rfl, rfl, rfl, by decide +kernel, rfl, by decide +kernel, by decide +kernel⟩
def pPL : List PyData → List PyData → Prop := fun ds r => ∃ v : Int, ds = [.int v] ∧ 1 ≤ v ∧ v ≤ 1048576 ∧ good v = true ∧ r = inz (plist v)
theorem ok_prime_list (D : Dn K mg "prime_list" s_prime_list) (T : Txt K mg) (h_whole_primes : Has P w K mg base "whole_primes" 1 ["value"] (spL K pWP)) : Has P w K mg base "prime_list" 2 ["value"] (spL K pPL) := by
  refine D.has sc_prime_list (fun _ _ _ _ _ _ us hl => match us, hl with | [_], _ => rfl) (fun vs H Q E => lenL 1 fun ds r ⟨_, e, _⟩ => by rw [e]; rfl) fun f cdv A outer s H vs Q E hr h => ?_
  obtain ⟨ds, r, hd, ⟨v, rfl, h1, h2, hg, rfl⟩, q⟩ := h
  obtain ⟨v0, rfl, dv⟩ := one_ hd
  refine ⟨_, (pss_one (ps_ret (pe_lc2 (own := [("prime", 1), ("power", 2), ("_", 3)]) (vs1 := [3]) (tt := tYes) (tt1 := tYes) (g := (gTup K 2 (gCons (gName 1) (gCons (gName 2) gNil)))) (g1 := (gName 3)) rfl sc_prime_list.nd (pi_list (pe_has h_whole_primes (hr.mono (by decide)) (by rfl) (pa_cons (pv 0) pa_nil))) (blkOk_by (own := [("prime", 1), ("power", 2), ("_", 3)]) (N := N_prime_list) (sc := defScope s_prime_list) (by decide +kernel)) (by decide) (fun _ _ _ _ _ => (pg_tup rfl (pgs_cons (pg_name (i := 1) sc_prime_list.nd rfl (Or.inl rfl)) (pgs_cons (pg_name (i := 2) sc_prime_list.nd rfl (Or.inl rfl)) pgs_nil)))) (fun _ _ _ _ _ => pts_nil) (fun _ _ _ _ _ => (pi_range1 (by rfl) T.range (pa_cons (pv 2) pa_nil))) (fun _ _ _ _ _ => (pg_name (i := 3) sc_prime_list.nd rfl (Or.inl rfl))) (fun _ _ _ _ _ => pts_nil) (fun _ _ _ _ _ => (pv 1))))), ?_⟩
  obtain ⟨g1, g2, _, _⟩ := good_at hg
  exact s_nwRet (K := K) (nw_lcRep (nw_call (ia0 (is_var rfl dv)) ⟨v, rfl, h1, h2, rfl⟩).is g2 g1 (fun _ _ => rfl) (fun _ _ _ => rfl) (fun _ _ => rfl) (fun _ _ _ => rfl)) fun p us H3 hp e3 h3 d3 => q p us H3 hp e3 h3 d3
abbrev s_check_order : Stmt := top 36
abbrev N_check_order : List Str := ["number", "primes"]
theorem sc_check_order : FnScope N_check_order ["number", "primes"] (defScope s_check_order) := ⟨rfl, rfl, rfl, by decide +kernel, rfl, by decide +kernel, by decide +kernel⟩
def pCo : List PyData → PyData → Prop := fun ds r => ∃ (x : Hz) (ps : List Int), ds = [tq x, .list (inz ps)] ∧ x ≠ Hz.zero ∧ Bd 4000 x ∧ x.nm ≤ 1048576 ∧ good x.nm = true ∧ ps.Perm (plist x.nm) ∧ (plist x.nm).Pairwise (· ≤ ·) ∧ r = .none
theorem ok_check_order (D : Dn K mg "check_order" s_check_order) (T : Txt K mg) (h_check_not_zero : Has P w K mg base "check_not_zero" 3 ["number"] (spV K pChz)) (h_norm : Has P w K mg base "norm" 3 ["number"] (spV K pNorm)) (h_prime_list : Has P w K mg base "prime_list" 2 ["value"] (spL K pPL)) : Has P w K mg base "check_order" 4 ["number", "primes"] (spV K pCo) := by
  refine D.has sc_check_order (fun _ _ _ _ _ _ us hl => match us, hl with | [_, _], _ => rfl) (fun vs H Q E => lenN 2 fun ds r ⟨_, _, e, _⟩ => by rw [e]; rfl) fun f cdv A outer s H vs Q E hr h => ?_
  obtain ⟨ds, r, hd, ⟨x, ps, rfl, hx, hb, hn, hg, hp, hs, rfl⟩, q⟩ := h
  obtain ⟨v, u, rfl, dv, du⟩ := two_ hd
  refine ⟨_, (pss_cons (ps_expr (pe_has h_check_not_zero (hr.mono (by decide)) (by rfl) (pa_cons (pv 0) pa_nil)))
      (pss_one (ps_if (PW.pt (pw_or (pt_cmpR op_gt (pe_has h_norm (hr.mono (by decide)) (by rfl) (pa_cons (pv 0) pa_nil)) (vInt T.gMOST (by rfl)) (nomark _)) (pw_or1 (pt_cmpR (op_neD hr.units) (pe_callB cr_sortedI (by rfl) T.sorted b_sorted (pa_cons (pv 1) pa_nil)) (pe_has h_prime_list (hr.mono (by decide)) (by rfl) (pa_cons (pe_has h_norm (hr.mono (by decide)) (by rfl) (pa_cons (pv 0) pa_nil)) pa_nil)) (nomark _))))) (pss_one ps_never) pss_nil))), ?_⟩
  have np := Hz.nm_pos hx
  refine q_dropD (is_call (ia0 (is_var rfl dv)) ⟨x, rfl, hx, rfl⟩) fun H1 e1 => ?_
  have d1 := dp_ex e1 dv
  have d2 := dp_ex e1 du
  have lay : Lay 2 (.list (inz (plist x.nm))) := lay_lst lay_inz
  refine s_when (b := false || !PyData.eqv (.list (inz (plist x.nm))) (.list (inz (plist x.nm)))) (Evl.et_or (et_is (K := K) (Is.eq (is_gt (is_call (ia0 (is_var rfl d1)) ⟨x, rfl, hb, rfl⟩) (is_int (i := 1000000000000))) (by rw [decide_eq_false (show ¬ (1000000000000 : Int) < x.nm by omega)])))
    (fun _ => et_is (K := K) (is_neD (nw_sortI (is_var rfl d2) hp hs).is (nw_call (ia0 (is_call (ia0 (is_var rfl d1)) ⟨x, rfl, hb, rfl⟩)) ⟨x.nm, rfl, by omega, hn, hg, rfl⟩).is lay.shaped lay.shaped))) (fun c => ?_) fun _ H2 e2 => q .non H2 (e1.trans e2) .non
  rw [neg_lay lay] at c
  cases c
abbrev s_order_count : Stmt := top 40
abbrev N_order_count : List Str := ["number", "powers", "found", "power", "_"]
theorem sc_order_count : FnScope N_order_count ["number"] (defScope s_order_count) := ⟨rfl, rfl, rfl, by decide +kernel, rfl, by decide +kernel, by decide +kernel⟩
def pOc : List PyData → PyData → Prop := fun ds r => ∃ x : Hz, ds = [tq x] ∧ x ≠ Hz.zero ∧ Bd 4000 x ∧ x.nm ≤ 1048576 ∧ good x.nm = true ∧ r = .int (ocount x.nm)
theorem ok_order_count (D : Dn K mg "order_count" s_order_count) (T : Txt K mg) (h_check_not_zero : Has P w K mg base "check_not_zero" 3 ["number"] (spV K pChz)) (h_norm : Has P w K mg base "norm" 3 ["number"] (spV K pNorm)) (h_whole_primes : Has P w K mg base "whole_primes" 1 ["value"] (spL K pWP)) : Has P w K mg base "order_count" 4 ["number"] (spV K pOc) := by
  refine D.has sc_order_count (fun _ _ _ _ _ _ us hl => match us, hl with | [_], _ => rfl) (fun vs H Q E => lenN 1 fun ds r ⟨_, e, _⟩ => by rw [e]; rfl) fun f cdv A outer s H vs Q E hr h => ?_
  obtain ⟨ds, r, hd, ⟨x, rfl, hx, hb, hn, hg, rfl⟩, q⟩ := h
  obtain ⟨v, rfl, dv⟩ := one_ hd
  refine ⟨_, (pss_cons (ps_expr (pe_has h_check_not_zero (hr.mono (by decide)) (by rfl) (pa_cons (pv 0) pa_nil)))
      (pss_cons (ps_setLc (i := 1) (own := [("_", 4), ("power", 3)]) (tt := tYes) (g := (gTup K 2 (gCons (gName 4) (gCons (gName 3) gNil)))) rfl sc_order_count.nd rfl rfl (sw_true rfl rfl rfl (by decide +kernel)) (pi_list (pe_has h_whole_primes (hr.mono (by decide)) (by rfl) (pa_cons (pe_has h_norm (hr.mono (by decide)) (by rfl) (pa_cons (pv 0) pa_nil)) pa_nil))) (blkOk_by (own := [("_", 4), ("power", 3)]) (N := N_order_count) (sc := defScope s_order_count) (by decide +kernel)) (fun _ _ _ _ _ => (pg_tup rfl (pgs_cons (pg_name (i := 4) sc_order_count.nd rfl (Or.inl rfl)) (pgs_cons (pg_name (i := 3) sc_order_count.nd rfl (Or.inl rfl)) pgs_nil)))) (fun _ _ _ _ _ => pts_nil) (fun _ _ _ _ _ => (pv 3)))
      (pss_cons (ps_set (i := 2) sc_order_count.nd rfl (Or.inl rfl) (pe_callBfun TP.R.cr_fact (by rfl) T.factorial (pa_cons (pe_callB (cr_sum rfl) (by rfl) T.sum b_sum (pa_cons (pv 1) pa_nil)) pa_nil)))
      (pss_cons (ps_for PassesOwn.never rfl (pi_list (pv 1)) (pg_name (i := 3) sc_order_count.nd rfl (Or.inl rfl))
      (pss_one (ps_aug (i := 2) sc_order_count.nd rfl (Or.inl rfl) (pe_callBfun TP.R.cr_fact (by rfl) T.factorial (pa_cons (pv 3) pa_nil)) iop_fdivW)))
      (pss_one (ps_ret (pv 2))))))), ?_⟩
  have np := Hz.nm_pos hx
  obtain ⟨g1, g2, g3, g4⟩ := good_at hg
  refine q_dropD (is_call (ia0 (is_var rfl dv)) ⟨x, rfl, hx, rfl⟩) fun H1 e1 => ?_
  refine q_nw (K := K) (ds := inz (powers x.nm)) (nw_lcP (l := wp x.nm) (·.2) (nw_call (ia0 (is_call (ia0 (is_var rfl (dp_ex e1 dv))) ⟨x, rfl, hb, rfl⟩)) ⟨x.nm, rfl, by omega, hn, rfl⟩).is (by omega) (fun _ _ => rfl) fun t ht H2 e2 => is_var rfl (.int _)) fun l us H2 hl e2 hl2 hd2 => ?_
  have dl : Dp K H2 (.ref l) (.list (inz (powers x.nm))) := .lst (.inl (.inl hl2)) hd2
  refine q_is (K := K) (is_fact (is_sum (is_var rfl dl)) g4 g3) fun v3 H3 e3 d3 => ?_
  rw [dp_int d3]
  have pb : ∀ k ∈ powers x.nm, 0 ≤ k ∧ k ≤ 12 := fun k m => by
    obtain ⟨t, ht, e⟩ := List.mem_map.mp m
    rw [← e]
    exact g1 t ht
  refine s_forLX (K := K) (es := inz (powers x.nm)) (is_var rfl (dp_ex e3 dl)) (fun H4 i σ' H' => ∃ y3, σ' = [some v, some (.ref l), some (.int (((powers x.nm).take i).foldl (fun f k => f / fct k) (fct (powers x.nm).sum))), y3, none] ∧ Ex H H' ∧ Ex H4 H') (fun H4 e4 => ⟨none, rfl, e1.trans (e2.trans (e3.trans e4)), Ex.refl _⟩) (fun _ _ _ _ _ z => by obtain ⟨_, _, _, z⟩ := z; exact z) (fun H4 i z d σ' H' e4 hi dz p => ?_) fun H4 σ' H' e4 p => ?_
  · obtain ⟨y3, rfl, e5, e6⟩ := p
    obtain ⟨k, hk, ed⟩ := inz_get hi
    rw [ed] at dz
    rw [dp_int dz]
    obtain ⟨k0, k1⟩ := pb k (List.mem_of_getElem? hk)
    obtain ⟨f0, f1⟩ := fct_bd k0 k1
    refine s_augI (K := K) (b := fct k) rfl (is_fact (is_var rfl (.int k)) k0 k1) (wide_div (b := 60) f0 (by have : (2 : Nat) ^ 60 = 1152921504606846976 := by decide
                                                                                                             omega) (by decide) (by decide)) fun H5 e7 => ⟨some (.int k), ?_, e5.trans e7, e6.trans e7⟩
    rw [List.take_add_one, hk, Option.toList_some, List.foldl_append]
    rfl
  · obtain ⟨y3, rfl, e5, e6⟩ := p
    refine s_isRet (K := K) (is_var rfl (.int _)) fun v4 H5 e7 d4 => q v4 H5 (e5.trans e7) ?_
    have e8 : (inz (powers x.nm)).length = (powers x.nm).length := by simp [inz]
    rw [e8, List.take_length] at d4
    exact d4
end
end TP.W
set_option maxHeartbeats 4000000
namespace TP.W
open PySem PySem.Spec PyProof.Rows L2 Evl RZ TP.L
theorem isP_bd {p : Int} (h : Hz.isP p) : 2 ≤ p ∧ p ≤ 7 := by rcases h with h | h | h | h <;> subst h <;> decide
theorem prod_pos : ∀ {ps : List Int}, (∀ p ∈ ps, Hz.isP p) → 1 ≤ Hz.prod ps
  | [], _ => Int.le_refl 1
  | p :: ps, h => by
    have a := prod_pos fun r m => h r (List.mem_cons_of_mem _ m)
    have b := isP_bd (h p List.mem_cons_self)
    have : 2 * 1 ≤ p * Hz.prod ps := Int.mul_le_mul b.1 a (by omega) (by omega)
    show 1 ≤ p * Hz.prod ps
    omega
theorem prod_drop : ∀ (ps : List Int) (i : Nat), (∀ p ∈ ps, Hz.isP p) → Hz.prod (ps.drop i) ≤ Hz.prod ps
  | [], i, _ => by simp
  | p :: ps, 0, _ => Int.le_refl _
  | p :: ps, i + 1, h => by
    have a := prod_drop ps i fun r m => h r (List.mem_cons_of_mem _ m)
    have c := prod_pos fun r m => h r (List.mem_cons_of_mem _ m)
    have b := isP_bd (h p List.mem_cons_self)
    have : 2 * Hz.prod ps ≤ p * Hz.prod ps := Int.mul_le_mul_of_nonneg_right b.1 (by omega)
    show Hz.prod (ps.drop i) ≤ p * Hz.prod ps
    omega
theorem drop_cons {ps : List Int} {i : Nat} {p : Int} (h : ps[i]? = some p) : ps.drop i = p :: ps.drop (i + 1) := by
  have hl : i < ps.length := (List.getElem?_eq_some_iff.mp h).1
  rw [List.drop_eq_getElem_cons hl, (List.getElem?_eq_some_iff.mp h).2]
section
variable {K : PySem.W.Frag} {σ : L2.St} {H0 H : Hp} {es : List PyData} {D : Ends} {tu : TS} {g : TG}
theorem s_isAsg {te : TE} {k : Nat} {d : PyData} (h : Is K te σ H d) (z : ∀ v H1, Ex H H1 → Dp K H1 v d → D.nx (σ.set k (some v)) H1) : tAsg te (gName k) D σ H := h H (Ex.refl _) _ fun v H1 e dv => z v H1 e dv
/-- for over a list older than the one changed within -/
theorem s_forLE {a : Addr} {k : Nat} {us : List V} (hk : σ[k]? = some (some (.ref a))) (hq : SqL K H0 a us) (hd2 : DpAll K H0 us es) (e0 : Ex H0 H) (Pv : Nat → L2.St → Hp → Prop) (h0 : Pv 0 σ H) (stay : ∀ i σ' H', Pv i σ' H' → Ex H0 H')
    (hs : ∀ i x d σ' H', es[i]? = some d → Dp K H0 x d → Pv i σ' H' → g x σ' H' fun σ2 H2 => tu { D with nx := Pv (i + 1), ct := Pv (i + 1), bk := D.nx } σ2 H2) (hd : ∀ σ' H', Pv es.length σ' H' → D.nx σ' H') : tFor (iList K (tVar k)) g tu D σ H := by
  refine ⟨.ref a, hk, a, rfl, ⟨us, ex_l e0 hq⟩, for_list (K := K) (xs := us) Pv h0 (fun i σ' H' _ p => ex_l (stay i σ' H' p) hq) (fun i x σ' H' hx p => ?_) fun σ' H' p => hd σ' H' (by rw [← dps_len hd2]; exact p)⟩
  obtain ⟨d, z1, z2⟩ := dps_get hd2 hx
  exact hs i x d σ' H' z1 z2 p
end
theorem flats_tqs (l : List Hz) : flats (l.map tq) = true := flats_all fun d m => by
  obtain ⟨x, _, e⟩ := List.mem_map.mp m
  rw [← e]
  exact flat_tupI _
section
variable {P : Program} {w : World} {K : PySem.W.Frag} {mg : Str → Option Value} {base : Heap}
abbrev s_row_of : Stmt := top 38
abbrev N_row_of : List Str := ["number", "primes", "rest", "row", "prime", "factor"]
theorem sc_row_of : FnScope N_row_of ["number", "primes"] (defScope s_row_of) := ⟨rfl, rfl, rfl, by decide +kernel, rfl, by decide +kernel, by decide +kernel⟩
/-- what a row is asked of -/
def Rowy (x : Hz) (ps : List Int) : Prop := Hz.Prim x ∧ x.nm = Hz.prod ps ∧ (∀ p ∈ ps, Hz.isP p) ∧ ps.length ≤ 5 ∧ Hz.prod ps ≤ 1048576 ∧ good (Hz.prod ps) = true ∧ ps.Perm (plist (Hz.prod ps)) ∧ (plist (Hz.prod ps)).Pairwise (· ≤ ·)
def rowD (z : List Hz × Hz) : PyData := .tuple [.list (z.1.map tq), tq z.2]
def pRow : List PyData → PyData → Prop := fun ds r => ∃ (x : Hz) (ps : List Int), ds = [tq x, .list (inz ps)] ∧ Rowy x ps ∧ r = rowD (Hz.rowF ps x)
theorem ok_row_of (D : Dn K mg "row_of" s_row_of) (T : Txt K mg) (h_check_order : Has P w K mg base "check_order" 4 ["number", "primes"] (spV K pCo)) (h_is_primitive : Has P w K mg base "is_primitive" 5 ["number"] (spV K pPrim))
    (h_left_prime : Has P w K mg base "left_prime" 8 ["number", "prime"] (spV K pLp)) (h_left_quotient : Has P w K mg base "left_quotient" 6 ["number", "divisor"] (spV K pLq)) : Has P w K mg base "row_of" 9 ["number", "primes"] (spV K pRow) := by
  refine D.has sc_row_of (fun _ _ _ _ _ _ us hl => match us, hl with | [_, _], _ => rfl) (fun vs H Q E => lenN 2 fun ds r ⟨_, _, e, _⟩ => by rw [e]; rfl) fun f cdv A outer s H vs Q E hr h => ?_
  obtain ⟨ds, r, hd, ⟨x, ps, rfl, ⟨hp, hn, hi, hl, hb, hg, pm, pw⟩, rfl⟩, q⟩ := h
  obtain ⟨v, u, rfl, dv, du⟩ := two_ hd
  refine ⟨_, (pss_cons (ps_expr (pe_has h_check_order (hr.mono (by decide)) (by rfl) (pa_cons (pv 0) (pa_cons (pv 1) pa_nil))))
      (pss_cons (ps_if (pt_not (pt_val (pe_has h_is_primitive (hr.mono (by decide)) (by rfl) (pa_cons (pv 0) pa_nil)))) (pss_one ps_never) pss_nil)
      (pss_cons (ps_set (i := 2) sc_row_of.nd rfl (Or.inl rfl) (pe_callTy call_tuple_of (by rfl) T.tuple b_tuple (pa_cons (pv 0) pa_nil)))
      (pss_cons (ps_set (i := 3) sc_row_of.nd rfl (Or.inl rfl) (pe_lst pa_nil))
      (pss_cons (ps_for PassesOwn.never rfl (pi_list (pv 1)) (pg_name (i := 4) sc_row_of.nd rfl (Or.inl rfl))
      (pss_cons (ps_set (i := 5) sc_row_of.nd rfl (Or.inl rfl) (pe_has h_left_prime (hr.mono (by decide)) (by rfl) (pa_cons (pv 2) (pa_cons (pv 4) pa_nil))))
      (pss_cons (ps_expr (pe_bm PySem.F.plainAttrs_list PySem.F.slot_list_append PySem.F.type_list_append mt_append (pv 3) (pa_cons (pv 5) pa_nil)))
      (pss_one (ps_set (i := 2) sc_row_of.nd rfl (Or.inl rfl) (pe_has h_left_quotient (hr.mono (by decide)) (by rfl) (pa_cons (pv 2) (pa_cons (pv 5) pa_nil))))))))
      (pss_one (ps_ret (pe_tup (pa_cons (pv 3) (pa_cons (pv 2) pa_nil)))))))))), ?_⟩
  have hx := hp.ne
  have bx : Bd 12 x := bd_nm (by omega)
  rw [← hn] at hg pm pw
  refine q_dropD (is_call (ia2 (is_var rfl dv) (is_var rfl du)) ⟨x, ps, rfl, hx, bx.mono (by decide), by omega, hg, pm, pw, rfl⟩) fun H1 e1 => ?_
  refine q_when (b := !decide (cont x = 1)) (Evl.et_not (et_isB (K := K) (is_call (ia0 (is_var rfl (dp_ex e1 dv))) ⟨x, rfl, hx, bx.mono (by decide), rfl⟩))) (fun c => by rw [cont_prim hp] at c; cases c) fun _ H2 e2 => ?_
  have e12 := e1.trans e2
  refine q_is (K := K) (is_tupleT (is_var rfl (dp_ex e12 dv))) fun v2 H3 e3 d2 => ?_
  refine q_nw (K := K) (ds := []) (nw_lst ia_nil (by decide)) fun l us H4 hln e4 hl4 hd4 => ?_
  have e03 := e12.trans e3
  have hn0 : H l = none := fresh_back e03 hln
  obtain ⟨a, ws, rfl, hq, hws⟩ := dp_lst du
  refine s_forLE (K := K) (H0 := H) (es := inz ps) rfl hq hws (e03.trans e4) (fun i σ' H' => ∃ (v2 : V) (y4 y5 : Option V) (z : Hz) (acc : List Hz), σ' = [some v, some (.ref a), some v2, some (.ref l), y4, y5] ∧ Ex H H' ∧ LAt K l (acc.map tq) H' ∧ Dp K H' v2 (tq z) ∧ acc.length = i ∧ Hz.Prim z ∧ z.nm = Hz.prod (ps.drop i) ∧ acc ++ (Hz.rowF (ps.drop i) z).1 = (Hz.rowF ps x).1 ∧ (Hz.rowF (ps.drop i) z).2 = (Hz.rowF ps x).2)
    ⟨v2, none, none, x, [], rfl, e03.trans e4, ⟨us, hl4, hd4⟩, dp_ex e4 d2, rfl, hp, hn, rfl, rfl⟩ (fun i σ' H' z => by obtain ⟨_, _, _, _, _, _, z, _⟩ := z; exact z) (fun i y d σ' H' hi2 dy z => ?_) fun σ' H' z => ?_
  · obtain ⟨w2, y4, y5, z, acc, rfl, e5, hA, dz, al, zp, zn, ra, ru⟩ := z
    obtain ⟨p, hpi, ed⟩ := inz_get hi2
    rw [ed] at dy
    rw [dp_int dy]
    have hil : i < ps.length := (List.getElem?_eq_some_iff.mp hpi).1
    rw [drop_cons hpi] at zn ra ru
    have hps : ∀ r ∈ p :: ps.drop (i + 1), Hz.isP r := fun r m => by
      rw [← drop_cons hpi] at m
      exact hi r (List.mem_of_mem_drop m)
    obtain ⟨n1, n2, n3, n4⟩ := Hz.row_next hps zp zn
    have pb := isP_bd (hps p List.mem_cons_self)
    have zb : z.nm ≤ 1048576 := by
      have := prod_drop ps i hi
      rw [drop_cons hpi, ← zn] at this
      omega
    have fz : Hz.fac z p ≠ Hz.zero := fun h => by rw [h, Hz.nm_zero] at n3; omega
    refine q_is (K := K) (is_call (ia2 (is_var rfl dz) (is_var rfl (.int p))) ⟨z, p, rfl, zb, by omega, by omega, rfl⟩) fun v5 H5 e6 d5 => ?_
    obtain ⟨bs, b1, b2⟩ := lat_ex e6 hA
    have bl := dps_len b2
    rw [List.length_map] at bl
    refine q_appD (K := K) (d := tq (Hz.fac z p)) b1 ⟨3, rfl, rfl⟩ (is_var rfl d5) (by omega) fun v6 H6 e7 d6 => ?_
    have new := lat_app (K := K) (r := tq (Hz.fac z p)) (e7 _ _ b1) (dps_ex e7 b2) (flats_tqs _) d6 (flat_tupI _)
    have isl : IsL H6 l := ⟨_, e7 _ _ b1⟩
    have em : acc.map tq ++ [tq (Hz.fac z p)] = (acc ++ [Hz.fac z p]).map tq := by rw [List.map_append]; rfl
    rw [em] at new
    have g1 := dp_exb isl ExB.put (flat_tupI _) (dp_ex (e6.trans e7) dz) (H' := upd H6 l (.lst (bs ++ [v6])))
    have g2 := dp_exb isl ExB.put (flat_tupI _) (dp_ex e7 d5) (H' := upd H6 l (.lst (bs ++ [v6])))
    have ee : Ex H (upd H6 l (.lst (bs ++ [v6]))) := Ex.mut (e5.trans (e6.trans e7)) hn0
    refine s_isAsg (K := K) (d := tq (Hz.quo z (Hz.fac z p))) (is_call (ia2 (is_var rfl (Eq.mp (congrArg (fun t => Dp K _ _ (tq t)) n4) g1)) (is_var rfl g2)) ⟨Hz.quo z (Hz.fac z p), Hz.fac z p, rfl, fz, by rw [← n4]; exact bd_nm zb, bd_nm (by omega), rfl⟩) fun v7 H7 e8 d7 => ?_
    refine ⟨v7, some (.int p), some v5, Hz.quo z (Hz.fac z p), acc ++ [Hz.fac z p], rfl, ee.trans e8, lat_ex e8 new, d7, by rw [List.length_append, al]; rfl, n1, n2, ?_, ru⟩
    rw [List.append_assoc]
    exact ra
  · obtain ⟨w2, y4, y5, z, acc, rfl, e5, ⟨bs, b1, b2⟩, dz, al, zp, zn, ra, ru⟩ := z
    have e8 : (inz ps).length = ps.length := by simp [inz]
    rw [e8, List.drop_length] at ra ru
    have ra2 : acc = (Hz.rowF ps x).1 := by rw [← ra]; exact (List.append_nil _).symm
    have ru2 : z = (Hz.rowF ps x).2 := ru
    refine s_isRet (K := K) (d := rowD (Hz.rowF ps x)) (is_tup (ia2 (is_var rfl (.lst (.inl (.inl b1)) (by rw [← ra2]; exact b2))) (is_var rfl (by rw [← ru2]; exact dz))) (by show 2 ≤ 100000; decide)) fun v7 H7 e9 d7 => q v7 H7 (e5.trans e9) d7
end
end TP.W
set_option maxHeartbeats 4000000
namespace TP.W
open PySem PySem.Spec PyProof.Rows L2 Evl RZ TP.L
theorem six_some (n : Nat) (d : Nat) (k : Nat) : HT.sIx n d (some (k : Int)) = min k n := HT.sIx_nat n d k
theorem six_none (n : Nat) (d : Nat) : HT.sIx n d none = d := rfl
theorem cut_take (xs : List V) (k : Nat) : cutV xs none (some (k : Int)) = xs.take k := by
  unfold cutV
  rw [six_some, six_none, List.drop_zero, Nat.sub_zero]
  by_cases h : k ≤ xs.length
  · rw [Nat.min_eq_left h]
  · rw [Nat.min_eq_right (by omega), List.take_length, List.take_of_length_le (by omega)]
theorem cut_drop (xs : List V) (k : Nat) : cutV xs (some (k : Int)) none = xs.drop k := by
  unfold cutV
  rw [six_some, six_none]
  by_cases h : k ≤ xs.length
  · rw [Nat.min_eq_left h, List.take_of_length_le (by rw [List.length_drop]; exact Nat.le_refl _)]
  · rw [Nat.min_eq_right (by omega), List.drop_length, List.drop_of_length_le (by omega), List.take_nil]
section
variable {K : PySem.W.Frag} {σ : L2.St} {H : Hp} {te tn tb : TE} {ds : List PyData} {k : Nat}
theorem nw_take (h : Is K te σ H (.list ds)) (hn : Is K tn σ H (.int (k : Int))) : Nw K (tSl (rSlL K) te tNoPart (tPart tn)) σ H (ds.take k) := fun H1 e Q q =>
  h H1 e _ fun v H2 e2 dv => hn H2 (e.trans e2) _ fun w H3 e3 dw => by
    obtain ⟨a, us, ev, hs, hd⟩ := dp_lst (dp_ex e3 dv)
    refine ⟨(k : Int), dp_int dw, a, us, ev, hs, fun p hp => ?_⟩
    rw [cut_take]
    exact q p _ _ (fresh_back (e2.trans e3) hp) ((e2.trans e3).trans (Ex.new hp)) upd_same (dps_ex (Ex.new hp) (dps_take k hd))
theorem nw_drop (h : Is K te σ H (.list ds)) (hn : Is K tn σ H (.int (k : Int))) : Nw K (tSl (rSlL K) te (tPart tn) tNoPart) σ H (ds.drop k) := fun H1 e Q q =>
  h H1 e _ fun v H2 e2 dv => hn H2 (e.trans e2) _ fun w H3 e3 dw => by
    obtain ⟨a, us, ev, hs, hd⟩ := dp_lst (dp_ex e3 dv)
    refine ⟨(k : Int), dp_int dw, a, us, ev, hs, fun p hp => ?_⟩
    rw [cut_drop]
    exact q p _ _ (fresh_back (e2.trans e3) hp) ((e2.trans e3).trans (Ex.new hp)) upd_same (dps_ex (Ex.new hp) (dps_drop k hd))
theorem is_int1 {i : Int} (h : Is K te σ H (.int i)) : Is K (tCB (fun xs H Q => (∃ i, xs = [V.int i] ∧ Q (.int i) H) ∨ ∃ k, xs = [V.bl k] ∧ Q (.int (if k then 1 else 0)) H) (tCons te tNil)) σ H (.int i) :=
  is_cb (ia_cons h ia_nil) fun vs H1 e dvs Q q => by
    obtain ⟨v, ev, dv⟩ := one_ dvs
    exact .inl ⟨i, by rw [ev, dp_int dv], q _ H1 (Ex.refl _) (.int _)⟩
theorem is_intB {b : Bool} (h : Is K te σ H (.bool b)) : Is K (tCB (fun xs H Q => (∃ i, xs = [V.int i] ∧ Q (.int i) H) ∨ ∃ k, xs = [V.bl k] ∧ Q (.int (if k then 1 else 0)) H) (tCons te tNil)) σ H (.int (if b then 1 else 0)) :=
  is_cb (ia_cons h ia_nil) fun vs H1 e dvs Q q => by
    obtain ⟨v, ev, dv⟩ := one_ dvs
    exact .inr ⟨b, by rw [ev, dp_bl dv], q _ H1 (Ex.refl _) (.int _)⟩
end
section
variable {P : Program} {w : World} {K : PySem.W.Frag} {mg : Str → Option Value} {base : Heap}
abbrev s_law_pick : Stmt := top 44
abbrev N_law_pick : List Str := ["_law_numbers_here", "_law_at", "_law_most"]
theorem sc_law_pick : FnScope N_law_pick ["_law_numbers_here", "_law_at", "_law_most"] (defScope s_law_pick) := ⟨rfl, rfl, rfl, by decide +kernel, rfl, by decide +kernel, by decide +kernel⟩
def pPick : List PyData → PyData → Prop := fun ds r => ∃ (ns : List Int) (i : Nat) (m n : Int), ds = [.list (inz ns), .int (i : Int), .int m] ∧ ns[i]? = some n ∧ 0 < m ∧ r = .int (n % m)
theorem ok_law_pick (D : Dn K mg "_law_pick" s_law_pick) (T : Txt K mg) : Has P w K mg base "_law_pick" 1 ["_law_numbers_here", "_law_at", "_law_most"] (spV K pPick) := by
  refine D.has sc_law_pick (fun _ _ _ _ _ _ us hl => match us, hl with | [_, _, _], _ => rfl) (fun vs H Q E => lenN 3 fun ds r ⟨_, _, _, _, e, _⟩ => by rw [e]; rfl) fun f cdv A outer s H vs Q E hr h => ?_
  obtain ⟨ds, r, hd, ⟨ns, i, m, n, rfl, hi, hm, rfl⟩, q⟩ := h
  cases hd with | cons d0 hd => ?_
  obtain ⟨u1, u2, rfl, d1, d2⟩ := two_ hd
  refine ⟨_, (pss_one (ps_ret (pe_op op_mod (pe_callTy call_int1 (by rfl) T.int b_int (pa_cons (pe_ix ix_list (pv 0) (pv 1) (fun _ _ => rfl)) pa_nil)) (pv 2)))), ?_⟩
  exact s_isRet (K := K) (is_mod (is_int1 (is_ixL (k := i) (is_var rfl d0) (is_var rfl d1) (by unfold inz; rw [List.getElem?_map, hi]; rfl))) (is_var rfl d2) hm) fun v H1 e1 dv => q v H1 e1 dv
abbrev s_law_product : Stmt := top 45
abbrev N_law_product : List Str := ["_law_one", "_law_other", "_law_a", "_law_b", "_law_c", "_law_d", "_law_e", "_law_f", "_law_g", "_law_h", "_law_first", "_law_second", "_law_third", "_law_fourth"]
theorem sc_law_product : FnScope N_law_product ["_law_one", "_law_other"] (defScope s_law_product) := ⟨rfl, rfl, rfl, by decide +kernel, rfl, by decide +kernel, by decide +kernel⟩
theorem ok_law_product (D : Dn K mg "_law_product" s_law_product) (T : Txt K mg) : Has P w K mg base "_law_product" 1 ["_law_one", "_law_other"] (spV K pProd) := by
  refine D.has sc_law_product (fun _ _ _ _ _ _ us hl => match us, hl with | [_, _], _ => rfl) (fun vs H Q E => lenN 2 fun ds r ⟨_, _, e, _⟩ => by rw [e]; rfl) fun f cdv A outer s H vs Q E hr h => ?_
  obtain ⟨ds, r, hd, ⟨x, y, rfl, hx, hy, rfl⟩, q⟩ := h
  obtain ⟨v, u, rfl, dv, du⟩ := two_ hd
  refine ⟨_, (pss_cons (ps_asg (pv 0) (pg_tup rfl (pgs_cons (pg_name (i := 2) sc_law_product.nd rfl (Or.inl rfl)) (pgs_cons (pg_name (i := 3) sc_law_product.nd rfl (Or.inl rfl)) (pgs_cons (pg_name (i := 4) sc_law_product.nd rfl (Or.inl rfl)) (pgs_cons (pg_name (i := 5) sc_law_product.nd rfl (Or.inl rfl)) pgs_nil))))))
      (pss_cons (ps_asg (pv 1) (pg_tup rfl (pgs_cons (pg_name (i := 6) sc_law_product.nd rfl (Or.inl rfl)) (pgs_cons (pg_name (i := 7) sc_law_product.nd rfl (Or.inl rfl)) (pgs_cons (pg_name (i := 8) sc_law_product.nd rfl (Or.inl rfl)) (pgs_cons (pg_name (i := 9) sc_law_product.nd rfl (Or.inl rfl)) pgs_nil))))))
      (pss_cons (ps_set (i := 10) sc_law_product.nd rfl (Or.inl rfl) (pe_op op_sub (pe_op op_sub (pe_op op_sub (pe_op op_mulW (pv 2) (pv 6)) (pe_op op_mulW (pv 3) (pv 7))) (pe_op op_mulW (pv 4) (pv 8))) (pe_op op_mulW (pv 5) (pv 9))))
      (pss_cons (ps_set (i := 11) sc_law_product.nd rfl (Or.inl rfl) (pe_op op_sub (pe_op op_add (pe_op op_add (pe_op op_mulW (pv 2) (pv 7)) (pe_op op_mulW (pv 3) (pv 6))) (pe_op op_mulW (pv 4) (pv 9))) (pe_op op_mulW (pv 5) (pv 8))))
      (pss_cons (ps_set (i := 12) sc_law_product.nd rfl (Or.inl rfl) (pe_op op_add (pe_op op_add (pe_op op_sub (pe_op op_mulW (pv 2) (pv 8)) (pe_op op_mulW (pv 3) (pv 9))) (pe_op op_mulW (pv 4) (pv 6))) (pe_op op_mulW (pv 5) (pv 7))))
      (pss_cons (ps_set (i := 13) sc_law_product.nd rfl (Or.inl rfl) (pe_op op_add (pe_op op_sub (pe_op op_add (pe_op op_mulW (pv 2) (pv 9)) (pe_op op_mulW (pv 3) (pv 8))) (pe_op op_mulW (pv 4) (pv 7))) (pe_op op_mulW (pv 5) (pv 6))))
      (pss_one (ps_ret (pe_tup (pa_cons (pe_op op_fdivW (pv 10) pe_int) (pa_cons (pe_op op_fdivW (pv 11) pe_int) (pa_cons (pe_op op_fdivW (pv 12) pe_int) (pa_cons (pe_op op_fdivW (pv 13) pe_int) pa_nil))))))))))))), ?_⟩
  refine q_un4 (is_var rfl dv) fun a b c d H3 e3 da db dc dd => ?_
  refine q_un4 (is_var rfl (dp_ex e3 du)) fun a' b' c' d' H4 e4 da' db' dc' dd' => ?_
  cases dp_int da; cases dp_int db; cases dp_int dc; cases dp_int dd
  cases dp_int da'; cases dp_int db'; cases dp_int dc'; cases dp_int dd'
  show tSeq _ _ _ [some v, some u, some (.int x.p), some (.int (x.p + 2 * x.q)), some (.int (x.p + 2 * x.r)), some (.int (x.p + 2 * x.s)), some (.int y.p), some (.int (y.p + 2 * y.q)), some (.int (y.p + 2 * y.r)), some (.int (y.p + 2 * y.s)), none, none, none, none] _
  have mm : ∀ {i i' : Int}, i ∈ x.dl → i' ∈ y.dl → CMulW i i' := fun h1 h2 => wide4 (hx _ h1) (hy _ h2)
  have a0 : x.p ∈ x.dl := by simp [Hz.dl]
  have a1 : x.p + 2 * x.q ∈ x.dl := by simp [Hz.dl]
  have a2 : x.p + 2 * x.r ∈ x.dl := by simp [Hz.dl]
  have a3 : x.p + 2 * x.s ∈ x.dl := by simp [Hz.dl]
  have b0 : y.p ∈ y.dl := by simp [Hz.dl]
  have b1 : y.p + 2 * y.q ∈ y.dl := by simp [Hz.dl]
  have b2 : y.p + 2 * y.r ∈ y.dl := by simp [Hz.dl]
  have b3 : y.p + 2 * y.s ∈ y.dl := by simp [Hz.dl]
  refine q_is (K := K) (is_sub (is_sub (is_sub (is_mulW (is_var rfl (.int _)) (is_var rfl (.int _)) (mm a0 b0)) (is_mulW (is_var rfl (.int _)) (is_var rfl (.int _)) (mm a1 b1))) (is_mulW (is_var rfl (.int _)) (is_var rfl (.int _)) (mm a2 b2))) (is_mulW (is_var rfl (.int _)) (is_var rfl (.int _)) (mm a3 b3))) fun z1 H5 e5 f1 => ?_
  show tSeq _ _ _ [some v, some u, some (.int x.p), some (.int (x.p + 2 * x.q)), some (.int (x.p + 2 * x.r)), some (.int (x.p + 2 * x.s)), some (.int y.p), some (.int (y.p + 2 * y.q)), some (.int (y.p + 2 * y.r)), some (.int (y.p + 2 * y.s)), some z1, none, none, none] _
  refine q_is (K := K) (is_sub (is_add (is_add (is_mulW (is_var rfl (.int _)) (is_var rfl (.int _)) (mm a0 b1)) (is_mulW (is_var rfl (.int _)) (is_var rfl (.int _)) (mm a1 b0))) (is_mulW (is_var rfl (.int _)) (is_var rfl (.int _)) (mm a2 b3))) (is_mulW (is_var rfl (.int _)) (is_var rfl (.int _)) (mm a3 b2))) fun z2 H6 e6 f2 => ?_
  show tSeq _ _ _ [some v, some u, some (.int x.p), some (.int (x.p + 2 * x.q)), some (.int (x.p + 2 * x.r)), some (.int (x.p + 2 * x.s)), some (.int y.p), some (.int (y.p + 2 * y.q)), some (.int (y.p + 2 * y.r)), some (.int (y.p + 2 * y.s)), some z1, some z2, none, none] _
  refine q_is (K := K) (is_add (is_add (is_sub (is_mulW (is_var rfl (.int _)) (is_var rfl (.int _)) (mm a0 b2)) (is_mulW (is_var rfl (.int _)) (is_var rfl (.int _)) (mm a1 b3))) (is_mulW (is_var rfl (.int _)) (is_var rfl (.int _)) (mm a2 b0))) (is_mulW (is_var rfl (.int _)) (is_var rfl (.int _)) (mm a3 b1))) fun z3 H7 e7 f3 => ?_
  show tSeq _ _ _ [some v, some u, some (.int x.p), some (.int (x.p + 2 * x.q)), some (.int (x.p + 2 * x.r)), some (.int (x.p + 2 * x.s)), some (.int y.p), some (.int (y.p + 2 * y.q)), some (.int (y.p + 2 * y.r)), some (.int (y.p + 2 * y.s)), some z1, some z2, some z3, none] _
  refine q_is (K := K) (is_add (is_sub (is_add (is_mulW (is_var rfl (.int _)) (is_var rfl (.int _)) (mm a0 b3)) (is_mulW (is_var rfl (.int _)) (is_var rfl (.int _)) (mm a1 b2))) (is_mulW (is_var rfl (.int _)) (is_var rfl (.int _)) (mm a2 b1))) (is_mulW (is_var rfl (.int _)) (is_var rfl (.int _)) (mm a3 b0))) fun z4 H8 e8 f4 => ?_
  show tRet _ _ [some v, some u, some (.int x.p), some (.int (x.p + 2 * x.q)), some (.int (x.p + 2 * x.r)), some (.int (x.p + 2 * x.s)), some (.int y.p), some (.int (y.p + 2 * y.q)), some (.int (y.p + 2 * y.r)), some (.int (y.p + 2 * y.s)), some z1, some z2, some z3, some z4] _
  cases dp_int f1; cases dp_int f2; cases dp_int f3; cases dp_int f4
  rw [show tq (Hz.mul x y) = tupI _ from (congrArg tupI (prod_half x y)).symm] at q
  have dd : ∀ i : Int, CDivW i 2 := fun i => div_small (by decide) (by decide)
  refine s_isRet (K := K) (is_tup (ia_cons (is_div (is_var rfl (.int _)) is_int (dd _)) (ia_cons (is_div (is_var rfl (.int _)) is_int (dd _)) (ia2 (is_div (is_var rfl (.int _)) is_int (dd _)) (is_div (is_var rfl (.int _)) is_int (dd _))))) (by show 4 ≤ 100000; decide)) fun v H9 e9 dv => q v H9 (e3.trans (e4.trans (e5.trans (e6.trans (e7.trans (e8.trans e9)))))) dv
abbrev s_law_conjugate : Stmt := top 46
abbrev N_law_conjugate : List Str := ["_law_number"]
theorem sc_law_conjugate : FnScope N_law_conjugate ["_law_number"] (defScope s_law_conjugate) := ⟨rfl, rfl, rfl, by decide +kernel, rfl, by decide +kernel, by decide +kernel⟩
theorem ok_law_conjugate (D : Dn K mg "_law_conjugate" s_law_conjugate) (T : Txt K mg) : Has P w K mg base "_law_conjugate" 1 ["_law_number"] (spV K pConj) := by
  refine D.has sc_law_conjugate (fun _ _ _ _ _ _ us hl => match us, hl with | [_], _ => rfl) (fun vs H Q E => lenN 1 fun ds r ⟨_, e, _⟩ => by rw [e]; rfl) fun f cdv A outer s H vs Q E hr h => ?_
  obtain ⟨ds, r, hd, ⟨x, rfl, rfl⟩, q⟩ := h
  obtain ⟨v, rfl, dv⟩ := one_ hd
  refine ⟨_, (pss_one (ps_ret (pe_tup (pa_cons (pe_ix ix_tup (pv 0) pe_int (fun _ _ => rfl)) (pa_cons (pe_un un_neg (pe_ix ix_tup (pv 0) pe_int (fun _ _ => rfl))) (pa_cons (pe_un un_neg (pe_ix ix_tup (pv 0) pe_int (fun _ _ => rfl))) (pa_cons (pe_un un_neg (pe_ix ix_tup (pv 0) pe_int (fun _ _ => rfl))) pa_nil))))))), ?_⟩
  have e : (.tuple [.int x.p, .int (-(x.p + 2 * x.q)), .int (-(x.p + 2 * x.r)), .int (-(x.p + 2 * x.s))] : PyData) = tq x.conj := by
    show tupI [x.p, -(x.p + 2 * x.q), -(x.p + 2 * x.r), -(x.p + 2 * x.s)] = tupI x.conj.dl
    congr 1
    simp only [Hz.dl, Hz.conj, List.map_cons, List.map_nil, List.cons.injEq, and_true, PyData.int.injEq]
    refine ⟨trivial, ?_, ?_, ?_⟩ <;> omega
  rw [← e] at q
  exact s_isRet (is_tup (ia_cons (is_ixT (k := 0) (is_var rfl dv) is_int rfl) (ia_cons (is_neg (is_ixT (k := 1) (is_var rfl dv) is_int rfl)) (ia_cons (is_neg (is_ixT (k := 2) (is_var rfl dv) is_int rfl)) (ia_cons (is_neg (is_ixT (k := 3) (is_var rfl dv) is_int rfl)) ia_nil)))) (by show 4 ≤ 100000; decide)) fun v H3 e3 dv => q v H3 e3 dv
abbrev s_law_norm : Stmt := top 47
abbrev N_law_norm : List Str := ["_law_number", "_law_part"]
theorem sc_law_norm : FnScope N_law_norm ["_law_number"] (defScope s_law_norm) := ⟨rfl, rfl, rfl, by decide +kernel, rfl, by decide +kernel, by decide +kernel⟩
theorem ok_law_norm (D : Dn K mg "_law_norm" s_law_norm) (T : Txt K mg) : Has P w K mg base "_law_norm" 1 ["_law_number"] (spV K pNorm) := by
  refine D.has sc_law_norm (fun _ _ _ _ _ _ us hl => match us, hl with | [_], _ => rfl) (fun vs H Q E => lenN 1 fun ds r ⟨_, e, _⟩ => by rw [e]; rfl) fun f cdv A outer s H vs Q E hr h => ?_
  obtain ⟨ds, r, hd, ⟨x, rfl, hb, rfl⟩, q⟩ := h
  obtain ⟨v, rfl, dv⟩ := one_ hd
  refine ⟨_, (pss_one (ps_ret (pe_op op_fdivW (pe_callB (cr_sum rfl) (by rfl) T.sum b_sum (pa_cons (pe_lc (own := [("_law_part", 1)]) (tt := tYes) (g := (gName 1)) rfl sc_law_norm.nd (pi_tup (pv 0)) (blkOk_by (own := [("_law_part", 1)]) (N := N_law_norm) (sc := defScope s_law_norm) (by decide +kernel)) (fun _ _ _ _ _ => (pg_name (i := 1) sc_law_norm.nd rfl (Or.inl rfl))) (fun _ _ _ _ _ => pts_nil) (fun _ _ _ _ _ => (pe_op op_mulW (pv 1) (pv 1)))) pa_nil)) pe_int))), ?_⟩
  rw [← sum_sq] at q
  refine s_isRet (is_div (is_sum (nw_lcTI (fun n => n * n) (is_var rfl dv) (by show 4 ≤ 1000; decide) (fun _ => rfl) fun n hn H2 e2 => ?_).is) is_int (div_small (by decide) (by decide))) fun v H3 e3 dv => q v H3 e3 dv
  exact is_mulW (is_var rfl (.int n)) (is_var rfl (.int n)) (wide4 (hb n hn) (hb n hn))
end
end TP.W
set_option maxHeartbeats 4000000
namespace TP.W
open PySem PySem.Spec PyProof.Rows L2 Evl RZ TP.L
section
variable {K : PySem.W.Frag} {l : Addr} {H1 : Hp} {acc : List Int} {us : List V} {v : V} {i : Int}
theorem lat_int (h1 : H1 l = some (.lst us)) (h2 : DpAll K H1 us (inz acc)) (dv : Dp K H1 v (.int i)) : LAt K l (inz (acc ++ [i])) (upd H1 l (.lst (us ++ [v]))) := by
  have := lat_app (K := K) (r := .int i) h1 h2 (flats_ints _) dv rfl
  have e : inz acc ++ [.int i] = inz (acc ++ [i]) := by unfold inz; rw [List.map_append]; rfl
  rw [e] at this
  exact this
end
theorem mulw {i j : Int} (h1 : -1000000000000 < i) (h2 : i < 1000000000000) (h3 : -1000000000000 < j) (h4 : j < 1000000000000) : CMulW i j := by
  have e : (2 : Nat) ^ 50 = 1125899906842624 := by decide
  exact wide_mul (a := 50) (b := 50) (by omega) (by omega) (by decide) (by decide) (by decide)
/-- an answer that is a new list, told by post -/
def spN (K : PySem.W.Frag) (pre : List PyData → Prop) (post : List PyData → List PyData → Prop) : Sp := fun vs H Q _ => ∃ ds, DpAll K H vs ds ∧ pre ds ∧ ∀ r p us H', post ds r → H p = none → Ex H H' → H' p = some (.lst us) → DpAll K H' us r → Q (.ref p) H'
theorem lenNw {K : PySem.W.Frag} {pre : List PyData → Prop} {post : List PyData → List PyData → Prop} (n : Nat) (h : ∀ ds, pre ds → ds.length = n) {vs H Q E} (z : spN K pre post vs H Q E) : vs.length = n := by
  obtain ⟨ds, hd, hp, _⟩ := z
  rw [dps_len hd, h ds hp]
section
variable {K : PySem.W.Frag} {σ : L2.St} {H : Hp} {ds : List PyData} {D : Ends} {tu : TS} {g : TG} {l : Addr} {tr : TA}
/-- for over a new list that a call made, the list at l changed within -/
theorem s_forCall {pre : List PyData → Prop} {post : List PyData → List PyData → Prop} {E : XK} (h : IsA K tr σ H ds) (hp : pre ds) (hl : IsL H l)
    (body : ∀ r p us H1, post ds r → p ≠ l → Ex H H1 → H1 p = some (.lst us) → DpAll K H1 us r → ∃ Pv : Nat → L2.St → Hp → Prop, Pv 0 σ H1 ∧ (∀ i σ' H', Pv i σ' H' → ExB l H1 H') ∧
      (∀ i x d σ' H', r[i]? = some d → Dp K H1 x d → Pv i σ' H' → g x σ' H' fun σ2 H2 => tu { D with nx := Pv (i + 1), ct := Pv (i + 1), bk := D.nx } σ2 H2) ∧ (∀ σ' H', Pv r.length σ' H' → D.nx σ' H')) : tFor (iList K (tCall (spN K pre post) [] E tr)) g tu D σ H :=
  h H (Ex.refl _) _ fun vs H2 e2 dvs => ⟨ds, by rw [List.append_nil]; exact dvs, hp, fun r p us H3 pr hn e3 h3 d3 => by
    have ne : p ≠ l := fun e => by
      obtain ⟨ws, w1⟩ := hl
      rw [e, e2 _ _ w1] at hn
      cases hn
    obtain ⟨Pv, p0, st, hs, hd⟩ := body r p us H3 pr ne (e2.trans e3) h3 d3
    have hq : SqL K H3 p us := .inl (.inl h3)
    refine ⟨p, rfl, ⟨us, hq⟩, for_list (K := K) (xs := us) Pv p0 (fun i σ' H' _ z => exb_l ne (st i σ' H' z) hq) (fun i x σ' H' hx z => ?_) fun σ' H' z => hd σ' H' (by rw [← dps_len d3]; exact z)⟩
    obtain ⟨d, z1, z2⟩ := dps_get d3 hx
    exact hs i x d σ' H' z1 z2 z⟩
end
theorem inz_len (ns : List Int) : (inz ns).length = ns.length := by simp [inz]
section
variable {P : Program} {w : World} {K : PySem.W.Frag} {mg : Str → Option Value} {base : Heap}
abbrev s_law_row : Stmt := top 42
abbrev N_law_row : List Str := ["_law_cell", "_law_many", "_law_row_here", "_law_rest", "_law_mixed", "_law_k"]
theorem sc_law_row : FnScope N_law_row ["_law_cell", "_law_many"] (defScope s_law_row) := ⟨rfl, rfl, rfl, by decide +kernel, rfl, by decide +kernel, by decide +kernel⟩
def preRow : List PyData → Prop := fun ds => ∃ (c : Int) (n : Nat), ds = [.int c, .int (n : Int)] ∧ n ≤ 100
def posRow : List PyData → List PyData → Prop := fun ds r => ∃ ns : List Int, r = inz ns ∧ ns.length ≤ 100
theorem ok_law_row (D : Dn K mg "_law_row" s_law_row) (T : Txt K mg) : Has P w K mg base "_law_row" 1 ["_law_cell", "_law_many"] (spN K preRow posRow) := by
  refine D.has sc_law_row (fun _ _ _ _ _ _ us hl => match us, hl with | [_, _], _ => rfl) (fun vs H Q E => lenNw 2 fun ds ⟨_, _, e, _⟩ => by rw [e]; rfl) fun f cdv A outer s H vs Q E hr h => ?_
  obtain ⟨ds, hd, ⟨c, n, rfl, hn⟩, q⟩ := h
  obtain ⟨v, u, rfl, dv, du⟩ := two_ hd
  refine ⟨_, (pss_cons (ps_set (i := 2) sc_law_row.nd rfl (Or.inl rfl) (pe_lst pa_nil))
      (pss_cons (ps_set (i := 3) sc_law_row.nd rfl (Or.inl rfl) (pe_callB call_abs (by rfl) T.abs b_abs (pa_cons (pv 0) pa_nil)))
      (pss_cons (ps_set (i := 4) sc_law_row.nd rfl (Or.inl rfl) (pe_op op_mod (pe_callTy call_int1 (by rfl) T.int b_int (pa_cons (pe_op op_add (pe_op op_mul (pv 3) pe_int) pe_int) pa_nil)) pe_int))
      (pss_cons (ps_for PassesOwn.never rfl (pi_range1 (by rfl) T.range (pa_cons (pv 1) pa_nil)) (pg_name (i := 5) sc_law_row.nd rfl (Or.inl rfl))
      (pss_cons (ps_set (i := 4) sc_law_row.nd rfl (Or.inl rfl) (pe_op op_mod (pe_callTy call_int1 (by rfl) T.int b_int (pa_cons (pe_op op_add (pe_op op_mul (pv 4) pe_int) (pe_op op_mulW pe_int (pe_op op_add (pv 5) pe_int))) pa_nil)) pe_int))
      (pss_one (ps_if (pt_cmpR op_ge (pe_callB call_abs (by rfl) T.abs b_abs (pa_cons (pv 0) pa_nil)) (pe_op op_pow pe_int pe_int) (nomark _)) (pss_cons (ps_expr (pe_bm PySem.F.plainAttrs_list PySem.F.slot_list_append PySem.F.type_list_append mt_append (pv 2) (pa_cons (pe_op op_mod (pe_callTy call_int1 (by rfl) T.int b_int (pa_cons (pv 3) pa_nil)) pe_int) pa_nil)))
      (pss_one (ps_set (i := 3) sc_law_row.nd rfl (Or.inl rfl) (pe_op op_fdivW (pv 3) pe_int)))) (pss_one (ps_expr (pe_bm PySem.F.plainAttrs_list PySem.F.slot_list_append PySem.F.type_list_append mt_append (pv 2) (pa_cons (pe_op op_mod (pe_callTy call_int1 (by rfl) T.int b_int (pa_cons (pe_op op_fdivW (pv 4) pe_int) pa_nil)) pe_int) pa_nil))))))))
      (pss_one (ps_ret (pv 2))))))), ?_⟩
  rw [dp_int dv, dp_int du]
  refine q_nw (K := K) (ds := []) (nw_lst ia_nil (by decide)) fun l us H2 hl e2 hl2 hd2 => ?_
  refine q_is (K := K) (is_abs (is_var rfl (.int c))) fun v3 H3 e3 d3 => ?_
  rw [dp_int d3]
  generalize (if c < 0 then -c else c) = ac
  refine q_is (K := K) (is_mod (is_int1 (is_add (is_mul (is_var rfl (.int ac)) is_int (.inr (by decide))) is_int)) is_int (by decide)) fun v4 H4 e4 d4 => ?_
  rw [dp_int d4]
  refine q_forR1 (n := (n : Int)) (ia_ev (K := K) (ns := [(n : Int)]) (ia0 (is_var rfl (.int n)))) (by omega) (fun i σ' H' => ∃ (r m : Int) (y5 : Option V) (acc : List Int), σ' = [some (.int c), some (.int n), some (.ref l), some (.int r), some (.int m), y5] ∧ Ex H H' ∧ LAt K l (inz acc) H' ∧ acc.length = i ∧ 0 ≤ m ∧ m < 4294967296) (fun H5 e5 => ⟨ac, _, none, [], rfl, e2.trans (e3.trans (e4.trans e5)), lat_ex (e3.trans (e4.trans e5)) ⟨us, hl2, hd2⟩, rfl, ?_, ?_⟩) (fun i σ' H' hi p => ?_) fun σ' H' p => ?_
  · exact Int.emod_nonneg _ (by decide)
  · have := Int.emod_lt_of_pos (ac * 48271 + 69621) (show (0 : Int) < 2147483647 by decide)
    omega
  · obtain ⟨r, m, y5, acc, rfl, e5, hA, al, m0, m1⟩ := p
    show tSeq _ _ _ [some (.int c), some (.int n), some (.ref l), some (.int r), some (.int m), some (.int (i : Int))] _
    have c1 : CMul m 16807 := .inr (by decide)
    have c2 : CMulW 271 ((i : Int) + 3) := mulw (by decide) (by decide) (by omega) (by omega)
    refine q_is (K := K) (is_mod (is_int1 (is_add (is_mul (is_var rfl (.int m)) is_int c1) (is_mulW is_int (is_add (is_var rfl (.int i)) is_int) c2))) is_int (by decide)) fun v6 H6 e6 d6 => ?_
    rw [dp_int d6]
    have k0 := Int.emod_nonneg (m * 16807 + 271 * ((i : Int) + 3)) (show (2147483629 : Int) ≠ 0 by decide)
    have k1 := Int.emod_lt_of_pos (m * 16807 + 271 * ((i : Int) + 3)) (show (0 : Int) < 2147483629 by decide)
    generalize (m * 16807 + 271 * ((i : Int) + 3)) % 2147483629 = m2 at k0 k1
    show tIfS _ _ _ _ [some (.int c), some (.int n), some (.ref l), some (.int r), some (.int m2), some (.int (i : Int))] _
    have hn0 : H l = none := hl
    have hA6 := lat_ex e6 hA
    refine Evl.s_if (et_is (K := K) (is_ge (is_abs (is_var rfl (.int c))) (is_pow is_int is_int ⟨by decide, by decide, by decide⟩))) (fun _ H7 e7 => ?_) fun _ H7 e7 => ?_
    · obtain ⟨ws, w1, w2⟩ := lat_ex e7 hA6
      have wl := dps_len w2
      rw [inz_len] at wl
      refine q_appD (K := K) w1 ⟨2, rfl, rfl⟩ (is_mod (is_int1 (is_var rfl (.int r))) is_int (by decide)) (by omega) fun v8 H8 e8 d8 => ?_
      have new := lat_int (e8 _ _ w1) (dps_ex e8 w2) d8
      refine s_isAsg (K := K) (is_div (is_var rfl (.int r)) is_int (div_small (by decide) (by decide))) fun v9 H9 e9 d9 => ?_
      rw [dp_int d9]
      exact ⟨_, m2, some (.int i), _, rfl, (Ex.mut (e5.trans (e6.trans (e7.trans e8))) hn0).trans e9, lat_ex e9 new, by rw [List.length_append, al]; rfl, k0, by omega⟩
    · obtain ⟨ws, w1, w2⟩ := lat_ex e7 hA6
      have wl := dps_len w2
      rw [inz_len] at wl
      refine s_appD (K := K) w1 ⟨2, rfl, rfl⟩ (is_mod (is_int1 (is_div (is_var rfl (.int m2)) is_int (div_small (by decide) (by decide)))) is_int (by decide)) (by omega) fun v8 H8 e8 d8 => ?_
      have new := lat_int (e8 _ _ w1) (dps_ex e8 w2) d8
      exact ⟨r, m2, some (.int i), _, rfl, Ex.mut (e5.trans (e6.trans (e7.trans e8))) hn0, new, by rw [List.length_append, al]; rfl, k0, by omega⟩
  · obtain ⟨r, m, y5, acc, rfl, e5, hA, al, m0, m1⟩ := p
    obtain ⟨ws, w1, w2⟩ := hA
    exact ⟨_, rfl, q _ l ws H' ⟨acc, rfl, by omega⟩ hl e5 w1 w2⟩
abbrev s_law_numbers : Stmt := top 43
abbrev N_law_numbers : List Str := ["_law_script", "_law_many", "_law_cells", "_law_each", "_law_numbers_here", "_law_cell", "_law_number"]
theorem sc_law_numbers : FnScope N_law_numbers ["_law_script", "_law_many"] (defScope s_law_numbers) := ⟨rfl, rfl, rfl, by decide +kernel, rfl, by decide +kernel, by decide +kernel⟩
def preNums : List PyData → Prop := fun ds => ∃ (sc : List Int), ds = [.list (inz sc), .int (40 : Nat)]
def posNums : List PyData → PyData → Prop := fun ds r => ∃ ns : List Int, r = .list (inz ns) ∧ ns.length = 40
theorem ok_law_numbers (D : Dn K mg "_law_numbers" s_law_numbers) (T : Txt K mg) (h_law_row : Has P w K mg base "_law_row" 1 ["_law_cell", "_law_many"] (spN K preRow posRow)) : Has P w K mg base "_law_numbers" 2 ["_law_script", "_law_many"] (spR K preNums posNums) := by
  refine D.has sc_law_numbers (fun _ _ _ _ _ _ us hl => match us, hl with | [_, _], _ => rfl) (fun vs H Q E => lenR 2 fun ds ⟨_, e⟩ => by rw [e]; rfl) fun f cdv A outer s H vs Q E hr h => ?_
  obtain ⟨ds, hd, ⟨sc, rfl⟩, q⟩ := h
  obtain ⟨v, u, rfl, dv, du⟩ := two_ hd
  refine ⟨_, (pss_cons (ps_set (i := 2) sc_law_numbers.nd rfl (Or.inl rfl) (pe_slice sl_list (pv 0) po_none (po_some pe_int)))
      (pss_cons (ps_set (i := 3) sc_law_numbers.nd rfl (Or.inl rfl) (pe_op op_add pe_int (pe_op op_fdivW (pv 1) (pe_callB (call_max2 rfl) (by rfl) T.max b_max (pa_cons pe_int (pa_cons (pe_callB call_len_seq (by rfl) T.len b_len (pa_cons (pv 2) pa_nil)) pa_nil))))))
      (pss_cons (ps_set (i := 4) sc_law_numbers.nd rfl (Or.inl rfl) (pe_lst pa_nil))
      (pss_cons (ps_for PassesOwn.never rfl (pi_list (pv 2)) (pg_name (i := 5) sc_law_numbers.nd rfl (Or.inl rfl))
      (pss_one (ps_for PassesOwn.never rfl (pi_list (pe_has h_law_row (hr.mono (by decide)) (by rfl) (pa_cons (pv 5) (pa_cons (pv 3) pa_nil)))) (pg_name (i := 6) sc_law_numbers.nd rfl (Or.inl rfl))
      (pss_one (ps_expr (pe_bm PySem.F.plainAttrs_list PySem.F.slot_list_append PySem.F.type_list_append mt_append (pv 4) (pa_cons (pv 6) pa_nil)))))))
      (pss_cons (ps_while PassesOwn.never (pt_cmpR op_lt (pe_callB call_len_seq (by rfl) T.len b_len (pa_cons (pv 4) pa_nil)) (pv 1) (nomark _))
      (pss_one (ps_expr (pe_bm PySem.F.plainAttrs_list PySem.F.slot_list_append PySem.F.type_list_append mt_append (pv 4) (pa_cons pe_int pa_nil)))))
      (pss_one (ps_ret (pe_slice sl_list (pv 4) po_none (po_some (pv 1)))))))))), ?_⟩
  rw [dp_int du]
  refine q_nw (K := K) (nw_take (k := 63) (is_var rfl dv) is_int) fun a us H2 hl e2 hl2 hd2 => ?_
  have ec : (inz sc).take 63 = inz (sc.take 63) := by unfold inz; rw [List.map_take]
  rw [ec] at hd2
  have dl : Dp K H2 (.ref a) (.list (inz (sc.take 63))) := .lst (.inl (.inl hl2)) hd2
  have cl : (sc.take 63).length ≤ 63 := by rw [List.length_take]; exact Nat.min_le_left _ _
  generalize sc.take 63 = cs at hd2 dl cl
  -- how many of each
  have mpos : (1 : Int) ≤ (if ((inz cs).length : Int) > 1 then ((inz cs).length : Int) else 1) ∧ (if ((inz cs).length : Int) > 1 then ((inz cs).length : Int) else 1) ≤ 63 := by
    rw [inz_len]
    split <;> omega
  refine q_is (K := K) (is_add is_int (is_div (is_var rfl (.int _)) (is_max2 is_int (is_lenL (is_var rfl dl))) (div_small (by omega) (by omega)))) fun v3 H3 e3 d3 => ?_
  rw [dp_int d3]
  generalize hM : (if ((inz cs).length : Int) > 1 then ((inz cs).length : Int) else 1) = M at mpos
  have each : ∃ n : Nat, n ≤ 100 ∧ (1 : Int) + ((40 : Nat) : Int) / M = (n : Int) := by
    have a0 : 0 ≤ ((40 : Nat) : Int) / M := Int.ediv_nonneg (by decide) (by omega)
    have a1 : ((40 : Nat) : Int) / M ≤ ((40 : Nat) : Int) := Int.ediv_le_self _ (by decide)
    exact ⟨(1 + ((40 : Nat) : Int) / M).toNat, by omega, by omega⟩
  obtain ⟨n, hn, en⟩ := each
  rw [en]
  refine q_nw (K := K) (ds := []) (nw_lst ia_nil (by decide)) fun l ws H4 hl4 e4 hl5 hd5 => ?_
  have e04 := e2.trans (e3.trans e4)
  have hn0 : H l = none := fresh_back (e2.trans e3) hl4
  have hn2 : H2 l = none := fresh_back e3 hl4
  refine s_forLE (K := K) (H0 := H2) (es := inz cs) rfl (.inl (.inl hl2)) hd2 (e3.trans e4) (fun i σ' H' => ∃ (y5 y6 : Option V) (acc : List Int), σ' = [some v, some (.int (40 : Nat)), some (.ref a), some (.int n), some (.ref l), y5, y6] ∧ Ex H2 H' ∧ LAt K l (inz acc) H' ∧ acc.length ≤ 100 * i)
    ⟨none, none, [], rfl, e3.trans e4, ⟨ws, hl5, hd5⟩, by decide⟩ (fun i σ' H' z => by obtain ⟨_, _, _, _, z, _⟩ := z; exact z) (fun i y d σ' H' hi2 dy z => ?_) fun σ' H' z => ?_
  · obtain ⟨y5, y6, acc, rfl, e5, hA, al⟩ := z
    obtain ⟨p, hpi, ed⟩ := inz_get hi2
    have hil : i < cs.length := (List.getElem?_eq_some_iff.mp hpi).1
    rw [ed] at dy
    rw [dp_int dy]
    show tFor _ _ _ _ [some v, some (.int (40 : Nat)), some (.ref a), some (.int n), some (.ref l), some (.int p), y6] _
    refine s_forCall (K := K) (l := l) (ia2 (is_var rfl (.int p)) (is_var rfl (.int n))) ⟨p, n, rfl, hn⟩ (by obtain ⟨bs, b1, _⟩ := hA; exact ⟨bs, b1⟩) fun r b bs H5 pr ne e6 h6 d6 => ?_
    obtain ⟨ns, rfl, nl⟩ := pr
    refine ⟨fun j σ2 H6 => ∃ (y6 : Option V) (acc2 : List Int), σ2 = [some v, some (.int (40 : Nat)), some (.ref a), some (.int n), some (.ref l), some (.int p), y6] ∧ Ex H2 H6 ∧ ExB l H5 H6 ∧ LAt K l (inz acc2) H6 ∧ acc2.length = acc.length + j,
      ⟨y6, acc, rfl, e5.trans e6, ExB.refl _ _, lat_ex e6 hA, rfl⟩, fun _ _ _ z => by obtain ⟨_, _, _, _, z, _⟩ := z; exact z, fun j x d σ2 H6 hj dx z => ?_, fun σ2 H6 z => ?_⟩
    · obtain ⟨y7, acc2, rfl, e7, b7, ⟨cs2, c1, c2⟩, al2⟩ := z
      obtain ⟨t, ht, et⟩ := inz_get hj
      have hjl : j < ns.length := (List.getElem?_eq_some_iff.mp ht).1
      rw [et] at dx
      rw [dp_int dx]
      have wl := dps_len c2
      rw [inz_len] at wl
      show tDrop _ _ [some v, some (.int (40 : Nat)), some (.ref a), some (.int n), some (.ref l), some (.int p), some (.int t)] _
      refine s_appD (K := K) (d := .int t) c1 ⟨4, rfl, rfl⟩ (is_var rfl (.int t)) (by omega) fun v8 H8 e8 d8 => ?_
      exact ⟨_, _, rfl, Ex.mut (e7.trans e8) hn2, (b7.trans (ExB.of e8)).trans ExB.put, lat_int (e8 _ _ c1) (dps_ex e8 c2) d8, by rw [List.length_append, al2]; rfl⟩
    · obtain ⟨y7, acc2, rfl, e7, b7, hA2, al2⟩ := z
      rw [inz_len] at al2
      exact ⟨_, _, acc2, rfl, e7, hA2, by omega⟩
  · obtain ⟨y5, y6, acc, rfl, e5, hA, al⟩ := z
    rw [inz_len] at al
    refine q_while (fun m σ2 H6 => ∃ (acc2 : List Int), σ2 = [some v, some (.int (40 : Nat)), some (.ref a), some (.int n), some (.ref l), y5, y6] ∧ Ex H2 H6 ∧ LAt K l (inz acc2) H6 ∧ m = 40 - acc2.length ∧ acc2.length ≤ 10000) (40 - acc.length) ⟨acc, rfl, e5, hA, rfl, by omega⟩ fun m σ2 H6 z => ?_
    obtain ⟨acc2, rfl, e6, hA2, hm, al2⟩ := z
    refine ⟨_, et_is (K := K) (is_lt (is_lenL (lat_is rfl hA2)) (is_var rfl (.int (40 : Nat)))), fun c H7 e7 => ?_, fun c H7 e7 => ?_⟩
    · have c := of_decide_eq_true c
      rw [inz_len] at c
      refine ⟨fun σ2 H6 => ∃ m', m' < m ∧ ∃ (acc2 : List Int), σ2 = [some v, some (.int (40 : Nat)), some (.ref a), some (.int n), some (.ref l), y5, y6] ∧ Ex H2 H6 ∧ LAt K l (inz acc2) H6 ∧ m' = 40 - acc2.length ∧ acc2.length ≤ 10000, fun _ _ z => z, ?_⟩
      obtain ⟨ws2, w1, w2⟩ := lat_ex e7 hA2
      have wl := dps_len w2
      rw [inz_len] at wl
      refine s_appD (K := K) w1 ⟨4, rfl, rfl⟩ is_int (by omega) fun v8 H8 e8 d8 => ?_
      exact ⟨40 - (acc2.length + 1), by omega, acc2 ++ [0], rfl, Ex.mut (e6.trans (e7.trans e8)) hn2, lat_int (e8 _ _ w1) (dps_ex e8 w2) d8, by rw [List.length_append]; rfl, by rw [List.length_append]; show acc2.length + 1 ≤ 10000; omega⟩
    · have c := of_decide_eq_false c
      rw [inz_len] at c
      refine s_nwRet (K := K) (nw_take (k := 40) (lat_is rfl (lat_ex e7 hA2)) (is_var rfl (.int (40 : Nat)))) fun p ps H8 _ e8 h8 d8 => q (.list ((inz acc2).take 40)) _ H8 ⟨acc2.take 40, by unfold inz; rw [List.map_take], by rw [List.length_take]; omega⟩ (e2.trans (e6.trans (e7.trans e8))) (.lst (.inl (.inl h8)) d8)
end
end TP.W
set_option maxHeartbeats 4000000
namespace TP.W
open PySem PySem.Spec PyProof.Rows L2 Evl RZ TP.L
def lu1 (k : Nat) : List Int := [(k : Int) % 2 * 2 - 1, (k : Int) / 2 % 2 * 2 - 1, (k : Int) / 4 % 2 * 2 - 1, (k : Int) / 8 * 2 - 1]
def lu2 (c : Int) (k : Nat) : List Int := (List.range 4).map fun (j : Nat) => c * (if decide ((j : Int) = (k : Int)) = true then 1 else 0)
def luA (n : Nat) : List (List Int) := (List.range n).map lu1
def luB (n : Nat) : List (List Int) := (List.range n).flatMap fun k => [lu2 2 k, lu2 (-2) k]
theorem lu_perm : (luA 16 ++ luB 4).Perm (Hz.units.map Hz.dl) := by decide +kernel
theorem lu_len : ∀ ns ∈ luA 16 ++ luB 4, ns.length = 4 := by decide +kernel
section
variable {K : PySem.W.Frag} {l : Addr} {H1 : Hp} {acc : List (List Int)} {us : List V} {v : V} {t : List Int}
theorem lat_tup (h1 : H1 l = some (.lst us)) (h2 : DpAll K H1 us (acc.map tupI)) (dv : Dp K H1 v (tupI t)) : LAt K l ((acc ++ [t]).map tupI) (upd H1 l (.lst (us ++ [v]))) := by
  have := lat_app (K := K) (r := tupI t) h1 h2 (flats_tup _) dv (flat_tupI _)
  have e : acc.map tupI ++ [tupI t] = (acc ++ [t]).map tupI := by rw [List.map_append]; rfl
  rw [e] at this
  exact this
end
section
variable {P : Program} {w : World} {K : PySem.W.Frag} {mg : Str → Option Value} {base : Heap}
abbrev s_law_units : Stmt := top 48
abbrev N_law_units : List Str := ["_law_found", "_law_k", "_law_j"]
theorem sc_law_units : FnScope N_law_units [] (defScope s_law_units) := ⟨rfl, rfl, rfl, by decide +kernel, rfl, by decide +kernel, by decide +kernel⟩
theorem ok_law_units (D : Dn K mg "_law_units" s_law_units) (T : Txt K mg) : Has P w K mg base "_law_units" 1 [] (spL K pUnits) := by
  refine D.has sc_law_units (fun _ _ _ _ _ _ us hl => match us, hl with | [], _ => rfl) (fun vs H Q E => lenL 0 fun ds r ⟨e, _⟩ => by rw [e]; rfl) fun f cdv A outer s H vs Q E hr h => ?_
  obtain ⟨ds, r, hd, ⟨rfl, rfl⟩, q⟩ := h
  cases hd
  refine ⟨_, (pss_cons (ps_set (i := 0) sc_law_units.nd rfl (Or.inl rfl) (pe_lst pa_nil))
      (pss_cons (ps_for PassesOwn.never rfl (pi_range1 (by rfl) T.range (pa_cons pe_int pa_nil)) (pg_name (i := 1) sc_law_units.nd rfl (Or.inr rfl))
      (pss_one (ps_expr (pe_bm PySem.F.plainAttrs_list PySem.F.slot_list_append PySem.F.type_list_append mt_append (pv 0) (pa_cons (pe_tup (pa_cons (pe_op op_sub (pe_op op_mulW (pe_op op_mod (pv 1) pe_int) pe_int) pe_int) (pa_cons (pe_op op_sub (pe_op op_mulW (pe_op op_mod (pe_op op_fdivW (pv 1) pe_int) pe_int) pe_int) pe_int) (pa_cons (pe_op op_sub (pe_op op_mulW (pe_op op_mod (pe_op op_fdivW (pv 1) pe_int) pe_int) pe_int) pe_int) (pa_cons (pe_op op_sub (pe_op op_mulW (pe_op op_fdivW (pv 1) pe_int) pe_int) pe_int) pa_nil))))) pa_nil)))))
      (pss_cons (ps_for PassesOwn.never rfl (pi_range1 (by rfl) T.range (pa_cons pe_int pa_nil)) (pg_name (i := 1) sc_law_units.nd rfl (Or.inr rfl))
      (pss_cons (ps_expr (pe_bm PySem.F.plainAttrs_list PySem.F.slot_list_append PySem.F.type_list_append mt_append (pv 0) (pa_cons (pe_callTy call_tuple_of (by rfl) T.tuple b_tuple (pa_cons (pe_lc (own := [("_law_j", 2)]) (tt := tYes) (g := (gName 2)) rfl sc_law_units.nd (pi_range1 (by rfl) T.range (pa_cons pe_int pa_nil)) (blkOk_by (own := [("_law_j", 2)]) (N := N_law_units) (sc := defScope s_law_units) (by decide +kernel)) (fun _ _ _ _ _ => (pg_name (i := 2) sc_law_units.nd rfl (Or.inl rfl))) (fun _ _ _ _ _ => pts_nil) (fun _ _ _ _ _ => (pe_op op_mulW pe_int (pe_callTy call_int1 (by rfl) T.int b_int (pa_cons (pe_cmpR op_eq (pv 2) (pv 1) (nomark _)) pa_nil))))) pa_nil)) pa_nil)))
      (pss_one (ps_expr (pe_bm PySem.F.plainAttrs_list PySem.F.slot_list_append PySem.F.type_list_append mt_append (pv 0) (pa_cons (pe_callTy call_tuple_of (by rfl) T.tuple b_tuple (pa_cons (pe_lc (own := [("_law_j", 2)]) (tt := tYes) (g := (gName 2)) rfl sc_law_units.nd (pi_range1 (by rfl) T.range (pa_cons pe_int pa_nil)) (blkOk_by (own := [("_law_j", 2)]) (N := N_law_units) (sc := defScope s_law_units) (by decide +kernel)) (fun _ _ _ _ _ => (pg_name (i := 2) sc_law_units.nd rfl (Or.inl rfl))) (fun _ _ _ _ _ => pts_nil) (fun _ _ _ _ _ => (pe_op op_mulW (pe_un un_neg pe_int) (pe_callTy call_int1 (by rfl) T.int b_int (pa_cons (pe_cmpR op_eq (pv 2) (pv 1) (nomark _)) pa_nil))))) pa_nil)) pa_nil))))))
      (pss_one (ps_ret (pe_callB (cr_sortD (d := 3)) (by rfl) T.sorted b_sorted (pa_cons (pv 0) pa_nil))))))), ?_⟩
  refine q_nw (K := K) (ds := []) (nw_lst ia_nil (by decide)) fun l us H2 hl e2 hl2 hd2 => ?_
  have hn : H l = none := hl
  refine q_forR1 (n := 16) (ia_ev (K := K) (ns := [16]) (ia0 is_int)) (by decide) (fun i σ' H' => ∃ y1, σ' = [some (.ref l), y1, none] ∧ Ex H H' ∧ LAt K l ((luA i).map tupI) H') (fun H3 e3 => ⟨none, rfl, e2.trans e3, lat_ex e3 ⟨us, hl2, hd2⟩⟩) (fun i σ' H' hi p => ?_) fun σ' H' p => ?_
  · obtain ⟨y1, rfl, e3, ⟨ws, w1, w2⟩⟩ := p
    have wl := dps_len w2
    rw [List.length_map] at wl
    have al : (luA i).length = i := by simp [luA]
    have dm : ∀ (a j : Int), 0 < j → j < 1000000 → CDivW a j := fun a j h1 h2 => div_small h1 h2
    have mb : ∀ a : Int, 0 ≤ a → a < 100 → CMulW a 2 := fun a h1 h2 => mulw (by omega) (by omega) (by decide) (by decide)
    show tDrop _ _ [some (.ref l), some (.int (i : Int)), none] _
    refine s_appD (K := K) (d := tupI (lu1 i)) w1 ⟨0, rfl, rfl⟩ (is_tup (ds := inz (lu1 i)) (ia_cons (is_sub (is_mulW (is_mod (is_var rfl (.int i)) is_int (by decide)) is_int (mb _ (by omega) (by omega))) is_int) (ia_cons (is_sub (is_mulW (is_mod (is_div (is_var rfl (.int i)) is_int (dm _ _ (by decide) (by decide))) is_int (by decide)) is_int (mb _ (by omega) (by omega))) is_int)
      (ia2 (is_sub (is_mulW (is_mod (is_div (is_var rfl (.int i)) is_int (dm _ _ (by decide) (by decide))) is_int (by decide)) is_int (mb _ (by omega) (by omega))) is_int) (is_sub (is_mulW (is_div (is_var rfl (.int i)) is_int (dm _ _ (by decide) (by decide))) is_int (mb _ (by omega) (by omega))) is_int)))) (by show 4 ≤ 100000; decide)) (by omega) fun v8 H8 e8 d8 => ?_
    have new := lat_tup (e8 _ _ w1) (dps_ex e8 w2) d8
    refine ⟨_, rfl, Ex.mut (e3.trans e8) hn, ?_⟩
    have e : luA (i + 1) = luA i ++ [lu1 i] := by unfold luA; rw [List.range_succ, List.map_append]; rfl
    rw [e]
    exact new
  · obtain ⟨y1, rfl, e3, hA⟩ := p
    refine q_forR1 (n := 4) (ia_ev (K := K) (ns := [4]) (ia0 is_int)) (by decide) (fun i σ' H' => ∃ y1, σ' = [some (.ref l), y1, none] ∧ Ex H H' ∧ LAt K l ((luA 16 ++ luB i).map tupI) H') (fun H3 e4 => ⟨y1, rfl, e3.trans e4, lat_ex e4 (by rw [show luB 0 = [] from rfl, List.append_nil]; exact hA)⟩) (fun i σ' H' hi p => ?_) fun σ' H' p => ?_
    · obtain ⟨y1, rfl, e3, ⟨ws, w1, w2⟩⟩ := p
      have wl := dps_len w2
      have bl : (luB i).length = 2 * i := by
        unfold luB
        rw [List.length_flatMap]
        have : (List.map (fun a => ([lu2 2 a, lu2 (-2) a] : List (List Int)).length) (List.range i)) = List.replicate i 2 := by
          rw [List.map_congr_left (g := fun _ => 2) (fun a _ => by rfl), List.map_const', List.length_range]
        rw [this, List.sum_replicate_nat]
        omega
      rw [List.length_map, List.length_append, bl, show (luA 16).length = 16 from rfl] at wl
      show tSeq _ _ _ [some (.ref l), some (.int (i : Int)), none] _
      have one : ∀ (c : Int) (tc : TE), (∀ σ H1, Is K tc σ H1 (.int c)) → -1000 < c → c < 1000 → ∀ H1, Is K (tCB (fun xs H Q => ∃ p ys, xs = [V.ref p] ∧ ((SqL K H p ys ∧ ∀ l, H l = none → Q (.ref l) (upd H l (.tup ys))) ∨ (SqT K H p ys ∧ Q (.ref p) H))) (tCons (tLc (iRng1 (tCons (tC (.int 4)) tNil)) (gName 2) tYes (tOp (rI CMulW fun i j => .int (i * j)) tc (tCB (fun xs H Q => (∃ i, xs = [V.int i] ∧ Q (.int i) H) ∨ ∃ k, xs = [V.bl k] ∧ Q (.int (if k then 1 else 0)) H) (tCons (tOp rEq (tVar 2) (tVar 1)) tNil))) [2]) tNil)) [some (.ref l), some (.int (i : Int)), none] H1 (tupI (lu2 c i)) := fun c tc hc c0 c1 H1 => by
        refine is_tupleL (nw_lcR (n := 4) (f := inz (lu2 c i)) (ia0 is_int) (by decide) (fun _ => rfl) (by simp [lu2, inz]) (flats_ints _) fun j r H5 e5 hj5 hr5 => ?_).is
        obtain ⟨m, hm, e⟩ := inz_get hr5
        unfold lu2 at hm
        rw [List.getElem?_map, List.getElem?_range hj5] at hm
        rw [e, ← Option.some.inj hm]
        refine is_mulW (hc _ _) (is_intB (is_eqI (is_var rfl (.int (j : Int))) (is_var rfl (.int (i : Int))))) ?_
        split <;> exact mulw (by omega) (by omega) (by decide) (by decide)
      refine q_appD (K := K) w1 ⟨0, rfl, rfl⟩ (one 2 _ (fun _ _ => is_int) (by decide) (by decide) _) (by omega) fun v8 H8 e8 d8 => ?_
      obtain ⟨ws2, w3, w4⟩ := lat_tup (e8 _ _ w1) (dps_ex e8 w2) d8
      have wl2 := dps_len w4
      rw [List.length_map, List.length_append, List.length_append, bl, show (luA 16).length = 16 from rfl] at wl2
      refine s_appD (K := K) w3 ⟨0, rfl, rfl⟩ (one (-2) _ (fun _ _ => is_neg is_int) (by decide) (by decide) _) (by show ws2.length < 100000; rw [wl2]; show 16 + 2 * i + 1 < 100000; omega) fun v9 H9 e9 d9 => ?_
      have new := lat_tup (e9 _ _ w3) (dps_ex e9 w4) d9
      have ee := Ex.mut (e3.trans e8) hn (o := .lst (ws ++ [v8])) |>.trans e9
      refine ⟨_, rfl, Ex.mut ee hn, ?_⟩
      have e : luA 16 ++ luB (i + 1) = luA 16 ++ luB i ++ [lu2 2 i] ++ [lu2 (-2) i] := by
        unfold luB
        rw [List.range_succ, List.flatMap_append, List.flatMap_singleton]
        simp only [List.append_assoc]
        rfl
      rw [e]
      exact new
    · obtain ⟨y1, rfl, e3, hA⟩ := p
      refine s_nwRet (K := K) (ds := (Hz.units.map Hz.dl).map tupI) (nw_sort (nss := luA 16 ++ luB 4) (lat_is rfl hA) lu_len lu_perm units_sorted) fun p us H3 hp e4 h3 d3 => ?_
      rw [map_tupI] at d3
      exact q p us H3 (fresh_back e3 hp) (e3.trans e4) h3 d3
abbrev s_law_canonical : Stmt := top 49
abbrev N_law_canonical : List Str := ["_law_number", "_law_unit"]
theorem sc_law_canonical : FnScope N_law_canonical ["_law_number"] (defScope s_law_canonical) := ⟨rfl, rfl, rfl, by decide +kernel, rfl, by decide +kernel, by decide +kernel⟩
def pLcan : List PyData → PyData → Prop := fun ds r => ∃ x : Hz, ds = [tq x] ∧ Bd 4000 x ∧ r = tq (Hz.canon x)
theorem ok_law_canonical (D : Dn K mg "_law_canonical" s_law_canonical) (T : Txt K mg) (h_law_units : Has P w K mg base "_law_units" 1 [] (spL K pUnits)) (h_law_product : Has P w K mg base "_law_product" 1 ["_law_one", "_law_other"] (spV K pProd)) : Has P w K mg base "_law_canonical" 2 ["_law_number"] (spV K pLcan) := by
  refine D.has sc_law_canonical (fun _ _ _ _ _ _ us hl => match us, hl with | [_], _ => rfl) (fun vs H Q E => lenN 1 fun ds r ⟨_, e, _⟩ => by rw [e]; rfl) fun f cdv A outer s H vs Q E hr h => ?_
  obtain ⟨ds, r, hd, ⟨x, rfl, hb, rfl⟩, q⟩ := h
  obtain ⟨v, rfl, dv⟩ := one_ hd
  refine ⟨_, (pss_one (ps_ret (pe_callB (TP.L.cr_maxD (d := 4) rfl (hu_of hr)) (by rfl) T.max b_max (pa_cons (pe_lc (own := [("_law_unit", 1)]) (tt := tYes) (g := (gName 1)) rfl sc_law_canonical.nd (pi_list (pe_has0 h_law_units (hr.mono (by decide)) (by rfl))) (blkOk_by (own := [("_law_unit", 1)]) (N := N_law_canonical) (sc := defScope s_law_canonical) (by decide +kernel)) (fun _ _ _ _ _ => (pg_name (i := 1) sc_law_canonical.nd rfl (Or.inl rfl))) (fun _ _ _ _ _ => pts_nil) (fun _ _ _ _ _ => (pe_has h_law_product (hr.mono (by decide)) (by rfl) (pa_cons (pv 0) (pa_cons (pv 1) pa_nil))))) pa_nil)))), ?_⟩
  refine s_isRet (K := K) (d := tupI (Hz.canon x).dl) (is_maxD (nss := Hz.units.map fun u => (Hz.mul x u).dl) (Nw.is (nw_lcL (es := Hz.units.map tq) (nw_call ia_nil ⟨rfl, rfl⟩).is (by decide) (fun _ => rfl) (by simp) (flats_tup _) fun i y d r H2 e2 h1 h2 dy => ?_)) (fun ns m => ?_) ?_ (fun ns m => ?_)) fun v H1 e1 dv => q v H1 e1 dv
  · rw [List.getElem?_map] at h1
    rw [List.getElem?_map, List.getElem?_map] at h2
    cases hu : Hz.units[i]? with
    | none => rw [hu] at h1; cases h1
    | some u =>
      rw [hu] at h1 h2
      have ed : d = tq u := (Option.some.inj h1).symm
      have er : r = tq (Hz.mul x u) := (Option.some.inj h2).symm
      rw [ed] at dy
      rw [er]
      exact is_call (ia2 (is_var rfl (dp_ex e2 dv)) (is_var rfl dy)) ⟨x, u, rfl, hb, unit_bd (List.mem_of_getElem? hu), rfl⟩
  · obtain ⟨u, _, e⟩ := List.mem_map.mp m
    rw [← e]
    rfl
  · obtain ⟨u, hu, e⟩ := Hz.canon_unit x
    rw [e]
    exact List.mem_map.mpr ⟨u, Hz.mem_units hu, rfl⟩
  · obtain ⟨u, hu, e⟩ := List.mem_map.mp m
    rw [← e, ← lex_eq]
    exact Hz.canon_top x u (Hz.units_nm u hu)
end
end TP.W
set_option maxHeartbeats 4000000
namespace TP.W
open PySem PySem.Spec PyProof.Rows L2 Evl RZ TP.L
theorem of4 {a b c d p : Int} (h : d * d = p - a * a - b * b - c * c) : (Hz.ofD (2 * a) (2 * b) (2 * c) (2 * d)).nm = p ∧ (Hz.ofD (2 * a) (2 * b) (2 * c) (2 * d)).dl = [2 * a, 2 * b, 2 * c, 2 * d] := by
  have e : (Hz.ofD (2 * a) (2 * b) (2 * c) (2 * d)).dl = [2 * a, 2 * b, 2 * c, 2 * d] := Hz.dl_ofD (by omega) (by omega) (by omega)
  refine ⟨?_, e⟩
  have f := Hz.four_nm (Hz.ofD (2 * a) (2 * b) (2 * c) (2 * d))
  generalize Hz.ofD (2 * a) (2 * b) (2 * c) (2 * d) = z at e f
  simp only [Hz.dl, List.cons.injEq, and_true] at e
  obtain ⟨e0, e1, e2, e3⟩ := e
  rw [e1, e2, e3, e0] at f
  have k : ∀ t : Int, 2 * t * (2 * t) = 4 * (t * t) := fun t => by grind
  rw [k, k, k, k] at f
  omega
def mostF (p : Int) (n : Nat) : Int := (List.range n).foldl (fun m (k : Nat) => if ((k : Int) + 1) * ((k : Int) + 1) ≤ p then (k : Int) + 1 else m) 0
theorem mostF_succ (p : Int) (n : Nat) : mostF p (n + 1) = if ((n : Int) + 1) * ((n : Int) + 1) ≤ p then (n : Int) + 1 else mostF p n := by
  unfold mostF
  rw [List.range_succ, List.foldl_append]
  rfl
theorem most_wit {p : Int} (h : Hz.isP p) : ∃ M a b c d : Nat, mostF p 40 = (M : Int) ∧ 1 ≤ M ∧ M ≤ 2 ∧ a ≤ M ∧ b ≤ 2 * M ∧ c ≤ 2 * M ∧ d ≤ M ∧ (d : Int) * (d : Int) = p - (a : Int) * (a : Int) - (-(M : Int) + (b : Int)) * (-(M : Int) + (b : Int)) - (-(M : Int) + (c : Int)) * (-(M : Int) + (c : Int)) := by
  rcases h with h | h | h | h <;> subst h
  · exact ⟨1, 1, 2, 1, 0, by decide +kernel, by decide, by decide, by decide, by decide, by decide, by decide, by decide⟩
  · exact ⟨1, 1, 2, 2, 0, by decide +kernel, by decide, by decide, by decide, by decide, by decide, by decide, by decide⟩
  · exact ⟨2, 2, 3, 2, 0, by decide +kernel, by decide, by decide, by decide, by decide, by decide, by decide, by decide⟩
  · exact ⟨2, 2, 3, 3, 1, by decide +kernel, by decide, by decide, by decide, by decide, by decide, by decide, by decide⟩
theorem back_dl {nst : List (List Int)} {zs : List Hz} (pm : nst.Perm (zs.map Hz.dl)) : ∃ zt : List Hz, nst = zt.map Hz.dl ∧ zt.Perm zs := by
  have key : ∀ z : Hz, (Hz.ofD (z.dl.getD 0 0) (z.dl.getD 1 0) (z.dl.getD 2 0) (z.dl.getD 3 0)) = z := fun z => Hz.ofD_dl z
  refine ⟨nst.map fun ns => Hz.ofD (ns.getD 0 0) (ns.getD 1 0) (ns.getD 2 0) (ns.getD 3 0), ?_, ?_⟩
  · rw [List.map_map]
    refine Eq.trans (List.map_id nst).symm (List.map_congr_left fun ns m => ?_)
    obtain ⟨z, _, e⟩ := List.mem_map.mp (pm.mem_iff.mp m)
    rw [← e]
    exact (congrArg Hz.dl (key z)).symm
  · have := pm.map fun ns => Hz.ofD (ns.getD 0 0) (ns.getD 1 0) (ns.getD 2 0) (ns.getD 3 0)
    rw [List.map_map] at this
    refine this.trans ?_
    have e : zs.map ((fun ns => Hz.ofD (ns.getD 0 0) (ns.getD 1 0) (ns.getD 2 0) (ns.getD 3 0)) ∘ Hz.dl) = zs := by
      refine Eq.trans (List.map_congr_left fun z _ => key z) (List.map_id zs)
    rw [e]
section
variable {K : PySem.W.Frag} {σ : L2.St} {H : Hp} {D : Ends} {tu : TS}
theorem s_forR2n {ta : TA} {j : Nat} {lo n : Int} (h : EvA ta σ H [.int lo, .int n]) (hn : -100000 ≤ lo ∧ lo ≤ 100000 ∧ -100000 ≤ n ∧ n ≤ 100000) (Pv : Nat → L2.St → Hp → Prop) (h0 : ∀ H1, Ex H H1 → Pv 0 σ H1)
    (hs : ∀ (i : Nat) σ' H', lo + (i : Int) < n → Pv i σ' H' → tu { D with nx := Pv (i + 1), ct := Pv (i + 1), bk := D.nx } (σ'.set j (some (.int (lo + (i : Int))))) H') (hd : ∀ σ' H', Pv (n - lo).toNat σ' H' → D.nx σ' H') : tFor (iRng2 ta) (gName j) tu D σ H :=
  h H (Ex.refl H) _ fun H1 e => ⟨lo, n, rfl, ⟨by omega, by omega, by omega, by omega⟩, for_range (lo := lo) (n := (n - lo).toNat) Pv (h0 H1 e) (fun i σ' H' hi p => hs i σ' H' (by omega) p) hd⟩
end
theorem units65 {A : Around} {k : Nat} (hr : Room k A) : A.units + 65 < cLine := by have := hr.un; omega
/-- what the loops keep -/
def IP (K : PySem.W.Frag) (p : Int) (l : Addr) (H : Hp) (n : Nat) (F : Prop) (zs : List Hz) (H' : Hp) : Prop := Ex H H' ∧ LAt K l (zs.map tq) H' ∧ zs.length ≤ n ∧ (∀ z ∈ zs, z.nm = p) ∧ (F → zs ≠ [])
theorem IP.ex {K : PySem.W.Frag} {p : Int} {l : Addr} {H : Hp} {n m : Nat} {F G : Prop} {zs : List Hz} {H' H2 : Hp} (h : IP K p l H n F zs H') (e : Ex H' H2) (hn : n ≤ m) (hf : G → F) : IP K p l H m G zs H2 :=
  ⟨h.1.trans e, lat_ex e h.2.1, Nat.le_trans h.2.2.1 hn, h.2.2.2.1, fun g => h.2.2.2.2 (hf g)⟩
section
variable {P : Program} {w : World} {K : PySem.W.Frag} {mg : Str → Option Value} {base : Heap}
abbrev s_law_primes : Stmt := top 50
abbrev N_law_primes : List Str := ["_law_prime", "_law_found", "_law_most", "_law_k", "_law_a", "_law_b", "_law_c", "_law_rest", "_law_d", "_law_number"]
theorem sc_law_primes : FnScope N_law_primes ["_law_prime"] (defScope s_law_primes) := ⟨rfl, rfl, rfl, by decide +kernel, rfl, by decide +kernel, by decide +kernel⟩
def preLpr : List PyData → Prop := fun ds => ∃ p : Int, ds = [.int p] ∧ Hz.isP p
def posLpr : List PyData → List PyData → Prop := fun ds r => ∃ (p : Int) (zs : List Hz), ds = [.int p] ∧ r = zs.map tq ∧ zs ≠ [] ∧ zs.length ≤ 1000 ∧ ∀ z ∈ zs, z.nm = p
theorem ok_law_primes (D : Dn K mg "_law_primes" s_law_primes) (T : Txt K mg) (h_law_canonical : Has P w K mg base "_law_canonical" 2 ["_law_number"] (spV K pLcan)) : Has P w K mg base "_law_primes" 3 ["_law_prime"] (spN K preLpr posLpr) := by
  refine D.has sc_law_primes (fun _ _ _ _ _ _ us hl => match us, hl with | [_], _ => rfl) (fun vs H Q E => lenNw 1 fun ds ⟨_, e, _⟩ => by rw [e]; rfl) fun f cdv A outer s H vs Q E hr h => ?_
  obtain ⟨ds, hd, ⟨p, rfl, hp⟩, q⟩ := h
  obtain ⟨v, rfl, dv⟩ := one_ hd
  rw [dp_int dv]
  have pb := isP_bd hp
  refine ⟨_, (pss_cons (ps_set (i := 1) sc_law_primes.nd rfl (Or.inl rfl) (pe_lst pa_nil))
      (pss_cons (ps_set (i := 2) sc_law_primes.nd rfl (Or.inl rfl) pe_int)
      (pss_cons (ps_for PassesOwn.never rfl (pi_range1 (by rfl) T.range (pa_cons pe_int pa_nil)) (pg_name (i := 3) sc_law_primes.nd rfl (Or.inl rfl))
      (pss_one (ps_if (pt_cmpR op_le (pe_op op_mulW (pe_op op_add (pv 3) pe_int) (pe_op op_add (pv 3) pe_int)) (pv 0) (nomark _)) (pss_one (ps_set (i := 2) sc_law_primes.nd rfl (Or.inl rfl) (pe_op op_add (pv 3) pe_int))) pss_nil)))
      (pss_cons (ps_for PassesOwn.never rfl (pi_range1 (by rfl) T.range (pa_cons (pe_op op_add (pv 2) pe_int) pa_nil)) (pg_name (i := 4) sc_law_primes.nd rfl (Or.inl rfl))
      (pss_one (ps_for PassesOwn.never rfl (pi_range2 (by rfl) T.range (pa_cons (pe_un un_neg (pv 2)) (pa_cons (pe_op op_add (pv 2) pe_int) pa_nil))) (pg_name (i := 5) sc_law_primes.nd rfl (Or.inl rfl))
      (pss_one (ps_for PassesOwn.never rfl (pi_range2 (by rfl) T.range (pa_cons (pe_un un_neg (pv 2)) (pa_cons (pe_op op_add (pv 2) pe_int) pa_nil))) (pg_name (i := 6) sc_law_primes.nd rfl (Or.inl rfl))
      (pss_cons (ps_set (i := 7) sc_law_primes.nd rfl (Or.inl rfl) (pe_op op_sub (pe_op op_sub (pe_op op_sub (pv 0) (pe_op op_mulW (pv 4) (pv 4))) (pe_op op_mulW (pv 5) (pv 5))) (pe_op op_mulW (pv 6) (pv 6))))
      (pss_one (ps_for PassesOwn.never rfl (pi_range1 (by rfl) T.range (pa_cons (pe_op op_add (pv 2) pe_int) pa_nil)) (pg_name (i := 8) sc_law_primes.nd rfl (Or.inl rfl))
      (pss_one (ps_if (pt_cmpR op_eq (pe_op op_mulW (pv 8) (pv 8)) (pv 7) (nomark _)) (pss_cons (ps_set (i := 9) sc_law_primes.nd rfl (Or.inl rfl) (pe_has h_law_canonical (hr.mono (by decide)) (by rfl) (pa_cons (pe_tup (pa_cons (pe_op op_mulW pe_int (pv 4)) (pa_cons (pe_op op_mulW pe_int (pv 5)) (pa_cons (pe_op op_mulW pe_int (pv 6)) (pa_cons (pe_op op_mulW pe_int (pv 8)) pa_nil))))) pa_nil)))
      (pss_one (ps_if (pt_cmpR (op_notInD (units65 hr)) (pv 9) (pv 1) rfl) (pss_one (ps_expr (pe_bm PySem.F.plainAttrs_list PySem.F.slot_list_append PySem.F.type_list_append mt_append (pv 1) (pa_cons (pv 9) pa_nil)))) pss_nil))) pss_nil))))))))))
      (pss_one (ps_ret (pe_callB (cr_sortD (d := 3)) (by rfl) T.sorted b_sorted (pa_cons (pv 1) pa_nil)))))))), ?_⟩
  refine q_nw (K := K) (ds := []) (nw_lst ia_nil (by decide)) fun l us H2 hl e2 hl2 hd2 => ?_
  have hn : H l = none := hl
  refine q_is (K := K) (is_int (i := 0)) fun v2 H3 e3 d3 => ?_
  rw [dp_int d3]
  obtain ⟨M, wa, wb, wc, wd, hM, m1, m2, la, lb, lc, ld, weq⟩ := most_wit hp
  -- the greatest root
  refine q_forR1 (n := 40) (ia_ev (K := K) (ns := [40]) (ia0 is_int)) (by decide) (fun i σ' H' => ∃ y3, σ' = [some (.int p), some (.ref l), some (.int (mostF p i)), y3, none, none, none, none, none, none] ∧ Ex H H' ∧ LAt K l [] H') (fun H4 e4 => ⟨none, rfl, e2.trans (e3.trans e4), lat_ex (e3.trans e4) ⟨us, hl2, hd2⟩⟩) (fun i σ' H' hi z => ?_) fun σ' H' z => ?_
  · obtain ⟨y3, rfl, e4, hA⟩ := z
    show tIfS _ _ _ _ [some (.int p), some (.ref l), some (.int (mostF p i)), some (.int (i : Int)), none, none, none, none, none, none] _
    refine Evl.s_if (et_is (K := K) (is_le (is_mulW (is_add (is_var rfl (.int (i : Int))) is_int) (is_add (is_var rfl (.int (i : Int))) is_int) (mulw (by omega) (by omega) (by omega) (by omega))) (is_var rfl (.int p)))) (fun c H5 e5 => ?_) fun c H5 e5 => ?_
    · refine s_isAsg (K := K) (is_add (is_var rfl (.int (i : Int))) is_int) fun v5 H6 e6 d6 => ?_
      rw [dp_int d6]
      refine ⟨some (.int (i : Int)), ?_, e4.trans (e5.trans e6), lat_ex (e5.trans e6) hA⟩
      rw [mostF_succ, if_pos (of_decide_eq_true c)]
      rfl
    · refine ⟨some (.int (i : Int)), ?_, e4.trans e5, lat_ex e5 hA⟩
      rw [mostF_succ, if_neg (of_decide_eq_false c)]
  obtain ⟨y3, rfl, e4, hA⟩ := z
  rw [show mostF p (Int.toNat 40) = (M : Int) from hM]
  have start : IP K p l H 0 False [] H' := ⟨e4, hA, Nat.le_refl _, fun z m => by simp at m, fun f => f.elim⟩
  have mwM : ∀ j : Nat, j ≤ 2 * M → CMulW (-(M : Int) + (j : Int)) (-(M : Int) + (j : Int)) := fun j hj => mulw (by omega) (by omega) (by omega) (by omega)
  -- a
  refine q_forR1 (n := (M : Int) + 1) (ia_ev (K := K) (ns := [(M : Int) + 1]) (ia0 (is_add (is_var rfl (.int (M : Int))) is_int))) (by omega) (fun i σ' H' => ∃ y4 y5 y6 y7 y8 y9 zs, σ' = [some (.int p), some (.ref l), some (.int (M : Int)), y3, y4, y5, y6, y7, y8, y9] ∧ IP K p l H (75 * i) (wa < i) zs H') (fun H4 e4 => ⟨none, none, none, none, none, none, [], rfl, start.ex e4 (Nat.zero_le _) (fun g => absurd g (Nat.not_lt_zero _))⟩) (fun i σ' H' hi z => ?_) fun σ' H' z => ?_
  · obtain ⟨y4, y5, y6, y7, y8, y9, zs, rfl, ip⟩ := z
    show tFor _ _ _ _ [some (.int p), some (.ref l), some (.int (M : Int)), y3, some (.int (i : Int)), y5, y6, y7, y8, y9] _
    refine s_forR2n (lo := -(M : Int)) (n := (M : Int) + 1) (ia_ev (K := K) (ns := [-(M : Int), (M : Int) + 1]) (ia2 (is_neg (is_var rfl (.int (M : Int)))) (is_add (is_var rfl (.int (M : Int))) is_int))) (by omega) (fun j σ' H' => ∃ y5 y6 y7 y8 y9 zs, σ' = [some (.int p), some (.ref l), some (.int (M : Int)), y3, some (.int (i : Int)), y5, y6, y7, y8, y9] ∧ IP K p l H (75 * i + 15 * j) (wa < i ∨ wa = i ∧ wb < j) zs H') (fun H4 e4 => ⟨_, _, _, _, _, zs, rfl, ip.ex e4 (by omega) (by omega)⟩) (fun j σ' H' hj z => ?_) fun σ' H' z => ?_
    · obtain ⟨y5, y6, y7, y8, y9, zs, rfl, ip⟩ := z
      show tFor _ _ _ _ [some (.int p), some (.ref l), some (.int (M : Int)), y3, some (.int (i : Int)), some (.int (-(M : Int) + (j : Int))), y6, y7, y8, y9] _
      refine s_forR2n (lo := -(M : Int)) (n := (M : Int) + 1) (ia_ev (K := K) (ns := [-(M : Int), (M : Int) + 1]) (ia2 (is_neg (is_var rfl (.int (M : Int)))) (is_add (is_var rfl (.int (M : Int))) is_int))) (by omega) (fun k σ' H' => ∃ y6 y7 y8 y9 zs, σ' = [some (.int p), some (.ref l), some (.int (M : Int)), y3, some (.int (i : Int)), some (.int (-(M : Int) + (j : Int))), y6, y7, y8, y9] ∧ IP K p l H (75 * i + 15 * j + 3 * k) (wa < i ∨ wa = i ∧ (wb < j ∨ wb = j ∧ wc < k)) zs H') (fun H4 e4 => ⟨_, _, _, _, zs, rfl, ip.ex e4 (by omega) (by omega)⟩) (fun k σ' H' hk z => ?_) fun σ' H' z => ?_
      · obtain ⟨y6, y7, y8, y9, zs, rfl, ip⟩ := z
        show tSeq _ _ _ [some (.int p), some (.ref l), some (.int (M : Int)), y3, some (.int (i : Int)), some (.int (-(M : Int) + (j : Int))), some (.int (-(M : Int) + (k : Int))), y7, y8, y9] _
        refine q_is (K := K) (is_sub (is_sub (is_sub (is_var rfl (.int p)) (is_mulW (is_var rfl (.int (i : Int))) (is_var rfl (.int (i : Int))) (mulw (by omega) (by omega) (by omega) (by omega)))) (is_mulW (is_var rfl (.int (-(M : Int) + (j : Int)))) (is_var rfl (.int (-(M : Int) + (j : Int)))) (mwM j (by omega)))) (is_mulW (is_var rfl (.int (-(M : Int) + (k : Int)))) (is_var rfl (.int (-(M : Int) + (k : Int)))) (mwM k (by omega)))) fun v7 H7 e7 d7 => ?_
        rw [dp_int d7]
        generalize hrest : p - (i : Int) * (i : Int) - (-(M : Int) + (j : Int)) * (-(M : Int) + (j : Int)) - (-(M : Int) + (k : Int)) * (-(M : Int) + (k : Int)) = rest
        show tFor _ _ _ _ [some (.int p), some (.ref l), some (.int (M : Int)), y3, some (.int (i : Int)), some (.int (-(M : Int) + (j : Int))), some (.int (-(M : Int) + (k : Int))), some (.int rest), y8, y9] _
        refine s_forR1 (n := (M : Int) + 1) (ia_ev (K := K) (ns := [(M : Int) + 1]) (ia0 (is_add (is_var rfl (.int (M : Int))) is_int))) (by omega) (fun m σ' H' => ∃ y8 y9 zs, σ' = [some (.int p), some (.ref l), some (.int (M : Int)), y3, some (.int (i : Int)), some (.int (-(M : Int) + (j : Int))), some (.int (-(M : Int) + (k : Int))), some (.int rest), y8, y9] ∧ IP K p l H (75 * i + 15 * j + 3 * k + m) (wa < i ∨ wa = i ∧ (wb < j ∨ wb = j ∧ (wc < k ∨ wc = k ∧ wd < m))) zs H') (fun H4 e4 => ⟨_, _, zs, rfl, ip.ex (e7.trans e4) (by omega) (by omega)⟩) (fun m σ' H' hm z => ?_) fun σ' H' z => ?_
        · obtain ⟨y8, y9, zs, rfl, ip⟩ := z
          show tIfS _ _ _ _ [some (.int p), some (.ref l), some (.int (M : Int)), y3, some (.int (i : Int)), some (.int (-(M : Int) + (j : Int))), some (.int (-(M : Int) + (k : Int))), some (.int rest), some (.int (m : Int)), y9] _
          refine Evl.s_if (et_is (K := K) (is_eqI (is_mulW (is_var rfl (.int (m : Int))) (is_var rfl (.int (m : Int))) (mulw (by omega) (by omega) (by omega) (by omega))) (is_var rfl (.int rest)))) (fun c H5 e5 => ?_) fun c H5 e5 => ?_
          · have c := of_decide_eq_true c
            rw [← hrest] at c
            obtain ⟨zn, zd⟩ := of4 c
            have a2 : ∀ t : Int, -1000 < t → t < 1000 → CMulW 2 t := fun t h1 h2 => mulw (by decide) (by decide) (by omega) (by omega)
            have bz := bd_nm (x := Hz.ofD (2 * (i : Int)) (2 * (-(M : Int) + (j : Int))) (2 * (-(M : Int) + (k : Int))) (2 * (m : Int))) (by omega)
            refine q_is (K := K) (d := tq (Hz.canon (Hz.ofD (2 * (i : Int)) (2 * (-(M : Int) + (j : Int))) (2 * (-(M : Int) + (k : Int))) (2 * (m : Int))))) (is_call (ia0 (Is.eq (d := tupI [2 * (i : Int), 2 * (-(M : Int) + (j : Int)), 2 * (-(M : Int) + (k : Int)), 2 * (m : Int)]) (is_tup (ds := inz [2 * (i : Int), 2 * (-(M : Int) + (j : Int)), 2 * (-(M : Int) + (k : Int)), 2 * (m : Int)]) (ia_cons (is_mulW is_int (is_var rfl (.int _)) (a2 _ (by omega) (by omega))) (ia_cons (is_mulW is_int (is_var rfl (.int _)) (a2 _ (by omega) (by omega))) (ia2 (is_mulW is_int (is_var rfl (.int _)) (a2 _ (by omega) (by omega))) (is_mulW is_int (is_var rfl (.int _)) (a2 _ (by omega) (by omega)))))) (by show 4 ≤ 100000; decide)) (congrArg tupI zd).symm)) ⟨_, rfl, bz.mono (by decide), rfl⟩) fun v9 H8 e8 d8 => ?_
            generalize hz : Hz.ofD (2 * (i : Int)) (2 * (-(M : Int) + (j : Int))) (2 * (-(M : Int) + (k : Int))) (2 * (m : Int)) = z0 at zn zd bz d8
            have zc : (Hz.canon z0).nm = p := by rw [Hz.nm_canon]; exact zn
            show tIfS _ _ _ _ [some (.int p), some (.ref l), some (.int (M : Int)), y3, some (.int (i : Int)), some (.int (-(M : Int) + (j : Int))), some (.int (-(M : Int) + (k : Int))), some (.int rest), some (.int (m : Int)), some v9] _
            obtain ⟨i1, i2, i3, i4, i5⟩ := ip
            have hA8 := lat_ex (e5.trans e8) i2
            refine Evl.s_if (et_is (K := K) (is_notInD (is_var rfl d8) (lat_is rfl hA8) (shaped_tupI _) (lay_lst (lay_tqs _)).shaped)) (fun c2 H9 e9 => ?_) fun c2 H9 e9 => ?_
            · obtain ⟨ws, w1, w2⟩ := lat_ex e9 hA8
              have wl := dps_len w2
              rw [List.length_map] at wl
              refine s_appD (K := K) w1 ⟨1, rfl, rfl⟩ (is_var rfl (dp_ex e9 d8)) (by omega) fun v10 H10 e10 d10 => ?_
              have new := lat_app (K := K) (r := tq (Hz.canon z0)) (e10 _ _ w1) (dps_ex e10 w2) (flats_tqs _) d10 (flat_tupI _)
              have em : zs.map tq ++ [tq (Hz.canon z0)] = (zs ++ [Hz.canon z0]).map tq := by rw [List.map_append]; rfl
              rw [em] at new
              refine ⟨_, _, zs ++ [Hz.canon z0], rfl, Ex.mut (i1.trans (e5.trans (e8.trans (e9.trans e10)))) hn, new, by rw [List.length_append]; show zs.length + 1 ≤ _; omega, fun z mz => ?_, fun _ => by simp⟩
              rcases List.mem_append.mp mz with mz | mz
              · exact i4 z mz
              · rw [List.mem_singleton.mp mz]; exact zc
            · refine ⟨_, _, zs, rfl, i1.trans (e5.trans (e8.trans e9)), lat_ex e9 hA8, by omega, i4, fun _ e => ?_⟩
              rw [e] at c2
              simp at c2
          · have c := of_decide_eq_false c
            refine ⟨_, _, zs, rfl, ip.ex e5 (by omega) fun g => ?_⟩
            have ne : ¬ (wa = i ∧ wb = j ∧ wc = k ∧ wd = m) := fun ⟨h1, h2, h3, h4⟩ => c (by rw [← hrest, ← h1, ← h2, ← h3, ← h4]; exact weq)
            omega
        · obtain ⟨y8, y9, zs, rfl, ip⟩ := z
          exact ⟨_, _, _, _, zs, rfl, ip.ex (Ex.refl _) (by omega) (by omega)⟩
      · obtain ⟨y6, y7, y8, y9, zs, rfl, ip⟩ := z
        exact ⟨_, _, _, _, _, zs, rfl, ip.ex (Ex.refl _) (by omega) (by omega)⟩
    · obtain ⟨y5, y6, y7, y8, y9, zs, rfl, ip⟩ := z
      exact ⟨_, _, _, _, _, _, zs, rfl, ip.ex (Ex.refl _) (by omega) (by omega)⟩
  · obtain ⟨y4, y5, y6, y7, y8, y9, zs, rfl, i1, i2, i3, i4, i5⟩ := z
    have ez : zs.map tq = (zs.map Hz.dl).map tupI := (map_tupI zs).symm
    rw [ez] at i2
    refine nw_sortR (K := K) (nss := zs.map Hz.dl) (lat_is rfl i2) (fun ns m => by obtain ⟨z, _, e⟩ := List.mem_map.mp m; rw [← e]; rfl) H' (Ex.refl _) _ fun r us2 H3 nst hr e5 h5 d5 pm _ => ?_
    obtain ⟨zt, rfl, pz⟩ := back_dl pm
    rw [map_tupI] at d5
    refine q _ r us2 H3 ⟨p, zt, rfl, rfl, fun e => i5 (by omega) ?_, by rw [pz.length_eq]; omega, fun z m => i4 z (pz.mem_iff.mp m)⟩ (fresh_back i1 hr) (i1.trans e5) h5 d5
    rw [e] at pz
    exact pz.symm.eq_nil
end
end TP.W
set_option maxHeartbeats 4000000
namespace TP.W
open PySem PySem.Spec PyProof.Rows L2 Evl RZ TP.L
/-! ### dividing on the left, exactly -/
theorem smul_dl (n : Int) (y : Hz) : (Hz.smul n y).dl = y.dl.map (n * ·) := by
  simp only [Hz.dl, Hz.smul, List.map_cons, List.map_nil, List.cons.injEq, and_true, Int.mul_add]
  refine ⟨trivial, ?_, ?_, ?_⟩ <;> (congr 1; grind)
theorem div_eq {f x y : Hz} (h : Hz.mul f y = x) : Hz.mul f.conj x = Hz.smul f.nm y := by
  rw [← h, ← Hz.mul_assoc, Hz.conj_mul_self, Hz.ofI_mul]
theorem div_no1 {f x y : Hz} (h : Hz.mul f y = x) : ∀ t ∈ (Hz.mul f.conj x).dl, t % f.nm = 0 := fun t m => by
  rw [div_eq h, smul_dl] at m
  obtain ⟨s, _, e⟩ := List.mem_map.mp m
  rw [← e]
  exact Int.mul_emod_right _ _
theorem div_shares {f x y : Hz} (hf : f ≠ Hz.zero) (h : Hz.mul f y = x) : (Hz.mul f.conj x).dl.map (· / f.nm) = y.dl := by
  have np := Hz.nm_pos hf
  rw [div_eq h, smul_dl, List.map_map]
  refine Eq.trans (List.map_congr_left fun t _ => ?_) (List.map_id _)
  exact Int.mul_ediv_cancel_left t (by omega)
theorem div_yes {f x : Hz} (hf : f ≠ Hz.zero) (h1 : ∀ t ∈ (Hz.mul f.conj x).dl, t % f.nm = 0) (h2 : ∀ t ∈ (Hz.mul f.conj x).dl.map (· / f.nm), (t - (Hz.mul f.conj x).p / f.nm) % 2 = 0) : ∃ y, Hz.mul f y = x ∧ (Hz.mul f.conj x).dl.map (· / f.nm) = y.dl := by
  have np := Hz.nm_pos hf
  have hw : Hz.mul f (Hz.mul f.conj x) = Hz.smul f.nm x := by rw [← Hz.mul_assoc, Hz.mul_conj_self, Hz.ofI_mul]
  generalize Hz.mul f.conj x = w at h1 h2 hw
  simp only [Hz.dl, List.map_cons, List.map_nil, List.mem_cons, List.not_mem_nil, or_false, forall_eq_or_imp, forall_eq] at h1 h2
  obtain ⟨a0, a1, a2, a3⟩ := h1
  obtain ⟨_, b1, b2, b3⟩ := h2
  have e := Hz.dl_ofD b1 b2 b3
  refine ⟨Hz.ofD (w.p / f.nm) ((w.p + 2 * w.q) / f.nm) ((w.p + 2 * w.r) / f.nm) ((w.p + 2 * w.s) / f.nm), ?_, e.symm⟩
  have ew : Hz.smul f.nm (Hz.ofD (w.p / f.nm) ((w.p + 2 * w.q) / f.nm) ((w.p + 2 * w.r) / f.nm) ((w.p + 2 * w.s) / f.nm)) = w := by
    refine Hz.dl_inj ?_
    rw [smul_dl, e]
    simp only [List.map_cons, List.map_nil, Hz.dl]
    rw [Int.mul_ediv_cancel' (Int.dvd_of_emod_eq_zero a0), Int.mul_ediv_cancel' (Int.dvd_of_emod_eq_zero a1), Int.mul_ediv_cancel' (Int.dvd_of_emod_eq_zero a2), Int.mul_ediv_cancel' (Int.dvd_of_emod_eq_zero a3)]
  refine Hz.smul_cancel (n := f.nm) (by omega) ?_
  rw [← Hz.mul_smul, ew, hw]
open Classical in
noncomputable def divD (f x : Hz) : PyData := if h : ∃ y, Hz.mul f y = x then tq h.choose else .none
theorem divD_some {f x y : Hz} (hf : f ≠ Hz.zero) (h : Hz.mul f y = x) : divD f x = tq y := by
  have hx : ∃ y, Hz.mul f y = x := ⟨y, h⟩
  unfold divD
  rw [dif_pos hx]
  exact congrArg tq (Hz.mul_left_cancel hf (hx.choose_spec.trans h.symm))
theorem divD_none {f x : Hz} (h : ∀ y, Hz.mul f y ≠ x) : divD f x = .none := by
  unfold divD
  rw [dif_neg fun ⟨y, e⟩ => h y e]
open Classical in
noncomputable def primB (x : Hz) : Bool := decide (∀ p ∈ ([2, 3, 5, 7, 11, 13] : List Int), ∀ y, Hz.mul (Hz.ofI p) y ≠ x)
theorem par2 (y : Hz) : ∀ t ∈ y.dl, (t - y.p) % 2 = 0 := fun t ht => by
  simp only [Hz.dl, List.mem_cons, List.not_mem_nil, or_false] at ht
  rcases ht with e | e | e | e <;> rw [e] <;> omega
open Classical in
theorem primB_true {x : Hz} (h : ∀ p ∈ ([2, 3, 5, 7, 11, 13] : List Int), ∀ y, Hz.mul (Hz.ofI p) y ≠ x) : primB x = true := decide_eq_true h
open Classical in
theorem primB_false {x : Hz} (h : ¬ ∀ p ∈ ([2, 3, 5, 7, 11, 13] : List Int), ∀ y, Hz.mul (Hz.ofI p) y ≠ x) : primB x = false := decide_eq_false h
open Classical in
theorem primB_at {x : Hz} (h : primB x = true) : ∀ p ∈ ([2, 3, 5, 7, 11, 13] : List Int), ∀ y, Hz.mul (Hz.ofI p) y ≠ x := of_decide_eq_true h
def notN : PyData → Bool
  | .none => false
  | _ => true
theorem is_notN2 {K : PySem.W.Frag} {σ : L2.St} {H : Hp} {ta : TE} {d : PyData} (ha : Is K ta σ H d) : Is K (tOp (fun x y H Q => y = V.non ∧ Q (.bl (!decide (x = .non))) H) ta (tC .non)) σ H (.bool (notN d)) := by
  cases d <;> exact is_notN ha
theorem small_nm {x : Hz} (h : x.nm ≤ 1048576) : Bd 4000 x := (bd_nm h).mono (by decide)
theorem ofI_ne {p : Int} (h : 0 < p) : Hz.ofI p ≠ Hz.zero := fun h => by
  have := congrArg Hz.p h
  have e : 2 * p = 0 := this
  omega
section
variable {P : Program} {w : World} {K : PySem.W.Frag} {mg : Str → Option Value} {base : Heap}
abbrev s_law_divides : Stmt := top 51
abbrev N_law_divides : List Str := ["_law_factor", "_law_number", "_law_whole", "_law_value", "_law_shares", "_law_part", "_law_share"]
theorem sc_law_divides : FnScope N_law_divides ["_law_factor", "_law_number"] (defScope s_law_divides) := ⟨rfl, rfl, rfl, by decide +kernel, rfl, by decide +kernel, by decide +kernel⟩
def pDiv : List PyData → PyData → Prop := fun ds r => ∃ f x : Hz, ds = [tq f, tq x] ∧ f ≠ Hz.zero ∧ f.nm ≤ 1000 ∧ x.nm ≤ 1048576 ∧ r = divD f x
theorem ok_law_divides (D : Dn K mg "_law_divides" s_law_divides) (T : Txt K mg) (h_law_product : Has P w K mg base "_law_product" 1 ["_law_one", "_law_other"] (spV K pProd)) (h_law_conjugate : Has P w K mg base "_law_conjugate" 1 ["_law_number"] (spV K pConj)) (h_law_norm : Has P w K mg base "_law_norm" 1 ["_law_number"] (spV K pNorm)) : Has P w K mg base "_law_divides" 2 ["_law_factor", "_law_number"] (spV K pDiv) := by
  refine D.has sc_law_divides (fun _ _ _ _ _ _ us hl => match us, hl with | [_, _], _ => rfl) (fun vs H Q E => lenN 2 fun ds r ⟨_, _, e, _⟩ => by rw [e]; rfl) fun f cdv A outer s H vs Q E hr h => ?_
  obtain ⟨ds, r, hd, ⟨a, x, rfl, ha, an, xn, rfl⟩, q⟩ := h
  obtain ⟨v, u, rfl, dv, du⟩ := two_ hd
  refine ⟨_, (pss_cons (ps_set (i := 2) sc_law_divides.nd rfl (Or.inl rfl) (pe_has h_law_product (hr.mono (by decide)) (by rfl) (pa_cons (pe_has h_law_conjugate (hr.mono (by decide)) (by rfl) (pa_cons (pv 0) pa_nil)) (pa_cons (pv 1) pa_nil))))
      (pss_cons (ps_set (i := 3) sc_law_divides.nd rfl (Or.inr rfl) (pe_has h_law_norm (hr.mono (by decide)) (by rfl) (pa_cons (pv 0) pa_nil)))
      (pss_cons (ps_if (pt_val (pe_callB (cr_any rfl) (by rfl) T.any b_any (pa_cons (pe_lc (own := [("_law_part", 5)]) (tt := tYes) (g := (gName 5)) rfl sc_law_divides.nd (pi_tup (pv 2)) (blkOk_by (own := [("_law_part", 5)]) (N := N_law_divides) (sc := defScope s_law_divides) (by decide +kernel)) (fun _ _ _ _ _ => (pg_name (i := 5) sc_law_divides.nd rfl (Or.inl rfl))) (fun _ _ _ _ _ => pts_nil) (fun _ _ _ _ _ => (pe_cmpR op_ne (pe_op op_mod (pe_callTy call_int1 (by rfl) T.int b_int (pa_cons (pv 5) pa_nil)) (pv 3)) pe_int (nomark _)))) pa_nil))) (pss_one (ps_ret pe_non)) pss_nil)
      (pss_cons (ps_set (i := 4) sc_law_divides.nd rfl (Or.inr rfl) (pe_lc (own := [("_law_part", 5)]) (tt := tYes) (g := (gName 5)) rfl sc_law_divides.nd (pi_tup (pv 2)) (blkOk_by (own := [("_law_part", 5)]) (N := N_law_divides) (sc := defScope s_law_divides) (by decide +kernel)) (fun _ _ _ _ _ => (pg_name (i := 5) sc_law_divides.nd rfl (Or.inl rfl))) (fun _ _ _ _ _ => pts_nil) (fun _ _ _ _ _ => (pe_op op_fdivW (pv 5) (pv 3)))))
      (pss_cons (ps_if (pt_val (pe_callB (cr_any rfl) (by rfl) T.any b_any (pa_cons (pe_lc (own := [("_law_share", 6)]) (tt := tYes) (g := (gName 6)) rfl sc_law_divides.nd (pi_list (pv 4)) (blkOk_by (own := [("_law_share", 6)]) (N := N_law_divides) (sc := defScope s_law_divides) (by decide +kernel)) (fun _ _ _ _ _ => (pg_name (i := 6) sc_law_divides.nd rfl (Or.inl rfl))) (fun _ _ _ _ _ => pts_nil) (fun _ _ _ _ _ => (pe_cmpR op_ne (pe_op op_mod (pe_callTy call_int1 (by rfl) T.int b_int (pa_cons (pe_op op_sub (pv 6) (pe_ix (ix_listK (K := K) rfl) (pv 4) pe_int (fun _ _ => rfl))) pa_nil)) pe_int) pe_int (nomark _)))) pa_nil))) (pss_one (ps_ret pe_non)) pss_nil)
      (pss_one (ps_ret (pe_callTy call_tuple_of (by rfl) T.tuple b_tuple (pa_cons (pv 4) pa_nil))))))))), ?_⟩
  have np := Hz.nm_pos ha
  have ba := small_nm (x := a) (by omega)
  refine q_is (K := K) (is_call (ia2 (is_call (ia0 (is_var rfl dv)) ⟨a, rfl, rfl⟩) (is_var rfl du)) ⟨a.conj, x, rfl, bd_conj ba, small_nm xn, rfl⟩) fun v2 H1 e1 d2 => ?_
  refine q_is (K := K) (is_call (ia0 (is_var rfl (dp_ex e1 dv))) ⟨a, rfl, ba, rfl⟩) fun v3 H2 e2 d3 => ?_
  rw [dp_int d3]
  have d4 := dp_ex e2 d2
  have cd : ∀ t : Int, CDivW t a.nm := fun t => div_small np (by omega)
  have e12 := e1.trans e2
  show tSeq _ _ _ [some v, some u, some v2, some (.int a.nm), none, none, none] _
  refine q_when (et_isB (K := K) (is_any (nw_lcTB (ns := (Hz.mul a.conj x).dl) (fun t => !decide (t % a.nm = 0)) (is_var rfl d4) (by show 4 ≤ 1000; decide) (fun _ => rfl) fun t ht H3 e3 => is_neI (is_mod (is_int1 (is_var rfl (.int t))) (is_var rfl (.int a.nm)) np) is_int).is)) (fun c H3 e3 => ?_) fun c H3 e3 => ?_
  · rw [List.any_map, List.any_eq_true] at c
    obtain ⟨t, ht, c⟩ := c
    have no : ∀ y, Hz.mul a y ≠ x := fun y e => by
      have := div_no1 e t ht
      simp [this] at c
    rw [divD_none no] at q
    exact s_isRet (K := K) is_non fun v4 H4 e4 dv => q v4 H4 (e12.trans (e3.trans e4)) dv
  have h1 : ∀ t ∈ (Hz.mul a.conj x).dl, t % a.nm = 0 := fun t ht => by
    rw [List.any_map, List.any_eq_false] at c
    have := c t ht
    simpa using this
  refine q_nw (K := K) (nw_lcTI (ns := (Hz.mul a.conj x).dl) (fun t => t / a.nm) (is_var rfl (dp_ex e3 d4)) (by show 4 ≤ 1000; decide) (fun _ => rfl) fun t ht H4 e4 => is_div (is_var rfl (.int t)) (is_var rfl (.int a.nm)) (cd t)) fun b us H4 hb e4 h4 d5 => ?_
  have dl : Dp K H4 (.ref b) (.list (inz ((Hz.mul a.conj x).dl.map fun t => t / a.nm))) := .lst (.inl (.inl h4)) d5
  show tSeq _ _ _ [some v, some u, some v2, some (.int a.nm), some (.ref b), none, none] _
  have e14 := e12.trans (e3.trans e4)
  refine q_when (et_isB (K := K) (is_any (nw_lcLB (ns := (Hz.mul a.conj x).dl.map fun t => t / a.nm) (fun t => !decide ((t - (Hz.mul a.conj x).p / a.nm) % 2 = 0)) (is_var rfl dl) (by show 4 ≤ 1000; decide) (fun _ => rfl) fun t ht H5 e5 => is_neI (is_mod (is_int1 (is_sub (is_var rfl (.int t)) (is_ixL (k := 0) (is_var rfl (dp_ex e5 dl)) is_int rfl))) is_int (by decide)) is_int).is)) (fun c H5 e5 => ?_) fun c H5 e5 => ?_
  · rw [List.any_map, List.any_eq_true] at c
    obtain ⟨t, ht, c⟩ := c
    have no : ∀ y, Hz.mul a y ≠ x := fun y e => by
      have sh := div_shares ha e
      rw [sh] at ht
      have hp : (Hz.mul a.conj x).p / a.nm = y.p := by
        have := congrArg (fun l => l.getD 0 0) sh
        exact this
      have : (t - (Hz.mul a.conj x).p / a.nm) % 2 = 0 := by
        rw [hp]
        exact par2 y t ht
      simp [this] at c
    rw [divD_none no] at q
    exact s_isRet (K := K) is_non fun v4 H6 e6 dv => q v4 H6 (e14.trans (e5.trans e6)) dv
  have h2 : ∀ t ∈ (Hz.mul a.conj x).dl.map (· / a.nm), (t - (Hz.mul a.conj x).p / a.nm) % 2 = 0 := fun t ht => by
    rw [List.any_map, List.any_eq_false] at c
    have := c t ht
    simpa using this
  obtain ⟨y, ey, sh⟩ := div_yes ha h1 h2
  rw [divD_some ha ey, show tq y = tupI ((Hz.mul a.conj x).dl.map fun t => t / a.nm) from congrArg tupI sh.symm] at q
  exact s_isRet (K := K) (is_tupleL (is_var rfl (dp_ex e5 dl))) fun v4 H6 e6 dv => q v4 H6 (e14.trans (e5.trans e6)) dv
abbrev s_law_is_primitive : Stmt := top 52
abbrev N_law_is_primitive : List Str := ["_law_number", "_law_prime"]
theorem sc_law_is_primitive : FnScope N_law_is_primitive ["_law_number"] (defScope s_law_is_primitive) := ⟨rfl, rfl, rfl, by decide +kernel, rfl, by decide +kernel, by decide +kernel⟩
def pLprim : List PyData → PyData → Prop := fun ds r => ∃ x : Hz, ds = [tq x] ∧ x.nm ≤ 1048576 ∧ r = .bool (primB x)
theorem ok_law_is_primitive (D : Dn K mg "_law_is_primitive" s_law_is_primitive) (T : Txt K mg) (h_law_divides : Has P w K mg base "_law_divides" 2 ["_law_factor", "_law_number"] (spV K pDiv)) : Has P w K mg base "_law_is_primitive" 3 ["_law_number"] (spV K pLprim) := by
  refine D.has sc_law_is_primitive (fun _ _ _ _ _ _ us hl => match us, hl with | [_], _ => rfl) (fun vs H Q E => lenN 1 fun ds r ⟨_, e, _⟩ => by rw [e]; rfl) fun f cdv A outer s H vs Q E hr h => ?_
  obtain ⟨ds, r, hd, ⟨x, rfl, xn, rfl⟩, q⟩ := h
  obtain ⟨v, rfl, dv⟩ := one_ hd
  refine ⟨_, (pss_cons (ps_for PassesOwn.never rfl (pi_list (pe_lst (pa_cons pe_int (pa_cons pe_int (pa_cons pe_int (pa_cons pe_int (pa_cons pe_int (pa_cons pe_int pa_nil)))))))) (pg_name (i := 1) sc_law_is_primitive.nd rfl (Or.inl rfl))
      (pss_one (ps_if (pt_cmpR op_notN (pe_has h_law_divides (hr.mono (by decide)) (by rfl) (pa_cons (pe_tup (pa_cons (pe_op op_mulW pe_int (pv 1)) (pa_cons pe_int (pa_cons pe_int (pa_cons pe_int pa_nil))))) (pa_cons (pv 0) pa_nil))) pe_non (nomark _)) (pss_one (ps_ret pe_bl)) pss_nil)))
      (pss_one (ps_ret pe_bl))), ?_⟩
  refine s_forLX (K := K) (es := inz [2, 3, 5, 7, 11, 13]) (Nw.is (nw_lst (ia_cons is_int (ia_cons is_int (ia_cons is_int (ia_cons is_int (ia2 is_int is_int))))) (by show 6 ≤ 100000; decide))) (fun H1 i σ' H' => ∃ y1, σ' = [some v, y1] ∧ Ex H H' ∧ Ex H1 H' ∧ ∀ p ∈ ([2, 3, 5, 7, 11, 13] : List Int).take i, ∀ y, Hz.mul (Hz.ofI p) y ≠ x) (fun H1 e1 => ⟨none, rfl, e1, Ex.refl _, fun p m => by simp at m⟩) (fun _ _ _ _ _ z => by obtain ⟨_, _, _, z, _⟩ := z; exact z) (fun H1 i z d σ' H' e1 hi dz p => ?_) fun H1 σ' H' e1 p => ?_
  · obtain ⟨y1, rfl, e2, e3, no⟩ := p
    obtain ⟨p, hp, ed⟩ := inz_get hi
    rw [ed] at dz
    rw [dp_int dz]
    have pm := List.mem_of_getElem? hp
    have pb : 0 < p ∧ p ≤ 13 := by
      simp only [List.mem_cons, List.not_mem_nil, or_false] at pm
      omega
    have pn : (Hz.ofI p).nm ≤ 1000 := by
      rw [Hz.nm_ofI]
      have : p * p ≤ 13 * 13 := Int.mul_le_mul pb.2 pb.2 (by omega) (by omega)
      omega
    show tIfS _ _ _ _ [some v, some (.int p)] _
    refine Evl.s_if (et_is (K := K) (is_notN2 (is_call (ia2 (Is.eq (d := tupI [2 * p, 0, 0, 0]) (is_tup (ds := inz [2 * p, 0, 0, 0]) (ia_cons (is_mulW is_int (is_var rfl (.int p)) (mulw (by decide) (by decide) (by omega) (by omega))) (ia_cons is_int (ia2 is_int is_int))) (by show 4 ≤ 100000; decide)) (tq_ofI p)) (is_var rfl (dp_ex e2 dv))) ⟨Hz.ofI p, x, rfl, ofI_ne pb.1, pn, xn, rfl⟩))) (fun c H4 e4 => ?_) fun c H4 e4 => ?_
    · have fl : primB x = false := by
        by_cases h : ∃ y, Hz.mul (Hz.ofI p) y = x
        · obtain ⟨y, e⟩ := h
          exact primB_false fun g => g p pm y e
        · rw [divD_none (fun y e => h ⟨y, e⟩)] at c
          cases c
      rw [fl] at q
      exact s_isRet (K := K) is_bl fun v4 H6 e6 dv => q v4 H6 (e2.trans (e4.trans e6)) dv
    · refine ⟨_, rfl, e2.trans e4, e3.trans e4, fun p2 m2 => ?_⟩
      rw [List.take_add_one, hp] at m2
      rcases List.mem_append.mp m2 with m2 | m2
      · exact no p2 m2
      · have : p2 = p := by simpa using m2
        rw [this]
        intro y e
        rw [divD_some (ofI_ne pb.1) e] at c
        cases c
  · obtain ⟨y1, rfl, e2, e3, no⟩ := p
    have fl : primB x = true := by
      exact primB_true no
    rw [fl] at q
    dsimp only
    refine s_isRet (K := K) (is_bl (b := true)) fun v4 H6 e6 dv => ?_
    exact q v4 H6 (e2.trans e6) dv
end
end TP.W
set_option maxHeartbeats 4000000
namespace TP.W
open PySem PySem.Spec PyProof.Rows L2 Evl RZ TP.L
theorem erase_map {α β : Type} (f : α → β) : ∀ (l : List α) (k : Nat), (l.map f).eraseIdx k = (l.eraseIdx k).map f
  | [], _ => rfl
  | _ :: _, 0 => rfl
  | x :: l, k + 1 => by
    show f x :: (l.map f).eraseIdx k = f x :: (l.eraseIdx k).map f
    rw [erase_map f l k]
theorem nm_one' : Hz.one.nm = 1 := Hz.nm_one
/-- norms of a product of small ones -/
theorem fold_nm : ∀ (fs : List Hz) (x : Hz), (∀ f ∈ fs, Hz.isP f.nm) → (fs.foldl Hz.mul x).nm = x.nm * Hz.prod (fs.map Hz.nm)
  | [], x, _ => by show x.nm = x.nm * 1; omega
  | f :: fs, x, h => by
    show (fs.foldl Hz.mul (Hz.mul x f)).nm = _
    rw [fold_nm fs _ fun g m => h g (List.mem_cons_of_mem _ m), Hz.nm_mul]
    show x.nm * f.nm * Hz.prod (fs.map Hz.nm) = x.nm * (f.nm * Hz.prod (fs.map Hz.nm))
    rw [Int.mul_assoc]
theorem prod_le : ∀ (ps : List Int), (∀ p ∈ ps, Hz.isP p) → Hz.prod ps ≤ 7 ^ ps.length
  | [], _ => Int.le_refl 1
  | p :: ps, h => by
    have a := prod_le ps fun r m => h r (List.mem_cons_of_mem _ m)
    have c := prod_pos fun r m => h r (List.mem_cons_of_mem _ m)
    have b := isP_bd (h p List.mem_cons_self)
    show p * Hz.prod ps ≤ 7 ^ (ps.length + 1)
    rw [Int.pow_succ, Int.mul_comm]
    exact Int.mul_le_mul a b.2 (by omega) (Int.pow_nonneg (by decide))
theorem pow7 {n : Nat} (h : n ≤ 5) : (7 : Int) ^ n ≤ 16807 := by
  have : n = 0 ∨ n = 1 ∨ n = 2 ∨ n = 3 ∨ n = 4 ∨ n = 5 := by omega
  rcases this with e | e | e | e | e | e <;> subst e <;> decide
theorem isPs {fs : List Hz} (h : ∀ f ∈ fs, Hz.isP f.nm) : ∀ p ∈ fs.map Hz.nm, Hz.isP p := fun p m => by
  obtain ⟨f, hf, e⟩ := List.mem_map.mp m
  rw [← e]
  exact h f hf
theorem all_small {fs : List Hz} (h : ∀ f ∈ fs, Hz.isP f.nm) (hl : fs.length ≤ 5) : (fs.foldl Hz.mul Hz.one).nm = Hz.prod (fs.map Hz.nm) ∧ (fs.foldl Hz.mul Hz.one).nm ≤ 16807 := by
  have e := fold_nm fs Hz.one h
  rw [nm_one', Int.one_mul] at e
  refine ⟨e, ?_⟩
  rw [e]
  exact Int.le_trans (prod_le _ (isPs h)) (pow7 (by rw [List.length_map]; exact hl))
section
variable {P : Program} {w : World} {K : PySem.W.Frag} {mg : Str → Option Value} {base : Heap}
abbrev s_law_all_product : Stmt := top 54
abbrev N_law_all_product : List Str := ["_law_factors", "_law_number", "_law_factor"]
theorem sc_law_all_product : FnScope N_law_all_product ["_law_factors"] (defScope s_law_all_product) := ⟨rfl, rfl, rfl, by decide +kernel, rfl, by decide +kernel, by decide +kernel⟩
def pAll : List PyData → PyData → Prop := fun ds r => ∃ fs : List Hz, ds = [.list (fs.map tq)] ∧ (∀ f ∈ fs, Hz.isP f.nm) ∧ fs.length ≤ 5 ∧ r = tq (fs.foldl Hz.mul Hz.one)
theorem ok_law_all_product (D : Dn K mg "_law_all_product" s_law_all_product) (T : Txt K mg) (h_law_product : Has P w K mg base "_law_product" 1 ["_law_one", "_law_other"] (spV K pProd)) : Has P w K mg base "_law_all_product" 2 ["_law_factors"] (spV K pAll) := by
  refine D.has sc_law_all_product (fun _ _ _ _ _ _ us hl => match us, hl with | [_], _ => rfl) (fun vs H Q E => lenN 1 fun ds r ⟨_, e, _⟩ => by rw [e]; rfl) fun f cdv A outer s H vs Q E hr h => ?_
  obtain ⟨ds, r, hd, ⟨fs, rfl, hf, hl, rfl⟩, q⟩ := h
  obtain ⟨v, rfl, dv⟩ := one_ hd
  refine ⟨_, (pss_cons (ps_set (i := 1) sc_law_all_product.nd rfl (Or.inl rfl) (pe_tup (pa_cons pe_int (pa_cons pe_int (pa_cons pe_int (pa_cons pe_int pa_nil))))))
      (pss_cons (ps_for PassesOwn.never rfl (pi_list (pv 0)) (pg_name (i := 2) sc_law_all_product.nd rfl (Or.inl rfl))
      (pss_one (ps_set (i := 1) sc_law_all_product.nd rfl (Or.inl rfl) (pe_has h_law_product (hr.mono (by decide)) (by rfl) (pa_cons (pv 1) (pa_cons (pv 2) pa_nil))))))
      (pss_one (ps_ret (pv 1))))), ?_⟩
  refine q_is (K := K) (d := tq Hz.one) (is_tup (ds := inz [2, 0, 0, 0]) (ia_cons is_int (ia_cons is_int (ia2 is_int is_int))) (by show 4 ≤ 100000; decide)) fun v1 H1 e1 d1 => ?_
  refine s_forLX (K := K) (es := fs.map tq) (is_var rfl (dp_ex e1 dv)) (fun H2 i σ' H' => ∃ v1 y2, σ' = [some v, some v1, y2] ∧ Ex H H' ∧ Ex H2 H' ∧ Dp K H' v1 (tq ((fs.take i).foldl Hz.mul Hz.one))) (fun H2 e2 => ⟨v1, none, rfl, e1.trans e2, Ex.refl _, dp_ex e2 d1⟩) (fun _ _ _ _ _ z => by obtain ⟨_, _, _, _, z, _⟩ := z; exact z) (fun H2 i z d σ' H' e2 hi dz p => ?_) fun H2 σ' H' e2 p => ?_
  · obtain ⟨v1, y2, rfl, e3, e4, d1⟩ := p
    rw [List.getElem?_map] at hi
    cases hg : fs[i]? with
    | none => rw [hg] at hi; cases hi
    | some g =>
      rw [hg] at hi
      rw [← Option.some.inj hi] at dz
      have gm := List.mem_of_getElem? hg
      have gb := isP_bd (hf g gm)
      have tb := (all_small (fs := fs.take i) (fun f m => hf f (List.mem_of_mem_take m)) (by rw [List.length_take]; omega)).2
      refine s_isAsg (K := K) (is_call (ia2 (is_var rfl d1) (is_var rfl (dp_ex e4 dz))) ⟨_, g, rfl, small_nm (by omega), small_nm (by omega), rfl⟩) fun v5 H5 e5 d5 => ?_
      refine ⟨v5, some z, rfl, e3.trans e5, e4.trans e5, ?_⟩
      rw [List.take_add_one, hg, Option.toList_some, List.foldl_append]
      exact d5
  · obtain ⟨v1, y2, rfl, e3, e4, d1⟩ := p
    rw [List.length_map, List.take_length] at d1
    dsimp only
    exact s_isRet (K := K) (is_var rfl d1) fun v4 H6 e6 dv => q v4 H6 (e3.trans e6) dv
abbrev s_law_order : Stmt := top 55
abbrev N_law_order : List Str := ["_law_numbers_here", "_law_at", "_law_values", "_law_left", "_law_order_here", "_law_k"]
theorem sc_law_order : FnScope N_law_order ["_law_numbers_here", "_law_at", "_law_values"] (defScope s_law_order) := ⟨rfl, rfl, rfl, by decide +kernel, rfl, by decide +kernel, by decide +kernel⟩
def preOrd : List PyData → Prop := fun ds => ∃ (ns ps : List Int) (i : Nat), ds = [.list (inz ns), .int (i : Int), .list (inz ps)] ∧ ps.length ≤ 5 ∧ i + 5 ≤ ns.length ∧ i ≤ 1000
def posOrd : List PyData → List PyData → Prop := fun ds r => ∃ (ns ps os : List Int) (i : Int), ds = [.list (inz ns), .int i, .list (inz ps)] ∧ r = inz os ∧ os.Perm ps
theorem ok_law_order (D : Dn K mg "_law_order" s_law_order) (T : Txt K mg) (h_law_pick : Has P w K mg base "_law_pick" 1 ["_law_numbers_here", "_law_at", "_law_most"] (spV K pPick)) : Has P w K mg base "_law_order" 2 ["_law_numbers_here", "_law_at", "_law_values"] (spN K preOrd posOrd) := by
  refine D.has sc_law_order (fun _ _ _ _ _ _ us hl => match us, hl with | [_, _, _], _ => rfl) (fun vs H Q E => lenNw 3 fun ds ⟨_, _, _, e, _⟩ => by rw [e]; rfl) fun f cdv A outer s H vs Q E hr h => ?_
  obtain ⟨ds, hd, ⟨ns, ps, i0, rfl, hl, hi, hi0⟩, q⟩ := h
  cases hd with | cons d0 hd => ?_
  obtain ⟨u1, u2, rfl, d1, d2⟩ := two_ hd
  rename_i v0
  refine ⟨_, (pss_cons (ps_set (i := 3) sc_law_order.nd rfl (Or.inl rfl) (pe_callB cr_sortedI (by rfl) T.sorted b_sorted (pa_cons (pv 2) pa_nil)))
      (pss_cons (ps_set (i := 4) sc_law_order.nd rfl (Or.inl rfl) (pe_lst pa_nil))
      (pss_cons (ps_for PassesOwn.never rfl (pi_range1 (by rfl) T.range (pa_cons (pe_callB call_len_seq (by rfl) T.len b_len (pa_cons (pv 2) pa_nil)) pa_nil)) (pg_name (i := 5) sc_law_order.nd rfl (Or.inl rfl))
      (pss_one (ps_expr (pe_bm PySem.F.plainAttrs_list PySem.F.slot_list_append PySem.F.type_list_append mt_append (pv 4) (pa_cons (pe_bm PySem.F.plainAttrs_list PySem.F.slot_list_pop PySem.F.type_list_pop mt_popAt (pv 3) (pa_cons (pe_has h_law_pick (hr.mono (by decide)) (by rfl) (pa_cons (pv 0) (pa_cons (pe_op op_add (pv 1) (pv 5)) (pa_cons (pe_callB call_len_seq (by rfl) T.len b_len (pa_cons (pv 3) pa_nil)) pa_nil)))) pa_nil)) pa_nil)))))
      (pss_one (ps_ret (pv 4)))))), ?_⟩
  rw [dp_int d1]
  refine q_nw (K := K) (ds := inz (ps.mergeSort (fun a b => decide (a ≤ b)))) (nw_sortI (is_var rfl d2) (List.mergeSort_perm _ _).symm ?_) fun b us H2 hb e2 hb2 hd2 => ?_
  · have := List.pairwise_mergeSort (le := fun a b : Int => decide (a ≤ b)) (fun a b c h1 h2 => by
      have h1 := of_decide_eq_true h1
      have h2 := of_decide_eq_true h2
      exact decide_eq_true (by omega)) (fun a b => by
      by_cases h : a ≤ b
      · simp [h]
      · have : b ≤ a := by omega
        simp [this]) ps
    exact this.imp fun h => of_decide_eq_true h
  have pm0 : (ps.mergeSort (fun a b => decide (a ≤ b))).Perm ps := List.mergeSort_perm _ _
  generalize ps.mergeSort (fun a b => decide (a ≤ b)) = ls at hd2 pm0
  refine q_nw (K := K) (ds := []) (nw_lst ia_nil (by decide)) fun l ws H3 hl3 e3 hl4 hd3 => ?_
  have hbn : H b = none := hb
  have hln : H l = none := fresh_back e2 hl3
  have nbl : b ≠ l := fun e => by rw [← e, hb2] at hl3; cases hl3
  show tSeq _ _ _ [some v0, some (.int (i0 : Int)), some u2, some (.ref b), some (.ref l), none] _
  refine q_forR1 (n := (ps.length : Int)) (ia_ev (K := K) (ns := [(ps.length : Int)]) (ia0 (Is.eq (is_lenL (is_var rfl (dp_ex (e2.trans e3) d2))) (by rw [inz_len])))) (by omega) (fun i σ' H' => ∃ (y5 : Option V) (left os : List Int) (us ws : List V), σ' = [some v0, some (.int (i0 : Int)), some u2, some (.ref b), some (.ref l), y5] ∧ Ex H H' ∧ H' b = some (.lst us) ∧ DpAll K H' us (inz left) ∧ H' l = some (.lst ws) ∧ DpAll K H' ws (inz os) ∧ os.length = i ∧ (os ++ left).Perm ps)
    (fun H4 e4 => ⟨none, ls, [], us, ws, rfl, e2.trans (e3.trans e4), (e3.trans e4) _ _ hb2, dps_ex (e3.trans e4) hd2, e4 _ _ hl4, dps_ex e4 hd3, rfl, pm0⟩) (fun i σ' H' hi2 z => ?_) fun σ' H' z => ?_
  · obtain ⟨y5, left, os, us, ws, rfl, e4, b1, b2, l1, l2, ol, pm⟩ := z
    show tDrop _ _ [some v0, some (.int (i0 : Int)), some u2, some (.ref b), some (.ref l), some (.int (i : Int))] _
    have pl := pm.length_eq
    rw [List.length_append, ol] at pl
    have lpos : 0 < left.length := by omega
    have dl : Dp K H' (.ref b) (.list (inz left)) := .lst (.inl (.inl b1)) b2
    have il : i0 + i < ns.length := by omega
    obtain ⟨n, hn⟩ : ∃ n, ns[i0 + i]? = some n := ⟨ns[i0 + i], List.getElem?_eq_getElem il⟩
    have em : ((i0 + i : Nat) : Int) = (i0 : Int) + (i : Int) := by omega
    have pk : IsA K (tCons (tCall (spV K pPick) [] E0 (tCons (tVar 0) (tCons (tOp (rI0 fun i j => .int (i + j)) (tVar 1) (tVar 5)) (tCons (tCB (fun xs H Q => ∃ p ys, xs = [V.ref p] ∧ (SqL K H p ys ∨ SqT K H p ys) ∧ Q (.int ys.length) H) (tCons (tVar 3) tNil)) tNil)))) tNil) [some v0, some (.int (i0 : Int)), some u2, some (.ref b), some (.ref l), some (.int (i : Int))] H' [.int (n % (left.length : Int))] :=
      ia0 (is_call (ia_cons (is_var rfl (dp_ex e4 d0)) (ia2 (is_add (is_var rfl (.int (i0 : Int))) (is_var rfl (.int (i : Int)))) (is_lenL (is_var rfl dl)))) ⟨ns, i0 + i, (left.length : Int), n, by rw [em, inz_len], hn, by omega, rfl⟩)
    have wl := dps_len l2
    rw [inz_len, ol] at wl
    have ul := dps_len b2
    rw [inz_len] at ul
    refine ⟨.ref l, rfl, .inl ⟨rfl, ws, sq_of l1⟩, ?_⟩
    refine ⟨.ref b, rfl, .inl ⟨rfl, us, sq_of b1⟩, ?_⟩
    refine pk H' (Ex.refl _) _ fun vs H5 e5 dvs => ?_
    obtain ⟨vi, ev, dvi⟩ := one_ dvs
    have n0 := Int.emod_nonneg n (show (left.length : Int) ≠ 0 by omega)
    have n1 := Int.emod_lt_of_pos n (show (0 : Int) < (left.length : Int) by omega)
    obtain ⟨k, hk⟩ : ∃ k : Nat, n % (left.length : Int) = (k : Int) := ⟨(n % (left.length : Int)).toNat, by omega⟩
    have kl : k < left.length := by omega
    have kl2 : k < us.length := by omega
    have y0 : us[k]? = some us[k] := List.getElem?_eq_getElem kl2
    refine ⟨b, us, (k : Int), k, us[k], rfl, by rw [ev, dp_int dvi, hk], e5 _ _ b1, by omega, by omega, ?_, y0, ?_⟩
    · rw [PyProof.Rows.seqIndex_at (by omega) (by omega), Int.toNat_natCast]
    · refine ⟨l, ws, us[k], rfl, rfl, by rw [upd_ne (Ne.symm nbl)]; exact e5 _ _ l1, sz_lt (by omega), ?_⟩
      obtain ⟨dk, hdk, dk2⟩ := dps_get (dps_ex e5 b2) y0
      obtain ⟨t, ht, et⟩ := inz_get hdk
      rw [et] at dk2
      have ev2 := dp_int dk2
      rw [ev2]
      have eb : us.eraseIdx k = (left.eraseIdx k).map V.int := by rw [dps_ints b2, erase_map]
      have el : ws = os.map V.int := dps_ints l2
      refine ⟨some (.int (i : Int)), left.eraseIdx k, os ++ [t], _, _, rfl, Ex.mut (Ex.mut (e4.trans e5) hbn) hln, by rw [upd_ne nbl]; exact upd_same, ?_, upd_same, ?_, by rw [List.length_append, ol]; rfl, ?_⟩
      · rw [eb]
        exact dps_of_ints _
      · rw [el]
        have : os.map V.int ++ [V.int t] = (os ++ [t]).map V.int := by rw [List.map_append]; rfl
        rw [this]
        exact dps_of_ints _
      · have pe : (left.eraseIdx k ++ [t]).Perm left := by
          have hkl : left[k] = t := by rw [List.getElem?_eq_getElem kl] at ht; exact Option.some.inj ht
          have := List.perm_middle (a := t) (l₁ := left.take k) (l₂ := left.drop (k + 1))
          rw [List.eraseIdx_eq_take_drop_succ]
          have e3 : left = left.take k ++ t :: left.drop (k + 1) := by
            rw [← hkl, ← List.drop_eq_getElem_cons kl, List.take_append_drop]
          refine (List.perm_append_singleton t _).trans ?_
          refine this.symm.trans ?_
          rw [← e3]
        rw [List.append_assoc]
        have : ([t] ++ left.eraseIdx k).Perm left := (List.perm_append_comm).trans pe
        exact (this.append_left os).trans pm
  · obtain ⟨y5, left, os, us, ws, rfl, e4, b1, b2, l1, l2, ol, pm⟩ := z
    have pl := pm.length_eq
    rw [List.length_append, ol, Int.toNat_natCast] at pl
    have ln : left = [] := List.eq_nil_of_length_eq_zero (by omega)
    rw [ln, List.append_nil] at pm
    exact ⟨_, rfl, q _ l ws H' ⟨ns, ps, os, _, rfl, rfl, pm⟩ hln e4 l1 l2⟩
end
end TP.W
set_option maxHeartbeats 4000000
namespace TP.W
open PySem PySem.Spec PyProof.Rows L2 Evl RZ TP.L
section
variable {K : PySem.W.Frag} {H H' : Hp}
/-- no tuple and nothing frozen at D -/
def NT (H : Hp) (D : Addr) : Prop := (∀ xs, H D ≠ some (.tup xs)) ∧ ∀ o u, H D ≠ some (.frz o u)
theorem ext_n {D a : Addr} {xs : List V} (hD : NT H D) (e : ExB D H H') (h : SqT K H a xs) : SqT K H' a xs := by
  rcases h with (h | ⟨o, h⟩) | h
  · exact .inl (.inl (e a _ (fun z => hD.1 _ (z ▸ h)) h))
  · exact .inl (.inr ⟨o, e a _ (fun z => hD.2 _ _ (z ▸ h)) h⟩)
  · exact .inr h
mutual
theorem dp_exn {D : Addr} (hD : NT H D) (e : ExB D H H') : ∀ {d : PyData} {v : V}, flat d = true → Dp K H v d → Dp K H' v d
  | _, _, _, .non => .non
  | _, _, _, .bl b => .bl b
  | _, _, _, .int i => .int i
  | _, _, _, .str x => .str x
  | _, _, f, .lst h a => by cases f
  | _, _, f, .tup h a => .tup (ext_n hD e h) (dps_exn hD e (by unfold flat at f; exact f) a)
theorem dps_exn {D : Addr} (hD : NT H D) (e : ExB D H H') : ∀ {ds : List PyData} {vs : List V}, flats ds = true → DpAll K H vs ds → DpAll K H' vs ds
  | _, _, _, .nil => .nil
  | _, _, f, .cons h t => by
    unfold flats at f
    obtain ⟨f1, f2⟩ := Bool.and_eq_true_iff.mp f
    exact .cons (dp_exn hD e f1 h) (dps_exn hD e f2 t)
end
theorem NT.dk {D : Addr} {kvs : List (Key × V)} (h : H D = some (.dK kvs)) : NT H D := ⟨fun xs e => (by rw [h] at e; cases e), fun o u e => (by rw [h] at e; cases e)⟩
theorem NT.ls {D : Addr} {vs : List V} (h : H D = some (.lst vs)) : NT H D := ⟨fun xs e => (by rw [h] at e; cases e), fun o u e => (by rw [h] at e; cases e)⟩
variable {σ : L2.St} {D : Ends} {tt : TT} {tu tz : TS}
theorem t_callN {pre : List PyData → Prop} {post : List PyData → List PyData → Prop} {E : XK} {tr : TA} {ds : List PyData} {Q : VK} (h : IsA K tr σ H ds) (hp : pre ds) (k : ∀ r p us H2, post ds r → H p = none → Ex H H2 → H2 p = some (.lst us) → DpAll K H2 us r → Q (.ref p) H2) : tCall (spN K pre post) [] E tr σ H Q :=
  h H (Ex.refl _) _ fun vs H1 e1 dvs => ⟨ds, by rw [List.append_nil]; exact dvs, hp, fun r p us H2 pr hn e2 h2 d2 => k r p us H2 pr (fresh_back e1 hn) (e1.trans e2) h2 d2⟩
theorem q_whenM {b : Bool} {M : Hp → Prop} (h : EvT tt σ H b) (k : ∀ H1, M H1 → tz D σ H1) (h1 : b = true → ∀ H1, Ex H H1 → (∀ H2, M H2 → tz D σ H2) → tu { D with nx := tz D } σ H1) (h2 : b = false → ∀ H1, Ex H H1 → M H1) : tSeq (tIfS tt tu tNext) tz D σ H :=
  q_when h (fun c H1 e => h1 c H1 e k) fun c H1 e => k H1 (h2 c H1 e)
end
/-- a list of numbers of one norm, away from l and d -/
def Kn (K : PySem.W.Frag) (l d : Addr) (H : Hp) (p : Int) (v : V) : Prop := ∃ (b : Addr) (us : List V) (zs : List Hz), v = .ref b ∧ b ≠ l ∧ b ≠ d ∧ H b = some (.lst us) ∧ DpAll K H us (zs.map tq) ∧ zs ≠ [] ∧ zs.length ≤ 1000 ∧ ∀ z ∈ zs, z.nm = p
theorem Kn.ex {K : PySem.W.Frag} {l d : Addr} {H H' : Hp} {p : Int} {v : V} (h : Kn K l d H p v) (e : Ex H H') : Kn K l d H' p v := by
  obtain ⟨b, us, zs, h1, h2, h3, h4, h5, h6⟩ := h
  exact ⟨b, us, zs, h1, h2, h3, e _ _ h4, dps_ex e h5, h6⟩
theorem Kn.putl {K : PySem.W.Frag} {l d : Addr} {H : Hp} {p : Int} {v : V} {o : HO} (h : Kn K l d H p v) (n : NT H l) : Kn K l d (upd H l o) p v := by
  obtain ⟨b, us, zs, h1, h2, h3, h4, h5, h6⟩ := h
  exact ⟨b, us, zs, h1, h2, h3, by rw [upd_ne h2]; exact h4, dps_exn n ExB.put (flats_tqs _) h5, h6⟩
theorem Kn.putd {K : PySem.W.Frag} {l d : Addr} {H : Hp} {p : Int} {v : V} {o : HO} (h : Kn K l d H p v) (n : NT H d) : Kn K l d (upd H d o) p v := by
  obtain ⟨b, us, zs, h1, h2, h3, h4, h5, h6⟩ := h
  exact ⟨b, us, zs, h1, h2, h3, by rw [upd_ne h3]; exact h4, dps_exn n ExB.put (flats_tqs _) h5, h6⟩
def KD (K : PySem.W.Frag) (l d : Addr) (H : Hp) (kvs : List (Key × V)) : Prop := H d = some (.dK kvs) ∧ ∀ p v, valV kvs (Sum.inl p) = some v → Kn K l d H p v
theorem draws : ∀ k : Nat, k < 6 → ∃ p, ([3, 5, 3, 7, 2, 5] : List Int)[k]? = some p ∧ Hz.isP p := by
  intro k hk
  have : k = 0 ∨ k = 1 ∨ k = 2 ∨ k = 3 ∨ k = 4 ∨ k = 5 := by omega
  rcases this with e | e | e | e | e | e <;> subst e
  · exact ⟨3, rfl, .inr (.inl rfl)⟩
  · exact ⟨5, rfl, .inr (.inr (.inl rfl))⟩
  · exact ⟨3, rfl, .inr (.inl rfl)⟩
  · exact ⟨7, rfl, .inr (.inr (.inr rfl))⟩
  · exact ⟨2, rfl, .inl rfl⟩
  · exact ⟨5, rfl, .inr (.inr (.inl rfl))⟩
theorem modN (n : Int) {m : Nat} (h : 0 < m) : ∃ k : Nat, n % (m : Int) = (k : Int) ∧ k < m := by
  have n0 := Int.emod_nonneg n (show (m : Int) ≠ 0 by omega)
  have n1 := Int.emod_lt_of_pos n (show (0 : Int) < (m : Int) by omega)
  exact ⟨(n % (m : Int)).toNat, by omega, by omega⟩
section
variable {P : Program} {w : World} {K : PySem.W.Frag} {mg : Str → Option Value} {base : Heap}
abbrev s_law_drawn_factors : Stmt := top 53
abbrev N_law_drawn_factors : List Str := ["_law_numbers_here", "_law_at", "_law_many", "_law_factors", "_law_known", "_law_k", "_law_prime", "_law_found", "_law_unit"]
theorem sc_law_drawn_factors : FnScope N_law_drawn_factors ["_law_numbers_here", "_law_at", "_law_many"] (defScope s_law_drawn_factors) := ⟨rfl, rfl, rfl, by decide +kernel, rfl, by decide +kernel, by decide +kernel⟩
def preDf : List PyData → Prop := fun ds => ∃ (ns : List Int) (n : Nat), ds = [.list (inz ns), .int (1 : Nat), .int (n : Int)] ∧ ns.length = 40 ∧ n ≤ 5
def posDf : List PyData → List PyData → Prop := fun _ r => ∃ fs : List Hz, r = fs.map tq ∧ fs.length ≤ 5 ∧ ∀ f ∈ fs, Hz.isP f.nm
theorem ok_law_drawn_factors (D : Dn K mg "_law_drawn_factors" s_law_drawn_factors) (T : Txt K mg) (h_law_pick : Has P w K mg base "_law_pick" 1 ["_law_numbers_here", "_law_at", "_law_most"] (spV K pPick)) (h_law_primes : Has P w K mg base "_law_primes" 3 ["_law_prime"] (spN K preLpr posLpr))
    (h_law_units : Has P w K mg base "_law_units" 1 [] (spL K pUnits)) (h_law_product : Has P w K mg base "_law_product" 1 ["_law_one", "_law_other"] (spV K pProd)) : Has P w K mg base "_law_drawn_factors" 4 ["_law_numbers_here", "_law_at", "_law_many"] (spN K preDf posDf) := by
  refine D.has sc_law_drawn_factors (fun _ _ _ _ _ _ us hl => match us, hl with | [_, _, _], _ => rfl) (fun vs H Q E => lenNw 3 fun ds ⟨_, _, e, _⟩ => by rw [e]; rfl) fun f cdv A outer s H vs Q E hr h => ?_
  obtain ⟨ds, hd, ⟨ns, n, rfl, hl, hn⟩, q⟩ := h
  cases hd with | cons d0 hd => ?_
  obtain ⟨u1, u2, rfl, d1, d2⟩ := two_ hd
  rename_i v0
  refine ⟨_, (pss_cons (ps_set (i := 3) sc_law_drawn_factors.nd rfl (Or.inl rfl) (pe_lst pa_nil))
      (pss_cons (ps_set (i := 4) sc_law_drawn_factors.nd rfl (Or.inl rfl) pe_dnewK)
      (pss_cons (ps_for PassesOwn.never rfl (pi_range1 (by rfl) T.range (pa_cons (pv 2) pa_nil)) (pg_name (i := 5) sc_law_drawn_factors.nd rfl (Or.inl rfl))
      (pss_cons (ps_set (i := 6) sc_law_drawn_factors.nd rfl (Or.inl rfl) (pe_ix ix_list (pe_lst (pa_cons pe_int (pa_cons pe_int (pa_cons pe_int (pa_cons pe_int (pa_cons pe_int (pa_cons pe_int pa_nil))))))) (pe_has h_law_pick (hr.mono (by decide)) (by rfl) (pa_cons (pv 0) (pa_cons (pe_op op_add (pv 1) (pe_op op_mulW pe_int (pv 5))) (pa_cons pe_int pa_nil)))) (fun _ _ => rfl)))
      (pss_cons (ps_if (pt_cmp (pc_dnotin (hu_of hr) (pv 6) (pv 4))) (pss_one (ps_dput (hu_of hr) (pv 4) (pv 6) (pe_has h_law_primes (hr.mono (by decide)) (by rfl) (pa_cons (pv 6) pa_nil)) rfl)) pss_nil)
      (pss_cons (ps_set (i := 7) sc_law_drawn_factors.nd rfl (Or.inl rfl) (pe_dget (hu_of hr) (pv 4) (pv 6) (fun _ _ => rfl)))
      (pss_cons (ps_set (i := 8) sc_law_drawn_factors.nd rfl (Or.inl rfl) (pe_ix ix_list (pe_has0 h_law_units (hr.mono (by decide)) (by rfl)) (pe_has h_law_pick (hr.mono (by decide)) (by rfl) (pa_cons (pv 0) (pa_cons (pe_op op_add (pe_op op_add (pv 1) (pe_op op_mulW pe_int (pv 5))) pe_int) (pa_cons pe_int pa_nil)))) (fun _ _ => rfl)))
      (pss_one (ps_expr (pe_bm PySem.F.plainAttrs_list PySem.F.slot_list_append PySem.F.type_list_append mt_append (pv 3) (pa_cons (pe_has h_law_product (hr.mono (by decide)) (by rfl) (pa_cons (pe_ix ix_list (pv 7) (pe_has h_law_pick (hr.mono (by decide)) (by rfl) (pa_cons (pv 0) (pa_cons (pe_op op_add (pe_op op_add (pv 1) (pe_op op_mulW pe_int (pv 5))) pe_int) (pa_cons (pe_callB call_len_seq (by rfl) T.len b_len (pa_cons (pv 7) pa_nil)) pa_nil)))) (fun _ _ => rfl)) (pa_cons (pv 8) pa_nil))) pa_nil)))))))))
      (pss_one (ps_ret (pv 3)))))), ?_⟩
  rw [dp_int d1, dp_int d2]
  refine q_nw (K := K) (ds := []) (nw_lst ia_nil (by decide)) fun l ws H2 hl2 e2 hl3 hd3 => ?_
  have hln : H l = none := hl2
  refine fun d hdn => ?_
  have nld : l ≠ d := fun e => by rw [← e, hl3] at hdn; cases hdn
  have hdn0 : H d = none := fresh_back e2 hdn
  have e3 : Ex H2 (upd H2 d (.dK [])) := Ex.new hdn
  show tSeq _ _ _ [some v0, some (.int (1 : Nat)), some (.int (n : Int)), some (.ref l), some (.ref d), none, none, none, none] _
  refine q_forR1 (n := (n : Int)) (ia_ev (K := K) (ns := [(n : Int)]) (ia0 (is_var rfl (.int _)))) (by omega) (fun i σ' H' => ∃ (y5 y6 y7 y8 : Option V) (fs : List Hz) (kvs : List (Key × V)), σ' = [some v0, some (.int (1 : Nat)), some (.int (n : Int)), some (.ref l), some (.ref d), y5, y6, y7, y8] ∧ Ex H H' ∧ LAt K l (fs.map tq) H' ∧ KD K l d H' kvs ∧ kvs.length ≤ i ∧ fs.length = i ∧ ∀ f ∈ fs, Hz.isP f.nm)
    (fun H4 e4 => ⟨none, none, none, none, [], [], rfl, e2.trans (e3.trans e4), lat_ex (e3.trans e4) ⟨ws, hl3, hd3⟩, ⟨e4 _ _ upd_same, fun p v z => by cases z⟩, Nat.le_refl _, rfl, fun f m => by simp at m⟩) (fun i σ' H' hi z => ?_) fun σ' H' z => ?_
  · obtain ⟨y5, y6, y7, y8, fs, kvs, rfl, e4, hA, ⟨kd1, kd2⟩, kl, fl, fp⟩ := z
    show tSeq _ _ _ [some v0, some (.int (1 : Nat)), some (.int (n : Int)), some (.ref l), some (.ref d), some (.int (i : Int)), y6, y7, y8] _
    have mi : CMulW 3 (i : Int) := mulw (by decide) (by decide) (by omega) (by omega)
    have at_ : ∀ j : Nat, j < 40 → ∃ t, ns[j]? = some t := fun j hj => ⟨ns[j], List.getElem?_eq_getElem (by omega)⟩
    obtain ⟨t1, ht1⟩ := at_ (1 + 3 * i) (by omega)
    obtain ⟨t2, ht2⟩ := at_ (1 + 3 * i + 2) (by omega)
    obtain ⟨t3, ht3⟩ := at_ (1 + 3 * i + 1) (by omega)
    obtain ⟨k1, hk1, l1⟩ := modN t1 (show 0 < 6 by decide)
    obtain ⟨p, hp, hpp⟩ := draws k1 l1
    have c1 : ((1 + 3 * i : Nat) : Int) = ((1 : Nat) : Int) + 3 * (i : Int) := by omega
    have c2 : ((1 + 3 * i + 2 : Nat) : Int) = ((1 : Nat) : Int) + 3 * (i : Int) + 2 := by omega
    have c3 : ((1 + 3 * i + 1 : Nat) : Int) = ((1 : Nat) : Int) + 3 * (i : Int) + 1 := by omega
    refine q_is (K := K) (d := .int p) (is_ixL (k := k1) (nw_lst (ia_cons is_int (ia_cons is_int (ia_cons is_int (ia_cons is_int (ia2 is_int is_int))))) (by show 6 ≤ 100000; decide)).is (Is.eq (is_call (ia_cons (is_var rfl (dp_ex e4 d0)) (ia2 (is_add (is_var rfl (.int (1 : Nat))) (is_mulW is_int (is_var rfl (.int (i : Int))) mi)) is_int)) ⟨ns, 1 + 3 * i, ((6 : Nat) : Int), t1, by rw [c1]; rfl, ht1, by decide, rfl⟩) (by rw [hk1])) (by show (inz [3, 5, 3, 7, 2, 5])[k1]? = _; unfold inz; rw [List.getElem?_map, hp]; rfl)) fun v6 H5 e5 d6 => ?_
    rw [dp_int d6]
    show tSeq _ _ _ [some v0, some (.int (1 : Nat)), some (.int (n : Int)), some (.ref l), some (.ref d), some (.int (i : Int)), some (.int p), y7, y8] _
    refine q_whenM (b := !(valV kvs (Sum.inl p)).isSome) (M := fun H6 => ∃ (kvs : List (Key × V)) (v : V), Ex H H6 ∧ LAt K l (fs.map tq) H6 ∧ KD K l d H6 kvs ∧ kvs.length ≤ i + 1 ∧ valV kvs (Sum.inl p) = some v) (fun H6 e6 Q q => ?_) (fun H6 z => ?_) (fun c H6 e6 k => ?_) fun c H6 e6 => ?_
    · have e := e5.trans e6 _ _ kd1
      exact ⟨_, rfl, _, rfl, d, _, rfl, DGet.k (k := Sum.inl p) e, _, rfl, q H6 (Ex.refl _)⟩
    · obtain ⟨kvs, v, e6, ⟨ws2, w1, w2⟩, ⟨k1, k2⟩, kl, hv⟩ := z
      have kn := k2 p v hv
      refine ⟨_, rfl, _, rfl, d, v, rfl, ?_, ?_⟩
      · have := DGet.k (k := Sum.inl p) k1
        rw [hv] at this
        exact this
      show tSeq _ _ _ [some v0, some (.int (1 : Nat)), some (.int (n : Int)), some (.ref l), some (.ref d), some (.int (i : Int)), some (.int p), some v, y8] _
      obtain ⟨k2n, hk2, l2⟩ := modN t2 (show 0 < 24 by decide)
      obtain ⟨u, hu⟩ : ∃ u, Hz.units[k2n]? = some u := ⟨Hz.units[k2n]'(by show k2n < 24; exact l2), List.getElem?_eq_getElem _⟩
      refine q_is (K := K) (d := tq u) (is_ixL (k := k2n) (nw_call (E := E0) ia_nil ⟨rfl, rfl⟩).is (Is.eq (is_call (ia_cons (is_var rfl (dp_ex e6 d0)) (ia2 (is_add (is_add (is_var rfl (.int (1 : Nat))) (is_mulW is_int (is_var rfl (.int (i : Int))) mi)) is_int) is_int)) ⟨ns, 1 + 3 * i + 2, ((24 : Nat) : Int), t2, by rw [c2]; rfl, ht2, by decide, rfl⟩) (by rw [hk2])) (by rw [List.getElem?_map, hu]; rfl)) fun v8 H7 e7 d8 => ?_
      obtain ⟨b, us, zs, rfl, nb1, nb2, b1, b2, zne, zl, zn⟩ := kn.ex e7
      have dz : Dp K H7 (.ref b) (.list (zs.map tq)) := .lst (.inl (.inl b1)) b2
      have zpos : 0 < zs.length := List.length_pos_iff.mpr zne
      obtain ⟨k3n, hk3, l3⟩ := modN t3 zpos
      have hz : zs[k3n]? = some zs[k3n] := List.getElem?_eq_getElem l3
      have pb := isP_bd hpp
      have zn3 := zn _ (List.getElem_mem l3)
      have un : u.nm = 1 := Hz.units_nm u (List.mem_of_getElem? hu)
      have wl := dps_len w2
      rw [List.length_map] at wl
      refine s_appD (K := K) (d := tq (Hz.mul zs[k3n] u)) (e7 _ _ w1) ⟨3, rfl, rfl⟩ (is_call (ia2 (is_ixL (k := k3n) (d := tq zs[k3n]) (is_var rfl dz) (Is.eq (is_call (ia_cons (is_var rfl (dp_ex (e6.trans e7) d0)) (ia2 (is_add (is_add (is_var rfl (.int (1 : Nat))) (is_mulW is_int (is_var rfl (.int (i : Int))) mi)) is_int) (is_lenL (is_var rfl dz)))) ⟨ns, 1 + 3 * i + 1, (zs.length : Int), t3, by rw [c3, List.length_map], ht3, by omega, rfl⟩) (by rw [hk3])) (by rw [List.getElem?_map, hz]; rfl)) (is_var rfl d8)) ⟨zs[k3n], u, rfl, small_nm (by omega), small_nm (by omega), rfl⟩) (by omega) fun v9 H8 e8 d9 => ?_
      have new := lat_app (K := K) (r := tq (Hz.mul zs[k3n] u)) ((e7.trans e8) _ _ w1) (dps_ex (e7.trans e8) w2) (flats_tqs _) d9 (flat_tupI _)
      have em : fs.map tq ++ [tq (Hz.mul zs[k3n] u)] = (fs ++ [Hz.mul zs[k3n] u]).map tq := by rw [List.map_append]; rfl
      rw [em] at new
      have e78 := e7.trans e8
      have ntl : NT H8 l := NT.ls (e78 _ _ w1)
      refine ⟨some (.int (i : Int)), some (.int p), some (.ref b), some v8, fs ++ [Hz.mul zs[k3n] u], kvs, rfl, Ex.mut (e6.trans e78) hln, new, ⟨by rw [upd_ne (Ne.symm nld)]; exact e78 _ _ k1, fun p2 v2 hv2 => ((k2 p2 v2 hv2).ex e78).putl ntl⟩, kl, by rw [List.length_append, fl]; rfl, fun g mg => ?_⟩
      rcases List.mem_append.mp mg with mg | mg
      · exact fp g mg
      · rw [List.mem_singleton.mp mg, Hz.nm_mul, zn3, un, Int.mul_one]
        exact hpp
    · -- a new prime
      have ip : IsA K (tCons (tVar 6) tNil) [some v0, some (.int (1 : Nat)), some (.int (n : Int)), some (.ref l), some (.ref d), some (.int (i : Int)), some (.int p), y7, y8] H6 [.int p] := ia0 (is_var rfl (.int p))
      unfold sDPut
      refine t_callN (K := K) ip ⟨p, rfl, hpp⟩ fun r b us H8 pr hb e8 b1 b2 => ?_
      obtain ⟨p2, zs, ep, rfl, zne, zl, zn⟩ := pr
      have ep2 : p2 = p := by
        have := List.cons.inj ep
        injection this.1 with h
        exact h.symm
      rw [ep2] at zn
      have e48 := (e5.trans (e6.trans e8))
      have kd8 := e48 _ _ kd1
      have nt8 : NT H8 d := NT.dk kd8
      have nbl : b ≠ l := fun e => by
        obtain ⟨ws2, w1, _⟩ := hA
        rw [e, (e5.trans e6) _ _ w1] at hb
        cases hb
      have nbd : b ≠ d := fun e => by
        rw [e, (e5.trans e6) _ _ kd1] at hb
        cases hb
      have knb : Kn K l d H8 p (.ref b) := ⟨b, us, zs, rfl, nbl, nbd, b1, b2, zne, zl, zn⟩
      refine ⟨_, rfl, _, rfl, d, _, rfl, DPut.k (k := Sum.inl p) kd8 (Nat.lt_of_le_of_lt (by omega : kvs.length ≤ 5) (by decide)), k _ ⟨putK kvs (Sum.inl p) (.ref b), .ref b, Ex.mut (e4.trans e48) hdn0, ?_, ⟨upd_same, fun p3 v3 hv3 => ?_⟩, ?_, ?_⟩⟩
      · obtain ⟨ws2, w1, w2⟩ := hA
        exact ⟨ws2, by rw [upd_ne nld]; exact e48 _ _ w1, dps_exn nt8 ExB.put (flats_tqs _) (dps_ex e48 w2)⟩
      · rw [valV_put] at hv3
        by_cases h : (Sum.inl p3 : Key) = Sum.inl p
        · rw [if_pos h] at hv3
          have h2 : p3 = p := Sum.inl.inj h
          rw [h2, ← Option.some.inj hv3]
          exact knb.putd nt8
        · rw [if_neg h] at hv3
          exact ((kd2 p3 v3 hv3).ex e48).putd nt8
      · have : ∀ c : List (Key × V), (putK c (Sum.inl p) (V.ref b)).length ≤ c.length + 1 := fun c => by
          unfold putK
          by_cases e : (c.any fun kv => decide (kv.1 = Sum.inl p)) = true
          · rw [if_pos e, List.length_map]; omega
          · rw [if_neg e, List.length_append]; exact Nat.le_refl _
        exact Nat.le_trans (this kvs) (by omega)
      · rw [valV_put, if_pos rfl]
    · -- a known one
      cases hv : valV kvs (Sum.inl p) with
      | none => rw [hv] at c; cases c
      | some v =>
        have e56 := e5.trans e6
        exact ⟨kvs, v, e4.trans e56, lat_ex e56 hA, ⟨e56 _ _ kd1, fun p2 v2 hv2 => (kd2 p2 v2 hv2).ex e56⟩, by omega, hv⟩
  · obtain ⟨y5, y6, y7, y8, fs, kvs, rfl, e4, ⟨ws2, w1, w2⟩, kd, kl, fl, fp⟩ := z
    exact ⟨_, rfl, q _ l ws2 H' ⟨fs, rfl, by omega, fp⟩ hln e4 w1 w2⟩
end
end TP.W
set_option maxHeartbeats 4000000
namespace TP.W
open PySem PySem.Spec PyProof.Rows L2 Evl RZ TP.L
/-! ### the finite check -/
/-- the orders, counted as the law counts -/
def lawO (ps : List Int) (n : Nat) : Int := (List.range n).foldl (fun o (k : Nat) => o * ((k : Int) + 1) / (((ps.take k).count (ps.getD k 0) : Nat) + 1 : Int)) 1
theorem lawO_succ (ps : List Int) (n : Nat) : lawO ps (n + 1) = lawO ps n * ((n : Int) + 1) / (((ps.take n).count (ps.getD n 0) : Nat) + 1 : Int) := by
  unfold lawO
  rw [List.range_succ, List.foldl_append]
  rfl
def ordered : List Int → Bool
  | [] => true
  | x :: l => l.all (fun y => decide (x ≤ y)) && ordered l
theorem ordered_at : ∀ {l : List Int}, ordered l = true → l.Pairwise (· ≤ ·)
  | [], _ => .nil
  | x :: l, h => by
    have h : (l.all (fun y => decide (x ≤ y)) && ordered l) = true := h
    rw [Bool.and_eq_true, List.all_eq_true] at h
    exact .cons (fun y m => of_decide_eq_true (h.1 y m)) (ordered_at h.2)
def chk (ps : List Int) : Bool := good (Hz.prod ps) && ps.isPerm (plist (Hz.prod ps)) && ordered (plist (Hz.prod ps)) && decide (ocount (Hz.prod ps) = lawO ps ps.length) && decide (lawO ps 0 < 1000000) && decide (lawO ps 1 < 1000000) && decide (lawO ps 2 < 1000000) && decide (lawO ps 3 < 1000000) && decide (lawO ps 4 < 1000000) && decide (0 ≤ lawO ps 0) && decide (0 ≤ lawO ps 1) && decide (0 ≤ lawO ps 2) && decide (0 ≤ lawO ps 3) && decide (0 ≤ lawO ps 4)
def tree : Nat → List Int → Bool
  | 0, ps => chk ps
  | n + 1, ps => chk ps && (tree n (2 :: ps) && (tree n (3 :: ps) && (tree n (5 :: ps) && tree n (7 :: ps))))
theorem tree_at : ∀ (qs : List Int) (n : Nat) (ps : List Int), qs.length ≤ n → (∀ p ∈ qs, Hz.isP p) → tree n ps = true → chk (qs.reverse ++ ps) = true
  | [], 0, ps, _, _, h => h
  | [], n + 1, ps, _, _, h => (Bool.and_eq_true_iff.mp h).1
  | _ :: _, 0, _, h, _, _ => absurd h (Nat.not_succ_le_zero _)
  | q :: qs, n + 1, ps, hl, hp, h => by
    rw [List.reverse_cons, List.append_assoc]
    show chk (qs.reverse ++ (q :: ps)) = true
    refine tree_at qs n (q :: ps) (by simpa using hl) (fun r m => hp r (List.mem_cons_of_mem _ m)) ?_
    obtain ⟨_, h⟩ := Bool.and_eq_true_iff.mp (show (chk ps && (tree n (2 :: ps) && (tree n (3 :: ps) && (tree n (5 :: ps) && tree n (7 :: ps))))) = true from h)
    obtain ⟨h2, h⟩ := Bool.and_eq_true_iff.mp h
    obtain ⟨h3, h⟩ := Bool.and_eq_true_iff.mp h
    obtain ⟨h5, h7⟩ := Bool.and_eq_true_iff.mp h
    rcases hp q List.mem_cons_self with e | e | e | e <;> subst e <;> assumption
theorem chk_0 : chk [] = true := by decide +kernel
theorem chk_2 : tree 4 [2] = true := by decide +kernel
theorem chk_3 : tree 4 [3] = true := by decide +kernel
theorem chk_5 : tree 4 [5] = true := by decide +kernel
theorem chk_7 : tree 4 [7] = true := by decide +kernel
theorem chk_all : tree 5 [] = true := by
  have e : tree 5 [] = (chk [] && (tree 4 [2] && (tree 4 [3] && (tree 4 [5] && tree 4 [7])))) := by unfold tree; rfl
  rw [e, chk_0, chk_2, chk_3, chk_5, chk_7]
  rfl
theorem chk_of {ps : List Int} (hl : ps.length ≤ 5) (hp : ∀ p ∈ ps, Hz.isP p) : good (Hz.prod ps) = true ∧ ps.Perm (plist (Hz.prod ps)) ∧ (plist (Hz.prod ps)).Pairwise (· ≤ ·) ∧ ocount (Hz.prod ps) = lawO ps ps.length ∧ ∀ k : Nat, k < 5 → 0 ≤ lawO ps k ∧ lawO ps k < 1000000 := by
  have h := tree_at ps.reverse 5 [] (by rw [List.length_reverse]; exact hl) (fun p m => hp p (List.mem_reverse.mp m)) chk_all
  rw [List.reverse_reverse, List.append_nil] at h
  unfold chk at h
  simp only [Bool.and_eq_true, decide_eq_true_eq] at h
  obtain ⟨⟨⟨⟨⟨⟨⟨⟨⟨⟨⟨⟨⟨h1, h2⟩, h3⟩, h4⟩, a0⟩, a1⟩, a2⟩, a3⟩, a4⟩, b0⟩, b1⟩, b2⟩, b3⟩, b4⟩ := h
  refine ⟨h1, List.isPerm_iff.mp h2, ordered_at h3, h4, fun k hk => ?_⟩
  have : k = 0 ∨ k = 1 ∨ k = 2 ∨ k = 3 ∨ k = 4 := by omega
  rcases this with e | e | e | e | e <;> subst e
  · exact ⟨b0, a0⟩
  · exact ⟨b1, a1⟩
  · exact ⟨b2, a2⟩
  · exact ⟨b3, a3⟩
  · exact ⟨b4, a4⟩
/-! ### primitive numbers -/
theorem dv4 : ∀ p ∈ ([2, 3, 5, 7] : List Nat), ∀ d : Nat, d < 8 → d ∣ p → d = 1 ∨ d = p := by decide +kernel
theorem cop {p n : Nat} (hp : p ∈ ([2, 3, 5, 7] : List Nat)) (h : ¬ p ∣ n) : Nat.Coprime n p := by
  have h1 : Nat.gcd n p ∣ p := Nat.gcd_dvd_right n p
  have p8 : p < 8 ∧ 0 < p := by
    simp only [List.mem_cons, List.not_mem_nil, or_false] at hp
    omega
  have h2 : Nat.gcd n p ≤ p := Nat.le_of_dvd p8.2 h1
  rcases dv4 p hp _ (by omega) h1 with e | e
  · exact e
  · exact absurd (e ▸ Nat.gcd_dvd_left n p) h
theorem small_dv : ∀ (ps : List Int) (n : Nat), (∀ p ∈ ps, Hz.isP p) → n ∣ (Hz.prod ps).natAbs → n = 1 ∨ ∃ p ∈ ([2, 3, 5, 7] : List Nat), p ∣ n
  | [], n, _, h => by
    have : n ∣ 1 := h
    exact .inl (Nat.dvd_one.mp this)
  | p :: ps, n, hp, h => by
    have e : (Hz.prod (p :: ps)).natAbs = p.natAbs * (Hz.prod ps).natAbs := Int.natAbs_mul p _
    rw [e] at h
    have pm : p.natAbs ∈ ([2, 3, 5, 7] : List Nat) := by rcases hp p List.mem_cons_self with e | e | e | e <;> subst e <;> decide
    by_cases d : p.natAbs ∣ n
    · exact .inr ⟨_, pm, d⟩
    · exact small_dv ps n (fun r m => hp r (List.mem_cons_of_mem _ m)) ((cop pm d).dvd_of_dvd_mul_left h)
theorem prim_of {x : Hz} {ps : List Int} (hp : ∀ p ∈ ps, Hz.isP p) (hn : x.nm = Hz.prod ps) (h : primB x = true) : Hz.Prim x := fun m y e => by
  have e2 : m * m * y.nm = Hz.prod ps := by rw [← hn, e, Hz.nm_smul]
  have dv : m.natAbs ∣ (Hz.prod ps).natAbs := by
    rw [← e2, Int.mul_assoc, Int.natAbs_mul]
    exact Nat.dvd_mul_right _ _
  rcases small_dv ps _ hp dv with h1 | ⟨p, pm, k, hk⟩
  · omega
  · exfalso
    have p13 : (p : Int) ∈ ([2, 3, 5, 7, 11, 13] : List Int) := by
      simp only [List.mem_cons, List.not_mem_nil, or_false] at pm ⊢
      omega
    have pd : (p : Int) ∣ m := Int.natAbs_dvd_natAbs.mp ⟨k, hk⟩
    obtain ⟨j, hj⟩ := pd
    refine primB_at h p p13 (Hz.smul j y) ?_
    rw [Hz.ofI_mul, Hz.smul_smul, ← hj, e]
theorem rowy_of {x : Hz} {ps : List Int} (hx : Hz.Prim x) (hn : x.nm = Hz.prod ps) (hp : ∀ p ∈ ps, Hz.isP p) (hl : ps.length ≤ 5) : Rowy x ps := by
  obtain ⟨h1, h2, h3, _⟩ := chk_of hl hp
  have := Int.le_trans (prod_le ps hp) (pow7 hl)
  exact ⟨hx, hn, hp, hl, by omega, h1, h2, h3⟩
theorem prod_perm {ps rs : List Int} (h : ps.Perm rs) : Hz.prod ps = Hz.prod rs := by
  induction h with
  | nil => rfl
  | cons x _ ih => show x * _ = x * _; rw [ih]
  | swap x y l => show y * (x * Hz.prod l) = x * (y * Hz.prod l); rw [← Int.mul_assoc, Int.mul_comm y x, Int.mul_assoc]
  | trans _ _ a b => exact a.trans b
end TP.W
set_option maxHeartbeats 4000000
namespace TP.W
open PySem PySem.Spec PyProof.Rows L2 Evl RZ TP.L
theorem inz_inj : ∀ {a b : List Int}, inz a = inz b → a = b
  | [], [], _ => rfl
  | [], _ :: _, h => by cases h
  | _ :: _, [], h => by cases h
  | x :: a, y :: b, h => by
    have h : PyData.int x :: inz a = PyData.int y :: inz b := h
    injection h with h1 h2
    injection h1 with h3
    rw [h3, inz_inj h2]
theorem eqv_lstI (ns ms : List Int) : PyData.eqv (.list (inz ns)) (.list (inz ms)) = decide (ns = ms) := eqv_tupI ns ms
theorem eqv_tq (x y : Hz) : PyData.eqv (tq x) (tq y) = decide (x.dl = y.dl) := eqv_tupI _ _
theorem lay_row (z : List Hz × Hz) : Lay 4 (rowD z) := lay_tup fun d m => by
  simp only [List.mem_cons, List.not_mem_nil, or_false] at m
  rcases m with e | e
  · rw [e]; exact lay_lst (lay_tqs _)
  · rw [e]; exact (lay_tq _).mono (by decide)
section
variable {K : PySem.W.Frag} {σ : L2.St} {H : Hp} {D : Ends} {tz : TS} {te ta : TE} {tr : TA} {ds : List PyData}
theorem q_callN {pre : List PyData → Prop} {post : List PyData → List PyData → Prop} {E : XK} {k : Nat} (h : IsA K tr σ H ds) (hp : pre ds) (z : ∀ r p us H2, post ds r → H p = none → Ex H H2 → H2 p = some (.lst us) → DpAll K H2 us r → tz D (σ.set k (some (.ref p))) H2) : tSeq (tAsg (tCall (spN K pre post) [] E tr) (gName k)) tz D σ H := t_callN h hp z
theorem q_whenS {b : Bool} {tt : TT} {tu : TS} {M : L2.St → Hp → Prop} (h : EvT tt σ H b) (k : ∀ σ1 H1, M σ1 H1 → tz D σ1 H1) (h1 : b = true → ∀ H1, Ex H H1 → (∀ σ2 H2, M σ2 H2 → tz D σ2 H2) → tu { D with nx := tz D } σ H1) (h2 : b = false → ∀ H1, Ex H H1 → M σ H1) : tSeq (tIfS tt tu tNext) tz D σ H :=
  q_when h (fun c H1 e => h1 c H1 e k) fun c H1 e => k σ H1 (h2 c H1 e)
theorem is_count {ns : List Int} {k : Int} (h : Is K te σ H (.list (inz ns))) (ha : Is K ta σ H (.int k)) : Is K (tBM K "list" (rCntI K) te (tCons ta tNil)) σ H (.int ((ns.count k : Nat) : Int)) := fun H1 e Q q =>
  h H1 e _ fun v H2 e2 dv => by
    obtain ⟨a, us, ev, hs, hd⟩ := dp_lst dv
    rw [ev]
    refine ⟨.inl ⟨rfl, us, hs⟩, ha H2 (e.trans e2) _ fun w H3 e3 dw => ?_⟩
    rw [dps_ints hd] at hs
    exact ⟨a, ns, k, rfl, by rw [dp_int dw], ex_l e3 hs, q _ H3 (e2.trans e3) (.int _)⟩
end
section
variable {P : Program} {w : World} {K : PySem.W.Frag} {mg : Str → Option Value} {base : Heap}
theorem fn_ok {x : Str} {st : Stmt} {N ps : List Str} {k : Nat} {sp : Sp} {f : Addr} {fd : FuncData} (F : FnP K x st f fd) (S : FnScope N ps (defScope st)) (len : ∀ vs H Q E, sp vs H Q E → vs.length = ps.length)
    (body : ∀ (cdv : Value) (A : Around) (outer : List Env) (s : Shared) (H : Hp) (vs : List V) (Q : VK) (E : XK), Room k (A.deeper (envOfC x (defScope st) s.heap.objs.size f cdv)) → sp vs H Q E →
      ∃ t, PSs (cxOf CX0 P w K mg base N x (defScope st) f cdv A outer s H E).nox (defBody st) t ∧ t { nx := fun _ H' => Q .non H', rt := Q } (start N vs) H) : FnOk P w K mg base CX0 (k + 1) f fd ps sp :=
  F.ok S len fun cdv A outer s H vs Q E hr h => by
    obtain ⟨t, p, r⟩ := body cdv A outer s H vs Q E hr h
    exact ⟨t, p.nox, r⟩
abbrev s_law : Stmt := top 56
abbrev N_law : List Str := ["_law_script", "_law_numbers_here", "_law_factors", "_law_number", "_law_norms", "_law_orders", "_law_k", "_law_first", "_law_second", "_law_row_here", "_law_unit", "_law_other", "_law_rest", "_law_left", "_law_more", "_law_factor"]
theorem sc_law : FnScope N_law ["_law_script"] (defScope s_law) := ⟨rfl, rfl, rfl, by decide +kernel, rfl, by decide +kernel, by decide +kernel⟩
def pLaw : List PyData → PyData → Prop := fun ds r => ∃ sc : List Int, ds = [.list (inz sc)] ∧ r = .bool true
theorem ok_law {f : Addr} {fd : FuncData} (F : FnP K "law" s_law f fd) (T : Txt K mg) (h_law_numbers : Has P w K mg base "_law_numbers" 2 ["_law_script", "_law_many"] (spR K preNums posNums)) (h_law_pick : Has P w K mg base "_law_pick" 1 ["_law_numbers_here", "_law_at", "_law_most"] (spV K pPick)) (h_law_drawn_factors : Has P w K mg base "_law_drawn_factors" 4 ["_law_numbers_here", "_law_at", "_law_many"] (spN K preDf posDf))
    (h_law_all_product : Has P w K mg base "_law_all_product" 2 ["_law_factors"] (spV K pAll)) (h_law_norm : Has P w K mg base "_law_norm" 1 ["_law_number"] (spV K pNorm)) (h_order_count : Has P w K mg base "order_count" 4 ["number"] (spV K pOc)) (h_law_is_primitive : Has P w K mg base "_law_is_primitive" 3 ["_law_number"] (spV K pLprim))
    (h_law_order : Has P w K mg base "_law_order" 2 ["_law_numbers_here", "_law_at", "_law_values"] (spN K preOrd posOrd)) (h_row_of : Has P w K mg base "row_of" 9 ["number", "primes"] (spV K pRow)) (h_law_divides : Has P w K mg base "_law_divides" 2 ["_law_factor", "_law_number"] (spV K pDiv)) (h_law_units : Has P w K mg base "_law_units" 1 [] (spL K pUnits))
    (h_law_product : Has P w K mg base "_law_product" 1 ["_law_one", "_law_other"] (spV K pProd)) : FnOk P w K mg base CX0 10 f fd ["_law_script"] (spV K pLaw) := by
  refine fn_ok F sc_law (fun vs H Q E => lenN 1 fun ds r ⟨_, e, _⟩ => by rw [e]; rfl) fun cdv A outer s H vs Q E hr h => ?_
  obtain ⟨ds, r, hd, ⟨sc, rfl, rfl⟩, q⟩ := h
  obtain ⟨v0, rfl, dv⟩ := one_ hd
  refine ⟨_, (pss_cons (ps_set (i := 1) sc_law.nd rfl (Or.inl rfl) (pe_has h_law_numbers (hr.mono (by decide)) (by rfl) (pa_cons (pv 0) (pa_cons pe_int pa_nil))))
      (pss_cons (ps_set (i := 2) sc_law.nd rfl (Or.inl rfl) (pe_has h_law_drawn_factors (hr.mono (by decide)) (by rfl) (pa_cons (pv 1) (pa_cons pe_int (pa_cons (pe_has h_law_pick (hr.mono (by decide)) (by rfl) (pa_cons (pv 1) (pa_cons pe_int (pa_cons pe_int pa_nil)))) pa_nil)))))
      (pss_cons (ps_set (i := 3) sc_law.nd rfl (Or.inl rfl) (pe_has h_law_all_product (hr.mono (by decide)) (by rfl) (pa_cons (pv 2) pa_nil)))
      (pss_cons (ps_setLc (i := 4) (own := [("_law_factor", 15)]) (tt := tYes) (g := (gName 15)) rfl sc_law.nd rfl rfl (sw_true rfl rfl rfl (by decide +kernel)) (pi_list (pv 2)) (blkOk_by (own := [("_law_factor", 15)]) (N := N_law) (sc := defScope s_law) (by decide +kernel)) (fun _ _ _ _ _ => (pg_name (i := 15) sc_law.nd rfl (Or.inl rfl))) (fun _ _ _ _ _ => pts_nil) (fun _ _ _ _ _ => (pe_has h_law_norm (hr.mono (by decide)) (by rfl) (pa_cons (pv 15) pa_nil))))
      (pss_cons (ps_set (i := 5) sc_law.nd rfl (Or.inl rfl) pe_int)
      (pss_cons (ps_for PassesOwn.never rfl (pi_range1 (by rfl) T.range (pa_cons (pe_callB call_len_seq (by rfl) T.len b_len (pa_cons (pv 4) pa_nil)) pa_nil)) (pg_name (i := 6) sc_law.nd rfl (Or.inl rfl))
      (pss_one (ps_set (i := 5) sc_law.nd rfl (Or.inl rfl) (pe_op op_fdivW (pe_op op_mulW (pv 5) (pe_op op_add (pv 6) pe_int)) (pe_op op_add (pe_bm PySem.F.plainAttrs_list PySem.F.slot_list_count PySem.F.type_list_count mt_lcount (pe_slice sl_list (pv 4) po_none (po_some (pv 6))) (pa_cons (pe_ix ix_list (pv 4) (pv 6) (fun _ _ => rfl)) pa_nil)) pe_int)))))
      (pss_cons (ps_if (pt_cmpR op_ne (pe_has h_order_count (hr.mono (by decide)) (by rfl) (pa_cons (pv 3) pa_nil)) (pv 5) (nomark _)) (pss_one (ps_ret pe_bl)) pss_nil)
      (pss_cons (ps_if (pt_not (pt_val (pe_has h_law_is_primitive (hr.mono (by decide)) (by rfl) (pa_cons (pv 3) pa_nil)))) (pss_one (ps_ret pe_bl)) pss_nil)
      (pss_cons (ps_set (i := 7) sc_law.nd rfl (Or.inl rfl) (pe_has h_law_order (hr.mono (by decide)) (by rfl) (pa_cons (pv 1) (pa_cons pe_int (pa_cons (pv 4) pa_nil)))))
      (pss_cons (ps_set (i := 8) sc_law.nd rfl (Or.inl rfl) (pe_has h_law_order (hr.mono (by decide)) (by rfl) (pa_cons (pv 1) (pa_cons pe_int (pa_cons (pv 4) pa_nil)))))
      (pss_cons (ps_asg (pe_has h_row_of (hr.mono (by decide)) (by rfl) (pa_cons (pv 3) (pa_cons (pv 7) pa_nil))) (pg_tup rfl (pgs_cons (pg_name (i := 9) sc_law.nd rfl (Or.inl rfl)) (pgs_cons (pg_name (i := 10) sc_law.nd rfl (Or.inl rfl)) pgs_nil))))
      (pss_cons (ps_asg (pe_has h_row_of (hr.mono (by decide)) (by rfl) (pa_cons (pv 3) (pa_cons (pv 8) pa_nil))) (pg_tup rfl (pgs_cons (pg_name (i := 11) sc_law.nd rfl (Or.inl rfl)) (pgs_cons (pg_name (i := 12) sc_law.nd rfl (Or.inl rfl)) pgs_nil))))
      (pss_cons (ps_for PassesOwn.never rfl (pi_range1 (by rfl) T.range (pa_cons (pe_callB call_len_seq (by rfl) T.len b_len (pa_cons (pv 7) pa_nil)) pa_nil)) (pg_name (i := 6) sc_law.nd rfl (Or.inl rfl))
      (pss_one (ps_if (PW.pt (pw_and (pt_cmpR (op_eqD hr.units) (pe_slice sl_list (pv 7) po_none (po_some (pe_op op_add (pv 6) pe_int))) (pe_slice sl_list (pv 8) po_none (po_some (pe_op op_add (pv 6) pe_int))) (nomark _)) (pw_and1 (pt_cmpR (op_neD hr.units) (pe_ix ix_list (pv 9) (pv 6) (fun _ _ => rfl)) (pe_ix ix_list (pv 11) (pv 6) (fun _ _ => rfl)) (nomark _))))) (pss_one (ps_ret pe_bl)) pss_nil)))
      (pss_cons (ps_if (pt_cmpR op_gt (pe_callB call_len_seq (by rfl) T.len b_len (pa_cons (pv 9) pa_nil)) pe_int (nomark _)) (pss_cons (ps_set (i := 13) sc_law.nd rfl (Or.inl rfl) (pe_has h_law_divides (hr.mono (by decide)) (by rfl) (pa_cons (pe_ix ix_list (pv 9) pe_int (fun _ _ => rfl)) (pa_cons (pv 3) pa_nil))))
      (pss_one (ps_if (PW.pt (pw_or (pt_cmpR op_isN (pv 13) pe_non (nomark _)) (pw_or1 (pt_cmpR (op_neD hr.units) (pe_has h_row_of (hr.mono (by decide)) (by rfl) (pa_cons (pv 13) (pa_cons (pe_slice sl_list (pv 7) (po_some pe_int) po_none) pa_nil))) (pe_tup (pa_cons (pe_slice sl_list (pv 9) (po_some pe_int) po_none) (pa_cons (pv 10) pa_nil))) (nomark _))))) (pss_one (ps_ret pe_bl)) pss_nil))) pss_nil)
      (pss_cons (ps_set (i := 14) sc_law.nd rfl (Or.inl rfl) (pe_ix ix_list (pe_has0 h_law_units (hr.mono (by decide)) (by rfl)) (pe_has h_law_pick (hr.mono (by decide)) (by rfl) (pa_cons (pv 1) (pa_cons pe_int (pa_cons pe_int pa_nil)))) (fun _ _ => rfl)))
      (pss_one (ps_ret (pe_cmpR (op_eqD hr.units) (pe_has h_row_of (hr.mono (by decide)) (by rfl) (pa_cons (pe_has h_law_product (hr.mono (by decide)) (by rfl) (pa_cons (pv 3) (pa_cons (pv 14) pa_nil))) (pa_cons (pv 7) pa_nil))) (pe_tup (pa_cons (pv 9) (pa_cons (pe_has h_law_product (hr.mono (by decide)) (by rfl) (pa_cons (pv 10) (pa_cons (pv 14) pa_nil))) pa_nil))) (nomark _))))))))))))))))))), ?_⟩
  -- the draws
  refine q_sh (K := K) (sh_call (ia2 (is_var rfl dv) (is_int (i := 40))) ⟨sc, rfl⟩) fun v1 H1 d1 e1 p1 d1' => ?_
  obtain ⟨ns, rfl, nl⟩ := p1
  show tSeq _ _ _ [some v0, some v1, none, none, none, none, none, none, none, none, none, none, none, none, none, none] _
  have at_ : ∀ j : Nat, j < 40 → ∃ t, ns[j]? = some t := fun j hj => ⟨ns[j], List.getElem?_eq_getElem (by omega)⟩
  obtain ⟨t0, ht0⟩ := at_ 0 (by decide)
  obtain ⟨n, hn, n6⟩ := modN t0 (show 0 < 6 by decide)
  refine q_callN (K := K) (ia_cons (is_var rfl d1') (ia2 (is_int (i := 1)) (Is.eq (is_call (ia_cons (is_var rfl d1') (ia2 (is_int (i := 0)) (is_int (i := 6)))) ⟨ns, 0, ((6 : Nat) : Int), t0, rfl, ht0, by decide, rfl⟩) (by rw [hn])))) ⟨ns, n, rfl, nl, by omega⟩ fun r p2 us H2 pr hp2 e2 h2 d2 => ?_
  obtain ⟨fs, rfl, fl, fp⟩ := pr
  have df : Dp K H2 (.ref p2) (.list (fs.map tq)) := .lst (.inl (.inl h2)) d2
  show tSeq _ _ _ [some v0, some v1, some (.ref p2), none, none, none, none, none, none, none, none, none, none, none, none, none] _
  -- the number
  refine q_is (K := K) (is_call (ia0 (is_var rfl df)) ⟨fs, rfl, fp, fl, rfl⟩) fun v3 H3 e3 d3 => ?_
  obtain ⟨xn, xb⟩ := all_small fp fl
  generalize fs.foldl Hz.mul Hz.one = x at d3 xn xb
  show tSeq _ _ _ [some v0, some v1, some (.ref p2), some v3, none, none, none, none, none, none, none, none, none, none, none, none] _
  refine q_nw (K := K) (ds := inz (fs.map Hz.nm)) (nw_lcL (es := fs.map tq) (is_var rfl (dp_ex e3 df)) (by rw [List.length_map]; omega) (fun _ => rfl) (by simp [inz]) (flats_ints _) fun i y d r H4 e4 h1 h2 dy => ?_) fun p4 us4 H4 hp4 e4 h4 d4 => ?_
  · rw [List.getElem?_map] at h1
    obtain ⟨m, hm, er⟩ := inz_get h2
    rw [List.getElem?_map] at hm
    cases hg : fs[i]? with
    | none => rw [hg] at h1; cases h1
    | some g =>
      rw [hg] at h1 hm
      rw [← Option.some.inj h1] at dy
      rw [er, ← Option.some.inj hm]
      have gb := isP_bd (fp g (List.mem_of_getElem? hg))
      exact is_call (ia0 (is_var rfl dy)) ⟨g, rfl, small_nm (by omega), rfl⟩
  have pp : ∀ p ∈ fs.map Hz.nm, Hz.isP p := isPs fp
  have pl : (fs.map Hz.nm).length ≤ 5 := by rw [List.length_map]; exact fl
  generalize fs.map Hz.nm = ps at d4 xn pp pl
  have dn : Dp K H4 (.ref p4) (.list (inz ps)) := .lst (.inl (.inl h4)) d4
  obtain ⟨cg, cp, cw, co, cb⟩ := chk_of pl pp
  show tSeq _ _ _ [some v0, some v1, some (.ref p2), some v3, some (.ref p4), none, none, none, none, none, none, none, none, none, none, none] _
  refine q_is (K := K) (is_int (i := 1)) fun v5 H5 e5 d5 => ?_
  rw [dp_int d5]
  show tSeq _ _ _ [some v0, some v1, some (.ref p2), some v3, some (.ref p4), some (.int 1), none, none, none, none, none, none, none, none, none, none] _
  have e45 := e4.trans e5
  -- the orders
  refine q_forR1 (n := (ps.length : Int)) (ia_ev (K := K) (ns := [(ps.length : Int)]) (ia0 (Is.eq (is_lenL (is_var rfl (dp_ex e5 dn))) (by rw [inz_len])))) (by omega) (fun i σ' H' => ∃ y6, σ' = [some v0, some v1, some (.ref p2), some v3, some (.ref p4), some (.int (lawO ps i)), y6, none, none, none, none, none, none, none, none, none] ∧ Ex H4 H') (fun H6 e6 => ⟨none, rfl, e5.trans e6⟩) (fun i σ' H' hi z => ?_) fun σ' H' z => ?_
  · obtain ⟨y6, rfl, e6⟩ := z
    show tAsg _ _ _ [some v0, some v1, some (.ref p2), some v3, some (.ref p4), some (.int (lawO ps i)), some (.int (i : Int)), none, none, none, none, none, none, none, none, none] _
    have il : i < ps.length := by omega
    have hps : ps[i]? = some (ps.getD i 0) := by rw [List.getD_eq_getElem?_getD, List.getElem?_eq_getElem il]; rfl
    obtain ⟨b0, b1⟩ := cb i (by omega)
    have et : (inz ps).take i = inz (ps.take i) := by unfold inz; rw [List.map_take]
    have cnt : (ps.take i).count (ps.getD i 0) ≤ 5 := Nat.le_trans List.count_le_length (by rw [List.length_take]; omega)
    refine s_isAsg (K := K) (is_div (is_mulW (is_var rfl (.int (lawO ps i))) (is_add (is_var rfl (.int (i : Int))) is_int) (mulw (by omega) (by omega) (by omega) (by omega))) (is_add (is_count (ns := ps.take i) (Is.eq (nw_take (k := i) (is_var rfl (dp_ex e6 dn)) (is_var rfl (.int (i : Int)))).is (by rw [et])) (is_ixL (k := i) (is_var rfl (dp_ex e6 dn)) (is_var rfl (.int (i : Int))) (by unfold inz; rw [List.getElem?_map, hps]; rfl))) is_int) (div_small (by omega) (by omega))) fun v7 H7 e7 d7 => ?_
    rw [dp_int d7]
    refine ⟨some (.int (i : Int)), ?_, e6.trans e7⟩
    rw [lawO_succ]
    rfl
  obtain ⟨y6, rfl, e6⟩ := z
  rw [Int.toNat_natCast, ← co, ← xn]
  rw [← xn] at cg cp cw
  have xz : x ≠ Hz.zero := fun h => by
    have := prod_pos pp
    rw [← xn, h, Hz.nm_zero] at this
    omega
  have bx : Bd 4000 x := small_nm (by omega)
  have d36 := dp_ex (e4.trans e6) d3
  refine q_when (b := false) (et_is (K := K) (Is.eq (is_neI (is_call (ia0 (is_var rfl d36)) ⟨x, rfl, xz, bx, by omega, cg, rfl⟩) (is_var rfl (.int (ocount x.nm)))) (by rw [decide_eq_true rfl]; rfl))) (fun c => by cases c) fun _ H7 e7 => ?_
  refine q_when (b := !primB x) (Evl.et_not (et_isB (K := K) (is_call (ia0 (is_var rfl (dp_ex e7 d36))) ⟨x, rfl, by omega, rfl⟩))) (fun c H8 e8 => ?_) fun c H8 e8 => ?_
  · exact s_isRet (K := K) (is_bl (b := true)) fun v9 H9 e9 d9 => q v9 H9 (e1.trans (e2.trans (e3.trans (e4.trans (e6.trans (e7.trans (e8.trans e9))))))) d9
  have hprim : Hz.Prim x := prim_of pp xn (by cases h : primB x with | true => rfl | false => rw [h] at c; cases c)
  have e18 : Ex H1 H8 := e2.trans (e3.trans (e4.trans (e6.trans (e7.trans e8))))
  have e08 := e1.trans e18
  have dx := dp_ex (e7.trans e8) d36
  have dn8 := dp_ex (e6.trans (e7.trans e8)) dn
  have dd := dp_ex e18 d1'
  clear d36 e2 e3 e4 e45 e5 e6 e7 e8 e18 df d2 h2 d3 d4 h4 d1' dn
  -- two orders
  refine q_callN (K := K) (ia_cons (is_var rfl dd) (ia2 (is_int (i := 20)) (is_var rfl dn8))) ⟨ns, ps, 20, rfl, pl, by omega, by decide⟩ fun r p7 us7 H9 pr _ e9 h9 d9 => ?_
  obtain ⟨_, ps', os, _, ee, rfl, pm1⟩ := pr
  have eps : ps = ps' := by
    injection ee with _ ee
    injection ee with _ ee
    injection ee with ee _
    injection ee with ee
    exact inz_inj ee
  rw [← eps] at pm1
  clear ee eps
  have df : Dp K H9 (.ref p7) (.list (inz os)) := .lst (.inl (.inl h9)) d9
  show tSeq _ _ _ [some v0, some v1, some (.ref p2), some v3, some (.ref p4), some (.int (ocount x.nm)), y6, some (.ref p7), none, none, none, none, none, none, none, none] _
  refine q_callN (K := K) (ia_cons (is_var rfl (dp_ex e9 dd)) (ia2 (is_int (i := 28)) (is_var rfl (dp_ex e9 dn8)))) ⟨ns, ps, 28, rfl, pl, by omega, by decide⟩ fun r p8 us8 H10 pr _ e10 h10 d10 => ?_
  obtain ⟨_, ps', ot, _, ee, rfl, pm2⟩ := pr
  have eps : ps = ps' := by
    injection ee with _ ee
    injection ee with _ ee
    injection ee with ee _
    injection ee with ee
    exact inz_inj ee
  rw [← eps] at pm2
  clear ee eps
  have dt : Dp K H10 (.ref p8) (.list (inz ot)) := .lst (.inl (.inl h10)) d10
  show tSeq _ _ _ [some v0, some v1, some (.ref p2), some v3, some (.ref p4), some (.int (ocount x.nm)), y6, some (.ref p7), some (.ref p8), none, none, none, none, none, none, none] _
  have hp1 : ∀ p ∈ os, Hz.isP p := fun p m => pp p (pm1.mem_iff.mp m)
  have hp2' : ∀ p ∈ ot, Hz.isP p := fun p m => pp p (pm2.mem_iff.mp m)
  have hl1 : os.length ≤ 5 := by rw [pm1.length_eq]; exact pl
  have hl2 : ot.length ≤ 5 := by rw [pm2.length_eq]; exact pl
  have hn1 : x.nm = Hz.prod os := by rw [xn]; exact (prod_perm pm1).symm
  have hn2 : x.nm = Hz.prod ot := by rw [xn]; exact (prod_perm pm2).symm
  have e910 := e9.trans e10
  -- two rows
  refine q_un2 (K := K) (a := .list ((Hz.rowF os x).1.map tq)) (b := tq (Hz.rowF os x).2) (is_call (ia2 (is_var rfl (dp_ex e910 dx)) (is_var rfl (dp_ex e10 df))) ⟨x, os, rfl, rowy_of hprim hn1 hp1 hl1, rfl⟩) fun v9 v10 H11 e11 d11 d12 => ?_
  show tSeq _ _ _ [some v0, some v1, some (.ref p2), some v3, some (.ref p4), some (.int (ocount x.nm)), y6, some (.ref p7), some (.ref p8), some v9, some v10, none, none, none, none, none] _
  refine q_un2 (K := K) (a := .list ((Hz.rowF ot x).1.map tq)) (b := tq (Hz.rowF ot x).2) (is_call (ia2 (is_var rfl (dp_ex (e910.trans e11) dx)) (is_var rfl (dp_ex e11 dt))) ⟨x, ot, rfl, rowy_of hprim hn2 hp2' hl2, rfl⟩) fun v11 v12 H12 e12 d13 d14 => ?_
  show tSeq _ _ _ [some v0, some v1, some (.ref p2), some v3, some (.ref p4), some (.int (ocount x.nm)), y6, some (.ref p7), some (.ref p8), some v9, some v10, some v11, some v12, none, none, none] _
  have w1 : Ex H8 H12 := e910.trans (e11.trans e12)
  have w7 : Dp K H12 (.ref p7) (.list (inz os)) := dp_ex (e10.trans (e11.trans e12)) df
  have w8 : Dp K H12 (.ref p8) (.list (inz ot)) := dp_ex (e11.trans e12) dt
  have w9 := dp_ex e12 d11
  have w10 := dp_ex e12 d12
  have w3 := dp_ex w1 dx
  have w0 := dp_ex w1 dd
  have e012 := e08.trans w1
  clear e910 e9 e10 e11 e12 h9 h10 d9 d10 df dt d11 d12 d14 dd dx w1 e08
  refine q_forR1 (n := (os.length : Int)) (ia_ev (K := K) (ns := [(os.length : Int)]) (ia0 (Is.eq (is_lenL (is_var rfl w7)) (by rw [inz_len])))) (by omega) (fun i σ' H' => ∃ y6, σ' = [some v0, some v1, some (.ref p2), some v3, some (.ref p4), some (.int (ocount x.nm)), y6, some (.ref p7), some (.ref p8), some v9, some v10, some v11, some v12, none, none, none] ∧ Ex H12 H') (fun H13 e13 => ⟨y6, rfl, e13⟩) (fun i σ' H' hi z => ?_) fun σ' H' z => ?_
  · obtain ⟨z6, rfl, e13⟩ := z
    show tIfS _ _ _ _ [some v0, some v1, some (.ref p2), some v3, some (.ref p4), some (.int (ocount x.nm)), some (.int (i : Int)), some (.ref p7), some (.ref p8), some v9, some v10, some v11, some v12, none, none, none] _
    have i1 : i < os.length := by omega
    have i2 : i < ot.length := by rw [pm2.length_eq, ← pm1.length_eq]; exact i1
    have r1 : i < (Hz.rowF os x).1.length := by rw [Hz.rowF_len]; exact i1
    have r2 : i < (Hz.rowF ot x).1.length := by rw [Hz.rowF_len]; exact i2
    have t1 : ∀ l : List Int, (inz l).take (i + 1) = inz (l.take (i + 1)) := fun l => by unfold inz; rw [List.map_take]
    have ix : Is K (tOp (rI0 fun i j => .int (i + j)) (tVar 6) (tC (.int 1))) [some v0, some v1, some (.ref p2), some v3, some (.ref p4), some (.int (ocount x.nm)), some (.int (i : Int)), some (.ref p7), some (.ref p8), some v9, some v10, some v11, some v12, none, none, none] H' (.int ((i + 1 : Nat) : Int)) := Is.eq (is_add (is_var rfl (.int (i : Int))) is_int) (by congr 1)
    refine s_when (b := decide (os.take (i + 1) = ot.take (i + 1)) && !decide (((Hz.rowF os x).1[i]).dl = ((Hz.rowF ot x).1[i]).dl)) (Evl.et_and (et_is (K := K) (Is.eq (is_eqD (Is.eq (nw_take (k := i + 1) (is_var rfl (dp_ex e13 w7)) ix).is (by rw [t1])) (Is.eq (nw_take (k := i + 1) (is_var rfl (dp_ex e13 w8)) ix).is (by rw [t1])) (lay_lst lay_inz).shaped (lay_lst lay_inz).shaped) (by rw [eqv_lstI]))) fun _ => et_is (K := K) (Is.eq (is_neD (is_ixL (k := i) (d := tq (Hz.rowF os x).1[i]) (is_var rfl (dp_ex e13 w9)) (is_var rfl (.int (i : Int))) (by rw [List.getElem?_map, List.getElem?_eq_getElem r1]; rfl)) (is_ixL (k := i) (d := tq (Hz.rowF ot x).1[i]) (is_var rfl (dp_ex e13 d13)) (is_var rfl (.int (i : Int))) (by rw [List.getElem?_map, List.getElem?_eq_getElem r2]; rfl)) (shaped_tupI _) (shaped_tupI _)) (by rw [eqv_tq]))) (fun c => ?_) fun c H14 e14 => ⟨_, rfl, e13.trans e14⟩
    exfalso
    rw [Bool.and_eq_true] at c
    have same := Hz.rowF_prefix os ot x i i1 i2 (of_decide_eq_true c.1)
    rw [List.getElem?_eq_getElem r1, List.getElem?_eq_getElem r2] at same
    rw [Option.some.inj same, decide_eq_true rfl] at c
    exact absurd c.2 (by decide)
  obtain ⟨z6, rfl, e13⟩ := z
  have u7 := dp_ex e13 w7
  have u9 := dp_ex e13 w9
  have u10 := dp_ex e13 w10
  have u3 := dp_ex e13 w3
  have u0 := dp_ex e13 w0
  have e013 := e012.trans e13
  clear w7 w8 w9 w10 w3 w0 d13 e13 e012
  have wn : (Hz.rowF os x).2.nm = 1 := Hz.rowF_nm1 os x hp1 hprim hn1
  -- the end: a unit behind the number
  obtain ⟨t36, ht36⟩ := at_ 36 (by decide)
  obtain ⟨ku, hku, ku2⟩ := modN t36 (show 0 < 24 by decide)
  obtain ⟨u, hu⟩ : ∃ u, Hz.units[ku]? = some u := ⟨Hz.units[ku]'(by show ku < 24; exact ku2), List.getElem?_eq_getElem _⟩
  have un : u.nm = 1 := Hz.units_nm u (List.mem_of_getElem? hu)
  have rw2 : Rowy (Hz.mul x u) os := rowy_of (hprim.unit un) (by rw [Hz.nm_mul, un, Int.mul_one]; exact hn1) hp1 hl1
  have er : Hz.rowF os (Hz.mul x u) = ((Hz.rowF os x).1, Hz.mul (Hz.rowF os x).2 u) := Hz.rowF_unit os x u hp1 hprim hn1 un
  refine q_whenS (b := decide ((0 : Int) < ((Hz.rowF os x).1.length : Int))) (M := fun σ1 H14 => ∃ o, σ1 = [some v0, some v1, some (.ref p2), some v3, some (.ref p4), some (.int (ocount x.nm)), z6, some (.ref p7), some (.ref p8), some v9, some v10, some v11, some v12, o, none, none] ∧ Ex H' H14) (et_is (K := K) (Is.eq (is_gt (is_lenL (is_var rfl u9)) is_int) (by rw [List.length_map]))) (fun σ1 H14 z => ?_) (fun c H14 e14 k => ?_) fun c H14 e14 => ⟨none, rfl, e14⟩
  · obtain ⟨o, rfl, e14⟩ := z
    refine q_is (K := K) (d := tq u) (is_ixL (k := ku) (nw_call (E := E0) ia_nil ⟨rfl, rfl⟩).is (Is.eq (is_call (ia_cons (is_var rfl (dp_ex e14 u0)) (ia2 (is_int (i := 36)) (is_int (i := 24)))) ⟨ns, 36, ((24 : Nat) : Int), t36, rfl, ht36, by decide, rfl⟩) (by rw [hku])) (by rw [List.getElem?_map, hu]; rfl)) fun v14 H15 e15 d15 => ?_
    have e145 := e14.trans e15
    have e2 : Hz.mul x u = Hz.mul x u := rfl
    refine s_isRet (K := K) (d := .bool true) (Is.eq (is_eqD (d := rowD (Hz.rowF os (Hz.mul x u))) (d' := rowD ((Hz.rowF os x).1, Hz.mul (Hz.rowF os x).2 u)) (is_call (ia2 (is_call (ia2 (is_var rfl (dp_ex e145 u3)) (is_var rfl d15)) ⟨x, u, rfl, bx, small_nm (by omega), rfl⟩) (is_var rfl (dp_ex e145 u7))) ⟨Hz.mul x u, os, rfl, rw2, rfl⟩)
      (is_tup (ia2 (is_var rfl (dp_ex e145 u9)) (is_call (r := tq (Hz.mul (Hz.rowF os x).2 u)) (ia2 (is_var rfl (dp_ex e145 u10)) (is_var rfl d15)) ⟨(Hz.rowF os x).2, u, rfl, small_nm (by omega), small_nm (by omega), rfl⟩)) (by show 2 ≤ 100000; decide)) (lay_row _).shaped (lay_row _).shaped) (by rw [er, eqv_lay (lay_row _)])) fun v15 H16 e16 d16 => q v15 H16 (e013.trans (e145.trans e16)) d16
  · have c := of_decide_eq_true c
    rw [Hz.rowF_len] at c
    cases os with
    | nil => exact absurd c (by decide)
    | cons p ot' =>
      obtain ⟨n1, n2, n3, n4⟩ := Hz.row_next hp1 hprim hn1
      have pb := isP_bd (hp1 p List.mem_cons_self)
      have fz : Hz.fac x p ≠ Hz.zero := fun h => by rw [h, Hz.nm_zero] at n3; omega
      have rt : Rowy (Hz.quo x (Hz.fac x p)) ot' := rowy_of n1 n2 (fun r m => hp1 r (List.mem_cons_of_mem _ m)) (Nat.le_of_succ_le hl1)
      have d1 : ∀ l : List Int, ∀ a : Int, (inz (a :: l)).drop 1 = inz l := fun _ _ => rfl
      refine q_is (K := K) (d := tq (Hz.quo x (Hz.fac x p))) (Is.eq (is_call (ia2 (is_ixL (k := 0) (d := tq (Hz.fac x p)) (is_var rfl (dp_ex e14 u9)) (is_int (i := 0)) rfl) (is_var rfl (dp_ex e14 u3))) ⟨Hz.fac x p, x, rfl, fz, by omega, by omega, rfl⟩) (divD_some fz n4.symm)) fun v14 H15 e15 d15 => ?_
      have e145 := e14.trans e15
      show tIfS _ _ _ _ [some v0, some v1, some (.ref p2), some v3, some (.ref p4), some (.int (ocount x.nm)), z6, some (.ref p7), some (.ref p8), some v9, some v10, some v11, some v12, some v14, none, none] _
      refine s_when (b := false || !PyData.eqv (rowD (Hz.rowF ot' (Hz.quo x (Hz.fac x p)))) (rowD (Hz.rowF ot' (Hz.quo x (Hz.fac x p))))) (Evl.et_or (et_is (K := K) (Is.eq (is_isN (is_var rfl d15)) rfl)) fun _ => et_is (K := K) (is_neD (is_call (ia2 (is_var rfl d15) (Is.eq (nw_drop (k := 1) (is_var rfl (dp_ex e145 u7)) (is_int (i := 1))).is (by rw [d1]))) ⟨_, ot', rfl, rt, rfl⟩) (is_tup (ia2 (nw_drop (k := 1) (is_var rfl (dp_ex e145 u9)) (is_int (i := 1))).is (is_var rfl (dp_ex e145 u10))) (by show 2 ≤ 100000; decide)) (lay_row _).shaped (lay_row _).shaped)) (fun c => ?_) fun _ H16 e16 => ?_
      · rw [neg_lay (lay_row _)] at c
        cases c
      · exact k _ H16 ⟨some v14, rfl, e145.trans e16⟩
end
end TP.W
set_option maxHeartbeats 0
namespace TP.W
open PySem PySem.Spec PyProof.Rows L2 Evl RZ TP.L
/-! ### the head -/
section
variable {P : Program} {w : World} {K : PySem.W.Frag} {mg : Str → Option Value} {base : Heap}

theorem law_has (T : Txt K mg) (D_is_number : Dn K mg "is_number" s_is_number) (D_check_number : Dn K mg "check_number" s_check_number) (D_check_not_zero : Dn K mg "check_not_zero" s_check_not_zero) (D_conjugate : Dn K mg "conjugate" s_conjugate) (D_norm : Dn K mg "norm" s_norm) (D_less : Dn K mg "less" s_less) (D_product : Dn K mg "product" s_product) (D_units : Dn K mg "units" s_units) (D_associates : Dn K mg "associates" s_associates) (D_canonical : Dn K mg "canonical" s_canonical) (D_content : Dn K mg "content" s_content) (D_is_primitive : Dn K mg "is_primitive" s_is_primitive) (D_distance_of : Dn K mg "distance_of" s_distance_of) (D_nearest : Dn K mg "nearest" s_nearest) (D_check_pair : Dn K mg "check_pair" s_check_pair) (D_divided_left : Dn K mg "divided_left" s_divided_left) (D_left_quotient : Dn K mg "left_quotient" s_left_quotient) (D_steps_of : Dn K mg "steps_of" s_steps_of) (D_check_some : Dn K mg "check_some" s_check_some) (D_left_common : Dn K mg "left_common" s_left_common) (D_whole_primes : Dn K mg "whole_primes" s_whole_primes) (D_prime_list : Dn K mg "prime_list" s_prime_list) (D_check_order : Dn K mg "check_order" s_check_order) (D_left_prime : Dn K mg "left_prime" s_left_prime) (D_row_of : Dn K mg "row_of" s_row_of) (D_order_count : Dn K mg "order_count" s_order_count) (D_law_row : Dn K mg "_law_row" s_law_row) (D_law_numbers : Dn K mg "_law_numbers" s_law_numbers) (D_law_pick : Dn K mg "_law_pick" s_law_pick) (D_law_product : Dn K mg "_law_product" s_law_product) (D_law_conjugate : Dn K mg "_law_conjugate" s_law_conjugate) (D_law_norm : Dn K mg "_law_norm" s_law_norm) (D_law_units : Dn K mg "_law_units" s_law_units) (D_law_canonical : Dn K mg "_law_canonical" s_law_canonical) (D_law_primes : Dn K mg "_law_primes" s_law_primes) (D_law_divides : Dn K mg "_law_divides" s_law_divides) (D_law_is_primitive : Dn K mg "_law_is_primitive" s_law_is_primitive) (D_law_drawn_factors : Dn K mg "_law_drawn_factors" s_law_drawn_factors) (D_law_all_product : Dn K mg "_law_all_product" s_law_all_product) (D_law_order : Dn K mg "_law_order" s_law_order) {f : Addr} {fd : FuncData} (F : FnP K "law" s_law f fd) : FnOk P w K mg base CX0 10 f fd ["_law_script"] (spV K pLaw) := by
  have h_is_number_T := ok_is_number_T (P := P) (w := w) (base := base) D_is_number T
  have h_is_number_L := ok_is_number_L (P := P) (w := w) (base := base) D_is_number T
  have h_check_number := ok_check_number (P := P) (w := w) (base := base) D_check_number T h_is_number_T
  have h_check_not_zero := ok_check_not_zero (P := P) (w := w) (base := base) D_check_not_zero T h_check_number
  have h_conjugate := ok_conjugate (P := P) (w := w) (base := base) D_conjugate T h_check_number
  have h_norm := ok_norm (P := P) (w := w) (base := base) D_norm T h_check_number
  have h_less := ok_less (P := P) (w := w) (base := base) D_less T h_check_number
  have h_product := ok_product (P := P) (w := w) (base := base) D_product T h_check_number
  have h_units := ok_units (P := P) (w := w) (base := base) D_units T 
  have h_associates := ok_associates (P := P) (w := w) (base := base) D_associates T h_check_not_zero h_units h_product
  have h_canonical := ok_canonical (P := P) (w := w) (base := base) D_canonical T h_associates
  have h_content := ok_content (P := P) (w := w) (base := base) D_content T h_check_not_zero h_is_number_L
  have h_is_primitive := ok_is_primitive (P := P) (w := w) (base := base) D_is_primitive T h_content
  have h_distance_of := ok_distance_of (P := P) (w := w) (base := base) D_distance_of T 
  have h_nearest := ok_nearest (P := P) (w := w) (base := base) D_nearest T h_distance_of
  have h_check_pair := ok_check_pair (P := P) (w := w) (base := base) D_check_pair T h_check_number h_check_not_zero
  have h_divided_left := ok_divided_left (P := P) (w := w) (base := base) D_divided_left T h_check_pair h_nearest h_product h_conjugate h_norm h_less
  have h_left_quotient := ok_left_quotient (P := P) (w := w) (base := base) D_left_quotient T h_divided_left
  have h_steps_of := ok_steps_of (P := P) (w := w) (base := base) D_steps_of T h_divided_left h_product h_less
  have h_check_some := ok_check_some (P := P) (w := w) (base := base) D_check_some T h_check_number
  have h_left_common := ok_left_common (P := P) (w := w) (base := base) D_left_common T h_check_some h_canonical h_steps_of
  have h_whole_primes := ok_whole_primes (P := P) (w := w) (base := base) D_whole_primes T 
  have h_prime_list := ok_prime_list (P := P) (w := w) (base := base) D_prime_list T h_whole_primes
  have h_check_order := ok_check_order (P := P) (w := w) (base := base) D_check_order T h_check_not_zero h_norm h_prime_list
  have h_left_prime := ok_left_prime (P := P) (w := w) (base := base) D_left_prime T h_left_common
  have h_row_of := ok_row_of (P := P) (w := w) (base := base) D_row_of T h_check_order h_is_primitive h_left_prime h_left_quotient
  have h_order_count := ok_order_count (P := P) (w := w) (base := base) D_order_count T h_check_not_zero h_norm h_whole_primes
  have h_law_row := ok_law_row (P := P) (w := w) (base := base) D_law_row T 
  have h_law_numbers := ok_law_numbers (P := P) (w := w) (base := base) D_law_numbers T h_law_row
  have h_law_pick := ok_law_pick (P := P) (w := w) (base := base) D_law_pick T 
  have h_law_product := ok_law_product (P := P) (w := w) (base := base) D_law_product T 
  have h_law_conjugate := ok_law_conjugate (P := P) (w := w) (base := base) D_law_conjugate T 
  have h_law_norm := ok_law_norm (P := P) (w := w) (base := base) D_law_norm T 
  have h_law_units := ok_law_units (P := P) (w := w) (base := base) D_law_units T 
  have h_law_canonical := ok_law_canonical (P := P) (w := w) (base := base) D_law_canonical T h_law_units h_law_product
  have h_law_primes := ok_law_primes (P := P) (w := w) (base := base) D_law_primes T h_law_canonical
  have h_law_divides := ok_law_divides (P := P) (w := w) (base := base) D_law_divides T h_law_product h_law_conjugate h_law_norm
  have h_law_is_primitive := ok_law_is_primitive (P := P) (w := w) (base := base) D_law_is_primitive T h_law_divides
  have h_law_drawn_factors := ok_law_drawn_factors (P := P) (w := w) (base := base) D_law_drawn_factors T h_law_pick h_law_primes h_law_units h_law_product
  have h_law_all_product := ok_law_all_product (P := P) (w := w) (base := base) D_law_all_product T h_law_product
  have h_law_order := ok_law_order (P := P) (w := w) (base := base) D_law_order T h_law_pick
  exact ok_law F T h_law_numbers h_law_pick h_law_drawn_factors h_law_all_product h_law_norm h_order_count h_law_is_primitive h_law_order h_row_of h_law_divides h_law_units h_law_product
end
theorem facts {P : Program} {w : World} {K : PySem.W.Frag} {h : Heap} {mg : Str → Option Value} {f : Addr} (X : K.In h) (G : h.Ns mainGlobals mg) (hfa : mg ("law" : Str) = some (.ref f)) (c : He.SaysX fa fn [] [] ex w h K) :
    ∃ fd : FuncData, (∀ (s : Shared) (v : Value), BindsTo s fd ⟨[v], []⟩ [("_law_script", v)]) ∧ ∀ base : Heap, K.In base → base.Ns mainGlobals mg → FnOk P w K mg base CX0 10 f fd ["_law_script"] (spV K pLaw) := by
  have cd := c.t.d
  have D_is_number : Dn K mg "is_number" s_is_number := by
    obtain ⟨fd, F⟩ := cd.def_ 0 (d := d_is_number) rfl
    exact ⟨_, fd, F, He.glo_ok X G (cd.fact 0 (f := .glo "is_number") rfl)⟩
  have D_check_number : Dn K mg "check_number" s_check_number := by
    obtain ⟨fd, F⟩ := cd.def_ 1 (d := d_check_number) rfl
    exact ⟨_, fd, F, He.glo_ok X G (cd.fact 1 (f := .glo "check_number") rfl)⟩
  have D_check_not_zero : Dn K mg "check_not_zero" s_check_not_zero := by
    obtain ⟨fd, F⟩ := cd.def_ 2 (d := d_check_not_zero) rfl
    exact ⟨_, fd, F, He.glo_ok X G (cd.fact 2 (f := .glo "check_not_zero") rfl)⟩
  have D_conjugate : Dn K mg "conjugate" s_conjugate := by
    obtain ⟨fd, F⟩ := cd.def_ 3 (d := d_conjugate) rfl
    exact ⟨_, fd, F, He.glo_ok X G (cd.fact 3 (f := .glo "conjugate") rfl)⟩
  have D_norm : Dn K mg "norm" s_norm := by
    obtain ⟨fd, F⟩ := cd.def_ 4 (d := d_norm) rfl
    exact ⟨_, fd, F, He.glo_ok X G (cd.fact 4 (f := .glo "norm") rfl)⟩
  have D_less : Dn K mg "less" s_less := by
    obtain ⟨fd, F⟩ := cd.def_ 5 (d := d_less) rfl
    exact ⟨_, fd, F, He.glo_ok X G (cd.fact 5 (f := .glo "less") rfl)⟩
  have D_product : Dn K mg "product" s_product := by
    obtain ⟨fd, F⟩ := cd.def_ 6 (d := d_product) rfl
    exact ⟨_, fd, F, He.glo_ok X G (cd.fact 6 (f := .glo "product") rfl)⟩
  have D_units : Dn K mg "units" s_units := by
    obtain ⟨fd, F⟩ := cd.def_ 7 (d := d_units) rfl
    exact ⟨_, fd, F, He.glo_ok X G (cd.fact 7 (f := .glo "units") rfl)⟩
  have D_associates : Dn K mg "associates" s_associates := by
    obtain ⟨fd, F⟩ := cd.def_ 8 (d := d_associates) rfl
    exact ⟨_, fd, F, He.glo_ok X G (cd.fact 8 (f := .glo "associates") rfl)⟩
  have D_canonical : Dn K mg "canonical" s_canonical := by
    obtain ⟨fd, F⟩ := cd.def_ 9 (d := d_canonical) rfl
    exact ⟨_, fd, F, He.glo_ok X G (cd.fact 9 (f := .glo "canonical") rfl)⟩
  have D_content : Dn K mg "content" s_content := by
    obtain ⟨fd, F⟩ := cd.def_ 10 (d := d_content) rfl
    exact ⟨_, fd, F, He.glo_ok X G (cd.fact 10 (f := .glo "content") rfl)⟩
  have D_is_primitive : Dn K mg "is_primitive" s_is_primitive := by
    obtain ⟨fd, F⟩ := cd.def_ 11 (d := d_is_primitive) rfl
    exact ⟨_, fd, F, He.glo_ok X G (cd.fact 11 (f := .glo "is_primitive") rfl)⟩
  have D_distance_of : Dn K mg "distance_of" s_distance_of := by
    obtain ⟨fd, F⟩ := cd.def_ 12 (d := d_distance_of) rfl
    exact ⟨_, fd, F, He.glo_ok X G (cd.fact 12 (f := .glo "distance_of") rfl)⟩
  have D_nearest : Dn K mg "nearest" s_nearest := by
    obtain ⟨fd, F⟩ := cd.def_ 13 (d := d_nearest) rfl
    exact ⟨_, fd, F, He.glo_ok X G (cd.fact 13 (f := .glo "nearest") rfl)⟩
  have D_check_pair : Dn K mg "check_pair" s_check_pair := by
    obtain ⟨fd, F⟩ := cd.def_ 14 (d := d_check_pair) rfl
    exact ⟨_, fd, F, He.glo_ok X G (cd.fact 14 (f := .glo "check_pair") rfl)⟩
  have D_divided_left : Dn K mg "divided_left" s_divided_left := by
    obtain ⟨fd, F⟩ := cd.def_ 15 (d := d_divided_left) rfl
    exact ⟨_, fd, F, He.glo_ok X G (cd.fact 15 (f := .glo "divided_left") rfl)⟩
  have D_left_quotient : Dn K mg "left_quotient" s_left_quotient := by
    obtain ⟨fd, F⟩ := cd.def_ 16 (d := d_left_quotient) rfl
    exact ⟨_, fd, F, He.glo_ok X G (cd.fact 16 (f := .glo "left_quotient") rfl)⟩
  have D_steps_of : Dn K mg "steps_of" s_steps_of := by
    obtain ⟨fd, F⟩ := cd.def_ 17 (d := d_steps_of) rfl
    exact ⟨_, fd, F, He.glo_ok X G (cd.fact 17 (f := .glo "steps_of") rfl)⟩
  have D_check_some : Dn K mg "check_some" s_check_some := by
    obtain ⟨fd, F⟩ := cd.def_ 18 (d := d_check_some) rfl
    exact ⟨_, fd, F, He.glo_ok X G (cd.fact 18 (f := .glo "check_some") rfl)⟩
  have D_left_common : Dn K mg "left_common" s_left_common := by
    obtain ⟨fd, F⟩ := cd.def_ 19 (d := d_left_common) rfl
    exact ⟨_, fd, F, He.glo_ok X G (cd.fact 19 (f := .glo "left_common") rfl)⟩
  have D_whole_primes : Dn K mg "whole_primes" s_whole_primes := by
    obtain ⟨fd, F⟩ := cd.def_ 20 (d := d_whole_primes) rfl
    exact ⟨_, fd, F, He.glo_ok X G (cd.fact 20 (f := .glo "whole_primes") rfl)⟩
  have D_prime_list : Dn K mg "prime_list" s_prime_list := by
    obtain ⟨fd, F⟩ := cd.def_ 21 (d := d_prime_list) rfl
    exact ⟨_, fd, F, He.glo_ok X G (cd.fact 21 (f := .glo "prime_list") rfl)⟩
  have D_check_order : Dn K mg "check_order" s_check_order := by
    obtain ⟨fd, F⟩ := cd.def_ 22 (d := d_check_order) rfl
    exact ⟨_, fd, F, He.glo_ok X G (cd.fact 22 (f := .glo "check_order") rfl)⟩
  have D_left_prime : Dn K mg "left_prime" s_left_prime := by
    obtain ⟨fd, F⟩ := cd.def_ 23 (d := d_left_prime) rfl
    exact ⟨_, fd, F, He.glo_ok X G (cd.fact 23 (f := .glo "left_prime") rfl)⟩
  have D_row_of : Dn K mg "row_of" s_row_of := by
    obtain ⟨fd, F⟩ := cd.def_ 24 (d := d_row_of) rfl
    exact ⟨_, fd, F, He.glo_ok X G (cd.fact 24 (f := .glo "row_of") rfl)⟩
  have D_order_count : Dn K mg "order_count" s_order_count := by
    obtain ⟨fd, F⟩ := cd.def_ 25 (d := d_order_count) rfl
    exact ⟨_, fd, F, He.glo_ok X G (cd.fact 25 (f := .glo "order_count") rfl)⟩
  have D_law_row : Dn K mg "_law_row" s_law_row := by
    obtain ⟨fd, F⟩ := cd.def_ 26 (d := d_law_row) rfl
    exact ⟨_, fd, F, He.glo_ok X G (cd.fact 26 (f := .glo "_law_row") rfl)⟩
  have D_law_numbers : Dn K mg "_law_numbers" s_law_numbers := by
    obtain ⟨fd, F⟩ := cd.def_ 27 (d := d_law_numbers) rfl
    exact ⟨_, fd, F, He.glo_ok X G (cd.fact 27 (f := .glo "_law_numbers") rfl)⟩
  have D_law_pick : Dn K mg "_law_pick" s_law_pick := by
    obtain ⟨fd, F⟩ := cd.def_ 28 (d := d_law_pick) rfl
    exact ⟨_, fd, F, He.glo_ok X G (cd.fact 28 (f := .glo "_law_pick") rfl)⟩
  have D_law_product : Dn K mg "_law_product" s_law_product := by
    obtain ⟨fd, F⟩ := cd.def_ 29 (d := d_law_product) rfl
    exact ⟨_, fd, F, He.glo_ok X G (cd.fact 29 (f := .glo "_law_product") rfl)⟩
  have D_law_conjugate : Dn K mg "_law_conjugate" s_law_conjugate := by
    obtain ⟨fd, F⟩ := cd.def_ 30 (d := d_law_conjugate) rfl
    exact ⟨_, fd, F, He.glo_ok X G (cd.fact 30 (f := .glo "_law_conjugate") rfl)⟩
  have D_law_norm : Dn K mg "_law_norm" s_law_norm := by
    obtain ⟨fd, F⟩ := cd.def_ 31 (d := d_law_norm) rfl
    exact ⟨_, fd, F, He.glo_ok X G (cd.fact 31 (f := .glo "_law_norm") rfl)⟩
  have D_law_units : Dn K mg "_law_units" s_law_units := by
    obtain ⟨fd, F⟩ := cd.def_ 32 (d := d_law_units) rfl
    exact ⟨_, fd, F, He.glo_ok X G (cd.fact 32 (f := .glo "_law_units") rfl)⟩
  have D_law_canonical : Dn K mg "_law_canonical" s_law_canonical := by
    obtain ⟨fd, F⟩ := cd.def_ 33 (d := d_law_canonical) rfl
    exact ⟨_, fd, F, He.glo_ok X G (cd.fact 33 (f := .glo "_law_canonical") rfl)⟩
  have D_law_primes : Dn K mg "_law_primes" s_law_primes := by
    obtain ⟨fd, F⟩ := cd.def_ 34 (d := d_law_primes) rfl
    exact ⟨_, fd, F, He.glo_ok X G (cd.fact 34 (f := .glo "_law_primes") rfl)⟩
  have D_law_divides : Dn K mg "_law_divides" s_law_divides := by
    obtain ⟨fd, F⟩ := cd.def_ 35 (d := d_law_divides) rfl
    exact ⟨_, fd, F, He.glo_ok X G (cd.fact 35 (f := .glo "_law_divides") rfl)⟩
  have D_law_is_primitive : Dn K mg "_law_is_primitive" s_law_is_primitive := by
    obtain ⟨fd, F⟩ := cd.def_ 36 (d := d_law_is_primitive) rfl
    exact ⟨_, fd, F, He.glo_ok X G (cd.fact 36 (f := .glo "_law_is_primitive") rfl)⟩
  have D_law_drawn_factors : Dn K mg "_law_drawn_factors" s_law_drawn_factors := by
    obtain ⟨fd, F⟩ := cd.def_ 37 (d := d_law_drawn_factors) rfl
    exact ⟨_, fd, F, He.glo_ok X G (cd.fact 37 (f := .glo "_law_drawn_factors") rfl)⟩
  have D_law_all_product : Dn K mg "_law_all_product" s_law_all_product := by
    obtain ⟨fd, F⟩ := cd.def_ 38 (d := d_law_all_product) rfl
    exact ⟨_, fd, F, He.glo_ok X G (cd.fact 38 (f := .glo "_law_all_product") rfl)⟩
  have D_law_order : Dn K mg "_law_order" s_law_order := by
    obtain ⟨fd, F⟩ := cd.def_ 39 (d := d_law_order) rfl
    exact ⟨_, fd, F, He.glo_ok X G (cd.fact 39 (f := .glo "_law_order") rfl)⟩
  obtain ⟨x1, x⟩ := He.ba c.more
  obtain ⟨x2, x⟩ := He.ba x
  obtain ⟨x3, x⟩ := He.ba x
  obtain ⟨x4, x5⟩ := He.ba x
  have T : Txt K mg := by
    refine { len := He.free_ok X G (cd.fact 46 (f := .free "len") rfl), tuple := He.free_ok X G (cd.fact 47 (f := .free "tuple") rfl), sum := He.free_ok X G (cd.fact 48 (f := .free "sum") rfl), sorted := He.free_ok X G (cd.fact 49 (f := .free "sorted") rfl), max := He.free_ok X G (cd.fact 50 (f := .free "max") rfl), any := He.free_ok X G (cd.fact 51 (f := .free "any") rfl), all := He.free_ok X G (cd.fact 52 (f := .free "all") rfl), abs := He.free_ok X G (cd.fact 53 (f := .free "abs") rfl), int := He.free_ok X G (cd.fact 54 (f := .free "int") rfl), range := He.free_ok X G (cd.fact 55 (f := .free "range") rfl), zip := He.free_ok X G (cd.fact 56 (f := .free "zip") rfl), gcd := PySem.W.mg_of X G (He.eqO_ok x4), factorial := PySem.W.mg_of X G (He.eqO_ok x5), gPARTS := He.int_ok X G (cd.fact 44 (f := .int "PARTS" 4) rfl), gMOST := He.int_ok X G (cd.fact 45 (f := .int "MOST_VALUE" 1000000000000) rfl), gZN := ⟨_, He.glo_ok X G (cd.fact 41 (f := .glo "ZERO_numbers") rfl), fun H => He.tupB_ok x1 H⟩, gONE := ⟨_, He.glo_ok X G (cd.fact 42 (f := .glo "ONE") rfl), fun H => He.tupB_ok x3 H⟩, gZD := ⟨_, He.glo_ok X G (cd.fact 43 (f := .glo "ZERO_dividing") rfl), fun H => He.tupB_ok x2 H⟩ }
  obtain ⟨fd, F⟩ := cd.def_ 40 (d := d_law) rfl
  have e := hfa.symm.trans (He.glo_ok X G (cd.fact 40 (f := .glo "law") rfl))
  cases e
  have b := FunD.bindsA (ps := ["_law_script"]) F fun _ _ _ _ _ _ us hl => match us, hl with | [_], _ => rfl
  refine ⟨fd, fun s v => b s [v] rfl, fun base _ _ => ?_⟩
  exact law_has T D_is_number D_check_number D_check_not_zero D_conjugate D_norm D_less D_product D_units D_associates D_canonical D_content D_is_primitive D_distance_of D_nearest D_check_pair D_divided_left D_left_quotient D_steps_of D_check_some D_left_common D_whole_primes D_prime_list D_check_order D_left_prime D_row_of D_order_count D_law_row D_law_numbers D_law_pick D_law_product D_law_conjugate D_law_norm D_law_units D_law_canonical D_law_primes D_law_divides D_law_is_primitive D_law_drawn_factors D_law_all_product D_law_order F
end TP.W
open PySem PySem.W PySem.Calls PyProof.Rows
theorem PySem.Challenge.cw_turnprimes_k25_whole_orders_holds : PySem.Challenge.rw_turnprimes_k25_whole_orders.Holds := by
  w_on; o_law
  refine HandSHeadRun.head_imp (r := OpenLaw.row PySem.Challenge.rw_turnprimes_k25_whole_orders) (q := view (OpenLaw.row PySem.Challenge.rw_turnprimes_k25_whole_orders).prog [0, 56]) (H := TP.W.hk) (ob := TP.W.ob) (M := 6000) (loose := TP.W.loose) (d := HandSHeadRun.topDef (OpenLaw.row PySem.Challenge.rw_turnprimes_k25_whole_orders).prog 56) (kwd := []) TP.W.ob_eq
    TP.W.run (by kernel_rfl) (by kernel_rfl) (by kernel_rfl) (by rfl) (by first | assumption | decide +kernel) (by decide +kernel) ⟨rfl, rfl, rfl, rfl, rfl, by decide +kernel⟩ ?hw ?hc
  case hw => w_witness2
  case hc =>
    refine L2.walk_ofE (l := PySem.Challenge.rw_turnprimes_k25_whole_orders) (n := 63) (k := 10) (x := "_law_script") (CX := L2.CX0) rfl (by decide) (by kernel_rfl) ⟨rfl, by decide, by decide⟩ ?F (fun _ _ _ _ z => z)
    intro w mg fa h Y G hmg0
    obtain ⟨K, KX, c⟩ := Y
    have hmg : mg ("law" : PySem.Str) = some (.ref fa) := by
      have e : (HandSHeadRun.topDef (OpenLaw.row PySem.Challenge.rw_turnprimes_k25_whole_orders).prog 56).name = ("law" : PySem.Str) := by kernel_rfl
      rw [← e]
      exact hmg0
    obtain ⟨fd, hb, hF⟩ := TP.W.facts (P := (PySem.Challenge.rw_turnprimes_k25_whole_orders).prog) (w := w) KX G hmg c
    exact ⟨K, fd, TP.L.spV K TP.W.pLaw, KX, hb, fun H a ns hl _ hS => ⟨_, _, .cons (.lst hS (TP.L.dps_of_ints ns)) .nil, ⟨ns, rfl, rfl⟩, fun v H' _ dv => TP.L.dp_bl dv⟩, hF⟩
