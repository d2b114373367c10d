import PyProof.Rows.All
import Wide.All
import OpenK.AllK
import Wide.FinOn
import PyProof.ReprRoads
import PyProof.ReprBulk
import KE.KUnpackStar
import HandS.ForMost
import HandS.Defaults
import HandS.MakeKwOnly
import HandS.NoneIn
import HandS.Style
import HandS.TupAny
import HandS.TupMul
import HandS.Rev
import HandS.More
import HandS.IsInst
import HandS.Head0
import HandS.Head1
import HandS.Head2
import HandS.HeadEnd
import HandS.HeadHook1
import HandS.HeadHook2
import HandS.HeadHook3
import HandS.HeadHook4
import PySem.Challenge.RW_numberedpackets_k89_whole_what_a_check_c
set_option Elab.async false
set_option linter.all false
set_option maxRecDepth 100000
set_option maxHeartbeats 0
/-! The mathematics: what the program and the law compute, in plain Lean; no Python in sight. -/
namespace NP
/-! ### numbers in figures -/
/-- figures, the least first -/
def lowF : Int → Nat → List Int
  | _, 0 => []
  | n, k + 1 => (32 + n % 95) :: lowF (n / 95) k
def figs (n : Int) (k : Nat) : List Int := (lowF n k).reverse
def down (n : Int) : Nat → Int
  | 0 => n
  | k + 1 => down n k / 95
theorem down_step (n : Int) : ∀ k, down (n / 95) k = down n (k + 1)
  | 0 => rfl
  | k + 1 => by show down (n / 95) k / 95 = down n (k + 1) / 95; rw [down_step n k]
theorem lowF_snoc (n : Int) : ∀ k, lowF n (k + 1) = lowF n k ++ [32 + down n k % 95]
  | 0 => rfl
  | k + 1 => by
    show (32 + n % 95) :: lowF (n / 95) (k + 1) = (32 + n % 95) :: (lowF (n / 95) k ++ [32 + down n (k + 1) % 95])
    rw [lowF_snoc (n / 95) k, down_step]
theorem lowF_len : ∀ (k : Nat) (n : Int), (lowF n k).length = k
  | 0, _ => rfl
  | k + 1, n => by show (lowF (n / 95) k).length + 1 = k + 1; rw [lowF_len k]
theorem figs_len (n : Int) (k : Nat) : (figs n k).length = k := by unfold figs; rw [List.length_reverse, lowF_len]
theorem figs_succ (n : Int) (k : Nat) : figs n (k + 1) = (32 + down n k % 95) :: figs n k := by
  unfold figs; rw [lowF_snoc, List.reverse_append]; rfl
def Plain (xs : List Int) : Prop := ∀ x ∈ xs, 32 ≤ x ∧ x ≤ 126
theorem lowF_plain : ∀ (k : Nat) (n : Int), Plain (lowF n k)
  | 0, _, x, h => by cases h
  | k + 1, n, x, h => by
    cases h with
    | head => omega
    | tail _ h => exact lowF_plain k (n / 95) x h
theorem figs_plain (n : Int) (k : Nat) : Plain (figs n k) := fun x h => lowF_plain k n x (List.mem_reverse.mp h)
theorem lowF_inj : ∀ (k : Nat) (n m : Int), 0 ≤ n → 0 ≤ m → n < 95 ^ k → m < 95 ^ k → lowF n k = lowF m k → n = m
  | 0, n, m, a, b, c, d, _ => by simp at c d; omega
  | k + 1, n, m, a, b, c, d, h => by
    have h1 : 32 + n % 95 = 32 + m % 95 := (List.cons.inj h).1
    have h2 : lowF (n / 95) k = lowF (m / 95) k := (List.cons.inj h).2
    have e : (95 : Int) ^ (k + 1) = 95 ^ k * 95 := Int.pow_succ ..
    rw [e] at c d
    have := lowF_inj k (n / 95) (m / 95) (by omega) (by omega) (by omega) (by omega) h2
    omega
theorem figs_inj {k : Nat} {n m : Int} (a : 0 ≤ n) (b : 0 ≤ m) (c : n < 95 ^ k) (d : m < 95 ^ k) (h : figs n k = figs m k) : n = m :=
  lowF_inj k n m a b c d (List.reverse_inj.mp h)
/-- the number that figures write -/
def numIn (xs : List Int) : Int := xs.foldl (fun f s => 95 * f + s - 32) 0
theorem numIn_one (x : Int) : numIn [x] = x - 32 := by show 95 * 0 + x - 32 = x - 32; omega
/-! ### folds by places -/
theorem take_at {α : Type} {l : List α} {i : Nat} {x : α} (h : l[i]? = some x) : l.take (i + 1) = l.take i ++ [x] := by
  rw [List.take_add_one, h]; rfl
theorem foldl_at {α β : Type} (f : β → α → β) (b : β) {l : List α} {i : Nat} {x : α} (h : l[i]? = some x) : (l.take (i + 1)).foldl f b = f ((l.take i).foldl f b) x := by
  rw [take_at h, List.foldl_append]; rfl
/-! ### what is left -/
def leftOf (base by_ : Int) (vs : List Int) : Int := vs.foldl (fun f v => (f * base + v) % by_) 0
/-- the number that values write to a base -/
def valB (base : Int) (vs : List Int) : Int := vs.foldl (fun f v => f * base + v) 0
theorem valB_from (base : Int) : ∀ (vs : List Int) (a : Int), vs.foldl (fun f v => f * base + v) a = a * base ^ vs.length + valB base vs
  | [], a => by simp [valB]
  | v :: vs, a => by
    have e1 := valB_from base vs (a * base + v)
    have e2 := valB_from base vs (0 * base + v)
    show vs.foldl (fun f v => f * base + v) (a * base + v) = a * base ^ (vs.length + 1) + vs.foldl (fun f v => f * base + v) (0 * base + v)
    rw [e1, e2, Int.pow_succ, Int.zero_mul, Int.zero_add, Int.add_mul, Int.mul_assoc, Int.mul_comm base, Int.add_assoc]
theorem valB_append (base : Int) (xs ys : List Int) : valB base (xs ++ ys) = valB base xs * base ^ ys.length + valB base ys := by
  unfold valB
  rw [List.foldl_append, valB_from base ys]
  rfl
theorem valB_cons (base v : Int) (xs : List Int) : valB base (v :: xs) = v * base ^ xs.length + valB base xs := by
  show xs.foldl (fun f v => f * base + v) (0 * base + v) = _
  rw [valB_from, Int.zero_mul, Int.zero_add]
theorem leftOf_from (base by_ : Int) : ∀ (vs : List Int) (a : Int), vs.foldl (fun f v => (f * base + v) % by_) (a % by_) = (vs.foldl (fun f v => f * base + v) a) % by_
  | [], a => rfl
  | v :: vs, a => by
    show vs.foldl (fun f v => (f * base + v) % by_) ((a % by_ * base + v) % by_) = (vs.foldl (fun f v => f * base + v) (a * base + v)) % by_
    have e : (a % by_ * base + v) % by_ = (a * base + v) % by_ := by
      rw [Int.add_emod, Int.mul_emod, Int.emod_emod, ← Int.mul_emod, ← Int.add_emod]
    rw [e, leftOf_from base by_ vs (a * base + v)]
theorem leftOf_eq (base by_ : Int) (vs : List Int) : leftOf base by_ vs = valB base vs % by_ := by
  have e := leftOf_from base by_ vs 0
  rw [Int.zero_emod] at e
  exact e
/-! ### a number greater by so much -/
def movedL (base : Int) : List Int → Int → List Int × Int
  | [], c => ([], c)
  | v :: r, c => (((v + c) % base) :: (movedL base r ((v + c) / base)).1, (movedL base r ((v + c) / base)).2)
def lv (base : Int) : List Int → Int
  | [] => 0
  | v :: r => v + base * lv base r
theorem lv_append (base : Int) : ∀ (r s : List Int), lv base (r ++ s) = lv base r + base ^ r.length * lv base s
  | [], s => by simp [lv]
  | v :: r, s => by
    show v + base * lv base (r ++ s) = (v + base * lv base r) + base ^ (r.length + 1) * lv base s
    rw [lv_append base r s, Int.mul_add, Int.pow_succ, Int.add_assoc, ← Int.mul_assoc, Int.mul_comm base (base ^ r.length)]
theorem lv_reverse (base : Int) : ∀ vs : List Int, lv base vs.reverse = valB base vs
  | [] => rfl
  | v :: vs => by
    rw [List.reverse_cons, lv_append, lv_reverse base vs, valB_cons, List.length_reverse]
    show valB base vs + base ^ vs.length * (v + base * 0) = v * base ^ vs.length + valB base vs
    rw [Int.mul_zero, Int.add_zero, Int.mul_comm, Int.add_comm]
theorem movedL_len (base : Int) : ∀ (r : List Int) (c : Int), (movedL base r c).1.length = r.length
  | [], _ => rfl
  | v :: r, c => by show (movedL base r ((v + c) / base)).1.length + 1 = r.length + 1; rw [movedL_len base r]
theorem movedL_lv (base : Int) : ∀ (r : List Int) (c : Int), lv base (movedL base r c).1 + base ^ r.length * (movedL base r c).2 = lv base r + c
  | [], c => by show (0 : Int) + base ^ 0 * c = 0 + c; rw [Int.pow_zero, Int.one_mul]
  | v :: r, c => by
    show ((v + c) % base + base * lv base (movedL base r ((v + c) / base)).1) + base ^ (r.length + 1) * (movedL base r ((v + c) / base)).2 = (v + base * lv base r) + c
    have e := movedL_lv base r ((v + c) / base)
    have e2 : base * lv base (movedL base r ((v + c) / base)).1 + base ^ (r.length + 1) * (movedL base r ((v + c) / base)).2 = base * (lv base r + (v + c) / base) := by
      rw [← e, Int.mul_add, Int.pow_succ, Int.mul_comm (base ^ r.length) base, Int.mul_assoc]
    have e3 := Int.emod_add_mul_ediv (v + c) base
    rw [Int.add_assoc, e2, Int.mul_add]
    omega
theorem movedL_range {base : Int} (hb : 0 < base) : ∀ (r : List Int) (c : Int), ∀ x ∈ (movedL base r c).1, 0 ≤ x ∧ x < base
  | [], _, x, h => by cases h
  | v :: r, c, x, h => by
    cases h with
    | head => exact ⟨Int.emod_nonneg _ (by omega), Int.emod_lt_of_pos _ hb⟩
    | tail _ h => exact movedL_range hb r _ x h
/-- one sign more of the list walked -/
theorem movedL_snoc (base : Int) : ∀ (r : List Int) (v c : Int), movedL base (r ++ [v]) c = ((movedL base r c).1 ++ [(v + (movedL base r c).2) % base], (v + (movedL base r c).2) / base)
  | [], v, c => rfl
  | u :: r, v, c => by
    show (((u + c) % base) :: (movedL base (r ++ [v]) ((u + c) / base)).1, (movedL base (r ++ [v]) ((u + c) / base)).2) = _
    rw [movedL_snoc base r v]
    rfl
def moved (base : Int) (vs : List Int) (c : Int) : Option (List Int) := if (movedL base vs.reverse c).2 ≠ 0 then none else some (movedL base vs.reverse c).1.reverse
theorem moved_some {base : Int} (hb : 0 < base) {vs ws : List Int} {c : Int} (h : moved base vs c = some ws) : ws.length = vs.length ∧ (∀ x ∈ ws, 0 ≤ x ∧ x < base) ∧ valB base ws = valB base vs + c := by
  unfold moved at h
  by_cases z : (movedL base vs.reverse c).2 = 0
  · rw [if_neg (by simpa using z)] at h
    have e := (Option.some.inj h).symm
    subst e
    refine ⟨by rw [List.length_reverse, movedL_len, List.length_reverse], fun x hx => movedL_range hb _ _ x (List.mem_reverse.mp hx), ?_⟩
    have q := movedL_lv base vs.reverse c
    rw [z, Int.mul_zero, Int.add_zero, lv_reverse] at q
    rw [← q, ← lv_reverse, List.reverse_reverse]
  · rw [if_pos z] at h
    cases h
def near (base : Int) (vs : List Int) (c : Int) : Option (List Int) := match moved base vs c with
  | none => moved base vs (-c)
  | some ws => some ws
theorem near_some {base : Int} (hb : 0 < base) {vs ws : List Int} {c : Int} (h : near base vs c = some ws) : ws.length = vs.length ∧ (∀ x ∈ ws, 0 ≤ x ∧ x < base) ∧ (valB base ws = valB base vs + c ∨ valB base ws = valB base vs - c) := by
  unfold near at h
  cases e : moved base vs c with
  | some us =>
    rw [e] at h
    have e2 := Option.some.inj h
    subst e2
    obtain ⟨a, b, d⟩ := moved_some hb e
    exact ⟨a, b, .inl d⟩
  | none =>
    rw [e] at h
    obtain ⟨a, b, d⟩ := moved_some hb h
    exact ⟨a, b, .inr (by rw [d]; omega)⟩
/-! ### checks -/
def md (k : Int) : Int := if k = 1 then 95 else if k = 2 then 9013 else 857369
def Kind (k : Int) : Prop := k = 1 ∨ k = 2 ∨ k = 3
def vals (xs : List Int) : List Int := xs.map (· - 32)
def tot (k : Int) (row : List Int) : Int := if k = 1 then (vals row).sum % 95 else leftOf 95 (md k) (vals row)
def chk (k : Int) (row : List Int) : List Int := figs (tot k row) k.toNat
/-- what a row weighs -/
def num (k : Int) (row : List Int) : Int := if k = 1 then (vals row).sum else valB 95 (vals row)
theorem tot_eq {k : Int} (hk : Kind k) (row : List Int) : tot k row = num k row % md k := by
  rcases hk with rfl | rfl | rfl
  · rfl
  · show leftOf 95 (md 2) (vals row) = valB 95 (vals row) % md 2; exact leftOf_eq ..
  · show leftOf 95 (md 3) (vals row) = valB 95 (vals row) % md 3; exact leftOf_eq ..
theorem md_pos (k : Int) : 0 < md k := by unfold md; split <;> (try split) <;> decide
theorem tot_range {k : Int} (hk : Kind k) (row : List Int) : 0 ≤ tot k row ∧ tot k row < 95 ^ k.toNat := by
  rw [tot_eq hk]
  have a := Int.emod_nonneg (num k row) (b := md k) (by have := md_pos k; omega)
  have b := Int.emod_lt_of_pos (num k row) (md_pos k)
  refine ⟨a, ?_⟩
  have c : md k ≤ 95 ^ k.toNat := by rcases hk with rfl | rfl | rfl <;> decide
  omega
theorem chk_len (k : Int) (row : List Int) : (chk k row).length = k.toNat := figs_len ..
theorem chk_plain (k : Int) (row : List Int) : Plain (chk k row) := fun x h => figs_plain _ _ x h
theorem chk_inj {k : Int} (hk : Kind k) {r s : List Int} (h : chk k r = chk k s) : num k r % md k = num k s % md k := by
  rw [← tot_eq hk, ← tot_eq hk]
  exact figs_inj (tot_range hk r).1 (tot_range hk s).1 (tot_range hk r).2 (tot_range hk s).2 h
theorem chk_of {k : Int} (hk : Kind k) {r s : List Int} (h : num k r % md k = num k s % md k) : chk k r = chk k s := by
  unfold chk
  rw [tot_eq hk, tot_eq hk, h]
/-- the law's own reckoning -/
def lawStep (k t s : Int) : Int := if k = 1 then (t + s - 32) % 95 else (95 * t + s - 32) % md k
theorem law_tot {k : Int} (hk : Kind k) (row : List Int) : row.foldl (lawStep k) 0 = tot k row := by
  by_cases h : k = 1
  · subst h
    have q : ∀ (row : List Int) (a : Int), row.foldl (lawStep 1) (a % 95) = (a + (vals row).sum) % 95 := by
      intro row
      induction row with
      | nil => intro a; show a % 95 = (a + 0) % 95; rw [Int.add_zero]
      | cons s row ih =>
        intro a
        show row.foldl (lawStep 1) ((a % 95 + s - 32) % 95) = (a + ((s - 32) + (vals row).sum)) % 95
        have e : (a % 95 + s - 32) % 95 = (a + s - 32) % 95 := by omega
        rw [e, ih]
        congr 1
        omega
    have e := q row 0
    rw [Int.zero_add] at e
    exact e
  · have q : ∀ (row : List Int) (a : Int), row.foldl (lawStep k) a = (vals row).foldl (fun f v => (f * 95 + v) % md k) a := by
      intro row
      induction row with
      | nil => intro a; rfl
      | cons s row ih =>
        intro a
        show row.foldl (lawStep k) (lawStep k a s) = (vals row).foldl _ ((a * 95 + (s - 32)) % md k)
        have e : lawStep k a s = (a * 95 + (s - 32)) % md k := by
          unfold lawStep; rw [if_neg h, Int.mul_comm 95 a, Int.add_sub_assoc]
        rw [e, ih]
    unfold tot
    rw [if_neg h]
    exact q row 0
theorem vals_append (xs ys : List Int) : vals (xs ++ ys) = vals xs ++ vals ys := List.map_append ..
theorem vals_len (xs : List Int) : (vals xs).length = xs.length := List.length_map ..
theorem num1_append (xs ys : List Int) : num 1 (xs ++ ys) = num 1 xs + num 1 ys := by
  show (vals (xs ++ ys)).sum = (vals xs).sum + (vals ys).sum
  rw [vals_append, List.sum_append]
theorem num_append {k : Int} (h : k ≠ 1) (xs ys : List Int) : num k (xs ++ ys) = num k xs * 95 ^ ys.length + num k ys := by
  unfold num
  rw [if_neg h, if_neg h, if_neg h, vals_append, valB_append, vals_len]
/-- rows that part behind a head alone -/
theorem num_head {k : Int} (hd xs ys : List Int) (hl : xs.length = ys.length) : num k (hd ++ xs) - num k (hd ++ ys) = num k xs - num k ys := by
  by_cases h : k = 1
  · subst h; rw [num1_append, num1_append]; omega
  · rw [num_append h, num_append h, hl]; omega
theorem same_iff {k : Int} (hk : Kind k) (hd xs ys : List Int) (hl : xs.length = ys.length) : chk k (hd ++ xs) = chk k (hd ++ ys) ↔ (num k xs - num k ys) % md k = 0 := by
  have e := num_head (k := k) hd xs ys hl
  constructor
  · intro h
    rw [← e]
    exact Int.emod_eq_emod_iff_emod_sub_eq_zero.mp (chk_inj hk h)
  · intro h
    rw [← e] at h
    exact chk_of hk (Int.emod_eq_emod_iff_emod_sub_eq_zero.mpr h)
/-- two rows that part at one place, or two neighbouring ones -/
theorem num_mid1 (pre a b post : List Int) : num 1 (pre ++ a ++ post) - num 1 (pre ++ b ++ post) = num 1 a - num 1 b := by
  rw [num1_append, num1_append, num1_append, num1_append]; omega
theorem num_mid {k : Int} (h : k ≠ 1) (pre a b post : List Int) (hl : a.length = b.length) : num k (pre ++ a ++ post) - num k (pre ++ b ++ post) = (num k a - num k b) * 95 ^ post.length := by
  rw [num_append h (pre ++ a), num_append h (pre ++ b), num_append h pre a, num_append h pre b, hl, Int.sub_mul]
  have := Int.add_mul (num k pre * 95 ^ b.length) (num k a) (95 ^ post.length)
  have := Int.add_mul (num k pre * 95 ^ b.length) (num k b) (95 ^ post.length)
  omega
/-- 95 and the modulus have no common part -/
theorem cop {k : Int} (h : k = 2 ∨ k = 3) : ∀ (j : Nat) (d : Int), (d * 95 ^ j) % md k = 0 → d % md k = 0
  | 0, d, e => by rw [Int.pow_zero, Int.mul_one] at e; exact e
  | j + 1, d, e => by
    rw [Int.pow_succ, Int.mul_comm (95 ^ j), ← Int.mul_assoc] at e
    have e1 := cop h j (d * 95) e
    rcases h with rfl | rfl
    · show d % 9013 = 0
      have : (d * 95) % 9013 = 0 := e1
      omega
    · show d % 857369 = 0
      have : (d * 95) % 857369 = 0 := e1
      omega
theorem num_one {k x : Int} : num k [x] = x - 32 := by
  unfold num
  split
  · show (x - 32) + 0 = x - 32; omega
  · show 0 * 95 + (x - 32) = x - 32; omega
theorem num_two {k x y : Int} (h : k ≠ 1) : num k [x, y] = 95 * (x - 32) + (y - 32) := by
  unfold num
  rw [if_neg h]
  show (0 * 95 + (x - 32)) * 95 + (y - 32) = _
  omega
/-- a sign so much greater, round -/
def more (s b : Int) : Int := 32 + (s - 32 + b) % 95
theorem more_plain (s b : Int) : 32 ≤ more s b ∧ more s b ≤ 126 := by unfold more; omega
/-! ### what a check can't miss -/
/-- one sign otherwise -/
theorem see_one {k : Int} (hk : Kind k) (hd pre post : List Int) {x y : Int} (hx : 32 ≤ x ∧ x ≤ 126) (hy : 32 ≤ y ∧ y ≤ 126) (hne : x ≠ y) : chk k (hd ++ (pre ++ [x] ++ post)) ≠ chk k (hd ++ (pre ++ [y] ++ post)) := by
  intro h
  have e := (same_iff hk hd _ _ (by simp)).mp h
  by_cases h1 : k = 1
  · subst h1
    rw [num_mid1, num_one, num_one] at e
    have : (x - 32 - (y - 32)) % 95 = 0 := e
    omega
  · have hk2 : k = 2 ∨ k = 3 := by rcases hk with h | h | h <;> simp_all
    rw [num_mid h1 pre [x] [y] post rfl] at e
    have e2 := cop hk2 _ _ e
    rw [num_one, num_one] at e2
    rcases hk2 with rfl | rfl
    · have : (x - 32 - (y - 32)) % 9013 = 0 := e2
      omega
    · have : (x - 32 - (y - 32)) % 857369 = 0 := e2
      omega
/-- two neighbours exchanged -/
theorem see_cross {k : Int} (hk : k = 2 ∨ k = 3) (hd pre post : List Int) {x y : Int} (hx : 32 ≤ x ∧ x ≤ 126) (hy : 32 ≤ y ∧ y ≤ 126) (hne : x ≠ y) : chk k (hd ++ (pre ++ [y, x] ++ post)) ≠ chk k (hd ++ (pre ++ [x, y] ++ post)) := by
  intro h
  have h1 : k ≠ 1 := by rcases hk with rfl | rfl <;> decide
  have e := (same_iff (by rcases hk with h | h; exact .inr (.inl h); exact .inr (.inr h)) hd _ _ (by simp)).mp h
  rw [num_mid h1 pre [y, x] [x, y] post rfl] at e
  have e2 := cop hk _ _ e
  rw [num_two h1, num_two h1] at e2
  rcases hk with rfl | rfl
  · have : (95 * (y - 32) + (x - 32) - (95 * (x - 32) + (y - 32))) % 9013 = 0 := e2
    omega
  · have : (95 * (y - 32) + (x - 32) - (95 * (x - 32) + (y - 32))) % 857369 = 0 := e2
    omega
/-- two neighbouring ones otherwise, kind 3 -/
theorem see_beside (hd pre post : List Int) {x y u v : Int} (hx : 32 ≤ x ∧ x ≤ 126) (hy : 32 ≤ y ∧ y ≤ 126) (hu : 32 ≤ u ∧ u ≤ 126) (hv : 32 ≤ v ∧ v ≤ 126) (hne : x ≠ u) : chk 3 (hd ++ (pre ++ [x, y] ++ post)) ≠ chk 3 (hd ++ (pre ++ [u, v] ++ post)) := by
  intro h
  have e := (same_iff (.inr (.inr rfl)) hd _ _ (by simp)).mp h
  rw [num_mid (by decide) pre [x, y] [u, v] post rfl] at e
  have e2 := cop (.inr rfl) _ _ e
  rw [num_two (by decide), num_two (by decide)] at e2
  have e3 : (95 * (x - 32) + (y - 32) - (95 * (u - 32) + (v - 32))) % 857369 = 0 := e2
  have b1 : 95 * (x - 32) + (y - 32) - (95 * (u - 32) + (v - 32)) < 857369 := by omega
  have b2 : -857369 < 95 * (x - 32) + (y - 32) - (95 * (u - 32) + (v - 32)) := by omega
  have b3 : 95 * (x - 32) + (y - 32) - (95 * (u - 32) + (v - 32)) ≠ 0 := by omega
  generalize 95 * (x - 32) + (y - 32) - (95 * (u - 32) + (v - 32)) = z at e3 b1 b2 b3
  omega
/-! ### the twin -/
def twinSum : List Int → Option (List Int)
  | a :: b :: r => some ((a + 1) % 95 :: (b - 1) % 95 :: r)
  | _ => none
def signs (vs : List Int) : List Int := vs.map (32 + ·)
def twin (k : Int) (xs : List Int) : Option (List Int) := (if k = 1 then twinSum (vals xs) else near 95 (vals xs) (md k)).map signs
theorem vals_signs (vs : List Int) : vals (signs vs) = vs := by
  unfold vals signs
  rw [List.map_map]
  conv => rhs; rw [← List.map_id vs]
  apply List.map_congr_left
  intro x _
  show 32 + x - 32 = x
  omega
theorem signs_len (vs : List Int) : (signs vs).length = vs.length := List.length_map ..
theorem vals_plain {xs : List Int} (h : Plain xs) : ∀ v ∈ vals xs, 0 ≤ v ∧ v < 95 := by
  intro v hv
  obtain ⟨x, hx, rfl⟩ := List.mem_map.mp hv
  have := h x hx
  omega
theorem signs_plain {vs : List Int} (h : ∀ v ∈ vs, 0 ≤ v ∧ v < 95) : Plain (signs vs) := by
  intro x hx
  obtain ⟨v, hv, rfl⟩ := List.mem_map.mp hx
  have := h v hv
  omega
theorem num_signs1 (vs : List Int) : num 1 (signs vs) = vs.sum := by show (vals (signs vs)).sum = _; rw [vals_signs]
theorem num_signs {k : Int} (h : k ≠ 1) (vs : List Int) : num k (signs vs) = valB 95 vs := by unfold num; rw [if_neg h, vals_signs]
/-- the twin is another row of the same length and check -/
theorem twin_ok {k : Int} (hk : Kind k) (hd : List Int) {xs ys : List Int} (hp : Plain xs) (h : twin k xs = some ys) : ys.length = xs.length ∧ Plain ys ∧ ys ≠ xs ∧ chk k (hd ++ ys) = chk k (hd ++ xs) := by
  unfold twin at h
  by_cases h1 : k = 1
  · subst h1
    rw [if_pos rfl] at h
    match xs, hp, h with
    | [], _, h => cases h
    | [a], _, h => cases h
    | a :: b :: r, hp, h =>
      have e : signs ((a - 32 + 1) % 95 :: (b - 32 - 1) % 95 :: vals r) = ys := Option.some.inj h
      subst e
      have ha := hp a (.head _)
      have hb := hp b (.tail _ (.head _))
      have hr : ∀ v ∈ vals r, 0 ≤ v ∧ v < 95 := vals_plain fun x hx => hp x (.tail _ (.tail _ hx))
      have hpl : ∀ v ∈ (a - 32 + 1) % 95 :: (b - 32 - 1) % 95 :: vals r, 0 ≤ v ∧ v < 95 := by
        intro v hv
        cases hv with
        | head => omega
        | tail _ hv =>
          cases hv with
          | head => omega
          | tail _ hv => exact hr v hv
      have hl : (signs ((a - 32 + 1) % 95 :: (b - 32 - 1) % 95 :: vals r)).length = (a :: b :: r).length := by
        rw [signs_len]; show (vals r).length + 1 + 1 = r.length + 1 + 1; rw [vals_len]
      refine ⟨hl, signs_plain hpl, ?_, ?_⟩
      · intro q
        have q1 : 32 + (a - 32 + 1) % 95 = a := (List.cons.inj q).1
        omega
      · refine (same_iff (.inl rfl) hd _ _ hl).mpr ?_
        rw [num_signs1]
        show ((a - 32 + 1) % 95 + ((b - 32 - 1) % 95 + (vals r).sum) - ((a - 32) + ((b - 32) + (vals r).sum))) % 95 = 0
        omega
  · rw [if_neg h1] at h
    cases e : near 95 (vals xs) (md k) with
    | none => rw [e] at h; exact nomatch h
    | some ws =>
      rw [e] at h
      have e2 : signs ws = ys := Option.some.inj h
      subst e2
      obtain ⟨a, b, c⟩ := near_some (by decide) e
      have hl : (signs ws).length = xs.length := by rw [signs_len, a, vals_len]
      have hn : num k (signs ws) - num k xs = md k ∨ num k (signs ws) - num k xs = - md k := by
        rw [num_signs h1]
        have : num k xs = valB 95 (vals xs) := by unfold num; rw [if_neg h1]
        rw [this]
        omega
      have hpos := md_pos k
      refine ⟨hl, signs_plain b, ?_, (same_iff hk hd _ _ hl).mpr ?_⟩
      · intro q
        rw [q] at hn
        omega
      · rcases hn with q | q
        · rw [q, Int.emod_self]
        · rw [q, Int.neg_emod_self]
end NP
namespace NP
/-! ### the scanner as a plain machine -/
def lets : List Int := [79, 80, 69, 70, 65, 83, 68, 90, 66, 89, 78]
def opens : List Int := [79, 80, 69]
def markOf (c : Int) : Int := if c ∈ opens then 2 else 1
def letterOf (s mark : Int) : Option Int := lets.find? fun c => decide (c = s) && decide (markOf c = mark)
structure Sc where
  kind : Int
  fed : Int
  at_ : Option Int
  mark : Int
  chk : Int
  sg : List Int
inductive Ev where
  | bad (at_ : Int)
  | good (num let_ : Int) (data : List Int) (at_ : Int)
def close (S : Sc) : Sc := { S with at_ := none }
def begun (S : Sc) (mark : Int) : Sc := { S with at_ := some S.fed, mark := mark, chk := if mark = 2 then 1 else S.kind, sg := [] }
def rowOf (S : Sc) : List Int := S.sg.take (S.sg.length - S.chk.toNat)
def read (S : Sc) : Option (Int × Int × List Int) :=
  match letterOf ((rowOf S).getD 3 0) S.mark with
  | none => none
  | some c => if 63 < numIn (((rowOf S).drop 2).take 1) then none else if chk S.chk (rowOf S) ≠ S.sg.drop (S.sg.length - S.chk.toNat) then none
    else some (numIn (((rowOf S).drop 2).take 1), c, (rowOf S).drop 4)
def at0 (S : Sc) : Int := S.at_.getD 0
def toldOf (S : Sc) : Option (Int × Int × List Int) → Ev
  | none => .bad (at0 S)
  | some p => .good p.1 p.2.1 p.2.2 (at0 S)
def known (S : Sc) : List Ev × Sc :=
  if S.sg.length = 2 ∧ (numIn (S.sg.take 1) + numIn (S.sg.drop 1) ≠ 94 ∨ numIn (S.sg.take 1) < 2 + S.chk) then ([.bad (at0 S)], close S)
  else if S.sg.length < 2 ∨ (S.sg.length : Int) < 2 + numIn (S.sg.take 1) then ([], S)
  else ([toldOf S (read S)], close S)
def later (S : Sc) : Sc := { S with fed := S.fed + 1 }
def more1 (S : Sc) (s : Int) : Sc := { S with sg := S.sg ++ [s] }
def stepS (S : Sc) (s : Int) : List Ev × Sc :=
  if s = 1 ∨ s = 2 then (if S.at_.isSome then [.bad (at0 S)] else [], later (begun S s))
  else if (32 ≤ s ∧ s ≤ 126) ∧ S.at_.isSome then ((known (more1 S s)).1, later (known (more1 S s)).2)
  else ([], later S)
def feedS : Sc → List Int → List Ev × Sc
  | S, [] => ([], S)
  | S, s :: r => ((stepS S s).1 ++ (feedS (stepS S s).2 r).1, (feedS (stepS S s).2 r).2)
theorem feed_append : ∀ (xs ys : List Int) (S : Sc), feedS S (xs ++ ys) = ((feedS S xs).1 ++ (feedS (feedS S xs).2 ys).1, (feedS (feedS S xs).2 ys).2)
  | [], ys, S => rfl
  | x :: xs, ys, S => by
    simp only [List.cons_append, feedS, feed_append xs ys, List.append_assoc]
theorem feed_snoc (S : Sc) (xs : List Int) (x : Int) : feedS S (xs ++ [x]) = ((feedS S xs).1 ++ (stepS (feedS S xs).2 x).1, (stepS (feedS S xs).2 x).2) := by
  rw [feed_append]
  show (_ ++ ((stepS (feedS S xs).2 x).1 ++ []), _) = _
  rw [List.append_nil]
  rfl
theorem feed_at (S : Sc) {xs : List Int} {i : Nat} {x : Int} (h : xs[i]? = some x) : feedS S (xs.take (i + 1)) = ((feedS S (xs.take i)).1 ++ (stepS (feedS S (xs.take i)).2 x).1, (stepS (feedS S (xs.take i)).2 x).2) := by
  rw [take_at h, feed_snoc]
/-- what holds of a scanner between two signs -/
structure OkS (S : Sc) : Prop where
  kd : Kind S.kind
  ck : Kind S.chk
  pl : Plain S.sg
  len : S.sg.length ≤ 100
  size : S.at_.isSome = true → 2 ≤ S.sg.length → 2 + S.chk ≤ numIn (S.sg.take 1) ∧ (S.sg.length : Int) < 2 + numIn (S.sg.take 1)
theorem one_plain {xs : List Int} (h : Plain xs) (hl : 1 ≤ xs.length) : 0 ≤ numIn (xs.take 1) ∧ numIn (xs.take 1) ≤ 94 := by
  match xs, h, hl with
  | x :: r, h, _ =>
    have := h x (.head _)
    rw [show (x :: r).take 1 = [x] from rfl, numIn_one]
    omega
theorem kind_pos {k : Int} (h : Kind k) : 1 ≤ k ∧ k ≤ 3 := by rcases h with rfl | rfl | rfl <;> decide
theorem OkS.later {S : Sc} (h : OkS S) : OkS (later S) := ⟨h.kd, h.ck, h.pl, h.len, h.size⟩
theorem OkS.close {S : Sc} (h : OkS S) : OkS (close S) := ⟨h.kd, h.ck, h.pl, h.len, fun q => by cases q⟩
theorem OkS.begun {S : Sc} (h : OkS S) (m : Int) : OkS (begun S m) := by
  refine ⟨h.kd, ?_, fun x hx => (by cases hx), Nat.zero_le _, fun _ q => absurd q (by decide : ¬ 2 ≤ ([] : List Int).length)⟩
  show Kind (if m = 2 then 1 else S.kind)
  split
  · exact .inl rfl
  · exact h.kd
/-- where read is come to there is enough to read -/
theorem known_room {S : Sc} (h1 : ¬ (S.sg.length = 2 ∧ (numIn (S.sg.take 1) + numIn (S.sg.drop 1) ≠ 94 ∨ numIn (S.sg.take 1) < 2 + S.chk)))
    (h2 : ¬ (S.sg.length < 2 ∨ (S.sg.length : Int) < 2 + numIn (S.sg.take 1))) (hq : 3 ≤ S.sg.length → 2 + S.chk ≤ numIn (S.sg.take 1)) : 4 + S.chk ≤ S.sg.length := by
  have a : 2 ≤ S.sg.length := by omega
  by_cases b : S.sg.length = 2
  · have : ¬ numIn (S.sg.take 1) < 2 + S.chk := fun q => h1 ⟨b, .inr q⟩
    omega
  · have := hq (by omega)
    omega
theorem more_size {S : Sc} (h : OkS S) (ho : S.at_.isSome = true) (s : Int) : 3 ≤ (more1 S s).sg.length → 2 + (more1 S s).chk ≤ numIn ((more1 S s).sg.take 1) := by
  intro hl
  have e : (S.sg ++ [s]).length = S.sg.length + 1 := by simp
  have hl' : 3 ≤ (S.sg ++ [s]).length := hl
  have h2 : 2 ≤ S.sg.length := by omega
  have := (h.size ho h2).1
  show 2 + S.chk ≤ numIn ((S.sg ++ [s]).take 1)
  rw [List.take_append_of_le_length (by omega)]
  exact this
theorem known_ok {S : Sc} (h : OkS S) (ho : S.at_.isSome = true) {s : Int} (hs : 32 ≤ s ∧ s ≤ 126) : OkS (known (more1 S s)).2 := by
  have hl : (S.sg ++ [s]).length = S.sg.length + 1 := by simp
  have hp : Plain (S.sg ++ [s]) := by
    intro x hx
    rcases (List.mem_append.mp hx) with hx | hx
    · exact h.pl x hx
    · rw [List.mem_singleton] at hx; subst hx; exact hs
  have hn : (S.sg ++ [s]).length ≤ 100 := by
    by_cases q : 2 ≤ S.sg.length
    · have := (h.size ho q).2
      have := (one_plain h.pl (by omega)).2
      omega
    · omega
  have hc : OkS (NP.close (more1 S s)) := ⟨h.kd, h.ck, hp, hn, fun q => by cases q⟩
  have sz := more_size h ho s
  unfold known
  by_cases h1 : (more1 S s).sg.length = 2 ∧ (numIn ((more1 S s).sg.take 1) + numIn ((more1 S s).sg.drop 1) ≠ 94 ∨ numIn ((more1 S s).sg.take 1) < 2 + (more1 S s).chk)
  · rw [if_pos h1]
    exact hc
  · rw [if_neg h1]
    by_cases h2 : (more1 S s).sg.length < 2 ∨ ((more1 S s).sg.length : Int) < 2 + numIn ((more1 S s).sg.take 1)
    · rw [if_pos h2]
      refine ⟨h.kd, h.ck, hp, hn, fun _ q => ?_⟩
      have q : 2 ≤ (more1 S s).sg.length := q
      show 2 + (more1 S s).chk ≤ numIn ((more1 S s).sg.take 1) ∧ ((more1 S s).sg.length : Int) < 2 + numIn ((more1 S s).sg.take 1)
      by_cases b : (more1 S s).sg.length = 2
      · have : ¬ numIn ((more1 S s).sg.take 1) < 2 + (more1 S s).chk := fun q => h1 ⟨b, .inr q⟩
        exact ⟨by omega, by omega⟩
      · exact ⟨sz (by omega), by omega⟩
    · rw [if_neg h2]
      exact hc
theorem step_ok {S : Sc} (h : OkS S) (s : Int) : OkS (stepS S s).2 := by
  unfold stepS
  split
  · exact (h.begun s).later
  · split
    · rename_i q
      exact (known_ok h q.2 q.1).later
    · exact h.later
theorem feed_ok : ∀ (xs : List Int) {S : Sc}, OkS S → OkS (feedS S xs).2
  | [], _, h => h
  | x :: xs, _, h => feed_ok xs (step_ok h x)
/-! ### what is told -/
theorem feed_trash : ∀ (xs : List Int) (S : Sc), S.at_ = none → (∀ x ∈ xs, x ≠ 1 ∧ x ≠ 2) → feedS S xs = ([], { S with fed := S.fed + xs.length })
  | [], S, _, _ => by show ([], S) = _; rw [show ((([] : List Int).length : Nat) : Int) = 0 from rfl, Int.add_zero]
  | x :: xs, S, h, hx => by
    have e : stepS S x = ([], later S) := by
      unfold stepS
      have hx1 := hx x (.head _)
      rw [if_neg (by omega), if_neg (by rw [h]; rintro ⟨_, q⟩; cases q)]
    show ((stepS S x).1 ++ (feedS (stepS S x).2 xs).1, (feedS (stepS S x).2 xs).2) = _
    rw [e, feed_trash xs (later S) h (fun y hy => hx y (.tail _ hy))]
    show (_, _) = (_, _)
    congr 1
    show Sc.mk S.kind (S.fed + 1 + (xs.length : Int)) _ _ _ _ = Sc.mk S.kind (S.fed + ((xs.length + 1 : Nat) : Int)) _ _ _ _
    congr 1
    omega
/-- signs amid a packet -/
theorem feed_mid : ∀ (xs : List Int) (S : Sc), S.at_.isSome = true → 2 ≤ S.sg.length → Plain xs → (S.sg.length : Int) + xs.length < 2 + numIn (S.sg.take 1) → feedS S xs = ([], { S with fed := S.fed + xs.length, sg := S.sg ++ xs })
  | [], S, _, _, _, _ => by
    show ([], S) = _
    rw [show ((([] : List Int).length : Nat) : Int) = 0 from rfl, Int.add_zero, List.append_nil]
  | x :: xs, S, ho, h2, hp, hl => by
    have hx := hp x (.head _)
    have hl1 : ((x :: xs).length : Int) = xs.length + 1 := by simp
    have hl2 : (S.sg ++ [x]).length = S.sg.length + 1 := by simp
    have ht : (S.sg ++ [x]).take 1 = S.sg.take 1 := List.take_append_of_le_length (by omega)
    have ek : known (more1 S x) = ([], more1 S x) := by
      unfold known
      have e1 : (more1 S x).sg = S.sg ++ [x] := rfl
      rw [e1, ht, hl2]
      rw [if_neg (by omega), if_pos (by right; omega)]
    have e : stepS S x = ([], later (more1 S x)) := by
      unfold stepS
      rw [if_neg (by omega), if_pos ⟨hx, ho⟩, ek]
    show ((stepS S x).1 ++ (feedS (stepS S x).2 xs).1, (feedS (stepS S x).2 xs).2) = _
    have ih := feed_mid xs (later (more1 S x)) ho (show 2 ≤ (S.sg ++ [x]).length by omega) (fun y hy => hp y (.tail _ hy))
      (by show ((S.sg ++ [x]).length : Int) + xs.length < 2 + numIn ((S.sg ++ [x]).take 1); rw [ht, hl2]; omega)
    rw [e, ih]
    show (_, _) = (_, _)
    congr 1
    show Sc.mk S.kind (S.fed + 1 + (xs.length : Int)) _ _ _ (S.sg ++ [x] ++ xs) = Sc.mk S.kind (S.fed + ((x :: xs).length : Int)) _ _ _ (S.sg ++ x :: xs)
    rw [List.append_assoc, hl1]
    congr 1
    omega
/-- the written packet but its check -/
def body (k n c : Int) (ds : List Int) : List Int := [32 + (2 + ds.length + k), 126 - (2 + ds.length + k), 32 + n, c] ++ ds
def kOf (by_ c : Int) : Int := if c ∈ opens then 1 else by_
theorem lets_plain {c : Int} (h : c ∈ lets) : 32 ≤ c ∧ c ≤ 126 := by
  unfold lets at h
  simp at h
  omega
theorem letterOf_own {c : Int} (h : c ∈ lets) : letterOf c (markOf c) = some c := by
  unfold lets at h
  simp at h
  rcases h with rfl | rfl | rfl | rfl | rfl | rfl | rfl | rfl | rfl | rfl | rfl <;> decide
theorem markOf_is (c : Int) : markOf c = 1 ∨ markOf c = 2 := by unfold markOf; split; exact .inr rfl; exact .inl rfl
theorem feed_pack {S : Sc} {k n c : Int} {ds tl : List Int} (hc : S.at_ = none) (hk : Kind k) (ek : k = kOf S.kind c) (hn : 0 ≤ n ∧ n ≤ 63) (hcl : c ∈ lets) (hd : Plain ds) (ht : Plain tl) (hl : tl.length = k.toNat) (hs : 2 + (ds.length : Int) + k ≤ 94) :
    (feedS S (markOf c :: (body k n c ds ++ tl))).1 = [if chk k (body k n c ds) = tl then .good n c ds S.fed else .bad S.fed] ∧
    (feedS S (markOf c :: (body k n c ds ++ tl))).2.at_ = none ∧ (feedS S (markOf c :: (body k n c ds ++ tl))).2.kind = S.kind ∧
    (feedS S (markOf c :: (body k n c ds ++ tl))).2.fed = S.fed + (markOf c :: (body k n c ds ++ tl)).length := by
  obtain ⟨k1, k3⟩ := kind_pos hk
  have hkl : (tl.length : Int) = k := by omega
  -- the last sign apart
  obtain ⟨md_, z, emz⟩ : ∃ md_ z, [32 + n, c] ++ ds ++ tl = md_ ++ [z] := by
    have hne : [32 + n, c] ++ ds ++ tl ≠ [] := by simp
    exact ⟨_, _, (List.dropLast_concat_getLast hne).symm⟩
  have eb : body k n c ds ++ tl = (32 + (2 + (ds.length : Int) + k)) :: (126 - (2 + (ds.length : Int) + k)) :: (md_ ++ [z]) := by
    rw [← emz]; unfold body; simp
  have hml : md_.length + 1 = 2 + ds.length + tl.length := by
    have := congrArg List.length emz
    simp at this
    omega
  have hpz : Plain (md_ ++ [z]) := by
    rw [← emz]
    intro x hx
    simp at hx
    rcases hx with rfl | rfl | hx | hx
    · omega
    · exact lets_plain hcl
    · exact hd x hx
    · exact ht x hx
  have hz := hpz z (by simp)
  have hpm : Plain md_ := fun x hx => hpz x (by simp [hx])
  -- the mark
  let S1 : Sc := { S with fed := S.fed + 1, at_ := some S.fed, mark := markOf c, chk := k, sg := [] }
  have e1 : stepS S (markOf c) = ([], S1) := by
    unfold stepS
    rw [if_pos (by have := markOf_is c; omega), hc]
    show ([], later (begun S (markOf c))) = _
    congr 1
    show Sc.mk S.kind (S.fed + 1) (some S.fed) (markOf c) (if markOf c = 2 then 1 else S.kind) [] = Sc.mk _ _ _ _ k []
    congr 1
    rw [ek]
    unfold kOf markOf
    by_cases h : c ∈ opens
    · rw [if_pos h, if_pos h, if_pos rfl]
    · rw [if_neg h, if_neg h, if_neg (by decide)]
  -- the size
  let S2 : Sc := { S1 with fed := S.fed + 1 + 1, sg := [32 + (2 + (ds.length : Int) + k)] }
  have e2 : stepS S1 (32 + (2 + (ds.length : Int) + k)) = ([], S2) := by
    unfold stepS
    rw [if_neg (by omega), if_pos ⟨by omega, rfl⟩]
    have : known (more1 S1 (32 + (2 + (ds.length : Int) + k))) = ([], more1 S1 (32 + (2 + (ds.length : Int) + k))) := by
      unfold known
      rw [if_neg (by show ¬ (1 = 2 ∧ _); omega), if_pos (.inl (by show 1 < 2; omega))]
    rw [this]
    rfl
  -- 94 less it
  let S3 : Sc := { S1 with fed := S.fed + 1 + 1 + 1, sg := [32 + (2 + (ds.length : Int) + k), 126 - (2 + (ds.length : Int) + k)] }
  have e3 : stepS S2 (126 - (2 + (ds.length : Int) + k)) = ([], S3) := by
    unfold stepS
    rw [if_neg (by omega), if_pos ⟨by omega, rfl⟩]
    have : known (more1 S2 (126 - (2 + (ds.length : Int) + k))) = ([], more1 S2 (126 - (2 + (ds.length : Int) + k))) := by
      unfold known
      have a1 : (more1 S2 (126 - (2 + (ds.length : Int) + k))).sg.take 1 = [32 + (2 + (ds.length : Int) + k)] := rfl
      have a2 : (more1 S2 (126 - (2 + (ds.length : Int) + k))).sg.drop 1 = [126 - (2 + (ds.length : Int) + k)] := rfl
      have a3 : (more1 S2 (126 - (2 + (ds.length : Int) + k))).sg.length = 2 := rfl
      have a4 : (more1 S2 (126 - (2 + (ds.length : Int) + k))).chk = k := rfl
      rw [a1, a2, a3, a4, numIn_one, numIn_one, if_neg (by omega), if_pos (by right; omega)]
    rw [this]
    rfl
  -- the middle
  have e4 := feed_mid md_ S3 rfl (Nat.le_refl 2) hpm (by
    show ((2 : Nat) : Int) + md_.length < 2 + numIn [32 + (2 + (ds.length : Int) + k)]
    rw [numIn_one]
    omega)
  let S4 : Sc := { S3 with fed := S3.fed + md_.length, sg := S3.sg ++ md_ }
  have hfull : S4.sg ++ [z] = body k n c ds ++ tl := by
    rw [eb]; show ([_, _] ++ md_) ++ [z] = _; simp
  have hbl : (body k n c ds).length = 4 + ds.length := by unfold body; simp; omega
  -- the last one
  have e5 : stepS S4 z = ([if chk k (body k n c ds) = tl then .good n c ds S.fed else .bad S.fed], later (NP.close (more1 S4 z))) := by
    unfold stepS
    rw [if_neg (by omega), if_pos ⟨hz, rfl⟩]
    have f1 : (more1 S4 z).sg = body k n c ds ++ tl := hfull
    have f2 : (body k n c ds ++ tl).length = 4 + ds.length + tl.length := by rw [List.length_append, hbl]
    have f3 : (body k n c ds ++ tl).take 1 = [32 + (2 + (ds.length : Int) + k)] := rfl
    have f4 : rowOf (more1 S4 z) = body k n c ds := by
      unfold rowOf
      rw [f1, f2]
      show (body k n c ds ++ tl).take (4 + ds.length + tl.length - k.toNat) = _
      rw [show 4 + ds.length + tl.length - k.toNat = (body k n c ds).length by rw [hbl]; omega, List.take_left]
    have f5 : (more1 S4 z).sg.drop ((more1 S4 z).sg.length - (more1 S4 z).chk.toNat) = tl := by
      rw [f1, f2]
      show (body k n c ds ++ tl).drop (4 + ds.length + tl.length - k.toNat) = _
      rw [show 4 + ds.length + tl.length - k.toNat = (body k n c ds).length by rw [hbl]; omega, List.drop_left]
    have f6 : toldOf (more1 S4 z) (read (more1 S4 z)) = if chk k (body k n c ds) = tl then .good n c ds S.fed else .bad S.fed := by
      unfold read
      rw [f4, f5]
      have g1 : (body k n c ds).getD 3 0 = c := rfl
      have g2 : ((body k n c ds).drop 2).take 1 = [32 + n] := rfl
      have g3 : (body k n c ds).drop 4 = ds := rfl
      have g4 : (more1 S4 z).mark = markOf c := rfl
      have g5 : (more1 S4 z).chk = k := rfl
      rw [g1, g2, g3, g4, g5, letterOf_own hcl, numIn_one]
      show toldOf _ (if 63 < 32 + n - 32 then none else _) = _
      rw [if_neg (by omega)]
      by_cases h : chk k (body k n c ds) = tl
      · rw [if_pos h, if_neg (by simpa using h), show 32 + n - 32 = n by omega]
        rfl
      · rw [if_neg h, if_pos h]
        rfl
    have : known (more1 S4 z) = ([if chk k (body k n c ds) = tl then .good n c ds S.fed else .bad S.fed], NP.close (more1 S4 z)) := by
      unfold known
      rw [f6, f1, f2, f3, numIn_one, if_neg (by omega), if_neg (by omega)]
    rw [this]
  have all : feedS S (markOf c :: (body k n c ds ++ tl)) = ([if chk k (body k n c ds) = tl then .good n c ds S.fed else .bad S.fed], later (NP.close (more1 S4 z))) := by
    rw [eb]
    show ((stepS S (markOf c)).1 ++ _, _) = _
    rw [e1]
    show ([] ++ ((stepS S1 _).1 ++ (feedS (stepS S1 _).2 _).1), (feedS (stepS S1 _).2 _).2) = _
    rw [e2]
    show ([] ++ ([] ++ ((stepS S2 _).1 ++ (feedS (stepS S2 _).2 _).1)), (feedS (stepS S2 _).2 _).2) = _
    rw [e3]
    show ([] ++ ([] ++ ([] ++ (feedS S3 (md_ ++ [z])).1)), (feedS S3 (md_ ++ [z])).2) = _
    rw [feed_snoc, e4]
    show ([] ++ ([] ++ ([] ++ ([] ++ (stepS S4 z).1))), (stepS S4 z).2) = _
    rw [e5]
    rfl
  rw [all]
  refine ⟨rfl, rfl, rfl, ?_⟩
  show S.fed + 1 + 1 + 1 + (md_.length : Int) + 1 = _
  rw [eb]
  simp
  omega
/-- trash, a packet whose data may be others, a packet -/
theorem feed_three {S : Sc} {tr : List Int} {k n c k2 n2 c2 : Int} {ds tl ds2 : List Int} (ok : OkS S) (hc : S.at_ = none) (htr : ∀ x ∈ tr, x ≠ 1 ∧ x ≠ 2)
    (ek : k = kOf S.kind c) (hn : 0 ≤ n ∧ n ≤ 63) (hcl : c ∈ lets) (hd : Plain ds) (ht : Plain tl) (hl : tl.length = k.toNat) (hs : 2 + (ds.length : Int) + k ≤ 94)
    (ek2 : k2 = kOf S.kind c2) (hn2 : 0 ≤ n2 ∧ n2 ≤ 63) (hcl2 : c2 ∈ lets) (hd2 : Plain ds2) (hs2 : 2 + (ds2.length : Int) + k2 ≤ 94) :
    (feedS S (tr ++ (markOf c :: (body k n c ds ++ tl)) ++ (markOf c2 :: (body k2 n2 c2 ds2 ++ chk k2 (body k2 n2 c2 ds2))))).1 =
      [if chk k (body k n c ds) = tl then .good n c ds (S.fed + tr.length) else .bad (S.fed + tr.length), .good n2 c2 ds2 (S.fed + tr.length + (markOf c :: (body k n c ds ++ tl)).length)] ∧
    (feedS S (tr ++ (markOf c :: (body k n c ds ++ tl)) ++ (markOf c2 :: (body k2 n2 c2 ds2 ++ chk k2 (body k2 n2 c2 ds2))))).2.at_ = none ∧
    (feedS S (tr ++ (markOf c :: (body k n c ds ++ tl)) ++ (markOf c2 :: (body k2 n2 c2 ds2 ++ chk k2 (body k2 n2 c2 ds2))))).2.kind = S.kind := by
  have kk : ∀ c, Kind (kOf S.kind c) := fun c => by unfold kOf; split; exact .inl rfl; exact ok.kd
  rw [feed_append, feed_append, feed_trash tr S hc htr]
  have a := feed_pack (S := { S with fed := S.fed + tr.length }) (k := k) (tl := tl) hc (ek ▸ kk c) ek hn hcl hd ht hl hs
  obtain ⟨a1, a2, a3, a4⟩ := a
  have b := feed_pack (S := (feedS { S with fed := S.fed + tr.length } (markOf c :: (body k n c ds ++ tl))).2) (k := k2) (tl := chk k2 (body k2 n2 c2 ds2)) a2 (ek2 ▸ kk c2) (by rw [a3]; exact ek2) hn2 hcl2 hd2 (chk_plain _ _) (chk_len _ _) hs2
  obtain ⟨b1, b2, b3, b4⟩ := b
  refine ⟨?_, b2, by rw [b3, a3]⟩
  show ([] ++ _) ++ _ = _
  rw [a1, b1, if_pos rfl, a4]
  rfl
end NP
namespace NP
open PySem L2 PySem.Spec PyProof.Rows
/-! ### heaps that grow -/
/-- behind a deed: what stood and is not of W stands, tuples and locked things stand anyhow, nothing goes -/
structure Kp (W : Addr → Prop) (H H' : Hp) : Prop where
  keep : ∀ b o, H b = some o → ¬ W b → H' b = some o
  tup : ∀ b xs, H b = some (.tup xs) → H' b = some (.tup xs)
  frz : ∀ b o u, H b = some (.frz o u) → H' b = some (.frz o u)
  there : ∀ b, H b ≠ none → H' b ≠ none
abbrev No : Addr → Prop := fun _ => False
theorem Kp.refl {W : Addr → Prop} (H : Hp) : Kp W H H := ⟨fun _ _ e _ => e, fun _ _ e => e, fun _ _ _ e => e, fun _ e => e⟩
theorem Kp.trans {W : Addr → Prop} {H H1 H2 : Hp} (a : Kp W H H1) (b : Kp W H1 H2) : Kp W H H2 :=
  ⟨fun c o e n => b.keep c o (a.keep c o e n) n, fun c xs e => b.tup c xs (a.tup c xs e), fun c o u e => b.frz c o u (a.frz c o u e), fun c e => b.there c (a.there c e)⟩
theorem Kp.mono {W W' : Addr → Prop} {H H' : Hp} (a : Kp W H H') (h : ∀ b, W b → W' b) : Kp W' H H' :=
  ⟨fun c o e n => a.keep c o e fun q => n (h c q), a.tup, a.frz, a.there⟩
theorem Kp.no {W : Addr → Prop} {H H' : Hp} (a : Kp No H H') : Kp W H H' := a.mono fun _ q => q.elim
theorem Kp.free {W : Addr → Prop} {H H' : Hp} (a : Kp W H H') {p : Addr} (h : H' p = none) : H p = none := by
  cases e : H p with
  | none => rfl
  | some o => exact absurd h (a.there p (by rw [e]; simp))
theorem Kp.new {W : Addr → Prop} {H : Hp} {p : Addr} (o : HO) (n : H p = none) : Kp W H (upd H p o) := by
  refine ⟨fun b u e _ => ?_, fun b xs e => ?_, fun b u v e => ?_, fun b e => ?_⟩
  · rw [upd_ne (ne_of_none e n)]; exact e
  · rw [upd_ne (ne_of_none e n)]; exact e
  · rw [upd_ne (ne_of_none e n)]; exact e
  · by_cases h : b = p
    · subst h; rw [upd_same]; simp
    · rw [upd_ne h]; exact e
def isMut : HO → Bool
  | .lst _ => true
  | .ins _ _ _ => true
  | _ => false
theorem Kp.put {W : Addr → Prop} {H : Hp} {p : Addr} {o : HO} (u : HO) (h : H p = some o) (m : isMut o = true) (w : W p) : Kp W H (upd H p u) := by
  refine ⟨fun b v e n => ?_, fun b xs e => ?_, fun b x v e => ?_, fun b e => ?_⟩
  · rw [upd_ne (fun q => n (by rw [q]; exact w))]; exact e
  · rw [upd_ne (fun q => by rw [q, h] at e; cases e; cases m)]; exact e
  · rw [upd_ne (fun q => by rw [q, h] at e; cases e; cases m)]; exact e
  · by_cases q : b = p
    · subst q; rw [upd_same]; simp
    · rw [upd_ne q]; exact e
theorem Kp.seqT {W : Addr → Prop} {K : PySem.W.Frag} {H H' : Hp} {a : Addr} {xs : List V} (k : Kp W H H') (h : SqT K H a xs) : SqT K H' a xs := by
  rcases h with (h | ⟨ob, h⟩) | h
  · exact .inl (.inl (k.tup _ _ h))
  · exact .inl (.inr ⟨ob, k.frz _ _ _ h⟩)
  · exact .inr h
theorem Kp.seqL {W : Addr → Prop} {K : PySem.W.Frag} {H H' : Hp} {a : Addr} {xs : List V} (k : Kp W H H') (n : ¬ W a) (h : SqL K H a xs) : SqL K H' a xs := by
  rcases h with (h | ⟨ob, h⟩) | h
  · exact .inl (.inl (k.keep _ _ h n))
  · exact .inl (.inr ⟨ob, k.frz _ _ _ h⟩)
  · exact .inr h
abbrev IL (xs : List Int) : List V := xs.map V.int
theorem il_at {xs : List Int} {i : Nat} {y : V} (h : (IL xs)[i]? = some y) : ∃ n, xs[i]? = some n ∧ y = .int n := by
  rw [List.getElem?_map] at h
  cases e : xs[i]? with
  | none => rw [e] at h; exact nomatch h
  | some n => rw [e] at h; exact ⟨n, rfl, (Option.some.inj h).symm⟩
theorem il_len (xs : List Int) : (IL xs).length = xs.length := List.length_map ..
theorem upd_keep {H : Hp} {p b : Addr} {o u : HO} (np : H p = none) (h : H b = some o) : upd H p u b = some o := by rw [upd_ne (ne_of_none h np)]; exact h
/-! ### what is handed back: a new tuple, a new list -/
def RTup (xs : List V) (H : Hp) (Q : VK) : Prop := ∀ p H', Kp No H H' → H' p = some (.tup xs) → Q (.ref p) H'
def RLst (xs : List V) (H : Hp) (Q : VK) : Prop := ∀ p H', Kp No H H' → H p = none → H' p = some (.lst xs) → Q (.ref p) H'
/-! ### names of the module -/
section
variable {X : Cx} {x : Str} {pos : Pos}
theorem pe_gi {i : Int} (hg : Gl X x) (h : ∃ t, X.mg x = some (.int i t)) (hd : (x == ("__debug__" : Str)) = false := by decide) : PE X (.Name x pos) (tC (.int i)) := by
  obtain ⟨tk, at_⟩ := h
  exact pe_glob hg at_ ⟨tk, rfl⟩ hd
theorem pe_gt {a : Addr} (hg : Gl X x) (h : X.mg x = some (.ref a)) (hd : (x == ("__debug__" : Str)) = false := by decide) : PE X (.Name x pos) (tC (.ref a)) := pe_glob hg h rfl hd
end
theorem b_len : bootBuiltins "len" = some (.builtin "len") := by decide +kernel
theorem b_divmod : bootBuiltins "divmod" = some (.builtin "divmod") := by decide +kernel
theorem b_sum : bootBuiltins "sum" = some (.builtin "sum") := by decide +kernel
theorem b_abs : bootBuiltins "abs" = some (.builtin "abs") := by decide +kernel
theorem b_ord : bootBuiltins "ord" = some (.builtin "ord") := by decide +kernel
theorem b_repr : bootBuiltins "repr" = some (.builtin "repr") := by decide +kernel
theorem b_isinstance : bootBuiltins "isinstance" = some (.builtin "isinstance") := by decide +kernel
theorem b_tuple : bootBuiltins "tuple" = some (.type "tuple") := by decide +kernel
theorem b_int : bootBuiltins "int" = some (.type "int") := by decide +kernel
theorem b_list : bootBuiltins "list" = some (.type "list") := by decide +kernel
/-! ### defs that may be called -/
section
variable (P : Program) (w : World) (K : PySem.W.Frag) (mg : Str → Option Value) (base : Heap)
/-- by their names, all parameters written -/
structure Cal (k : Nat) (x : Str) (sp : Sp) : Prop where
  ex : ∃ (f : Addr) (fd : FuncData) (ps : List Str), FnOk P w K mg base CX0 k f fd ps sp ∧ mg x = some (.ref f) ∧ PySem.W.keepIn K (.ref f) = true ∧ Binds K fd ps []
/-- with keywords behind n written ones -/
structure CalK (k n : Nat) (ks : List Str) (x : Str) (sp : Sp) : Prop where
  ex : ∃ (f : Addr) (fd : FuncData) (ps : List Str) (g : List Value → List Value → List Value), FnOk P w K mg base CX0 k f fd ps sp ∧ mg x = some (.ref f) ∧ PySem.W.keepIn K (.ref f) = true ∧ KBn K fd ps n ks g (fun vs zs => vs ++ zs)
/-- a class made by keywords alone -/
structure MakK (k : Nat) (ks : List Str) (x : Str) (C : Addr) (sp : Sp) : Prop where
  ex : ∃ (f : Addr) (fd : FuncData) (ps : List Str) (g : List Value → List Value → List Value), Mk K C f ∧ FnOk P w K mg base CX0 k f fd ps sp ∧ mg x = some (.ref C) ∧ KBn K fd ps 1 ks g (fun vs zs => vs ++ zs)
/-- a method -/
structure Met (k : Nat) (C : Addr) (m : Str) (sp : Sp) : Prop where
  ex : ∃ (f : Addr) (fd : FuncData) (ps : List Str), Cls K C ∧ Meth K C m f ∧ FnOk P w K mg base CX0 k f fd ps sp ∧ Binds K fd ps []
end
section
variable {X : Cx} {j k n : Nat} {ks : List Str} {x m : Str} {C : Addr} {sp : Sp} {p pos apos : Pos} {e o : Expr} {es : List Expr} {kws : List Keyword} {ta : TE} {t tk : TA}
theorem pe_cc (c : Cal X.prog X.w X.K X.mg X.base k x sp) (hr : Room j X.A) (hk : k ≤ j) (hg : Gl X x) (ha : PA X (e :: es) t) (noDebug : (x == ("__debug__" : Str)) = false := by decide)
    (oneMore : starEach (e :: es) X.env = (false, eval e X.env) :: starEach es X.env := by rfl) (noStars : (backTo pos (starEach es X.env)).any (·.1) = false := by rfl) :
    PE X (.Call (.Name x p) (e :: es) [] pos) (tCall sp [] E0 t) := by
  obtain ⟨f, fd, ps, F, hm, kp, hb⟩ := c.ex
  exact pe_call F (hr.mono hk) hg hm kp hb .nil pass0 ha noDebug oneMore noStars
theorem pe_ck (c : CalK X.prog X.w X.K X.mg X.base k n ks x sp) (hr : Room j X.A) (hk : k ≤ j) (hg : Gl X x) (ha : PA X (e :: es) t) (hkw : PK X kws tk)
    (allNamed : (backToKw pos (keywordEach kws X.env)).all (·.1.isSome) = true := by rfl) (sameNames : (backToKw pos (keywordEach kws X.env)).filterMap (·.1) = ks := by rfl) (noDebug : (x == ("__debug__" : Str)) = false := by decide)
    (oneMore : starEach (e :: es) X.env = (false, eval e X.env) :: starEach es X.env := by rfl)
    (noStars : ((backTo pos (starEach (e :: es) X.env)).any (·.1) || (backToKw pos (keywordEach kws X.env)).any (·.1.isNone)) = false := by rfl) :
    PE X (.Call (.Name x p) (e :: es) kws pos) (tCallN n ks.length sp (fun vs zs => vs ++ zs) E0 t tk) := by
  obtain ⟨f, fd, ps, g, F, hm, kp, hb⟩ := c.ex
  exact pe_callN F (hr.mono hk) hg hm kp hb pass0 ha hkw allNamed sameNames noDebug oneMore noStars
theorem pe_mkk (c : MakK X.prog X.w X.K X.mg X.base k ks x C sp) (hr : Room j X.A) (hk : k + 1 ≤ j) (hg : Gl X x) (hkw : PK X kws tk)
    (allNamed : (backToKw pos (keywordEach kws X.env)).all (·.1.isSome) = true := by rfl) (sameNames : (backToKw pos (keywordEach kws X.env)).filterMap (·.1) = ks := by rfl) (noDebug : (x == ("__debug__" : Str)) = false := by decide)
    (noStars : ((backTo pos (starEach [] X.env)).any (·.1) || (backToKw pos (keywordEach kws X.env)).any (·.1.isNone)) = false := by rfl) :
    PE X (.Call (.Name x p) [] kws pos) (tMakeK C 0 ks.length sp (fun vs zs => vs ++ zs) E0 tNil tk) := by
  obtain ⟨f, fd, ps, g, M, F, hm, hb⟩ := c.ex
  exact pe_makeK0 M F (hr.mono hk) hg hm hb pass0 hkw allNamed sameNames noDebug noStars
theorem pe_mm {pl : Sem Bool} (c : Met X.prog X.w X.K X.mg X.base k C m sp) (hr : Room j X.A) (hk : k ≤ j) (he : PE X o ta) (ha : PA X (e :: es) t)
    (oneMore : starEach (e :: es) X.env = (false, eval e X.env) :: starEach es X.env := by rfl) (noStars : (backTo pos (starEach es X.env)).any (·.1) = false := by rfl)
    (reads : eval (.Call (.Attribute o m apos) (e :: es) [] pos) X.env = (do let ov ← eval o X.env; standAt apos.atName; let (f, first) ← holding [ov] (getMethod ov m pl); callWith pos f first (backTo pos (starEach (e :: es) X.env)) (backToKw pos (keywordEach [] X.env))) := by rfl) :
    PE X (.Call (.Attribute o m apos) (e :: es) [] pos) (tMeth C m sp [] E0 ta t) := by
  obtain ⟨f, fd, ps, cl, me, F, hb⟩ := c.ex
  exact pe_meth he cl me F (hr.mono hk) hb .nil pass0 ha oneMore noStars reads
theorem pe_mm0 {pl : Sem Bool} (c : Met X.prog X.w X.K X.mg X.base k C m sp) (hr : Room j X.A) (hk : k ≤ j) (he : PE X o ta)
    (ht : eval (.Call (.Attribute o m apos) [] [] pos) X.env = (do let ov ← eval o X.env; standAt apos.atName; let (f, first) ← holding [ov] (getMethod ov m pl); callWith pos f first (backTo pos (starEach [] X.env)) (backToKw pos (keywordEach [] X.env))) := by rfl) :
    PE X (.Call (.Attribute o m apos) [] [] pos) (tMeth C m sp [] E0 ta tNil) := by
  obtain ⟨f, fd, ps, cl, me, F, hb⟩ := c.ex
  exact pe_meth0 he cl me F (hr.mono hk) hb .nil pass0 ht
end
/-! ### a, b, *c = a list -/
section
variable {X : Cx} {pos : Pos}
def gStar (K : PySem.W.Frag) (g1 g2 g3 : TG) : TG := fun v σ H Q => ∃ a x y zs, v = .ref a ∧ SqL K H a (x :: y :: zs) ∧ zs.length ≤ 1000 ∧ ∀ p, H p = none → g1 x σ (upd H p (.lst zs)) fun σ1 H1 => g2 y σ1 H1 fun σ2 H2 => g3 (.ref p) σ2 H2 Q
theorem pg_star {e1 e2 e3 : Expr} {p3 : Pos} {k : Nat} {g1 g2 g3 : TG} (h1 : PG X e1 g1) (h2 : PG X e2 g2) (h3 : PG X e3 g3) (hc : X.calm = true := by rfl)
    (hn : (assignEach [e1, e2, .Starred e3 p3] X.env) = [(false, assign e1 X.env), (false, assign e2 X.env), (true, assign e3 X.env)] := by rfl) : PG X (.Tuple [e1, e2, .Starred e3 p3] k pos) (gStar X.K g1 g2 g3) := by
  refine ⟨fun pins s σ H v u Q inv r hw => ?_⟩
  obtain ⟨a, x, y, zs, rfl, hq, hz, hw⟩ := hw
  cases r
  obtain ⟨its, rv, pl, _⟩ := inv.list hq
  have hh := inv.ok.hd hc
  have hl : s.heap.IsList a its.toArray := by obtain ⟨o, m, e, c, d, q⟩ := pl; exact ⟨o, e, c, m, q⟩
  have hsz : its.toArray.size = zs.length + 2 := by
    rw [List.size_toArray, ← rv.length]; rfl
  rw [PyProof.Rows.assign_Tuple]; refine wpAny_bind (wpAny_standAt ?_)
  unfold unpack
  rw [hn]
  have aLt : a < s.heap.objs.size := by obtain ⟨o, ho, _⟩ := hl; exact Heap.lt_size ho
  have aNe : a ≠ s.heap.objs.size := Nat.ne_of_lt aLt
  -- the items, drawn and collected
  have items : ∀ Q' : List Value → Shared → Prop, (∀ (h2 : Heap) (tk : Nat), (∀ b o, s.heap.get? b = some o → h2.get? b = some o) → Q' (its.take 2 ++ [Value.ref h2.objs.size]) { s with heap := h2.push { cls := .type "list", data := .seq (its.drop 2).toArray }, toks := tk }) →
      wpAny (model X.prog X.w) X.A (unpackItems (.ref a) 3 (some 2)) Q' X.xe s := by
    intro Q' hQ
    have tk2 : (its.take 2).length = 2 := by rw [List.length_take]; rw [List.size_toArray] at hsz; omega
    unfold unpackItems notIterableAtAll
    refine wpAny_bind (wpAny_bind (wpAny_specialOf hl.typeIs slot_list_iter.lookup (wpAny_pure ?_)))
    simp only [if_false, Bool.false_eq_true]
    refine wpAny_bind (wpAny_holding (wpAny_pyIter_list hl (wpAny_bind (wpAny_holding (PySem.W.kun_draw aNe 2 0 _ _ ⟨_, Heap.get?_push_size _ rfl, rfl, rfl⟩ (hl.push _) (by omega) fun g hit same => ?_)))))
    have hl1 : g.IsList a its.toArray := (hl.push _).extBut same.extBut aNe
    have hit0 := hit
    obtain ⟨oi, hoi, _⟩ := hit0
    have hl0 := hl1
    obtain ⟨ol, hol, _⟩ := hl0
    show wpAny _ _ (if (its.take 2).length < 2 then _ else _) _ _ _
    rw [if_neg (by omega)]
    refine wpAny_bind (wpAny_holding (PySem.W.kun_collect (s := { s with heap := g }) (T := "list_iterator") (.inr (.inr (.inl rfl))) (Walks.list (A := X.A.in1) hh s.heap.objs.size a aNe its.toArray) (fun j u st => st.1.typeIs) (k := 2) (by omega) ⟨hit, hl1⟩
      (Heap.lt_size hoi) (Heap.lt_size hol) (fun h2 tk hk => ?_) (by rw [sizeLine_eq]; omega)))
    show wpAny _ _ (if (its.drop 2).length < 0 then _ else _) _ _ _
    rw [if_neg (Nat.not_lt_zero _)]
    have e1 : (its.drop 2).take (its.drop 2).length = its.drop 2 := List.take_length
    have e2 : (its.drop 2).drop (its.drop 2).length = [] := List.drop_length
    show wpAny _ _ (newList ((its.drop 2).take ((its.drop 2).length - 0)) >>= fun d => pure (its.take 2 ++ [d] ++ (its.drop 2).drop ((its.drop 2).length - 0))) _ _ _
    rw [Nat.sub_zero, e1, e2]
    refine wpAny_bind (wpAny_newList (s := { s with heap := h2, toks := tk }) (wpAny_pure ?_) (by rw [List.length_drop, sizeLine_eq]; rw [List.size_toArray] at hsz; omega))
    rw [List.append_nil]
    exact hQ h2 tk fun b o e => hk b o (Nat.ne_of_lt (Heap.lt_size e)) (same.extBut b o (Nat.ne_of_lt (Heap.lt_size e)) (Heap.get?_push_of_some _ e))
  show wpAny _ _ (holding [Value.ref a] (unpackItems (.ref a) 3 (some 2)) >>= fun us => assignInOrder [assign e1 X.env, assign e2 X.env, assign e3 X.env] us) _ _ _
  refine wpAny_bind (wpAny_holding (items _ fun hp tk hk => ?_))
  have I1 : Inv X pins σ H { s with heap := hp, toks := tk } := inv.kept hk
  have r3 : Vals zs (its.drop 2) := rv.drop 2
  have I2 := I1.lnew (its := its.drop 2) (t' := tk) r3 (by rw [sizeLine_eq]; omega)
  have hfree : H hp.objs.size = none := I1.fresh
  cases rv with
  | cons r1 rv =>
    cases rv with
    | cons r2 rv =>
      refine assignInOrder_cons (thn (h1.run pins _ σ _ _ _ _ I2 r1 (hw _ hfree)) fun _ s3 ⟨σ3, H3, I3, q3⟩ => ?_)
      refine assignInOrder_cons (thn (h2.run pins s3 σ3 H3 _ _ _ I3 r2 q3) fun _ s4 ⟨σ4, H4, I4, q4⟩ => ?_)
      exact assignInOrder_cons (thn (h3.run pins s4 σ4 H4 (.ref hp.objs.size) _ _ I4 rfl q4) fun _ s5 ⟨σ5, H5, I5, q5⟩ => wpAny_pure ⟨σ5, H5, I5, q5⟩)
end
/-! ### the module's table of moduli -/
def ByAt (K : PySem.W.Frag) (a : Addr) : Prop := ∃ (t1 t2 t3 u1 u2 u3 : Tok) (n : Nat), K.lookup a = some ⟨.type "dict", none, .dict #[⟨hashInt 1, .int 1 t1, .int 95 u1⟩, ⟨hashInt 2, .int 2 t2, .int 9013 u2⟩, ⟨hashInt 3, .int 3 t3, .int 857369 u3⟩] n, #[]⟩
def tBy (tk : TE) : TE := fun σ H Q => tk σ H fun y H1 => ∃ k, y = .int k ∧ Kind k ∧ Q (.int (md k)) H1
section
variable {X : Cx} {pos ppos : Pos} {x : Str} {e : Expr} {te : TE}
theorem pe_by (hg : Gl X x) (g : ∃ a, X.mg x = some (.ref a) ∧ ByAt X.K a) (he : PE X e te) (hs : NoSl e := by exact fun _ _ => rfl) (hd : (x == ("__debug__" : Str)) = false := by decide) : PE X (.Subscript (.Name x ppos) e pos) (tBy te) := by
  obtain ⟨a, hm, t1, t2, t3, u1, u2, u3, n, hK⟩ := g
  refine ⟨fun pins s σ H Q inv h => ?_⟩
  have mp : ∀ {s' : Shared} {σ' : L2.St} {H' : Hp}, Inv X pins σ' H' s' → s'.heap.MapOf (intKind X.prog X.w) a (fun k => findBy Value.isInt #[⟨hashInt 1, .int 1 t1, .int 95 u1⟩, ⟨hashInt 2, .int 2 t2, .int 9013 u2⟩, ⟨hashInt 3, .int 3 t3, .int 857369 u3⟩] k) := fun J =>
    ⟨_, _, n, J.kIn _ _ hK, ⟨rfl, rfl, rfl⟩, rfl, fun e he => by
      simp at he
      rcases he with rfl | rfl | rfl
      · exact ⟨1, rfl, rfl⟩
      · exact ⟨2, rfl, rfl⟩
      · exact ⟨3, rfl, rfl⟩, fun _ => rfl⟩
  refine subD_of PySem.F.slot_dict_getitem.lookup hs (ld_glob inv hg hm (thn (he.run pins s σ H _ inv h) fun iv s2 ⟨y, H2, I2, ry, k, ey, hk, q⟩ => ⟨(mp I2).typeIs, ?_⟩) hd)
  subst ey
  obtain ⟨t, rfl⟩ := ry
  rcases hk with rfl | rfl | rfl
  · exact wpAny_getItem_of (knd := intKind X.prog X.w) (k := (1 : Int)) rfl (mp I2) rfl ⟨.int 95, H2, I2.tok _, ⟨_, rfl⟩, q⟩
  · exact wpAny_getItem_of (knd := intKind X.prog X.w) (k := (2 : Int)) rfl (mp I2) rfl ⟨.int 9013, H2, I2.tok _, ⟨_, rfl⟩, q⟩
  · exact wpAny_getItem_of (knd := intKind X.prog X.w) (k := (3 : Int)) rfl (mp I2) rfl ⟨.int 857369, H2, I2.tok _, ⟨_, rfl⟩, q⟩
end
/-! ### repr of data -/
section
variable {X : Cx}
theorem call_reprD (hg : X.A.guards = some []) (hu : X.A.units + 64 < cLine) : CallR X (.builtin "repr") (fun xs H Q => ∃ a d, xs = [.ref a] ∧ Dp X.K H (.ref a) d ∧ d.showable = true ∧ d.hasDict = false ∧ d.depth ≤ 60 ∧ d.shown.length ≤ sizeLine ∧ Q (.str d.shown) H) := by
  intro pins s σ H xs us Q inv rx h
  obtain ⟨a, d, rfl, hd, hs, hn, hz, hl, q⟩ := h
  obtain rfl := rx.ref1
  obtain ⟨as, r⟩ := Dp.reads inv d (.ref a) (.ref a) hd rfl
  exact repr_of_reads' r hs (fun e => by rw [hn] at e; cases e) hg (by omega) (fun b o e => e) (fun h' u tk hk => ⟨.str d.shown, H, inv.kept hk, ⟨_, rfl⟩, q⟩) hl
end
/-! ### tuple * int, any number -/
section
theorem tup_mul_one (l : Addr) (items : Array Value) (n : Nat) (dd : Option Addr) (sl : Array (Option Value)) (u : Tok) :
    Meets (Builtin.«tuple.__mul__» ⟨[.ref l, .int 1 u], []⟩) (fun _ R s => s.heap.get? l = some { cls := .type "tuple", dict := dd, data := .seq items n, slots := sl } ∧ R (.ok (.ret (.ref l))) s) :=
  .of_wp fun _ _ _ _ st hyp => by
    obtain ⟨hp, gs, dr, tk, os⟩ := st
    obtain ⟨laid, hyp⟩ := hyp
    have f1 := AutoSeq1.idx_int
    wp_walk using wpAny_loadPart' laid
    exact ⟨_, rfl, hyp⟩
theorem tup_mul_nil (l : Addr) (items : Array Value) (n : Nat) (dd : Option Addr) (sl : Array (Option Value)) (u : Tok) :
    Meets (Builtin.«tuple.__mul__» ⟨[.ref l, .int 0 u], []⟩) (fun _ R s => s.heap.get? l = some { cls := .type "tuple", dict := dd, data := .seq items n, slots := sl } ∧ items.isEmpty = false ∧
      R (.ok (.ret (.ref s.heap.objs.size))) { s with heap := s.heap.push { cls := .type "tuple", data := .seq #[] } }) :=
  .of_wp fun _ _ _ _ st hyp => by
    obtain ⟨hp, gs, dr, tk, os⟩ := st
    obtain ⟨laid, he, hyp⟩ := hyp
    have f1 := AutoSeq1.idx_int
    wp_walk using wpAny_loadPart' laid
    exact ⟨_, rfl, hyp⟩
/-- a tuple that isn't empty, as many times as an int from 0 to 1000 says -/
def rRepA (K : PySem.W.Frag) : R2 := fun x y H Q => ∃ l k xs, x = .ref l ∧ y = .int k ∧ SqT K H l xs ∧ xs ≠ [] ∧ 0 ≤ k ∧ k ≤ 1000 ∧ xs.length ≤ 1000 ∧ (k = 1 → Q (.ref l) H) ∧ (k ≠ 1 → ∀ p, H p = none → Q (.ref p) (upd H p (.tup (List.replicate k.toNat xs).flatten)))
variable {X : Cx}
theorem op_repA : OpR X (binaryOp .Mult) (rRepA X.K) := by
  intro pins s σ H x y v u Q inv rx ry h
  obtain ⟨l, k, xs, rfl, rfl, hT, hne, h0, h2, hz, q1, q2⟩ := h
  by_cases big : 2 ≤ k
  · exact op_repT pins s σ H (.ref l) (.int k) v u Q inv rx ry ⟨l, k, xs, rfl, rfl, hT, hne, big, h2, hz, q2 (by omega)⟩
  · cases rx
    obtain ⟨t, rfl⟩ := ry
    obtain ⟨its, r, ⟨⟨cls, dd, data, sl⟩, ho, hc, n, hd⟩, hs⟩ := inv.tuple hT
    simp only at hc hd
    subst hc hd
    have road : ∀ {Q' : Value → Shared → Prop}, wpAny (model X.prog X.w) X.A (call (.builtin "tuple.__mul__") [.ref l, .int k t]) Q' X.xe s → wpAny (model X.prog X.w) X.A (binaryOp .Mult (.ref l) (.int k t)) Q' X.xe s := fun hQ =>
      wpAny_binaryOp_repeat_ref (T := "tuple") (U := "int") (by decide) ⟨_, ho, rfl⟩ (fun s' => typeIs_int s' k t) noFill_tuple_mul F.fills_int_mul F.slot_int_rmul repeat_tuple F.slot_int_index.lookup
        (call_meets F.slot_int_rmul (typeIs_int s k t) F.entry_int_rmul (F.args_int_rmul_2 _ _) (int_rmul_tuple k t l its.toArray n dd sl) ⟨ho, rfl, ⟨_, ho, rfl⟩, hQ⟩)
    by_cases h1 : k = 1
    · subst h1
      exact road (call_meets F.slot_tuple_mul ⟨_, ho, rfl⟩ F.entry_tuple_mul (F.args_tuple_mul_2 _ _) (tup_mul_one l its.toArray n dd sl t) ⟨ho, .ref l, H, inv, rfl, q1 rfl⟩)
    · have h3 : k = 0 := by omega
      subst h3
      have he : its.toArray.isEmpty = false := by
        cases r with
        | nil => exact absurd rfl hne
        | cons _ _ => rfl
      refine road (call_meets F.slot_tuple_mul ⟨_, ho, rfl⟩ F.entry_tuple_mul (F.args_tuple_mul_2 _ _) (tup_mul_nil l its.toArray n dd sl t) ⟨ho, he, .ref s.heap.objs.size, _, inv.laid (t' := s.toks) (o := .tup []) (fun b ob q => Heap.get?_push_of_some _ q) (Nat.le_refl _) ?_, rfl, ?_⟩)
      · exact ⟨Nat.zero_le _, [], .nil, IsTup.new _ _⟩
      · exact q2 (by decide) _ (inv.hok.fresh (Nat.le_refl _))
end
/-! ### defs called where no repr is under way -/
section
variable (P : Program) (w : World) (K : PySem.W.Frag) (mg : Str → Option Value) (base : Heap)
structure FnG (k : Nat) (f : Addr) (fd : FuncData) (ps : List Str) (sp : Sp) : Prop where
  len : ∀ xs H Q E, sp xs H Q E → xs.length = ps.length
  run : ∀ (A : Around) (outer : List Env) (s : Shared) (H : Hp) (args : Args) (us : List Value) (vs : List V) (Q : VK) (E : XK), Room k A → A.guards = some [] → Env0 P w K mg base A outer s H → BindsTo s fd args (ps.zip us) → Vals vs us → sp vs H Q E →
    codeAny (model P w) A (.call (.ref f) args) (CR CX0 outer P w H s Q E) s
structure CalG (k : Nat) (x : Str) (sp : Sp) : Prop where
  ex : ∃ (f : Addr) (fd : FuncData) (ps : List Str), FnG P w K mg base k f fd ps sp ∧ mg x = some (.ref f) ∧ PySem.W.keepIn K (.ref f) = true ∧ Binds K fd ps []
end
section
variable {P : Program} {w : World} {K : PySem.W.Frag} {mg : Str → Option Value} {base : Heap} {x qual : Str} {params : Arguments} {bod : List Stmt} {scope : Scope} {dvs : List V} {kws : List (Str × V)} {f : Addr} {fd : FuncData}
theorem okG {N ps : List Str} {k : Nat} {sp : Sp} (F : FunD K x qual params bod scope dvs kws f fd) (S : FnScope N ps scope) (len : ∀ vs H Q E, sp vs H Q E → vs.length = ps.length)
    (hb : ∀ (cdv : Value) (A : Around) (outer : List Env) (s : Shared) (H : Hp) (vs : List V) (Q : VK) (E : XK), Room k (A.deeper (envOfC qual scope s.heap.objs.size f cdv)) → A.guards = some [] → sp vs H Q E →
      ∃ t, PSs (cxOf CX0 P w K mg base N qual scope f cdv A outer s H E).nox bod t ∧ t { nx := fun _ H' => Q .non H', rt := Q } (start N vs) H) : FnG P w K mg base (k + 1) f fd ps sp := by
  obtain ⟨oc, od, dV, kV, doc, pm, an, cdv, ct, osl, efd, lk, hcd, _, _⟩ := F.ex
  subst efd
  refine ⟨len, fun A outer s H args us vs Q E hr hg e0 hbd r hsp => ?_⟩
  have heldK : K.In s.heap := e0.mod.kin.keeps fun b o e => (e0.bs b o e).1
  have kinds : ∀ y ∈ ps.zip us, scope.names.lookup y.1 = some .local ∨ (scope.names.lookup y.1 = some .cell ∧ ((cellsFrom (s.heap.objs.size + 1) scope.names []).lookup y.1).isSome = true) := by
    rintro ⟨n, v⟩ hy
    exact (S.par n (List.of_mem_zip hy).1).imp id fun q => ⟨q, PySem.W.cellsFrom_some _ _ _ (.inl q)⟩
  refine codeAny_call_function hr.depth (heldK _ _ lk) rfl S.co S.gen rfl (PySem.W.codeRec_of heldK hcd) (hbd _ _ _ _ (wpAny_newFunctionEnv_cells S.kind kinds fun env he s1 ic => ?_))
  subst he
  refine ⟨(e0.mod.nolimit.keeps fun b o e => (e0.bs b o e).1).keeps ic.toInCall.keep, codeAny_func ?_⟩
  obtain ⟨t, ht, hq⟩ := hb cdv A outer s H vs Q E (hr.deeper _) hg hsp
  refine wpAny_mono ((PSs.nox ht).run [] s1 (start N vs) H _ (inv_start (E := E) S hr.hd e0 (len _ _ _ _ hsp) r ic) hq) (fun fl s' hs => ?_) fun e s' hs => hs
  cases fl with
  | brk => exact hs.elim fun _ z => z.elim fun _ y => y.2.elim
  | cont => exact hs.elim fun _ z => z.elim fun _ y => y.2.elim
  | next => obtain ⟨σ', H', J, q⟩ := hs; exact ⟨.non, H', J.os, J.bare, J.base, J.hok, rfl, q⟩
  | ret u => obtain ⟨v, σ', H', J, rv, q⟩ := hs; exact ⟨v, H', J.os, J.bare, J.base, J.hok, rv, q⟩
end
section
variable {X : Cx} {j k : Nat} {x : Str} {sp : Sp} {p pos : Pos} {e : Expr} {es : List Expr} {t : TA}
theorem pe_cg (c : CalG X.prog X.w X.K X.mg X.base k x sp) (hr : Room j X.A) (hA : X.A.guards = some []) (hk : k ≤ j) (hg : Gl X x) (ha : PA X (e :: es) t) (noDebug : (x == ("__debug__" : Str)) = false := by decide)
    (oneMore : starEach (e :: es) X.env = (false, eval e X.env) :: starEach es X.env := by rfl) (noStars : (backTo pos (starEach es X.env)).any (·.1) = false := by rfl) :
    PE X (.Call (.Name x p) (e :: es) [] pos) (tCall sp [] E0 t) := by
  obtain ⟨f, fd, ps, F, hm, kp, hb⟩ := c.ex
  refine ⟨fun pins s σ H Q I h => wpAny_Call_Name_kw (ld_glob I hg hm ?_ noDebug)⟩
  refine PySem.W.callWith_K (h₀ := X.base) I.ok.mod.kin kp (thn (ha.run pos pins s σ H _ I h) fun us s1 ⟨vs, H1, I1, r, q⟩ => ⟨I1.kIn, ?_⟩) oneMore noStars
  have q' : sp vs H1 Q E0 := by have q0 : sp (vs ++ []) H1 Q E0 := q; rw [List.append_nil] at q0; exact q0
  have hl : us.length = ps.length := by rw [← r.length]; exact F.len _ _ _ _ q'
  have bt := hb s1 us I1.kIn (by rw [List.append_nil]; exact hl)
  rw [List.append_nil] at bt
  refine wpAny_call (codeAny_mono (F.run X.A X.stack s1 H1 ⟨us, []⟩ us vs Q E0 (hr.mono hk) hA I1.env0 bt r q') fun r s' hq => ?_)
  match r, hq with
  | .error e, hq => exact hq.elim
  | .ok (.ret u), hq => exact I1.after hq
end
/-! ### the law's call, from the outside -/
theorem law_enter {P : Program} {w : World} {K : PySem.W.Frag} {mg mb : Str → Option Value} {k : Nat} {fa a : Addr} {fd : FuncData} {x : Str} {sp : Sp} {z : Shared} {us : List Value} {ns : List Int} (kin : K.In z.heap) (gl : z.heap.Ns mainGlobals mg)
    (bl : z.heap.Ns builtinsNs mb) (bb : ∀ x : Str, x ≠ "__name__" → mb x = bootBuiltins x) (nol : z.heap.NoLimit) (gen : z.gens = #[]) (at_ : z.heap.get? a = some { cls := .type "list", data := .seq us.toArray }) (ar : IntsAre us ns) (few : ns.length ≤ sizeLine)
    (room : Room k callerA) (F : ∀ base : Heap, K.In base → base.Ns mainGlobals mg → FnG P w K mg base k fa fd [x] sp) (bind : ∀ (s : Shared) (u : Value), BindsTo s fd ⟨[u], []⟩ [(x, u)])
    (pr : ∀ H : Hp, Only H → SqL K H a (IL ns) → sp [.ref a] H (fun v _ => v = .bl true) E0) :
    codeAny (model P w) callerA (.call (.ref fa) ⟨[.ref a], []⟩) (fun r s' => r = .ok (.ret (.bool true)) ∧ OldK z.heap s'.heap ∧ s'.os = z.os ∧ AllBare s'.gens) z := by
  have rel : Vals (IL ns) us := vals_ints ar
  have num : us.length = ns.length := ar.length
  have main : ∀ H : Hp, Only H → SqL K H a (IL ns) → HOk P w H z.heap → (∀ b, H b ≠ none → b = a ∧ K.lookup a = none) →
      codeAny (model P w) callerA (.call (.ref fa) ⟨[.ref a], []⟩) (fun r s' => r = .ok (.ret (.bool true)) ∧ OldK z.heap s'.heap ∧ s'.os = z.os ∧ AllBare s'.gens) z := by
    intro H only sq ok just
    have out : ∀ {b : Addr} {o : Obj}, z.heap.get? b = some o → b ≠ a ∨ K.lookup a ≠ none → (hidT z.heap H).get? b = some o := by
      intro b o e d
      refine hidT_get e ?_
      cases q : H b with
      | none => rfl
      | some u =>
        obtain ⟨j1, j2⟩ := just b (by rw [q]; simp)
        exact d.elim (fun d => absurd j1 d) fun d => absurd j2 d
    have ns_ : ∀ {b : Addr} {m : Str → Option Value}, z.heap.Ns b m → (hidT z.heap H).Ns b m := by
      rintro b m ⟨o, es, ep, e, d, r⟩
      refine ⟨o, es, ep, out e (.inl fun q => ?_), d, r⟩
      rw [q, at_] at e
      cases e
      cases d
    have kin' : K.In (hidT z.heap H) := by
      intro b o e
      refine out (kin b o e) ?_
      by_cases q : b = a
      · exact .inr (by rw [← q, e]; simp)
      · exact .inl q
    obtain ⟨mc, n1, n2⟩ := nol
    have env0 : Env0 P w K mg (hidT z.heap H) callerA [] z H :=
      ⟨rfl, ⟨kin', ns_ gl, ⟨mb, ns_ bl, bb⟩, mc, ns_ n1, n2⟩, fun b o e => of_hidT e, Nat.le_of_eq (hidT_size _ _), trivial, fun b hb => (List.not_mem_nil hb).elim, ok, .of_eq gen⟩
    refine codeAny_mono ((F _ kin' (ns_ gl)).run callerA [] z H ⟨[.ref a], []⟩ [.ref a] [.ref a] _ _ room rfl env0 (bind z (.ref a)) (.cons rfl .nil) (pr H only sq)) fun r s' h => ?_
    match r, h with
    | .error e, h => exact h.elim
    | .ok (.ret u), ⟨v, H', os, bare, un, ok', ru, q⟩ =>
      have q : v = .bl true := q
      subst q
      obtain rfl : u = Value.bool true := ru
      refine ⟨rfl, OldK.of_keep fun b old e => ?_, os, bare⟩
      rcases only b with n | ⟨ob, xs, n⟩
      · exact un.keep b old e n (fun q => (List.not_mem_nil q).elim) (fun q => (List.not_mem_nil q).elim)
      · have e1 := (ok b _ n).1
        rw [e] at e1
        cases e1
        exact (ok' b _ (un.frzs b old _ n)).1
  cases q : K.lookup a with
  | some o =>
    have e := kin a o q
    rw [at_] at e
    cases e
    exact main (fun _ => none) (fun _ => .inl rfl) (.inr ⟨_, us.toArray, _, q, rfl, rfl, rfl, by rw [List.size_toArray, num]; exact few, by simpa using rel⟩) (fun b u y => nomatch y) fun b y => absurd rfl y
  | none =>
    let H : Hp := fun b => if b = a then some (.frz { cls := .type "list", data := .seq us.toArray } (.lst (IL ns))) else none
    have ha : H a = some (.frz { cls := .type "list", data := .seq us.toArray } (.lst (IL ns))) := if_pos rfl
    have hn : ∀ b, b ≠ a → H b = none := fun b n => if_neg n
    refine main H (fun b => ?_) (.inl (.inr ⟨_, ha⟩)) (fun b u y => ?_) fun b y => ⟨?_, q⟩
    · by_cases n : b = a
      · exact .inr ⟨_, _, n ▸ ha⟩
      · exact .inl (hn b n)
    · by_cases n : b = a
      · subst n
        rw [ha] at y
        cases y
        exact ⟨at_, by rw [List.length_map]; exact few, us, _, rel, at_⟩
      · rw [hn b n] at y; cases y
    · exact Classical.byContradiction fun n => y (hn b n)
theorem walk_ofG {l : PySem.W.OpenLaw} {n k : Nat} {q : Program} {loose : List Str} {XP : (Str → Option Value) → Heap → Prop} {YP : World → Heap → Prop} {d : DefRec} {x : Str} (hn : l.most = some n) (hn2 : n ≤ sizeLine) (hdf : d.params.defaults = []) (hr : Room k callerA)
    (F : ∀ (w : World) (names : Str → Option Value) (at_ : Addr) (hp : Heap), YP w hp → hp.Ns mainGlobals names → names d.name = some (.ref at_) →
      ∃ (K : PySem.W.Frag) (fd : FuncData) (sp : Sp), K.In hp ∧ (∀ (s : Shared) (u : Value), BindsTo s fd ⟨[u], []⟩ [(x, u)]) ∧ (∀ (H : Hp) (a : Addr) (ns : List Int), ns.length ≤ n → Only H → SqL K H a (IL ns) → sp [.ref a] H (fun v _ => v = .bl true) E0) ∧
        ∀ base : Heap, K.In base → base.Ns mainGlobals names → FnG l.prog w K names base k at_ fd [x] sp) :
    PySem.W.WalkO q loose XP YP l.row.toRowW d [] (fun fn args => PySem.call fn args) := by
  refine Att.attach_call hn hdf fun w _ _ names _ at_ _ _ _ _ _ _ ns G Y _ _ _ bound laid numbers few quiet => ?_
  obtain ⟨K, fd, sp, kin, hb, hs, hF⟩ := F w names at_ _ Y G.T.g bound
  exact law_enter kin G.T.g G.T.b G.T.builtins G.T.nolimit quiet laid numbers (Nat.le_trans few hn2) hr hF hb fun H hO hS => hs H _ ns few hO hS
end NP
namespace NP
open PySem L2 PySem.Spec PyProof.Rows
/-! ### the text -/
def top (i : Nat) : Stmt := PySem.Challenge.pw_numberedpackets_k89_whole_what_a_check_c.main.body.getD i (.Pass ⟨0, 0, 0, 0⟩)
abbrev FunP (K : PySem.W.Frag) (x : Str) (st : Stmt) (f : Addr) (fd : FuncData) : Prop := FunD K x x (defArgs st) (defBody st) (defScope st) [] [] f fd
def ltr (c : Int) : V := .str ⟨#[c.toNat]⟩
structure Txt (K : PySem.W.Frag) (mg : Str → Option Value) (C aL aO : Addr) : Prop where
  LEAST_PLAIN : ∃ t, mg "LEAST_PLAIN" = some (.int 32 t)
  LAST_PLAIN : ∃ t, mg "LAST_PLAIN" = some (.int 126 t)
  BASE : ∃ t, mg "BASE" = some (.int 95 t)
  MARK : ∃ t, mg "MARK" = some (.int 1 t)
  OPENING_MARK : ∃ t, mg "OPENING_MARK" = some (.int 2 t)
  MOST_NUMBER : ∃ t, mg "MOST_NUMBER" = some (.int 63 t)
  MOST_SIZE : ∃ t, mg "MOST_SIZE" = some (.int 94 t)
  AROUND : ∃ t, mg "AROUND" = some (.int 2 t)
  SIZES : ∃ t, mg "SIZES" = some (.int 2 t)
  gLETTERS : mg "LETTERS" = some (.ref aL)
  sLETTERS : ∀ H, SqT K H aL (lets.map ltr)
  gOPENING : mg "OPENING" = some (.ref aO)
  sOPENING : ∀ H, SqT K H aO (opens.map ltr)
  BY : ∃ a, mg "BY" = some (.ref a) ∧ ByAt K a
  range : mg "range" = none
  divmod : mg "divmod" = none
  tuple : mg "tuple" = none
  reversed : mg "reversed" = none
  len : mg "len" = none
  sum : mg "sum" = none
  abs : mg "abs" = none
  int : mg "int" = none
  list : mg "list" = none
  ord : mg "ord" = none
  repr : mg "repr" = none
  isinstance : mg "isinstance" = none
  cl : Cls K C
  n1 : NoAttr K C "now_kind"
  n2 : NoAttr K C "many_fed"
  n3 : NoAttr K C "begun_at"
  n4 : NoAttr K C "begun_mark"
  n5 : NoAttr K C "begun_check"
  n6 : NoAttr K C "begun_signs"
/-! ### more of heaps that grow -/
abbrev One (l : Addr) : Addr → Prop := fun b => b = l
theorem Kp.drop {W : Addr → Prop} {H H' : Hp} {l : Addr} (n : H l = none) (k : Kp (fun b => W b ∨ b = l) H H') : Kp W H H' :=
  ⟨fun b o e w => k.keep b o e fun q => q.elim w fun q => (by rw [q, n] at e; cases e), k.tup, k.frz, k.there⟩
theorem Kp.drop1 {H H' : Hp} {l : Addr} (n : H l = none) (k : Kp (One l) H H') : Kp No H H' := Kp.drop n (k.mono fun _ q => .inr q)
theorem il_snoc (xs : List Int) (y : Int) : IL (xs ++ [y]) = IL xs ++ [V.int y] := List.map_append ..
theorem il_app (xs ys : List Int) : IL (xs ++ ys) = IL xs ++ IL ys := List.map_append ..
theorem il_rev (xs : List Int) : IL xs.reverse = (IL xs).reverse := List.map_reverse ..
theorem goT {b : Bool} {A B : Prop} (e : b = true) (h : A) : if b = true then A else B := by rw [if_pos e]; exact h
theorem goF {b : Bool} {A B : Prop} (e : b = false) (h : B) : if b = true then A else B := by rw [if_neg (by rw [e]; decide)]; exact h
theorem sml {n : Nat} (h : n ≤ 16000) : n < sizeLine := by rw [sizeLine_eq]; omega
theorem smle {n : Nat} (h : n ≤ 16000) : n ≤ sizeLine := by rw [sizeLine_eq]; omega
section
variable {P : Program} {w : World} {K : PySem.W.Frag} {mg : Str → Option Value} {base : Heap} {C aL aO : Addr} {f : Addr} {fd : FuncData}
/-! ### is_plain -/
def spIsPlain : Sp := fun vs H Q _ => ∃ n : Int, vs = [.int n] ∧ Q (.bl (decide (32 ≤ n ∧ n ≤ 126))) H
theorem sc_is_plain : FnScope ["sign"] ["sign"] (defScope (top 5)) := ⟨rfl, rfl, rfl, by decide +kernel, rfl, by decide +kernel, by decide +kernel⟩
theorem ok_is_plain (T : Txt K mg C aL aO) (F : FunP K "is_plain" (top 5) f fd) : FnOk P w K mg base CX0 1 f fd ["sign"] spIsPlain := by
  refine F.ok sc_is_plain (fun vs H Q E h => ?_) (fun cdv A outer s H vs Q E hr h => ?_)
  · obtain ⟨n, rfl, _⟩ := h; rfl
  · obtain ⟨n, rfl, k⟩ := h
    refine ⟨_, PSs.nox (pss_one (ps_ret (pe_chain op_le op_le (pe_gi rfl T.LEAST_PLAIN) (pv 0) (pe_gi rfl T.LAST_PLAIN)))), ?_⟩
    refine ⟨_, rfl, _, _, rfl, rfl, ⟨_, rfl, ?_⟩⟩
    by_cases a : 32 ≤ n
    · rw [if_pos (decide_eq_true a)]
      refine ⟨_, _, rfl, rfl, ?_⟩
      have e : decide (n ≤ 126) = decide (32 ≤ n ∧ n ≤ 126) := by simp [a]
      show Q (.bl (decide (n ≤ 126))) H
      rw [e]; exact k
    · rw [if_neg (by simp [a])]
      have e : false = decide (32 ≤ n ∧ n ≤ 126) := by simp [a]
      show Q (.bl false) H
      rw [e]; exact k
/-! ### written -/
def spWritten : Sp := fun vs H Q _ => ∃ n m : Int, vs = [.int n, .int m] ∧ 0 ≤ m ∧ m ≤ 100 ∧ RTup (IL (figs n m.toNat)) H Q
theorem sc_written : FnScope ["number", "many", "found", "turn", "value"] ["number", "many"] (defScope (top 6)) := ⟨rfl, rfl, rfl, by decide +kernel, rfl, by decide +kernel, by decide +kernel⟩
theorem ok_written (T : Txt K mg C aL aO) (F : FunP K "written" (top 6) f fd) : FnOk P w K mg base CX0 1 f fd ["number", "many"] spWritten := by
  refine F.ok sc_written (fun vs H Q E h => ?_) (fun cdv A outer s H vs Q E hr h => ?_)
  · obtain ⟨n, m, rfl, _⟩ := h; rfl
  · obtain ⟨n, m, rfl, m0, m1, k⟩ := h
    refine ⟨_, PSs.nox (pss_cons (ps_set (i := 2) sc_written.nd rfl (.inl rfl) (pe_lst pa_nil))
  (pss_cons (ps_for PassesOwn.never rfl (pi_range1 rfl T.range (pa_cons (pv 1) pa_nil)) (pg_name (i := 3) sc_written.nd rfl (.inl rfl))
    (pss_cons (ps_asg (pe_callB call_divmod rfl T.divmod b_divmod (pa_cons (pv 0) (pa_cons (pe_gi rfl T.BASE) pa_nil))) (pg_tup rfl (pgs_cons (pg_name (i := 0) sc_written.nd rfl (.inl rfl)) (pgs_cons (pg_name (i := 4) sc_written.nd rfl (.inl rfl)) pgs_nil))))
  (pss_one (ps_expr (pe_bm PySem.F.plainAttrs_list PySem.F.slot_list_append PySem.F.type_list_append mt_append (pv 2) (pa_cons (pe_op op_add (pe_gi rfl T.LEAST_PLAIN) (pv 4)) pa_nil))))))
  (pss_one (ps_ret (RT.pe_tupRev rfl rfl T.tuple rfl T.reversed (pv 2)))))), ?_⟩
    refine ⟨(Nat.zero_le _), fun l hl => ?_⟩
    refine ⟨_, rfl, m, rfl, by omega, by omega, ?_⟩
    refine for_range (fun i σ H' => ∃ t v : Option V, σ = [some (.int (down n i)), some (.int m), some (.ref l), t, v] ∧ Kp (One l) H H' ∧ H' l = some (.lst (IL (lowF n i))))
      ⟨none, none, rfl, Kp.new _ hl, upd_same⟩ ?_ ?_
    · rintro i σ H' hi ⟨t, v, rfl, kp, hL⟩
      refine ⟨_, rfl, _, _, rfl, ⟨by decide, by decide⟩, fun p np => ?_⟩
      have npl : l ≠ p := ne_of_none hL np
      refine ⟨_, _, rfl, SqT.of upd_same, rfl, _, _, rfl, _, _, rfl, rfl, ?_⟩
      have hL' : upd H' p (.tup [.int (down n i / 95), .int (down n i % 95)]) l = some (.lst (IL (lowF n i))) := by rw [upd_ne npl]; exact hL
      refine ⟨_, rfl, .inl ⟨rfl, _, SqL.of hL'⟩, _, rfl, _, _, rfl, rfl, l, _, _, rfl, rfl, hL', sml (by rw [il_len, lowF_len]; omega), ?_⟩
      refine ⟨_, _, rfl, (kp.trans (Kp.new _ np)).trans (Kp.put _ hL' rfl rfl), ?_⟩
      rw [upd_same, lowF_snoc, il_snoc]
    · rintro σ H' ⟨t, v, rfl, kp, hL⟩
      refine ⟨_, rfl, l, _, rfl, SqL.of hL, fun q nq => ?_⟩
      refine k q _ ((Kp.drop1 hl kp).trans (Kp.new _ nq)) ?_
      rw [upd_same, ← il_rev]
      rfl
/-! ### number_in -/
def spNumberIn : Sp := fun vs H Q _ => ∃ (a : Addr) (xs : List Int), vs = [.ref a] ∧ (SqL K H a (IL xs) ∨ SqT K H a (IL xs)) ∧ Q (.int (numIn xs)) H
theorem sc_number_in : FnScope ["signs", "found", "sign"] ["signs"] (defScope (top 7)) := ⟨rfl, rfl, rfl, by decide +kernel, rfl, by decide +kernel, by decide +kernel⟩
theorem ok_number_in (T : Txt K mg C aL aO) (F : FunP K "number_in" (top 7) f fd) : FnOk P w K mg base CX0 1 f fd ["signs"] (spNumberIn (K := K)) := by
  refine F.ok sc_number_in (fun vs H Q E h => ?_) (fun cdv A outer s H vs Q E hr h => ?_)
  · obtain ⟨a, xs, rfl, _⟩ := h; rfl
  · obtain ⟨a, xs, rfl, hs, k⟩ := h
    have turn : ∀ (D : Nat → L2.St → Hp → Prop), D = (fun i σ H' => ∃ t : Option V, H' = H ∧ σ = [some (.ref a), some (.int (numIn (xs.take i))), t]) → ∀ (i : Nat) (x : V) (σ : L2.St) (H' : Hp), (IL xs)[i]? = some x → D i σ H' →
        ∃ n : Int, x = .int n ∧ D (i + 1) ((σ.set 2 (some x)).set 1 (some (.int (95 * numIn (xs.take i) + n - 32)))) H' ∧ ∃ t, σ = [some (.ref a), some (.int (numIn (xs.take i))), t] := by
      rintro D rfl i x σ H' hx ⟨t, rfl, rfl⟩
      obtain ⟨n, hn, rfl⟩ := il_at hx
      refine ⟨n, rfl, ⟨some (.int n), rfl, ?_⟩, t, rfl⟩
      have e : numIn (xs.take (i + 1)) = 95 * numIn (xs.take i) + n - 32 := foldl_at _ 0 hn
      rw [e]
      rfl
    rcases hs with hs | hs
    · refine ⟨_, PSs.nox (pss_cons (ps_set (i := 1) sc_number_in.nd rfl (.inl rfl) pe_int)
  (pss_cons (ps_for PassesOwn.never rfl (pi_list (pv 0)) (pg_name (i := 2) sc_number_in.nd rfl (.inl rfl))
    (pss_one (ps_set (i := 1) sc_number_in.nd rfl (.inl rfl) (pe_op op_sub (pe_op op_add (pe_op op_mul (pe_gi rfl T.BASE) (pv 1)) (pv 2)) (pe_gi rfl T.LEAST_PLAIN)))))
  (pss_one (ps_ret (pv 1))))), ?_⟩
      refine ⟨_, rfl, a, rfl, ⟨_, hs⟩, for_list (K := K) (a := a) (xs := IL xs) (fun i σ H' => ∃ t : Option V, H' = H ∧ σ = [some (.ref a), some (.int (numIn (xs.take i))), t]) ⟨none, rfl, rfl⟩ ?_ ?_ ?_⟩
      · rintro i σ H' _ ⟨_, rfl, _⟩; exact hs
      · intro i x σ H' hx hD
        obtain ⟨n, rfl, h1, t, rfl⟩ := turn _ rfl i x σ H' hx hD
        exact ⟨_, rfl, _, _, rfl, rfl, .inl (by decide), _, rfl, _, _, rfl, rfl, _, _, rfl, rfl, h1⟩
      · rintro σ H' ⟨t, rfl, rfl⟩
        refine ⟨_, rfl, ?_⟩
        rw [il_len, List.take_length]
        exact k
    · refine ⟨_, PSs.nox (pss_cons (ps_set (i := 1) sc_number_in.nd rfl (.inl rfl) pe_int)
        (pss_cons (ps_for PassesOwn.never rfl (pi_tup (pv 0)) (pg_name (i := 2) sc_number_in.nd rfl (.inl rfl))
          (pss_one (ps_set (i := 1) sc_number_in.nd rfl (.inl rfl) (pe_op op_sub (pe_op op_add (pe_op op_mul (pe_gi rfl T.BASE) (pv 1)) (pv 2)) (pe_gi rfl T.LEAST_PLAIN))))) (pss_one (ps_ret (pv 1))))), ?_⟩
      refine ⟨_, rfl, a, rfl, ⟨_, hs⟩, for_tup (K := K) (a := a) (xs := IL xs) (fun i σ H' => ∃ t : Option V, H' = H ∧ σ = [some (.ref a), some (.int (numIn (xs.take i))), t]) ⟨none, rfl, rfl⟩ ?_ ?_ ?_⟩
      · rintro i σ H' _ ⟨_, rfl, _⟩; exact hs
      · intro i x σ H' hx hD
        obtain ⟨n, rfl, h1, t, rfl⟩ := turn _ rfl i x σ H' hx hD
        exact ⟨_, rfl, _, _, rfl, rfl, .inl (by decide), _, rfl, _, _, rfl, rfl, _, _, rfl, rfl, h1⟩
      · rintro σ H' ⟨t, rfl, rfl⟩
        refine ⟨_, rfl, ?_⟩
        rw [il_len, List.take_length]
        exact k
/-! ### left_of -/
def spLeftOf : Sp := fun vs H Q _ => ∃ (a : Addr) (xs : List Int) (b m : Int), vs = [.ref a, .int b, .int m] ∧ SqL K H a (IL xs) ∧ 0 ≤ b ∧ b ≤ 1000 ∧ 0 < m ∧ m ≤ 1000000 ∧ ∀ H', Kp No H H' → Q (.int (leftOf b m xs)) H'
theorem sc_left_of : FnScope ["values", "base", "by", "found", "value"] ["values", "base", "by"] (defScope (top 9)) := ⟨rfl, rfl, rfl, by decide +kernel, rfl, by decide +kernel, by decide +kernel⟩
theorem ok_left_of (T : Txt K mg C aL aO) (F : FunP K "left_of" (top 9) f fd) : FnOk P w K mg base CX0 1 f fd ["values", "base", "by"] (spLeftOf (K := K)) := by
  refine F.ok sc_left_of (fun vs H Q E h => ?_) (fun cdv A outer s H vs Q E hr h => ?_)
  · obtain ⟨a, xs, b, m, rfl, _⟩ := h; rfl
  · obtain ⟨a, xs, b, m, rfl, hs, b0, b1, m0, m1, k⟩ := h
    refine ⟨_, PSs.nox (pss_cons (ps_set (i := 3) sc_left_of.nd rfl (.inl rfl) pe_int)
  (pss_cons (ps_for PassesOwn.never rfl (pi_list (pv 0)) (pg_name (i := 4) sc_left_of.nd rfl (.inl rfl))
    (pss_one (ps_set (i := 3) sc_left_of.nd rfl (.inl rfl) (pe_ix ix_tup (pe_callB call_divmod rfl T.divmod b_divmod (pa_cons (pe_op op_add (pe_op op_mul (pv 3) (pv 1)) (pv 4)) (pa_cons (pv 2) pa_nil))) pe_int (fun _ _ => rfl)))))
  (pss_one (ps_ret (pv 3))))), ?_⟩
    refine ⟨_, rfl, a, rfl, ⟨_, hs⟩, for_list (K := K) (a := a) (xs := IL xs) (fun i σ H' => ∃ t : Option V, Kp No H H' ∧ σ = [some (.ref a), some (.int b), some (.int m), some (.int (leftOf b m (xs.take i))), t]) ⟨none, Kp.refl _, rfl⟩ ?_ ?_ ?_⟩
    · rintro i σ H' _ ⟨_, kp, _⟩; exact kp.seqL (fun q => q) hs
    · rintro i x σ H' hx ⟨t, kp, rfl⟩
      obtain ⟨n, hn, rfl⟩ := il_at hx
      refine ⟨_, rfl, _, rfl, _, _, rfl, rfl, .inr (by omega), _, rfl, _, _, rfl, rfl, _, rfl, _, _, rfl, ⟨m0, by omega⟩, fun p np => ?_⟩
      refine ⟨p, _, 1, _, rfl, rfl, SqT.of upd_same, rfl, some (.int n), kp.trans (Kp.new _ np), ?_⟩
      have e : leftOf b m (xs.take (i + 1)) = (leftOf b m (xs.take i) * b + n) % m := foldl_at _ 0 hn
      rw [e]
      rfl
    · rintro σ H' ⟨t, kp, rfl⟩
      refine ⟨_, rfl, ?_⟩
      rw [il_len, List.take_length]
      exact k _ kp
/-! ### moved, near -/
/-- what may be handed back: None, or a new list -/
def RLstO (o : Option (List Int)) (H : Hp) (Q : VK) : Prop := ∀ H', Kp No H H' → (o = none → Q .non H') ∧ ∀ xs p, o = some xs → H p = none → H' p = some (.lst (IL xs)) → Q (.ref p) H'
def spMoved : Sp := fun vs H Q _ => ∃ (a : Addr) (xs : List Int) (c b : Int), vs = [.ref a, .int c, .int b] ∧ SqL K H a (IL xs) ∧ xs.length ≤ 1000 ∧ 0 < b ∧ b ≤ 1000 ∧ RLstO (moved b xs c) H Q
theorem sc_moved : FnScope ["values", "by", "base", "found", "value", "here"] ["values", "by", "base"] (defScope (top 10)) := ⟨rfl, rfl, rfl, by decide +kernel, rfl, by decide +kernel, by decide +kernel⟩
theorem ok_moved (T : Txt K mg C aL aO) (F : FunP K "moved" (top 10) f fd) : FnOk P w K mg base CX0 1 f fd ["values", "by", "base"] (spMoved (K := K)) := by
  refine F.ok sc_moved (fun vs H Q E h => ?_) (fun cdv A outer s H vs Q E hr h => ?_)
  · obtain ⟨a, xs, c, b, rfl, _⟩ := h; rfl
  · obtain ⟨a, xs, c, b, rfl, hs, hlen, b0, b1, k⟩ := h
    refine ⟨_, PSs.nox (pss_cons (ps_set (i := 3) sc_moved.nd rfl (.inl rfl) (pe_lst pa_nil))
  (pss_cons (ps_for PassesOwn.never rfl (RT.pi_revA rfl T.reversed (pv 0)) (pg_name (i := 4) sc_moved.nd rfl (.inl rfl))
    (pss_cons (ps_asg (pe_callB call_divmod rfl T.divmod b_divmod (pa_cons (pe_op op_add (pv 4) (pv 1)) (pa_cons (pv 2) pa_nil))) (pg_tup rfl (pgs_cons (pg_name (i := 1) sc_moved.nd rfl (.inl rfl)) (pgs_cons (pg_name (i := 5) sc_moved.nd rfl (.inl rfl)) pgs_nil))))
  (pss_one (ps_expr (pe_bm PySem.F.plainAttrs_list PySem.F.slot_list_append PySem.F.type_list_append mt_append (pv 3) (pa_cons (pv 5) pa_nil))))))
  (pss_one (ps_ret (pe_ifExp (pt_cmpR op_ne (pv 1) pe_int (nomark _)) pe_non (pe_revL (pv 3))))))), ?_⟩
    refine ⟨(Nat.zero_le _), fun l hl => ?_⟩
    have hs1 : SqL K (upd H l (.lst [])) a (IL xs) := (Kp.new (W := No) _ hl).seqL (fun q => q) hs
    have hal : a ≠ l ∨ ∃ o, K.lookup a = some o := by
      rcases hs with (h | ⟨o, h⟩) | ⟨o, _, _, h, _⟩
      · exact .inl (ne_of_none h hl)
      · exact .inl (ne_of_none h hl)
      · exact .inr ⟨o, h⟩
    have sq : ∀ H', Kp (One l) H H' → SqL K H' a (IL xs) := by
      intro H' kp
      rcases hs with (h | ⟨o, h⟩) | h
      · exact .inl (.inl (kp.keep _ _ h (ne_of_none h hl)))
      · exact .inl (.inr ⟨o, kp.frz _ _ _ h⟩)
      · exact .inr h
    refine ⟨_, rfl, a, _, rfl, .inl ⟨hs1, ?_⟩⟩
    refine RT.for_Itv (K := K) (a := a) (xs := IL xs) (fun i σ H' => ∃ v h : Option V, σ = [some (.ref a), some (.int (movedL b (xs.reverse.take i) c).2), some (.int b), some (.ref l), v, h] ∧ Kp (One l) H H' ∧ H' l = some (.lst (IL (movedL b (xs.reverse.take i) c).1)))
      ⟨none, none, rfl, Kp.new _ hl, upd_same⟩ ?_ ?_ ?_
    · rintro i σ H' ⟨_, _, _, kp, _⟩; exact sq _ kp
    · rintro i x σ H' hi hx ⟨v, h, rfl, kp, hL⟩
      obtain ⟨n, hn, rfl⟩ := il_at hx
      rw [il_len] at hi hn
      have hr' : xs.reverse[i]? = some n := by rw [List.getElem?_reverse hi]; exact hn
      have hz : (xs.reverse.take i).length ≤ 1000 := by rw [List.length_take, List.length_reverse]; omega
      refine ⟨_, rfl, _, rfl, _, _, rfl, rfl, _, rfl, _, _, rfl, ⟨b0, by omega⟩, fun p np => ?_⟩
      refine ⟨_, _, rfl, SqT.of upd_same, rfl, _, _, rfl, _, _, rfl, rfl, ?_⟩
      have hL' := upd_keep (u := .tup [.int ((n + (movedL b (xs.reverse.take i) c).2) / b), .int ((n + (movedL b (xs.reverse.take i) c).2) % b)]) np hL
      refine ⟨_, rfl, .inl ⟨rfl, _, SqL.of hL'⟩, _, rfl, l, _, _, rfl, rfl, hL', sml (by rw [il_len, movedL_len]; omega), ?_⟩
      refine ⟨some (.int n), some (.int ((n + (movedL b (xs.reverse.take i) c).2) % b)), ?_, (kp.trans (Kp.new _ np)).trans (Kp.put _ hL' rfl rfl), ?_⟩
      · rw [take_at hr', movedL_snoc]; rfl
      · rw [upd_same, take_at hr', movedL_snoc, il_snoc]
    · rintro σ H' ⟨v, h, rfl, kp, hL⟩
      have ef : xs.reverse.take (IL xs).length = xs.reverse := by rw [il_len, ← List.length_reverse]; exact List.take_length
      rw [ef] at hL ⊢
      refine ⟨_, rfl, rfl, ⟨_, rfl, ?_⟩⟩
      have kd := Kp.drop1 hl kp
      by_cases z : (movedL b xs.reverse c).2 = 0
      · refine goF (by simp [z]) ?_
        refine ⟨_, rfl, l, _, rfl, SqL.of hL, fun q nq => ?_⟩
        refine (k _ (kd.trans (Kp.new _ nq))).2 _ q (by unfold moved; rw [if_neg (by simpa using z)]) (kd.free nq) ?_
        rw [upd_same, il_rev]
      · refine goT (by simp [z]) ?_
        exact (k _ kd).1 (by unfold moved; rw [if_pos z])
def spNear : Sp := fun vs H Q _ => ∃ (a : Addr) (xs : List Int) (c b : Int), vs = [.ref a, .int c, .int b] ∧ SqL K H a (IL xs) ∧ xs.length ≤ 1000 ∧ 0 < b ∧ b ≤ 1000 ∧ RLstO (near b xs c) H Q
theorem sc_near : FnScope ["values", "by", "base", "found"] ["values", "by", "base"] (defScope (top 11)) := ⟨rfl, rfl, rfl, by decide +kernel, rfl, by decide +kernel, by decide +kernel⟩
theorem ok_near (T : Txt K mg C aL aO) (F : FunP K "near" (top 11) f fd) (cmoved : CalK P w K mg base 1 2 ["base"] "moved" (spMoved (K := K))) : FnOk P w K mg base CX0 2 f fd ["values", "by", "base"] (spNear (K := K)) := by
  refine F.ok sc_near (fun vs H Q E h => ?_) (fun cdv A outer s H vs Q E hr h => ?_)
  · obtain ⟨a, xs, c, b, rfl, _⟩ := h; rfl
  · obtain ⟨a, xs, c, b, rfl, hs, hlen, b0, b1, k⟩ := h
    refine ⟨_, PSs.nox (pss_cons (ps_set (i := 3) sc_near.nd rfl (.inl rfl) (pe_ck cmoved hr (by decide) rfl (pa_cons (pv 0) (pa_cons (pv 1) pa_nil)) (pk_cons (pv 2) pk_nil)))
  (pss_one (ps_ret (pe_ifExp (pt_cmpR op_isN (pv 3) pe_non (nomark _)) (pe_ck cmoved hr (by decide) rfl (pa_cons (pv 0) (pa_cons (pe_un un_neg (pv 1)) pa_nil)) (pk_cons (pv 2) pk_nil)) (pv 3))))), ?_⟩
    refine ⟨_, rfl, _, rfl, _, rfl, rfl, rfl, a, xs, c, b, rfl, hs, hlen, b0, b1, fun H1 k1 => ⟨fun e => ?_, fun ys p e np hp => ?_⟩⟩
    · refine ⟨_, rfl, rfl, ⟨_, rfl, ?_⟩⟩
      refine goT rfl ?_
      refine ⟨_, rfl, _, rfl, _, rfl, _, rfl, rfl, rfl, a, xs, -c, b, rfl, k1.seqL (fun q => q) hs, hlen, b0, b1, fun H2 k2 => ?_⟩
      have z := k H2 (k1.trans k2)
      unfold near at z
      rw [e] at z
      exact ⟨z.1, fun ys p e2 np hp => z.2 ys p e2 (k1.free np) hp⟩
    · refine ⟨_, rfl, rfl, ⟨_, rfl, ?_⟩⟩
      refine goF rfl ?_
      refine ⟨_, rfl, (k H1 k1).2 ys p ?_ np hp⟩
      unfold near
      rw [e]
end
end NP
namespace NP
open PySem L2 PySem.Spec PyProof.Rows
/-! ### data of ints -/
abbrev DI (xs : List Int) : List PyData := xs.map PyData.int
theorem dpAll_ints (K : PySem.W.Frag) (H : Hp) : ∀ xs : List Int, DpAll K H (IL xs) (DI xs)
  | [] => .nil
  | x :: xs => .cons (.int x) (dpAll_ints K H xs)
theorem dp_tup {K : PySem.W.Frag} {H : Hp} {a : Addr} {xs : List Int} (h : SqT K H a (IL xs)) : Dp K H (.ref a) (.tuple (DI xs)) := .tup h (dpAll_ints K H xs)
theorem dp_lst {K : PySem.W.Frag} {H : Hp} {a : Addr} {xs : List Int} (h : SqL K H a (IL xs)) : Dp K H (.ref a) (.list (DI xs)) := .lst h (dpAll_ints K H xs)
theorem shaped_tup (xs : List Int) : SeqAt.shaped (.tuple (DI xs)) = true := by simp [SeqAt.shaped, PyData.canLay0, PyData.depth, PySem.W.ke_canLayAll0, PySem.W.ke_depthAll]
theorem eqv_all : ∀ xs ys : List Int, PyData.eqvAll (DI xs) (DI ys) = decide (xs = ys)
  | [], [] => rfl
  | [], _ :: _ => rfl
  | _ :: _, [] => rfl
  | x :: xs, y :: ys => by
    show (PyData.eqv (.int x) (.int y) && PyData.eqvAll (DI xs) (DI ys)) = _
    rw [eqv_all xs ys]
    show ((x == y) && decide (xs = ys)) = _
    by_cases a : x = y <;> by_cases b : xs = ys <;> simp [a, b]
theorem eqv_tup (xs ys : List Int) : PyData.eqv (.tuple (DI xs)) (.tuple (DI ys)) = decide (xs = ys) := eqv_all xs ys
theorem eqv_lst (xs ys : List Int) : PyData.eqv (.list (DI xs)) (.list (DI ys)) = decide (xs = ys) := eqv_all xs ys
section
variable {P : Program} {w : World} {K : PySem.W.Frag} {mg : Str → Option Value} {base : Heap} {C aL aO : Addr} {f : Addr} {fd : FuncData}
/-! ### values_of, signs_of -/
theorem vals_at {xs : List Int} {i : Nat} {n : Int} (h : xs[i]? = some n) : vals (xs.take (i + 1)) = vals (xs.take i) ++ [n - 32] := by rw [take_at h, vals_append]; rfl
theorem signs_at {xs : List Int} {i : Nat} {n : Int} (h : xs[i]? = some n) : signs (xs.take (i + 1)) = signs (xs.take i) ++ [32 + n] := by rw [take_at h]; exact List.map_append ..
theorem take_le {α : Type} (xs : List α) (i : Nat) {n : Nat} (h : xs.length ≤ n) : (xs.take i).length ≤ n := by rw [List.length_take]; omega
def spValuesOf : Sp := fun vs H Q _ => ∃ (a : Addr) (xs : List Int), vs = [.ref a] ∧ SqT K H a (IL xs) ∧ xs.length ≤ 1000 ∧ RLst (IL (vals xs)) H Q
theorem sc_values_of : FnScope ["signs", "sign"] ["signs"] (defScope (top 14)) := ⟨rfl, rfl, rfl, by decide +kernel, rfl, by decide +kernel, by decide +kernel⟩
theorem ok_values_of (T : Txt K mg C aL aO) (F : FunP K "values_of" (top 14) f fd) : FnOk P w K mg base CX0 1 f fd ["signs"] (spValuesOf (K := K)) := by
  refine F.ok sc_values_of (fun vs H Q E h => ?_) (fun cdv A outer s H vs Q E hr h => ?_)
  · obtain ⟨a, xs, rfl, _⟩ := h; rfl
  · obtain ⟨a, xs, rfl, hs, hl, k⟩ := h
    refine ⟨_, PSs.nox (pss_one (ps_ret (pe_lc (own := [("sign", 1)]) (g := gName 1) (tt := tYes) rfl sc_values_of.nd (pi_tup (pv 0)) (blkOk_by (N := ["signs", "sign"]) (sc := defScope (top 14)) (by decide +kernel)) (fun _ _ _ _ _ => (pg_name (i := 1) sc_values_of.nd rfl (.inl rfl))) (fun _ _ _ _ _ => pts_nil) (fun _ _ _ _ _ => (pe_op op_sub (pv 1) (pe_gi rfl T.LEAST_PLAIN)))))), ?_⟩
    refine ⟨_, rfl, a, rfl, ⟨_, hs⟩, fun D nD => lc_tup (K := K) (a := a) (xs := IL xs) (fun i H' => Kp (One D) H H' ∧ H' D = some (.lst (IL (vals (xs.take i))))) ⟨Kp.new _ nD, upd_same⟩ (fun i H' _ h => h.1.seqT hs) ?_ ?_⟩
    · rintro i x H' hx ⟨kp, hD⟩
      obtain ⟨n, hn, rfl⟩ := il_at hx
      refine ⟨rfl, _, rfl, _, _, rfl, rfl, _, hD, sml (by rw [il_len, vals_len]; have := take_le xs i hl; omega), kp.trans (Kp.put _ hD rfl rfl), ?_⟩
      rw [upd_same, vals_at hn, il_snoc]
    · rintro H' ⟨kp, hD⟩
      refine k D H' (Kp.drop1 nD kp) nD ?_
      rw [hD, il_len, List.take_length]
def spSignsOf : Sp := fun vs H Q _ => ∃ (a : Addr) (xs : List Int), vs = [.ref a] ∧ SqL K H a (IL xs) ∧ xs.length ≤ 1000 ∧ RTup (IL (signs xs)) H Q
theorem sc_signs_of : FnScope ["values", "value"] ["values"] (defScope (top 15)) := ⟨rfl, rfl, rfl, by decide +kernel, rfl, by decide +kernel, by decide +kernel⟩
theorem Kp.seqL1 {H H' : Hp} {D a : Addr} {xs : List V} (kp : Kp (One D) H H') (n : H D = none) (h : SqL K H a xs) : SqL K H' a xs := (Kp.drop1 n kp).seqL (fun q => q) h
theorem ok_signs_of (T : Txt K mg C aL aO) (F : FunP K "signs_of" (top 15) f fd) : FnOk P w K mg base CX0 1 f fd ["values"] (spSignsOf (K := K)) := by
  refine F.ok sc_signs_of (fun vs H Q E h => ?_) (fun cdv A outer s H vs Q E hr h => ?_)
  · obtain ⟨a, xs, rfl, _⟩ := h; rfl
  · obtain ⟨a, xs, rfl, hs, hl, k⟩ := h
    refine ⟨_, PSs.nox (pss_one (ps_ret (pe_callTy call_tuple_of rfl T.tuple b_tuple (pa_cons (pe_lc (own := [("value", 1)]) (g := gName 1) (tt := tYes) rfl sc_signs_of.nd (pi_list (pv 0)) (blkOk_by (N := ["values", "value"]) (sc := defScope (top 15)) (by decide +kernel)) (fun _ _ _ _ _ => (pg_name (i := 1) sc_signs_of.nd rfl (.inl rfl))) (fun _ _ _ _ _ => pts_nil) (fun _ _ _ _ _ => (pe_op op_add (pe_gi rfl T.LEAST_PLAIN) (pv 1)))) pa_nil)))), ?_⟩
    refine ⟨_, rfl, a, rfl, ⟨_, hs⟩, fun D nD => lc_list (K := K) (a := a) (xs := IL xs) (fun i H' => Kp (One D) H H' ∧ H' D = some (.lst (IL (signs (xs.take i))))) ⟨Kp.new _ nD, upd_same⟩ (fun i H' _ h => h.1.seqL1 nD hs) ?_ ?_⟩
    · rintro i x H' hx ⟨kp, hD⟩
      obtain ⟨n, hn, rfl⟩ := il_at hx
      refine ⟨rfl, _, rfl, _, _, rfl, rfl, _, hD, sml (by rw [il_len, signs_len]; have := take_le xs i hl; omega), kp.trans (Kp.put _ hD rfl rfl), ?_⟩
      rw [upd_same, signs_at hn, il_snoc]
    · rintro H' ⟨kp, hD⟩
      refine ⟨D, _, rfl, .inl ⟨SqL.of hD, fun t nt => k t _ ((Kp.drop1 nD kp).trans (Kp.new _ nt)) ?_⟩⟩
      rw [upd_same, il_len, List.take_length]
/-! ### twin_by_sum -/
def spTwinBySum : Sp := fun vs H Q _ => ∃ (a : Addr) (x y : Int) (r : List Int), vs = [.ref a] ∧ SqL K H a (IL (x :: y :: r)) ∧ r.length ≤ 1000 ∧ RLst (IL ((x + 1) % 95 :: (y - 1) % 95 :: r)) H Q
theorem sc_twin_by_sum : FnScope ["values", "first", "second", "rest"] ["values"] (defScope (top 18)) := ⟨rfl, rfl, rfl, by decide +kernel, rfl, by decide +kernel, by decide +kernel⟩
theorem ok_twin_by_sum (T : Txt K mg C aL aO) (F : FunP K "twin_by_sum" (top 18) f fd) : FnOk P w K mg base CX0 1 f fd ["values"] (spTwinBySum (K := K)) := by
  refine F.ok sc_twin_by_sum (fun vs H Q E h => ?_) (fun cdv A outer s H vs Q E hr h => ?_)
  · obtain ⟨a, x, y, r, rfl, _⟩ := h; rfl
  · obtain ⟨a, x, y, r, rfl, hs, hl, k⟩ := h
    refine ⟨_, PSs.nox (pss_cons (ps_asg (pv 0) (pg_star (pg_name (i := 1) sc_twin_by_sum.nd rfl (.inl rfl)) (pg_name (i := 2) sc_twin_by_sum.nd rfl (.inl rfl)) (pg_name (i := 3) sc_twin_by_sum.nd rfl (.inl rfl))))
  (pss_one (ps_ret (pe_op op_cat (pe_lst (pa_cons (pe_ix ix_tup (pe_callB call_divmod rfl T.divmod b_divmod (pa_cons (pe_op op_add (pv 1) pe_int) (pa_cons (pe_gi rfl T.BASE) pa_nil))) pe_int (fun _ _ => rfl)) (pa_cons (pe_ix ix_tup (pe_callB call_divmod rfl T.divmod b_divmod (pa_cons (pe_op op_sub (pv 2) pe_int) (pa_cons (pe_gi rfl T.BASE) pa_nil))) pe_int (fun _ _ => rfl)) pa_nil))) (pv 3))))), ?_⟩
    refine ⟨_, rfl, a, .int x, .int y, IL r, rfl, hs, by rw [il_len]; exact hl, fun p np => ?_⟩
    have h1 : upd H p (.lst (IL r)) p = some (.lst (IL r)) := upd_same
    have k1 : Kp No H (upd H p (.lst (IL r))) := Kp.new _ np
    generalize upd H p (.lst (IL r)) = H1 at h1 k1
    refine ⟨_, rfl, _, _, rfl, rfl, _, _, rfl, ⟨by decide, by decide⟩, fun q nq => ?_⟩
    have h2 := upd_keep (u := .tup [.int ((x + 1) / 95), .int ((x + 1) % 95)]) nq h1
    have k2 := k1.trans (Kp.new (W := No) (.tup [.int ((x + 1) / 95), .int ((x + 1) % 95)]) nq)
    refine ⟨q, _, 1, _, rfl, rfl, SqT.of upd_same, rfl, ?_⟩
    generalize upd H1 q (.tup [.int ((x + 1) / 95), .int ((x + 1) % 95)]) = H2 at h2 k2
    refine ⟨_, rfl, _, _, rfl, rfl, _, _, rfl, ⟨by decide, by decide⟩, fun q nq => ?_⟩
    have h3 := upd_keep (u := .tup [.int ((y - 1) / 95), .int ((y - 1) % 95)]) nq h2
    have k3 := k2.trans (Kp.new (W := No) (.tup [.int ((y - 1) / 95), .int ((y - 1) % 95)]) nq)
    refine ⟨q, _, 1, _, rfl, rfl, SqT.of upd_same, rfl, ?_⟩
    generalize upd H2 q (.tup [.int ((y - 1) / 95), .int ((y - 1) % 95)]) = H3 at h3 k3
    refine ⟨smle (by show 2 ≤ 16000; decide), fun t nt => ⟨_, rfl, t, p, _, _, rfl, rfl, upd_same, upd_keep nt h3, smle (by rw [il_len]; show 2 + r.length ≤ 16000; omega), fun z nz => ?_⟩⟩
    refine k z _ ((k3.trans (Kp.new _ nt)).trans (Kp.new _ nz)) ((k3.trans (Kp.new _ nt)).free nz) ?_
    rw [upd_same]
    rfl
/-! ### check, are_apart -/
def spCheck : Sp := fun vs H Q _ => ∃ (a : Addr) (xs : List Int) (k : Int), vs = [.ref a, .int k] ∧ SqT K H a (IL xs) ∧ xs.length ≤ 1000 ∧ Kind k ∧ RTup (IL (chk k xs)) H Q
theorem sc_check : FnScope ["signs", "kind", "values"] ["signs", "kind"] (defScope (top 16)) := ⟨rfl, rfl, rfl, by decide +kernel, rfl, by decide +kernel, by decide +kernel⟩
theorem ok_check (T : Txt K mg C aL aO) (F : FunP K "check" (top 16) f fd) (cvalues_of : Cal P w K mg base 1 "values_of" (spValuesOf (K := K))) (cwritten : Cal P w K mg base 1 "written" spWritten)
    (cleft_of : CalK P w K mg base 1 1 ["base", "by"] "left_of" (spLeftOf (K := K))) : FnOk P w K mg base CX0 2 f fd ["signs", "kind"] (spCheck (K := K)) := by
  refine F.ok sc_check (fun vs H Q E h => ?_) (fun cdv A outer s H vs Q E hr h => ?_)
  · obtain ⟨a, xs, k, rfl, _⟩ := h; rfl
  · obtain ⟨a, xs, k, rfl, hs, hl, hk, kk⟩ := h
    have kp3 := kind_pos hk
    refine ⟨_, PSs.nox (pss_cons (ps_set (i := 2) sc_check.nd rfl (.inl rfl) (pe_cc cvalues_of hr (by decide) rfl (pa_cons (pv 0) pa_nil)))
  (pss_cons (ps_if (pt_cmpR op_eq (pv 1) pe_int (nomark _))
    (pss_one (ps_ret (pe_cc cwritten hr (by decide) rfl (pa_cons (pe_ix ix_tup (pe_callB call_divmod rfl T.divmod b_divmod (pa_cons (pe_callB (cr_sum rfl) rfl T.sum b_sum (pa_cons (pv 2) pa_nil)) (pa_cons (pe_by rfl T.BY (pv 1)) pa_nil))) pe_int (fun _ _ => rfl)) (pa_cons (pv 1) pa_nil)))))
    pss_nil)
  (pss_one (ps_ret (pe_cc cwritten hr (by decide) rfl (pa_cons (pe_ck cleft_of hr (by decide) rfl (pa_cons (pv 2) pa_nil) (pk_cons (pe_gi rfl T.BASE) (pk_cons (pe_by rfl T.BY (pv 1)) pk_nil))) (pa_cons (pv 1) pa_nil))))))), ?_⟩
    refine ⟨_, rfl, a, xs, rfl, hs, hl, fun p H1 k1 n1 h1 => ?_⟩
    refine ⟨_, rfl, rfl, ⟨_, rfl, ?_⟩⟩
    by_cases e : k = 1
    · subst e
      refine goT rfl ?_
      refine ⟨_, rfl, p, vals xs, rfl, SqL.of h1, _, rfl, _, rfl, .inl rfl, _, _, rfl, ⟨by decide, by decide⟩, fun q nq => ?_⟩
      refine ⟨q, _, 1, _, rfl, rfl, SqT.of upd_same, rfl, _, rfl, _, _, rfl, by decide, by decide, fun t H2 k2 h2 => ?_⟩
      exact kk t H2 ((k1.trans (Kp.new _ nq)).trans k2) h2
    · refine goF (by simp [e]) ?_
      refine ⟨_, rfl, _, rfl, _, rfl, hk, rfl, rfl, p, vals xs, 95, md k, rfl, SqL.of h1, by decide, by decide, md_pos k, ?_, fun H2 k2 => ?_⟩
      · rcases hk with rfl | rfl | rfl <;> decide
      · refine ⟨_, rfl, _, k, rfl, by omega, by omega, fun t H3 k3 h3 => ?_⟩
        refine kk t H3 ((k1.trans k2).trans k3) ?_
        rw [h3]
        unfold chk tot
        rw [if_neg e]
def spAreApart : Sp := fun vs H Q _ => ∃ (a b : Addr) (xs ys : List Int) (k : Int), vs = [.ref a, .ref b, .int k] ∧ SqT K H a (IL xs) ∧ SqT K H b (IL ys) ∧ xs.length ≤ 1000 ∧ ys.length ≤ 1000 ∧ Kind k ∧
  ∀ H', Kp No H H' → Q (.bl (decide (xs.length ≠ ys.length ∨ chk k xs ≠ chk k ys))) H'
theorem sc_are_apart : FnScope ["one", "other", "kind"] ["one", "other", "kind"] (defScope (top 17)) := ⟨rfl, rfl, rfl, by decide +kernel, rfl, by decide +kernel, by decide +kernel⟩
theorem ok_are_apart {dvs : List V} {kws : List (Str × V)} (T : Txt K mg C aL aO) (F : FunD K "are_apart" "are_apart" (defArgs (top 17)) (defBody (top 17)) (defScope (top 17)) dvs kws f fd) (ccheck : Cal P w K mg base 2 "check" (spCheck (K := K))) :
    FnOk P w K mg base CX0 3 f fd ["one", "other", "kind"] (spAreApart (K := K)) := by
  refine F.ok sc_are_apart (fun vs H Q E h => ?_) (fun cdv A outer s H vs Q E hr h => ?_)
  · obtain ⟨a, b, xs, ys, k, rfl, _⟩ := h; rfl
  · obtain ⟨a, b, xs, ys, k, rfl, ha, hb, lx, ly, hk, kk⟩ := h
    refine ⟨_, PSs.nox (pss_one (ps_ret (pe_or (pe_cmpR op_ne (pe_callB call_len_seq rfl T.len b_len (pa_cons (pv 0) pa_nil)) (pe_callB call_len_seq rfl T.len b_len (pa_cons (pv 1) pa_nil)) (nomark _)) (pe_one (pe_cmpR (op_neD hr.units) (pe_cc ccheck hr (by decide) rfl (pa_cons (pv 0) (pa_cons (pv 2) pa_nil))) (pe_cc ccheck hr (by decide) rfl (pa_cons (pv 1) (pa_cons (pv 2) pa_nil))) (nomark _)))))), ?_⟩
    refine ⟨_, rfl, a, _, rfl, .inr ha, _, rfl, b, _, rfl, .inr hb, rfl, _, rfl, ?_⟩
    by_cases e : xs.length = ys.length
    · refine goF (by simp [il_len, e]) ?_
      refine ⟨_, rfl, _, rfl, a, xs, k, rfl, ha, lx, hk, fun p H1 k1 h1 => ⟨_, rfl, _, rfl, b, ys, k, rfl, k1.seqT hb, ly, hk, fun q H2 k2 h2 => ?_⟩⟩
      refine ⟨_, _, dp_tup (k2.seqT (SqT.of h1)), dp_tup (SqT.of h2), shaped_tup _, shaped_tup _, ?_⟩
      have e2 : (!PyData.eqv (.tuple (DI (chk k xs))) (.tuple (DI (chk k ys)))) = decide (xs.length ≠ ys.length ∨ chk k xs ≠ chk k ys) := by rw [eqv_tup]; simp [e]
      rw [e2]
      exact kk H2 (k1.trans k2)
    · refine goT (by simp [il_len]; omega) ?_
      have e2 : true = decide (xs.length ≠ ys.length ∨ chk k xs ≠ chk k ys) := by simp [e]
      show Q (.bl true) H
      rw [e2]
      exact kk H (Kp.refl _)
end
end NP
namespace NP
open PySem L2 PySem.Spec PyProof.Rows
/-! ### heaps again: from an entry on -/
theorem Kp.set {W : Addr → Prop} {H H' : Hp} {p : Addr} {o : HO} (k : Kp W H H') (u : HO) (h : H' p = some o) (m : isMut o = true) (w : W p ∨ H p = none) : Kp W H (upd H' p u) := by
  have k2 : Kp (fun b => W b ∨ b = p) H (upd H' p u) := (k.mono fun _ q => .inl q).trans (Kp.put u h m (.inr rfl))
  refine ⟨fun b v e n => k2.keep b v e fun q => q.elim n fun q => ?_, k2.tup, k2.frz, k2.there⟩
  rcases w with w | w
  · exact n (q ▸ w)
  · rw [q, w] at e; cases e
theorem Kp.alloc {W : Addr → Prop} {H H' : Hp} {p : Addr} (k : Kp W H H') (u : HO) (n : H' p = none) : Kp W H (upd H' p u) := k.trans (Kp.new u n)
theorem Kp.call {W W2 : Addr → Prop} {H H1 H2 : Hp} (k : Kp W H H1) (k2 : Kp W2 H1 H2) (w : ∀ b, W2 b → W b ∨ H b = none) : Kp W H H2 := by
  refine ⟨fun b o e n => k2.keep b o (k.keep b o e n) fun q => (w b q).elim n fun q => ?_, fun b xs e => k2.tup b xs (k.tup b xs e), fun b o u e => k2.frz b o u (k.frz b o u e), fun b e => k2.there b (k.there b e)⟩
  rw [q] at e; cases e
/-! ### data without lists stand for ever -/
mutual
def noL : PyData → Bool
  | .none | .int _ | .bool _ | .str _ => true
  | .tuple xs => noLs xs
  | .list _ | .dict _ => false
def noLs : List PyData → Bool
  | [] => true
  | x :: xs => noL x && noLs xs
end
theorem noLs_ints : ∀ xs : List Int, noLs (DI xs) = true
  | [] => rfl
  | x :: xs => by show (noL (.int x) && noLs (DI xs)) = true; rw [noLs_ints xs]; rfl
mutual
theorem dp_kp {W : Addr → Prop} {K : PySem.W.Frag} {H H' : Hp} (k : Kp W H H') : ∀ (d : PyData) (v : V), noL d = true → Dp K H v d → Dp K H' v d
  | .none, _, _, h => by cases h; exact .non
  | .bool b, _, _, h => by cases h; exact .bl b
  | .int i, _, _, h => by cases h; exact .int i
  | .str x, _, _, h => by cases h; exact .str x
  | .tuple ds, _, n, h => by cases h with | tup h1 h2 => exact .tup (k.seqT h1) (dpAll_kp k ds _ n h2)
  | .list _, _, n, _ => by cases n
  | .dict _, _, n, _ => by cases n
theorem dpAll_kp {W : Addr → Prop} {K : PySem.W.Frag} {H H' : Hp} (k : Kp W H H') : ∀ (ds : List PyData) (vs : List V), noLs ds = true → DpAll K H vs ds → DpAll K H' vs ds
  | [], _, _, h => by cases h; exact .nil
  | d :: ds, _, n, h => by
    have n2 : noL d = true ∧ noLs ds = true := Bool.and_eq_true_iff.mp n
    cases h with
    | cons h1 h2 => exact .cons (dp_kp k d _ n2.1 h1) (dpAll_kp k ds _ n2.2 h2)
end
theorem dpAll_app {K : PySem.W.Frag} {H : Hp} : ∀ {vs ws : List V} {ds es : List PyData}, DpAll K H vs ds → DpAll K H ws es → DpAll K H (vs ++ ws) (ds ++ es)
  | _, _, _, _, .nil, h => h
  | _, _, _, _, .cons a b, h => .cons a (dpAll_app b h)
theorem dpAll_len {K : PySem.W.Frag} {H : Hp} : ∀ {vs : List V} {ds : List PyData}, DpAll K H vs ds → vs.length = ds.length
  | _, _, .nil => rfl
  | _, _, .cons _ b => congrArg (· + 1) (dpAll_len b)
/-! ### what a scanner tells -/
def evD : Ev → PyData
  | .bad a => .tuple [.str "bad", .none, .int a]
  | .good n c d a => .tuple [.str "good", .tuple [.int n, .str ⟨#[c.toNat]⟩, .tuple (DI d)], .int a]
theorem noL_ev (e : Ev) : noL (evD e) = true := by
  cases e with
  | bad a => rfl
  | good n c d a =>
    show (true && ((true && (true && (noLs (DI d) && true))) && (true && true))) = true
    rw [noLs_ints]
    rfl
theorem noLs_evs : ∀ es : List Ev, noLs (es.map evD) = true
  | [] => rfl
  | e :: es => by show (noL (evD e) && noLs (es.map evD)) = true; rw [noL_ev, noLs_evs es]; rfl
theorem step_few (S : Sc) (s : Int) : (stepS S s).1.length ≤ 1 := by
  unfold stepS
  split
  · split <;> simp
  · split
    · show (known _).1.length ≤ 1
      unfold known
      split
      · simp
      · split <;> simp
    · simp
theorem feed_few : ∀ (xs : List Int) (S : Sc), (feedS S xs).1.length ≤ xs.length
  | [], _ => Nat.le_refl _
  | x :: xs, S => by
    show ((stepS S x).1 ++ (feedS (stepS S x).2 xs).1).length ≤ xs.length + 1
    rw [List.length_append]
    have := step_few S x
    have := feed_few xs (stepS S x).2
    omega
/-! ### a scanner in the heap -/
def atV : Option Int → V
  | none => .non
  | some n => .int n
def flds (S : Sc) (l : Addr) : List (Str × V) := [("now_kind", .int S.kind), ("many_fed", .int S.fed), ("begun_at", atV S.at_), ("begun_mark", .int S.mark), ("begun_check", .int S.chk), ("begun_signs", .ref l)]
structure ScAt (C : Addr) (H : Hp) (x l : Addr) (S : Sc) : Prop where
  ins : ∃ dx, H x = some (.ins C dx (flds S l))
  sg : H l = some (.lst (IL S.sg))
theorem ScAt.ne {C : Addr} {H : Hp} {x l : Addr} {S : Sc} (h : ScAt C H x l S) : x ≠ l := by
  obtain ⟨dx, e⟩ := h.ins
  exact ne_of e h.sg (by intro q; cases q)
theorem ScAt.kp {C : Addr} {H H' : Hp} {x l : Addr} {S : Sc} {W : Addr → Prop} (h : ScAt C H x l S) (k : Kp W H H') (n1 : ¬ W x) (n2 : ¬ W l) : ScAt C H' x l S := by
  obtain ⟨dx, e⟩ := h.ins
  exact ⟨⟨dx, k.keep _ _ e n1⟩, k.keep _ _ h.sg n2⟩
/-- a packet in the heap -/
def PkAt (H : Hp) (p : Addr) (n c : Int) (d : List Int) : Prop := ∃ q, H p = some (.tup [.int n, ltr c, .ref q]) ∧ H q = some (.tup (IL d))
theorem PkAt.kp {H H' : Hp} {p : Addr} {n c : Int} {d : List Int} {W : Addr → Prop} (h : PkAt H p n c d) (k : Kp W H H') : PkAt H' p n c d := by
  obtain ⟨q, h1, h2⟩ := h
  exact ⟨q, k.tup _ _ h1, k.tup _ _ h2⟩
section
variable {P : Program} {w : World} {K : PySem.W.Frag} {mg : Str → Option Value} {base : Heap} {C aL aO : Addr} {f : Addr} {fd : FuncData}
/-! ### twin -/
def RTupO (o : Option (List Int)) (H : Hp) (Q : VK) : Prop := ∀ H', Kp No H H' → (o = none → Q .non H') ∧ ∀ ys p, o = some ys → H' p = some (.tup (IL ys)) → Q (.ref p) H'
def spTwin : Sp := fun vs H Q _ => ∃ (a : Addr) (xs : List Int) (k : Int), vs = [.ref a, .int k] ∧ SqT K H a (IL xs) ∧ xs.length ≤ 1000 ∧ Kind k ∧ RTupO (twin k xs) H Q
theorem sc_twin : FnScope ["signs", "kind", "values", "found"] ["signs", "kind"] (defScope (top 19)) := ⟨rfl, rfl, rfl, by decide +kernel, rfl, by decide +kernel, by decide +kernel⟩
theorem ok_twin {dvs : List V} {kws : List (Str × V)} (T : Txt K mg C aL aO) (F : FunD K "twin" "twin" (defArgs (top 19)) (defBody (top 19)) (defScope (top 19)) dvs kws f fd) (cvalues_of : Cal P w K mg base 1 "values_of" (spValuesOf (K := K)))
    (ctwin_by_sum : Cal P w K mg base 1 "twin_by_sum" (spTwinBySum (K := K))) (csigns_of : Cal P w K mg base 1 "signs_of" (spSignsOf (K := K))) (cnear : CalK P w K mg base 2 2 ["base"] "near" (spNear (K := K))) :
    FnOk P w K mg base CX0 3 f fd ["signs", "kind"] (spTwin (K := K)) := by
  refine F.ok sc_twin (fun vs H Q E h => ?_) (fun cdv A outer s H vs Q E hr h => ?_)
  · obtain ⟨a, xs, k, rfl, _⟩ := h; rfl
  · obtain ⟨a, xs, k, rfl, hs, hl, hk, kk⟩ := h
    refine ⟨_, PSs.nox (pss_cons (ps_set (i := 2) sc_twin.nd rfl (.inl rfl) (pe_cc cvalues_of hr (by decide) rfl (pa_cons (pv 0) pa_nil)))
  (pss_cons (ps_if (pt_cmpR op_eq (pv 1) pe_int (nomark _))
    (pss_one (ps_set (i := 3) sc_twin.nd rfl (.inl rfl) (pe_ifExp (pt_cmpR op_gt (pe_callB call_len_seq rfl T.len b_len (pa_cons (pv 2) pa_nil)) pe_int (nomark _)) (pe_cc ctwin_by_sum hr (by decide) rfl (pa_cons (pv 2) pa_nil)) pe_non)))
    (pss_one (ps_set (i := 3) sc_twin.nd rfl (.inl rfl) (pe_ck cnear hr (by decide) rfl (pa_cons (pv 2) (pa_cons (pe_by rfl T.BY (pv 1)) pa_nil)) (pk_cons (pe_gi rfl T.BASE) pk_nil)))))
  (pss_one (ps_ret (pe_ifExp (pt_cmpR op_isN (pv 3) pe_non (nomark _)) pe_non (pe_cc csigns_of hr (by decide) rfl (pa_cons (pv 3) pa_nil))))))), ?_⟩
    refine ⟨_, rfl, a, xs, rfl, hs, hl, fun p H1 k1 n1 h1 => ?_⟩
    -- the last row, by what was found
    have last : ∀ (o : Option (List Int)) (H2 : Hp) (v : V), Kp No H H2 → (twin k xs = o.map signs) → (o = none → v = .non) → (∀ ws, o = some ws → ∃ q, v = .ref q ∧ H2 q = some (.lst (IL ws)) ∧ ws.length ≤ 1000) →
        (decide (v = .non) = true → Q .non H2) ∧ (decide (v = .non) = false → ∃ q ws, v = .ref q ∧ SqL K H2 q (IL ws) ∧ ws.length ≤ 1000 ∧ RTup (IL (signs ws)) H2 Q) := by
      intro o H2 v k2 e en es
      cases o with
      | none =>
        rw [en rfl]
        exact ⟨fun _ => (kk H2 k2).1 e, fun z => by simp at z⟩
      | some ws =>
        obtain ⟨q, rfl, hq, hw⟩ := es ws rfl
        exact ⟨fun z => by simp at z, fun _ => ⟨q, ws, rfl, SqL.of hq, hw, fun t H3 k3 h3 => (kk H3 (k2.trans k3)).2 _ t e h3⟩⟩
    refine ⟨_, rfl, rfl, ⟨_, rfl, ?_⟩⟩
    by_cases e : k = 1
    · subst e
      refine goT rfl ?_
      refine ⟨_, rfl, p, _, rfl, .inl (SqL.of h1), _, _, rfl, rfl, _, rfl, ?_⟩
      match xs, hs, hl, h1, kk, last with
      | [], hs, hl, h1, kk, last =>
        refine goF rfl ?_
        have L := last none H1 .non k1 rfl (fun _ => rfl) (fun ws e => by cases e)
        exact ⟨_, rfl, rfl, _, rfl, goT rfl (L.1 rfl)⟩
      | [x], hs, hl, h1, kk, last =>
        refine goF rfl ?_
        have L := last none H1 .non k1 rfl (fun _ => rfl) (fun ws e => by cases e)
        exact ⟨_, rfl, rfl, _, rfl, goT rfl (L.1 rfl)⟩
      | x :: y :: r, hs, hl, h1, kk, last =>
        refine goT (by simp [il_len, vals_len]; omega) ?_
        refine ⟨_, rfl, p, x - 32, y - 32, vals r, rfl, SqL.of h1, by rw [vals_len]; simp at hl; omega, fun q H2 k2 n2 h2 => ?_⟩
        have L := last (some ((x - 32 + 1) % 95 :: (y - 32 - 1) % 95 :: vals r)) H2 (.ref q) (k1.trans k2) rfl (fun e => by cases e) (fun ws e => by
          cases e
          exact ⟨q, rfl, h2, by simp [vals_len] at hl ⊢; omega⟩)
        obtain ⟨q', ws, e1, hq, hw, hR⟩ := L.2 (by simp)
        cases e1
        exact ⟨_, rfl, rfl, _, rfl, goF (by simp) ⟨_, rfl, q, ws, rfl, hq, hw, hR⟩⟩
    · refine goF (by simp [e]) ?_
      have et : twin k xs = (near 95 (vals xs) (md k)).map signs := by unfold twin; rw [if_neg e]
      refine ⟨_, rfl, _, rfl, _, rfl, hk, rfl, rfl, p, vals xs, md k, 95, rfl, SqL.of h1, by rw [vals_len]; exact hl, by decide, by decide, fun H2 k2 => ⟨fun z => ?_, fun ws q z nq hq => ?_⟩⟩
      · have L := last none H2 .non (k1.trans k2) (by rw [et, z]) (fun _ => rfl) (fun ws e => by cases e)
        exact ⟨_, rfl, rfl, _, rfl, goT rfl (L.1 rfl)⟩
      · have hw : ws.length ≤ 1000 := by rw [(near_some (by decide) z).1, vals_len]; exact hl
        have L := last (some ws) H2 (.ref q) (k1.trans k2) (by rw [et, z]) (fun e => by cases e) (fun ws' e => by cases e; exact ⟨q, rfl, hq, hw⟩)
        obtain ⟨q', ws', e1, hq', hw', hR⟩ := L.2 (by simp)
        cases e1
        exact ⟨_, rfl, rfl, _, rfl, goF (by simp) ⟨_, rfl, q, ws', rfl, hq', hw', hR⟩⟩
/-! ### mark_of, letter_of -/
theorem in_opens {c : Int} (h : c ∈ lets) : inV (ltr c) (opens.map ltr) = decide (c ∈ opens) := by
  unfold lets at h
  simp at h
  rcases h with rfl | rfl | rfl | rfl | rfl | rfl | rfl | rfl | rfl | rfl | rfl <;> decide +kernel
def spMarkOf : Sp := fun vs H Q _ => ∃ c : Int, vs = [ltr c] ∧ c ∈ lets ∧ Q (.int (markOf c)) H
theorem sc_mark_of : FnScope ["letter"] ["letter"] (defScope (top 28)) := ⟨rfl, rfl, rfl, by decide +kernel, rfl, by decide +kernel, by decide +kernel⟩
theorem ok_mark_of (T : Txt K mg C aL aO) (F : FunP K "mark_of" (top 28) f fd) : FnOk P w K mg base CX0 1 f fd ["letter"] spMarkOf := by
  refine F.ok sc_mark_of (fun vs H Q E h => ?_) (fun cdv A outer s H vs Q E hr h => ?_)
  · obtain ⟨c, rfl, _⟩ := h; rfl
  · obtain ⟨c, rfl, hc, k⟩ := h
    refine ⟨_, PSs.nox (pss_cons (ps_if (pt_cmpR op_in_seq (pv 0) (pe_gt rfl T.gOPENING) (by rfl))
    (pss_one (ps_ret (pe_gi rfl T.OPENING_MARK)))
    pss_nil)
  (pss_one (ps_ret (pe_gi rfl T.MARK)))), ?_⟩
    refine ⟨_, rfl, aO, _, rfl, .inr (T.sOPENING H), rfl, by decide +kernel, _, rfl, ?_⟩
    unfold markOf at k
    by_cases h : c ∈ opens
    · refine goT (by rw [if_neg (by decide), in_opens hc]; exact decide_eq_true h) ?_
      rw [if_pos h] at k
      exact k
    · refine goF (by rw [if_neg (by decide), in_opens hc]; exact decide_eq_false h) ?_
      rw [if_neg h] at k
      exact k
def letV : Option Int → V
  | none => .non
  | some c => ltr c
def spLetterOf : Sp := fun vs H Q _ => ∃ s m : Int, vs = [.int s, .int m] ∧ Q (letV (letterOf s m)) H
theorem sc_letter_of : FnScope ["sign", "mark", "letter"] ["sign", "mark"] (defScope (top 31)) := ⟨rfl, rfl, rfl, by decide +kernel, rfl, by decide +kernel, by decide +kernel⟩
theorem lets_at {i : Nat} {y : V} (h : (lets.map ltr)[i]? = some y) : ∃ c, lets[i]? = some c ∧ y = ltr c ∧ c ∈ lets := by
  rw [List.getElem?_map] at h
  cases e : lets[i]? with
  | none => rw [e] at h; exact nomatch h
  | some c => rw [e] at h; exact ⟨c, rfl, (Option.some.inj h).symm, List.mem_of_getElem? e⟩
theorem ok_letter_of (T : Txt K mg C aL aO) (F : FunP K "letter_of" (top 31) f fd) (cmark_of : Cal P w K mg base 1 "mark_of" spMarkOf) : FnOk P w K mg base CX0 2 f fd ["sign", "mark"] spLetterOf := by
  refine F.ok sc_letter_of (fun vs H Q E h => ?_) (fun cdv A outer s H vs Q E hr h => ?_)
  · obtain ⟨s, m, rfl, _⟩ := h; rfl
  · obtain ⟨s, m, rfl, k⟩ := h
    refine ⟨_, PSs.nox (pss_cons (ps_for PassesOwn.never rfl (pi_tup (pe_gt rfl T.gLETTERS)) (pg_name (i := 2) sc_letter_of.nd rfl (.inl rfl))
    (pss_one (ps_if (PW.pt (pw_and (pt_cmpR op_eq (pe_callB call_ord rfl T.ord b_ord (pa_cons (pv 2) pa_nil)) (pv 0) (nomark _)) (pw_and1 (pt_cmpR op_eq (pe_cc cmark_of hr (by decide) rfl (pa_cons (pv 2) pa_nil)) (pv 1) (nomark _)))))
    (pss_one (ps_ret (pv 2)))
    pss_nil)))
  (pss_one (ps_ret pe_non))), ?_⟩
    refine ⟨aL, rfl, ⟨_, T.sLETTERS H⟩, for_tup (K := K) (a := aL) (xs := lets.map ltr) (fun i σ H' => ∃ t : Option V, H' = H ∧ σ = [some (.int s), some (.int m), t] ∧ letterOf s m = (lets.drop i).find? fun c => decide (c = s) && decide (markOf c = m)) ⟨none, rfl, rfl, rfl⟩ ?_ ?_ ?_⟩
    · rintro i σ H' _ ⟨_, rfl, _⟩; exact T.sLETTERS _
    · rintro i x σ H' hx ⟨t, rfl, rfl, hL⟩
      obtain ⟨c, hc, rfl, hm⟩ := lets_at hx
      have ed : lets.drop i = c :: lets.drop (i + 1) := by
        obtain ⟨hi, e⟩ := List.getElem?_eq_some_iff.mp hc
        rw [List.drop_eq_getElem_cons hi, e]
      rw [ed] at hL
      have pl := lets_plain hm
      have eo : ((c.toNat : Nat) : Int) = c := Int.toNat_of_nonneg (by omega)
      refine ⟨_, rfl, _, rfl, rfl, _, rfl, rfl, _, rfl, ?_⟩
      have e1 : decide (V.int (((⟨#[c.toNat]⟩ : Str).cps.getD 0 0 : Nat) : Int) = V.int s) = decide (c = s) := by
        show decide (V.int ((c.toNat : Nat) : Int) = V.int s) = _
        rw [eo, dec_int]
        by_cases h : c = s <;> simp [h]
      by_cases h1 : c = s
      · refine goT (by rw [e1]; exact decide_eq_true h1) ?_
        refine ⟨_, rfl, c, rfl, hm, _, rfl, rfl, _, rfl, ?_⟩
        by_cases h2 : markOf c = m
        · refine goT (by simp [h2]) ?_
          refine ⟨_, rfl, ?_⟩
          rw [List.find?_cons_of_pos (by rw [decide_eq_true h1, decide_eq_true h2]; rfl)] at hL
          rw [hL] at k
          exact k
        · refine goF (by simp [h2]) ?_
          refine ⟨_, rfl, rfl, ?_⟩
          rw [List.find?_cons_of_neg (by simp [h2])] at hL
          exact hL
      · refine goF (by rw [e1]; exact decide_eq_false h1) ?_
        refine ⟨_, rfl, rfl, ?_⟩
        rw [List.find?_cons_of_neg (by simp [h1])] at hL
        exact hL
    · rintro σ H' ⟨t, rfl, rfl, hL⟩
      have e : letterOf s m = none := by rw [hL]; rfl
      rw [e] at k
      exact k
end
end NP
namespace NP
open PySem L2 PySem.Spec PyProof.Rows
/-! ### places of slices -/
theorem cut_map {α : Type} (xs : List Int) (lo hi : Option Int) : cutV (IL xs) lo hi = IL ((xs.drop (HT.sIx xs.length 0 lo)).take (HT.sIx xs.length xs.length hi - HT.sIx xs.length 0 lo)) := by
  unfold cutV
  rw [il_len, ← List.map_drop, ← List.map_take]
theorem sIx_neg {n d : Nat} {k : Int} (h : 0 < k) : HT.sIx n d (some (-k)) = ((n : Int) - k).toNat := by
  show (if -k < 0 then (-k + (n : Int)).toNat else min (-k).toNat n) = _
  rw [if_pos (by omega)]
  congr 1
  omega
theorem sIx_pos {n d : Nat} {k : Int} (h : 0 ≤ k) : HT.sIx n d (some k) = min k.toNat n := by
  show (if k < 0 then (k + (n : Int)).toNat else min k.toNat n) = _
  rw [if_neg (by omega)]
/-- xs[:k], xs[k:], xs[:-k], xs[-k:] -/
theorem cut_to {xs : List Int} {k : Int} (h : 0 ≤ k) : cutV (IL xs) none (some k) = IL (xs.take k.toNat) := by
  rw [cut_map (α := Int), sIx_pos h]
  show IL ((xs.drop 0).take (min k.toNat xs.length - 0)) = _
  rw [List.drop_zero, Nat.sub_zero, ← List.take_take, List.take_length]
theorem cut_from {xs : List Int} {k : Int} (h : 0 ≤ k) : cutV (IL xs) (some k) none = IL (xs.drop k.toNat) := by
  rw [cut_map (α := Int), sIx_pos h]
  show IL ((xs.drop (min k.toNat xs.length)).take (xs.length - min k.toNat xs.length)) = _
  congr 1
  by_cases q : k.toNat ≤ xs.length
  · rw [Nat.min_eq_left q, ← List.length_drop, List.take_length]
  · rw [Nat.min_eq_right (by omega), List.drop_length, List.drop_eq_nil_of_le (by omega), List.take_nil]
theorem cut_but {xs : List Int} {k : Int} (h : 0 < k) : cutV (IL xs) none (some (-k)) = IL (xs.take (xs.length - k.toNat)) := by
  rw [cut_map (α := Int), sIx_neg h]
  show IL ((xs.drop 0).take (((xs.length : Int) - k).toNat - 0)) = _
  rw [List.drop_zero, Nat.sub_zero, show ((xs.length : Int) - k).toNat = xs.length - k.toNat by omega]
theorem cut_last {xs : List Int} {k : Int} (h : 0 < k) : cutV (IL xs) (some (-k)) none = IL (xs.drop (xs.length - k.toNat)) := by
  rw [cut_map (α := Int), sIx_neg h]
  show IL ((xs.drop ((xs.length : Int) - k).toNat).take (xs.length - ((xs.length : Int) - k).toNat)) = _
  rw [show ((xs.length : Int) - k).toNat = xs.length - k.toNat by omega, ← List.length_drop, List.take_length]
theorem cut_mid {xs : List Int} {i k : Int} (h : 0 ≤ i) (h2 : i ≤ k) (h3 : k ≤ xs.length) : cutV (IL xs) (some i) (some k) = IL ((xs.drop i.toNat).take (k.toNat - i.toNat)) := by
  rw [cut_map (α := Int), sIx_pos h, sIx_pos (by omega), Nat.min_eq_left (by omega), Nat.min_eq_left (by omega)]
theorem in_marks (s : Int) : inV (.int s) [.int 1, .int 2] = decide (s = 1 ∨ s = 2) := by
  show ((1 : Int) == s || ((2 : Int) == s || false)) = _
  by_cases a : s = 1
  · subst a; rfl
  · by_cases b : s = 2
    · subst b; rfl
    · rw [beq_eq_false_iff_ne.mpr (fun q => a q.symm), beq_eq_false_iff_ne.mpr (fun q => b q.symm)]
      simp [a, b]
theorem seq_tup_at {xs : List Int} {i : Nat} {n : Int} (h : xs[i]? = some n) : atI (IL xs) (i : Int) = some (.int n) := atI_nat (by rw [List.getElem?_map, h]; rfl)
section
variable {P : Program} {w : World} {K : PySem.W.Frag} {mg : Str → Option Value} {base : Heap} {C aL aO : Addr} {f : Addr} {fd : FuncData}
abbrev FunM (K : PySem.W.Frag) (x q : Str) (st : Stmt) (f : Addr) (fd : FuncData) : Prop := FunD K x q (defArgs st) (defBody st) (defScope st) [] [] f fd
/-! ### __init__ -/
def sc0 (k : Int) : Sc := ⟨k, 0, none, 1, k, []⟩
def spInit (C : Addr) : Sp := fun vs H Q _ => ∃ (x dx : Addr) (k : Int), vs = [.ref x, .int k] ∧ H x = some (.ins C dx []) ∧ ∀ H' l, Kp (One x) H H' → H l = none → ScAt C H' x l (sc0 k) → Q .non H'
theorem sc_Scanner___init__ : FnScope ["self", "kind"] ["self", "kind"] (defScope (inClass (top 32) 0)) := ⟨rfl, rfl, rfl, by decide +kernel, rfl, by decide +kernel, by decide +kernel⟩
theorem ok_init {dvs : List V} {kws : List (Str × V)} (T : Txt K mg C aL aO) (F : FunD K "__init__" "Scanner.__init__" (defArgs (inClass (top 32) 0)) (defBody (inClass (top 32) 0)) (defScope (inClass (top 32) 0)) dvs kws f fd) : FnOk P w K mg base CX0 1 f fd ["self", "kind"] (spInit C) := by
  refine F.ok sc_Scanner___init__ (fun vs H Q E h => ?_) (fun cdv A outer s H vs Q E hr h => ?_)
  · obtain ⟨x, dx, k, rfl, _⟩ := h; rfl
  · obtain ⟨x, dx, k, rfl, hx, kk⟩ := h
    refine ⟨_, PSs.nox (pss_cons (ps_fld (pv 0) (pv 1) rfl)
  (pss_cons (ps_fld (pv 0) pe_int rfl)
  (pss_cons (ps_fld (pv 0) pe_non rfl)
  (pss_cons (ps_fld (pv 0) (pe_gi rfl T.MARK) rfl)
  (pss_cons (ps_fld (pv 0) (pv 1) rfl)
  (pss_one (ps_fld (pv 0) (pe_lst pa_nil) rfl))))))), ?_⟩
    refine ⟨_, rfl, _, rfl, x, C, dx, _, rfl, hx, T.cl, T.n1, by decide, ?_⟩
    have k1 := (Kp.refl (W := One x) H).set (.ins C dx (putF "now_kind" (.int k) [])) hx rfl (.inl rfl)
    refine ⟨_, rfl, x, C, dx, _, rfl, upd_same, T.cl, T.n2, by show 1 < 1000; decide, ?_⟩
    have k2 := k1.set (.ins C dx (putF "many_fed" (.int 0) (putF "now_kind" (.int k) []))) upd_same rfl (.inl rfl)
    refine ⟨_, rfl, x, C, dx, _, rfl, upd_same, T.cl, T.n3, by show 2 < 1000; decide, ?_⟩
    have k3 := k2.set (.ins C dx (putF "begun_at" .non (putF "many_fed" (.int 0) (putF "now_kind" (.int k) [])))) upd_same rfl (.inl rfl)
    refine ⟨_, rfl, x, C, dx, _, rfl, upd_same, T.cl, T.n4, by show 3 < 1000; decide, ?_⟩
    have k4 := k3.set (.ins C dx (putF "begun_mark" (.int 1) (putF "begun_at" .non (putF "many_fed" (.int 0) (putF "now_kind" (.int k) []))))) upd_same rfl (.inl rfl)
    refine ⟨_, rfl, _, rfl, x, C, dx, _, rfl, upd_same, T.cl, T.n5, by show 4 < 1000; decide, ?_⟩
    have k5 := k4.set (.ins C dx (putF "begun_check" (.int k) (putF "begun_mark" (.int 1) (putF "begun_at" .non (putF "many_fed" (.int 0) (putF "now_kind" (.int k) [])))))) upd_same rfl (.inl rfl)
    refine ⟨Nat.zero_le _, fun l nl => ?_⟩
    have k6 := k5.alloc (.lst []) nl
    have h6 := upd_keep (u := .lst []) nl (upd_same (H := upd (upd (upd (upd H x (.ins C dx (putF "now_kind" (.int k) []))) x (.ins C dx (putF "many_fed" (.int 0) (putF "now_kind" (.int k) [])))) x (.ins C dx (putF "begun_at" .non (putF "many_fed" (.int 0) (putF "now_kind" (.int k) []))))) x (.ins C dx (putF "begun_mark" (.int 1) (putF "begun_at" .non (putF "many_fed" (.int 0) (putF "now_kind" (.int k) [])))))) (a := x) (o := .ins C dx (putF "begun_check" (.int k) (putF "begun_mark" (.int 1) (putF "begun_at" .non (putF "many_fed" (.int 0) (putF "now_kind" (.int k) [])))))))
    refine ⟨_, rfl, x, C, dx, _, rfl, h6, T.cl, T.n6, by show 5 < 1000; decide, ?_⟩
    refine kk _ l (k6.set _ h6 rfl (.inl rfl)) (k5.free nl) ⟨⟨dx, upd_same⟩, ?_⟩
    have nxl : l ≠ x := fun q => by rw [q, upd_same] at nl; cases nl
    rw [upd_ne nxl, upd_same]
    rfl
/-! ### fed, begin, bad -/
def spFed (C : Addr) : Sp := fun vs H Q _ => ∃ (x l : Addr) (S : Sc), vs = [.ref x] ∧ ScAt C H x l S ∧ Q (.int S.fed) H
theorem sc_Scanner_fed : FnScope ["self"] ["self"] (defScope (inClass (top 32) 2)) := ⟨rfl, rfl, rfl, by decide +kernel, rfl, by decide +kernel, by decide +kernel⟩
theorem ok_fed (T : Txt K mg C aL aO) (F : FunM K "fed" "Scanner.fed" (inClass (top 32) 2) f fd) : FnOk P w K mg base CX0 1 f fd ["self"] (spFed C) := by
  refine F.ok sc_Scanner_fed (fun vs H Q E h => ?_) (fun cdv A outer s H vs Q E hr h => ?_)
  · obtain ⟨x, l, S, rfl, _⟩ := h; rfl
  · obtain ⟨x, l, S, rfl, hS, k⟩ := h
    obtain ⟨dx, hx⟩ := hS.ins
    refine ⟨_, PSs.nox (pss_one (ps_ret (pe_fld (pv 0) rfl))), ?_⟩
    exact ⟨_, rfl, x, C, dx, _, _, rfl, hx, T.cl, T.n2, rfl, k⟩
def spBegin (C : Addr) : Sp := fun vs H Q _ => ∃ (x l : Addr) (S : Sc) (m : Int), vs = [.ref x, .int m] ∧ ScAt C H x l S ∧ ∀ H' l', Kp (One x) H H' → H l' = none → ScAt C H' x l' (begun S m) → Q .non H'
theorem sc_Scanner_begin : FnScope ["self", "mark"] ["self", "mark"] (defScope (inClass (top 32) 5)) := ⟨rfl, rfl, rfl, by decide +kernel, rfl, by decide +kernel, by decide +kernel⟩
theorem ok_begin (T : Txt K mg C aL aO) (F : FunM K "begin" "Scanner.begin" (inClass (top 32) 5) f fd) : FnOk P w K mg base CX0 1 f fd ["self", "mark"] (spBegin C) := by
  refine F.ok sc_Scanner_begin (fun vs H Q E h => ?_) (fun cdv A outer s H vs Q E hr h => ?_)
  · obtain ⟨x, l, S, m, rfl, _⟩ := h; rfl
  · obtain ⟨x, l, S, m, rfl, hS, k⟩ := h
    obtain ⟨dx, hx⟩ := hS.ins
    refine ⟨_, PSs.nox (pss_cons (ps_fld (pv 0) (pe_fld (pv 0) rfl) rfl)
  (pss_cons (ps_fld (pv 0) (pv 1) rfl)
  (pss_cons (ps_fld (pv 0) (pe_ifExp (pt_cmpR op_eq (pv 1) (pe_gi rfl T.OPENING_MARK) (nomark _)) pe_int (pe_fld (pv 0) rfl)) rfl)
  (pss_one (ps_fld (pv 0) (pe_lst pa_nil) rfl))))), ?_⟩
    refine ⟨_, rfl, x, C, dx, _, _, rfl, hx, T.cl, T.n2, rfl, _, rfl, x, C, dx, _, rfl, hx, T.cl, T.n3, by show 6 < 1000; decide, ?_⟩
    have k1 := (Kp.refl (W := One x) H).set (.ins C dx (flds { S with at_ := some S.fed } l)) hx rfl (.inl rfl)
    have h1 : upd H x (.ins C dx (flds { S with at_ := some S.fed } l)) x = some (.ins C dx (flds { S with at_ := some S.fed } l)) := upd_same
    refine ⟨_, rfl, _, rfl, x, C, dx, _, rfl, h1, T.cl, T.n4, by show 6 < 1000; decide, ?_⟩
    have k2 := k1.set (.ins C dx (flds { S with at_ := some S.fed, mark := m } l)) h1 rfl (.inl rfl)
    have h2 : upd (upd H x (.ins C dx (flds { S with at_ := some S.fed } l))) x (.ins C dx (flds { S with at_ := some S.fed, mark := m } l)) x = some (.ins C dx (flds { S with at_ := some S.fed, mark := m } l)) := upd_same
    have fin : ∀ H2 : Hp, Kp (One x) H H2 → H2 x = some (.ins C dx (flds { S with at_ := some S.fed, mark := m, chk := if m = 2 then 1 else S.kind } l)) → ∀ l', H2 l' = none → ∀ H3, H3 = upd (upd H2 l' (.lst [])) x (.ins C dx (flds (begun S m) l')) → Q .non H3 := by
      rintro H2 kp e l' nl H3 rfl
      have h3 := upd_keep (u := .lst []) nl e
      refine k _ l' ((kp.alloc (.lst []) nl).set _ h3 rfl (.inl rfl)) (kp.free nl) ⟨⟨dx, upd_same⟩, ?_⟩
      rw [upd_ne (fun q => by rw [q] at nl; rw [nl] at e; cases e), upd_same]
      rfl
    refine ⟨_, rfl, rfl, ⟨_, rfl, ?_⟩⟩
    by_cases hm : m = 2
    · subst hm
      refine goT rfl ?_
      refine ⟨_, rfl, x, C, dx, _, rfl, h2, T.cl, T.n5, by show 6 < 1000; decide, Nat.zero_le _, fun l' nl => ?_⟩
      have h3 : upd (upd (upd H x (.ins C dx (flds { S with at_ := some S.fed } l))) x (.ins C dx (flds { S with at_ := some S.fed, mark := 2 } l))) x (.ins C dx (flds { S with at_ := some S.fed, mark := 2, chk := 1 } l)) x = some (.ins C dx (flds { S with at_ := some S.fed, mark := 2, chk := 1 } l)) := upd_same
      have k3 := k2.set (.ins C dx (flds { S with at_ := some S.fed, mark := 2, chk := 1 } l)) h2 rfl (.inl rfl)
      exact ⟨_, rfl, x, C, dx, _, rfl, upd_keep nl h3, T.cl, T.n6, by show 6 < 1000; decide, fin _ k3 h3 l' nl _ rfl⟩
    · refine goF (by simp [hm]) ?_
      refine ⟨_, rfl, x, C, dx, _, _, rfl, h2, T.cl, T.n1, rfl, _, rfl, x, C, dx, _, rfl, h2, T.cl, T.n5, by show 6 < 1000; decide, Nat.zero_le _, fun l' nl => ?_⟩
      have ec : (if m = 2 then 1 else S.kind) = S.kind := if_neg hm
      have h3 : upd (upd (upd H x (.ins C dx (flds { S with at_ := some S.fed } l))) x (.ins C dx (flds { S with at_ := some S.fed, mark := m } l))) x (.ins C dx (flds { S with at_ := some S.fed, mark := m, chk := S.kind } l)) x = some (.ins C dx (flds { S with at_ := some S.fed, mark := m, chk := S.kind } l)) := upd_same
      have k3 := k2.set (.ins C dx (flds { S with at_ := some S.fed, mark := m, chk := S.kind } l)) h2 rfl (.inl rfl)
      refine ⟨_, rfl, x, C, dx, _, rfl, upd_keep nl h3, T.cl, T.n6, by show 6 < 1000; decide, fin _ k3 (by rw [ec]; exact h3) l' nl _ ?_⟩
      unfold begun
      rw [ec]
      rfl
def spBad (C : Addr) : Sp := fun vs H Q _ => ∃ (x l : Addr) (S : Sc), vs = [.ref x] ∧ ScAt C H x l S ∧ ∀ H' p, Kp (One x) H H' → H p = none → ScAt C H' x l (close S) → H' p = some (.tup [.str "bad", .non, atV S.at_]) → Q (.ref p) H'
theorem sc_Scanner_bad : FnScope ["self", "at"] ["self"] (defScope (inClass (top 32) 6)) := ⟨rfl, rfl, rfl, by decide +kernel, rfl, by decide +kernel, by decide +kernel⟩
theorem ok_bad (T : Txt K mg C aL aO) (F : FunM K "bad" "Scanner.bad" (inClass (top 32) 6) f fd) : FnOk P w K mg base CX0 1 f fd ["self"] (spBad C) := by
  refine F.ok sc_Scanner_bad (fun vs H Q E h => ?_) (fun cdv A outer s H vs Q E hr h => ?_)
  · obtain ⟨x, l, S, rfl, _⟩ := h; rfl
  · obtain ⟨x, l, S, rfl, hS, k⟩ := h
    obtain ⟨dx, hx⟩ := hS.ins
    refine ⟨_, PSs.nox (pss_cons (ps_set (i := 1) sc_Scanner_bad.nd rfl (.inl rfl) (pe_fld (pv 0) rfl))
  (pss_cons (ps_fld (pv 0) pe_non rfl)
  (pss_one (ps_ret (pe_tup (pa_cons pe_str (pa_cons pe_non (pa_cons (pv 1) pa_nil)))))))), ?_⟩
    refine ⟨_, rfl, x, C, dx, _, _, rfl, hx, T.cl, T.n3, rfl, _, rfl, x, C, dx, _, rfl, hx, T.cl, T.n3, by show 6 < 1000; decide, ?_⟩
    have k1 := (Kp.refl (W := One x) H).set (.ins C dx (flds (close S) l)) hx rfl (.inl rfl)
    have h1 : upd H x (.ins C dx (flds (close S) l)) x = some (.ins C dx (flds (close S) l)) := upd_same
    have h2 : upd H x (.ins C dx (flds (close S) l)) l = some (.lst (IL S.sg)) := by rw [upd_ne hS.ne.symm]; exact hS.sg
    refine ⟨_, rfl, smle (by show 3 ≤ 16000; decide), fun p np => ?_⟩
    exact k _ p (k1.alloc _ np) (k1.free np) ⟨⟨dx, upd_keep np h1⟩, upd_keep np h2⟩ upd_same
end
end NP
namespace NP
open PySem L2 PySem.Spec PyProof.Rows
section
variable {P : Program} {w : World} {K : PySem.W.Frag} {mg : Str → Option Value} {base : Heap} {C aL aO : Addr} {f : Addr} {fd : FuncData}
/-! ### read -/
def spRead (C : Addr) : Sp := fun vs H Q _ => ∃ (x l : Addr) (S : Sc), vs = [.ref x] ∧ ScAt C H x l S ∧ Kind S.chk ∧ 4 + S.chk ≤ S.sg.length ∧ S.sg.length ≤ 1000 ∧
  ∀ H', Kp No H H' → (read S = none → Q .non H') ∧ ∀ p n c d, read S = some (n, c, d) → PkAt H' p n c d → Q (.ref p) H'
theorem sc_Scanner_read : FnScope ["self", "row", "number", "letter"] ["self"] (defScope (inClass (top 32) 8)) := ⟨rfl, rfl, rfl, by decide +kernel, rfl, by decide +kernel, by decide +kernel⟩
theorem ok_read (T : Txt K mg C aL aO) (F : FunM K "read" "Scanner.read" (inClass (top 32) 8) f fd) (cnumber_in : Cal P w K mg base 1 "number_in" (spNumberIn (K := K))) (cletter_of : Cal P w K mg base 2 "letter_of" spLetterOf)
    (ccheck : Cal P w K mg base 2 "check" (spCheck (K := K))) : FnOk P w K mg base CX0 3 f fd ["self"] (spRead C) := by
  refine F.ok sc_Scanner_read (fun vs H Q E h => ?_) (fun cdv A outer s H vs Q E hr h => ?_)
  · obtain ⟨x, l, S, rfl, _⟩ := h; rfl
  · obtain ⟨x, l, S, rfl, hS, hk, hroom, hmax, k⟩ := h
    have kp3 := kind_pos hk
    have hrl : (rowOf S).length = S.sg.length - S.chk.toNat := by unfold rowOf; rw [List.length_take]; omega
    have er : cutV (IL S.sg) none (some (-S.chk)) = IL (rowOf S) := cut_but (by omega)
    have et : cutV (IL S.sg) (some (-S.chk)) none = IL (S.sg.drop (S.sg.length - S.chk.toNat)) := cut_last (by omega)
    have fl : ∀ {H' : Hp}, Kp No H H' → ∃ dx, H' x = some (.ins C dx (flds S l)) := fun kp => (hS.kp kp (fun q => q) fun q => q).ins
    obtain ⟨dx, hx⟩ := hS.ins
    refine ⟨_, PSs.nox (pss_cons (ps_set (i := 1) sc_Scanner_read.nd rfl (.inl rfl) (pe_callTy call_tuple_of rfl T.tuple b_tuple (pa_cons (pe_slice sl_list (pe_fld (pv 0) rfl) po_none (po_some (pe_un un_neg (pe_fld (pv 0) rfl)))) pa_nil)))
  (pss_cons (ps_set (i := 2) sc_Scanner_read.nd rfl (.inl rfl) (pe_cc cnumber_in hr (by decide) rfl (pa_cons (pe_slice sl_tupA (pv 1) (po_some pe_int) (po_some pe_int)) pa_nil)))
  (pss_cons (ps_set (i := 3) sc_Scanner_read.nd rfl (.inl rfl) (pe_cc cletter_of hr (by decide) rfl (pa_cons (pe_ix ix_tup (pv 1) pe_int (fun _ _ => rfl)) (pa_cons (pe_fld (pv 0) rfl) pa_nil))))
  (pss_cons (ps_if (PW.pt (pw_or (pt_cmpR op_gt (pv 2) (pe_gi rfl T.MOST_NUMBER) (nomark _)) (pw_or1 (pt_cmpR op_isN (pv 3) pe_non (nomark _)))))
    (pss_one (ps_ret pe_non))
    pss_nil)
  (pss_cons (ps_if (pt_cmpR (op_neD hr.units) (pe_cc ccheck hr (by decide) rfl (pa_cons (pv 1) (pa_cons (pe_fld (pv 0) rfl) pa_nil))) (pe_callTy call_tuple_of rfl T.tuple b_tuple (pa_cons (pe_slice sl_list (pe_fld (pv 0) rfl) (po_some (pe_un un_neg (pe_fld (pv 0) rfl))) po_none) pa_nil)) (nomark _))
    (pss_one (ps_ret pe_non))
    pss_nil)
  (pss_one (ps_ret (pe_tup (pa_cons (pv 2) (pa_cons (pv 3) (pa_cons (pe_slice sl_tupA (pv 1) (po_some pe_int) po_none) pa_nil))))))))))), ?_⟩
    -- row
    refine ⟨_, rfl, x, C, dx, _, _, rfl, hx, T.cl, T.n6, rfl, _, rfl, x, C, dx, _, _, rfl, hx, T.cl, T.n5, rfl, _, rfl, _, rfl, l, _, rfl, SqL.of hS.sg, fun p np => ?_⟩
    refine ⟨p, _, rfl, .inl ⟨SqL.of upd_same, fun t nt => ?_⟩⟩
    rw [er] at nt ⊢
    have k1 : Kp No H (upd (upd H p (.lst (IL (rowOf S)))) t (.tup (IL (rowOf S)))) := ((Kp.refl H).alloc _ np).alloc _ nt
    have h1 : upd (upd H p (.lst (IL (rowOf S)))) t (.tup (IL (rowOf S))) t = some (.tup (IL (rowOf S))) := upd_same
    generalize upd (upd H p (.lst (IL (rowOf S)))) t (.tup (IL (rowOf S))) = H1 at k1 h1
    clear np nt
    -- number
    refine ⟨_, rfl, _, rfl, _, rfl, t, _, rfl, SqT.of h1, fun wh => ?_, fun _ q nq => ?_⟩
    · have := wh.1
      rw [il_len, sIx_pos (by decide), hrl] at this
      omega
    have e2 : cutV (IL (rowOf S)) (some 2) (some 3) = IL (((rowOf S).drop 2).take 1) := cut_mid (by decide) (by decide) (by rw [hrl]; omega)
    refine ⟨q, ((rowOf S).drop 2).take 1, rfl, .inr (SqT.of (by rw [upd_same, e2])), ?_⟩
    have k2 := k1.alloc (.tup (cutV (IL (rowOf S)) (some 2) (some 3))) nq
    have h2 := upd_keep (u := .tup (cutV (IL (rowOf S)) (some 2) (some 3))) nq h1
    generalize upd H1 q (.tup (cutV (IL (rowOf S)) (some 2) (some 3))) = H2 at k2 h2
    -- letter
    obtain ⟨dx, hx⟩ := fl k2
    have h3 : (rowOf S)[3]? = some ((rowOf S).getD 3 0) := by
      rw [List.getD_eq_getElem?_getD, List.getElem?_eq_getElem (by rw [hrl]; omega)]
      rfl
    refine ⟨_, rfl, t, _, 3, _, rfl, rfl, SqT.of h2, seq_tup_at h3, _, rfl, x, C, dx, _, _, rfl, hx, T.cl, T.n4, rfl, _, S.mark, rfl, ?_⟩
    -- the number or the letter can't be
    refine ⟨_, rfl, _, _, rfl, rfl, ⟨_, rfl, ?_⟩⟩
    by_cases g : 63 < numIn (((rowOf S).drop 2).take 1)
    · refine goT (decide_eq_true g) (goT rfl ((k H2 k2).1 ?_))
      unfold read
      cases letterOf ((rowOf S).getD 3 0) S.mark with
      | none => rfl
      | some c => show (if _ then _ else _) = _; rw [if_pos g]
    refine goF (decide_eq_false g) ⟨_, rfl, rfl, _, rfl, ?_⟩
    cases ec : letterOf ((rowOf S).getD 3 0) S.mark with
    | none =>
      refine goT rfl ((k H2 k2).1 ?_)
      unfold read
      rw [ec]
    | some c =>
      refine goF rfl ?_
      -- the check
      refine ⟨_, rfl, _, rfl, x, C, dx, _, _, rfl, hx, T.cl, T.n5, rfl, t, rowOf S, S.chk, rfl, SqT.of h2, by rw [hrl]; omega, hk, fun q3 H3 k3 h3 => ?_⟩
      obtain ⟨dx, hx⟩ := fl (k2.trans k3)
      have hs3 := k3.tup _ _ h2
      have hl3 := (hS.kp (k2.trans k3) (fun q => q) fun q => q).sg
      refine ⟨_, rfl, x, C, dx, _, _, rfl, hx, T.cl, T.n6, rfl, _, rfl, x, C, dx, _, _, rfl, hx, T.cl, T.n5, rfl, _, rfl, _, rfl, l, _, rfl, SqL.of hl3, fun p np => ?_⟩
      refine ⟨p, _, rfl, .inl ⟨SqL.of upd_same, fun u nu => ?_⟩⟩
      rw [et] at nu ⊢
      have k4 := ((k2.trans k3).alloc (.lst (IL (S.sg.drop (S.sg.length - S.chk.toNat)))) np).alloc (.tup (IL (S.sg.drop (S.sg.length - S.chk.toNat)))) nu
      have h4 := upd_keep (u := .tup (IL (S.sg.drop (S.sg.length - S.chk.toNat)))) nu (upd_keep (u := .lst (IL (S.sg.drop (S.sg.length - S.chk.toNat)))) np h3)
      have t4 := upd_keep (u := .tup (IL (S.sg.drop (S.sg.length - S.chk.toNat)))) nu (upd_keep (u := .lst (IL (S.sg.drop (S.sg.length - S.chk.toNat)))) np hs3)
      have u4 : upd (upd H3 p (.lst (IL (S.sg.drop (S.sg.length - S.chk.toNat))))) u (.tup (IL (S.sg.drop (S.sg.length - S.chk.toNat)))) u = some (.tup (IL (S.sg.drop (S.sg.length - S.chk.toNat)))) := upd_same
      generalize upd (upd H3 p (.lst (IL (S.sg.drop (S.sg.length - S.chk.toNat))))) u (.tup (IL (S.sg.drop (S.sg.length - S.chk.toNat)))) = H4 at k4 h4 t4 u4
      refine ⟨_, _, dp_tup (SqT.of h4), dp_tup (SqT.of u4), shaped_tup _, shaped_tup _, _, rfl, ?_⟩
      by_cases ek : chk S.chk (rowOf S) = S.sg.drop (S.sg.length - S.chk.toNat)
      · refine goF (by rw [eqv_tup]; simp [ek]) ?_
        refine ⟨_, rfl, _, rfl, _, rfl, _, rfl, t, _, rfl, SqT.of t4, fun wh => ?_, fun _ z nz => ?_⟩
        · have := wh.1
          rw [il_len, sIx_pos (by decide), hrl] at this
          omega
        have e5 : cutV (IL (rowOf S)) (some 4) none = IL ((rowOf S).drop 4) := cut_from (by decide)
        refine ⟨smle (by show 3 ≤ 16000; decide), fun y ny => ?_⟩
        refine (k _ ((k4.alloc _ nz).alloc _ ny)).2 y _ c ((rowOf S).drop 4) ?_ ⟨z, upd_same, upd_keep ny (by rw [upd_same, e5])⟩
        unfold read
        rw [ec]
        show (if _ then _ else _) = _
        rw [if_neg g, if_neg (by simpa using ek)]
      · refine goT (by rw [eqv_tup]; simp [ek]) ((k H4 k4).1 ?_)
        unfold read
        rw [ec]
        show (if _ then _ else _) = _
        rw [if_neg g, if_pos ek]
/-! ### known -/
theorem dp_bad {H : Hp} {t : Addr} {S : Sc} {a : Int} (ha : S.at_ = some a) (ht : H t = some (.tup [.str "bad", .non, atV S.at_])) : Dp K H (.ref t) (evD (.bad (at0 S))) := by
  rw [ha] at ht
  have e : at0 S = a := by unfold at0; rw [ha]; rfl
  rw [e]
  exact .tup (SqT.of ht) (.cons (.str _) (.cons .non (.cons (.int a) .nil)))
theorem dp_good {H : Hp} {t p : Addr} {S : Sc} {a n c : Int} {d : List Int} (ha : S.at_ = some a) (ht : H t = some (.tup [.str "good", .ref p, atV S.at_])) (hp : PkAt H p n c d) : Dp K H (.ref t) (evD (.good n c d (at0 S))) := by
  rw [ha] at ht
  have e : at0 S = a := by unfold at0; rw [ha]; rfl
  rw [e]
  obtain ⟨q, h1, h2⟩ := hp
  exact .tup (SqT.of ht) (.cons (.str _) (.cons (.tup (SqT.of h1) (.cons (.int n) (.cons (.str _) (.cons (dp_tup (SqT.of h2)) .nil)))) (.cons (.int a) .nil)))
def spKnown (C : Addr) : Sp := fun vs H Q _ => ∃ (x l : Addr) (S : Sc) (a : Int), vs = [.ref x] ∧ ScAt C H x l S ∧ S.at_ = some a ∧ Kind S.chk ∧ S.sg.length ≤ 1000 ∧ (3 ≤ S.sg.length → 2 + S.chk ≤ numIn (S.sg.take 1)) ∧
  ∀ H' p vs, Kp (One x) H H' → H p = none → ScAt C H' x l (known S).2 → H' p = some (.lst vs) → DpAll K H' vs ((known S).1.map evD) → Q (.ref p) H'
theorem sc_Scanner_known : FnScope ["self", "many", "size", "twin", "packet", "at"] ["self"] (defScope (inClass (top 32) 7)) := ⟨rfl, rfl, rfl, by decide +kernel, rfl, by decide +kernel, by decide +kernel⟩
theorem ok_known (T : Txt K mg C aL aO) (F : FunM K "known" "Scanner.known" (inClass (top 32) 7) f fd) (cnumber_in : Cal P w K mg base 1 "number_in" (spNumberIn (K := K))) (m_bad : Met P w K mg base 1 C "bad" (spBad C)) (m_read : Met P w K mg base 3 C "read" (spRead C)) :
    FnOk P w K mg base CX0 4 f fd ["self"] (spKnown (K := K) C) := by
  refine F.ok sc_Scanner_known (fun vs H Q E h => ?_) (fun cdv A outer s H vs Q E hr h => ?_)
  · obtain ⟨x, l, S, a, rfl, _⟩ := h; rfl
  · obtain ⟨x, l, S, a, rfl, hS, ha, hk, hmax, hq, k⟩ := h
    have st : ∀ {H' : Hp}, Kp No H H' → ScAt C H' x l S := fun kp => hS.kp kp (fun q => q) fun q => q
    obtain ⟨dx, hx⟩ := hS.ins
    -- a bad one's end
    have badR : known S = ([.bad (at0 S)], close S) → ∀ H2 : Hp, Kp No H H2 → spBad C [.ref x] H2 (fun v H3 => [v].length ≤ sizeLine ∧ ∀ p, H3 p = none → Q (.ref p) (upd H3 p (.lst [v]))) E0 := by
      intro ek H2 k2
      refine ⟨x, l, S, rfl, st k2, fun H3 t k3 nt hS3 ht => ⟨smle (by show 1 ≤ 16000; decide), fun p np => ?_⟩⟩
      have k4 : Kp (One x) H (upd H3 p (.lst [.ref t])) := (k2.no.trans k3).alloc _ np
      refine k _ p [.ref t] k4 ((k2.no.trans k3).free np) ?_ upd_same ?_
      · rw [ek]
        exact hS3.kp (Kp.new (W := No) _ np) (fun q => q) fun q => q
      · rw [ek]
        exact .cons (dp_bad ha (upd_keep np ht)) .nil
    refine ⟨_, PSs.nox (pss_cons (ps_set (i := 1) sc_Scanner_known.nd rfl (.inl rfl) (pe_callB call_len_seq rfl T.len b_len (pa_cons (pe_fld (pv 0) rfl) pa_nil)))
  (pss_cons (ps_set (i := 2) sc_Scanner_known.nd rfl (.inl rfl) (pe_cc cnumber_in hr (by decide) rfl (pa_cons (pe_slice sl_list (pe_fld (pv 0) rfl) po_none (po_some pe_int)) pa_nil)))
  (pss_cons (ps_if (pt_cmpR op_eq (pv 1) (pe_gi rfl T.SIZES) (nomark _))
    (pss_cons (ps_set (i := 3) sc_Scanner_known.nd rfl (.inl rfl) (pe_cc cnumber_in hr (by decide) rfl (pa_cons (pe_slice sl_list (pe_fld (pv 0) rfl) (po_some pe_int) po_none) pa_nil)))
  (pss_one (ps_if (PW.pt (pw_or (pt_cmpR op_ne (pe_op op_add (pv 2) (pv 3)) (pe_gi rfl T.MOST_SIZE) (nomark _)) (pw_or1 (pt_cmpR op_lt (pv 2) (pe_op op_add (pe_gi rfl T.AROUND) (pe_fld (pv 0) rfl)) (nomark _)))))
    (pss_one (ps_ret (pe_lst (pa_cons (pe_mm0 m_bad hr (by decide) (pv 0)) pa_nil))))
    pss_nil)))
    pss_nil)
  (pss_cons (ps_if (PW.pt (pw_or (pt_cmpR op_lt (pv 1) (pe_gi rfl T.SIZES) (nomark _)) (pw_or1 (pt_cmpR op_lt (pv 1) (pe_op op_add (pe_gi rfl T.SIZES) (pv 2)) (nomark _)))))
    (pss_one (ps_ret (pe_lst pa_nil)))
    pss_nil)
  (pss_cons (ps_set (i := 4) sc_Scanner_known.nd rfl (.inl rfl) (pe_mm0 m_read hr (by decide) (pv 0)))
  (pss_cons (ps_if (pt_cmpR op_isN (pv 4) pe_non (nomark _))
    (pss_one (ps_ret (pe_lst (pa_cons (pe_mm0 m_bad hr (by decide) (pv 0)) pa_nil))))
    pss_nil)
  (pss_cons (ps_set (i := 5) sc_Scanner_known.nd rfl (.inl rfl) (pe_fld (pv 0) rfl))
  (pss_cons (ps_fld (pv 0) pe_non rfl)
  (pss_one (ps_ret (pe_lst (pa_cons (pe_tup (pa_cons pe_str (pa_cons (pv 4) (pa_cons (pv 5) pa_nil)))) pa_nil)))))))))))), ?_⟩
    -- many, size
    refine ⟨_, rfl, x, C, dx, _, _, rfl, hx, T.cl, T.n6, rfl, l, _, rfl, .inl (SqL.of hS.sg), ?_⟩
    refine ⟨_, rfl, x, C, dx, _, _, rfl, hx, T.cl, T.n6, rfl, _, rfl, l, _, rfl, SqL.of hS.sg, fun p np => ?_⟩
    have e1 : cutV (IL S.sg) none (some 1) = IL (S.sg.take 1) := cut_to (by decide)
    refine ⟨p, S.sg.take 1, rfl, .inl (SqL.of (by rw [upd_same, e1])), ?_⟩
    have k1 := (Kp.refl (W := No) H).alloc (.lst (cutV (IL S.sg) none (some 1))) np
    generalize upd H p (.lst (cutV (IL S.sg) none (some 1))) = H1 at k1
    clear np
    rw [il_len]
    -- behind the look at the two size signs
    have rest : ∀ (v3 : Option V) (H2 : Hp), Kp No H H2 → ¬ (S.sg.length = 2 ∧ (numIn (S.sg.take 1) + numIn (S.sg.drop 1) ≠ 94 ∨ numIn (S.sg.take 1) < 2 + S.chk)) →
        tSeq (tIfS (tOr (tTest (tOp (rI0 fun i j => .bl (decide (i < j))) (tVar 1) (tC (.int 2)))) (tTest (tOp (rI0 fun i j => .bl (decide (i < j))) (tVar 1) (tOp (rI0 fun i j => .int (i + j)) (tC (.int 2)) (tVar 2))))) (tRet (tLst tNil)) tNext)
          (tSeq (tAsg (tMeth C "read" (spRead C) [] E0 (tVar 0) tNil) (gName 4)) (tSeq (tIfS (tTest (tOp (fun x y H Q => y = .non ∧ Q (.bl (decide (x = .non))) H) (tVar 4) (tC .non))) (tRet (tLst (tCons (tMeth C "bad" (spBad C) [] E0 (tVar 0) tNil) tNil))) tNext)
            (tSeq (tAsg (tFld K (tVar 0) "begun_at") (gName 5)) (tSeq (sFld K (tVar 0) (tC .non) "begun_at") (tRet (tLst (tCons (tTup (tCons (tC (.str "good")) (tCons (tVar 4) (tCons (tVar 5) tNil)))) tNil)))))))
          { nx := fun _ H' => Q .non H', rt := Q } [some (.ref x), some (.int S.sg.length), some (.int (numIn (S.sg.take 1))), v3, none, none] H2 := by
      intro v3 H2 k2 h1
      refine ⟨_, rfl, _, _, rfl, rfl, ⟨_, rfl, ?_⟩⟩
      have small : S.sg.length < 2 ∨ (S.sg.length : Int) < 2 + numIn (S.sg.take 1) → ∀ p, H2 p = none → Q (.ref p) (upd H2 p (.lst [])) := by
        intro h2 p np
        have ek : known S = ([], S) := by unfold known; rw [if_neg h1, if_pos h2]
        refine k _ p [] (k2.no.alloc _ np) (k2.free np) ?_ upd_same ?_
        · rw [ek]; exact (st k2).kp (Kp.new (W := No) _ np) (fun q => q) fun q => q
        · rw [ek]; exact .nil
      by_cases a1 : S.sg.length < 2
      · exact goT (decide_eq_true (by omega)) (goT rfl ⟨Nat.zero_le _, small (.inl a1)⟩)
      refine goF (decide_eq_false (by omega)) ⟨_, rfl, _, rfl, _, _, rfl, rfl, _, _, rfl, rfl, _, rfl, ?_⟩
      by_cases a2 : (S.sg.length : Int) < 2 + numIn (S.sg.take 1)
      · exact goT (decide_eq_true a2) ⟨Nat.zero_le _, small (.inr a2)⟩
      refine goF (decide_eq_false a2) ?_
      have h2 : ¬ (S.sg.length < 2 ∨ (S.sg.length : Int) < 2 + numIn (S.sg.take 1)) := by omega
      have ek : known S = ([toldOf S (read S)], close S) := by unfold known; rw [if_neg h1, if_neg h2]
      have room := known_room h1 h2 hq
      obtain ⟨dx, hx⟩ := (st k2).ins
      refine ⟨_, rfl, x, dx, _, rfl, hx, rfl, x, l, S, rfl, st k2, hk, room, hmax, fun H3 k3 => ?_⟩
      have k3' := k2.trans k3
      obtain ⟨dx, hx⟩ := (st k3').ins
      cases er : read S with
      | none =>
        refine ⟨fun _ => ?_, fun p n c d e => by cases e⟩
        refine ⟨_, rfl, rfl, _, rfl, goT rfl ⟨_, rfl, x, dx, _, rfl, hx, rfl, badR ?_ H3 k3'⟩⟩
        rw [ek, er]
        rfl
      | some r =>
        obtain ⟨n0, c0, d0⟩ := r
        refine ⟨fun e => (by cases e), fun p n c d e hp => ?_⟩
        cases e
        refine ⟨_, rfl, rfl, _, rfl, goF rfl ?_⟩
        refine ⟨_, rfl, x, C, dx, _, _, rfl, hx, T.cl, T.n3, rfl, _, rfl, x, C, dx, _, rfl, hx, T.cl, T.n3, by show 6 < 1000; decide, ?_⟩
        have k4 := (k3'.no (W := One x)).set (.ins C dx (flds (close S) l)) hx rfl (.inl rfl)
        have h4 : upd H3 x (.ins C dx (flds (close S) l)) x = some (.ins C dx (flds (close S) l)) := upd_same
        have l4 : upd H3 x (.ins C dx (flds (close S) l)) l = some (.lst (IL S.sg)) := by rw [upd_ne hS.ne.symm]; exact (st k3').sg
        have p4 : PkAt (upd H3 x (.ins C dx (flds (close S) l))) p n0 c0 d0 := hp.kp ((Kp.refl (W := One x) H3).set (.ins C dx (flds (close S) l)) hx rfl (.inl rfl))
        refine ⟨_, rfl, _, rfl, smle (by show 3 ≤ 16000; decide), fun t nt => ⟨smle (by show 1 ≤ 16000; decide), fun z nz => ?_⟩⟩
        refine k _ z [.ref t] ((k4.alloc _ nt).alloc _ nz) ((k4.alloc _ nt).free nz) ?_ upd_same ?_
        · rw [ek]
          exact ⟨⟨dx, upd_keep nz (upd_keep nt h4)⟩, upd_keep nz (upd_keep nt l4)⟩
        · rw [ek, er]
          exact .cons (dp_good ha (upd_keep nz upd_same) (p4.kp (((Kp.refl (W := No) _).alloc _ nt).alloc _ nz))) .nil
    refine ⟨_, rfl, rfl, ⟨_, rfl, ?_⟩⟩
    by_cases b1 : S.sg.length = 2
    · refine goT (by simp [b1]) ?_
      obtain ⟨dx, hx⟩ := (st k1).ins
      refine ⟨_, rfl, x, C, dx, _, _, rfl, hx, T.cl, T.n6, rfl, _, rfl, l, _, rfl, SqL.of (st k1).sg, fun p np => ?_⟩
      have e2 : cutV (IL S.sg) (some 1) none = IL (S.sg.drop 1) := cut_from (by decide)
      refine ⟨p, S.sg.drop 1, rfl, .inl (SqL.of (by rw [upd_same, e2])), ?_⟩
      have k2 := k1.alloc (.lst (cutV (IL S.sg) (some 1) none)) np
      generalize upd H1 p (.lst (cutV (IL S.sg) (some 1) none)) = H2 at k2
      obtain ⟨dx, hx⟩ := (st k2).ins
      refine ⟨_, rfl, _, rfl, _, _, rfl, rfl, rfl, _, rfl, ?_⟩
      by_cases c1 : numIn (S.sg.take 1) + numIn (S.sg.drop 1) = 94
      · refine goF (by show (!decide (V.int (numIn (S.sg.take 1) + numIn (S.sg.drop 1)) = V.int 94)) = false; rw [c1]; rfl) ?_
        refine ⟨_, rfl, _, rfl, x, C, dx, _, _, rfl, hx, T.cl, T.n5, rfl, _, _, rfl, rfl, _, _, rfl, rfl, _, rfl, ?_⟩
        by_cases c2 : numIn (S.sg.take 1) < 2 + S.chk
        · refine goT (decide_eq_true c2) ?_
          exact ⟨_, rfl, x, dx, _, rfl, hx, rfl, badR (by unfold known; rw [if_pos ⟨b1, .inr c2⟩]) H2 k2⟩
        · refine goF (decide_eq_false c2) ?_
          exact rest _ H2 k2 (fun q => q.2.elim (fun q => q c1) c2)
      · refine goT (by show (!decide (V.int (numIn (S.sg.take 1) + numIn (S.sg.drop 1)) = V.int 94)) = true; rw [decide_eq_false (fun q => c1 (V.int.inj q))]; rfl) (goT rfl ?_)
        exact ⟨_, rfl, x, dx, _, rfl, hx, rfl, badR (by unfold known; rw [if_pos ⟨b1, .inl c1⟩]) H2 k2⟩
    · refine goF (by simp; omega) ?_
      exact rest _ H1 k1 (fun q => b1 q.1)
end
end NP
namespace NP
open PySem L2 PySem.Spec PyProof.Rows
section
variable {P : Program} {w : World} {K : PySem.W.Frag} {mg : Str → Option Value} {base : Heap} {C aL aO : Addr} {f : Addr} {fd : FuncData}
/-! ### feed -/
def spFeed (C : Addr) : Sp := fun vs H Q _ => ∃ (x a l : Addr) (S : Sc) (ss : List Int), vs = [.ref x, .ref a] ∧ ScAt C H x l S ∧ OkS S ∧ H a = some (.lst (IL ss)) ∧ a ≠ l ∧ ss.length ≤ 10000 ∧
  ∀ H' p l' vs, Kp (fun b => b = x ∨ b = l) H H' → H p = none → (l' = l ∨ H l' = none) → p ≠ l' → ScAt C H' x l' (feedS S ss).2 → H' p = some (.lst vs) → DpAll K H' vs ((feedS S ss).1.map evD) → Q (.ref p) H'
theorem sc_Scanner_feed : FnScope ["self", "signs", "found", "sign"] ["self", "signs"] (defScope (inClass (top 32) 4)) := ⟨rfl, rfl, rfl, by decide +kernel, rfl, by decide +kernel, by decide +kernel⟩
theorem ok_feed (T : Txt K mg C aL aO) (F : FunM K "feed" "Scanner.feed" (inClass (top 32) 4) f fd) (cis_plain : Cal P w K mg base 1 "is_plain" spIsPlain) (m_bad : Met P w K mg base 1 C "bad" (spBad C)) (m_begin : Met P w K mg base 1 C "begin" (spBegin C))
    (m_known : Met P w K mg base 4 C "known" (spKnown (K := K) C)) : FnOk P w K mg base CX0 5 f fd ["self", "signs"] (spFeed (K := K) C) := by
  refine F.ok sc_Scanner_feed (fun vs H Q E h => ?_) (fun cdv A outer s H vs Q E hr h => ?_)
  · obtain ⟨x, a, l, S, ss, rfl, _⟩ := h; rfl
  · obtain ⟨x, a, l, S, ss, rfl, hS, okS, ha, hal, hlen, k⟩ := h
    obtain ⟨dx0, hx0⟩ := hS.ins
    have hax : a ≠ x := ne_of ha hx0 (by intro q; cases q)
    refine ⟨_, PSs.nox (pss_cons (ps_set (i := 2) sc_Scanner_feed.nd rfl (.inl rfl) (pe_lst pa_nil))
  (pss_cons (ps_for PassesOwn.never rfl (pi_list (pv 1)) (pg_name (i := 3) sc_Scanner_feed.nd rfl (.inl rfl))
    (pss_cons (ps_if (pt_cmpR op_in_seq (pv 3) (pe_tup (pa_cons (pe_gi rfl T.MARK) (pa_cons (pe_gi rfl T.OPENING_MARK) pa_nil))) (by rfl))
    (pss_cons (ps_if (pt_cmpR op_notN (pe_fld (pv 0) rfl) pe_non (nomark _))
    (pss_one (ps_expr (pe_bm PySem.F.plainAttrs_list PySem.F.slot_list_append PySem.F.type_list_append mt_append (pv 2) (pa_cons (pe_mm0 m_bad hr (by decide) (pv 0)) pa_nil))))
    pss_nil)
  (pss_one (ps_expr (pe_mm m_begin hr (by decide) (pv 0) (pa_cons (pv 3) pa_nil)))))
    (pss_one (ps_if (PW.pt (pw_and (pt_val (pe_cc cis_plain hr (by decide) rfl (pa_cons (pv 3) pa_nil))) (pw_and1 (pt_cmpR op_notN (pe_fld (pv 0) rfl) pe_non (nomark _)))))
    (pss_cons (ps_expr (pe_bm PySem.F.plainAttrs_list PySem.F.slot_list_append PySem.F.type_list_append mt_append (pe_fld (pv 0) rfl) (pa_cons (pv 3) pa_nil)))
  (pss_one (ps_expr (pe_bm PySem.F.plainAttrs_list PySem.F.slot_list_extend PySem.F.type_list_extend mt_extend (pv 2) (pa_cons (pe_mm0 m_known hr (by decide) (pv 0)) pa_nil)))))
    pss_nil)))
  (pss_one (ps_fldaug (pv 0) pe_int in_add))))
  (pss_one (ps_ret (pv 2))))), ?_⟩
    refine ⟨Nat.zero_le _, fun p np => ?_⟩
    have hap : a ≠ p := ne_of_none ha np
    have hxp : x ≠ p := ne_of_none hx0 np
    have hlp : l ≠ p := ne_of_none hS.sg np
    have sa : ∀ {H' : Hp}, Kp (fun b => b = x ∨ b = l ∨ b = p) H H' → H' a = some (.lst (IL ss)) := fun kp => kp.keep _ _ ha fun q => q.elim hax fun q => q.elim hal hap
    refine ⟨_, rfl, a, rfl, ⟨_, SqL.of (upd_keep np ha)⟩, ?_⟩
    refine for_list (K := K) (a := a) (xs := IL ss) (fun i σ H' => ∃ (t : Option V) (l' : Addr) (vs : List V), σ = [some (.ref x), some (.ref a), some (.ref p), t] ∧ Kp (fun b => b = x ∨ b = l ∨ b = p) H H' ∧ (l' = l ∨ H l' = none) ∧ l' ≠ p ∧
        ScAt C H' x l' (feedS S (ss.take i)).2 ∧ H' p = some (.lst vs) ∧ DpAll K H' vs (((feedS S (ss.take i)).1).map evD))
      ⟨none, l, [], rfl, (Kp.refl H).alloc _ np, .inl rfl, hlp, hS.kp (Kp.new (W := No) _ np) (fun q => q) (fun q => q), upd_same, .nil⟩ ?_ ?_ ?_
    · rintro i σ H' _ ⟨t, l', vs, rfl, kp, _⟩
      exact SqL.of (sa kp)
    · rintro i y σ H' hy ⟨t, l', vs, rfl, kp, hl', hlp', hS', hp, hd⟩
      obtain ⟨n, hn, rfl⟩ := il_at hy
      have ok' := feed_ok (ss.take i) okS
      have few : vs.length ≤ 10000 := by
        rw [dpAll_len hd, List.length_map]
        have := feed_few (ss.take i) S
        have := take_le ss i hlen
        omega
      have hfe := feed_at S hn
      have wl : ∀ {b : Addr}, b = l' → (b = x ∨ b = l ∨ b = p) ∨ H b = none := by
        rintro b rfl
        exact hl'.imp (fun q => .inr (.inl q)) fun q => q
      -- the end of a turn
      have tail : ∀ (H2 : Hp) (l2 : Addr) (vs2 : List V) (S2 : Sc) (e : List Ev) (dx : Addr) (H3 : Hp), Kp (fun b => b = x ∨ b = l ∨ b = p) H H2 → (l2 = l ∨ H l2 = none) → l2 ≠ p → ScAt C H2 x l2 S2 → H2 p = some (.lst vs2) →
          DpAll K H2 vs2 (((feedS S (ss.take i)).1 ++ e).map evD) → stepS (feedS S (ss.take i)).2 n = (e, later S2) → H2 x = some (.ins C dx (flds S2 l2)) → H3 = upd H2 x (.ins C dx (flds (later S2) l2)) →
          Kp (fun b => b = x ∨ b = l ∨ b = p) H H3 ∧ (l2 = l ∨ H l2 = none) ∧ l2 ≠ p ∧ ScAt C H3 x l2 (feedS S (ss.take (i + 1))).2 ∧ H3 p = some (.lst vs2) ∧ DpAll K H3 vs2 (((feedS S (ss.take (i + 1))).1).map evD) := by
        rintro H2 l2 vs2 S2 e dx H3 k2 hl2 hlp2 hS2 hp2 hd2 es hx2 rfl
        refine ⟨k2.set _ hx2 rfl (.inl (.inl rfl)), hl2, hlp2, ?_, by rw [upd_ne hxp.symm]; exact hp2, ?_⟩
        · rw [hfe, es]
          exact ⟨⟨dx, upd_same⟩, by rw [upd_ne hS2.ne.symm]; exact hS2.sg⟩
        · rw [hfe, es]
          exact dpAll_kp ((Kp.refl (W := One x) H2).set _ hx2 rfl (.inl rfl)) _ _ (noLs_evs _) hd2
      generalize hSn : (feedS S (ss.take i)).2 = Sn at *
      generalize hEn : (feedS S (ss.take i)).1 = En at *
      obtain ⟨dx, hx⟩ := hS'.ins
      refine ⟨_, rfl, smle (by show 2 ≤ 16000; decide), fun q nq => ⟨q, _, rfl, .inr (SqT.of upd_same), rfl, rfl, _, rfl, ?_⟩⟩
      have kq := kp.alloc (.tup [.int 1, .int 2]) nq
      have hSq := hS'.kp (Kp.new (W := No) (.tup [.int 1, .int 2]) nq) (fun q => q) (fun q => q)
      have hpq := upd_keep (u := .tup [.int 1, .int 2]) nq hp
      have hdq := dpAll_kp (Kp.new (W := No) (.tup [.int 1, .int 2]) nq) _ _ (noLs_evs _) hd
      generalize upd H' q (.tup [.int 1, .int 2]) = H1 at *
      clear hS' hp hd kp hx
      obtain ⟨dx, hx⟩ := hSq.ins
      by_cases m : n = 1 ∨ n = 2
      · -- a mark
        refine goT (by rw [if_neg (by decide), in_marks]; exact decide_eq_true m) ?_
        refine ⟨_, rfl, x, C, dx, _, _, rfl, hx, T.cl, T.n3, rfl, rfl, _, rfl, ?_⟩
        cases eat : Sn.at_ with
        | none =>
          refine goF rfl ?_
          refine ⟨_, rfl, x, dx, _, rfl, hx, rfl, _, rfl, x, l', Sn, n, rfl, hSq, fun H3 l3 k3 n3 hS3 => ?_⟩
          have k13 := kq.call k3 fun b q => .inl (.inl q)
          have hp3 := k3.keep _ _ hpq hxp.symm
          have hd3 := dpAll_kp k3 _ _ (noLs_evs _) hdq
          obtain ⟨dx, hx3⟩ := hS3.ins
          have es : stepS Sn n = ([], later (begun Sn n)) := by unfold stepS; rw [if_pos m, eat]; rfl
          refine ⟨_, rfl, x, C, dx, _, _, rfl, hx3, T.cl, T.n2, rfl, _, _, rfl, rfl, dx, _, hx3, by show 6 < 1000; decide, some (.int n), l3, vs, rfl, ?_⟩
          exact tail H3 l3 vs (begun Sn n) [] dx _ k13 (.inr (kq.free n3)) (ne_of_none hpq n3).symm hS3 hp3 (by rw [List.append_nil]; exact hd3) es hx3 rfl
        | some a0 =>
          refine goT rfl ?_
          refine ⟨_, rfl, .inl ⟨rfl, _, SqL.of hpq⟩, _, rfl, x, dx, _, rfl, hx, rfl, x, l', Sn, rfl, hSq, fun H3 t3 k3 n3 hS3 ht3 => ?_⟩
          have k13 := kq.call k3 fun b q => .inl (.inl q)
          have hp3 := k3.keep _ _ hpq hxp.symm
          have hd3 := dpAll_kp k3 _ _ (noLs_evs _) hdq
          refine ⟨p, vs, _, rfl, rfl, hp3, sml (by omega), ?_⟩
          have kz := Kp.put (W := One p) (.lst (vs ++ [.ref t3])) hp3 rfl rfl
          have k14 := k13.set (.lst (vs ++ [.ref t3])) hp3 rfl (.inl (.inr (.inr rfl)))
          have hp4 : upd H3 p (.lst (vs ++ [.ref t3])) p = some (.lst (vs ++ [.ref t3])) := upd_same
          have hS4 := hS3.kp kz hxp hlp'
          have hd4 : DpAll K (upd H3 p (.lst (vs ++ [.ref t3]))) (vs ++ [.ref t3]) ((En ++ [Ev.bad (at0 Sn)]).map evD) := by
            rw [List.map_append]
            exact dpAll_app (dpAll_kp kz _ _ (noLs_evs _) hd3) (.cons (dp_kp kz _ _ (noL_ev _) (dp_bad eat ht3)) .nil)
          generalize upd H3 p (.lst (vs ++ [.ref t3])) = H4 at *
          obtain ⟨dx, hx4⟩ := hS4.ins
          refine ⟨_, rfl, x, dx, _, rfl, hx4, rfl, _, rfl, x, l', close Sn, n, rfl, hS4, fun H5 l5 k5 n5 hS5 => ?_⟩
          have k15 := k14.call k5 fun b q => .inl (.inl q)
          have hp5 := k5.keep _ _ hp4 hxp.symm
          have hd5 := dpAll_kp k5 _ _ (noLs_evs _) hd4
          obtain ⟨dx, hx5⟩ := hS5.ins
          have es : stepS Sn n = ([Ev.bad (at0 Sn)], later (begun (close Sn) n)) := by unfold stepS; rw [if_pos m, eat]; rfl
          refine ⟨_, rfl, x, C, dx, _, _, rfl, hx5, T.cl, T.n2, rfl, _, _, rfl, rfl, dx, _, hx5, by show 6 < 1000; decide, some (.int n), l5, vs ++ [.ref t3], rfl, ?_⟩
          exact tail H5 l5 _ (begun (close Sn) n) [Ev.bad (at0 Sn)] dx _ k15 (.inr (k14.free n5)) (ne_of_none hp4 n5).symm hS5 hp5 hd5 es hx5 rfl
      · refine goF (by rw [if_neg (by decide), in_marks]; exact decide_eq_false m) ?_
        -- nothing is done
        have none_ : stepS Sn n = ([], later Sn) → ∃ (t : Option V) (l2 : Addr) (vs2 : List V), (fun (dx : Addr) => True) dx ∧ ∀ H3, H3 = upd H1 x (.ins C dx (flds (later Sn) l')) → Kp (fun b => b = x ∨ b = l ∨ b = p) H H3 ∧ (l' = l ∨ H l' = none) ∧ l' ≠ p ∧ ScAt C H3 x l' (feedS S (ss.take (i + 1))).2 ∧ H3 p = some (.lst vs) ∧ DpAll K H3 vs (((feedS S (ss.take (i + 1))).1).map evD) :=
          fun es => ⟨none, l', vs, trivial, fun H3 e3 => tail H1 l' vs Sn [] dx H3 kq hl' hlp' hSq hpq (by rw [List.append_nil]; exact hdq) es hx e3⟩
        refine ⟨_, rfl, n, rfl, _, rfl, ?_⟩
        by_cases pl : 32 ≤ n ∧ n ≤ 126
        · refine goT (decide_eq_true pl) ?_
          refine ⟨_, rfl, x, C, dx, _, _, rfl, hx, T.cl, T.n3, rfl, rfl, _, rfl, ?_⟩
          cases eat : Sn.at_ with
          | none =>
            refine goF rfl ?_
            have es : stepS Sn n = ([], later Sn) := by unfold stepS; rw [if_neg m, if_neg (by rw [eat]; rintro ⟨_, q⟩; cases q)]
            obtain ⟨_, _, _, _, z⟩ := none_ es
            exact ⟨_, rfl, x, C, dx, _, _, rfl, hx, T.cl, T.n2, rfl, _, _, rfl, rfl, dx, _, hx, by show 6 < 1000; decide, some (.int n), l', vs, rfl, z _ rfl⟩
          | some a0 =>
            refine goT rfl ?_
            have ho : Sn.at_.isSome = true := by rw [eat]; rfl
            refine ⟨_, rfl, x, C, dx, _, _, rfl, hx, T.cl, T.n6, rfl, .inl ⟨rfl, _, SqL.of hSq.sg⟩, _, rfl, l', _, _, rfl, rfl, hSq.sg, sml (by rw [il_len]; have := ok'.len; omega), ?_⟩
            have kz := Kp.put (W := One l') (.lst (IL Sn.sg ++ [.int n])) hSq.sg rfl rfl
            have k2 := kq.set (.lst (IL Sn.sg ++ [.int n])) hSq.sg rfl (wl rfl)
            have hS2 : ScAt C (upd H1 l' (.lst (IL Sn.sg ++ [.int n]))) x l' (more1 Sn n) := ⟨⟨dx, by rw [upd_ne hSq.ne]; exact hx⟩, by rw [upd_same]; show some (HO.lst _) = some (HO.lst (IL (Sn.sg ++ [n]))); rw [il_snoc]⟩
            have hp2 : upd H1 l' (.lst (IL Sn.sg ++ [.int n])) p = some (.lst vs) := by rw [upd_ne hlp'.symm]; exact hpq
            have hd2 := dpAll_kp kz _ _ (noLs_evs _) hdq
            generalize upd H1 l' (.lst (IL Sn.sg ++ [.int n])) = H2 at *
            obtain ⟨dx, hx2⟩ := hS2.ins
            have hl1 : (more1 Sn n).sg.length = Sn.sg.length + 1 := by show (Sn.sg ++ [n]).length = _; simp
            refine ⟨_, rfl, .inl ⟨rfl, _, SqL.of hp2⟩, _, rfl, x, dx, _, rfl, hx2, rfl, x, l', more1 Sn n, a0, rfl, hS2, eat, ok'.ck, by rw [hl1]; have := ok'.len; omega, more_size ok' ho n, fun H3 z ws k3 nz hS3 hz hws => ?_⟩
            have hp3 := k3.keep _ _ hp2 hxp.symm
            have hd3 := dpAll_kp k3 _ _ (noLs_evs _) hd2
            have k13 := k2.call k3 fun b q => .inl (.inl q)
            have es : stepS Sn n = ((known (more1 Sn n)).1, later (known (more1 Sn n)).2) := by unfold stepS; rw [if_neg m, if_pos ⟨pl, ho⟩]
            have wl1 : ws.length ≤ 1 := by
              rw [dpAll_len hws, List.length_map]
              have := step_few Sn n
              rw [es] at this
              exact this
            refine ⟨p, z, vs, ws, rfl, rfl, hp3, hz, smle (by omega), ?_⟩
            have kz2 := Kp.put (W := One p) (.lst (vs ++ ws)) hp3 rfl rfl
            have k4 := k13.set (.lst (vs ++ ws)) hp3 rfl (.inl (.inr (.inr rfl)))
            have hS4 := hS3.kp kz2 hxp hlp'
            have hp4 : upd H3 p (.lst (vs ++ ws)) p = some (.lst (vs ++ ws)) := upd_same
            have hd4 : DpAll K (upd H3 p (.lst (vs ++ ws))) (vs ++ ws) ((En ++ (known (more1 Sn n)).1).map evD) := by
              rw [List.map_append]
              exact dpAll_app (dpAll_kp kz2 _ _ (noLs_evs _) hd3) (dpAll_kp kz2 _ _ (noLs_evs _) hws)
            generalize upd H3 p (.lst (vs ++ ws)) = H4 at *
            obtain ⟨dx, hx4⟩ := hS4.ins
            refine ⟨_, rfl, x, C, dx, _, _, rfl, hx4, T.cl, T.n2, rfl, _, _, rfl, rfl, dx, _, hx4, by show 6 < 1000; decide, some (.int n), l', vs ++ ws, rfl, ?_⟩
            exact tail H4 l' _ (known (more1 Sn n)).2 (known (more1 Sn n)).1 dx _ k4 hl' hlp' hS4 hp4 hd4 es hx4 rfl
        · refine goF (decide_eq_false pl) (goF rfl ?_)
          have es : stepS Sn n = ([], later Sn) := by unfold stepS; rw [if_neg m, if_neg fun q => pl q.1]
          obtain ⟨_, _, _, _, z⟩ := none_ es
          exact ⟨_, rfl, x, C, dx, _, _, rfl, hx, T.cl, T.n2, rfl, _, _, rfl, rfl, dx, _, hx, by show 6 < 1000; decide, some (.int n), l', vs, rfl, z _ rfl⟩
    · rintro σ H' ⟨t, l', vs, rfl, kp, hl', hlp', hS', hp, hd⟩
      rw [il_len, List.take_length] at hS' hd
      refine ⟨_, rfl, k H' p l' vs (Kp.drop np (kp.mono fun b q => ?_)) np hl' hlp'.symm hS' hp hd⟩
      rcases q with q | q | q
      · exact .inl (.inl q)
      · exact .inl (.inr q)
      · exact .inr q
end
end NP
namespace NP
open PySem L2 PySem.Spec PyProof.Rows
/-! ### rules within a comprehension -/
section
variable {X : Cx}
theorem ix_listK (K : PySem.W.Frag) (h : X.K = K := by rfl) : IxR X (rIxL K) := h ▸ ix_list
theorem sl_listK (K : PySem.W.Frag) (h : X.K = K := by rfl) : SlR X (rSlL K) := h ▸ sl_list
theorem call_len_seqK (K : PySem.W.Frag) (h : X.K = K := by rfl) : CallR X (.builtin "len") (fun xs H Q => ∃ p ys, xs = [.ref p] ∧ (SqL K H p ys ∨ SqT K H p ys) ∧ Q (.int ys.length) H) := h ▸ call_len_seq
theorem call_tuple_ofK (K : PySem.W.Frag) (h : X.K = K := by rfl) : CallR X (.type "tuple") (fun xs H Q => ∃ p ys, xs = [.ref p] ∧ ((SqL K H p ys ∧ ∀ l, H l = none → Q (.ref l) (upd H l (.tup ys))) ∨ (SqT K H p ys ∧ Q (.ref p) H))) := h ▸ call_tuple_of
end
/-! ### the pen in the heap -/
structure PenAt (H : Hp) (p c : Addr) (cells : List Int) (n : Int) : Prop where
  pen : ∃ at_ big : Int, H p = some (.lst [.ref c, .int at_, .int big]) ∧ 0 ≤ at_ ∧ at_ ≤ n ∧ 0 ≤ big
  cel : H c = some (.lst (IL cells))
theorem PenAt.ne {H : Hp} {p c : Addr} {cells : List Int} {n : Int} (h : PenAt H p c cells n) : p ≠ c := by
  obtain ⟨a, b, e, _⟩ := h.pen
  refine ne_of e h.cel fun q => ?_
  have q : [V.ref c, V.int a, V.int b] = IL cells := by injection q
  cases cells with
  | nil => cases q
  | cons x r => have := (List.cons.inj q).1; cases this
theorem PenAt.kp {H H' : Hp} {p c : Addr} {cells : List Int} {n : Int} {W : Addr → Prop} (h : PenAt H p c cells n) (k : Kp W H H') (n1 : ¬ W p) (n2 : ¬ W c) : PenAt H' p c cells n := by
  obtain ⟨a, b, e, r⟩ := h.pen
  exact ⟨⟨a, b, k.keep _ _ e n1, r⟩, k.keep _ _ h.cel n2⟩
theorem PenAt.mono {H : Hp} {p c : Addr} {cells : List Int} {n m : Int} (h : PenAt H p c cells n) (l : n ≤ m) : PenAt H p c cells m := by
  obtain ⟨a, b, e, r1, r2, r3⟩ := h.pen
  exact ⟨⟨a, b, e, r1, by omega, r3⟩, h.cel⟩
section
variable {P : Program} {w : World} {K : PySem.W.Frag} {mg : Str → Option Value} {base : Heap} {C aL aO : Addr} {f : Addr} {fd : FuncData}
/-! ### _law_pen, _law_take -/
def spPen : Sp := fun vs H Q _ => ∃ (a : Addr) (ns : List Int), vs = [.ref a] ∧ SqL K H a (IL ns) ∧ ∀ H' p c, Kp No H H' → H p = none → H c = none → PenAt H' p c (ns.take 63) 0 → Q (.ref p) H'
theorem sc__law_pen : FnScope ["_law_script"] ["_law_script"] (defScope (top 34)) := ⟨rfl, rfl, rfl, by decide +kernel, rfl, by decide +kernel, by decide +kernel⟩
theorem ok_pen (T : Txt K mg C aL aO) (F : FunP K "_law_pen" (top 34) f fd) : FnOk P w K mg base CX0 1 f fd ["_law_script"] (spPen (K := K)) := by
  refine F.ok sc__law_pen (fun vs H Q E h => ?_) (fun cdv A outer s H vs Q E hr h => ?_)
  · obtain ⟨a, ns, rfl, _⟩ := h; rfl
  · obtain ⟨a, ns, rfl, hs, k⟩ := h
    refine ⟨_, PSs.nox (pss_one (ps_ret (pe_lst (pa_cons (pe_slice sl_list (pv 0) po_none (po_some pe_int)) (pa_cons pe_int (pa_cons pe_int pa_nil)))))), ?_⟩
    refine ⟨_, rfl, _, rfl, a, _, rfl, hs, fun c nc => ⟨smle (by show 3 ≤ 16000; decide), fun p np => ?_⟩⟩
    have k1 := (Kp.refl (W := No) H).alloc (.lst (cutV (IL ns) none (some 63))) nc
    refine k _ p c (k1.alloc _ np) (k1.free np) nc ⟨⟨0, 0, upd_same, by omega, by omega, by omega⟩, upd_keep np ?_⟩
    rw [upd_same, cut_to (by decide)]
    rfl
def spTake : Sp := fun vs H Q _ => ∃ (p c : Addr) (cells : List Int) (n m : Int), vs = [.ref p, .int m] ∧ PenAt H p c cells n ∧ n ≤ 100000 ∧ 0 < m ∧ m ≤ 1000 ∧ ∀ r H', 0 ≤ r → r < m → Kp (One p) H H' → PenAt H' p c cells (n + 1) → Q (.int r) H'
theorem sc__law_take : FnScope ["_law_pen_here", "_law_many", "_law_digit", "_law_at", "_law_cell", "_law_whole", "_law_mixed"] ["_law_pen_here", "_law_many"] (defScope (top 35)) := ⟨rfl, rfl, rfl, by decide +kernel, rfl, by decide +kernel, by decide +kernel⟩
theorem ok_take (T : Txt K mg C aL aO) (F : FunP K "_law_take" (top 35) f fd) : FnOk P w K mg base CX0 1 f fd ["_law_pen_here", "_law_many"] spTake := by
  refine F.ok sc__law_take (fun vs H Q E h => ?_) (fun cdv A outer s H vs Q E hr h => ?_)
  · obtain ⟨p, c, cells, n, m, rfl, _⟩ := h; rfl
  · obtain ⟨p, c, cells, n, m, rfl, hP, hn, m0, m1, k⟩ := h
    have hpc := hP.ne
    obtain ⟨at_, big, hp, a0, a1, b0⟩ := hP.pen
    have hc := hP.cel
    have fin : ∀ (r at' big' : Int) (H' : Hp), 0 ≤ r → r < m → Kp (One p) H H' → H' p = some (.lst [.ref c, .int at', .int big']) → 0 ≤ at' → at' ≤ n + 1 → 0 ≤ big' → Q (.int r) H' := fun r at' big' H' r0 r1 kp e z0 z1 z2 =>
      k r H' r0 r1 kp ⟨⟨at', big', e, z0, z1, z2⟩, kp.keep _ _ hc hpc.symm⟩
    refine ⟨_, PSs.nox (pss_cons (ps_if (pt_cmpR op_gt (pe_ix ix_list (pv 0) pe_int (fun _ _ => rfl)) pe_int (nomark _))
    (pss_cons (ps_set (i := 2) sc__law_take.nd rfl (.inl rfl) (pe_op op_mod (pe_ix ix_list (pv 0) pe_int (fun _ _ => rfl)) (pv 1)))
  (pss_cons (ps_asg (pe_op op_fdiv (pe_ix ix_list (pv 0) pe_int (fun _ _ => rfl)) (pv 1)) (pg_sub (pv 0) pe_int set_list))
  (pss_one (ps_ret (pv 2)))))
    pss_nil)
  (pss_cons (ps_set (i := 3) sc__law_take.nd rfl (.inl rfl) (pe_ix ix_list (pv 0) pe_int (fun _ _ => rfl)))
  (pss_cons (ps_asg (pe_op op_add (pv 3) pe_int) (pg_sub (pv 0) pe_int set_list))
  (pss_cons (ps_set (i := 4) sc__law_take.nd rfl (.inl rfl) pe_int)
  (pss_cons (ps_if (pt_cmpR op_gt (pe_callB call_len_seq rfl T.len b_len (pa_cons (pe_ix ix_list (pv 0) pe_int (fun _ _ => rfl)) pa_nil)) pe_int (nomark _))
    (pss_one (ps_set (i := 4) sc__law_take.nd rfl (.inl rfl) (pe_ix ix_list (pe_ix ix_list (pv 0) pe_int (fun _ _ => rfl)) (pe_op op_mod (pv 3) (pe_callB call_len_seq rfl T.len b_len (pa_cons (pe_ix ix_list (pv 0) pe_int (fun _ _ => rfl)) pa_nil))) (fun _ _ => rfl))))
    pss_nil)
  (pss_cons (ps_if (PW.pt (pw_and (pt_cmpR op_lt (pv 3) (pe_callB call_len_seq rfl T.len b_len (pa_cons (pe_ix ix_list (pv 0) pe_int (fun _ _ => rfl)) pa_nil)) (nomark _)) (pw_and1 (pt_cmpR op_ge (pe_callB call_abs rfl T.abs b_abs (pa_cons (pv 4) pa_nil)) (pe_op op_pow pe_int pe_int) (nomark _)))))
    (pss_cons (ps_set (i := 5) sc__law_take.nd rfl (.inl rfl) (pe_op op_add (pe_op op_mul pe_int (pe_callB call_abs rfl T.abs b_abs (pa_cons (pv 4) pa_nil))) (pe_callTy call_int1 rfl T.int b_int (pa_cons (pe_cmpR op_lt (pv 4) pe_int (nomark _)) pa_nil))))
  (pss_cons (ps_asg (pe_op op_fdiv (pv 5) (pv 1)) (pg_sub (pv 0) pe_int set_list))
  (pss_one (ps_ret (pe_op op_mod (pv 5) (pv 1))))))
    pss_nil)
  (pss_cons (ps_set (i := 6) sc__law_take.nd rfl (.inl rfl) (pe_op op_mod (pe_op op_pow (pe_op op_add (pe_op op_add (pe_op op_add (pe_op op_mod (pv 4) pe_int) (pe_op op_mul pe_int (pv 3))) (pe_op op_mul (pe_op op_mul pe_int (pv 3)) (pv 3))) pe_int) pe_int) pe_int))
  (pss_cons (ps_set (i := 6) sc__law_take.nd rfl (.inl rfl) (pe_op op_mod (pe_op op_pow (pe_op op_add (pe_op op_mul (pv 6) (pe_op op_add (pv 3) pe_int)) (pe_op op_mod (pv 4) pe_int)) pe_int) pe_int))
  (pss_one (ps_ret (pe_op op_mod (pe_op op_fdiv (pv 6) pe_int) (pv 1)))))))))))), ?_⟩
    refine ⟨_, rfl, p, _, 2, _, rfl, rfl, SqL.of hp, rfl, _, _, rfl, rfl, _, rfl, ?_⟩
    by_cases hb : 0 < big
    · refine goT (decide_eq_true hb) ?_
      refine ⟨_, rfl, p, _, 2, _, rfl, rfl, SqL.of hp, rfl, _, rfl, _, _, rfl, rfl, m0, ?_⟩
      refine ⟨_, rfl, p, _, 2, _, rfl, rfl, SqL.of hp, rfl, _, rfl, _, _, rfl, rfl, ⟨m0, by omega⟩, _, rfl, p, _, 2, 2, rfl, rfl, hp, rfl, ?_⟩
      exact ⟨_, rfl, fin _ at_ (big / m) _ (Int.emod_nonneg _ (by omega)) (Int.emod_lt_of_pos _ m0) (Kp.put _ hp rfl rfl) upd_same a0 (by omega) (Int.ediv_nonneg b0 (by omega))⟩
    · refine goF (decide_eq_false hb) ?_
      refine ⟨_, rfl, p, _, 1, _, rfl, rfl, SqL.of hp, rfl, ?_⟩
      refine ⟨_, rfl, _, _, rfl, rfl, _, rfl, p, _, 1, 1, rfl, rfl, hp, rfl, ?_⟩
      have hp1 : upd H p (.lst [.ref c, .int (at_ + 1), .int big]) p = some (.lst [.ref c, .int (at_ + 1), .int big]) := upd_same
      have hc1 : upd H p (.lst [.ref c, .int (at_ + 1), .int big]) c = some (.lst (IL cells)) := by rw [upd_ne hpc.symm]; exact hc
      have k1 : Kp (One p) H (upd H p (.lst [.ref c, .int (at_ + 1), .int big])) := Kp.put _ hp rfl rfl
      show tSeq _ _ _ _ (upd H p (.lst [.ref c, .int (at_ + 1), .int big]))
      generalize upd H p (.lst [.ref c, .int (at_ + 1), .int big]) = H1 at hp1 hc1 k1
      refine ⟨_, rfl, p, _, 0, _, rfl, rfl, SqL.of hp1, rfl, c, _, rfl, .inl (SqL.of hc1), _, _, rfl, rfl, _, rfl, ?_⟩
      have aa : at_ * at_ ≤ 100000 * 100000 := Int.mul_le_mul (by omega) (by omega) (by omega) (by omega)
      have aa0 : 0 ≤ at_ * at_ := Int.mul_nonneg a0 a0
      by_cases z : 0 < cells.length
      case' pos =>
        refine goT (by rw [il_len]; exact decide_eq_true (by omega)) ?_
        have j0 := Int.emod_nonneg at_ (b := (cells.length : Int)) (by omega)
        have j1 := Int.emod_lt_of_pos at_ (b := (cells.length : Int)) (by omega)
        have ex : cells[(at_ % (cells.length : Int)).toNat]? = some (cells[(at_ % (cells.length : Int)).toNat]'(by omega)) := List.getElem?_eq_getElem _
        generalize cells[(at_ % (cells.length : Int)).toNat]'(by omega) = cell at ex
        have ex2 := seq_tup_at ex
        rw [Int.toNat_of_nonneg j0] at ex2
        refine ⟨_, rfl, p, _, 0, _, rfl, rfl, SqL.of hp1, rfl, _, rfl, _, rfl, p, _, 0, _, rfl, rfl, SqL.of hp1, rfl, c, _, rfl, .inl (SqL.of hc1), _, _, rfl, rfl, (by rw [il_len]; omega), c, _, _, _, rfl, rfl, SqL.of hc1, (by rw [il_len]; exact ex2), ?_⟩
      case' neg =>
        refine goF (by rw [il_len]; exact decide_eq_false (by omega)) ?_
        obtain ⟨cell, ecell⟩ : ∃ cell : Int, (877 : Int) = cell := ⟨_, rfl⟩
        show tSeq _ _ _ [some (.ref p), some (.int m), none, some (.int at_), some (.int 877), none, none] H1
        rw [ecell]
      all_goals
        have mix2 : ∀ D : L2.St → Hp → Prop, (∀ mixed : Int, 0 ≤ mixed → D [some (.ref p), some (.int m), none, some (.int at_), some (.int cell), none, some (.int mixed)] H1) → ∀ y : Int, 0 ≤ y → y < 2147483647 →
            tAsg (tOp (rI (fun _ j => 0 < j) fun i j => .int (i % j)) (tOp (rI CPow fun i j => .int (i ^ j.toNat)) (tOp (rI0 fun i j => .int (i + j)) (tOp (rI CMul fun i j => .int (i * j)) (tVar 6) (tOp (rI0 fun i j => .int (i + j)) (tVar 3) (tC (.int 69621))))
                (tOp (rI (fun _ j => 0 < j) fun i j => .int (i % j)) (tVar 4) (tC (.int 1021)))) (tC (.int 3))) (tC (.int 2147483587))) (gName 6) { nx := D, rt := Q } [some (.ref p), some (.int m), none, some (.int at_), some (.int cell), none, some (.int y)] H1 := by
          intro D hD y d0 d1
          have c2 := Int.emod_nonneg cell (b := 1021) (by decide)
          have c3 := Int.emod_lt_of_pos cell (b := 1021) (by decide)
          have y1 : y * (at_ + 69621) ≤ 2147483647 * 200000 := Int.mul_le_mul (by omega) (by omega) (by omega) (by omega)
          have y0 : 0 ≤ y * (at_ + 69621) := Int.mul_nonneg d0 (by omega)
          refine ⟨_, rfl, _, rfl, _, _, rfl, rfl, _, _, rfl, rfl, .inr ⟨by omega, by omega⟩, _, rfl, _, _, rfl, rfl, (show (0 : Int) < 1021 by decide), _, _, rfl, rfl, ?_⟩
          refine ⟨_, _, rfl, rfl, ⟨by decide, by decide, by omega⟩, _, _, rfl, rfl, (show (0 : Int) < 2147483587 by decide), ?_⟩
          exact hD _ (Int.emod_nonneg _ (by decide))
        have mix : ∀ D : L2.St → Hp → Prop, (∀ mixed : Int, 0 ≤ mixed → D [some (.ref p), some (.int m), none, some (.int at_), some (.int cell), none, some (.int mixed)] H1) →
            tSeq (tAsg (tOp (rI (fun _ j => 0 < j) fun i j => .int (i % j)) (tOp (rI CPow fun i j => .int (i ^ j.toNat)) (tOp (rI0 fun i j => .int (i + j)) (tOp (rI0 fun i j => .int (i + j)) (tOp (rI0 fun i j => .int (i + j))
              (tOp (rI (fun _ j => 0 < j) fun i j => .int (i % j)) (tVar 4) (tC (.int 2147483629))) (tOp (rI CMul fun i j => .int (i * j)) (tC (.int 40709)) (tVar 3))) (tOp (rI CMul fun i j => .int (i * j)) (tOp (rI CMul fun i j => .int (i * j)) (tC (.int 7919)) (tVar 3)) (tVar 3))) (tC (.int 31))) (tC (.int 5))) (tC (.int 2147483647))) (gName 6))
              (tAsg (tOp (rI (fun _ j => 0 < j) fun i j => .int (i % j)) (tOp (rI CPow fun i j => .int (i ^ j.toNat)) (tOp (rI0 fun i j => .int (i + j)) (tOp (rI CMul fun i j => .int (i * j)) (tVar 6) (tOp (rI0 fun i j => .int (i + j)) (tVar 3) (tC (.int 69621))))
                (tOp (rI (fun _ j => 0 < j) fun i j => .int (i % j)) (tVar 4) (tC (.int 1021)))) (tC (.int 3))) (tC (.int 2147483587))) (gName 6)) { nx := D, rt := Q } [some (.ref p), some (.int m), none, some (.int at_), some (.int cell), none, none] H1 := by
          intro D hD
          have c0 := Int.emod_nonneg cell (b := 2147483629) (by decide)
          have c1 := Int.emod_lt_of_pos cell (b := 2147483629) (by decide)
          have e79 : 7919 * at_ * at_ = 7919 * (at_ * at_) := Int.mul_assoc ..
          refine ⟨_, rfl, _, _, rfl, rfl, (show (0 : Int) < 2147483629 by decide), _, rfl, _, _, rfl, rfl, .inl ⟨by decide, by decide⟩, _, _, rfl, rfl, _, rfl, _, _, rfl, rfl, .inl ⟨by decide, by decide⟩, _, rfl, _, _, rfl, rfl, .inr ⟨by omega, by omega⟩, _, _, rfl, rfl, _, _, rfl, rfl, ?_⟩
          refine ⟨_, _, rfl, rfl, ⟨by decide, by decide, by rw [e79]; omega⟩, _, _, rfl, rfl, (show (0 : Int) < 2147483647 by decide), ?_⟩
          exact mix2 D hD _ (Int.emod_nonneg _ (by decide)) (Int.emod_lt_of_pos _ (by decide))
        have behind : ∀ mixed : Int, 0 ≤ mixed → Q (.int (mixed / 64 % m)) H1 := fun mixed h0 => fin _ (at_ + 1) big H1 (Int.emod_nonneg _ (by omega)) (Int.emod_lt_of_pos _ m0) k1 hp1 (by omega) (by omega) b0
        refine ⟨_, rfl, _, rfl, p, _, 0, _, rfl, rfl, SqL.of hp1, rfl, c, _, rfl, .inl (SqL.of hc1), _, _, rfl, rfl, _, rfl, ?_⟩
        have small : mix = mix → ∀ t : TS, t = tRet (tOp (rI (fun _ j => 0 < j) fun i j => .int (i % j)) (tOp (rI CDiv fun i j => .int (i / j)) (tVar 6) (tC (.int 64))) (tVar 1)) → ∀ mixed : Int, 0 ≤ mixed → t { nx := fun _ H' => Q .non H', rt := Q } [some (.ref p), some (.int m), none, some (.int at_), some (.int cell), none, some (.int mixed)] H1 := by
          rintro _ t rfl mixed h0
          exact ⟨_, rfl, _, _, rfl, rfl, ⟨by decide, by decide⟩, _, rfl, _, _, rfl, rfl, m0, behind mixed h0⟩
        by_cases y1 : at_ < (IL cells).length
        case' neg =>
          refine goF (decide_eq_false y1) (goF rfl ?_)
          exact mix _ (small rfl _ rfl)
        case' pos =>
          refine goT (decide_eq_true y1) ⟨_, rfl, _, rfl, _, _, rfl, rfl, ⟨by decide, by decide, by decide⟩, _, _, rfl, rfl, _, rfl, ?_⟩
          by_cases y2 : (10 : Int) ^ (18 : Int).toNat ≤ (if cell < 0 then -cell else cell)
          · refine goT (decide_eq_true y2) ?_
            refine ⟨_, rfl, _, rfl, _, _, rfl, rfl, .inl ⟨by decide, by decide⟩, _, rfl, _, _, rfl, rfl, .inr ⟨_, rfl, _, _, rfl, rfl, ?_⟩⟩
            have w0 : 0 ≤ 2 * (if cell < 0 then -cell else cell) + (if decide (cell < 0) = true then 1 else 0) := by split <;> split <;> omega
            show tSeq _ _ _ [some (.ref p), some (.int m), none, some (.int at_), some (.int cell), some (.int (2 * (if cell < 0 then -cell else cell) + (if decide (cell < 0) = true then 1 else 0))), none] H1
            generalize 2 * (if cell < 0 then -cell else cell) + (if decide (cell < 0) = true then 1 else 0) = whole at w0
            refine ⟨_, rfl, _, rfl, _, _, rfl, rfl, ⟨m0, by omega⟩, _, rfl, p, _, 2, 2, rfl, rfl, hp1, rfl, ?_⟩
            exact ⟨_, rfl, _, rfl, _, _, rfl, rfl, m0, fin _ (at_ + 1) (whole / m) _ (Int.emod_nonneg _ (by omega)) (Int.emod_lt_of_pos _ m0) (k1.set _ hp1 rfl (.inl rfl)) upd_same (by omega) (by omega) (Int.ediv_nonneg w0 (by omega))⟩
          · refine goF (decide_eq_false y2) ?_
            exact mix _ (small rfl _ rfl)
end
end NP
namespace NP
open PySem L2 PySem.Spec PyProof.Rows
theorem plain_snoc {xs : List Int} {x : Int} (h : Plain xs) (hx : 32 ≤ x ∧ x ≤ 126) : Plain (xs ++ [x]) := by
  intro y hy
  rcases (List.mem_append.mp hy) with hy | hy
  · exact h y hy
  · rw [List.mem_singleton] at hy; subst hy; exact hx
theorem rep_il (x : Int) : ∀ n : Nat, (List.replicate n [V.int x]).flatten = IL (List.replicate n x)
  | 0 => rfl
  | n + 1 => by
    rw [List.replicate_succ, List.flatten_cons, rep_il x n, List.replicate_succ]
    rfl
theorem plain_rep {x : Int} (hx : 32 ≤ x ∧ x ≤ 126) (n : Nat) : Plain (List.replicate n x) := fun y hy => by rw [List.eq_of_mem_replicate hy]; exact hx
def lets12 : List Int := [79, 80, 69, 70, 65, 83, 68, 90, 66, 89, 78, 68]
theorem lets12_at {r : Int} (h0 : 0 ≤ r) (h1 : r < 12) : ∃ c, atI (lets12.map ltr) r = some (ltr c) ∧ c ∈ lets := by
  have hl : r.toNat < lets12.length := by show r.toNat < 12; omega
  refine ⟨lets12[r.toNat], ?_, ?_⟩
  · have := atI_nat (xs := lets12.map ltr) (j := r.toNat) (v := ltr lets12[r.toNat]) (by rw [List.getElem?_map, List.getElem?_eq_getElem hl]; rfl)
    rw [Int.toNat_of_nonneg h0] at this
    exact this
  · have : ∀ c ∈ lets12, c ∈ lets := by decide
    exact this _ (List.getElem_mem hl)
section
variable {P : Program} {w : World} {K : PySem.W.Frag} {mg : Str → Option Value} {base : Heap} {C aL aO : Addr} {f : Addr} {fd : FuncData}
/-! ### _law_data -/
def spData : Sp := fun vs H Q _ => ∃ (p c : Addr) (cells : List Int) (n most : Int), vs = [.ref p, .int most] ∧ PenAt H p c cells n ∧ n ≤ 90000 ∧ 8 ≤ most ∧ most ≤ 100 ∧
  ∀ H' a ds, Kp (One p) H H' → PenAt H' p c cells (n + 200) → H' a = some (.tup (IL ds)) → Plain ds → (ds.length : Int) ≤ most → Q (.ref a) H'
theorem sc__law_data : FnScope ["_law_pen_here", "_law_most", "_law_way", "_law_sort", "_law_many", "_law_k"] ["_law_pen_here", "_law_most"] (defScope (top 36)) := ⟨rfl, rfl, rfl, by decide +kernel, rfl, by decide +kernel, by decide +kernel⟩
theorem ok_data (T : Txt K mg C aL aO) (F : FunP K "_law_data" (top 36) f fd) (c_law_take : Cal P w K mg base 1 "_law_take" spTake) : FnOk P w K mg base CX0 2 f fd ["_law_pen_here", "_law_most"] spData := by
  refine F.ok sc__law_data (fun vs H Q E h => ?_) (fun cdv A outer s H vs Q E hr h => ?_)
  · obtain ⟨p, c, cells, n, most, rfl, _⟩ := h; rfl
  · obtain ⟨p, c, cells, n, most, rfl, hP, hn, l8, l100, k⟩ := h
    refine ⟨_, PSs.nox (pss_cons (ps_set (i := 2) sc__law_data.nd rfl (.inl rfl) (pe_cc c_law_take hr (by decide) rfl (pa_cons (pv 0) (pa_cons pe_int pa_nil))))
  (pss_cons (ps_set (i := 3) sc__law_data.nd rfl (.inl rfl) (pe_cc c_law_take hr (by decide) rfl (pa_cons (pv 0) (pa_cons pe_int pa_nil))))
  (pss_cons (ps_set (i := 4) sc__law_data.nd rfl (.inl rfl) (pe_ix ix_list (pe_lst (pa_cons pe_int (pa_cons pe_int (pa_cons (pv 1) (pa_cons (pe_op op_sub (pv 1) pe_int) (pa_cons (pe_cc c_law_take hr (by decide) rfl (pa_cons (pv 0) (pa_cons (pe_op op_add (pv 1) pe_int) pa_nil))) (pa_cons (pe_cc c_law_take hr (by decide) rfl (pa_cons (pv 0) (pa_cons pe_int pa_nil))) pa_nil))))))) (pv 2) (fun _ _ => rfl)))
  (pss_cons (ps_if (pt_cmpR op_eq (pv 3) pe_int (nomark _))
    (pss_one (ps_ret (pe_op op_repA (pe_tup (pa_cons (pe_op op_add pe_int (pe_cc c_law_take hr (by decide) rfl (pa_cons (pv 0) (pa_cons pe_int pa_nil)))) pa_nil)) (pv 4))))
    pss_nil)
  (pss_cons (ps_if (pt_cmpR op_eq (pv 3) pe_int (nomark _))
    (pss_one (ps_ret (pe_callTy call_tuple_of rfl T.tuple b_tuple (pa_cons (pe_lc (own := [("_law_k", 5)]) (g := gName 5) (tt := tYes) rfl sc__law_data.nd (pi_range1 rfl T.range (pa_cons (pv 4) pa_nil)) (blkOk_by (N := ["_law_pen_here", "_law_most", "_law_way", "_law_sort", "_law_many", "_law_k"]) (sc := defScope (top 36)) (by decide +kernel)) (fun _ _ _ _ _ => (pg_name (i := 5) sc__law_data.nd rfl (.inl rfl))) (fun _ _ _ _ _ => pts_nil) (fun _ _ _ _ _ => (pe_ix (ix_listK K) (pe_lst (pa_cons pe_int (pa_cons pe_int (pa_cons pe_int (pa_cons pe_int pa_nil))))) (pe_cc c_law_take hr (by decide) rfl (pa_cons (pv 0) (pa_cons pe_int pa_nil))) (fun _ _ => rfl)))) pa_nil))))
    pss_nil)
  (pss_one (ps_ret (pe_callTy call_tuple_of rfl T.tuple b_tuple (pa_cons (pe_lc (own := [("_law_k", 5)]) (g := gName 5) (tt := tYes) rfl sc__law_data.nd (pi_range1 rfl T.range (pa_cons (pv 4) pa_nil)) (blkOk_by (N := ["_law_pen_here", "_law_most", "_law_way", "_law_sort", "_law_many", "_law_k"]) (sc := defScope (top 36)) (by decide +kernel)) (fun _ _ _ _ _ => (pg_name (i := 5) sc__law_data.nd rfl (.inl rfl))) (fun _ _ _ _ _ => pts_nil) (fun _ _ _ _ _ => (pe_op op_add pe_int (pe_cc c_law_take hr (by decide) rfl (pa_cons (pv 0) (pa_cons pe_int pa_nil)))))) pa_nil))))))))), ?_⟩
    refine ⟨_, rfl, p, c, cells, n, 6, rfl, hP, by omega, by omega, by omega, fun way H1 w0 w1 k1 hP1 => ?_⟩
    refine ⟨_, rfl, p, c, cells, _, 4, rfl, hP1, by omega, by omega, by omega, fun sort H2 s0 s1 k2 hP2 => ?_⟩
    refine ⟨_, rfl, _, rfl, _, _, rfl, rfl, _, rfl, _, rfl, _, _, rfl, rfl, p, c, cells, _, _, rfl, hP2, by omega, by omega, by omega, fun r3 H3 r30 r31 k3 hP3 => ?_⟩
    refine ⟨_, rfl, p, c, cells, _, 9, rfl, hP3, by omega, by omega, by omega, fun r4 H4 r40 r41 k4 hP4 => ⟨smle (by show 6 ≤ 16000; decide), fun q nq => ?_⟩⟩
    have k14 := ((k1.trans k2).trans k3).trans k4
    obtain ⟨many, em, m0, m1⟩ : ∃ many : Int, atI [V.int 0, .int 1, .int most, .int (most - 1), .int r3, .int r4] way = some (.int many) ∧ 0 ≤ many ∧ many ≤ most := by
      have : way = 0 ∨ way = 1 ∨ way = 2 ∨ way = 3 ∨ way = 4 ∨ way = 5 := by omega
      rcases this with rfl | rfl | rfl | rfl | rfl | rfl
      · exact ⟨0, rfl, by omega, by omega⟩
      · exact ⟨1, rfl, by omega, by omega⟩
      · exact ⟨most, rfl, by omega, by omega⟩
      · exact ⟨most - 1, rfl, by omega, by omega⟩
      · exact ⟨r3, rfl, by omega, by omega⟩
      · exact ⟨r4, rfl, by omega, by omega⟩
    refine ⟨_, rfl, q, _, way, _, rfl, rfl, SqL.of upd_same, em, ?_⟩
    have k5 := k14.alloc (.lst [.int 0, .int 1, .int most, .int (most - 1), .int r3, .int r4]) nq
    have hP5 := hP4.kp (Kp.new (W := No) (.lst [.int 0, .int 1, .int most, .int (most - 1), .int r3, .int r4]) nq) (fun q => q) (fun q => q)
    refine ⟨_, rfl, rfl, ⟨_, rfl, ?_⟩⟩
    generalize upd H4 q (.lst [.int 0, .int 1, .int most, .int (most - 1), .int r3, .int r4]) = H5 at k5 hP5
    clear nq hP4 hP3 hP2 hP1 k1 k2 k3 k4 k14
    by_cases e0 : sort = 0
    · refine goT (by simp [e0]) ?_
      refine ⟨_, rfl, p, c, cells, _, 95, rfl, hP5, by omega, by omega, by omega, fun r H6 r0 r1 k6 hP6 => ?_⟩
      refine ⟨_, _, rfl, rfl, smle (by show 1 ≤ 16000; decide), fun a na => ?_⟩
      have k7 := (k5.trans k6).alloc (.tup [.int (32 + r)]) na
      have hP7 := (hP6.kp (Kp.new (W := No) (.tup [.int (32 + r)]) na) (fun q => q) (fun q => q)).mono (show n + 1 + 1 + 1 + 1 + 1 ≤ n + 200 by omega)
      refine ⟨_, rfl, a, many, _, rfl, rfl, SqT.of upd_same, by simp, by omega, by omega, by show 1 ≤ 1000; decide, fun e1 => ?_, fun e1 z nz => ?_⟩
      · exact k _ a [32 + r] k7 hP7 upd_same (plain_snoc (xs := []) (fun y hy => by cases hy) (by omega)) (by show (1 : Int) ≤ most; omega)
      · refine k _ z (List.replicate many.toNat (32 + r)) (k7.alloc _ nz) (hP7.kp (Kp.new (W := No) _ nz) (fun q => q) (fun q => q)) ?_ (plain_rep (by omega) _) (by rw [List.length_replicate]; omega)
        rw [upd_same]
        exact congrArg (fun t => some (HO.tup t)) (rep_il _ _)
    · refine goF (by simp [e0]) ?_
      refine ⟨_, rfl, rfl, ⟨_, rfl, ?_⟩⟩
      by_cases e1 : sort = 1
      · refine goT (by simp [e1]) ?_
        refine ⟨_, rfl, many, rfl, by omega, by omega, fun D nD => ?_⟩
        have hDp : D ≠ p := fun q => by obtain ⟨_, _, e, _⟩ := hP5.pen; rw [q, e] at nD; cases nD
        have hDc : D ≠ c := fun q => by rw [q, hP5.cel] at nD; cases nD
        refine lc_range (lo := 0) (n := many.toNat) (fun i H' => ∃ xs : List Int, Kp (fun b => b = p ∨ b = D) H5 H' ∧ PenAt H' p c cells (n + 4 + i) ∧ H' D = some (.lst (IL xs)) ∧ Plain xs ∧ xs.length = i)
          ⟨[], (Kp.refl H5).alloc _ nD, (hP5.kp (Kp.new (W := No) _ nD) (fun q => q) (fun q => q)).mono (by omega), upd_same, (fun y hy => by cases hy), rfl⟩ ?_ ?_
        · rintro i H' hi ⟨xs, kp, hP', hD, hx, hl⟩
          refine ⟨rfl, smle (by show 4 ≤ 16000; decide), fun z nz => ?_⟩
          have hPz := hP'.kp (Kp.new (W := No) (.lst [.int 32, .int 126, .int 35, .int 38]) nz) (fun q => q) (fun q => q)
          have hDz := upd_keep (u := .lst [.int 32, .int 126, .int 35, .int 38]) nz hD
          have hzz : upd H' z (.lst [.int 32, .int 126, .int 35, .int 38]) z = some (.lst [.int 32, .int 126, .int 35, .int 38]) := upd_same
          have hzp : z ≠ p := fun q => by obtain ⟨_, _, e, _⟩ := hP'.pen; rw [q, e] at nz; cases nz
          refine ⟨_, rfl, p, c, cells, _, 4, rfl, hPz, by omega, by omega, by omega, fun r H6 r0 r1 k6 hP6 => ?_⟩
          obtain ⟨y, ey, hy⟩ : ∃ y : Int, atI [V.int 32, .int 126, .int 35, .int 38] r = some (.int y) ∧ 32 ≤ y ∧ y ≤ 126 := by
            have : r = 0 ∨ r = 1 ∨ r = 2 ∨ r = 3 := by omega
            rcases this with rfl | rfl | rfl | rfl
            · exact ⟨32, rfl, by omega, by omega⟩
            · exact ⟨126, rfl, by omega, by omega⟩
            · exact ⟨35, rfl, by omega, by omega⟩
            · exact ⟨38, rfl, by omega, by omega⟩
          have hD6 := k6.keep _ _ hDz hDp
          refine ⟨z, _, r, _, rfl, rfl, SqL.of (k6.keep _ _ hzz hzp), ey, _, hD6, sml (by rw [il_len, hl]; omega), xs ++ [y], ?_, ?_, ?_, plain_snoc hx hy, by simp [hl]⟩
          · exact ((kp.alloc _ nz).call k6 fun b q => .inl (.inl q)).set _ hD6 rfl (.inl (.inr rfl))
          · exact (hP6.kp (Kp.put (W := One D) _ hD6 rfl rfl) (fun q => hDp q.symm) (fun q => hDc q.symm)).mono (by omega)
          · rw [upd_same, il_snoc]
        · rintro H' ⟨xs, kp, hP', hD, hx, hl⟩
          refine ⟨D, _, rfl, .inl ⟨SqL.of hD, fun t nt => ?_⟩⟩
          refine k _ t xs ((k5.trans (Kp.drop nD kp)).alloc _ nt) ((hP'.kp (Kp.new (W := No) _ nt) (fun q => q) (fun q => q)).mono (by omega)) upd_same hx (by omega)
      · refine goF (by simp [e1]) ?_
        refine ⟨_, rfl, many, rfl, by omega, by omega, fun D nD => ?_⟩
        have hDp : D ≠ p := fun q => by obtain ⟨_, _, e, _⟩ := hP5.pen; rw [q, e] at nD; cases nD
        have hDc : D ≠ c := fun q => by rw [q, hP5.cel] at nD; cases nD
        refine lc_range (lo := 0) (n := many.toNat) (fun i H' => ∃ xs : List Int, Kp (fun b => b = p ∨ b = D) H5 H' ∧ PenAt H' p c cells (n + 4 + i) ∧ H' D = some (.lst (IL xs)) ∧ Plain xs ∧ xs.length = i)
          ⟨[], (Kp.refl H5).alloc _ nD, (hP5.kp (Kp.new (W := No) _ nD) (fun q => q) (fun q => q)).mono (by omega), upd_same, (fun y hy => by cases hy), rfl⟩ ?_ ?_
        · rintro i H' hi ⟨xs, kp, hP', hD, hx, hl⟩
          refine ⟨rfl, ?_⟩
          refine ⟨_, rfl, p, c, cells, _, 95, rfl, hP', by omega, by omega, by omega, fun r H6 r0 r1 k6 hP6 => ?_⟩
          have hD6 := k6.keep _ _ hD hDp
          refine ⟨_, _, rfl, rfl, _, hD6, sml (by rw [il_len, hl]; omega), xs ++ [32 + r], ?_, ?_, ?_, plain_snoc hx (by omega), by simp [hl]⟩
          · exact (kp.call k6 fun b q => .inl (.inl q)).set _ hD6 rfl (.inl (.inr rfl))
          · exact (hP6.kp (Kp.put (W := One D) _ hD6 rfl rfl) (fun q => hDp q.symm) (fun q => hDc q.symm)).mono (by omega)
          · rw [upd_same, il_snoc]
        · rintro H' ⟨xs, kp, hP', hD, hx, hl⟩
          refine ⟨D, _, rfl, .inl ⟨SqL.of hD, fun t nt => ?_⟩⟩
          refine k _ t xs ((k5.trans (Kp.drop nD kp)).alloc _ nt) ((hP'.kp (Kp.new (W := No) _ nt) (fun q => q) (fun q => q)).mono (by omega)) upd_same hx (by omega)
end
end NP
namespace NP
open PySem L2 PySem.Spec PyProof.Rows
def putL (by_ n c : Int) (ds : List Int) : List Int := markOf c :: (body (kOf by_ c) n c ds ++ chk (kOf by_ c) (body (kOf by_ c) n c ds))
theorem kOf_kind {k : Int} (h : Kind k) (c : Int) : Kind (kOf k c) := by unfold kOf; split; exact .inl rfl; exact h
theorem body_len {k n c : Int} {ds : List Int} : (body k n c ds).length = 4 + ds.length := by unfold body; simp; omega
theorem opens3 : [V.str "O", .str "P", .str "E"] = opens.map ltr := rfl
theorem mul_at {k : Int} (h : Kind k) (h1 : k ≠ 1) : atI [V.int 9013, .int 857369] (k - 2) = some (.int (md k)) := by
  rcases h with rfl | rfl | rfl
  · exact absurd rfl h1
  · rfl
  · rfl
theorem in_nomarks (s : Int) : atI [V.int s, .int 0] (if (if false = true then !inV (.int s) [.int 1, .int 2] else inV (.int s) [.int 1, .int 2]) = true then 1 else 0) = some (.int (if s = 1 ∨ s = 2 then 0 else s)) := by
  show atI [V.int s, .int 0] (if inV (.int s) [.int 1, .int 2] = true then 1 else 0) = _
  rw [in_marks]
  by_cases h : s = 1 ∨ s = 2
  · rw [if_pos (decide_eq_true h), if_pos h]; rfl
  · rw [if_neg (by simpa using h), if_neg h]; rfl
section
variable {P : Program} {w : World} {K : PySem.W.Frag} {mg : Str → Option Value} {base : Heap} {C aL aO : Addr} {f : Addr} {fd : FuncData}
theorem PenAt.nn {H : Hp} {p c : Addr} {cells : List Int} {n : Int} (h : PenAt H p c cells n) {q : Addr} (nq : H q = none) : q ≠ p ∧ q ≠ c := by
  obtain ⟨_, _, e, _⟩ := h.pen
  exact ⟨(ne_of_none e nq).symm, (ne_of_none h.cel nq).symm⟩
theorem PenAt.al {H : Hp} {p c : Addr} {cells : List Int} {n : Int} (h : PenAt H p c cells n) {q : Addr} (o : HO) (nq : H q = none) : PenAt (upd H q o) p c cells n := h.kp (Kp.new (W := No) o nq) (fun q => q) (fun q => q)
/-! ### _law_packet -/
def spPacket : Sp := fun vs H Q _ => ∃ (p c : Addr) (cells : List Int) (n by_ : Int), vs = [.ref p, .int by_] ∧ PenAt H p c cells n ∧ n ≤ 80000 ∧ Kind by_ ∧
  ∀ H' q num let_ ds, Kp (One p) H H' → PenAt H' p c cells (n + 300) → PkAt H' q num let_ ds → 0 ≤ num → num ≤ 63 → let_ ∈ lets → Plain ds → 2 + (ds.length : Int) + kOf by_ let_ ≤ 94 → Q (.ref q) H'
theorem sc__law_packet : FnScope ["_law_pen_here", "_law_by", "_law_letter", "_law_number", "_law_most"] ["_law_pen_here", "_law_by"] (defScope (top 37)) := ⟨rfl, rfl, rfl, by decide +kernel, rfl, by decide +kernel, by decide +kernel⟩
theorem ok_packet (T : Txt K mg C aL aO) (F : FunP K "_law_packet" (top 37) f fd) (c_law_take : Cal P w K mg base 1 "_law_take" spTake) (c_law_data : Cal P w K mg base 2 "_law_data" spData) : FnOk P w K mg base CX0 3 f fd ["_law_pen_here", "_law_by"] spPacket := by
  refine F.ok sc__law_packet (fun vs H Q E h => ?_) (fun cdv A outer s H vs Q E hr h => ?_)
  · obtain ⟨p, c, cells, n, b, rfl, _⟩ := h; rfl
  · obtain ⟨p, c, cells, n, b, rfl, hP, hn, hb, k⟩ := h
    have b3 := kind_pos hb
    refine ⟨_, PSs.nox (pss_cons (ps_set (i := 2) sc__law_packet.nd rfl (.inl rfl) (pe_ix ix_list (pe_lst (pa_cons pe_str (pa_cons pe_str (pa_cons pe_str (pa_cons pe_str (pa_cons pe_str (pa_cons pe_str (pa_cons pe_str (pa_cons pe_str (pa_cons pe_str (pa_cons pe_str (pa_cons pe_str (pa_cons pe_str pa_nil))))))))))))) (pe_cc c_law_take hr (by decide) rfl (pa_cons (pv 0) (pa_cons pe_int pa_nil))) (fun _ _ => rfl)))
  (pss_cons (ps_set (i := 3) sc__law_packet.nd rfl (.inl rfl) (pe_ix ix_list (pe_lst (pa_cons pe_int (pa_cons pe_int (pa_cons (pe_cc c_law_take hr (by decide) rfl (pa_cons (pv 0) (pa_cons pe_int pa_nil))) pa_nil)))) (pe_cc c_law_take hr (by decide) rfl (pa_cons (pv 0) (pa_cons pe_int pa_nil))) (fun _ _ => rfl)))
  (pss_cons (ps_set (i := 4) sc__law_packet.nd rfl (.inl rfl) (pe_op op_sub pe_int (pv 1)))
  (pss_cons (ps_if (pt_cmpR op_in_seq (pv 2) (pe_lst (pa_cons pe_str (pa_cons pe_str (pa_cons pe_str pa_nil)))) (by rfl))
    (pss_one (ps_set (i := 4) sc__law_packet.nd rfl (.inl rfl) pe_int))
    pss_nil)
  (pss_one (ps_ret (pe_tup (pa_cons (pv 3) (pa_cons (pv 2) (pa_cons (pe_cc c_law_data hr (by decide) rfl (pa_cons (pv 0) (pa_cons (pv 4) pa_nil))) pa_nil)))))))))), ?_⟩
    refine ⟨smle (by show 12 ≤ 16000; decide), fun z nz => ?_⟩
    have hz : upd H z (.lst (lets12.map ltr)) z = some (.lst (lets12.map ltr)) := upd_same
    have hPz := hP.al (.lst (lets12.map ltr)) nz
    have hzp := (hP.nn nz).1
    refine ⟨_, rfl, p, c, cells, _, 12, rfl, hPz, by omega, by omega, by omega, fun r H1 r0 r1 k1 hP1 => ?_⟩
    obtain ⟨l, el, hl⟩ := lets12_at r0 r1
    refine ⟨z, _, r, _, rfl, rfl, SqL.of (k1.keep _ _ hz hzp), el, ?_⟩
    have k1' := (Kp.new (W := One p) (.lst (lets12.map ltr)) nz).trans k1
    -- the number
    refine ⟨_, rfl, p, c, cells, _, 64, rfl, hP1, by omega, by omega, by omega, fun r2 H2 r20 r21 k2 hP2 => ⟨smle (by show 3 ≤ 16000; decide), fun z2 nz2 => ?_⟩⟩
    refine ⟨_, rfl, p, c, cells, _, 3, rfl, hP2.al _ nz2, by omega, by omega, by omega, fun r3 H3 r30 r31 k3 hP3 => ?_⟩
    have hz2 := k3.keep _ _ (upd_same (H := H2) (a := z2) (o := .lst [.int 0, .int 63, .int r2])) (hP2.nn nz2).1
    obtain ⟨num, en, n0, n1⟩ : ∃ num : Int, atI [V.int 0, .int 63, .int r2] r3 = some (.int num) ∧ 0 ≤ num ∧ num ≤ 63 := by
      have : r3 = 0 ∨ r3 = 1 ∨ r3 = 2 := by omega
      rcases this with rfl | rfl | rfl
      · exact ⟨0, rfl, by omega, by omega⟩
      · exact ⟨63, rfl, by omega, by omega⟩
      · exact ⟨r2, rfl, by omega, by omega⟩
    refine ⟨z2, _, r3, _, rfl, rfl, SqL.of hz2, en, ?_⟩
    have k3' := ((k1'.trans k2).alloc _ nz2).trans k3
    refine ⟨_, rfl, _, _, rfl, rfl, _, rfl, smle (by show 3 ≤ 16000; decide), fun z4 nz4 => ⟨z4, _, rfl, .inl (SqL.of upd_same), rfl, rfl, _, rfl, ?_⟩⟩
    have k4 := k3'.alloc (.lst (opens.map ltr)) nz4
    have hP4 := hP3.al (.lst (opens.map ltr)) nz4
    have fin : ∀ (most : Int) (H5 : Hp), Kp (One p) H H5 → PenAt H5 p c cells (n + 1 + 1 + 1) → 8 ≤ most → most ≤ 100 → (most = 92 - kOf b l) → spData [.ref p, .int most] H5 (fun v H6 => [V.int num, ltr l, v].length ≤ sizeLine ∧ ∀ q, H6 q = none → Q (.ref q) (upd H6 q (.tup [.int num, ltr l, v]))) E0 := by
      intro most H5 k5 hP5 m8 m100 em
      refine ⟨p, c, cells, _, most, rfl, hP5, by omega, m8, m100, fun H6 a ds k6 hP6 ha hd hl6 => ⟨smle (by show 3 ≤ 16000; decide), fun q nq => ?_⟩⟩
      exact k _ q num l ds ((k5.trans k6).alloc _ nq) ((hP6.al _ nq).mono (by omega)) ⟨a, upd_same, upd_keep nq ha⟩ n0 n1 hl hd (by omega)
    by_cases ho : l ∈ opens
    · refine goT (by show (if false = true then !inV (ltr l) (opens.map ltr) else inV (ltr l) (opens.map ltr)) = true; rw [if_neg (by decide), in_opens hl]; exact decide_eq_true ho) ?_
      refine ⟨_, rfl, _, rfl, _, rfl, _, rfl, fin 91 _ k4 hP4 (by omega) (by omega) ?_⟩
      unfold kOf; rw [if_pos ho]; rfl
    · refine goF (by show (if false = true then !inV (ltr l) (opens.map ltr) else inV (ltr l) (opens.map ltr)) = false; rw [if_neg (by decide), in_opens hl]; exact decide_eq_false ho) ?_
      refine ⟨_, rfl, _, rfl, _, rfl, _, rfl, fin (92 - b) _ k4 hP4 (by omega) (by omega) ?_⟩
      unfold kOf; rw [if_neg ho]
/-! ### _law_check -/
def spLCheck : Sp := fun vs H Q _ => ∃ (a : Addr) (row : List Int) (k : Int), vs = [.ref a, .int k] ∧ SqL K H a (IL row) ∧ Kind k ∧ RLst (IL (chk k row)) H Q
theorem sc__law_check : FnScope ["_law_row", "_law_by", "_law_total", "_law_sign", "_law_figures", "_law_turn_here"] ["_law_row", "_law_by"] (defScope (top 38)) := ⟨rfl, rfl, rfl, by decide +kernel, rfl, by decide +kernel, by decide +kernel⟩
theorem ok_lcheck (T : Txt K mg C aL aO) (F : FunP K "_law_check" (top 38) f fd) : FnOk P w K mg base CX0 1 f fd ["_law_row", "_law_by"] (spLCheck (K := K)) := by
  refine F.ok sc__law_check (fun vs H Q E h => ?_) (fun cdv A outer s H vs Q E hr h => ?_)
  · obtain ⟨a, row, k, rfl, _⟩ := h; rfl
  · obtain ⟨a, row, k, rfl, hs, hk, kk⟩ := h
    have k3 := kind_pos hk
    refine ⟨_, PSs.nox (pss_cons (ps_set (i := 2) sc__law_check.nd rfl (.inl rfl) pe_int)
  (pss_cons (ps_for PassesOwn.never rfl (pi_list (pv 0)) (pg_name (i := 3) sc__law_check.nd rfl (.inl rfl))
    (pss_one (ps_if (pt_cmpR op_eq (pv 1) pe_int (nomark _))
    (pss_one (ps_set (i := 2) sc__law_check.nd rfl (.inl rfl) (pe_op op_mod (pe_op op_sub (pe_op op_add (pv 2) (pv 3)) pe_int) pe_int)))
    (pss_one (ps_set (i := 2) sc__law_check.nd rfl (.inl rfl) (pe_op op_mod (pe_op op_sub (pe_op op_add (pe_op op_mul pe_int (pv 2)) (pv 3)) pe_int) (pe_ix ix_list (pe_lst (pa_cons pe_int (pa_cons pe_int pa_nil))) (pe_op op_sub (pv 1) pe_int) (fun _ _ => rfl))))))))
  (pss_cons (ps_set (i := 4) sc__law_check.nd rfl (.inl rfl) (pe_lst pa_nil))
  (pss_cons (ps_for PassesOwn.never rfl (pi_range1 rfl T.range (pa_cons (pv 1) pa_nil)) (pg_name (i := 5) sc__law_check.nd rfl (.inl rfl))
    (pss_cons (ps_expr (pe_bm PySem.F.plainAttrs_list PySem.F.slot_list_insert PySem.F.type_list_insert mt_insert (pv 4) (pa_cons pe_int (pa_cons (pe_op op_add pe_int (pe_op op_mod (pv 2) pe_int)) pa_nil))))
  (pss_one (ps_set (i := 2) sc__law_check.nd rfl (.inl rfl) (pe_op op_fdiv (pv 2) pe_int)))))
  (pss_one (ps_ret (pv 4))))))), ?_⟩
    refine ⟨_, rfl, a, rfl, ⟨_, hs⟩, for_list (K := K) (a := a) (xs := IL row) (fun i σ H' => ∃ t : Option V, Kp No H H' ∧ σ = [some (.ref a), some (.int k), some (.int ((row.take i).foldl (lawStep k) 0)), t, none, none]) ⟨none, Kp.refl _, rfl⟩ ?_ ?_ ?_⟩
    · rintro i σ H' _ ⟨_, kp, _⟩; exact kp.seqL (fun q => q) hs
    · rintro i y σ H' hy ⟨t, kp, rfl⟩
      obtain ⟨n, hn, rfl⟩ := il_at hy
      have ef := foldl_at (lawStep k) 0 hn
      refine ⟨_, rfl, rfl, ⟨_, rfl, ?_⟩⟩
      by_cases e : k = 1
      · refine goT (by simp [e]) ?_
        refine ⟨_, rfl, _, rfl, _, _, rfl, rfl, _, _, rfl, rfl, _, _, rfl, rfl, (show (0 : Int) < 95 by decide), some (.int n), kp, ?_⟩
        rw [ef]
        unfold lawStep
        rw [if_pos e]
        rfl
      · refine goF (by simp [e]) ?_
        refine ⟨_, rfl, _, _, rfl, rfl, .inl ⟨by decide, by decide⟩, _, rfl, _, _, rfl, rfl, _, _, rfl, rfl, smle (by show 2 ≤ 16000; decide), fun z nz => ?_⟩
        refine ⟨_, rfl, _, _, rfl, rfl, z, _, k - 2, _, rfl, rfl, SqL.of upd_same, mul_at hk e, _, _, rfl, rfl, md_pos k, some (.int n), kp.alloc _ nz, ?_⟩
        rw [ef]
        unfold lawStep
        rw [if_neg e]
        rfl
    · rintro σ H' ⟨t, kp, rfl⟩
      rw [il_len, List.take_length, law_tot hk]
      refine ⟨Nat.zero_le _, fun l nl => ?_⟩
      refine ⟨_, rfl, k, rfl, by omega, by omega, for_range (fun i σ H' => ∃ t t2 : Option V, σ = [some (.ref a), some (.int k), some (.int (down (tot k row) i)), t2, some (.ref l), t] ∧ Kp (One l) H H' ∧ H' l = some (.lst (IL (figs (tot k row) i)))) ?_ ?_ ?_⟩
      · exact ⟨none, t, rfl, kp.no.alloc _ nl, upd_same⟩
      · rintro i σ H2 hi ⟨t, t2, rfl, k2, hl⟩
        refine ⟨_, rfl, .inl ⟨rfl, _, SqL.of hl⟩, _, rfl, _, _, rfl, rfl, (show (0 : Int) < 95 by decide), _, _, rfl, rfl, l, _, 0, _, rfl, rfl, hl, sml (by rw [il_len, figs_len]; omega), by decide, by decide, ?_⟩
        refine ⟨_, rfl, _, _, rfl, rfl, ⟨by decide, by decide⟩, some (.int (0 + i)), t2, rfl, k2.set _ hl rfl (.inl rfl), ?_⟩
        rw [upd_same, figs_succ]
        rfl
      · rintro σ H2 ⟨t, t2, rfl, k2, hl⟩
        exact ⟨_, rfl, kk l H2 (Kp.drop1 (kp.free nl) k2) (kp.free nl) hl⟩
end
end NP
namespace NP
open PySem L2 PySem.Spec PyProof.Rows
/-- what a packet's writing puts ahead of the data -/
def head4 (k n c : Int) (m : Nat) : List V := [.int (32 + (2 + (m : Int) + k)), .int (126 - (2 + (m : Int) + k)), .int (32 + n), .int c]
theorem head4_body (k n c : Int) (ds : List Int) : head4 k n c ds.length ++ IL ds = IL (body k n c ds) := by
  unfold body
  rw [il_app]
  rfl
section
variable {P : Program} {w : World} {K : PySem.W.Frag} {mg : Str → Option Value} {base : Heap} {C aL aO : Addr} {f : Addr} {fd : FuncData}
/-! ### _law_put -/
def spPut : Sp := fun vs H Q _ => ∃ (q : Addr) (num let_ b : Int) (ds : List Int), vs = [.ref q, .int b] ∧ PkAt H q num let_ ds ∧ let_ ∈ lets ∧ Kind b ∧ ds.length ≤ 1000 ∧ RLst (IL (putL b num let_ ds)) H Q
theorem sc__law_put : FnScope ["_law_packet_here", "_law_by", "_law_number", "_law_letter", "_law_data_here", "_law_mark", "_law_size", "_law_row"] ["_law_packet_here", "_law_by"] (defScope (top 39)) := ⟨rfl, rfl, rfl, by decide +kernel, rfl, by decide +kernel, by decide +kernel⟩
theorem ok_put (T : Txt K mg C aL aO) (F : FunP K "_law_put" (top 39) f fd) (c_law_check : Cal P w K mg base 1 "_law_check" (spLCheck (K := K))) : FnOk P w K mg base CX0 2 f fd ["_law_packet_here", "_law_by"] spPut := by
  refine F.ok sc__law_put (fun vs H Q E h => ?_) (fun cdv A outer s H vs Q E hr h => ?_)
  · obtain ⟨q, num, l, b, ds, rfl, hq, hl, hb, hlen, kk⟩ := h; rfl
  · obtain ⟨q, num, l, b, ds, rfl, hq, hl, hb, hlen, kk⟩ := h
    obtain ⟨d, h1, h2⟩ := hq
    have pl := lets_plain hl
    have eo : ((l.toNat : Nat) : Int) = l := Int.toNat_of_nonneg (by omega)
    refine ⟨_, PSs.nox (pss_cons (ps_asg (pv 0) (pg_tup rfl (pgs_cons (pg_name (i := 2) sc__law_put.nd rfl (.inl rfl)) (pgs_cons (pg_name (i := 3) sc__law_put.nd rfl (.inl rfl)) (pgs_cons (pg_name (i := 4) sc__law_put.nd rfl (.inl rfl)) pgs_nil)))))
  (pss_cons (ps_set (i := 5) sc__law_put.nd rfl (.inl rfl) pe_int)
  (pss_cons (ps_if (pt_cmpR op_in_seq (pv 3) (pe_lst (pa_cons pe_str (pa_cons pe_str (pa_cons pe_str pa_nil)))) (by rfl))
    (pss_cons (ps_set (i := 5) sc__law_put.nd rfl (.inl rfl) pe_int)
  (pss_one (ps_set (i := 1) sc__law_put.nd rfl (.inl rfl) pe_int)))
    pss_nil)
  (pss_cons (ps_set (i := 6) sc__law_put.nd rfl (.inl rfl) (pe_op op_add (pe_op op_add pe_int (pe_callB call_len_seq rfl T.len b_len (pa_cons (pv 4) pa_nil))) (pv 1)))
  (pss_cons (ps_set (i := 7) sc__law_put.nd rfl (.inl rfl) (pe_op op_cat (pe_lst (pa_cons (pe_op op_add pe_int (pv 6)) (pa_cons (pe_op op_sub pe_int (pv 6)) (pa_cons (pe_op op_add pe_int (pv 2)) (pa_cons (pe_callB call_ord rfl T.ord b_ord (pa_cons (pv 3) pa_nil)) pa_nil))))) (pe_callTy call_list_of rfl T.list b_list (pa_cons (pv 4) pa_nil))))
  (pss_one (ps_ret (pe_op op_cat (pe_op op_cat (pe_lst (pa_cons (pv 5) pa_nil)) (pv 7)) (pe_cc c_law_check hr (by decide) rfl (pa_cons (pv 7) (pa_cons (pv 1) pa_nil))))))))))), ?_⟩
    refine ⟨_, rfl, q, _, rfl, SqT.of h1, rfl, _, _, rfl, _, _, rfl, _, _, rfl, rfl, ?_⟩
    refine ⟨_, rfl, smle (by show 3 ≤ 16000; decide), fun z nz => ⟨z, _, rfl, .inl (SqL.of upd_same), rfl, rfl, _, rfl, ?_⟩⟩
    have k1 := (Kp.refl (W := No) H).alloc (.lst (opens.map ltr)) nz
    -- the end, by the heap and the mark and the kind of check
    have fin : ∀ (mark kc : Int) (H1 : Hp) (u : Addr), Kp No H H1 → mark = markOf l → kc = kOf b l → H1 u = some (.lst (IL (body kc num l ds))) →
        tRet (tOp rCat (tOp rCat (tLst (tCons (tVar 5) tNil)) (tVar 7)) (tCall (spLCheck (K := K)) [] E0 (tCons (tVar 7) (tCons (tVar 1) tNil)))) { nx := fun _ H' => Q .non H', rt := Q }
          [some (.ref q), some (.int kc), some (.int num), some (ltr l), some (.ref d), some (.int mark), some (.int (2 + (ds.length : Int) + kc)), some (.ref u)] H1 := by
      rintro mark kc H1 u k1 em ek hu
      have hk3 := kind_pos (kOf_kind hb l)
      rw [← ek] at hk3
      have hbl : (IL (body kc num l ds)).length ≤ 1004 := by rw [il_len, body_len]; omega
      refine ⟨_, rfl, smle (by show 1 ≤ 16000; decide), fun m1 nm1 => ?_⟩
      have hu1 := upd_keep (u := .lst [.int mark]) nm1 hu
      have k2 := k1.alloc (.lst [.int mark]) nm1
      have hm1 : upd H1 m1 (.lst [.int mark]) m1 = some (.lst [.int mark]) := upd_same
      generalize upd H1 m1 (.lst [.int mark]) = H2 at *
      generalize eB : IL (body kc num l ds) = B at *
      refine ⟨_, rfl, m1, u, _, _, rfl, rfl, hm1, hu1, smle (by show 1 + B.length ≤ 16000; omega), fun m2 nm2 => ?_⟩
      have hu2 := upd_keep (u := .lst ([.int mark] ++ B)) nm2 hu1
      have k3 := k2.alloc (.lst ([.int mark] ++ B)) nm2
      have hm2 : upd H2 m2 (.lst ([.int mark] ++ B)) m2 = some (.lst ([.int mark] ++ B)) := upd_same
      generalize upd H2 m2 (.lst ([.int mark] ++ B)) = H3 at *
      refine ⟨_, rfl, _, rfl, u, body kc num l ds, kc, rfl, SqL.of (by rw [eB]; exact hu2), by rw [ek]; exact kOf_kind hb l, fun m3 H5 k5 n5 h5 => ?_⟩
      have el : ([V.int mark] ++ B).length = 1 + B.length := by rw [List.length_append]; rfl
      have hcl : (IL (chk kc (body kc num l ds))).length ≤ 3 := by rw [il_len, chk_len]; omega
      refine ⟨m2, m3, _, _, rfl, rfl, k5.keep _ _ hm2 (fun q => q), h5, smle (by omega), fun m4 nm4 => ?_⟩
      refine kk m4 _ ((k3.trans k5).alloc _ nm4) ((k3.trans k5).free nm4) ?_
      rw [upd_same, ← eB, em, ek]
      unfold putL
      show some (HO.lst (([V.int (markOf l)] ++ _) ++ _)) = some (HO.lst (V.int (markOf l) :: IL (_ ++ _)))
      rw [List.append_assoc, ← il_app]
      rfl
    have e4 : ∀ kc : Int, (head4 kc num (((⟨#[l.toNat]⟩ : Str).cps.getD 0 0 : Nat) : Int) (IL ds).length ++ IL ds) = IL (body kc num l ds) := by
      intro kc
      show head4 kc num ((l.toNat : Nat) : Int) (IL ds).length ++ IL ds = _
      rw [eo, il_len, head4_body]
    have hlen' : (IL ds).length ≤ 1000 := by rw [il_len]; exact hlen
    have eN : ((IL ds).length : Int) = ds.length := by rw [il_len]
    rw [← eN] at fin
    clear eN
    generalize IL ds = L at *
    by_cases ho : l ∈ opens
    case' pos =>
      refine goT (by show (if false = true then !inV (ltr l) (opens.map ltr) else inV (ltr l) (opens.map ltr)) = true; rw [if_neg (by decide), in_opens hl]; exact decide_eq_true ho) ?_
      have em : (2 : Int) = markOf l := by unfold markOf; rw [if_pos ho]
      have ek : (1 : Int) = kOf b l := by unfold kOf; rw [if_pos ho]
      have fin := fun H1 u k h => fin 2 1 H1 u k em ek h
      have e4 := e4 1
    case' neg =>
      refine goF (by show (if false = true then !inV (ltr l) (opens.map ltr) else inV (ltr l) (opens.map ltr)) = false; rw [if_neg (by decide), in_opens hl]; exact decide_eq_false ho) ?_
      have em : (1 : Int) = markOf l := by unfold markOf; rw [if_neg ho]
      have ek : b = kOf b l := by unfold kOf; rw [if_neg ho]
      have fin := fun H1 u k h => fin 1 b H1 u k em ek h
      have e4 := e4 b
    all_goals
      have hd1 := k1.tup _ _ h2
      have hz3 : ∃ H1, H1 = upd H z (.lst [.str "O", .str "P", .str "E"]) := ⟨_, rfl⟩
      obtain ⟨H1, eH1⟩ := hz3
      rw [opens3] at eH1
      rw [← eH1] at k1 hd1
      rw [← opens3] at eH1
      rw [← eH1]
      refine ⟨_, rfl, d, _, rfl, .inr (SqT.of hd1), _, _, rfl, rfl, _, rfl, _, _, rfl, rfl, ?_⟩
      refine ⟨_, rfl, _, _, rfl, rfl, _, rfl, _, _, rfl, rfl, _, rfl, _, _, rfl, rfl, _, rfl, _, rfl, rfl, smle (by show 4 ≤ 16000; decide), fun r nr => ?_⟩
      refine ⟨_, rfl, d, _, rfl, .inr (SqT.of (upd_keep nr hd1)), fun t nt => ⟨r, t, _, _, rfl, rfl, upd_keep nt upd_same, upd_same, smle (by show 4 + L.length ≤ 16000; omega), fun u nu => ?_⟩⟩
      refine fin _ u (((k1.alloc _ nr).alloc _ nt).alloc _ nu) ?_
      rw [upd_same]
      exact congrArg (fun t => some (HO.lst t)) e4
end
end NP
namespace NP
open PySem L2 PySem.Spec PyProof.Rows
/-! ### tuples of ints, cut and put together -/
theorem cut_whole {xs : List V} {lo hi : Option Int} (h : HT.sIx xs.length 0 lo = 0 ∧ HT.sIx xs.length xs.length hi = xs.length) : cutV xs lo hi = xs := by
  unfold cutV
  rw [h.1, h.2, List.drop_zero, Nat.sub_zero, List.take_length]
theorem slA_any {K : PySem.W.Frag} {H : Hp} {a : Addr} {xs ys : List Int} {lo hi : Option Int} {Q : VK} (h : SqT K H a (IL xs)) (e : cutV (IL xs) lo hi = IL ys) (k : ∀ p H', Kp No H H' → SqT K H' p (IL ys) → Q (.ref p) H') : rSlA K (.ref a) lo hi H Q := by
  refine ⟨a, _, rfl, h, fun w => ?_, fun _ p np => ?_⟩
  · rw [cut_whole w] at e
    exact k a H (Kp.refl H) (e ▸ h)
  · exact k p _ (Kp.new _ np) (SqT.of (by rw [upd_same, e]))
theorem slA_from {K : PySem.W.Frag} {H : Hp} {σ : L2.St} {a : Addr} {xs ys : List Int} {lo : Option Int} {Q : VK} (h : SqT K H a (IL xs)) (e : cutV (IL xs) lo none = IL ys) (k : ∀ p H', Kp No H H' → SqT K H' p (IL ys) → Q (.ref p) H') : tNoPart σ H (fun u H3 => rSlA K (.ref a) lo u H3 Q) := slA_any h e k
theorem catA_any {K : PySem.W.Frag} {H : Hp} {a b : Addr} {xs ys : List Int} {Q : VK} (h1 : SqT K H a (IL xs)) (h2 : SqT K H b (IL ys)) (hl : xs.length + ys.length ≤ 10000) (k : ∀ p H', Kp No H H' → SqT K H' p (IL (xs ++ ys)) → Q (.ref p) H') : rCatA K (.ref a) (.ref b) H Q := by
  refine ⟨a, b, _, _, rfl, rfl, h1, h2, smle (by rw [il_len, il_len]; omega), fun e => ?_, fun _ e => ?_, fun _ _ p np => ?_⟩
  · have e' : xs = [] := List.map_eq_nil_iff.mp e
    subst e'
    exact k b H (Kp.refl H) h2
  · have e' : ys = [] := List.map_eq_nil_iff.mp e
    subst e'
    exact k a H (Kp.refl H) (by rw [List.append_nil]; exact h1)
  · exact k p _ (Kp.new _ np) (SqT.of (by rw [upd_same, il_app]))
/-! ### the other data -/
structure Oth (ds o1 o2 o3 o4 o5 : List Int) : Prop where
  ex : ∃ pre x y post fi se, ds = pre ++ x :: y :: post ∧ 1 ≤ fi ∧ fi ≤ 94 ∧ o1 = pre ++ more x fi :: y :: post ∧ o2 = pre ++ y :: x :: post ∧ o3 = pre ++ more x fi :: more y se :: post
  l4 : o4.length = ds.length ∧ Plain o4
  l5 : o5.length = ds.length ∧ Plain o5
theorem plain_app {xs ys : List Int} (h1 : Plain xs) (h2 : Plain ys) : Plain (xs ++ ys) := fun x hx => (List.mem_append.mp hx).elim (h1 x) (h2 x)
theorem plain_cons {x : Int} {xs : List Int} (h1 : 32 ≤ x ∧ x ≤ 126) (h2 : Plain xs) : Plain (x :: xs) := fun y hy => by
  cases hy with
  | head => exact h1
  | tail _ hy => exact h2 y hy
theorem plain_take {xs : List Int} (h : Plain xs) (n : Nat) : Plain (xs.take n) := fun x hx => h x (List.mem_of_mem_take hx)
theorem plain_drop {xs : List Int} (h : Plain xs) (n : Nat) : Plain (xs.drop n) := fun x hx => h x (List.mem_of_mem_drop hx)
theorem plain_set {xs : List Int} (h : Plain xs) (n : Nat) {y : Int} (hy : 32 ≤ y ∧ y ≤ 126) : Plain (xs.set n y) := fun x hx => (List.mem_or_eq_of_mem_set hx).elim (h x) fun e => e ▸ hy
section
variable {P : Program} {w : World} {K : PySem.W.Frag} {mg : Str → Option Value} {base : Heap} {C aL aO : Addr} {f : Addr} {fd : FuncData}
/-! ### _law_trash -/
def spTrash : Sp := fun vs H Q _ => ∃ (p c : Addr) (cells : List Int) (n m : Int), vs = [.ref p, .int m] ∧ PenAt H p c cells n ∧ n ≤ 80000 ∧ 0 ≤ m ∧ m ≤ 50 ∧
  ∀ H' a tr, Kp (One p) H H' → PenAt H' p c cells (n + 300) → H a = none → H' a = some (.lst (IL tr)) → (∀ x ∈ tr, x ≠ 1 ∧ x ≠ 2) → (tr.length : Int) ≤ m → Q (.ref a) H'
theorem sc__law_trash : FnScope ["_law_pen_here", "_law_many", "_law_found", "_law_k", "_law_way", "_law_sign"] ["_law_pen_here", "_law_many"] (defScope (top 40)) := ⟨rfl, rfl, rfl, by decide +kernel, rfl, by decide +kernel, by decide +kernel⟩
theorem ok_trash (T : Txt K mg C aL aO) (F : FunP K "_law_trash" (top 40) f fd) (c_law_take : Cal P w K mg base 1 "_law_take" spTake) : FnOk P w K mg base CX0 2 f fd ["_law_pen_here", "_law_many"] spTrash := by
  refine F.ok sc__law_trash (fun vs H Q E h => ?_) (fun cdv A outer s H vs Q E hr h => ?_)
  · obtain ⟨p, c, cells, n, m, rfl, _⟩ := h; rfl
  · obtain ⟨p, c, cells, n, m, rfl, hP, hn, m0, m1, k⟩ := h
    refine ⟨_, PSs.nox (pss_cons (ps_set (i := 2) sc__law_trash.nd rfl (.inl rfl) (pe_lst pa_nil))
  (pss_cons (ps_for PassesOwn.never rfl (pi_range1 rfl T.range (pa_cons (pe_cc c_law_take hr (by decide) rfl (pa_cons (pv 0) (pa_cons (pe_op op_add (pv 1) pe_int) pa_nil))) pa_nil)) (pg_name (i := 3) sc__law_trash.nd rfl (.inl rfl))
    (pss_cons (ps_set (i := 4) sc__law_trash.nd rfl (.inl rfl) (pe_cc c_law_take hr (by decide) rfl (pa_cons (pv 0) (pa_cons pe_int pa_nil))))
  (pss_cons (ps_set (i := 5) sc__law_trash.nd rfl (.inl rfl) (pe_ix ix_list (pe_lst (pa_cons (pe_cc c_law_take hr (by decide) rfl (pa_cons (pv 0) (pa_cons pe_int pa_nil))) (pa_cons (pe_op op_add pe_int (pe_cc c_law_take hr (by decide) rfl (pa_cons (pv 0) (pa_cons pe_int pa_nil)))) (pa_cons (pe_op op_add pe_int (pe_cc c_law_take hr (by decide) rfl (pa_cons (pv 0) (pa_cons pe_int pa_nil)))) (pa_cons (pe_op op_add pe_int (pe_cc c_law_take hr (by decide) rfl (pa_cons (pv 0) (pa_cons pe_int pa_nil)))) pa_nil))))) (pv 4) (fun _ _ => rfl)))
  (pss_one (ps_expr (pe_bm PySem.F.plainAttrs_list PySem.F.slot_list_append PySem.F.type_list_append mt_append (pv 2) (pa_cons (pe_ix ix_list (pe_lst (pa_cons (pv 5) (pa_cons pe_int pa_nil))) (pe_callTy call_int1 rfl T.int b_int (pa_cons (pe_cmpR op_in_seq (pv 5) (pe_lst (pa_cons pe_int (pa_cons pe_int pa_nil))) (by rfl)) pa_nil)) (fun _ _ => rfl)) pa_nil)))))))
  (pss_one (ps_ret (pv 2))))), ?_⟩
    refine ⟨Nat.zero_le _, fun l nl => ?_⟩
    obtain ⟨hlp, hlc⟩ := hP.nn nl
    refine ⟨_, rfl, _, rfl, _, _, rfl, rfl, p, c, cells, _, _, rfl, hP.al _ nl, by omega, by omega, by omega, fun r H1 r0 r1 k1 hP1 => ?_⟩
    have hl1 := k1.keep _ _ (upd_same (H := H) (a := l) (o := .lst [])) hlp
    have k1' : Kp (fun b => b = p ∨ b = l) H H1 := ((Kp.refl H).alloc _ nl).call k1 fun b q => .inl (.inl q)
    refine ⟨r, rfl, by omega, by omega, ?_⟩
    refine for_range (fun i σ H' => ∃ (tr : List Int) (t v z : Option V), σ = [some (.ref p), some (.int m), some (.ref l), t, v, z] ∧ Kp (fun b => b = p ∨ b = l) H H' ∧ PenAt H' p c cells (n + 1 + 5 * i) ∧ H' l = some (.lst (IL tr)) ∧ (∀ x ∈ tr, x ≠ 1 ∧ x ≠ 2) ∧ tr.length = i)
      ⟨[], none, none, none, rfl, k1', hP1.mono (by omega), hl1, (fun x hx => by cases hx), rfl⟩ ?_ ?_
    · rintro i σ H' hi ⟨tr, t, v, z, rfl, kp, hP', hl, hno, hlen⟩
      refine ⟨_, rfl, p, c, cells, _, 4, rfl, hP', by omega, by omega, by omega, fun way H2 w0 w1 k2 hP2 => ?_⟩
      refine ⟨_, rfl, p, c, cells, _, 256, rfl, hP2, by omega, by omega, by omega, fun a1 H3 a10 a11 k3 hP3 => ?_⟩
      refine ⟨_, rfl, p, c, cells, _, 95, rfl, hP3, by omega, by omega, by omega, fun a2 H4 a20 a21 k4 hP4 => ⟨_, _, rfl, rfl, ?_⟩⟩
      refine ⟨_, rfl, p, c, cells, _, 3, rfl, hP4, by omega, by omega, by omega, fun a3 H5 a30 a31 k5 hP5 => ⟨_, _, rfl, rfl, ?_⟩⟩
      refine ⟨_, rfl, p, c, cells, _, 128, rfl, hP5, by omega, by omega, by omega, fun a4 H6 a40 a41 k6 hP6 => ⟨_, _, rfl, rfl, smle (by show 4 ≤ 16000; decide), fun q nq => ?_⟩⟩
      obtain ⟨sg, esg⟩ : ∃ sg : Int, atI [V.int a1, .int (32 + a2), .int (35 + a3), .int (128 + a4)] way = some (.int sg) := by
        have : way = 0 ∨ way = 1 ∨ way = 2 ∨ way = 3 := by omega
        rcases this with rfl | rfl | rfl | rfl
        · exact ⟨_, rfl⟩
        · exact ⟨_, rfl⟩
        · exact ⟨_, rfl⟩
        · exact ⟨_, rfl⟩
      refine ⟨_, rfl, q, _, way, _, rfl, rfl, SqL.of upd_same, esg, ?_⟩
      have k26 := (((k2.trans k3).trans k4).trans k5).trans k6
      have kq := (kp.call k26 fun b q => .inl (.inl q)).alloc (.lst [.int a1, .int (32 + a2), .int (35 + a3), .int (128 + a4)]) nq
      have hPq := hP6.al (.lst [.int a1, .int (32 + a2), .int (35 + a3), .int (128 + a4)]) nq
      have hlq := upd_keep (u := .lst [.int a1, .int (32 + a2), .int (35 + a3), .int (128 + a4)]) nq (k26.keep _ _ hl hlp)
      refine ⟨_, rfl, .inl ⟨rfl, _, SqL.of hlq⟩, _, rfl, smle (by show 2 ≤ 16000; decide), fun y ny => ?_⟩
      refine ⟨_, rfl, smle (by show 2 ≤ 16000; decide), fun x nx => ⟨x, _, rfl, .inl (SqL.of upd_same), rfl, rfl, .inr ⟨_, rfl, ?_⟩⟩⟩
      refine ⟨y, _, _, _, rfl, rfl, SqL.of (upd_keep nx upd_same), in_nomarks sg, ?_⟩
      have hlx := upd_keep (u := .lst [.int 1, .int 2]) nx (upd_keep (u := .lst [.int sg, .int 0]) ny hlq)
      have kx := (kq.alloc (.lst [.int sg, .int 0]) ny).alloc (.lst [.int 1, .int 2]) nx
      have hPx := (hPq.al (.lst [.int sg, .int 0]) ny).al (.lst [.int 1, .int 2]) nx
      refine ⟨l, _, _, rfl, rfl, hlx, sml (by rw [il_len, hlen]; omega), tr ++ [if sg = 1 ∨ sg = 2 then 0 else sg], some (.int (0 + i)), some (.int way), some (.int sg), rfl, kx.set _ hlx rfl (.inl (.inr rfl)), ?_, ?_, ?_, by simp [hlen]⟩
      · exact (hPx.kp (Kp.put (W := One l) _ hlx rfl rfl) (fun q => hlp q.symm) (fun q => hlc q.symm)).mono (by omega)
      · rw [upd_same, il_snoc]
      · intro u hu
        rcases (List.mem_append.mp hu) with hu | hu
        · exact hno u hu
        · rw [List.mem_singleton] at hu
          subst hu
          split <;> omega
    · rintro σ H' ⟨tr, t, v, z, rfl, kp, hP', hl, hno, hlen⟩
      exact ⟨_, rfl, k H' l tr (Kp.drop nl kp) (hP'.mono (by omega)) nl hl hno (by omega)⟩
/-! ### _law_more -/
def spMore : Sp := fun vs H Q _ => ∃ s b : Int, vs = [.int s, .int b] ∧ Q (.int (more s b)) H
theorem sc__law_more : FnScope ["_law_sign", "_law_by"] ["_law_sign", "_law_by"] (defScope (top 41)) := ⟨rfl, rfl, rfl, by decide +kernel, rfl, by decide +kernel, by decide +kernel⟩
theorem ok_more (T : Txt K mg C aL aO) (F : FunP K "_law_more" (top 41) f fd) : FnOk P w K mg base CX0 1 f fd ["_law_sign", "_law_by"] spMore := by
  refine F.ok sc__law_more (fun vs H Q E h => ?_) (fun cdv A outer s H vs Q E hr h => ?_)
  · obtain ⟨s, b, rfl, _⟩ := h; rfl
  · obtain ⟨s, b, rfl, k⟩ := h
    exact ⟨_, PSs.nox (pss_one (ps_ret (pe_op op_add pe_int (pe_op op_mod (pe_op op_add (pe_op op_sub (pv 0) pe_int) (pv 1)) pe_int)))), _, rfl, _, _, rfl, rfl, _, rfl, _, _, rfl, rfl, _, _, rfl, rfl, (show (0 : Int) < 95 by decide), _, _, rfl, rfl, k⟩
end
end NP
namespace NP
open PySem L2 PySem.Spec PyProof.Rows
theorem split2 {ds : List Int} {i : Nat} (h : i + 1 < ds.length) : ∃ pre x y post, ds = pre ++ x :: y :: post ∧ pre.length = i := by
  refine ⟨ds.take i, ds[i], ds[i + 1], ds.drop (i + 2), ?_, by rw [List.length_take]; omega⟩
  have e1 : ds.drop i = ds[i] :: ds.drop (i + 1) := List.drop_eq_getElem_cons (by omega)
  have e2 : ds.drop (i + 1) = ds[i + 1] :: ds.drop (i + 2) := List.drop_eq_getElem_cons (by omega)
  rw [← e2, ← e1, List.take_append_drop]
theorem ixN_at {n : Nat} {i : Int} (h0 : 0 ≤ i) (h1 : i < n) : ixN n i = some i.toNat := by unfold ixN; rw [if_pos h0, if_pos h1]
section
variable {P : Program} {w : World} {K : PySem.W.Frag} {mg : Str → Option Value} {base : Heap} {C aL aO : Addr} {f : Addr} {fd : FuncData}
theorem at_int {xs : List Int} {i : Int} (h0 : 0 ≤ i) {n : Int} (h : xs[i.toNat]? = some n) : atI (IL xs) i = some (.int n) := by
  have := seq_tup_at h
  rw [Int.toNat_of_nonneg h0] at this
  exact this
/-! ### _law_others -/
def spOthers : Sp := fun vs H Q _ => ∃ (p c d : Addr) (cells ds : List Int) (n : Int), vs = [.ref p, .ref d] ∧ PenAt H p c cells n ∧ n ≤ 80000 ∧ SqT K H d (IL ds) ∧ Plain ds ∧ 2 ≤ ds.length ∧ ds.length ≤ 100 ∧
  ∀ H' a p1 p2 p3 p4 p5 o1 o2 o3 o4 o5, Kp (One p) H H' → PenAt H' p c cells (n + 300) → H a = none → H' a = some (.lst [.ref p1, .ref p2, .ref p3, .ref p4, .ref p5]) → SqT K H' p1 (IL o1) → SqT K H' p2 (IL o2) → SqT K H' p3 (IL o3) → SqT K H' p4 (IL o4) → SqT K H' p5 (IL o5) →
    Oth ds o1 o2 o3 o4 o5 → Q (.ref a) H'
theorem sc__law_others : FnScope ["_law_pen_here", "_law_data_here", "_law_spot", "_law_first", "_law_second", "_law_far", "_law_one", "_law_crossed", "_law_beside", "_law_level", "_law_several", "_law_k", "_law_at"] ["_law_pen_here", "_law_data_here"] (defScope (top 42)) := ⟨rfl, rfl, rfl, by decide +kernel, rfl, by decide +kernel, by decide +kernel⟩
theorem ok_others (T : Txt K mg C aL aO) (F : FunP K "_law_others" (top 42) f fd) (c_law_take : Cal P w K mg base 1 "_law_take" spTake) (c_law_more : Cal P w K mg base 1 "_law_more" spMore) : FnOk P w K mg base CX0 2 f fd ["_law_pen_here", "_law_data_here"] (spOthers (K := K)) := by
  refine F.ok sc__law_others (fun vs H Q E h => ?_) (fun cdv A outer s H vs Q E hr h => ?_)
  · obtain ⟨p, c, d, cells, ds, n, rfl, _⟩ := h; rfl
  · obtain ⟨p, c, d, cells, ds, n, rfl, hP, hn, hd, hpl, l2, l100, k⟩ := h
    have eL : ((IL ds).length : Int) = ds.length := by rw [il_len]
    refine ⟨_, PSs.nox (pss_cons (ps_set (i := 2) sc__law_others.nd rfl (.inl rfl) (pe_cc c_law_take hr (by decide) rfl (pa_cons (pv 0) (pa_cons (pe_op op_sub (pe_callB call_len_seq rfl T.len b_len (pa_cons (pv 1) pa_nil)) pe_int) pa_nil))))
  (pss_cons (ps_par (i := 3) (j := 4) rfl sc__law_others.nd rfl rfl (by decide) rfl rfl (pa_cons (pe_op op_add pe_int (pe_cc c_law_take hr (by decide) rfl (pa_cons (pv 0) (pa_cons pe_int pa_nil)))) (pa_cons (pe_cc c_law_take hr (by decide) rfl (pa_cons (pv 0) (pa_cons pe_int pa_nil))) pa_nil)) (by rfl))
  (pss_cons (ps_set (i := 5) sc__law_others.nd rfl (.inl rfl) (pe_op op_mod (pe_op op_add (pe_op op_add (pv 2) pe_int) (pe_cc c_law_take hr (by decide) rfl (pa_cons (pv 0) (pa_cons (pe_op op_sub (pe_callB call_len_seq rfl T.len b_len (pa_cons (pv 1) pa_nil)) pe_int) pa_nil)))) (pe_callB call_len_seq rfl T.len b_len (pa_cons (pv 1) pa_nil))))
  (pss_cons (ps_set (i := 6) sc__law_others.nd rfl (.inl rfl) (pe_op op_catA (pe_op op_catA (pe_slice sl_tupA (pv 1) po_none (po_some (pv 2))) (pe_tup (pa_cons (pe_cc c_law_more hr (by decide) rfl (pa_cons (pe_ix ix_tup (pv 1) (pv 2) (fun _ _ => rfl)) (pa_cons (pv 3) pa_nil))) pa_nil))) (pe_slice sl_tupA (pv 1) (po_some (pe_op op_add (pv 2) pe_int)) po_none)))
  (pss_cons (ps_set (i := 7) sc__law_others.nd rfl (.inl rfl) (pe_op op_catA (pe_op op_catA (pe_slice sl_tupA (pv 1) po_none (po_some (pv 2))) (pe_tup (pa_cons (pe_ix ix_tup (pv 1) (pe_op op_add (pv 2) pe_int) (fun _ _ => rfl)) (pa_cons (pe_ix ix_tup (pv 1) (pv 2) (fun _ _ => rfl)) pa_nil)))) (pe_slice sl_tupA (pv 1) (po_some (pe_op op_add (pv 2) pe_int)) po_none)))
  (pss_cons (ps_set (i := 8) sc__law_others.nd rfl (.inl rfl) (pe_op op_catA (pe_op op_catA (pe_slice sl_tupA (pv 6) po_none (po_some (pe_op op_add (pv 2) pe_int))) (pe_tup (pa_cons (pe_cc c_law_more hr (by decide) rfl (pa_cons (pe_ix ix_tup (pv 1) (pe_op op_add (pv 2) pe_int) (fun _ _ => rfl)) (pa_cons (pv 4) pa_nil))) pa_nil))) (pe_slice sl_tupA (pv 6) (po_some (pe_op op_add (pv 2) pe_int)) po_none)))
  (pss_cons (ps_set (i := 9) sc__law_others.nd rfl (.inl rfl) (pe_op op_catA (pe_op op_catA (pe_slice sl_tupA (pv 6) po_none (po_some (pv 5))) (pe_tup (pa_cons (pe_cc c_law_more hr (by decide) rfl (pa_cons (pe_ix ix_tup (pv 1) (pv 5) (fun _ _ => rfl)) (pa_cons (pe_op op_sub pe_int (pv 3)) pa_nil))) pa_nil))) (pe_slice sl_tupA (pv 6) (po_some (pe_op op_add (pv 5) pe_int)) po_none)))
  (pss_cons (ps_set (i := 10) sc__law_others.nd rfl (.inl rfl) (pe_callTy call_list_of rfl T.list b_list (pa_cons (pv 1) pa_nil)))
  (pss_cons (ps_for PassesOwn.never rfl (pi_range1 rfl T.range (pa_cons (pe_op op_add pe_int (pe_cc c_law_take hr (by decide) rfl (pa_cons (pv 0) (pa_cons pe_int pa_nil)))) pa_nil)) (pg_name (i := 11) sc__law_others.nd rfl (.inl rfl))
    (pss_cons (ps_set (i := 12) sc__law_others.nd rfl (.inl rfl) (pe_cc c_law_take hr (by decide) rfl (pa_cons (pv 0) (pa_cons (pe_callB call_len_seq rfl T.len b_len (pa_cons (pv 1) pa_nil)) pa_nil))))
  (pss_one (ps_asg (pe_cc c_law_more hr (by decide) rfl (pa_cons (pe_ix ix_list (pv 10) (pv 12) (fun _ _ => rfl)) (pa_cons (pe_cc c_law_take hr (by decide) rfl (pa_cons (pv 0) (pa_cons pe_int pa_nil))) pa_nil))) (pg_sub (pv 10) (pv 12) set_list)))))
  (pss_one (ps_ret (pe_lst (pa_cons (pv 6) (pa_cons (pv 7) (pa_cons (pv 8) (pa_cons (pv 9) (pa_cons (pe_callTy call_tuple_of rfl T.tuple b_tuple (pa_cons (pv 10) pa_nil)) pa_nil))))))))))))))))), ?_⟩
    -- spot
    refine ⟨_, rfl, _, rfl, d, _, rfl, .inr hd, _, _, rfl, rfl, p, c, cells, n, _, rfl, hP, by omega, by omega, by omega, fun spot H1 s0 s1 k1 hP1 => ?_⟩
    -- first, second
    refine ⟨_, rfl, p, c, cells, _, 94, rfl, hP1, by omega, by omega, by omega, fun fi H2 f0 f1 k2 hP2 => ⟨_, _, rfl, rfl, ?_⟩⟩
    refine ⟨_, rfl, p, c, cells, _, 95, rfl, hP2, by omega, by omega, by omega, fun se H3 g0 g1 k3 hP3 => ⟨_, _, rfl, ?_⟩⟩
    have hd3 := k3.seqT (k2.seqT (k1.seqT hd))
    -- far
    refine ⟨_, rfl, _, _, rfl, rfl, _, rfl, _, rfl, d, _, rfl, .inr hd3, _, _, rfl, rfl, p, c, cells, _, _, rfl, hP3, by omega, by omega, by omega, fun fa H4 h0 h1 k4 hP4 => ?_⟩
    have hd4 := k4.seqT hd3
    refine ⟨_, _, rfl, rfl, _, rfl, d, _, rfl, .inr hd4, _, _, rfl, rfl, (show (0 : Int) < _ by omega), ?_⟩
    have far0 := Int.emod_nonneg (spot + 1 + fa) (b := ((IL ds).length : Int)) (by omega)
    have far1 := Int.emod_lt_of_pos (spot + 1 + fa) (b := ((IL ds).length : Int)) (by omega)
    have kH : Kp (One p) H H4 := ((k1.trans k2).trans k3).trans k4
    clear k1 k2 k3 k4 hP1 hP2 hP3 hd3 hd
    -- the data by the spot
    obtain ⟨pre, x, y, post, eds, hpre⟩ := split2 (ds := ds) (i := spot.toNat) (by omega)
    have hspot : spot = (pre.length : Int) := by omega
    have hx : ds[spot.toNat]? = some x := by rw [eds, ← hpre, List.getElem?_append_right (Nat.le_refl _), Nat.sub_self]; rfl
    have hy : ds[(spot + 1).toNat]? = some y := by
      rw [eds, show (spot + 1).toNat = pre.length + 1 by omega, List.getElem?_append_right (by omega), show pre.length + 1 - pre.length = 1 by omega]; rfl
    have px : 32 ≤ x ∧ x ≤ 126 := hpl x (by rw [eds]; simp)
    have py : 32 ≤ y ∧ y ≤ 126 := hpl y (by rw [eds]; simp)
    have cpre : cutV (IL ds) none (some spot) = IL pre := by rw [cut_to s0, eds, ← hpre, List.take_left]
    have cpost1 : cutV (IL ds) (some (spot + 1)) none = IL (y :: post) := by
      rw [cut_from (by omega), eds, show (spot + 1).toNat = pre.length + 1 by omega, List.drop_append]
      rw [List.drop_eq_nil_of_le (by omega), show pre.length + 1 - pre.length = 1 by omega]; rfl
    have cpost2 : cutV (IL ds) (some (spot + 2)) none = IL post := by
      rw [cut_from (by omega), eds, show (spot + 2).toNat = pre.length + 2 by omega, List.drop_append]
      rw [List.drop_eq_nil_of_le (by omega), show pre.length + 2 - pre.length = 2 by omega]; rfl
    have hlen : pre.length + 2 + post.length = ds.length := by rw [eds]; simp; omega
    have ppre : Plain pre := fun u hu => hpl u (by rw [eds]; simp [hu])
    have ppost : Plain post := fun u hu => hpl u (by rw [eds]; simp [hu])
    have fi1 : 1 ≤ 1 + fi ∧ 1 + fi ≤ 94 := by omega
    clear f0 f1
    -- one
    refine ⟨_, rfl, _, rfl, _, rfl, slA_any hd4 cpre fun q1 H5 k5 hq1 => ?_⟩
    refine ⟨_, rfl, _, rfl, d, _, _, _, rfl, rfl, k5.seqT hd4, at_int s0 hx, _, rfl, _, _, rfl, smle (by show 1 ≤ 16000; decide), fun q2 nq2 => ?_⟩
    have k6 := k5.alloc (.tup [.int (more x (1 + fi))]) nq2
    refine catA_any ((Kp.new (W := No) (.tup [.int (more x (1 + fi))]) nq2).seqT hq1) (ys := [more x (1 + fi)]) (SqT.of upd_same) (by simp; omega) fun q3 H7 k7 hq3 => ?_
    have k67 := k6.trans k7
    refine ⟨_, rfl, _, rfl, _, _, rfl, rfl, _, rfl, slA_from (k67.seqT hd4) cpost1 fun q4 H8 k8 hq4 => ?_⟩
    refine catA_any (k8.seqT hq3) hq4 (by simp; omega) fun q5 H9 k9 hq5 => ?_
    have e1 : pre ++ [more x (1 + fi)] ++ y :: post = pre ++ more x (1 + fi) :: y :: post := by simp
    rw [e1] at hq5
    have kb1 := (k67.trans k8).trans k9
    have hd9 := kb1.seqT hd4
    have mo1 := more_plain x (1 + fi)
    have hP9 := hP4.kp kb1 (fun q => q) (fun q => q)
    have kH9 := kH.trans kb1.no
    clear hq1 hq3 hq4 k5 k6 k7 k8 k9 k67 nq2 kb1 hd4 hP4 kH
    -- crossed
    refine ⟨_, rfl, _, rfl, _, rfl, slA_any hd9 cpre fun r1 H10 k10 hr1 => ?_⟩
    have hd10 := k10.seqT hd9
    refine ⟨_, rfl, _, rfl, _, _, rfl, rfl, d, _, _, _, rfl, rfl, hd10, at_int (by omega) hy, _, rfl, _, rfl, d, _, _, _, rfl, rfl, hd10, at_int s0 hx, smle (by show 2 ≤ 16000; decide), fun r2 nr2 => ?_⟩
    have k11 := k10.alloc (.tup [.int y, .int x]) nr2
    refine catA_any ((Kp.new (W := No) (.tup [.int y, .int x]) nr2).seqT hr1) (ys := [y, x]) (SqT.of upd_same) (by simp; omega) fun r3 H12 k12 hr3 => ?_
    have k112 := k11.trans k12
    refine ⟨_, rfl, _, rfl, _, _, rfl, rfl, _, rfl, slA_from (k112.seqT hd9) cpost2 fun r4 H13 k13 hr4 => ?_⟩
    refine catA_any (k13.seqT hr3) hr4 (by simp; omega) fun r5 H14 k14 hr5 => ?_
    have e2 : pre ++ [y, x] ++ post = pre ++ y :: x :: post := by simp
    rw [e2] at hr5
    have kb2 := (k112.trans k13).trans k14
    have hd14 := kb2.seqT hd9
    have ho14 := kb2.seqT hq5
    have hP14 := hP9.kp kb2 (fun q => q) (fun q => q)
    have kH14 := kH9.trans kb2.no
    clear hr1 hr3 hr4 k10 k11 k12 k13 k14 k112 nr2 kb2 hd10 hd9 hq5 hP9 kH9
    -- beside
    have cone1 : cutV (IL (pre ++ more x (1 + fi) :: y :: post)) none (some (spot + 1)) = IL (pre ++ [more x (1 + fi)]) := by
      rw [cut_to (by omega), show (spot + 1).toNat = pre.length + 1 by omega, List.take_append, List.take_of_length_le (by omega), show pre.length + 1 - pre.length = 1 by omega]; rfl
    have cone2 : cutV (IL (pre ++ more x (1 + fi) :: y :: post)) (some (spot + 2)) none = IL post := by
      rw [cut_from (by omega), show (spot + 2).toNat = pre.length + 2 by omega, List.drop_append, List.drop_eq_nil_of_le (by omega), show pre.length + 2 - pre.length = 2 by omega]; rfl
    refine ⟨_, rfl, _, rfl, _, _, rfl, rfl, _, rfl, slA_any ho14 cone1 fun b1 H15 k15 hb1 => ?_⟩
    refine ⟨_, rfl, _, rfl, _, _, rfl, rfl, d, _, _, _, rfl, rfl, k15.seqT hd14, at_int (by omega) hy, _, rfl, _, _, rfl, smle (by show 1 ≤ 16000; decide), fun b2 nb2 => ?_⟩
    have k16 := k15.alloc (.tup [.int (more y se)]) nb2
    refine catA_any ((Kp.new (W := No) (.tup [.int (more y se)]) nb2).seqT hb1) (ys := [more y se]) (SqT.of upd_same) (by simp; omega) fun b3 H17 k17 hb3 => ?_
    have k167 := k16.trans k17
    refine ⟨_, rfl, _, rfl, _, _, rfl, rfl, _, rfl, slA_from (k167.seqT ho14) cone2 fun b4 H18 k18 hb4 => ?_⟩
    refine catA_any (k18.seqT hb3) hb4 (by simp; omega) fun b5 H19 k19 hb5 => ?_
    have e3 : pre ++ [more x (1 + fi)] ++ [more y se] ++ post = pre ++ more x (1 + fi) :: more y se :: post := by simp
    rw [e3] at hb5
    have mo2 := more_plain y se
    have kb3 := (k167.trans k18).trans k19
    have hd19 := kb3.seqT hd14
    have ho19 := kb3.seqT ho14
    have hr19 := kb3.seqT hr5
    have hP19 := hP14.kp kb3 (fun q => q) (fun q => q)
    have kH19 := kH14.trans kb3.no
    clear hb1 hb3 hb4 k15 k16 k17 k18 k19 k167 nb2 kb3 hd14 ho14 hr5 hP14 kH14 cone1 cone2
    -- level
    have lone : (pre ++ more x (1 + fi) :: y :: post).length = ds.length := by simp; omega
    have pone : Plain (pre ++ more x (1 + fi) :: y :: post) := plain_app ppre (plain_cons mo1 (plain_cons py ppost))
    obtain ⟨z, hz⟩ : ∃ z, ds[((spot + 1 + fa) % ((IL ds).length : Int)).toNat]? = some z := ⟨_, List.getElem?_eq_getElem (by omega)⟩
    refine ⟨_, rfl, _, rfl, _, rfl, slA_any ho19 (cut_to far0) fun c1 H20 k20 hc1 => ?_⟩
    refine ⟨_, rfl, _, rfl, d, _, _, _, rfl, rfl, k20.seqT hd19, at_int far0 hz, _, rfl, _, _, rfl, rfl, _, _, rfl, smle (by show 1 ≤ 16000; decide), fun c2 nc2 => ?_⟩
    have k21 := k20.alloc (.tup [.int (more z (95 - (1 + fi)))]) nc2
    refine catA_any ((Kp.new (W := No) (.tup [.int (more z (95 - (1 + fi)))]) nc2).seqT hc1) (ys := [more z (95 - (1 + fi))]) (SqT.of upd_same) (by simp; omega) fun c3 H22 k22 hc3 => ?_
    have k212 := k21.trans k22
    refine ⟨_, rfl, _, rfl, _, _, rfl, rfl, _, rfl, slA_from (k212.seqT ho19) (cut_from (by omega)) fun c4 H23 k23 hc4 => ?_⟩
    refine catA_any (k23.seqT hc3) hc4 (by simp; omega) fun c5 H24 k24 hc5 => ?_
    have kb4 := (k212.trans k23).trans k24
    have plev : Plain ((pre ++ more x (1 + fi) :: y :: post).take ((spot + 1 + fa) % ((IL ds).length : Int)).toNat ++ [more z (95 - (1 + fi))] ++ (pre ++ more x (1 + fi) :: y :: post).drop (((spot + 1 + fa) % ((IL ds).length : Int)) + 1).toNat) :=
      plain_app (plain_app (plain_take pone _) (plain_cons (more_plain _ _) fun u hu => by cases hu)) (plain_drop pone _)
    have llev : ((pre ++ more x (1 + fi) :: y :: post).take ((spot + 1 + fa) % ((IL ds).length : Int)).toNat ++ [more z (95 - (1 + fi))] ++ (pre ++ more x (1 + fi) :: y :: post).drop (((spot + 1 + fa) % ((IL ds).length : Int)) + 1).toNat).length = ds.length := by
      rw [List.length_append, List.length_append, List.length_take, List.length_drop, lone, List.length_singleton]; omega
    generalize (pre ++ more x (1 + fi) :: y :: post).take ((spot + 1 + fa) % ((IL ds).length : Int)).toNat ++ [more z (95 - (1 + fi))] ++ (pre ++ more x (1 + fi) :: y :: post).drop (((spot + 1 + fa) % ((IL ds).length : Int)) + 1).toNat = lev at hc5 plev llev
    have hd24 := kb4.seqT hd19
    have ho24 := kb4.seqT ho19
    have hr24 := kb4.seqT hr19
    have hb24 := kb4.seqT hb5
    have hP24 := hP19.kp kb4 (fun q => q) (fun q => q)
    have kH24 := kH19.trans kb4.no
    clear hc1 hc3 hc4 k20 k21 k22 k23 k24 k212 nc2 kb4 hd19 ho19 hr19 hb5 hP19 kH19
    -- several
    refine ⟨_, rfl, d, _, rfl, .inr hd24, fun l nl => ?_⟩
    obtain ⟨hlp, hlc⟩ := hP24.nn nl
    have kl := (Kp.refl (W := One p) H24).alloc (.lst (IL ds)) nl
    refine ⟨_, rfl, p, c, cells, _, 4, rfl, hP24.al _ nl, by omega, by omega, by omega, fun m H25 m0 m1 k25 hP25 => ⟨_, _, rfl, rfl, 2 + m, rfl, by omega, by omega, ?_⟩⟩
    have hl25 := k25.keep _ _ (upd_same (H := H24) (a := l) (o := .lst (IL ds))) hlp
    have k25' : Kp (fun b => b = p ∨ b = l) H24 H25 := (kl.trans k25).mono fun b q => .inl q
    refine for_range (fun i σ H' => ∃ (os : List Int) (t v : Option V), σ = [some (.ref p), some (.ref d), some (.int spot), some (.int (1 + fi)), some (.int se), some (.int ((spot + 1 + fa) % ((IL ds).length : Int))), some (.ref q5), some (.ref r5), some (.ref b5), some (.ref c5), some (.ref l), t, v] ∧
        Kp (fun b => b = p ∨ b = l) H24 H' ∧ PenAt H' p c cells (n + 10 + 2 * i) ∧ H' l = some (.lst (IL os)) ∧ Plain os ∧ os.length = ds.length)
      ⟨ds, none, none, rfl, k25', hP25.mono (by omega), hl25, hpl, rfl⟩ ?_ ?_
    · rintro i σ H' hi ⟨os, t, v, rfl, kp, hP', hl, hos, hol⟩
      have hd' := kp.seqT hd24
      refine ⟨_, rfl, _, rfl, d, _, rfl, .inr hd', p, c, cells, _, _, rfl, hP', by omega, by omega, by omega, fun a H26 a0 a1 k26 hP26 => ?_⟩
      have hl26 := k26.keep _ _ hl hlp
      obtain ⟨u, hu⟩ : ∃ u, os[a.toNat]? = some u := ⟨_, List.getElem?_eq_getElem (by omega)⟩
      refine ⟨_, rfl, _, rfl, l, _, _, _, rfl, rfl, SqL.of hl26, at_int a0 hu, _, rfl, p, c, cells, _, 95, rfl, hP26, by omega, by omega, by omega, fun b H27 b0 b1' k27 hP27 => ?_⟩
      have hl27 := k27.keep _ _ hl26 hlp
      refine ⟨_, _, rfl, _, rfl, _, rfl, l, _, _, _, rfl, rfl, hl27, ixN_at a0 (by rw [il_len]; omega), os.set a.toNat (more u b), some (.int (0 + i)), some (.int a), rfl, ?_, ?_, ?_, plain_set hos _ (more_plain _ _), by rw [List.length_set]; exact hol⟩
      · exact (kp.call (k26.trans k27) fun b q => .inl (.inl q)).set _ hl27 rfl (.inl (.inr rfl))
      · exact (hP27.kp (Kp.put (W := One l) _ hl27 rfl rfl) (fun q => hlp q.symm) (fun q => hlc q.symm)).mono (by omega)
      · rw [upd_same]
        show some (HO.lst ((os.map V.int).set a.toNat (V.int (more u b)))) = _
        rw [← List.map_set]
    · rintro σ H' ⟨os, t, v, rfl, kp, hP', hl, hos, hol⟩
      refine ⟨_, rfl, _, rfl, _, rfl, _, rfl, _, rfl, l, _, rfl, .inl ⟨SqL.of hl, fun tp ntp => ⟨smle (by show 5 ≤ 16000; decide), fun a na => ?_⟩⟩⟩
      have kf : Kp (One p) H24 (upd (upd H' tp (.tup (IL os))) a (.lst [.ref q5, .ref r5, .ref b5, .ref c5, .ref tp])) := ((Kp.drop nl kp).alloc _ ntp).alloc _ na
      refine k _ a q5 r5 b5 c5 tp _ _ _ lev os (kH24.trans kf) (((hP'.al _ ntp).al _ na).mono (by omega)) (kH24.free (((Kp.drop nl kp).alloc _ ntp).free na)) upd_same (kf.seqT ho24) (kf.seqT hr24) (kf.seqT hb24) (kf.seqT hc5) (SqT.of (upd_keep na upd_same)) ?_
      exact ⟨⟨pre, x, y, post, 1 + fi, se, eds, fi1.1, fi1.2, rfl, rfl, rfl⟩, ⟨llev, plev⟩, hol, hos⟩
end
end NP
namespace NP
open PySem L2 PySem.Spec PyProof.Rows
/-! ### what may be shown as a text -/
def Sm (i : Int) : Prop := -999999999999 ≤ i ∧ i ≤ 999999999999
theorem sm_log {i : Int} (h : Sm i) : i.natAbs.log2 < 1920 := by
  by_cases z : i.natAbs = 0
  · rw [z]; decide
  · refine (Nat.log2_lt z).mpr (Nat.lt_of_lt_of_le (m := 2 ^ 40) ?_ (Nat.pow_le_pow_right (by decide) (by decide)))
    obtain ⟨a, b⟩ := h
    rw [show (2 : Nat) ^ 40 = 1099511627776 by decide]
    omega
structure Shw (d : PyData) : Prop where
  sh : d.showable = true
  nd : d.hasDict = false
  dp : d.depth ≤ 60
  ln : d.shown.length ≤ sizeLine
theorem di_showable : ∀ xs : List Int, (∀ x ∈ xs, Sm x) → PyData.showableAll (DI xs) = true
  | [], _ => rfl
  | x :: xs, h => by
    show (PyData.showable (.int x) && PyData.showableAll (DI xs)) = true
    rw [di_showable xs fun y hy => h y (.tail _ hy)]
    show (decide _ && true) = true
    rw [decide_eq_true (sm_log (h x (.head _)))]
    rfl
theorem di_noDict : ∀ xs : List Int, PyData.hasDictAll (DI xs) = false
  | [] => rfl
  | x :: xs => by show (PyData.hasDict (.int x) || PyData.hasDictAll (DI xs)) = false; rw [di_noDict xs]; rfl
theorem sm_short {i : Int} (h : Sm i) : PyData.leavesShort 13 (.int i) = true := by
  show decide _ = true
  exact decide_eq_true (PyData.shown_int_le2 h.1 h.2)
theorem di_short : ∀ xs : List Int, (∀ x ∈ xs, Sm x) → PyData.leavesShortAll 13 (DI xs) = true
  | [], _ => rfl
  | x :: xs, h => by
    show (PyData.leavesShort 13 (.int x) && PyData.leavesShortAll 13 (DI xs)) = true
    rw [di_short xs fun y hy => h y (.tail _ hy), sm_short (h x (.head _))]
    rfl
theorem di_bulk : ∀ xs : List Int, PyData.bulkAll (DI xs) = xs.length
  | [] => rfl
  | x :: xs => by show PyData.bulk (.int x) + 1 + PyData.bulkAll (DI xs) = xs.length + 1; rw [di_bulk xs]; show 0 + 1 + xs.length = _; omega
def SmE : Ev → Prop
  | .bad a => Sm a
  | .good n c d a => Sm n ∧ c.toNat < 16 ^ 8 ∧ (∀ x ∈ d, Sm x) ∧ d.length ≤ 500 ∧ Sm a
theorem ev_showable {e : Ev} (h : SmE e) : (evD e).showable = true := by
  cases e with
  | bad a =>
    show (true && (true && (decide _ && true))) = true
    rw [decide_eq_true (sm_log h)]; rfl
  | good n c d a =>
    obtain ⟨h1, h2, h3, h4, h5⟩ := h
    show (true && ((decide _ && (true && (PyData.showableAll (DI d) && true))) && (decide _ && true))) = true
    rw [decide_eq_true (sm_log h1), decide_eq_true (sm_log h5), di_showable d h3]; rfl
theorem ev_noDict (e : Ev) : (evD e).hasDict = false := by
  cases e with
  | bad a => rfl
  | good n c d a =>
    show (false || ((false || (false || (PyData.hasDictAll (DI d) || false))) || (false || false))) = false
    rw [di_noDict]; rfl
theorem ev_depth (e : Ev) : (evD e).depth ≤ 3 := by
  cases e with
  | bad a => show max 0 (max 0 (max 0 0)) + 1 ≤ 3; decide
  | good n c d a =>
    show max 0 (max (max 0 (max 0 (max (PyData.depthAll (DI d) + 1) 0)) + 1) (max 0 0)) + 1 ≤ 3
    rw [PySem.W.ke_depthAll]; decide
theorem ev_short {e : Ev} (h : SmE e) : (evD e).leavesShort 13 = true := by
  cases e with
  | bad a =>
    show (PyData.leavesShort 13 (.str "bad") && (true && (PyData.leavesShort 13 (.int a) && true))) = true
    rw [sm_short h, show PyData.leavesShort 13 (.str "bad") = true by decide +kernel]; rfl
  | good n c d a =>
    obtain ⟨h1, h2, h3, h4, h5⟩ := h
    show (PyData.leavesShort 13 (.str "good") && ((PyData.leavesShort 13 (.int n) && ((decide (c.toNat < 16 ^ 8) && true) && (PyData.leavesShortAll 13 (DI d) && true))) && (PyData.leavesShort 13 (.int a) && true))) = true
    rw [sm_short h1, sm_short h5, di_short d h3, decide_eq_true h2, show PyData.leavesShort 13 (.str "good") = true by decide +kernel]; rfl
theorem ev_bulk {e : Ev} (h : SmE e) : (evD e).bulk ≤ 600 := by
  cases e with
  | bad a => show PyData.bulk (.str "bad") + 1 + (0 + 1 + (0 + 1 + 0)) ≤ 600; decide +kernel
  | good n c d a =>
    obtain ⟨h1, h2, h3, h4, h5⟩ := h
    show 4 + 1 + ((0 + 1 + (1 + 1 + (PyData.bulkAll (DI d) + 1 + 0))) + 1 + (0 + 1 + 0)) ≤ 600
    rw [di_bulk]; omega
theorem shw_two {e0 e1 : Ev} (h0 : SmE e0) (h1 : SmE e1) : Shw (.list [evD e0, evD e1]) := by
  have b : (PyData.list [evD e0, evD e1]).bulk ≤ 2 ^ 20 := by
    show (evD e0).bulk + 1 + ((evD e1).bulk + 1 + 0) ≤ 2 ^ 20
    have := ev_bulk h0
    have := ev_bulk h1
    rw [show (2 : Nat) ^ 20 = 1048576 by decide]
    omega
  have l : (PyData.list [evD e0, evD e1]).leavesShort 13 = true := by
    show ((evD e0).leavesShort 13 && ((evD e1).leavesShort 13 && true)) = true
    rw [ev_short h0, ev_short h1]; rfl
  refine ⟨?_, ?_, ?_, PyData.shown_fits_bulk (by decide) (by decide) l b⟩
  · show ((evD e0).showable && ((evD e1).showable && true)) = true
    rw [ev_showable h0, ev_showable h1]; rfl
  · show ((evD e0).hasDict || ((evD e1).hasDict || false)) = false
    rw [ev_noDict, ev_noDict]; rfl
  · show max (evD e0).depth (max (evD e1).depth 0) + 1 ≤ 60
    have := ev_depth e0
    have := ev_depth e1
    omega
theorem shw_bools (a b : Bool) : Shw (.list [.bool a, .bool b]) := by
  refine ⟨rfl, rfl, (by show max 0 (max 0 0) + 1 ≤ 60; decide), ?_⟩
  cases a <;> cases b <;> decide +kernel
/-! ### more of the plain scanner -/
theorem known_keep (S : Sc) : (known S).2.fed = S.fed ∧ (known S).2.kind = S.kind := by
  unfold known
  split
  · exact ⟨rfl, rfl⟩
  · split
    · exact ⟨rfl, rfl⟩
    · exact ⟨rfl, rfl⟩
theorem step_fed (S : Sc) (s : Int) : (stepS S s).2.fed = S.fed + 1 := by
  unfold stepS
  split
  · rfl
  · split
    · show (known (more1 S s)).2.fed + 1 = S.fed + 1
      rw [(known_keep _).1]; rfl
    · rfl
theorem feed_fed : ∀ (xs : List Int) (S : Sc), (feedS S xs).2.fed = S.fed + xs.length
  | [], S => by show S.fed = S.fed + ((0 : Nat) : Int); omega
  | x :: xs, S => by
    show (feedS (stepS S x).2 xs).2.fed = S.fed + ((xs.length + 1 : Nat) : Int)
    rw [feed_fed xs, step_fed]; omega
/-! ### places in a written packet -/
theorem cut_body {m : Int} {B t : List Int} {k : Int} (hk : 1 ≤ k) (ht : (t.length : Int) = k) : cutV (IL (m :: (B ++ t))) (some 1) (some (((IL (m :: (B ++ t))).length : Int) - k)) = IL B := by
  have el : ((IL (m :: (B ++ t))).length : Int) = 1 + B.length + t.length := by rw [il_len]; simp; omega
  rw [cut_mid (by decide) (by omega) (by rw [← il_len]; omega)]
  show IL ((B ++ t).take _) = _
  rw [show (((IL (m :: (B ++ t))).length : Int) - k).toNat - (1 : Int).toNat = B.length by rw [el]; omega, List.take_left]
theorem cut_tail {m : Int} {B t : List Int} {k : Int} (hk : 1 ≤ k) (ht : (t.length : Int) = k) : cutV (IL (m :: (B ++ t))) (some (((IL (m :: (B ++ t))).length : Int) - k)) none = IL t := by
  have el : ((IL (m :: (B ++ t))).length : Int) = 1 + B.length + t.length := by rw [il_len]; simp; omega
  rw [cut_from (by omega), show (((IL (m :: (B ++ t))).length : Int) - k).toNat = B.length + 1 by rw [el]; omega]
  show IL ((B ++ t).drop B.length) = _
  rw [List.drop_left]
def pkD (n c : Int) (d : List Int) : PyData := .tuple [.int n, .str ⟨#[c.toNat]⟩, .tuple (DI d)]
theorem noL_pk (n c : Int) (d : List Int) : noL (pkD n c d) = true := by
  show (true && (true && (noLs (DI d) && true))) = true
  rw [noLs_ints]; rfl
theorem PenAt.lst {H : Hp} {p c : Addr} {cells : List Int} {n : Int} (h : PenAt H p c cells n) {l : Addr} {xs : List Int} (hl : H l = some (.lst (IL xs))) : l ≠ p := by
  obtain ⟨a, b, e, _⟩ := h.pen
  refine ne_of hl e fun q => ?_
  have q : IL xs = [V.ref c, V.int a, V.int b] := by injection q
  cases xs with
  | nil => cases q
  | cons x r => have := (List.cons.inj q).1; cases this
theorem PenAt.ins {H : Hp} {p c : Addr} {cells : List Int} {n : Int} (h : PenAt H p c cells n) {x C dx : Addr} {fs : List (Str × V)} (hx : H x = some (.ins C dx fs)) : x ≠ p ∧ x ≠ c := by
  obtain ⟨a, b, e, _⟩ := h.pen
  exact ⟨ne_of hx e (by intro q; cases q), ne_of hx h.cel (by intro q; cases q)⟩
end NP
namespace NP
open PySem L2 PySem.Spec PyProof.Rows
abbrev W3 (p x l : Addr) : Addr → Prop := fun b => b = p ∨ b = x ∨ b = l
section
variable {P : Program} {w : World} {K : PySem.W.Frag} {mg : Str → Option Value} {base : Heap} {C aL aO : Addr} {f : Addr} {fd : FuncData}
/-! ### _law_seen_right -/
/-- what stands ahead of the call -/
structure SeenIn (K : PySem.W.Frag) (C : Addr) (H : Hp) (p c x l sg md pks : Addr) (cells : List Int) (n : Int) (S : Sc) (k num let_ : Int) (ds os : List Int) : Prop where
  pen : PenAt H p c cells n
  small : n ≤ 70000
  sc : ScAt C H x l S
  ok : OkS S
  shut : S.at_ = none
  fed0 : 0 ≤ S.fed
  fed1 : S.fed ≤ 100000
  lc : l ≠ c
  kk : k = kOf S.kind let_
  hsg : H sg = some (.lst (IL (markOf let_ :: (body k num let_ ds ++ chk k (body k num let_ ds)))))
  hmd : H md = some (.lst (IL (markOf let_ :: (body k num let_ os ++ chk k (body k num let_ ds)))))
  len : os.length = ds.length
  plo : Plain os
  num0 : 0 ≤ num
  num1 : num ≤ 63
  isl : let_ ∈ lets
  fits : 2 + (ds.length : Int) + k ≤ 94
  pk : ∃ pk1 bh pk2 pt2 : Addr, ∃ (n2 l2 : Int) (ds2 : List Int), SqT K H pks [.ref pk1, .ref bh] ∧ Dp K H (.ref pk1) (pkD num let_ os) ∧ SqT K H bh [.ref pk2, .ref pt2] ∧ Dp K H (.ref pk2) (pkD n2 l2 ds2) ∧ H pt2 = some (.lst (IL (putL S.kind n2 l2 ds2))) ∧
    0 ≤ n2 ∧ n2 ≤ 63 ∧ l2 ∈ lets ∧ Plain ds2 ∧ 2 + (ds2.length : Int) + kOf S.kind l2 ≤ 94
def spSeen (C : Addr) : Sp := fun vs H Q _ => ∃ (p c x l sg md pks : Addr) (cells : List Int) (n : Int) (S : Sc) (k num let_ : Int) (ds os : List Int), vs = [.ref p, .ref x, .ref sg, .ref md, .int k, .ref pks] ∧ SeenIn K C H p c x l sg md pks cells n S k num let_ ds os ∧
  ∀ H' l' S', Kp (W3 p x l) H H' → PenAt H' p c cells (n + 400) → (l' = l ∨ H l' = none) → ScAt C H' x l' S' → OkS S' → S'.at_ = none → S'.kind = S.kind → 0 ≤ S'.fed → S'.fed ≤ S.fed + 300 → Q (.bl (decide (chk k (body k num let_ os) = chk k (body k num let_ ds)))) H'
theorem sc__law_seen_right : FnScope ["_law_pen_here", "_law_scanner", "_law_signs", "_law_made", "_law_size_check", "_law_packets", "_law_due_check", "_law_is_same", "_law_rows", "_law_some", "_law_told", "_law_ahead", "_law_more_here", "_law_at", "_law_due", "_law_cut", "_law_found"] ["_law_pen_here", "_law_scanner", "_law_signs", "_law_made", "_law_size_check", "_law_packets"] (defScope (top 43)) := ⟨rfl, rfl, rfl, by decide +kernel, rfl, by decide +kernel, by decide +kernel⟩
theorem ok_seen (T : Txt K mg C aL aO) (F : FunP K "_law_seen_right" (top 43) f fd) (c_law_take : Cal P w K mg base 1 "_law_take" spTake) (c_law_trash : Cal P w K mg base 2 "_law_trash" spTrash) (c_law_check : Cal P w K mg base 1 "_law_check" (spLCheck (K := K)))
    (care_apart : CalK P w K mg base 3 2 ["kind"] "are_apart" (spAreApart (K := K))) (m_fed : Met P w K mg base 1 C "fed" (spFed C)) (m_feed : Met P w K mg base 5 C "feed" (spFeed (K := K) C)) : FnG P w K mg base 6 f fd ["_law_pen_here", "_law_scanner", "_law_signs", "_law_made", "_law_size_check", "_law_packets"] (spSeen (K := K) C) := by
  refine okG F sc__law_seen_right (fun vs H Q E h => ?_) (fun cdv A outer s H vs Q E hr hA h => ?_)
  · obtain ⟨p, c, x, l, sg, md, pks, cells, n, S, k, num, let_, ds, os, rfl, _⟩ := h; rfl
  · obtain ⟨p, c, x, l, sg, md, pks, cells, n, S, k, num, let_, ds, os, rfl, G, kk⟩ := h
    obtain ⟨pk1, bh, pk2, pt2, n2, l2, ds2, hpks, dpk1, hbh, dpk2, hpt2, n20, n21, isl2, pl2, fits2⟩ := G.pk
    have hk : Kind k := by rw [G.kk]; exact kOf_kind G.ok.kd _
    have k3 := kind_pos hk
    have hP := G.pen
    have hmd := G.hmd
    have hsg := G.hsg
    have hlen := G.len
    have hfits := G.fits
    have htl : ((chk k (body k num let_ ds)).length : Int) = k := by rw [chk_len]; omega
    have lBo : (body k num let_ os).length = (body k num let_ ds).length := by rw [body_len, body_len, hlen]
    have lBd : (body k num let_ ds).length ≤ 100 := by rw [body_len]; omega
    have eM := cut_body (m := markOf let_) (B := body k num let_ os) (t := chk k (body k num let_ ds)) k3.1 htl
    have eT := cut_tail (m := markOf let_) (B := body k num let_ os) (t := chk k (body k num let_ ds)) k3.1 htl
    have eS := cut_body (m := markOf let_) (B := body k num let_ ds) (t := chk k (body k num let_ ds)) k3.1 htl
    refine ⟨_, PSs.nox (pss_cons (ps_set (i := 6) sc__law_seen_right.nd rfl (.inl rfl) (pe_cc c_law_check hr (by decide) rfl (pa_cons (pe_slice sl_list (pv 3) (po_some pe_int) (po_some (pe_op op_sub (pe_callB call_len_seq rfl T.len b_len (pa_cons (pv 3) pa_nil)) (pv 4)))) (pa_cons (pv 4) pa_nil))))
  (pss_cons (ps_set (i := 7) sc__law_seen_right.nd rfl (.inl rfl) (pe_cmpR (op_eqD hr.units) (pv 6) (pe_slice sl_list (pv 3) (po_some (pe_op op_sub (pe_callB call_len_seq rfl T.len b_len (pa_cons (pv 3) pa_nil)) (pv 4))) po_none) (nomark _)))
  (pss_cons (ps_setLc (i := 8) (own := [("_law_some", 9)]) (g := gName 9) (tt := tYes) rfl sc__law_seen_right.nd rfl rfl (sw_true rfl rfl rfl (by decide +kernel)) (pi_tup (pe_tup (pa_cons (pv 2) (pa_cons (pv 3) pa_nil)))) (blkOk_by (N := ["_law_pen_here", "_law_scanner", "_law_signs", "_law_made", "_law_size_check", "_law_packets", "_law_due_check", "_law_is_same", "_law_rows", "_law_some", "_law_told", "_law_ahead", "_law_more_here", "_law_at", "_law_due", "_law_cut", "_law_found"]) (sc := defScope (top 43)) (by decide +kernel)) (fun _ _ _ _ _ => (pg_name (i := 9) sc__law_seen_right.nd rfl (.inl rfl))) (fun _ _ _ _ _ => pts_nil) (fun _ _ _ _ _ => (pe_callTy (call_tuple_ofK K) rfl T.tuple b_tuple (pa_cons (pe_slice (sl_listK K) (pv 9) (po_some pe_int) (po_some (pe_op op_sub (pe_callB (call_len_seqK K) rfl T.len b_len (pa_cons (pv 9) pa_nil)) (pv 4)))) pa_nil))))
  (pss_cons (ps_set (i := 10) sc__law_seen_right.nd rfl (.inl rfl) (pe_lst (pa_cons (pe_ck care_apart hr (by decide) rfl (pa_cons (pe_ix ix_list (pv 8) pe_int (fun _ _ => rfl)) (pa_cons (pe_ix ix_list (pv 8) pe_int (fun _ _ => rfl)) pa_nil)) (pk_cons (pv 4) pk_nil)) (pa_cons (pe_ck care_apart hr (by decide) rfl (pa_cons (pe_ix ix_list (pv 8) pe_int (fun _ _ => rfl)) (pa_cons (pe_ix ix_list (pv 8) pe_int (fun _ _ => rfl)) pa_nil)) (pk_cons (pv 4) pk_nil)) pa_nil))))
  (pss_cons (ps_if (pt_cmpR op_ne (pe_callB (call_reprD hA hr.units) rfl T.repr b_repr (pa_cons (pv 10) pa_nil)) (pe_callB (call_reprD hA hr.units) rfl T.repr b_repr (pa_cons (pe_op op_rep (pe_lst (pa_cons (pe_not (pv 7)) pa_nil)) pe_int) pa_nil)) (nomark _))
    (pss_one (ps_ret pe_non))
    pss_nil)
  (pss_cons (ps_set (i := 11) sc__law_seen_right.nd rfl (.inl rfl) (pe_cc c_law_trash hr (by decide) rfl (pa_cons (pv 0) (pa_cons pe_int pa_nil))))
  (pss_cons (ps_set (i := 12) sc__law_seen_right.nd rfl (.inl rfl) (pe_op op_cat (pe_op op_cat (pv 11) (pv 3)) (pe_ix ix_tup (pe_ix ix_tup (pv 5) pe_int (fun _ _ => rfl)) pe_int (fun _ _ => rfl))))
  (pss_cons (ps_set (i := 13) sc__law_seen_right.nd rfl (.inl rfl) (pe_op op_add (pe_mm0 m_fed hr (by decide) (pv 1)) (pe_callB call_len_seq rfl T.len b_len (pa_cons (pv 11) pa_nil))))
  (pss_cons (ps_set (i := 14) sc__law_seen_right.nd rfl (.inl rfl) (pe_lst (pa_cons (pe_tup (pa_cons pe_str (pa_cons pe_non (pa_cons (pv 13) pa_nil)))) (pa_cons (pe_tup (pa_cons pe_str (pa_cons (pe_ix ix_tup (pe_ix ix_tup (pv 5) pe_int (fun _ _ => rfl)) pe_int (fun _ _ => rfl)) (pa_cons (pe_op op_add (pv 13) (pe_callB call_len_seq rfl T.len b_len (pa_cons (pv 3) pa_nil))) pa_nil)))) pa_nil))))
  (pss_cons (ps_if (pt_val (pv 7))
    (pss_one (ps_asg (pe_tup (pa_cons pe_str (pa_cons (pe_ix ix_tup (pv 5) pe_int (fun _ _ => rfl)) (pa_cons (pv 13) pa_nil)))) (pg_sub (pv 14) pe_int set_list)))
    pss_nil)
  (pss_cons (ps_set (i := 15) sc__law_seen_right.nd rfl (.inl rfl) (pe_cc c_law_take hr (by decide) rfl (pa_cons (pv 0) (pa_cons (pe_op op_add (pe_callB call_len_seq rfl T.len b_len (pa_cons (pv 12) pa_nil)) pe_int) pa_nil))))
  (pss_cons (ps_set (i := 16) sc__law_seen_right.nd rfl (.inl rfl) (pe_op op_cat (pe_mm m_feed hr (by decide) (pv 1) (pa_cons (pe_slice sl_list (pv 12) po_none (po_some (pv 15))) pa_nil)) (pe_mm m_feed hr (by decide) (pv 1) (pa_cons (pe_slice sl_list (pv 12) (po_some (pv 15)) po_none) pa_nil))))
  (pss_cons (ps_if (pt_cmpR op_ne (pe_callB (call_reprD hA hr.units) rfl T.repr b_repr (pa_cons (pv 16) pa_nil)) (pe_callB (call_reprD hA hr.units) rfl T.repr b_repr (pa_cons (pv 14) pa_nil)) (nomark _))
    (pss_one (ps_ret pe_non))
    pss_nil)
  (pss_one (ps_ret (pv 7)))))))))))))))), ?_⟩
    -- due_check
    refine ⟨_, rfl, _, rfl, _, rfl, md, _, rfl, .inl (SqL.of hmd), _, rfl, _, _, rfl, rfl, _, rfl, md, _, rfl, SqL.of hmd, fun a na => ?_⟩
    refine ⟨_, rfl, a, body k num let_ os, k, rfl, SqL.of (by rw [upd_same, eM]), hk, fun dc H1 k1 n1 h1 => ?_⟩
    have kA := ((Kp.refl (W := No) H).alloc (.lst (cutV (IL (markOf let_ :: (body k num let_ os ++ chk k (body k num let_ ds)))) (some 1) (some (((IL (markOf let_ :: (body k num let_ os ++ chk k (body k num let_ ds)))).length : Int) - k)))) na).trans k1
    clear k1 n1 na
    have hmd1 := kA.keep _ _ hmd fun q => q
    -- is_same
    refine ⟨_, rfl, _, rfl, _, rfl, md, _, rfl, .inl (SqL.of hmd1), _, rfl, _, _, rfl, rfl, _, rfl, md, _, rfl, SqL.of hmd1, fun b nb => ?_⟩
    refine ⟨_, _, dp_lst (SqL.of (upd_keep nb h1)), dp_lst (SqL.of (by rw [upd_same, eT])), PySem.W.ke_shaped_ints _, PySem.W.ke_shaped_ints _, ?_⟩
    have kB := kA.alloc (.lst (cutV (IL (markOf let_ :: (body k num let_ os ++ chk k (body k num let_ ds)))) (some (((IL (markOf let_ :: (body k num let_ os ++ chk k (body k num let_ ds)))).length : Int) - k)) none)) nb
    obtain ⟨same, esame⟩ : ∃ same : Bool, PyData.eqv (.list (DI (chk k (body k num let_ os)))) (.list (DI (chk k (body k num let_ ds)))) = same := ⟨_, rfl⟩
    rw [esame]
    rw [eqv_lst] at esame
    generalize upd H1 b (.lst (cutV (IL (markOf let_ :: (body k num let_ os ++ chk k (body k num let_ ds)))) (some (((IL (markOf let_ :: (body k num let_ os ++ chk k (body k num let_ ds)))).length : Int) - k)) none)) = H2 at kB
    clear h1 nb kA hmd1
    have B : PenAt H2 p c cells n := hP.kp kB (fun q => q) (fun q => q)
    have hmd2 := kB.keep _ _ hmd fun q => q
    have hsg2 := kB.keep _ _ hsg fun q => q
    -- rows
    refine ⟨_, rfl, _, rfl, smle (by show 2 ≤ 16000; decide), fun tp ntp => ⟨tp, rfl, ⟨_, SqT.of upd_same⟩, fun D nD => ?_⟩⟩
    refine lc_tup (K := K) (a := tp) (xs := [.ref sg, .ref md]) (fun i H' => Kp (One D) H2 H' ∧ ∃ rs : List Addr, rs.length = i ∧ H' D = some (.lst (rs.map V.ref)) ∧ (∀ r, rs[0]? = some r → H' r = some (.tup (IL (body k num let_ ds)))) ∧ (∀ r, rs[1]? = some r → H' r = some (.tup (IL (body k num let_ os)))) ∧ H' tp = some (.tup [.ref sg, .ref md]))
      ⟨((Kp.refl H2).alloc _ ntp).alloc _ nD, [], rfl, upd_same, (fun r hr => by cases hr), (fun r hr => by cases hr), upd_keep nD upd_same⟩ (fun i H' _ h => SqT.of (by obtain ⟨_, _, _, _, _, _, h⟩ := h; exact h)) ?_ ?_
    · rintro i y H' hy ⟨kp, rs, hrs, hD, hr0, hr1, htp⟩
      have n2 : H2 D = none := ((Kp.refl (W := No) H2).alloc _ ntp).free nD
      have hi2 : i < 2 := (List.getElem?_eq_some_iff.mp hy).1
      -- a row of a list
      have row : ∀ (z : Addr) (m : Int) (Bz : List Int), H2 z = some (.lst (IL (m :: (Bz ++ chk k (body k num let_ ds))))) → y = .ref z → Bz.length ≤ 200 → (rs.length = 0 → Bz = body k num let_ ds) → (rs.length = 1 → Bz = body k num let_ os) →
          tCB (fun xs H Q => ∃ p ys, xs = [.ref p] ∧ ((SqL K H p ys ∧ ∀ l, H l = none → Q (.ref l) (upd H l (.tup ys))) ∨ (SqT K H p ys ∧ Q (.ref p) H))) (tCons (tSl (rSlL K) (tVar 9) (tPart (tC (.int 1))) (tPart (tOp (rI0 fun i j => .int (i - j)) (tCB (fun xs H Q => ∃ p ys, xs = [.ref p] ∧ (SqL K H p ys ∨ SqT K H p ys) ∧ Q (.int ys.length) H) (tCons (tVar 9) tNil)) (tVar 4)))) tNil)
            [some (.ref p), some (.ref x), some (.ref sg), some (.ref md), some (.int k), some (.ref pks), some (.ref dc), some (.bl same), none, some y, none, none, none, none, none, none, none] H'
            (fun v H4 => ∃ acc, H4 D = some (.lst acc) ∧ acc.length < sizeLine ∧ Kp (One D) H2 (upd H4 D (.lst (acc ++ [v]))) ∧ ∃ rs2 : List Addr, rs2.length = i + 1 ∧ upd H4 D (.lst (acc ++ [v])) D = some (.lst (rs2.map V.ref)) ∧ (∀ r, rs2[0]? = some r → upd H4 D (.lst (acc ++ [v])) r = some (.tup (IL (body k num let_ ds)))) ∧ (∀ r, rs2[1]? = some r → upd H4 D (.lst (acc ++ [v])) r = some (.tup (IL (body k num let_ os)))) ∧
              upd H4 D (.lst (acc ++ [v])) tp = some (.tup [.ref sg, .ref md])) := by
        rintro z m Bz hz rfl lz c0 c1
        have ez := cut_body (m := m) (B := Bz) (t := chk k (body k num let_ ds)) k3.1 htl
        have hz' := kp.keep _ _ hz (ne_of_none hz n2)
        refine ⟨_, rfl, _, rfl, _, rfl, z, _, rfl, .inl (SqL.of hz'), _, rfl, _, _, rfl, rfl, _, rfl, z, _, rfl, SqL.of hz', fun a na => ?_⟩
        rw [ez]
        refine ⟨a, _, rfl, .inl ⟨SqL.of upd_same, fun t nt => ?_⟩⟩
        have hDt := upd_keep (u := .tup (IL Bz)) nt (upd_keep (u := .lst (IL Bz)) na hD)
        have kt := (kp.alloc (.lst (IL Bz)) na).alloc (.tup (IL Bz)) nt
        have ktt : Kp (One D) H' (upd (upd (upd H' a (.lst (IL Bz))) t (.tup (IL Bz))) D (.lst (rs.map V.ref ++ [.ref t]))) := (((Kp.refl H').alloc (.lst (IL Bz)) na).alloc (.tup (IL Bz)) nt).set _ hDt rfl (.inl rfl)
        have tt : upd (upd (upd H' a (.lst (IL Bz))) t (.tup (IL Bz))) D (.lst (rs.map V.ref ++ [.ref t])) t = some (.tup (IL Bz)) := by
          rw [upd_ne (ne_of_none (upd_keep (u := .lst (IL Bz)) na hD) nt).symm, upd_same]
        refine ⟨_, hDt, sml (by rw [List.length_map, hrs]; omega), kt.set _ hDt rfl (.inl rfl), rs ++ [t], by simp [hrs], by rw [upd_same, List.map_append]; rfl, ?_, ?_, ktt.tup _ _ htp⟩
        · intro r hr
          rcases Nat.eq_zero_or_pos rs.length with e | e
          · have : rs = [] := List.eq_nil_of_length_eq_zero e
            subst this
            cases hr
            rw [tt, c0 rfl]
          · rw [List.getElem?_append_left e] at hr
            exact ktt.tup _ _ (hr0 r hr)
        · intro r hr
          rcases Nat.lt_trichotomy rs.length 1 with e | e | e
          · have : rs = [] := List.eq_nil_of_length_eq_zero (by omega)
            subst this
            cases hr
          · rw [List.getElem?_append_right (by omega), e] at hr
            cases hr
            rw [tt, c1 e]
          · rw [List.getElem?_append_left e] at hr
            exact ktt.tup _ _ (hr1 r hr)
      match i, hy, hrs with
      | 0, hy, hrs => exact ⟨rfl, row sg _ _ hsg2 (by cases hy; rfl) (by omega) (fun _ => rfl) (fun e => by omega)⟩
      | 1, hy, hrs => exact ⟨rfl, row md _ _ hmd2 (by cases hy; rfl) (by omega) (fun e => by omega) (fun _ => rfl)⟩
      | i + 2, hy, hrs => cases hy
    · rintro H3 ⟨kp, rs, hrs, hD, hr0, hr1, htp⟩
      obtain ⟨r1, r2, rfl⟩ : ∃ r1 r2, rs = [r1, r2] := by
        match rs, hrs with
        | [r1, r2], _ => exact ⟨r1, r2, rfl⟩
      have hb1 := hr0 r1 rfl
      have hb2 := hr1 r2 rfl
      have n2 : H2 D = none := ((Kp.refl (W := No) H2).alloc _ ntp).free nD
      have kC : Kp No H H3 := kB.trans (Kp.drop1 n2 kp)
      clear hr0 hr1 htp hrs nD ntp kp n2
      -- told
      have t1 : decide ((body k num let_ ds).length ≠ (body k num let_ os).length ∨ chk k (body k num let_ ds) ≠ chk k (body k num let_ os)) = !same := by
        rw [← esame, lBo]
        by_cases e : chk k (body k num let_ os) = chk k (body k num let_ ds) <;> simp [e]
        exact fun q => e q.symm
      have t2 : decide ((body k num let_ os).length ≠ (body k num let_ ds).length ∨ chk k (body k num let_ os) ≠ chk k (body k num let_ ds)) = !same := by
        rw [← esame, lBo]
        by_cases e : chk k (body k num let_ os) = chk k (body k num let_ ds) <;> simp [e]
      refine ⟨_, rfl, D, _, 0, _, rfl, rfl, SqL.of hD, rfl, _, rfl, D, _, 1, _, rfl, rfl, SqL.of hD, rfl, _, rfl, rfl, rfl, r1, r2, _, _, k, rfl, SqT.of hb1, SqT.of hb2, by omega, by omega, hk, fun H4 k4 => ?_⟩
      have hD4 := k4.keep _ _ hD fun q => q
      refine ⟨_, rfl, D, _, 1, _, rfl, rfl, SqL.of hD4, rfl, _, rfl, D, _, 0, _, rfl, rfl, SqL.of hD4, rfl, _, rfl, rfl, rfl, r2, r1, _, _, k, rfl, SqT.of (k4.tup _ _ hb2), SqT.of (k4.tup _ _ hb1), by omega, by omega, hk, fun H5 k5 => ⟨smle (by show 2 ≤ 16000; decide), fun td ntd => ?_⟩⟩
      rw [t1, t2]
      have htd : upd H5 td (.lst [.bl (!same), .bl (!same)]) td = some (.lst [.bl (!same), .bl (!same)]) := upd_same
      have kD := ((kC.trans k4).trans k5).alloc (.lst [.bl (!same), .bl (!same)]) ntd
      have shb := shw_bools (!same) (!same)
      refine ⟨_, rfl, td, .list [.bool (!same), .bool (!same)], rfl, .lst (SqL.of htd) (.cons (.bl _) (.cons (.bl _) .nil)), shb.sh, shb.nd, shb.dp, shb.ln, ?_⟩
      refine ⟨_, rfl, same, rfl, smle (by show 1 ≤ 16000; decide), fun u nu => ⟨u, 2, _, rfl, rfl, upd_same, by decide, by decide, smle (by show 1 * 2 ≤ 16000; decide), fun v nv => ?_⟩⟩
      have hv : upd (upd (upd H5 td (.lst [.bl (!same), .bl (!same)])) u (.lst [.bl (!same)])) v (.lst [.bl (!same), .bl (!same)]) v = some (.lst [.bl (!same), .bl (!same)]) := upd_same
      have kE := (kD.alloc (.lst [.bl (!same)]) nu).alloc (.lst [.bl (!same), .bl (!same)]) nv
      refine ⟨v, .list [.bool (!same), .bool (!same)], rfl, .lst (SqL.of hv) (.cons (.bl _) (.cons (.bl _) .nil)), shb.sh, shb.nd, shb.dp, shb.ln, rfl, _, rfl, goF (by simp) ?_⟩
      have hPE : PenAt _ p c cells n := hP.kp kE (fun q => q) (fun q => q)
      have hmdE := kE.keep _ _ hmd fun q => q
      have hSE := G.sc.kp kE (fun q => q) (fun q => q)
      -- ahead
      refine ⟨_, rfl, p, c, cells, n, 3, rfl, hPE, by have := G.small; omega, by omega, by omega, fun H6 ta tr k6 hP6 nta hta htr ltr3 => ?_⟩
      have kF : Kp (One p) H H6 := kE.no.trans k6
      have nta' : H ta = none := kE.free nta
      obtain ⟨dx0, hx0⟩ := G.sc.ins
      have hxp := (hP.ins hx0).1
      have hxc := (hP.ins hx0).2
      have hlp := hP.lst G.sc.sg
      have hmd6 := kF.keep _ _ hmd (hP.lst hmd)
      have hpt6 := kF.keep _ _ hpt2 (hP.lst hpt2)
      have hS6 := G.sc.kp kF hxp hlp
      have hpks6 := kF.seqT hpks
      have hbh6 := kF.seqT hbh
      have dpk16 := dp_kp kF _ _ (noL_pk _ _ _) dpk1
      have dpk26 := dp_kp kF _ _ (noL_pk _ _ _) dpk2
      clear hmdE hSE hPE kE kD kC kB k6 k4 k5 hv htd hD hD4 hb1 hb2
      have eput : putL S.kind n2 l2 ds2 = markOf l2 :: (body (kOf S.kind l2) n2 l2 ds2 ++ chk (kOf S.kind l2) (body (kOf S.kind l2) n2 l2 ds2)) := rfl
      have hk2 := kind_pos (kOf_kind G.ok.kd l2)
      have lmade : (markOf let_ :: (body k num let_ os ++ chk k (body k num let_ ds))).length ≤ 100 := by
        show ((body k num let_ os ++ chk k (body k num let_ ds)).length + 1 : Nat) ≤ 100
        rw [List.length_append, body_len]; omega
      have lput : (putL S.kind n2 l2 ds2).length ≤ 100 := by
        rw [eput]
        show ((body (kOf S.kind l2) n2 l2 ds2 ++ chk (kOf S.kind l2) (body (kOf S.kind l2) n2 l2 ds2)).length + 1 : Nat) ≤ 100
        rw [List.length_append, body_len, chk_len]; omega
      have three := feed_three (S := S) (tr := tr) (k := k) (n := num) (c := let_) (ds := os) (tl := chk k (body k num let_ ds)) (k2 := kOf S.kind l2) (n2 := n2) (c2 := l2) (ds2 := ds2) G.ok G.shut htr G.kk ⟨G.num0, G.num1⟩ G.isl G.plo (chk_plain _ _) (chk_len _ _) (by rw [hlen]; exact hfits) rfl ⟨n20, n21⟩ isl2 pl2 fits2
      rw [← eput] at three
      obtain ⟨th1, th2, th3⟩ := three
      generalize eMade : markOf let_ :: (body k num let_ os ++ chk k (body k num let_ ds)) = made at *
      generalize eP2 : putL S.kind n2 l2 ds2 = put2 at *
      clear eput
      -- more_here
      refine ⟨_, rfl, _, rfl, ta, md, _, _, rfl, rfl, hta, hmd6, smle (by rw [il_len, il_len]; omega), fun m1 nm1 => ?_⟩
      have kG := kF.alloc (.lst (IL tr ++ IL made)) nm1
      refine ⟨_, rfl, pks, _, 1, _, rfl, rfl, (Kp.new (W := No) (.lst (IL tr ++ IL made)) nm1).seqT hpks6, rfl, bh, _, 1, _, rfl, rfl, (Kp.new (W := No) (.lst (IL tr ++ IL made)) nm1).seqT hbh6, rfl, m1, pt2, _, _, rfl, rfl, upd_same, upd_keep nm1 hpt6, smle (by rw [List.length_append, il_len, il_len, il_len]; omega), fun m2 nm2 => ?_⟩
      have hm2 : upd (upd H6 m1 (.lst (IL tr ++ IL made))) m2 (.lst (IL tr ++ IL made ++ IL put2)) m2 = some (.lst (IL (tr ++ made ++ put2))) := by rw [upd_same, il_app, il_app]
      have kG2 : Kp No H6 (upd (upd H6 m1 (.lst (IL tr ++ IL made))) m2 (.lst (IL tr ++ IL made ++ IL put2))) := ((Kp.refl H6).alloc _ nm1).alloc _ nm2
      generalize upd (upd H6 m1 (.lst (IL tr ++ IL made))) m2 (.lst (IL tr ++ IL made ++ IL put2)) = H7 at *
      have nm2' : H6 m2 = none := ((Kp.refl (W := No) H6).alloc _ nm1).free nm2
      clear kG nm1 nm2
      -- at
      have hS7 := hS6.kp kG2 (fun q => q) (fun q => q)
      obtain ⟨dx, hx7⟩ := hS7.ins
      have hta7 := kG2.keep _ _ hta fun q => q
      have hmd7 := kG2.keep _ _ hmd6 fun q => q
      refine ⟨_, rfl, x, dx, _, rfl, hx7, rfl, x, l, S, rfl, hS7, _, rfl, ta, _, rfl, .inl (SqL.of hta7), _, _, rfl, rfl, ?_⟩
      have elt : ((IL tr).length : Int) = tr.length := by rw [il_len]
      have elm : ((IL made).length : Int) = made.length := by rw [il_len]
      -- due
      have hpks7 := kG2.seqT hpks6
      have hbh7 := kG2.seqT hbh6
      refine ⟨_, rfl, smle (by show 3 ≤ 16000; decide), fun d1 nd1 => ?_⟩
      have kd1 := (Kp.refl (W := No) H7).alloc (.tup [.str "bad", .non, .int (S.fed + ((IL tr).length : Int))]) nd1
      refine ⟨_, rfl, pks, _, 1, _, rfl, rfl, kd1.seqT hpks7, rfl, bh, _, 0, _, rfl, rfl, kd1.seqT hbh7, rfl, _, rfl, _, rfl, md, _, rfl, .inl (SqL.of (kd1.keep _ _ hmd7 fun q => q)), _, _, rfl, rfl, smle (by show 3 ≤ 16000; decide), fun d2 nd2 => ⟨smle (by show 2 ≤ 16000; decide), fun du ndu => ?_⟩⟩
      have hd1 := upd_keep (u := .tup [.str "good", .ref pk2, .int (S.fed + ((IL tr).length : Int) + ((IL made).length : Int))]) nd2 (upd_same (H := H7) (a := d1) (o := .tup [.str "bad", .non, .int (S.fed + ((IL tr).length : Int))]))
      have kd2 := kd1.alloc (.tup [.str "good", .ref pk2, .int (S.fed + ((IL tr).length : Int) + ((IL made).length : Int))]) nd2
      have hd2 : upd (upd H7 d1 (.tup [.str "bad", .non, .int (S.fed + ((IL tr).length : Int))])) d2 (.tup [.str "good", .ref pk2, .int (S.fed + ((IL tr).length : Int) + ((IL made).length : Int))]) d2 = some (.tup [.str "good", .ref pk2, .int (S.fed + ((IL tr).length : Int) + ((IL made).length : Int))]) := upd_same
      have hd1u := upd_keep (u := .lst [.ref d1, .ref d2]) ndu hd1
      have hd2u := upd_keep (u := .lst [.ref d1, .ref d2]) ndu hd2
      have kdu := kd2.alloc (.lst [.ref d1, .ref d2]) ndu
      have hduu : upd (upd (upd H7 d1 (.tup [.str "bad", .non, .int (S.fed + ((IL tr).length : Int))])) d2 (.tup [.str "good", .ref pk2, .int (S.fed + ((IL tr).length : Int) + ((IL made).length : Int))])) du (.lst [.ref d1, .ref d2]) du = some (.lst [.ref d1, .ref d2]) := upd_same
      have ndu7 : H7 du = none := kd2.free ndu
      have smf : Sm (S.fed + ((IL tr).length : Int)) := by have := G.fed0; have := G.fed1; unfold Sm; omega
      have smf2 : Sm (S.fed + ((IL tr).length : Int) + ((IL made).length : Int)) := by have := G.fed0; have := G.fed1; unfold Sm; omega
      have smc : ∀ c ∈ lets, c.toNat < 16 ^ 8 := fun c h => by have := lets_plain h; omega
      have smd : ∀ xs, Plain xs → ∀ y ∈ xs, Sm y := fun xs h y hy => by have := h y hy; unfold Sm; omega
      have sm1 : SmE (.good n2 l2 ds2 (S.fed + ((IL tr).length : Int) + ((IL made).length : Int))) := ⟨by unfold Sm; omega, smc _ isl2, smd _ pl2, by omega, smf2⟩
      -- behind the due list
      have rest : ∀ (H8 : Hp) (e0 : Addr) (ev : Ev), Kp No H6 H8 → H8 du = some (.lst [.ref e0, .ref d2]) → H8 m2 = some (.lst (IL (tr ++ made ++ put2))) → Dp K H8 (.ref e0) (evD ev) → Dp K H8 (.ref d2) (evD (.good n2 l2 ds2 (S.fed + ((IL tr).length : Int) + ((IL made).length : Int)))) →
          (ev = if chk k (body k num let_ os) = chk k (body k num let_ ds) then .good num let_ os (S.fed + ((IL tr).length : Int)) else .bad (S.fed + ((IL tr).length : Int))) → SmE ev →
          tSeq (tAsg (tCall spTake [] E0 (tCons (tVar 0) (tCons (tOp (rI0 fun i j => .int (i + j)) (tCB (fun xs H Q => ∃ p ys, xs = [.ref p] ∧ (SqL K H p ys ∨ SqT K H p ys) ∧ Q (.int ys.length) H) (tCons (tVar 12) tNil)) (tC (.int 1))) tNil))) (gName 15))
            (tSeq (tAsg (tOp rCat (tMeth C "feed" (spFeed (K := K) C) [] E0 (tVar 1) (tCons (tSl (rSlL K) (tVar 12) tNoPart (tPart (tVar 15))) tNil)) (tMeth C "feed" (spFeed (K := K) C) [] E0 (tVar 1) (tCons (tSl (rSlL K) (tVar 12) (tPart (tVar 15)) tNoPart) tNil))) (gName 16))
              (tSeq (tIfS (tTest (tOp rNe (tCB (fun xs H Q => ∃ a d, xs = [.ref a] ∧ Dp K H (.ref a) d ∧ d.showable = true ∧ d.hasDict = false ∧ d.depth ≤ 60 ∧ d.shown.length ≤ sizeLine ∧ Q (.str d.shown) H) (tCons (tVar 16) tNil))
                (tCB (fun xs H Q => ∃ a d, xs = [.ref a] ∧ Dp K H (.ref a) d ∧ d.showable = true ∧ d.hasDict = false ∧ d.depth ≤ 60 ∧ d.shown.length ≤ sizeLine ∧ Q (.str d.shown) H) (tCons (tVar 14) tNil)))) (tRet (tC .non)) tNext) (tRet (tVar 7))))
            { nx := fun _ H' => Q .non H', rt := Q } [some (.ref p), some (.ref x), some (.ref sg), some (.ref md), some (.int k), some (.ref pks), some (.ref dc), some (.bl same), some (.ref D), none, some (.ref td), some (.ref ta), some (.ref m2), some (.int (S.fed + ((IL tr).length : Int))), some (.ref du), none, none] H8 := by
        intro H8 e0 ev k68 hdu8 hm8 de0 de1 eev sme
        have k8 : Kp (One p) H H8 := kF.trans k68.no
        have hP8 := hP6.kp k68 (fun q => q) (fun q => q)
        have hS8 := G.sc.kp k8 hxp hlp
        have nduH : H du = none := kF.free (kG2.free ndu7)
        have nm2H : H m2 = none := kF.free nm2'
        have eall : ((IL (tr ++ made ++ put2)).length : Int) = tr.length + made.length + put2.length := by rw [il_len, List.length_append, List.length_append]; omega
        refine ⟨_, rfl, _, rfl, m2, _, rfl, .inl (SqL.of hm8), _, _, rfl, rfl, p, c, cells, _, _, rfl, hP8, by have := G.small; omega, by omega, by omega, fun cut H9 c0 c1 k9 hP9 => ?_⟩
        have k89 := k8.trans k9
        have hS9 := hS8.kp k9 hxp hlp
        have m2p : m2 ≠ p := hP8.lst hm8
        have hm9 := k9.keep _ _ hm8 m2p
        obtain ⟨dx9, hx9⟩ := hS9.ins
        refine ⟨_, rfl, x, dx9, _, rfl, hx9, rfl, _, rfl, _, rfl, _, rfl, m2, _, rfl, SqL.of hm9, fun a1 na1 => ?_⟩
        have fr6 : ∀ {z : Addr}, H6 z = none → z ≠ x ∧ z ≠ l := fun h => by
          obtain ⟨d6, hx6⟩ := hS6.ins
          exact ⟨(ne_of_none hx6 h).symm, (ne_of_none hS6.sg h).symm⟩
        have mxl := fr6 nm2'
        have dxl := fr6 (kG2.free ndu7)
        have lall : (tr ++ made ++ put2).length ≤ 300 := by rw [List.length_append, List.length_append]; omega
        -- the first piece
        refine ⟨x, a1, l, S, (tr ++ made ++ put2).take cut.toNat, rfl, hS9.kp (Kp.new (W := No) _ na1) (fun q => q) (fun q => q), G.ok, (by rw [upd_same, cut_to c0]), (ne_of_none hS9.sg na1).symm, (by have := take_le (tr ++ made ++ put2) cut.toNat lall; omega), fun H11 q1 l11 vs1 k11 nq1 hl11 hql hS11 hq1 dv1 => ?_⟩
        have ka1 : Kp No H9 (upd H9 a1 (.lst (cutV (IL (tr ++ made ++ put2)) none (some cut)))) := Kp.new _ na1
        have k911 : Kp (fun b => b = x ∨ b = l) H9 H11 := ka1.no.trans k11
        have nl11 : l11 = l ∨ H9 l11 = none := hl11.imp id fun q => ka1.free q
        have hm11 := k911.keep _ _ hm9 (fun q => q.elim mxl.1 mxl.2)
        have hdu9 := k9.keep _ _ hdu8 (fun q => by rw [q] at hdu8; obtain ⟨_, _, e, _⟩ := hP8.pen; rw [e] at hdu8; cases hdu8)
        have hdu11 := k911.keep _ _ hdu9 (fun q => q.elim dxl.1 dxl.2)
        have de011 := dp_kp k911 _ _ (noL_ev _) (dp_kp k9 _ _ (noL_ev _) de0)
        have de111 := dp_kp k911 _ _ (noL_ev _) (dp_kp k9 _ _ (noL_ev _) de1)
        have kH11 : Kp (W3 p x l) H H11 := (k89.mono fun b q => .inl q).call k911 fun b q => .inl (.inr q)
        have hP11 := hP9.kp k911 (fun q => q.elim (fun q => hxp q.symm) fun q => hlp q.symm) (fun q => q.elim (fun q => hxc q.symm) fun q => G.lc q.symm)
        have l11H : l11 = l ∨ H l11 = none := nl11.imp id fun q => k89.free q
        have dul : du ≠ l11 := nl11.elim (fun e q => dxl.2 (q.trans e)) fun e => ne_of_none hdu9 e
        clear k11 ka1 hm9 hdu9 hx9 hS9 hm8 hdu8 hS8 de0 de1
        obtain ⟨dx11, hx11⟩ := hS11.ins
        have ok1 := feed_ok ((tr ++ made ++ put2).take cut.toNat) G.ok
        have kd1' := (feed_append ((tr ++ made ++ put2).take cut.toNat) ((tr ++ made ++ put2).drop cut.toNat) S)
        rw [List.take_append_drop] at kd1'
        have lf1 := feed_few ((tr ++ made ++ put2).take cut.toNat) S
        have lt1 := take_le (tr ++ made ++ put2) cut.toNat lall
        generalize (feedS S ((tr ++ made ++ put2).take cut.toNat)).2 = S1 at *
        generalize (feedS S ((tr ++ made ++ put2).take cut.toNat)).1 = E1 at *
        -- the second piece
        refine ⟨_, rfl, x, dx11, _, rfl, hx11, rfl, _, rfl, _, rfl, _, rfl, m2, _, rfl, SqL.of hm11, fun a2 na2 => ?_⟩
        have ld : ((tr ++ made ++ put2).drop cut.toNat).length ≤ 300 := by rw [List.length_drop]; omega
        have lf2 := feed_few ((tr ++ made ++ put2).drop cut.toNat) S1
        refine ⟨x, a2, l11, S1, (tr ++ made ++ put2).drop cut.toNat, rfl, hS11.kp (Kp.new (W := No) _ na2) (fun q => q) (fun q => q), ok1, (by rw [upd_same, cut_from c0]), (ne_of_none hS11.sg na2).symm, (by omega), fun H13 q2 l13 vs2 k13 nq2 hl13 hql2 hS13 hq2 dv2 => ?_⟩
        have ka2 : Kp No H11 (upd H11 a2 (.lst (cutV (IL (tr ++ made ++ put2)) (some cut) none))) := Kp.new _ na2
        have k1113 : Kp (fun b => b = x ∨ b = l11) H11 H13 := ka2.no.trans k13
        have nl13 : l13 = l11 ∨ H11 l13 = none := hl13.imp id fun q => ka2.free q
        have q1x : q1 ≠ x := ne_of hq1 hx11 (by intro q; cases q)
        have hq13 := k1113.keep _ _ hq1 (fun q => q.elim q1x hql)
        have hdu13 := k1113.keep _ _ hdu11 (fun q => q.elim dxl.1 dul)
        have dv13 := dpAll_kp k1113 _ _ (noLs_evs _) dv1
        have de013 := dp_kp k1113 _ _ (noL_ev _) de011
        have de113 := dp_kp k1113 _ _ (noL_ev _) de111
        have lv1 : vs1.length ≤ 300 := by rw [dpAll_len dv1, List.length_map]; omega
        have lv2 : vs2.length ≤ 300 := by rw [dpAll_len dv2, List.length_map]; omega
        refine ⟨q1, q2, _, _, rfl, rfl, hq13, hq2, smle (by omega), fun fo nfo => ?_⟩
        have kfo := Kp.new (W := No) (.lst (vs1 ++ vs2)) nfo
        have kAll : Kp (W3 p x l) H (upd H13 fo (.lst (vs1 ++ vs2))) := (kH11.call k1113 fun b q => q.elim (fun q => .inl (.inr (.inl q))) fun q => l11H.elim (fun e => .inl (.inr (.inr (q.trans e)))) fun e => .inr (q ▸ e)).trans kfo.no
        have pl11 : p ≠ l11 ∧ c ≠ l11 := by
          rcases nl11 with e | e
          · exact ⟨fun q => hlp (q.trans e).symm, fun q => G.lc (q.trans e).symm⟩
          · exact ⟨(hP9.nn e).1.symm, (hP9.nn e).2.symm⟩
        have hP14 := (hP11.kp k1113 (fun q => q.elim (fun q => hxp q.symm) pl11.1) (fun q => q.elim (fun q => hxc q.symm) pl11.2)).kp kfo (fun q => q) (fun q => q)
        have hS14 := hS13.kp kfo (fun q => q) (fun q => q)
        have eEs : E1 ++ (feedS S1 ((tr ++ made ++ put2).drop cut.toNat)).1 = [ev, .good n2 l2 ds2 (S.fed + ((IL tr).length : Int) + ((IL made).length : Int))] := by
          rw [kd1'] at th1
          rw [elt, elm] at *
          rw [eev]
          exact th1
        have eS2 : (feedS S1 ((tr ++ made ++ put2).drop cut.toNat)).2 = (feedS S (tr ++ made ++ put2)).2 := by rw [kd1']
        have dAll : DpAll K (upd H13 fo (.lst (vs1 ++ vs2))) (vs1 ++ vs2) [evD ev, evD (.good n2 l2 ds2 (S.fed + ((IL tr).length : Int) + ((IL made).length : Int)))] := by
          have z := dpAll_kp kfo _ _ (noLs_evs (E1 ++ (feedS S1 ((tr ++ made ++ put2).drop cut.toNat)).1)) (by rw [List.map_append]; exact dpAll_app dv13 dv2)
          rw [eEs] at z
          exact z
        have shw := shw_two sme sm1
        refine ⟨_, rfl, fo, .list [evD ev, evD (.good n2 l2 ds2 (S.fed + ((IL tr).length : Int) + ((IL made).length : Int)))], rfl, .lst (SqL.of upd_same) dAll, shw.sh, shw.nd, shw.dp, shw.ln, ?_⟩
        refine ⟨_, rfl, du, .list [evD ev, evD (.good n2 l2 ds2 (S.fed + ((IL tr).length : Int) + ((IL made).length : Int)))], rfl, .lst (SqL.of (upd_keep nfo hdu13)) (.cons (dp_kp kfo _ _ (noL_ev _) de013) (.cons (dp_kp kfo _ _ (noL_ev _) de113) .nil)), shw.sh, shw.nd, shw.dp, shw.ln, rfl, _, rfl, goF (by simp) ⟨_, rfl, ?_⟩⟩
        have fed2 : (feedS S (tr ++ made ++ put2)).2.fed = S.fed + (tr ++ made ++ put2).length := feed_fed _ _
        rw [← esame]
        refine kk _ l13 (feedS S (tr ++ made ++ put2)).2 kAll (hP14.mono (by omega)) ?_ (eS2 ▸ hS14) (feed_ok _ G.ok) th2 th3 (by have := G.fed0; omega) (by omega)
        rcases nl13 with e | e
        · rw [e]; exact l11H
        · exact .inr (kH11.free e)
      have k6u := kG2.trans kdu
      have hm8 := kdu.keep _ _ hm2 fun q => q
      have dg2 : ∀ {H8 : Hp}, Kp No H6 H8 → H8 d2 = some (.tup [.str "good", .ref pk2, .int (S.fed + ((IL tr).length : Int) + ((IL made).length : Int))]) → Dp K H8 (.ref d2) (evD (.good n2 l2 ds2 (S.fed + ((IL tr).length : Int) + ((IL made).length : Int)))) := fun kz hz =>
        .tup (SqT.of hz) (.cons (.str _) (.cons (dp_kp kz _ _ (noL_pk _ _ _) dpk26) (.cons (.int _) .nil)))
      refine ⟨_, rfl, same, rfl, ?_⟩
      cases hsame : same with
      | true =>
        have ech : chk k (body k num let_ os) = chk k (body k num let_ ds) := of_decide_eq_true (esame.trans hsame)
        refine goT rfl ?_
        refine ⟨_, rfl, pks, _, 0, _, rfl, rfl, kdu.seqT hpks7, rfl, _, rfl, smle (by show 3 ≤ 16000; decide), fun d3 nd3 => ?_⟩
        have hdu3 := upd_keep (u := .tup [.str "good", .ref pk1, .int (S.fed + ((IL tr).length : Int))]) nd3 hduu
        have kz := (k6u.alloc (.tup [.str "good", .ref pk1, .int (S.fed + ((IL tr).length : Int))]) nd3)
        have kz2 := kz.set (.lst ([V.ref d1, .ref d2].set 0 (.ref d3))) hdu3 rfl (.inr (kG2.free ndu7))
        have kt := Kp.put (W := One du) (.lst ([V.ref d1, .ref d2].set 0 (.ref d3))) hdu3 rfl rfl
        refine ⟨_, rfl, du, _, 0, 0, rfl, rfl, hdu3, rfl, ?_⟩
        subst hsame
        refine rest _ d3 (.good num let_ os (S.fed + ((IL tr).length : Int))) kz2 upd_same ?_ ?_ (dg2 kz2 (kt.tup _ _ (upd_keep nd3 hd2u))) (by rw [if_pos ech]) ⟨by have := G.num0; have := G.num1; unfold Sm; omega, smc _ G.isl, smd _ G.plo, by omega, smf⟩
        · exact kt.keep _ _ (upd_keep nd3 hm8) (ne_of_none hm2 ndu7)
        · exact .tup (SqT.of (kt.tup _ _ upd_same)) (.cons (.str _) (.cons (dp_kp kz2 _ _ (noL_pk _ _ _) dpk16) (.cons (.int _) .nil)))
      | false =>
        have ech : ¬ chk k (body k num let_ os) = chk k (body k num let_ ds) := of_decide_eq_false (esame.trans hsame)
        refine goF rfl ?_
        subst hsame
        refine rest _ d1 (.bad (S.fed + ((IL tr).length : Int))) k6u hduu hm8 (.tup (SqT.of hd1u) (.cons (.str _) (.cons .non (.cons (.int _) .nil)))) (dg2 k6u hd2u) (by rw [if_neg ech]) smf
end
end NP
namespace NP
open PySem L2 PySem.Spec PyProof.Rows
/-! ### the plain part of a turn -/
/-- whether a check can't tell these data from those -/
def sn (k n c : Int) (ds os : List Int) : Bool := decide (chk k (body k n c os) = chk k (body k n c ds))
theorem body_hd {k n c : Int} {ds os : List Int} (h : os.length = ds.length) : body k n c os = [32 + (2 + (ds.length : Int) + k), 126 - (2 + (ds.length : Int) + k), 32 + n, c] ++ os := by unfold body; rw [h]
theorem sn_twin {k n c : Int} {ds ys : List Int} (hk : Kind k) (hp : Plain ds) (h : twin k ds = some ys) : ys.length = ds.length ∧ Plain ys ∧ ys ≠ ds ∧ sn k n c ds ys = true := by
  obtain ⟨a, b, d, e⟩ := twin_ok hk [32 + (2 + (ds.length : Int) + k), 126 - (2 + (ds.length : Int) + k), 32 + n, c] hp h
  refine ⟨a, b, d, ?_⟩
  unfold sn
  rw [body_hd a, body_hd (os := ds) rfl]
  exact decide_eq_true e
theorem more_ne {x f : Int} (hx : 32 ≤ x ∧ x ≤ 126) (h1 : 1 ≤ f) (h2 : f ≤ 94) : more x f ≠ x := by unfold more; omega
section
variable {ds o1 o2 o3 o4 o5 : List Int}
theorem Oth.all (h : Oth ds o1 o2 o3 o4 o5) (hp : Plain ds) : ∀ o ∈ [o1, o2, o3, o4, o5], o.length = ds.length ∧ Plain o := by
  obtain ⟨⟨pre, x, y, post, fi, se, rfl, f1, f2, rfl, rfl, rfl⟩, l4, l5⟩ := h
  have hpre : Plain pre := fun z hz => hp z (List.mem_append.mpr (.inl hz))
  have hx := hp x (by simp)
  have hy := hp y (by simp)
  have hpost : Plain post := fun z hz => hp z (by simp [hz])
  intro o ho
  simp only [List.mem_cons, List.not_mem_nil, or_false] at ho
  rcases ho with rfl | rfl | rfl | rfl | rfl
  · exact ⟨by simp, plain_app hpre (plain_cons (more_plain _ _) (plain_cons hy hpost))⟩
  · exact ⟨by simp, plain_app hpre (plain_cons hy (plain_cons hx hpost))⟩
  · exact ⟨by simp, plain_app hpre (plain_cons (more_plain _ _) (plain_cons (more_plain _ _) hpost))⟩
  · exact l4
  · exact l5
theorem sn_one {k n c : Int} (h : Oth ds o1 o2 o3 o4 o5) (hp : Plain ds) (hk : Kind k) : sn k n c ds o1 = false := by
  have al := (h.all hp o1 (by simp)).1
  unfold sn
  rw [body_hd al, body_hd (os := ds) rfl]
  generalize [32 + (2 + (ds.length : Int) + k), 126 - (2 + (ds.length : Int) + k), 32 + n, c] = hd
  obtain ⟨⟨pre, x, y, post, fi, se, rfl, f1, f2, rfl, rfl, rfl⟩, l4, l5⟩ := h
  have hx := hp x (by simp)
  have := see_one hk hd pre (y :: post) (more_plain x fi) hx (more_ne hx f1 f2)
  rw [List.append_assoc, List.append_assoc] at this
  exact decide_eq_false this
theorem sn_cross {k n c : Int} (h : Oth ds o1 o2 o3 o4 o5) (hp : Plain ds) (hk : Kind k) (k1 : 1 < k) (ne : o2 ≠ ds) : sn k n c ds o2 = false := by
  have al := (h.all hp o2 (by simp)).1
  unfold sn
  rw [body_hd al, body_hd (os := ds) rfl]
  generalize [32 + (2 + (ds.length : Int) + k), 126 - (2 + (ds.length : Int) + k), 32 + n, c] = hd
  obtain ⟨⟨pre, x, y, post, fi, se, rfl, f1, f2, rfl, rfl, rfl⟩, l4, l5⟩ := h
  have hk' : k = 2 ∨ k = 3 := by rcases hk with e | e | e <;> omega
  have := see_cross hk' hd pre post (hp x (by simp)) (hp y (by simp)) (fun e => ne (by rw [e]))
  rw [List.append_assoc, List.append_assoc] at this
  exact decide_eq_false this
theorem sn_beside {k n c : Int} (h : Oth ds o1 o2 o3 o4 o5) (hp : Plain ds) (k3 : k = 3) : sn k n c ds o3 = false := by
  subst k3
  have al := (h.all hp o3 (by simp)).1
  unfold sn
  rw [body_hd al, body_hd (os := ds) rfl]
  generalize [32 + (2 + (ds.length : Int) + 3), 126 - (2 + (ds.length : Int) + 3), 32 + n, c] = hd
  obtain ⟨⟨pre, x, y, post, fi, se, rfl, f1, f2, rfl, rfl, rfl⟩, l4, l5⟩ := h
  have hx := hp x (by simp)
  have := see_beside hd pre post (more_plain x fi) (more_plain y se) hx (hp y (by simp)) (more_ne hx f1 f2)
  rw [List.append_assoc, List.append_assoc] at this
  exact decide_eq_false this
end
theorem rtupO_of {o : Option (List Int)} {H : Hp} {Q : VK} (h : ∀ H' tv, Kp No H H' → ((o = none ∧ tv = .non) ∨ ∃ ys q, o = some ys ∧ tv = .ref q ∧ H' q = some (.tup (IL ys))) → Q tv H') : RTupO o H Q :=
  fun H' k => ⟨fun e => h H' _ k (.inl ⟨e, rfl⟩), fun ys q e hq => h H' _ k (.inr ⟨ys, q, e, rfl, hq⟩)⟩
theorem inV_non : ∀ bs : List Bool, inV .non (bs.map V.bl) = false
  | [] => rfl
  | b :: bs => by show (eqV (.bl b) .non || inV .non (bs.map V.bl)) = false; rw [inV_non bs]; cases b <;> rfl
theorem flat_bls : ∀ bs : List Bool, (bs.map V.bl).all flatV = true
  | [] => rfl
  | b :: bs => by show (true && _) = true; rw [flat_bls bs]; rfl
theorem tyX_seqT {K : PySem.W.Frag} {H : Hp} {a : Addr} {xs : List V} (h : SqT K H a xs) : TyX K H (.ref a) (.type "tuple") := by
  rcases h with (h | ⟨ob, h⟩) | h
  · exact .base (.tup h)
  · exact .fTuple h
  · obtain ⟨o, its, n, lk, cl, _⟩ := h
    exact .kTuple lk cl
theorem slA_fromT {K : PySem.W.Frag} {H : Hp} {σ : L2.St} {a : Addr} {xs ys : List Int} {lo : Option Int} {Q : VK} (h : H a = some (.tup (IL xs))) (e : cutV (IL xs) lo none = IL ys) (k : ∀ p H', Kp No H H' → H' p = some (.tup (IL ys)) → Q (.ref p) H') : tNoPart σ H (fun u H3 => rSlA K (.ref a) lo u H3 Q) := by
  refine ⟨a, _, rfl, SqT.of h, fun w => ?_, fun _ p np => ?_⟩
  · rw [cut_whole w] at e
    exact k a H (Kp.refl H) (e ▸ h)
  · exact k p _ (Kp.new _ np) (by rw [upd_same, e])
theorem catA_at {K : PySem.W.Frag} {H : Hp} {a b : Addr} {xs ys : List Int} {Q : VK} (h1 : H a = some (.tup (IL xs))) (h2 : H b = some (.tup (IL ys))) (hl : xs.length + ys.length ≤ 10000) (k : ∀ p H', Kp No H H' → H' p = some (.tup (IL (xs ++ ys))) → Q (.ref p) H') : rCatA K (.ref a) (.ref b) H Q := by
  refine ⟨a, b, _, _, rfl, rfl, SqT.of h1, SqT.of h2, smle (by rw [il_len, il_len]; omega), fun e => ?_, fun _ e => ?_, fun _ _ p np => ?_⟩
  · have e' : xs = [] := List.map_eq_nil_iff.mp e
    subst e'
    exact k b H (Kp.refl H) h2
  · have e' : ys = [] := List.map_eq_nil_iff.mp e
    subst e'
    exact k a H (Kp.refl H) (by rw [List.append_nil]; exact h1)
  · exact k p _ (Kp.new _ np) (by rw [upd_same, il_app])
theorem dp_pk {K : PySem.W.Frag} {H : Hp} {p : Addr} {n c : Int} {d : List Int} (h : PkAt H p n c d) : Dp K H (.ref p) (pkD n c d) := by
  obtain ⟨q, h1, h2⟩ := h
  exact .tup (SqT.of h1) (.cons (.int _) (.cons (.str _) (.cons (dp_tup (SqT.of h2)) .nil)))
theorem bit01 (b : Bool) : 0 ≤ (if b = true then (1 : Int) else 0) ∧ (if b = true then (1 : Int) else 0) ≤ 1 := by cases b <;> decide
theorem made_eq {m k n c : Int} {ds os t : List Int} (h : os.length = ds.length) : cutV (IL (m :: (body k n c ds ++ t))) none (some 5) ++ IL os ++ cutV (IL (m :: (body k n c ds ++ t))) (some (5 + ((IL ds).length : Int))) none = IL (m :: (body k n c os ++ t)) := by
  rw [cut_to (by decide), cut_from (by omega), il_len, show (5 + (ds.length : Int)).toNat = ds.length + 5 by omega, ← il_app, ← il_app]
  unfold body
  rw [h]
  show IL (m :: [_, _, _, _] ++ os ++ (ds ++ t).drop ds.length) = _
  rw [List.drop_left]
  simp
theorem made_cut (m k n c : Int) (ds t : List Int) : (cutV (IL (m :: (body k n c ds ++ t))) none (some 5)).length ≤ 5 ∧ (cutV (IL (m :: (body k n c ds ++ t))) (some (5 + ((IL ds).length : Int))) none).length = t.length := by
  rw [cut_to (by decide), cut_from (by omega)]
  simp only [il_len]
  rw [show (5 + (ds.length : Int)).toNat = ds.length + 5 by omega]
  unfold body
  refine ⟨?_, ?_⟩
  · rw [List.length_take]; exact Nat.min_le_left _ _
  · show ((ds ++ t).drop ds.length).length = _
    rw [List.drop_left]
/-- the data that are tried, and where they stand -/
structure Tried (K : PySem.W.Frag) (H : Hp) (ds : List Int) (rs : List Addr) (os : List (List Int)) : Prop where
  len : rs.length = os.length
  few : os.length ≤ 6
  at_ : ∀ (i : Nat) (r : Addr), rs[i]? = some r → ∃ o, os[i]? = some o ∧ SqT K H r (IL o) ∧ o.length = ds.length ∧ Plain o
theorem Tried.kp {K : PySem.W.Frag} {H H' : Hp} {ds : List Int} {rs : List Addr} {os : List (List Int)} {W : Addr → Prop} (h : Tried K H ds rs os) (k : Kp W H H') : Tried K H' ds rs os := ⟨h.len, h.few, fun i r e => by
  obtain ⟨o, h1, h2, h3⟩ := h.at_ i r e
  exact ⟨o, h1, k.seqT h2, h3⟩⟩
def Ways (H : Hp) (k n c : Int) (ds : List Int) (tv : V) (os five : List (List Int)) : Prop := (tv = .non ∧ os = five) ∨ ∃ ys q, tv = .ref q ∧ H q = some (.tup (IL ys)) ∧ ys ≠ ds ∧ sn k n c ds ys = true ∧ os = ys :: five
theorem Ways.kp {H H' : Hp} {k n c : Int} {ds : List Int} {tv : V} {os five : List (List Int)} {W : Addr → Prop} (h : Ways H k n c ds tv os five) (kp : Kp W H H') : Ways H' k n c ds tv os five := h.imp id fun ⟨ys, q, a, b, e⟩ => ⟨ys, q, a, kp.tup _ _ b, e⟩
theorem tried_of {K : PySem.W.Frag} {H : Hp} {k n c : Int} {ds o1 o2 o3 o4 o5 : List Int} {tv : V} {p1 p2 p3 p4 p5 : Addr} (hk : Kind k) (pl : Plain ds) (ho : Oth ds o1 o2 o3 o4 o5) (htv : (twin k ds = none ∧ tv = .non) ∨ ∃ ys q, twin k ds = some ys ∧ tv = .ref q ∧ H q = some (.tup (IL ys)))
    (h1 : SqT K H p1 (IL o1)) (h2 : SqT K H p2 (IL o2)) (h3 : SqT K H p3 (IL o3)) (h4 : SqT K H p4 (IL o4)) (h5 : SqT K H p5 (IL o5)) :
    ∃ (rs : List Addr) (os : List (List Int)), (List.replicate (if (!decide (tv = V.non)) = true then (1 : Int) else 0).toNat [tv]).flatten ++ [V.ref p1, .ref p2, .ref p3, .ref p4, .ref p5] = rs.map V.ref ∧ Tried K H ds rs os ∧
      Ways H k n c ds tv os [o1, o2, o3, o4, o5] := by
  have al := ho.all pl
  have a1 := al o1 (by simp)
  have a2 := al o2 (by simp)
  have a3 := al o3 (by simp)
  have a4 := al o4 (by simp)
  have a5 := al o5 (by simp)
  have five : ∀ (i : Nat) (r : Addr), [p1, p2, p3, p4, p5][i]? = some r → ∃ o, [o1, o2, o3, o4, o5][i]? = some o ∧ SqT K H r (IL o) ∧ o.length = ds.length ∧ Plain o := fun i r h => by
    match i, h with
    | 0, h => cases h; exact ⟨o1, rfl, h1, a1⟩
    | 1, h => cases h; exact ⟨o2, rfl, h2, a2⟩
    | 2, h => cases h; exact ⟨o3, rfl, h3, a3⟩
    | 3, h => cases h; exact ⟨o4, rfl, h4, a4⟩
    | 4, h => cases h; exact ⟨o5, rfl, h5, a5⟩
    | i + 5, h => cases h
  rcases htv with ⟨_, rfl⟩ | ⟨ys, q, e, rfl, hq⟩
  · exact ⟨[p1, p2, p3, p4, p5], [o1, o2, o3, o4, o5], rfl, ⟨rfl, (by show 5 ≤ 6; decide), five⟩, .inl ⟨rfl, rfl⟩⟩
  · obtain ⟨b1, b2, b3, b4⟩ := sn_twin (n := n) (c := c) hk pl e
    refine ⟨[q, p1, p2, p3, p4, p5], [ys, o1, o2, o3, o4, o5], rfl, ⟨rfl, Nat.le_refl 6, fun i r h => ?_⟩, .inr ⟨ys, q, rfl, hq, b3, b4, rfl⟩⟩
    cases i with
    | zero => cases h; exact ⟨ys, rfl, SqT.of hq, b1, b2⟩
    | succ i => exact five i r h
section
variable {P : Program} {w : World} {K : PySem.W.Frag} {mg : Str → Option Value} {base : Heap} {C aL aO : Addr} {f : Addr} {fd : FuncData}
/-! ### _law_turn -/
def spTurn (C : Addr) : Sp := fun vs H Q _ => ∃ (p c x l : Addr) (cells : List Int) (n b : Int) (S : Sc), vs = [.ref p, .ref x, .int b] ∧ PenAt H p c cells n ∧ n ≤ 60000 ∧ ScAt C H x l S ∧ OkS S ∧ S.at_ = none ∧ S.kind = b ∧ 0 ≤ S.fed ∧ S.fed ≤ 90000 ∧ l ≠ c ∧
  ∀ H' l' S', Kp (W3 p x l) H H' → PenAt H' p c cells (n + 4000) → (l' = l ∨ H l' = none) → ScAt C H' x l' S' → OkS S' → S'.at_ = none → S'.kind = S.kind → 0 ≤ S'.fed → S'.fed ≤ S.fed + 2000 → Q (.bl true) H'
theorem sc__law_turn : FnScope ["_law_pen_here", "_law_scanner", "_law_by", "_law_number", "_law_letter", "_law_data_here", "_law_size_check", "_law_signs", "_law_last", "_law_behind", "_law_twins", "_law_some", "_law_seen", "_law_other", "_law_made", "_law_one", "_law_crossed", "_law_beside"] ["_law_pen_here", "_law_scanner", "_law_by"] (defScope (top 44)) := ⟨rfl, rfl, rfl, by decide +kernel, rfl, by decide +kernel, by decide +kernel⟩
theorem ok_turn (T : Txt K mg C aL aO) (F : FunP K "_law_turn" (top 44) f fd) (c_law_packet : Cal P w K mg base 3 "_law_packet" spPacket) (c_law_take : Cal P w K mg base 1 "_law_take" spTake) (c_law_put : Cal P w K mg base 2 "_law_put" spPut)
    (c_law_others : Cal P w K mg base 2 "_law_others" (spOthers (K := K))) (ctwin : CalK P w K mg base 3 1 ["kind"] "twin" (spTwin (K := K))) (c_law_seen_right : CalG P w K mg base 6 "_law_seen_right" (spSeen (K := K) C)) :
    FnG P w K mg base 7 f fd ["_law_pen_here", "_law_scanner", "_law_by"] (spTurn C) := by
  refine okG F sc__law_turn (fun vs H Q E h => ?_) (fun cdv A outer s H vs Q E hr hA h => ?_)
  · obtain ⟨p, c, x, l, cells, n, b, S, rfl, _⟩ := h; rfl
  · obtain ⟨p, c, x, l, cells, n, b, S, rfl, hP, hn, hS, okS, shut, ekind, fed0, fed1, hlc, kk⟩ := h
    have hb : Kind b := ekind ▸ okS.kd
    have b3 := kind_pos hb
    obtain ⟨dx0, hx0⟩ := hS.ins
    have hxp := (hP.ins hx0).1
    have hxc := (hP.ins hx0).2
    have hlp := hP.lst hS.sg
    refine ⟨_, PSs.nox (pss_cons (ps_asg (pe_cc c_law_packet hr (by decide) rfl (pa_cons (pv 0) (pa_cons (pv 2) pa_nil))) (pg_tup rfl (pgs_cons (pg_name (i := 3) sc__law_turn.nd rfl (.inl rfl)) (pgs_cons (pg_name (i := 4) sc__law_turn.nd rfl (.inl rfl)) (pgs_cons (pg_name (i := 5) sc__law_turn.nd rfl (.inl rfl)) pgs_nil)))))
  (pss_cons (ps_set (i := 5) sc__law_turn.nd rfl (.inl rfl) (pe_slice sl_tupA (pe_op op_catA (pv 5) (pe_tup (pa_cons (pe_op op_add pe_int (pe_cc c_law_take hr (by decide) rfl (pa_cons (pv 0) (pa_cons pe_int pa_nil)))) (pa_cons (pe_op op_add pe_int (pe_cc c_law_take hr (by decide) rfl (pa_cons (pv 0) (pa_cons pe_int pa_nil)))) pa_nil)))) (po_some (pe_un un_neg pe_int)) po_none))
  (pss_cons (ps_set (i := 6) sc__law_turn.nd rfl (.inl rfl) (pe_ix ix_list (pe_lst (pa_cons (pv 2) (pa_cons pe_int pa_nil))) (pe_callTy call_int1 rfl T.int b_int (pa_cons (pe_cmpR op_in_seq (pv 4) (pe_lst (pa_cons pe_str (pa_cons pe_str (pa_cons pe_str pa_nil)))) (by rfl)) pa_nil)) (fun _ _ => rfl)))
  (pss_cons (ps_set (i := 7) sc__law_turn.nd rfl (.inl rfl) (pe_cc c_law_put hr (by decide) rfl (pa_cons (pe_tup (pa_cons (pv 3) (pa_cons (pv 4) (pa_cons (pv 5) pa_nil)))) (pa_cons (pv 2) pa_nil))))
  (pss_cons (ps_set (i := 8) sc__law_turn.nd rfl (.inl rfl) (pe_cc c_law_packet hr (by decide) rfl (pa_cons (pv 0) (pa_cons (pv 2) pa_nil))))
  (pss_cons (ps_set (i := 9) sc__law_turn.nd rfl (.inl rfl) (pe_tup (pa_cons (pv 8) (pa_cons (pe_cc c_law_put hr (by decide) rfl (pa_cons (pv 8) (pa_cons (pv 2) pa_nil))) pa_nil))))
  (pss_cons (ps_set (i := 10) sc__law_turn.nd rfl (.inl rfl) (pe_lst (pa_cons (pe_ck ctwin hr (by decide) rfl (pa_cons (pv 5) pa_nil) (pk_cons (pv 6) pk_nil)) (pa_cons (pe_cc c_law_others hr (by decide) rfl (pa_cons (pv 0) (pa_cons (pv 5) pa_nil))) pa_nil))))
  (pss_cons (ps_set (i := 11) sc__law_turn.nd rfl (.inl rfl) (pe_op op_cat (pe_op op_rep (pe_lst (pa_cons (pe_ix ix_list (pv 10) pe_int (fun _ _ => rfl)) pa_nil)) (pe_callTy call_int1 rfl T.int b_int (pa_cons (pe_cmpR op_notN (pe_ix ix_list (pv 10) pe_int (fun _ _ => rfl)) pe_non (nomark _)) pa_nil))) (pe_ix ix_list (pv 10) pe_int (fun _ _ => rfl))))
  (pss_cons (ps_set (i := 12) sc__law_turn.nd rfl (.inl rfl) (pe_lst pa_nil))
  (pss_cons (ps_for PassesOwn.never rfl (pi_list (pv 11)) (pg_name (i := 13) sc__law_turn.nd rfl (.inl rfl))
    (pss_cons (ps_if (PW.pt (pw_or (pt_not (pt_val (pe_callB call_isi rfl T.isinstance b_isinstance (pa_cons (pv 13) (pa_cons (pe_bltn (v := .ty "tuple") rfl T.tuple b_tuple rfl) pa_nil))))) (pw_or1 (pt_cmpR op_ne (pe_callB call_len_seq rfl T.len b_len (pa_cons (pv 13) pa_nil)) (pe_callB call_len_seq rfl T.len b_len (pa_cons (pv 5) pa_nil)) (nomark _)))))
    (pss_one (ps_ret pe_bl))
    pss_nil)
  (pss_cons (ps_set (i := 14) sc__law_turn.nd rfl (.inl rfl) (pe_op op_cat (pe_op op_cat (pe_slice sl_list (pv 7) po_none (po_some pe_int)) (pe_callTy call_list_of rfl T.list b_list (pa_cons (pv 13) pa_nil))) (pe_slice sl_list (pv 7) (po_some (pe_op op_add pe_int (pe_callB call_len_seq rfl T.len b_len (pa_cons (pv 5) pa_nil)))) po_none)))
  (pss_one (ps_expr (pe_bm PySem.F.plainAttrs_list PySem.F.slot_list_append PySem.F.type_list_append mt_append (pv 12) (pa_cons (pe_cg c_law_seen_right hr hA (by decide) rfl (pa_cons (pv 0) (pa_cons (pv 1) (pa_cons (pv 7) (pa_cons (pv 14) (pa_cons (pv 6) (pa_cons (pe_tup (pa_cons (pe_tup (pa_cons (pv 3) (pa_cons (pv 4) (pa_cons (pv 13) pa_nil)))) (pa_cons (pv 9) pa_nil))) pa_nil))))))) pa_nil)))))))
  (pss_cons (ps_if (PW.pt (pw_or (pt_cmpR op_in_seq pe_non (pv 12) (by rfl)) (pw_or1 (PW.pt (pw_and (pt_cmpR op_notN (pe_ix ix_list (pv 10) pe_int (fun _ _ => rfl)) pe_non (nomark _)) (pw_and1 (PW.pt (pw_or (pt_cmpR op_notBl (pe_ix ix_list (pv 12) pe_int (fun _ _ => rfl)) pe_bl (nomark _)) (pw_or1 (pt_cmpR (op_eqD hr.units) (pe_ix ix_list (pv 10) pe_int (fun _ _ => rfl)) (pv 5) (nomark _)))))))))))
    (pss_one (ps_ret pe_bl))
    pss_nil)
  (pss_cons (ps_asg (pe_slice sl_list (pv 12) (po_some (pe_op op_sub (pe_callB call_len_seq rfl T.len b_len (pa_cons (pv 12) pa_nil)) pe_int)) (po_some (pe_op op_sub (pe_callB call_len_seq rfl T.len b_len (pa_cons (pv 12) pa_nil)) pe_int))) (pg_unl rfl (pgs_cons (pg_name (i := 15) sc__law_turn.nd rfl (.inl rfl)) (pgs_cons (pg_name (i := 16) sc__law_turn.nd rfl (.inl rfl)) (pgs_cons (pg_name (i := 17) sc__law_turn.nd rfl (.inl rfl)) pgs_nil)))))
  (pss_cons (ps_if (PW.pt (pw_or (pt_val (pv 15)) (pw_or1 (PW.pt (pw_and (pt_val (pv 16)) (pw_and (pt_cmpR op_gt (pv 6) pe_int (nomark _)) (pw_and1 (pt_cmpR (op_neD hr.units) (pe_ix ix_list (pe_ix ix_list (pv 10) pe_int (fun _ _ => rfl)) pe_int (fun _ _ => rfl)) (pv 5) (nomark _)))))))))
    (pss_one (ps_ret pe_bl))
    pss_nil)
  (pss_one (ps_ret (pe_or (pe_not (pv 17)) (pe_one (pe_cmpR op_lt (pv 6) pe_int (nomark _))))))))))))))))))), ?_⟩
    -- the packet
    refine ⟨_, rfl, _, rfl, p, c, cells, n, b, rfl, hP, by omega, hb, fun H1 q1 num let_ ds0 k1 hP1 hq1 num0 num1 isl pl0 fits0 => ?_⟩
    obtain ⟨d0, hq1a, hq1b⟩ := hq1
    have hk : Kind (kOf b let_) := kOf_kind hb let_
    obtain ⟨k, ek⟩ : ∃ k, k = kOf b let_ := ⟨_, rfl⟩
    rw [← ek] at hk fits0
    have k3 := kind_pos hk
    refine ⟨q1, _, rfl, SqT.of hq1a, rfl, _, _, rfl, _, _, rfl, _, _, rfl, rfl, ?_⟩
    -- the data
    refine ⟨_, rfl, _, rfl, p, c, cells, _, 95, rfl, hP1, by omega, by omega, by omega, fun r1 H2 r10 r11 k2 hP2 => ?_⟩
    refine ⟨_, _, rfl, rfl, _, rfl, p, c, cells, _, 95, rfl, hP2, by omega, by omega, by omega, fun r2 H3 r20 r21 k3' hP3 => ?_⟩
    refine ⟨_, _, rfl, rfl, smle (by show 2 ≤ 16000; decide), fun t2 nt2 => ?_⟩
    have k4 := ((k1.trans k2).trans k3').alloc (.tup [.int (32 + r1), .int (32 + r2)]) nt2
    have hP4 := hP3.al (.tup [.int (32 + r1), .int (32 + r2)]) nt2
    have hd0 := upd_keep (u := .tup [.int (32 + r1), .int (32 + r2)]) nt2 ((k2.trans k3').tup _ _ hq1b)
    have ht2 : upd H3 t2 (.tup [.int (32 + r1), .int (32 + r2)]) t2 = some (.tup (IL [32 + r1, 32 + r2])) := upd_same
    refine catA_at (xs := ds0) (ys := [32 + r1, 32 + r2]) hd0 ht2 (by show ds0.length + 2 ≤ 10000; omega) fun t3 H5 k5 ht3 => ?_
    refine ⟨_, rfl, _, rfl, slA_fromT ht3 (cut_last (xs := ds0 ++ [32 + r1, 32 + r2]) (k := 88) (by decide)) fun d H6 k6 hd6 => ?_⟩
    have pl1 : Plain (ds0 ++ [32 + r1, 32 + r2]) := plain_app pl0 (plain_cons (by omega) (plain_cons (by omega) (fun y hy => by cases hy)))
    obtain ⟨ds, eds⟩ : ∃ ds, ds = (ds0 ++ [32 + r1, 32 + r2]).drop ((ds0 ++ [32 + r1, 32 + r2]).length - (88 : Int).toNat) := ⟨_, rfl⟩
    have pl : Plain ds := by rw [eds]; exact plain_drop pl1 _
    have lds : 2 ≤ ds.length ∧ ds.length ≤ 88 := by
      rw [eds, List.length_drop, List.length_append]
      show 2 ≤ ds0.length + 2 - (ds0.length + 2 - 88) ∧ ds0.length + 2 - (ds0.length + 2 - 88) ≤ 88
      omega
    rw [← eds] at hd6
    have kd : Kp (One p) H H6 := (k4.trans k5.no).trans k6.no
    have hP6 := (hP4.kp k5 (fun q => q) (fun q => q)).kp k6 (fun q => q) (fun q => q)
    clear eds pl1 hd0 ht2 ht3 hP4 hP3 hP2 k4 k5 k6 k2 k3' nt2 hq1b
    -- the kind of check
    refine ⟨_, rfl, smle (by show 2 ≤ 16000; decide), fun l1 nl1 => ?_⟩
    have kl1 := (Kp.refl (W := No) H6).alloc (.lst [.int b, .int 1]) nl1
    refine ⟨_, rfl, smle (by show 3 ≤ 16000; decide), fun l2 nl2 => ⟨l2, _, rfl, .inl (SqL.of upd_same), rfl, rfl, .inr ⟨_, rfl, ?_⟩⟩⟩
    have kl2 := kl1.alloc (.lst (opens.map ltr)) nl2
    have hl1 := upd_keep (u := .lst (opens.map ltr)) nl2 (upd_same (H := H6) (a := l1) (o := .lst [.int b, .int 1]))
    refine ⟨l1, _, _, .int k, rfl, rfl, SqL.of hl1, ?_, ?_⟩
    · show atI [V.int b, .int 1] (if inV (ltr let_) (opens.map ltr) = true then 1 else 0) = _
      rw [in_opens isl, ek]
      unfold kOf
      by_cases ho : let_ ∈ opens
      · rw [if_pos (decide_eq_true ho), if_pos ho]; rfl
      · rw [if_neg (by simpa using ho), if_neg ho]; rfl
    -- the signs
    refine ⟨_, rfl, _, rfl, _, rfl, smle (by show 3 ≤ 16000; decide), fun tq ntq => ⟨_, rfl, ?_⟩⟩
    refine ⟨tq, num, let_, b, ds, rfl, ⟨d, upd_same, upd_keep ntq (kl2.tup _ _ hd6)⟩, isl, hb, by omega, fun sg H8 k8 nsg hsg => ?_⟩
    have k78 : Kp No H6 H8 := (kl2.alloc _ ntq).trans k8
    have kA := kd.trans k78.no
    have hdA := k78.tup _ _ hd6
    have hPA := hP6.kp k78 (fun q => q) (fun q => q)
    have nsgH : H sg = none := kd.free ((kl2.alloc _ ntq).free nsg)
    clear k8 k78 ntq nsg hl1 kl1 kl2 nl1 nl2 hd6 kd hP6
    -- the last packet
    refine ⟨_, rfl, _, rfl, p, c, cells, _, b, rfl, hPA, by omega, hb, fun H9 ql n2 l2 ds2 k9 hPB hql n20 n21 isl2 pl2 fits2 => ?_⟩
    have kB := kA.trans k9
    have hdB := k9.tup _ _ hdA
    have hsgB := k9.keep _ _ hsg (hPA.lst hsg)
    clear hsg hdA hPA kA k9
    have hk2 := kind_pos (kOf_kind hb l2)
    refine ⟨_, rfl, _, rfl, _, rfl, ?_⟩
    refine ⟨ql, n2, l2, b, ds2, rfl, hql, isl2, hb, by omega, fun pt2 H10 k10 npt2 hpt2 => ⟨smle (by show 2 ≤ 16000; decide), fun bh nbh => ?_⟩⟩
    have k10' := k10.alloc (.tup [.ref ql, .ref pt2]) nbh
    have kC := kB.trans k10'.no
    have hdC := k10'.tup _ _ hdB
    have hsgC := k10'.keep _ _ hsgB fun q => q
    have hPC := hPB.kp k10' (fun q => q) (fun q => q)
    have hqlC := hql.kp k10'
    have hptC := upd_keep (u := .tup [.ref ql, .ref pt2]) nbh hpt2
    have hbhC : upd H10 bh (.tup [.ref ql, .ref pt2]) bh = some (.tup [.ref ql, .ref pt2]) := upd_same
    have nptH : H pt2 = none := kB.free npt2
    generalize upd H10 bh (.tup [.ref ql, .ref pt2]) = HC at *
    clear hpt2 npt2 hql hPB hsgB hdB kB k10' k10 nbh
    -- the twins
    refine ⟨_, rfl, _, rfl, rfl, rfl, d, ds, k, rfl, SqT.of hdC, by omega, hk, rtupO_of fun HD tv kD htv => ?_⟩
    have hPD := hPC.kp kD (fun q => q) (fun q => q)
    refine ⟨_, rfl, _, rfl, p, c, d, cells, ds, _, rfl, hPD, by omega, SqT.of (kD.tup _ _ hdC), pl, lds.1, by omega, fun HE lo p1 p2 p3 p4 p5 o1 o2 o3 o4 o5 kE hPE nlo hlo ho1 ho2 ho3 ho4 ho5 ho => ?_⟩
    have kCE : Kp (One p) HC HE := kD.no.trans kE
    have kF := kC.trans kCE
    have hdE := kCE.tup _ _ hdC
    have hsgE := kCE.keep _ _ hsgC (hPC.lst hsgC)
    have hptE := kCE.keep _ _ hptC (hPC.lst hptC)
    have hqlE := hqlC.kp kCE
    have hbhE := kCE.tup _ _ hbhC
    have htvE : (twin k ds = none ∧ tv = .non) ∨ ∃ ys q, twin k ds = some ys ∧ tv = .ref q ∧ HE q = some (.tup (IL ys)) := htv.imp id fun ⟨ys, q, a, b, h⟩ => ⟨ys, q, a, b, kE.tup _ _ h⟩
    have nloH : H lo = none := kC.free (kD.free nlo)
    clear htv kE kD hPD hdC hsgC hptC hqlC hbhC hPC kC kCE nlo
    refine ⟨smle (by show 2 ≤ 16000; decide), fun tw ntw => ?_⟩
    have htw : upd HE tw (.lst [tv, .ref lo]) tw = some (.lst [tv, .ref lo]) := upd_same
    have ktw := (Kp.refl (W := No) HE).alloc (.lst [tv, .ref lo]) ntw
    refine ⟨_, rfl, tw, _, 0, _, rfl, rfl, SqL.of htw, rfl, smle (by show 1 ≤ 16000; decide), fun u1 nu1 => ?_⟩
    have hu1 : upd (upd HE tw (.lst [tv, .ref lo])) u1 (.lst [tv]) u1 = some (.lst [tv]) := upd_same
    have htw1 := upd_keep (u := .lst [tv]) nu1 htw
    have ku1 := ktw.alloc (.lst [tv]) nu1
    refine ⟨_, rfl, tw, _, 0, _, rfl, rfl, SqL.of htw1, rfl, rfl, .inr ⟨_, rfl, ?_⟩⟩
    have bit := bit01 (!decide (tv = V.non))
    refine ⟨u1, _, _, rfl, rfl, hu1, by have := bit.1; omega, by have := bit.2; omega, smle (by show 1 * _ ≤ 16000; omega), fun u2 nu2 => ?_⟩
    have ku2 := ku1.alloc (.lst (List.replicate (if (!decide (tv = V.non)) = true then (1 : Int) else 0).toNat [tv]).flatten) nu2
    have htw2 := upd_keep (u := .lst (List.replicate (if (!decide (tv = V.non)) = true then (1 : Int) else 0).toNat [tv]).flatten) nu2 htw1
    obtain ⟨rs, os, ers, tri, ways⟩ := tried_of (n := num) (c := let_) hk pl ho htvE ho1 ho2 ho3 ho4 ho5
    refine ⟨_, rfl, tw, _, 1, _, rfl, rfl, SqL.of htw2, rfl, u2, lo, _, _, rfl, rfl, upd_same, ku2.keep _ _ hlo (fun q => q), ?_⟩
    rw [ers]
    refine ⟨smle (by have := congrArg List.length ers; rw [List.length_append, List.length_map, tri.len] at this; have := tri.few; omega), fun sm nsm => ?_⟩
    have ksm := ku2.alloc (.lst (rs.map V.ref)) nsm
    refine ⟨Nat.zero_le _, fun sn_ nsn => ?_⟩
    have kL := ksm.alloc (.lst []) nsn
    have kHL := kF.trans kL.no
    have hPL := (hPE.kp kL (fun q => q) (fun q => q)).mono (m := n + 1000) (by omega)
    have hSL := hS.kp kHL hxp hlp
    have hsgL := kL.keep _ _ hsgE fun q => q
    have hptL := kL.keep _ _ hptE fun q => q
    have hloL := kL.keep _ _ hlo fun q => q
    have hdL := kL.tup _ _ hdE
    have hqlL := hqlE.kp kL
    have hbhL := kL.tup _ _ hbhE
    have htwL := upd_keep (u := .lst []) nsn (upd_keep (u := .lst (rs.map V.ref)) nsm htw2)
    have hsmL := upd_keep (u := .lst []) nsn (upd_same (H := upd (upd (upd HE tw (.lst [tv, .ref lo])) u1 (.lst [tv])) u2 (.lst (List.replicate (if (!decide (tv = V.non)) = true then (1 : Int) else 0).toNat [tv]).flatten)) (a := sm) (o := .lst (rs.map V.ref)))
    have hsnL : upd (upd (upd (upd (upd HE tw (.lst [tv, .ref lo])) u1 (.lst [tv])) u2 (.lst (List.replicate (if (!decide (tv = V.non)) = true then (1 : Int) else 0).toNat [tv]).flatten)) sm (.lst (rs.map V.ref))) sn_ (.lst []) sn_ = some (.lst []) := upd_same
    have triL := tri.kp kL
    have ho2L := kL.seqT ho2
    have waysL := ways.kp kL
    have nsg : sg ≠ sn_ := ne_of_none (ksm.keep _ _ hsgE fun q => q) nsn
    have npt : pt2 ≠ sn_ := ne_of_none (ksm.keep _ _ hptE fun q => q) nsn
    have nlo : lo ≠ sn_ := ne_of_none (ksm.keep _ _ hlo fun q => q) nsn
    have ntw' : tw ≠ sn_ := ne_of_none (upd_keep nsm htw2) nsn
    have nsm' : sm ≠ sn_ := ne_of_none upd_same nsn
    have ntwH : H tw = none := kF.free ntw
    have nsmH : H sm = none := kF.free (ku2.free nsm)
    have nsnH : H sn_ = none := kF.free (ksm.free nsn)
    generalize upd (upd (upd (upd (upd HE tw (.lst [tv, .ref lo])) u1 (.lst [tv])) u2 (.lst (List.replicate (if (!decide (tv = V.non)) = true then (1 : Int) else 0).toNat [tv]).flatten)) sm (.lst (rs.map V.ref))) sn_ (.lst []) = HL at *
    clear kL ksm ku2 ku1 ktw htw htw1 htw2 hu1 bit ers ways tri htvE nsm nsn nu1 nu2 ntw ho1 ho2 ho3 ho4 ho5 hsgE hptE hqlE hbhE hdE hlo hPE kF hq1a hP1 k1 H2 H3 H5 H6 H8 H9 H10
    have far : ∀ {z : Addr}, H z = none → z ≠ p ∧ z ≠ x ∧ z ≠ l := fun h => by
      obtain ⟨_, _, e, _⟩ := hP.pen
      exact ⟨(ne_of_none e h).symm, (ne_of_none hx0 h).symm, (ne_of_none hS.sg h).symm⟩
    obtain ⟨W5, eW5⟩ : ∃ W5 : Addr → Prop, W5 = (fun b => b = p ∨ b = x ∨ b = l ∨ b = sn_) := ⟨_, rfl⟩
    have out5 : ∀ {z : Addr}, H z = none → z ≠ sn_ → ¬ W5 z := fun h1 h2 q => by
      obtain ⟨a, b, d⟩ := far h1
      rw [eW5] at q
      exact q.elim a fun q => q.elim b fun q => q.elim d h2
    obtain ⟨snp, snx, snl⟩ := far nsnH
    have elen : (os.length : Int) ≤ 6 := by have := triL.few; omega
    refine ⟨_, rfl, sm, rfl, ⟨_, SqL.of hsmL⟩, for_list (K := K) (a := sm) (xs := rs.map V.ref) (fun i σ H' => ∃ (l' : Addr) (S' : Sc) (oth md : Option V),
        σ = [some (.ref p), some (.ref x), some (.int b), some (.int num), some (ltr let_), some (.ref d), some (.int k), some (.ref sg), some (.ref ql), some (.ref bh), some (.ref tw), some (.ref sm), some (.ref sn_), oth, md, none, none, none] ∧
        Kp W5 HL H' ∧ PenAt H' p c cells (n + 1000 + 400 * i) ∧ (l' = l ∨ HL l' = none) ∧ ScAt C H' x l' S' ∧ OkS S' ∧ S'.at_ = none ∧ S'.kind = S.kind ∧ 0 ≤ S'.fed ∧ S'.fed ≤ S.fed + 300 * i ∧ H' sn_ = some (.lst (((os.take i).map fun o => sn k num let_ ds o).map V.bl)))
      ⟨l, S, none, none, rfl, Kp.refl HL, hPL.mono (by omega), .inl rfl, hSL, okS, shut, rfl, fed0, by omega, hsnL⟩ ?_ ?_ ?_⟩
    · rintro i σ H' _ ⟨l', S', oth, md, rfl, kp, _⟩
      exact SqL.of (kp.keep _ _ hsmL (out5 nsmH nsm'))
    · rintro i y σ H' hy ⟨l', S', oth, md, rfl, kp, hPi, hl', hSi, okS', shut', ekind', fed0', fed1', hsn⟩
      obtain ⟨r, hr, rfl⟩ : ∃ r, rs[i]? = some r ∧ y = .ref r := by
        rw [List.getElem?_map] at hy
        cases e : rs[i]? with
        | none => rw [e] at hy; cases hy
        | some r => rw [e] at hy; exact ⟨r, rfl, (Option.some.inj hy).symm⟩
      obtain ⟨o, hoi, hrL, lo_, plo⟩ := triL.at_ i r hr
      have hi6 : i < os.length := (List.getElem?_eq_some_iff.mp hoi).1
      have hri := kp.seqT hrL
      have hdi := kp.tup _ _ hdL
      have hsgi := kp.keep _ _ hsgL (out5 nsgH nsg)
      refine ⟨_, rfl, .ref r, .ty "tuple", .type "tuple", .type "tuple", true, rfl, .ty _, tyX_seqT hri, kit_ty (by decide +kernel), _, rfl, ?_⟩
      have elo : ((IL o).length : Int) = (IL ds).length := by rw [il_len, il_len, lo_]
      refine goF rfl ?_
      refine ⟨_, rfl, r, _, rfl, .inr hri, _, rfl, d, _, rfl, .inr (SqT.of hdi), rfl, _, rfl, goF (by rw [elo]; simp) ?_⟩
      -- the signs, made anew
      refine ⟨_, rfl, _, rfl, sg, _, rfl, SqL.of hsgi, fun a1 na1 => ?_⟩
      have km1 := (Kp.refl (W := No) H').alloc (.lst (cutV (IL (putL b num let_ ds)) none (some 5))) na1
      refine ⟨_, rfl, r, _, rfl, .inr (km1.seqT hri), fun a2 na2 => ?_⟩
      have km2 := km1.alloc (.lst (IL o)) na2
      have eput : putL b num let_ ds = markOf let_ :: (body k num let_ ds ++ chk k (body k num let_ ds)) := by rw [ek]; rfl
      have cuts := made_cut (markOf let_) k num let_ ds (chk k (body k num let_ ds))
      have eall := made_eq (m := markOf let_) (k := k) (n := num) (c := let_) (t := chk k (body k num let_ ds)) lo_
      rw [← eput] at cuts eall
      rw [chk_len] at cuts
      have lc := cuts.1
      have lc2 := cuts.2
      have lio : (IL o).length ≤ 88 := by rw [il_len]; omega
      refine ⟨a1, a2, _, _, rfl, rfl, upd_keep na2 upd_same, upd_same, smle (by omega), fun a3 na3 => ?_⟩
      have km3 := km2.alloc (.lst (cutV (IL (putL b num let_ ds)) none (some 5) ++ IL o)) na3
      refine ⟨_, rfl, _, rfl, d, _, rfl, .inr (SqT.of (km3.tup _ _ hdi)), _, _, rfl, rfl, _, rfl, sg, _, rfl, SqL.of (km3.keep _ _ hsgi fun q => q), fun a4 na4 => ?_⟩
      have km4 := km3.alloc (.lst (cutV (IL (putL b num let_ ds)) (some (5 + ((IL ds).length : Int))) none)) na4
      refine ⟨a3, a4, _, _, rfl, rfl, upd_keep na4 upd_same, upd_same, smle (by rw [List.length_append]; omega), fun mda nmd => ?_⟩
      rw [eall]
      have km5 := km4.alloc (.lst (IL (markOf let_ :: (body k num let_ o ++ chk k (body k num let_ ds))))) nmd
      refine ⟨_, rfl, .inl ⟨rfl, _, SqL.of (km5.keep _ _ hsn fun q => q)⟩, _, rfl, _, rfl, _, rfl, _, rfl, _, rfl, _, rfl, _, rfl, _, rfl, smle (by show 3 ≤ 16000; decide), fun t1 nt1 => ⟨_, rfl, smle (by show 2 ≤ 16000; decide), fun t2 nt2 => ?_⟩⟩
      have km6 := km5.alloc (.tup [.int num, ltr let_, .ref r]) nt1
      have km7 := km6.alloc (.tup [.ref t1, .ref bh]) nt2
      have ht2 : upd (upd (upd (upd (upd (upd (upd H' a1 (.lst (cutV (IL (putL b num let_ ds)) none (some 5)))) a2 (.lst (IL o))) a3 (.lst (cutV (IL (putL b num let_ ds)) none (some 5) ++ IL o))) a4 (.lst (cutV (IL (putL b num let_ ds)) (some (5 + ((IL ds).length : Int))) none)))
        mda (.lst (IL (markOf let_ :: (body k num let_ o ++ chk k (body k num let_ ds)))))) t1 (.tup [.int num, ltr let_, .ref r])) t2 (.tup [.ref t1, .ref bh]) t2 = some (.tup [.ref t1, .ref bh]) := upd_same
      have ht1 := upd_keep (u := .tup [.ref t1, .ref bh]) nt2 (upd_same (H := upd (upd (upd (upd (upd H' a1 (.lst (cutV (IL (putL b num let_ ds)) none (some 5)))) a2 (.lst (IL o))) a3 (.lst (cutV (IL (putL b num let_ ds)) none (some 5) ++ IL o))) a4 (.lst (cutV (IL (putL b num let_ ds)) (some (5 + ((IL ds).length : Int))) none)))
        mda (.lst (IL (markOf let_ :: (body k num let_ o ++ chk k (body k num let_ ds)))))) (a := t1) (o := .tup [.int num, ltr let_, .ref r]))
      have hmd := upd_keep (u := .tup [.ref t1, .ref bh]) nt2 (upd_keep (u := .tup [.int num, ltr let_, .ref r]) nt1 (upd_same (H := upd (upd (upd (upd H' a1 (.lst (cutV (IL (putL b num let_ ds)) none (some 5)))) a2 (.lst (IL o))) a3 (.lst (cutV (IL (putL b num let_ ds)) none (some 5) ++ IL o))) a4 (.lst (cutV (IL (putL b num let_ ds)) (some (5 + ((IL ds).length : Int))) none)))
        (a := mda) (o := .lst (IL (markOf let_ :: (body k num let_ o ++ chk k (body k num let_ ds)))))))
      generalize upd (upd (upd (upd (upd (upd (upd H' a1 (.lst (cutV (IL (putL b num let_ ds)) none (some 5)))) a2 (.lst (IL o))) a3 (.lst (cutV (IL (putL b num let_ ds)) none (some 5) ++ IL o))) a4 (.lst (cutV (IL (putL b num let_ ds)) (some (5 + ((IL ds).length : Int))) none)))
        mda (.lst (IL (markOf let_ :: (body k num let_ o ++ chk k (body k num let_ ds)))))) t1 (.tup [.int num, ltr let_, .ref r])) t2 (.tup [.ref t1, .ref bh]) = HM at *
      clear km1 km2 km3 km4 km5 km6 na1 na2 na3 na4 nmd nt1 nt2 cuts lc lc2 eall
      have kpM := kp.trans km7.no
      have snl' : sn_ ≠ l' := hl'.elim (fun q => by rw [q]; exact snl) fun q => ne_of_none hsnL q
      refine ⟨p, c, x, l', sg, mda, t2, cells, _, S', k, num, let_, ds, o, rfl, ⟨hPi.kp km7 (fun q => q) (fun q => q), by omega, hSi.kp km7 (fun q => q) (fun q => q), okS', shut', fed0', by omega, ?_, by rw [ekind', ekind]; exact ek, ?_, hmd, lo_, plo, num0, num1, isl, by omega, t1, bh, ql, pt2, n2, l2, ds2, SqT.of ht2,
        .tup (SqT.of ht1) (.cons (.int _) (.cons (.str _) (.cons (dp_tup (km7.seqT hri)) .nil))), SqT.of (kpM.tup _ _ hbhL), dp_pk (hqlL.kp kpM), ?_, n20, n21, isl2, pl2, by rw [ekind', ekind]; exact fits2⟩, fun H2 l2' S2 kc hPc hlc2 hSc okc shc kic f0c f1c => ?_⟩
      · rcases hl' with q | q
        · rw [q]; exact hlc
        · exact (ne_of_none hPL.cel q).symm
      · rw [← eput]; exact kpM.keep _ _ hsgL (out5 nsgH nsg)
      · rw [ekind', ekind]; exact kpM.keep _ _ hptL (out5 nptH npt)
      have hsnM := km7.keep _ _ hsn fun q => q
      have hsn2 := kc.keep _ _ hsnM (fun q => q.elim snp fun q => q.elim snx snl')
      have lbs : (((os.take i).map fun o => sn k num let_ ds o).map V.bl).length ≤ 6 := by rw [List.length_map, List.length_map, List.length_take]; omega
      refine ⟨sn_, _, _, rfl, rfl, hsn2, sml (by omega), l2', S2, some (.ref r), some (.ref mda), rfl, ?_, ?_, ?_, ?_, okc, shc, kic.trans ekind', f0c, by omega, ?_⟩
      · refine (kpM.call kc fun z q => ?_).set _ hsn2 rfl (.inl (by rw [eW5]; exact .inr (.inr (.inr rfl))))
        rw [eW5]
        rcases q with q | q | q
        · exact .inl (.inl q)
        · exact .inl (.inr (.inl q))
        · exact hl'.imp (fun e => .inr (.inr (.inl (q.trans e)))) fun e => q ▸ e
      · exact (hPc.kp (Kp.put (W := One sn_) _ hsn2 rfl rfl) (fun q => snp q.symm) (fun q => (ne_of_none hP.cel nsnH) q)).mono (by omega)
      · rcases hlc2 with q | q
        · exact q ▸ hl'
        · exact .inr (kpM.free q)
      · refine hSc.kp (Kp.put (W := One sn_) _ hsn2 rfl rfl) (fun q => snx q.symm) (fun q => ?_)
        rcases hlc2 with e | e
        · exact snl' (q.symm.trans e)
        · exact ne_of_none hsnM e q.symm
      · rw [upd_same, take_at hoi, List.map_append, List.map_append]
        rfl
    · rintro σ H' ⟨l', S', oth, md, rfl, kp, hPi, hl', hSi, okS', shut', ekind', fed0', fed1', hsn⟩
      have elr : (rs.map V.ref).length = os.length := by rw [List.length_map, triL.len]
      rw [elr] at hsn hPi fed1'
      rw [List.take_length] at hsn
      have htwi := kp.keep _ _ htwL (out5 ntwH ntw')
      have hloi := kp.keep _ _ hloL (out5 nloH nlo)
      have hdi := kp.tup _ _ hdL
      have kH : Kp (W3 p x l) H H' := (kHL.mono fun z q => .inl q).call kp fun z q => by
        rw [eW5] at q
        rcases q with q | q | q | q
        · exact .inl (.inl q)
        · exact .inl (.inr (.inl q))
        · exact .inl (.inr (.inr q))
        · exact .inr (q ▸ nsnH)
      have lH : l' = l ∨ H l' = none := hl'.imp id fun q => kHL.free q
      have s1 := sn_one (n := num) (c := let_) ho pl hk
      clear hl' hsnL htwL hloL hdL kHL
      have last : ∀ (H3 : Hp), Kp No H' H3 → Q (.bl true) H3 := fun H3 k3 => kk H3 l' S' (kH.trans k3.no) ((hPi.kp k3 (fun q => q) (fun q => q)).mono (by omega)) lH (hSi.kp k3 (fun q => q) (fun q => q)) okS' shut' ekind' fed0' (by omega)
      refine ⟨_, rfl, sn_, _, rfl, .inl (SqL.of hsn), rfl, flat_bls _, _, rfl, goF (inV_non _) ?_⟩
      have ho2i := kp.seqT ho2L
      have s2 := sn_cross (n := num) (c := let_) ho pl hk
      have s3 := sn_beside (n := num) (c := let_) (k := k) ho pl
      have wi := waysL.kp kp
      clear waysL ho2L triL kp
      have fin : ∀ (z : Bool) (H3 : Hp), Kp No H' H3 → tRet (tOrV (tNotV (tVar 17)) (tOp (rI0 fun i j => .bl (decide (i < j))) (tVar 6) (tC (.int 3)))) { nx := fun _ H' => Q .non H', rt := Q }
          [some (.ref p), some (.ref x), some (.int b), some (.int num), some (ltr let_), some (.ref d), some (.int k), some (.ref sg), some (.ref ql), some (.ref bh), some (.ref tw), some (.ref sm), some (.ref sn_), oth, md, some (.bl false), some (.bl z), some (.bl (sn k num let_ ds o3))] H3 := by
        intro z H3 k3'
        refine ⟨_, rfl, _, rfl, _, rfl, ?_⟩
        cases e3 : sn k num let_ ds o3 with
        | false => exact goT rfl (last H3 k3')
        | true =>
          have lt : decide (k < 3) = true := decide_eq_true (by
            by_cases q : k = 3
            · rw [s3 q] at e3; cases e3
            · omega)
          refine goF rfl ⟨_, rfl, _, _, rfl, rfl, ?_⟩
          show Q (.bl (decide (k < 3))) H3
          rw [lt]
          exact last H3 k3'
      rcases wi with ⟨rfl, rfl⟩ | ⟨ys, q, rfl, hq, hne, hsy, rfl⟩
      case' inl =>
        refine ⟨_, rfl, tw, _, 0, _, rfl, rfl, SqL.of htwi, rfl, rfl, _, rfl, goF rfl (goF rfl ?_)⟩
        have hsE : H' sn_ = some (.lst [.bl (sn k num let_ ds o1), .bl (sn k num let_ ds o2), .bl (sn k num let_ ds o3), .bl (sn k num let_ ds o4), .bl (sn k num let_ ds o5)]) := hsn
        rw [s1] at hsE
      case' inr =>
        refine ⟨_, rfl, tw, _, 0, _, rfl, rfl, SqL.of htwi, rfl, rfl, _, rfl, goT rfl ?_⟩
        refine ⟨_, rfl, sn_, _, 0, _, rfl, rfl, SqL.of hsn, rfl, _, _, rfl, rfl, _, rfl, goF (by show (!decide (sn k num let_ ds ys = true)) = false; rw [hsy]; rfl) ?_⟩
        refine ⟨_, rfl, tw, _, 0, _, rfl, rfl, SqL.of htwi, rfl, _, rfl, _, _, dp_tup (SqT.of hq), dp_tup (SqT.of hdi), shaped_tup _, shaped_tup _, _, rfl, goF (by rw [eqv_tup]; exact decide_eq_false hne) ?_⟩
        have hsE : H' sn_ = some (.lst [.bl (sn k num let_ ds ys), .bl (sn k num let_ ds o1), .bl (sn k num let_ ds o2), .bl (sn k num let_ ds o3), .bl (sn k num let_ ds o4), .bl (sn k num let_ ds o5)]) := hsn
        rw [s1] at hsE
      all_goals
        refine ⟨_, rfl, _, rfl, sn_, _, rfl, .inl (SqL.of hsE), _, _, rfl, rfl, _, rfl, _, rfl, sn_, _, rfl, .inl (SqL.of hsE), _, _, rfl, rfl, _, rfl, sn_, _, rfl, SqL.of hsE, fun u nu => ⟨u, [.bl false, .bl (sn k num let_ ds o2), .bl (sn k num let_ ds o3)], rfl, SqL.of (by rw [upd_same]; rfl), rfl, ?_⟩⟩
        have kU := fun v : HO => (Kp.refl (W := No) H').alloc v nu
        have htwU := fun v : HO => (kU v).keep _ _ htwi fun q => q
        have hloU := fun v : HO => (kU v).keep _ _ hloi fun q => q
        have hdU := fun v : HO => (kU v).tup _ _ hdi
        refine ⟨_, _, rfl, _, _, rfl, _, _, rfl, rfl, _, rfl, _, rfl, goF rfl ?_⟩
        refine ⟨_, rfl, _, rfl, ?_⟩
        cases e2 : sn k num let_ ds o2 with
        | false => exact goF rfl (goF rfl (fin false _ (kU _)))
        | true =>
          refine goT rfl ⟨_, rfl, _, _, rfl, rfl, _, rfl, ?_⟩
          by_cases k1 : 1 < k
          · have eo : o2 = ds := Classical.byContradiction fun q => by
              rw [s2 k1 q] at e2; cases e2
            refine goT (decide_eq_true k1) ?_
            refine ⟨_, rfl, tw, _, 1, _, rfl, rfl, SqL.of (htwU _), rfl, lo, _, 1, _, rfl, rfl, SqL.of (hloU _), rfl, _, rfl, _, _, dp_tup ((kU _).seqT ho2i), dp_tup (SqT.of (hdU _)), shaped_tup _, shaped_tup _, _, rfl, goF (by rw [eqv_tup, eo]; simp) ?_⟩
            exact fin true _ (kU _)
          · exact goF (decide_eq_false k1) (goF rfl (fin true _ (kU _)))
end
end NP
namespace NP
open PySem L2 PySem.Spec PyProof.Rows
section
variable {P : Program} {w : World} {K : PySem.W.Frag} {mg : Str → Option Value} {base : Heap} {C aL aO : Addr} {f : Addr} {fd : FuncData}
/-! ### law -/
def spLaw : Sp := fun vs H Q _ => ∃ (a : Addr) (ns : List Int), vs = [.ref a] ∧ SqL K H a (IL ns) ∧ ∀ H', Q (.bl true) H'
theorem oks0 {k : Int} (h : Kind k) : OkS (sc0 k) := ⟨h, h, fun y hy => (by cases hy), Nat.zero_le _, fun e => (by cases e)⟩
theorem sc_law : FnScope ["_law_script", "_law_pen_here", "_law_by", "_law_scanner", "_law_turn_here"] ["_law_script"] (defScope (top 45)) := ⟨rfl, rfl, rfl, by decide +kernel, rfl, by decide +kernel, by decide +kernel⟩
theorem ok_law (T : Txt K mg C aL aO) (F : FunP K "law" (top 45) f fd) (c_law_pen : Cal P w K mg base 1 "_law_pen" (spPen (K := K))) (c_law_take : Cal P w K mg base 1 "_law_take" spTake) (cScanner : MakK P w K mg base 1 ["kind"] "Scanner" C (spInit C))
    (c_law_turn : CalG P w K mg base 7 "_law_turn" (spTurn C)) : FnG P w K mg base 8 f fd ["_law_script"] (spLaw (K := K)) := by
  refine okG F sc_law (fun vs H Q E h => ?_) (fun cdv A outer s H vs Q E hr hA h => ?_)
  · obtain ⟨a, ns, rfl, _⟩ := h; rfl
  · obtain ⟨a, ns, rfl, hs, kk⟩ := h
    refine ⟨_, PSs.nox (pss_cons (ps_set (i := 1) sc_law.nd rfl (.inl rfl) (pe_cc c_law_pen hr (by decide) rfl (pa_cons (pv 0) pa_nil)))
  (pss_cons (ps_set (i := 2) sc_law.nd rfl (.inl rfl) (pe_op op_add pe_int (pe_cc c_law_take hr (by decide) rfl (pa_cons (pv 1) (pa_cons pe_int pa_nil)))))
  (pss_cons (ps_set (i := 3) sc_law.nd rfl (.inl rfl) (pe_mkk cScanner hr (by decide) rfl (pk_cons (pv 2) pk_nil)))
  (pss_cons (ps_for PassesOwn.never rfl (pi_range1 rfl T.range (pa_cons pe_int pa_nil)) (pg_name (i := 4) sc_law.nd rfl (.inl rfl))
    (pss_one (ps_if (pt_not (pt_val (pe_cg c_law_turn hr hA (by decide) rfl (pa_cons (pv 1) (pa_cons (pv 3) (pa_cons (pv 2) pa_nil))))))
    (pss_one (ps_ret pe_bl))
    pss_nil)))
  (pss_one (ps_ret pe_bl)))))), ?_⟩
    refine ⟨_, rfl, a, ns, rfl, hs, fun H1 p c k1 np nc hP => ?_⟩
    refine ⟨_, rfl, p, c, _, 0, 3, rfl, hP, by omega, by omega, by omega, fun r H2 r0 r1 k2 hP2 => ⟨_, _, rfl, rfl, ?_⟩⟩
    have hb : Kind (1 + r) := by unfold Kind; omega
    refine ⟨_, rfl, rfl, rfl, fun x dx nx ndx ne => ?_⟩
    have hx : upd (upd H2 dx (.own x)) x (.ins C dx []) x = some (.ins C dx []) := upd_same
    have hP3 := (hP2.al (.own x) ndx).al (.ins C dx []) (show upd H2 dx (.own x) x = none by rw [upd_ne ne.symm]; exact nx)
    generalize upd (upd H2 dx (.own x)) x (.ins C dx []) = H3 at *
    have xne := hP3.ins hx
    refine ⟨x, dx, 1 + r, rfl, hx, fun H4 l k4 nl hS => ⟨rfl, ?_⟩⟩
    have hP4 := hP3.kp k4 (fun q => xne.1 q.symm) (fun q => xne.2 q.symm)
    have hlc : l ≠ c := (ne_of_none hP3.cel nl).symm
    refine ⟨4, rfl, by omega, by omega, ?_⟩
    refine for_range (fun i σ H' => ∃ (l' : Addr) (S' : Sc) (t : Option V), σ = [some (.ref a), some (.ref p), some (.int (1 + r)), some (.ref x), t] ∧ PenAt H' p c (ns.take 63) (1 + 4000 * i) ∧ ScAt C H' x l' S' ∧ OkS S' ∧ S'.at_ = none ∧ S'.kind = 1 + r ∧ 0 ≤ S'.fed ∧ S'.fed ≤ 2000 * i ∧ l' ≠ c)
      ⟨l, sc0 (1 + r), none, rfl, hP4.mono (by omega), hS, oks0 hb, rfl, rfl, by show (0 : Int) ≤ 0; omega, by show (0 : Int) ≤ 2000 * ((0 : Nat) : Int); omega, hlc⟩ ?_ ?_
    · rintro i σ H' hi ⟨l', S', t, rfl, hPi, hSi, okS', shut', ekind', fed0', fed1', hlc'⟩
      have hi4 : i < 4 := hi
      refine ⟨_, rfl, _, rfl, _, rfl, p, c, x, l', _, _, 1 + r, S', rfl, hPi, by omega, hSi, okS', shut', ekind', fed0', by omega, hlc', fun H5 l2 S2 k5 hP5 hl2 hS2 ok2 shut2 ekind2 fed02 fed12 => ⟨_, rfl, goF rfl ?_⟩⟩
      refine ⟨l2, S2, some (.int (0 + (i : Int))), rfl, hP5.mono (by omega), hS2, ok2, shut2, ekind2.trans ekind', fed02, by omega, ?_⟩
      rcases hl2 with q | q
      · exact q ▸ hlc'
      · exact (ne_of_none hPi.cel q).symm
    · rintro σ H' ⟨l', S', t, rfl, _⟩
      exact kk _
end
end NP
namespace NP
open PySem L2 PySem.Spec PyProof.Rows
/-! ### the module's facts, by names -/
def faA : List He.Fa := [.int "LEAST_PLAIN" 32, .int "LAST_PLAIN" 126, .int "BASE" 95, .int "MARK" 1, .int "OPENING_MARK" 2, .int "MOST_NUMBER" 63, .int "MOST_SIZE" 94, .int "AROUND" 2, .int "SIZES" 2, .glo "LETTERS", .glo "OPENING", .glo "BY", .glo "Scanner", .free "range", .free "divmod", .free "tuple", .free "reversed", .free "len", .free "sum", .free "abs", .free "int", .free "list", .free "ord", .free "repr", .free "isinstance", .cls "Scanner", .mkr "Scanner", .noat "Scanner" "now_kind", .noat "Scanner" "many_fed", .noat "Scanner" "begun_at"]
def faB : List He.Fa := [.noat "Scanner" "begun_mark", .noat "Scanner" "begun_check", .noat "Scanner" "begun_signs", .glo "is_plain", .glo "written", .glo "number_in", .glo "left_of", .glo "moved", .glo "near", .glo "values_of", .glo "signs_of", .glo "twin_by_sum", .glo "check", .glo "are_apart", .glo "twin", .glo "mark_of", .glo "letter_of", .meth "Scanner" "fed", .meth "Scanner" "begin", .meth "Scanner" "bad", .meth "Scanner" "read", .meth "Scanner" "known", .meth "Scanner" "feed", .glo "_law_pen", .glo "_law_take", .glo "_law_data", .glo "_law_packet", .glo "_law_check", .glo "_law_put", .glo "_law_trash"]
def faC : List He.Fa := [.glo "_law_more", .glo "_law_others", .glo "_law_seen_right", .glo "_law_turn", .glo "law"]
def fa : List He.Fa := faA ++ (faB ++ faC)
def df_is_plain : He.DefD := ⟨("is_plain", none), "is_plain", "is_plain", defArgs (top 5), defBody (top 5), defScope (top 5), [], []⟩
def df_written : He.DefD := ⟨("written", none), "written", "written", defArgs (top 6), defBody (top 6), defScope (top 6), [], []⟩
def df_number_in : He.DefD := ⟨("number_in", none), "number_in", "number_in", defArgs (top 7), defBody (top 7), defScope (top 7), [], []⟩
def df_left_of : He.DefD := ⟨("left_of", none), "left_of", "left_of", defArgs (top 9), defBody (top 9), defScope (top 9), [], []⟩
def df_moved : He.DefD := ⟨("moved", none), "moved", "moved", defArgs (top 10), defBody (top 10), defScope (top 10), [], []⟩
def df_near : He.DefD := ⟨("near", none), "near", "near", defArgs (top 11), defBody (top 11), defScope (top 11), [], []⟩
def df_values_of : He.DefD := ⟨("values_of", none), "values_of", "values_of", defArgs (top 14), defBody (top 14), defScope (top 14), [], []⟩
def df_signs_of : He.DefD := ⟨("signs_of", none), "signs_of", "signs_of", defArgs (top 15), defBody (top 15), defScope (top 15), [], []⟩
def df_twin_by_sum : He.DefD := ⟨("twin_by_sum", none), "twin_by_sum", "twin_by_sum", defArgs (top 18), defBody (top 18), defScope (top 18), [], []⟩
def df_check : He.DefD := ⟨("check", none), "check", "check", defArgs (top 16), defBody (top 16), defScope (top 16), [], []⟩
def df_are_apart : He.DefD := ⟨("are_apart", none), "are_apart", "are_apart", defArgs (top 17), defBody (top 17), defScope (top 17), [], [("kind", .int 1)]⟩
def df_twin : He.DefD := ⟨("twin", none), "twin", "twin", defArgs (top 19), defBody (top 19), defScope (top 19), [], [("kind", .int 1)]⟩
def df_mark_of : He.DefD := ⟨("mark_of", none), "mark_of", "mark_of", defArgs (top 28), defBody (top 28), defScope (top 28), [], []⟩
def df_letter_of : He.DefD := ⟨("letter_of", none), "letter_of", "letter_of", defArgs (top 31), defBody (top 31), defScope (top 31), [], []⟩
def df_Scanner___init__ : He.DefD := ⟨("Scanner", some "__init__"), "__init__", "Scanner.__init__", defArgs (inClass (top 32) 0), defBody (inClass (top 32) 0), defScope (inClass (top 32) 0), [], [("kind", .int 1)]⟩
def df_Scanner_fed : He.DefD := ⟨("Scanner", some "fed"), "fed", "Scanner.fed", defArgs (inClass (top 32) 2), defBody (inClass (top 32) 2), defScope (inClass (top 32) 2), [], []⟩
def df_Scanner_begin : He.DefD := ⟨("Scanner", some "begin"), "begin", "Scanner.begin", defArgs (inClass (top 32) 5), defBody (inClass (top 32) 5), defScope (inClass (top 32) 5), [], []⟩
def df_Scanner_bad : He.DefD := ⟨("Scanner", some "bad"), "bad", "Scanner.bad", defArgs (inClass (top 32) 6), defBody (inClass (top 32) 6), defScope (inClass (top 32) 6), [], []⟩
def df_Scanner_read : He.DefD := ⟨("Scanner", some "read"), "read", "Scanner.read", defArgs (inClass (top 32) 8), defBody (inClass (top 32) 8), defScope (inClass (top 32) 8), [], []⟩
def df_Scanner_known : He.DefD := ⟨("Scanner", some "known"), "known", "Scanner.known", defArgs (inClass (top 32) 7), defBody (inClass (top 32) 7), defScope (inClass (top 32) 7), [], []⟩
def df_Scanner_feed : He.DefD := ⟨("Scanner", some "feed"), "feed", "Scanner.feed", defArgs (inClass (top 32) 4), defBody (inClass (top 32) 4), defScope (inClass (top 32) 4), [], []⟩
def df__law_pen : He.DefD := ⟨("_law_pen", none), "_law_pen", "_law_pen", defArgs (top 34), defBody (top 34), defScope (top 34), [], []⟩
def df__law_take : He.DefD := ⟨("_law_take", none), "_law_take", "_law_take", defArgs (top 35), defBody (top 35), defScope (top 35), [], []⟩
def df__law_data : He.DefD := ⟨("_law_data", none), "_law_data", "_law_data", defArgs (top 36), defBody (top 36), defScope (top 36), [], []⟩
def df__law_packet : He.DefD := ⟨("_law_packet", none), "_law_packet", "_law_packet", defArgs (top 37), defBody (top 37), defScope (top 37), [], []⟩
def df__law_check : He.DefD := ⟨("_law_check", none), "_law_check", "_law_check", defArgs (top 38), defBody (top 38), defScope (top 38), [], []⟩
def df__law_put : He.DefD := ⟨("_law_put", none), "_law_put", "_law_put", defArgs (top 39), defBody (top 39), defScope (top 39), [], []⟩
def df__law_trash : He.DefD := ⟨("_law_trash", none), "_law_trash", "_law_trash", defArgs (top 40), defBody (top 40), defScope (top 40), [], []⟩
def df__law_more : He.DefD := ⟨("_law_more", none), "_law_more", "_law_more", defArgs (top 41), defBody (top 41), defScope (top 41), [], []⟩
def df__law_others : He.DefD := ⟨("_law_others", none), "_law_others", "_law_others", defArgs (top 42), defBody (top 42), defScope (top 42), [], []⟩
def df__law_seen_right : He.DefD := ⟨("_law_seen_right", none), "_law_seen_right", "_law_seen_right", defArgs (top 43), defBody (top 43), defScope (top 43), [], []⟩
def df__law_turn : He.DefD := ⟨("_law_turn", none), "_law_turn", "_law_turn", defArgs (top 44), defBody (top 44), defScope (top 44), [], []⟩
def df_law : He.DefD := ⟨("law", none), "law", "law", defArgs (top 45), defBody (top 45), defScope (top 45), [], []⟩
def fn : List He.DefD := [df_is_plain, df_written, df_number_in, df_left_of, df_moved, df_near, df_values_of, df_signs_of, df_twin_by_sum, df_check, df_are_apart, df_twin, df_mark_of, df_letter_of, df_Scanner___init__, df_Scanner_fed, df_Scanner_begin, df_Scanner_bad, df_Scanner_read, df_Scanner_known, df_Scanner_feed, df__law_pen, df__law_take, df__law_data, df__law_packet, df__law_check, df__law_put, df__law_trash, df__law_more, df__law_others, df__law_seen_right, df__law_turn, df_law]
def strD (cs : List Int) : List He.Dv := cs.map fun c => .str ⟨#[c.toNat]⟩
theorem strD_v (K : PySem.W.Frag) : ∀ cs : List Int, (strD cs).map (He.Dv.v K) = cs.map ltr
  | [] => rfl
  | c :: cs => by show _ :: (strD cs).map (He.Dv.v K) = _; rw [strD_v K cs]; rfl
/-- an entry of ints -/
def entB (e : DictEntry) (k v : Int) : Bool := decide (e.hash = hashInt k) && (match e.key with
  | .int i _ => decide (i = k)
  | _ => false) && (match e.val with
  | .int i _ => decide (i = v)
  | _ => false)
theorem entB_ok {e : DictEntry} {k v : Int} (h : entB e k v = true) : ∃ t u, e = ⟨hashInt k, .int k t, .int v u⟩ := by
  obtain ⟨h1, h3⟩ := He.ba h
  obtain ⟨h1, h2⟩ := He.ba h1
  obtain ⟨a, b, c⟩ := e
  have h1 : a = hashInt k := of_decide_eq_true h1
  subst h1
  cases b with
  | int i t =>
    have h2 : i = k := of_decide_eq_true h2
    subst h2
    cases c with
    | int j u =>
      have h3 : j = v := of_decide_eq_true h3
      subst h3
      exact ⟨t, u, rfl⟩
    | _ => cases h3
  | _ => cases h2
def byB (K : PySem.W.Frag) : Bool := match K.lookup (He.ga K "BY") with
  | some ⟨.type c, none, .dict es _, sl⟩ => decide (c = "dict") && (sl.isEmpty && (match es.toList with
    | [a, b, d] => entB a 1 95 && (entB b 2 9013 && entB d 3 857369)
    | _ => false))
  | _ => false
theorem byB_ok {K : PySem.W.Frag} (h : byB K = true) : ByAt K (He.ga K "BY") := by
  unfold byB at h
  cases q : K.lookup (He.ga K "BY") with
  | none =>
    rw [q] at h
    cases h
  | some ob =>
    obtain ⟨oc, od, dt, sl⟩ := ob
    rw [q] at h
    cases oc with
    | type c =>
      cases od with
      | none =>
        cases dt with
        | dict es n =>
          obtain ⟨h1, h2⟩ := He.ba h
          obtain ⟨h2, h3⟩ := He.ba h2
          have h1 : c = "dict" := of_decide_eq_true h1
          subst h1
          have h2 : sl = #[] := Array.isEmpty_iff.mp h2
          subst h2
          obtain ⟨es⟩ := es
          match es, h3 with
          | [a, b, d], h3 =>
            obtain ⟨e1, e2⟩ := He.ba h3
            obtain ⟨e2, e3⟩ := He.ba e2
            obtain ⟨t1, u1, rfl⟩ := entB_ok e1
            obtain ⟨t2, u2, rfl⟩ := entB_ok e2
            obtain ⟨t3, u3, rfl⟩ := entB_ok e3
            exact ⟨t1, t2, t3, u1, u2, u3, n, q⟩
        | _ => cases h
      | some dd => cases dt <;> cases h
    | _ => cases od <;> (cases dt <;> cases h)
def ex (K : PySem.W.Frag) : Bool := byB K && (He.tupB K "LETTERS" (strD lets) && He.tupB K "OPENING" (strD opens))
/-- keywords behind n written values, all of them given -/
theorem kb_of {K : PySem.W.Frag} {x qual : Str} {params : Arguments} {body : List Stmt} {scope : Scope} {kws : List (Str × V)} {f : Addr} {fd : FuncData} {ps : List Str} (F : FunD K x qual params body scope [] kws f fd) (n : Nat) (ks : List Str)
    (h : ∀ (kV doc pm : Value) (an : Option Addr) (cdv ct : Value) (us ws : List Value), us.length = n → ws.length = ks.length → bindArgs (PySem.W.fnOf x qual params body scope .none kV doc pm an cdv ct) ⟨us, ks.zip ws⟩ = pure (ps.zip (us ++ ws))) : KBn K fd ps n ks (fun us ws => us ++ ws) (fun vs zs => vs ++ zs) := by
  obtain ⟨oc, od, dV, kV, doc, pm, an, cdv, ct, osl, efd, _, _, hD, _⟩ := F.ex
  subst efd
  rcases hD with ⟨_, e⟩ | ⟨e, _⟩
  · subst e
    exact ⟨fun s us ws _ l1 l2 => .of_eq (h kV doc pm an cdv ct us ws l1 l2), fun r1 r2 => r1.append r2⟩
  · exact absurd rfl e
section
variable {P : Program} {w : World} {K : PySem.W.Frag} {mg : Str → Option Value} {base h : Heap}
theorem txt (X : K.In h) (G : h.Ns mainGlobals mg) (c : He.SaysX fa fn [] [] ex w h K) : Txt K mg (He.ga K "Scanner") (He.ga K "LETTERS") (He.ga K "OPENING") := by
  obtain ⟨m1, m2⟩ := He.ba c.more
  obtain ⟨m2, m3⟩ := He.ba m2
  have d := c.t.d
  exact {
    LEAST_PLAIN := He.int_ok X G (d.fact 0 (f := .int "LEAST_PLAIN" 32) rfl)
    LAST_PLAIN := He.int_ok X G (d.fact 1 (f := .int "LAST_PLAIN" 126) rfl)
    BASE := He.int_ok X G (d.fact 2 (f := .int "BASE" 95) rfl)
    MARK := He.int_ok X G (d.fact 3 (f := .int "MARK" 1) rfl)
    OPENING_MARK := He.int_ok X G (d.fact 4 (f := .int "OPENING_MARK" 2) rfl)
    MOST_NUMBER := He.int_ok X G (d.fact 5 (f := .int "MOST_NUMBER" 63) rfl)
    MOST_SIZE := He.int_ok X G (d.fact 6 (f := .int "MOST_SIZE" 94) rfl)
    AROUND := He.int_ok X G (d.fact 7 (f := .int "AROUND" 2) rfl)
    SIZES := He.int_ok X G (d.fact 8 (f := .int "SIZES" 2) rfl)
    gLETTERS := He.glo_ok X G (d.fact 9 (f := .glo "LETTERS") rfl)
    sLETTERS := fun H => strD_v K lets ▸ He.tupB_ok m2 H
    gOPENING := He.glo_ok X G (d.fact 10 (f := .glo "OPENING") rfl)
    sOPENING := fun H => strD_v K opens ▸ He.tupB_ok m3 H
    BY := ⟨_, He.glo_ok X G (d.fact 11 (f := .glo "BY") rfl), byB_ok m1⟩
    range := He.free_ok X G (d.fact 13 (f := .free "range") rfl)
    divmod := He.free_ok X G (d.fact 14 (f := .free "divmod") rfl)
    tuple := He.free_ok X G (d.fact 15 (f := .free "tuple") rfl)
    reversed := He.free_ok X G (d.fact 16 (f := .free "reversed") rfl)
    len := He.free_ok X G (d.fact 17 (f := .free "len") rfl)
    sum := He.free_ok X G (d.fact 18 (f := .free "sum") rfl)
    abs := He.free_ok X G (d.fact 19 (f := .free "abs") rfl)
    int := He.free_ok X G (d.fact 20 (f := .free "int") rfl)
    list := He.free_ok X G (d.fact 21 (f := .free "list") rfl)
    ord := He.free_ok X G (d.fact 22 (f := .free "ord") rfl)
    repr := He.free_ok X G (d.fact 23 (f := .free "repr") rfl)
    isinstance := He.free_ok X G (d.fact 24 (f := .free "isinstance") rfl)
    cl := He.cls_ok (d.fact 25 (f := .cls "Scanner") rfl)
    n1 := He.noat_ok (d.fact 27 (f := .noat "Scanner" "now_kind") rfl)
    n2 := He.noat_ok (d.fact 28 (f := .noat "Scanner" "many_fed") rfl)
    n3 := He.noat_ok (d.fact 29 (f := .noat "Scanner" "begun_at") rfl)
    n4 := He.noat_ok (d.fact 30 (f := .noat "Scanner" "begun_mark") rfl)
    n5 := He.noat_ok (d.fact 31 (f := .noat "Scanner" "begun_check") rfl)
    n6 := He.noat_ok (d.fact 32 (f := .noat "Scanner" "begun_signs") rfl)
  }
theorem all_ok (X : K.In h) (G : h.Ns mainGlobals mg) (c : He.SaysX fa fn [] [] ex w h K) :
    ∃ fd : FuncData, (∀ (s : Shared) (v : Value), BindsTo s fd ⟨[v], []⟩ [("_law_script", v)]) ∧ ∀ base : Heap, K.In base → base.Ns mainGlobals mg → FnG P w K mg base 8 (He.ga K "law") fd ["_law_script"] (spLaw (K := K)) := by
  have T := txt X G c
  have d := c.t.d
  obtain ⟨fd_is_plain, F_is_plain⟩ := d.def_ 0 (d := df_is_plain) rfl
  obtain ⟨fd_written, F_written⟩ := d.def_ 1 (d := df_written) rfl
  obtain ⟨fd_number_in, F_number_in⟩ := d.def_ 2 (d := df_number_in) rfl
  obtain ⟨fd_left_of, F_left_of⟩ := d.def_ 3 (d := df_left_of) rfl
  obtain ⟨fd_moved, F_moved⟩ := d.def_ 4 (d := df_moved) rfl
  obtain ⟨fd_near, F_near⟩ := d.def_ 5 (d := df_near) rfl
  obtain ⟨fd_values_of, F_values_of⟩ := d.def_ 6 (d := df_values_of) rfl
  obtain ⟨fd_signs_of, F_signs_of⟩ := d.def_ 7 (d := df_signs_of) rfl
  obtain ⟨fd_twin_by_sum, F_twin_by_sum⟩ := d.def_ 8 (d := df_twin_by_sum) rfl
  obtain ⟨fd_check, F_check⟩ := d.def_ 9 (d := df_check) rfl
  obtain ⟨fd_are_apart, F_are_apart⟩ := d.def_ 10 (d := df_are_apart) rfl
  obtain ⟨fd_twin, F_twin⟩ := d.def_ 11 (d := df_twin) rfl
  obtain ⟨fd_mark_of, F_mark_of⟩ := d.def_ 12 (d := df_mark_of) rfl
  obtain ⟨fd_letter_of, F_letter_of⟩ := d.def_ 13 (d := df_letter_of) rfl
  obtain ⟨fd_Scanner___init__, F_Scanner___init__⟩ := d.def_ 14 (d := df_Scanner___init__) rfl
  obtain ⟨fd_Scanner_fed, F_Scanner_fed⟩ := d.def_ 15 (d := df_Scanner_fed) rfl
  obtain ⟨fd_Scanner_begin, F_Scanner_begin⟩ := d.def_ 16 (d := df_Scanner_begin) rfl
  obtain ⟨fd_Scanner_bad, F_Scanner_bad⟩ := d.def_ 17 (d := df_Scanner_bad) rfl
  obtain ⟨fd_Scanner_read, F_Scanner_read⟩ := d.def_ 18 (d := df_Scanner_read) rfl
  obtain ⟨fd_Scanner_known, F_Scanner_known⟩ := d.def_ 19 (d := df_Scanner_known) rfl
  obtain ⟨fd_Scanner_feed, F_Scanner_feed⟩ := d.def_ 20 (d := df_Scanner_feed) rfl
  obtain ⟨fd__law_pen, F__law_pen⟩ := d.def_ 21 (d := df__law_pen) rfl
  obtain ⟨fd__law_take, F__law_take⟩ := d.def_ 22 (d := df__law_take) rfl
  obtain ⟨fd__law_data, F__law_data⟩ := d.def_ 23 (d := df__law_data) rfl
  obtain ⟨fd__law_packet, F__law_packet⟩ := d.def_ 24 (d := df__law_packet) rfl
  obtain ⟨fd__law_check, F__law_check⟩ := d.def_ 25 (d := df__law_check) rfl
  obtain ⟨fd__law_put, F__law_put⟩ := d.def_ 26 (d := df__law_put) rfl
  obtain ⟨fd__law_trash, F__law_trash⟩ := d.def_ 27 (d := df__law_trash) rfl
  obtain ⟨fd__law_more, F__law_more⟩ := d.def_ 28 (d := df__law_more) rfl
  obtain ⟨fd__law_others, F__law_others⟩ := d.def_ 29 (d := df__law_others) rfl
  obtain ⟨fd__law_seen_right, F__law_seen_right⟩ := d.def_ 30 (d := df__law_seen_right) rfl
  obtain ⟨fd__law_turn, F__law_turn⟩ := d.def_ 31 (d := df__law_turn) rfl
  obtain ⟨fd_law, F_law⟩ := d.def_ 32 (d := df_law) rfl
  have b_is_plain := FunD.bindsN (ps := ["sign"]) F_is_plain fun _ _ _ _ _ _ us hl => match us, hl with | [_], _ => rfl
  have b_written := FunD.bindsN (ps := ["number", "many"]) F_written fun _ _ _ _ _ _ us hl => match us, hl with | [_, _], _ => rfl
  have b_number_in := FunD.bindsN (ps := ["signs"]) F_number_in fun _ _ _ _ _ _ us hl => match us, hl with | [_], _ => rfl
  have b_left_of := kb_of (ps := ["values", "base", "by"]) F_left_of 1 ["base", "by"] fun _ _ _ _ _ _ us ws hu hw => match us, ws, hu, hw with | [_], [_, _], _, _ => rfl
  have b_moved := kb_of (ps := ["values", "by", "base"]) F_moved 2 ["base"] fun _ _ _ _ _ _ us ws hu hw => match us, ws, hu, hw with | [_, _], [_], _, _ => rfl
  have b_near := kb_of (ps := ["values", "by", "base"]) F_near 2 ["base"] fun _ _ _ _ _ _ us ws hu hw => match us, ws, hu, hw with | [_, _], [_], _, _ => rfl
  have b_values_of := FunD.bindsN (ps := ["signs"]) F_values_of fun _ _ _ _ _ _ us hl => match us, hl with | [_], _ => rfl
  have b_signs_of := FunD.bindsN (ps := ["values"]) F_signs_of fun _ _ _ _ _ _ us hl => match us, hl with | [_], _ => rfl
  have b_twin_by_sum := FunD.bindsN (ps := ["values"]) F_twin_by_sum fun _ _ _ _ _ _ us hl => match us, hl with | [_], _ => rfl
  have b_check := FunD.bindsN (ps := ["signs", "kind"]) F_check fun _ _ _ _ _ _ us hl => match us, hl with | [_, _], _ => rfl
  have b_are_apart := kb_of (ps := ["one", "other", "kind"]) F_are_apart 2 ["kind"] fun _ _ _ _ _ _ us ws hu hw => match us, ws, hu, hw with | [_, _], [_], _, _ => rfl
  have b_twin := kb_of (ps := ["signs", "kind"]) F_twin 1 ["kind"] fun _ _ _ _ _ _ us ws hu hw => match us, ws, hu, hw with | [_], [_], _, _ => rfl
  have b_mark_of := FunD.bindsN (ps := ["letter"]) F_mark_of fun _ _ _ _ _ _ us hl => match us, hl with | [_], _ => rfl
  have b_letter_of := FunD.bindsN (ps := ["sign", "mark"]) F_letter_of fun _ _ _ _ _ _ us hl => match us, hl with | [_, _], _ => rfl
  have b_Scanner___init__ := kb_of (ps := ["self", "kind"]) F_Scanner___init__ 1 ["kind"] fun _ _ _ _ _ _ us ws hu hw => match us, ws, hu, hw with | [_], [_], _, _ => rfl
  have b_Scanner_fed := FunD.bindsN (ps := ["self"]) F_Scanner_fed fun _ _ _ _ _ _ us hl => match us, hl with | [_], _ => rfl
  have b_Scanner_begin := FunD.bindsN (ps := ["self", "mark"]) F_Scanner_begin fun _ _ _ _ _ _ us hl => match us, hl with | [_, _], _ => rfl
  have b_Scanner_bad := FunD.bindsN (ps := ["self"]) F_Scanner_bad fun _ _ _ _ _ _ us hl => match us, hl with | [_], _ => rfl
  have b_Scanner_read := FunD.bindsN (ps := ["self"]) F_Scanner_read fun _ _ _ _ _ _ us hl => match us, hl with | [_], _ => rfl
  have b_Scanner_known := FunD.bindsN (ps := ["self"]) F_Scanner_known fun _ _ _ _ _ _ us hl => match us, hl with | [_], _ => rfl
  have b_Scanner_feed := FunD.bindsN (ps := ["self", "signs"]) F_Scanner_feed fun _ _ _ _ _ _ us hl => match us, hl with | [_, _], _ => rfl
  have b__law_pen := FunD.bindsN (ps := ["_law_script"]) F__law_pen fun _ _ _ _ _ _ us hl => match us, hl with | [_], _ => rfl
  have b__law_take := FunD.bindsN (ps := ["_law_pen_here", "_law_many"]) F__law_take fun _ _ _ _ _ _ us hl => match us, hl with | [_, _], _ => rfl
  have b__law_data := FunD.bindsN (ps := ["_law_pen_here", "_law_most"]) F__law_data fun _ _ _ _ _ _ us hl => match us, hl with | [_, _], _ => rfl
  have b__law_packet := FunD.bindsN (ps := ["_law_pen_here", "_law_by"]) F__law_packet fun _ _ _ _ _ _ us hl => match us, hl with | [_, _], _ => rfl
  have b__law_check := FunD.bindsN (ps := ["_law_row", "_law_by"]) F__law_check fun _ _ _ _ _ _ us hl => match us, hl with | [_, _], _ => rfl
  have b__law_put := FunD.bindsN (ps := ["_law_packet_here", "_law_by"]) F__law_put fun _ _ _ _ _ _ us hl => match us, hl with | [_, _], _ => rfl
  have b__law_trash := FunD.bindsN (ps := ["_law_pen_here", "_law_many"]) F__law_trash fun _ _ _ _ _ _ us hl => match us, hl with | [_, _], _ => rfl
  have b__law_more := FunD.bindsN (ps := ["_law_sign", "_law_by"]) F__law_more fun _ _ _ _ _ _ us hl => match us, hl with | [_, _], _ => rfl
  have b__law_others := FunD.bindsN (ps := ["_law_pen_here", "_law_data_here"]) F__law_others fun _ _ _ _ _ _ us hl => match us, hl with | [_, _], _ => rfl
  have b__law_seen_right := FunD.bindsN (ps := ["_law_pen_here", "_law_scanner", "_law_signs", "_law_made", "_law_size_check", "_law_packets"]) F__law_seen_right fun _ _ _ _ _ _ us hl => match us, hl with | [_, _, _, _, _, _], _ => rfl
  have b__law_turn := FunD.bindsN (ps := ["_law_pen_here", "_law_scanner", "_law_by"]) F__law_turn fun _ _ _ _ _ _ us hl => match us, hl with | [_, _, _], _ => rfl
  have b_law := FunD.bindsA (ps := ["_law_script"]) F_law fun _ _ _ _ _ _ us hl => match us, hl with | [_], _ => rfl
  refine ⟨fd_law, fun s v => b_law s [v] rfl, fun base _ _ => ?_⟩
  have c_is_plain : Cal P w K mg base 1 "is_plain" spIsPlain := ⟨_, _, _, ok_is_plain T F_is_plain, He.glo_ok X G (d.fact 33 (f := .glo "is_plain") rfl), F_is_plain.kp, b_is_plain⟩
  have c_written : Cal P w K mg base 1 "written" spWritten := ⟨_, _, _, ok_written T F_written, He.glo_ok X G (d.fact 34 (f := .glo "written") rfl), F_written.kp, b_written⟩
  have c_number_in : Cal P w K mg base 1 "number_in" (spNumberIn (K := K)) := ⟨_, _, _, ok_number_in T F_number_in, He.glo_ok X G (d.fact 35 (f := .glo "number_in") rfl), F_number_in.kp, b_number_in⟩
  have c_left_of : CalK P w K mg base 1 1 ["base", "by"] "left_of" (spLeftOf (K := K)) := ⟨_, _, _, _, ok_left_of T F_left_of, He.glo_ok X G (d.fact 36 (f := .glo "left_of") rfl), F_left_of.kp, b_left_of⟩
  have c_moved : CalK P w K mg base 1 2 ["base"] "moved" (spMoved (K := K)) := ⟨_, _, _, _, ok_moved T F_moved, He.glo_ok X G (d.fact 37 (f := .glo "moved") rfl), F_moved.kp, b_moved⟩
  have c_near : CalK P w K mg base 2 2 ["base"] "near" (spNear (K := K)) := ⟨_, _, _, _, ok_near T F_near c_moved, He.glo_ok X G (d.fact 38 (f := .glo "near") rfl), F_near.kp, b_near⟩
  have c_values_of : Cal P w K mg base 1 "values_of" (spValuesOf (K := K)) := ⟨_, _, _, ok_values_of T F_values_of, He.glo_ok X G (d.fact 39 (f := .glo "values_of") rfl), F_values_of.kp, b_values_of⟩
  have c_signs_of : Cal P w K mg base 1 "signs_of" (spSignsOf (K := K)) := ⟨_, _, _, ok_signs_of T F_signs_of, He.glo_ok X G (d.fact 40 (f := .glo "signs_of") rfl), F_signs_of.kp, b_signs_of⟩
  have c_twin_by_sum : Cal P w K mg base 1 "twin_by_sum" (spTwinBySum (K := K)) := ⟨_, _, _, ok_twin_by_sum T F_twin_by_sum, He.glo_ok X G (d.fact 41 (f := .glo "twin_by_sum") rfl), F_twin_by_sum.kp, b_twin_by_sum⟩
  have c_check : Cal P w K mg base 2 "check" (spCheck (K := K)) := ⟨_, _, _, ok_check T F_check c_values_of c_written c_left_of, He.glo_ok X G (d.fact 42 (f := .glo "check") rfl), F_check.kp, b_check⟩
  have c_are_apart : CalK P w K mg base 3 2 ["kind"] "are_apart" (spAreApart (K := K)) := ⟨_, _, _, _, ok_are_apart T F_are_apart c_check, He.glo_ok X G (d.fact 43 (f := .glo "are_apart") rfl), F_are_apart.kp, b_are_apart⟩
  have c_twin : CalK P w K mg base 3 1 ["kind"] "twin" (spTwin (K := K)) := ⟨_, _, _, _, ok_twin T F_twin c_values_of c_twin_by_sum c_signs_of c_near, He.glo_ok X G (d.fact 44 (f := .glo "twin") rfl), F_twin.kp, b_twin⟩
  have c_mark_of : Cal P w K mg base 1 "mark_of" spMarkOf := ⟨_, _, _, ok_mark_of T F_mark_of, He.glo_ok X G (d.fact 45 (f := .glo "mark_of") rfl), F_mark_of.kp, b_mark_of⟩
  have c_letter_of : Cal P w K mg base 2 "letter_of" spLetterOf := ⟨_, _, _, ok_letter_of T F_letter_of c_mark_of, He.glo_ok X G (d.fact 46 (f := .glo "letter_of") rfl), F_letter_of.kp, b_letter_of⟩
  have c_Scanner___init__ : MakK P w K mg base 1 ["kind"] "Scanner" (He.ga K "Scanner") (spInit (He.ga K "Scanner")) := ⟨_, _, _, _, He.mkr_ok (d.fact 26 (f := .mkr "Scanner") rfl), ok_init T F_Scanner___init__, He.glo_ok X G (d.fact 12 (f := .glo "Scanner") rfl), b_Scanner___init__⟩
  have c_Scanner_fed : Met P w K mg base 1 (He.ga K "Scanner") "fed" (spFed (He.ga K "Scanner")) := ⟨_, _, _, T.cl, He.meth_ok (d.fact 47 (f := .meth "Scanner" "fed") rfl), ok_fed T F_Scanner_fed, b_Scanner_fed⟩
  have c_Scanner_begin : Met P w K mg base 1 (He.ga K "Scanner") "begin" (spBegin (He.ga K "Scanner")) := ⟨_, _, _, T.cl, He.meth_ok (d.fact 48 (f := .meth "Scanner" "begin") rfl), ok_begin T F_Scanner_begin, b_Scanner_begin⟩
  have c_Scanner_bad : Met P w K mg base 1 (He.ga K "Scanner") "bad" (spBad (He.ga K "Scanner")) := ⟨_, _, _, T.cl, He.meth_ok (d.fact 49 (f := .meth "Scanner" "bad") rfl), ok_bad T F_Scanner_bad, b_Scanner_bad⟩
  have c_Scanner_read : Met P w K mg base 3 (He.ga K "Scanner") "read" (spRead (He.ga K "Scanner")) := ⟨_, _, _, T.cl, He.meth_ok (d.fact 50 (f := .meth "Scanner" "read") rfl), ok_read T F_Scanner_read c_number_in c_letter_of c_check, b_Scanner_read⟩
  have c_Scanner_known : Met P w K mg base 4 (He.ga K "Scanner") "known" (spKnown (K := K) (He.ga K "Scanner")) := ⟨_, _, _, T.cl, He.meth_ok (d.fact 51 (f := .meth "Scanner" "known") rfl), ok_known T F_Scanner_known c_number_in c_Scanner_bad c_Scanner_read, b_Scanner_known⟩
  have c_Scanner_feed : Met P w K mg base 5 (He.ga K "Scanner") "feed" (spFeed (K := K) (He.ga K "Scanner")) := ⟨_, _, _, T.cl, He.meth_ok (d.fact 52 (f := .meth "Scanner" "feed") rfl), ok_feed T F_Scanner_feed c_is_plain c_Scanner_bad c_Scanner_begin c_Scanner_known, b_Scanner_feed⟩
  have c__law_pen : Cal P w K mg base 1 "_law_pen" (spPen (K := K)) := ⟨_, _, _, ok_pen T F__law_pen, He.glo_ok X G (d.fact 53 (f := .glo "_law_pen") rfl), F__law_pen.kp, b__law_pen⟩
  have c__law_take : Cal P w K mg base 1 "_law_take" spTake := ⟨_, _, _, ok_take T F__law_take, He.glo_ok X G (d.fact 54 (f := .glo "_law_take") rfl), F__law_take.kp, b__law_take⟩
  have c__law_data : Cal P w K mg base 2 "_law_data" spData := ⟨_, _, _, ok_data T F__law_data c__law_take, He.glo_ok X G (d.fact 55 (f := .glo "_law_data") rfl), F__law_data.kp, b__law_data⟩
  have c__law_packet : Cal P w K mg base 3 "_law_packet" spPacket := ⟨_, _, _, ok_packet T F__law_packet c__law_take c__law_data, He.glo_ok X G (d.fact 56 (f := .glo "_law_packet") rfl), F__law_packet.kp, b__law_packet⟩
  have c__law_check : Cal P w K mg base 1 "_law_check" (spLCheck (K := K)) := ⟨_, _, _, ok_lcheck T F__law_check, He.glo_ok X G (d.fact 57 (f := .glo "_law_check") rfl), F__law_check.kp, b__law_check⟩
  have c__law_put : Cal P w K mg base 2 "_law_put" spPut := ⟨_, _, _, ok_put T F__law_put c__law_check, He.glo_ok X G (d.fact 58 (f := .glo "_law_put") rfl), F__law_put.kp, b__law_put⟩
  have c__law_trash : Cal P w K mg base 2 "_law_trash" spTrash := ⟨_, _, _, ok_trash T F__law_trash c__law_take, He.glo_ok X G (d.fact 59 (f := .glo "_law_trash") rfl), F__law_trash.kp, b__law_trash⟩
  have c__law_more : Cal P w K mg base 1 "_law_more" spMore := ⟨_, _, _, ok_more T F__law_more, He.glo_ok X G (d.fact 60 (f := .glo "_law_more") rfl), F__law_more.kp, b__law_more⟩
  have c__law_others : Cal P w K mg base 2 "_law_others" (spOthers (K := K)) := ⟨_, _, _, ok_others T F__law_others c__law_take c__law_more, He.glo_ok X G (d.fact 61 (f := .glo "_law_others") rfl), F__law_others.kp, b__law_others⟩
  have c__law_seen_right : CalG P w K mg base 6 "_law_seen_right" (spSeen (K := K) (He.ga K "Scanner")) := ⟨_, _, _, ok_seen T F__law_seen_right c__law_take c__law_trash c__law_check c_are_apart c_Scanner_fed c_Scanner_feed, He.glo_ok X G (d.fact 62 (f := .glo "_law_seen_right") rfl), F__law_seen_right.kp, b__law_seen_right⟩
  have c__law_turn : CalG P w K mg base 7 "_law_turn" (spTurn (He.ga K "Scanner")) := ⟨_, _, _, ok_turn T F__law_turn c__law_packet c__law_take c__law_put c__law_others c_twin c__law_seen_right, He.glo_ok X G (d.fact 63 (f := .glo "_law_turn") rfl), F__law_turn.kp, b__law_turn⟩
  exact ok_law T F_law c__law_pen c__law_take c_Scanner___init__ c__law_turn
end
def lawFact : Nat := 64
end NP
namespace NP
open PySem L2 PySem.Spec PyProof.Rows
abbrev R : PySem.W.OpenRow := PySem.W.OpenLaw.row PySem.Challenge.rw_numberedpackets_k89_whole_what_a_check_c
abbrev hk : PySem.W.Hook := He.hookX 5 fa fn [] [] ex
def ob (s : PySem.W.SharedT) : He.AlX := He.obsX 5 fa fn [] [] ex (HandSHeadRun.getT s)
theorem ob_eq (s : PySem.W.SharedT) : ob s = hk.obs s.abs := He.obsX_eq (HandSHeadRun.getT_eq s)
def looseA : List PySem.Str := ["_wall", "LEAST_PLAIN", "LAST_PLAIN", "BASE", "is_plain", "written", "number_in", "left_of", "moved", "near", "BY", "values_of", "signs_of", "check", "are_apart", "twin_by_sum", "twin", "LETTERS", "OPENING", "MARK"]
def looseB : List PySem.Str := ["OPENING_MARK", "MOST_NUMBER", "MOST_SIZE", "AROUND", "mark_of", "SIZES", "letter_of", "Scanner", "_law_pen", "_law_take", "_law_data", "_law_packet", "_law_check", "_law_put", "_law_trash", "_law_more", "_law_others", "_law_seen_right", "_law_turn"]
def loose : List PySem.Str := looseA ++ looseB
theorem run_by (b : Bool) (w : World) : HandSHeadRun.RunEq R (PySem.W.view R.prog [45]) hk ob 2500 loose (w.withFollow "special-get-raises" b) := by
  intro os
  cases b with
  | false => kernel_rfl
  | true => kernel_rfl
theorem run (w : World) : HandSHeadRun.RunEq R (PySem.W.view R.prog [45]) hk ob 2500 loose w := PySem.W.byRow2 "special-get-raises" (P := fun w => HandSHeadRun.RunEq R (PySem.W.view R.prog [45]) hk ob 2500 loose w) (run_by false) (run_by true) w
end NP
open PySem PySem.Calls PySem.W PyProof.Rows
theorem PySem.Challenge.cw_numberedpackets_k89_whole_what_a_check_c_holds : PySem.Challenge.rw_numberedpackets_k89_whole_what_a_check_c.Holds := by
  w_on; o_law
  refine HandSHeadRun.head_any (r := NP.R) (q := view NP.R.prog [45]) (H := NP.hk) (ob := NP.ob) (M := 2500) (loose := NP.loose) (d := HandSHeadRun.topDef NP.R.prog 45) (kwd := []) NP.ob_eq
    (by kernel_rfl) (fun z => by kernel_rfl) NP.run (by kernel_rfl) (by kernel_rfl) (by kernel_rfl) (by rfl) (by first | assumption | decide +kernel) (by decide +kernel) ⟨rfl, rfl, rfl, rfl, rfl, by decide +kernel⟩ ?witness ?calls
  case witness => w_witness2
  case calls =>
    refine NP.walk_ofG (l := PySem.Challenge.rw_numberedpackets_k89_whole_what_a_check_c) (n := 63) (k := 8) (x := "_law_script") rfl (by decide) (by kernel_rfl) ⟨rfl, by decide, by decide⟩ ?_
    intro world names lawAt heap Y names_ok at_law
    obtain ⟨K, inK, says⟩ := Y
    have named : names ("law" : PySem.Str) = some (.ref lawAt) := by
      have e : (HandSHeadRun.topDef NP.R.prog 45).name = ("law" : PySem.Str) := by kernel_rfl
      rw [← e]
      exact at_law
    obtain ⟨fd, bind, all⟩ := NP.all_ok (P := PySem.Challenge.rw_numberedpackets_k89_whole_what_a_check_c.prog) (w := world) inK names_ok says
    have place := named.symm.trans (He.glo_ok inK names_ok (says.t.d.fact NP.lawFact (f := .glo "law") rfl))
    cases place
    exact ⟨K, fd, NP.spLaw (K := K), inK, bind, fun H a ns few _ is => ⟨a, ns, rfl, is, fun _ => rfl⟩, all⟩
