import PyProof.Rows.All
import Wide.All
import OpenK.AllK
import Wide.FinOn
import HandS.GenList
import HandS.ForMost
import HandS.Codes
import HandS.IsInst
import HandS.Property
import HandS.DictComp
import HandS.Star
import HandS.Style
import HandS.Walk
import HandS.Wide
import HandS.Flow
import PySem.Challenge.RW_turnbalance_k19_whole_great_products
import KE.GoesNew
import HandS.SortKw
import KE.DataMinMax
import HandS.Dict
import HandS.HeadHook1
import HandS.HeadHook2
import HandS.Ends
import Lean
import KE.KStateDown
import HandS.Head0
import HandS.Head1
import HandS.Head2
import HandS.HeadEnd
set_option Elab.async false
set_option linter.all false
namespace TB
/-! the plain mathematics: lengths, places -/
def pl : List (List Nat) → Nat
  | [] => 1
  | f :: r => f.length * pl r
theorem pl_app (xs ys : List (List Nat)) : pl (xs ++ ys) = pl xs * pl ys := by
  induction xs with
  | nil => simp [pl]
  | cons f r ih => simp [pl, ih, Nat.mul_assoc]
theorem pl_rev (xs : List (List Nat)) : pl xs.reverse = pl xs := by
  induction xs with
  | nil => rfl
  | cons f r ih => simp [pl_app, pl, ih, Nat.mul_comm]
theorem pl_pos {xs : List (List Nat)} (h : ∀ f ∈ xs, 0 < f.length) : 0 < pl xs := by
  induction xs with
  | nil => decide
  | cons f r ih =>
    exact Nat.mul_pos (h f List.mem_cons_self) (ih fun g hg => h g (List.mem_cons_of_mem _ hg))
theorem pl_le {xs : List (List Nat)} {m : Nat} (h : ∀ f ∈ xs, f.length ≤ m) : pl xs ≤ m ^ xs.length := by
  induction xs with
  | nil => exact Nat.le_refl _
  | cons f r ih =>
    rw [List.length_cons, Nat.pow_succ, Nat.mul_comm]
    exact Nat.mul_le_mul (h f List.mem_cons_self) (ih fun g hg => h g (List.mem_cons_of_mem _ hg))
/-- the number at a place; the factors from the last one -/
def num : List (List Nat) → Nat → Nat
  | [], _ => 0
  | f :: r, p => f.getD (p % f.length) 0 + num r (p / f.length)
theorem num_app (xs ys : List (List Nat)) (p : Nat) : num (xs ++ ys) p = num xs p + num ys (p / pl xs) := by
  induction xs generalizing p with
  | nil => simp [num, pl]
  | cons f r ih => simp [num, pl, ih, Nat.add_assoc, Nat.div_div_eq_div_mul]
theorem num_mod (xs : List (List Nat)) (p : Nat) : num xs (p % pl xs) = num xs p := by
  induction xs generalizing p with
  | nil => rfl
  | cons f r ih =>
    simp only [num, pl]
    rw [Nat.mod_mul_right_mod, Nat.mod_mul_right_div_self, ih]
/-- the player at a place of a product -/
def at' (n : Nat) (fs : List (List Nat)) (p : Nat) : Nat := num fs.reverse p % n
theorem at_lt {n : Nat} (hn : 0 < n) (fs : List (List Nat)) (p : Nat) : at' n fs p < n := Nat.mod_lt _ hn
theorem at_split (n : Nat) (f : List Nat) (r : List (List Nat)) (p : Nat) : at' n (f :: r) p = (at' n [f] (p / pl r) + at' n r (p % pl r)) % n := by
  unfold at'
  rw [List.reverse_cons, num_app, pl_rev, ← num_mod r.reverse p, pl_rev]
  simp only [List.reverse_cons, List.reverse_nil, List.nil_append]
  rw [← Nat.add_mod, Nat.add_comm]
/-- the product of two -/
def pr (n : Nat) (f g : List Nat) : List Nat := f.flatMap fun a => g.map fun x => (x + a) % n
theorem pr_len (n : Nat) (f g : List Nat) : (pr n f g).length = f.length * g.length := by
  unfold pr
  induction f with
  | nil => simp
  | cons a r ih =>
    rw [List.flatMap_cons, List.length_append, List.length_map, ih, List.length_cons, Nat.add_mul, Nat.one_mul, Nat.add_comm]
theorem pr_lt {n : Nat} (hn : 0 < n) (f g : List Nat) : ∀ x ∈ pr n f g, x < n := by
  intro x hx
  unfold pr at hx
  obtain ⟨a, _, h⟩ := List.mem_flatMap.mp hx
  obtain ⟨y, _, e⟩ := List.mem_map.mp h
  rw [← e]
  exact Nat.mod_lt _ hn
theorem pr_get (n : Nat) (f g : List Nat) (k : Nat) (hk : k < f.length * g.length) : (pr n f g).getD k 0 = (g.getD (k % g.length) 0 + f.getD (k / g.length) 0) % n := by
  have hg : 0 < g.length := by
    rcases Nat.eq_zero_or_pos g.length with h | h
    · rw [h] at hk; simp at hk
    · exact h
  induction f generalizing k with
  | nil => simp at hk
  | cons a r ih =>
    have e : pr n (a :: r) g = (g.map fun x => (x + a) % n) ++ pr n r g := rfl
    rw [e]
    by_cases h : k < g.length
    · rw [List.getD_eq_getElem?_getD, List.getElem?_append_left (by simpa using h)]
      rw [Nat.mod_eq_of_lt h, Nat.div_eq_of_lt h]
      simp [List.getElem?_map, List.getElem?_eq_getElem h]
    · have hge : g.length ≤ k := Nat.le_of_not_lt h
      rw [List.getD_eq_getElem?_getD, List.getElem?_append_right (by simpa using hge), ← List.getD_eq_getElem?_getD, List.length_map]
      have hk2 : k - g.length < r.length * g.length := by
        rw [List.length_cons, Nat.add_mul, Nat.one_mul] at hk
        omega
      rw [ih _ hk2]
      have e1 : k % g.length = (k - g.length) % g.length := Nat.mod_eq_sub_mod hge
      have e2 : k / g.length = (k - g.length) / g.length + 1 := by
        rw [Nat.div_eq k g.length, if_pos ⟨hg, hge⟩]
      rw [e1, e2, List.getD_cons_succ]
theorem at_group (n : Nat) (f g : List Nat) (r : List (List Nat)) (p : Nat) (hf : 0 < f.length) (hg : 0 < g.length) : at' n (pr n f g :: r) p = at' n (f :: g :: r) p := by
  unfold at'
  simp only [List.reverse_cons, List.append_assoc]
  rw [num_app, num_app]
  generalize p / pl r.reverse = q
  have h : num [pr n f g] q % n = num ([g] ++ [f]) q % n := by
    simp only [num, List.cons_append, List.nil_append, Nat.add_zero]
    rw [pr_get, pr_len, Nat.mod_mod]
    · rw [Nat.mul_comm f.length g.length, Nat.mod_mul_right_mod, Nat.mod_mul_right_div_self]
    · rw [pr_len]
      exact Nat.mod_lt _ (Nat.mul_pos hf hg)
  rw [Nat.add_mod, h, ← Nat.add_mod]
end TB

namespace TB
/-! the plain mathematics: numbers of choices, moments -/
def ch : Nat → Nat → Nat
  | _, 0 => 1
  | 0, _ + 1 => 0
  | n + 1, k + 1 => ch n k + ch n (k + 1)
theorem ch_zero (n : Nat) : ch n 0 = 1 := by cases n <;> rfl
theorem ch_step (n : Nat) : ∀ k : Nat, (ch n k : Int) * ((n : Int) - k) = (ch n (k + 1) : Int) * ((k : Int) + 1) := by
  induction n with
  | zero =>
    intro k
    cases k with
    | zero => simp [ch]
    | succ k => simp [ch]
  | succ n ih =>
    intro k
    cases k with
    | zero =>
      have h := ih 0
      simp only [ch_zero, ch] at h ⊢
      push_cast at h ⊢
      omega
    | succ k =>
      have h1 := ih k
      have h2 := ih (k + 1)
      simp only [ch]
      push_cast at h1 h2 ⊢
      grind
theorem ch_div (n k : Nat) : ((ch n k : Int) * ((n : Int) - k)) / ((k : Int) + 1) = (ch n (k + 1) : Int) := by
  rw [ch_step]
  exact Int.mul_ediv_cancel _ (by omega)
theorem ch_le (n k : Nat) : ch n k ≤ 2 ^ n := by
  induction n generalizing k with
  | zero => cases k <;> simp [ch]
  | succ n ih =>
    cases k with
    | zero => rw [ch_zero]; exact Nat.one_le_two_pow
    | succ k =>
      simp only [ch]
      have h1 := ih k
      have h2 := ih (k + 1)
      rw [Nat.pow_succ]
      omega
/-- the sum of c i * f i -/
def dot : List Int → (Nat → Int) → Int
  | [], _ => 0
  | x :: r, f => x * f 0 + dot r fun i => f (i + 1)
theorem dot_congr (c : List Int) : ∀ {f g : Nat → Int}, (∀ i, i < c.length → f i = g i) → dot c f = dot c g := by
  induction c with
  | nil => intros; rfl
  | cons x r ih =>
    intro f g h
    simp only [dot]
    rw [h 0 (by simp), ih (fun i hi => h (i + 1) (by simpa using hi))]
theorem dot_add (c : List Int) (f g : Nat → Int) : dot c (fun i => f i + g i) = dot c f + dot c g := by
  induction c generalizing f g with
  | nil => rfl
  | cons x r ih =>
    simp only [dot]
    rw [ih]
    grind
theorem dot_smul (c : List Int) (k : Int) (f : Nat → Int) : dot c (fun i => k * f i) = k * dot c f := by
  induction c generalizing f with
  | nil => simp [dot]
  | cons x r ih =>
    simp only [dot]
    rw [ih]
    grind
theorem dot_one (c : List Int) : dot c (fun _ => 1) = c.sum := by
  induction c with
  | nil => rfl
  | cons x r ih => simp [dot, ih]
/-- the moment of degree d -/
def mo (c : List Int) (d : Nat) : Int := dot c fun i => (ch i d : Int)
theorem mo_zero (c : List Int) : mo c 0 = c.sum := by
  unfold mo
  rw [← dot_one]
  exact dot_congr c fun i _ => by rw [ch_zero]; rfl
/-- the running sums -/
def psum : Int → List Int → List Int
  | _, [] => []
  | a, x :: r => (a + x) :: psum (a + x) r
theorem psum_len (a : Int) (c : List Int) : (psum a c).length = c.length := by
  induction c generalizing a with
  | nil => rfl
  | cons x r ih => simp [psum, ih]
def quo (c : List Int) : List Int := psum 0 c.dropLast
theorem quo_len (c : List Int) : (quo c).length = c.length - 1 := by
  unfold quo
  rw [psum_len, List.length_dropLast]
theorem abel (c : List Int) : ∀ (a : Int) (F : Nat → Int), c ≠ [] → dot (psum a c.dropLast) (fun i => F (i + 1) - F i) + dot c F = (a + c.sum) * F (c.length - 1) - a * F 0 := by
  induction c with
  | nil => intro a F h; exact absurd rfl h
  | cons x r ih =>
    intro a F _
    cases r with
    | nil =>
      simp only [List.dropLast_singleton, psum, dot, List.sum_cons, List.sum_nil, List.length_singleton]
      grind
    | cons y r =>
      have h := ih (a + x) (fun i => F (i + 1)) (List.cons_ne_nil _ _)
      have e1 : (x :: y :: r).dropLast = x :: (y :: r).dropLast := rfl
      rw [e1]
      simp only [psum, List.length_cons, Nat.add_sub_cancel, List.sum_cons] at h ⊢
      rw [show dot ((a + x) :: psum (a + x) (y :: r).dropLast) (fun i => F (i + 1) - F i) = (a + x) * (F 1 - F 0) + dot (psum (a + x) (y :: r).dropLast) (fun i => F (i + 1 + 1) - F (i + 1)) from rfl]
      rw [show dot (x :: y :: r) F = x * F 0 + dot (y :: r) (fun i => F (i + 1)) from rfl]
      generalize dot (psum (a + x) (y :: r).dropLast) (fun i => F (i + 1 + 1) - F (i + 1)) = A at h ⊢
      generalize dot (y :: r) (fun i => F (i + 1)) = B at h ⊢
      grind
theorem mo_quo {c : List Int} (hc : c ≠ []) (h0 : c.sum = 0) (d : Nat) : mo (quo c) d = - mo c (d + 1) := by
  have h := abel c 0 (fun i => (ch i (d + 1) : Int)) hc
  have e : dot (psum 0 c.dropLast) (fun i => ((ch (i + 1) (d + 1) : Nat) : Int) - (ch i (d + 1) : Int)) = mo (quo c) d := by
    unfold mo quo
    refine dot_congr _ fun i _ => ?_
    show ((ch i d + ch i (d + 1) : Nat) : Int) - (ch i (d + 1) : Int) = (ch i d : Int)
    push_cast
    omega
  rw [e, h0] at h
  have e2 : dot c (fun i => (ch i (d + 1) : Int)) = mo c (d + 1) := rfl
  rw [e2] at h
  simp only [Int.zero_add, Int.zero_mul, Int.sub_zero] at h
  omega
/-- some entry is not 0 -/
def nz (c : List Int) : Prop := ∃ x ∈ c, x ≠ 0
theorem psum_zero (c : List Int) : (∀ x ∈ psum 0 c, x = 0) → ∀ x ∈ c, x = 0 := by
  induction c with
  | nil => intro _ x hx; cases hx
  | cons y r ih =>
    intro h x hx
    have hy : (0 : Int) + y = 0 := h _ List.mem_cons_self
    have h2 : ∀ z ∈ psum 0 r, z = 0 := fun z hz => h z (List.mem_cons_of_mem _ (by rw [hy]; exact hz))
    rcases List.mem_cons.mp hx with e | e
    · omega
    · exact ih h2 x e
theorem quo_nz {c : List Int} (h0 : c.sum = 0) (h : nz c) : nz (quo c) := by
  refine Classical.byContradiction fun hn => ?_
  have hq : ∀ x ∈ quo c, x = 0 := fun x hx => Classical.byContradiction fun e => hn ⟨x, hx, e⟩
  have hd := psum_zero _ hq
  obtain ⟨x, hx, hx0⟩ := h
  have hne : c ≠ [] := List.ne_nil_of_mem hx
  have ec := List.dropLast_concat_getLast hne
  have hs : ∀ l : List Int, (∀ x ∈ l, x = 0) → l.sum = 0 := by
    intro l
    induction l with
    | nil => intro _; rfl
    | cons y r ih =>
      intro h
      rw [List.sum_cons, h y List.mem_cons_self, ih fun z hz => h z (List.mem_cons_of_mem _ hz)]
      rfl
  have hl : c.getLast hne = 0 := by
    have : (c.dropLast ++ [c.getLast hne]).sum = 0 := by rw [ec]; exact h0
    rw [List.sum_append, hs _ hd] at this
    simpa using this
  rw [← ec] at hx
  rcases List.mem_append.mp hx with e | e
  · exact hx0 (hd x e)
  · rw [List.mem_singleton] at e
    exact hx0 (by rw [e, hl])
/-- a list whose moments are 0 is 0 -/
theorem zero_of_mo : ∀ (n : Nat) (c : List Int), c.length = n → (∀ d, d < n → mo c d = 0) → ¬ nz c := by
  intro n
  induction n with
  | zero =>
    rintro c hl _ ⟨x, hx, _⟩
    rw [List.length_eq_zero_iff.mp hl] at hx
    cases hx
  | succ n ih =>
    intro c hl h hn
    have hne : c ≠ [] := fun e => by rw [e] at hl; cases hl
    have h0 : c.sum = 0 := by rw [← mo_zero]; exact h 0 (by omega)
    refine ih (quo c) (by rw [quo_len]; omega) (fun d hd => ?_) (quo_nz h0 hn)
    rw [mo_quo hne h0, h (d + 1) (by omega)]
    rfl
/-- the multiplicity -/
def Mul (c : List Int) (k : Nat) : Prop := (∀ d, d < k → mo c d = 0) ∧ mo c k ≠ 0
theorem Mul.uniq {c : List Int} {j k : Nat} (a : Mul c j) (b : Mul c k) : j = k := by
  rcases Nat.lt_trichotomy j k with h | h | h
  · exact absurd (b.1 j h) a.2
  · exact h
  · exact absurd (a.1 k h) b.2
theorem mo_of_not_nz {c : List Int} (h : ¬ nz c) (f : Nat → Int) : dot c f = 0 := by
  induction c generalizing f with
  | nil => rfl
  | cons x r ih =>
    have hx : x = 0 := Classical.byContradiction fun e => h ⟨x, List.mem_cons_self, e⟩
    have hr : ¬ nz r := fun ⟨y, hy, e⟩ => h ⟨y, List.mem_cons_of_mem _ hy, e⟩
    simp only [dot]
    rw [ih hr, hx]
    simp
/-! powers and numbers of choices -/
def pb (c : List Int) (a d : Nat) : Int := dot c fun i => (i : Int) ^ a * (ch i d : Int)
theorem pb_step (c : List Int) (a d : Nat) : pb c (a + 1) d = ((d : Int) + 1) * pb c a (d + 1) + (d : Int) * pb c a d := by
  unfold pb
  rw [← dot_smul, ← dot_smul, ← dot_add]
  refine dot_congr c fun i _ => ?_
  have h := ch_step i d
  rw [Int.pow_succ]
  generalize (i : Int) ^ a = A
  generalize (ch i d : Int) = B at h ⊢
  generalize (ch i (d + 1) : Int) = C at h ⊢
  grind
theorem pb_of_mo {c : List Int} {k : Nat} (h : ∀ d, d < k → mo c d = 0) : ∀ a d, a + d < k → pb c a d = 0 := by
  intro a
  induction a with
  | zero =>
    intro d hd
    have e : pb c 0 d = mo c d := by
      unfold pb mo
      exact dot_congr c fun i _ => by rw [Int.pow_zero, Int.one_mul]
    rw [e]
    exact h d (by omega)
  | succ a ih =>
    intro d hd
    rw [pb_step, ih (d + 1) (by omega), ih d (by omega)]
    simp
theorem mo_of_pb {c : List Int} {k : Nat} (h : ∀ a, a < k → dot c (fun i => (i : Int) ^ a) = 0) : ∀ d a, a + d < k → pb c a d = 0 := by
  intro d
  induction d with
  | zero =>
    intro a ha
    have e : pb c a 0 = dot c (fun i => (i : Int) ^ a) := by
      unfold pb
      exact dot_congr c fun i _ => by rw [ch_zero]; simp
    rw [e]
    exact h a (by omega)
  | succ d ih =>
    intro a ha
    have h1 := pb_step c a d
    rw [ih (a + 1) (by omega), ih a (by omega)] at h1
    have h2 : ((d : Int) + 1) * pb c a (d + 1) = 0 := by
      rw [Int.mul_zero, Int.add_zero] at h1
      exact h1.symm
    rcases Int.mul_eq_zero.mp h2 with e | e
    · omega
    · exact e
theorem pow_zero_of_mo {c : List Int} {k m : Nat} (h : ∀ d, d < k → mo c d = 0) (hm : m < k) : dot c (fun i => (i : Int) ^ m) = 0 := by
  have := pb_of_mo h m 0 (by omega)
  unfold pb at this
  rw [← this]
  exact dot_congr c fun i _ => by rw [ch_zero]; simp
theorem mo_zero_of_pow {c : List Int} {k : Nat} (h : ∀ a, a < k → dot c (fun i => (i : Int) ^ a) = 0) {d : Nat} (hd : d < k) : mo c d = 0 := by
  have := mo_of_pb h d 0 (by omega)
  unfold pb at this
  unfold mo
  rw [← this]
  exact dot_congr c fun i _ => by rw [Int.pow_zero, Int.one_mul]
end TB

namespace TB
/-! players' sums, orders -/
def ind (t : List Nat) (p : Nat) : List Int := t.map fun x => if x = p then 1 else 0
def sm (t : List Nat) (p : Nat) (f : Nat → Int) : Int := dot (ind t p) f
theorem dot_map_sub (t : List Nat) (u v : Nat → Int) : ∀ f : Nat → Int, dot (t.map fun x => u x - v x) f = dot (t.map u) f - dot (t.map v) f := by
  induction t with
  | nil => intro f; rfl
  | cons x r ih =>
    intro f
    simp only [List.map_cons, dot]
    rw [ih]
    grind
theorem dot_map_add (t : List Nat) (u v : Nat → Int) : ∀ f : Nat → Int, dot (t.map fun x => u x + v x) f = dot (t.map u) f + dot (t.map v) f := by
  induction t with
  | nil => intro f; rfl
  | cons x r ih =>
    intro f
    simp only [List.map_cons, dot]
    rw [ih]
    grind
theorem dot_map_smul (t : List Nat) (k : Int) (u : Nat → Int) : ∀ f : Nat → Int, dot (t.map fun x => k * u x) f = k * dot (t.map u) f := by
  induction t with
  | nil => intro f; simp [dot]
  | cons x r ih =>
    intro f
    simp only [List.map_cons, dot]
    rw [ih]
    grind
theorem dot_map_zero (t : List Nat) : ∀ f : Nat → Int, dot (t.map fun _ => 0) f = 0 := by
  induction t with
  | nil => intro f; rfl
  | cons x r ih =>
    intro f
    simp only [List.map_cons, dot]
    rw [ih]
    simp
/-- a sum over the players below n -/
def sumN : Nat → (Nat → Int) → Int
  | 0, _ => 0
  | n + 1, g => sumN n g + g n
theorem sumN_ind (n x : Nat) (r : Nat → Int) (h : x < n) : sumN n (fun p => r p * (if x = p then 1 else 0)) = r x := by
  have h0 : ∀ m, m ≤ x → sumN m (fun p => r p * (if x = p then 1 else 0)) = 0 := by
    intro m
    induction m with
    | zero => intro _; rfl
    | succ m ih =>
      intro hm
      simp only [sumN]
      rw [ih (by omega), if_neg (by omega)]
      simp
  induction n with
  | zero => omega
  | succ n ih =>
    simp only [sumN]
    by_cases e : x = n
    · subst e
      rw [h0 x (Nat.le_refl _), if_pos rfl]
      simp
    · rw [ih (by omega), if_neg e]
      simp
theorem dot_rows (n : Nat) (t : List Nat) (ht : ∀ x ∈ t, x < n) (r : Nat → Int) (f : Nat → Int) : dot (t.map r) f = sumN n (fun p => r p * sm t p f) := by
  have h1 : ∀ m, dot (t.map fun x => sumN m (fun p => r p * (if x = p then 1 else 0))) f = sumN m (fun p => r p * sm t p f) := by
    intro m
    induction m with
    | zero => exact dot_map_zero t f
    | succ m ih =>
      simp only [sumN]
      rw [dot_map_add, ih, dot_map_smul]
      rfl
  rw [← h1 n]
  have e : t.map r = t.map fun x => sumN n (fun p => r p * (if x = p then 1 else 0)) := by
    refine List.map_congr_left fun x hx => ?_
    exact (sumN_ind n x r (ht x hx)).symm
  rw [e]
/-- the order of turns for n players -/
def Ord (n : Nat) (t : List Nat) (o : Nat) : Prop :=
  (∀ d, d < o → ∀ a b, a < n → b < n → sm t a (fun i => (ch i d : Int)) = sm t b (fun i => (ch i d : Int))) ∧ ∃ a b, a < n ∧ b < n ∧ sm t a (fun i => (ch i o : Int)) ≠ sm t b (fun i => (ch i o : Int))
theorem differ (n : Nat) (t : List Nat) (hn : 2 ≤ n) (ht : t ≠ []) (hl : ∀ x ∈ t, x < n) (F : Nat → Nat → Int)
    (hF : ∀ (c : List Int), c.length = t.length → (∀ d, d < t.length → dot c (F d) = 0) → ¬ nz c) :
    ¬ ∀ d, d < t.length → ∀ a b, a < n → b < n → sm t a (F d) = sm t b (F d) := by
  intro h
  cases t with
  | nil => exact ht rfl
  | cons x r =>
    obtain ⟨b, hb, hne⟩ : ∃ b, b < n ∧ b ≠ x := by
      by_cases e : x = 0
      · exact ⟨1, by omega, by omega⟩
      · exact ⟨0, by omega, fun z => e z.symm⟩
    have hx : x < n := hl x List.mem_cons_self
    refine hF ((x :: r).map fun y => (if y = x then (1 : Int) else 0) - (if y = b then 1 else 0)) (by simp) (fun d hd => ?_) ⟨1, ?_, by decide⟩
    · rw [dot_map_sub]
      have := h d hd x b hx hb
      unfold sm ind at this
      rw [this]
      omega
    · rw [List.map_cons]
      refine List.mem_cons.mpr (.inl ?_)
      rw [if_pos rfl, if_neg (fun e => hne e.symm)]
      rfl
/-- some degree below the length tells two players apart -/
theorem differ_ch (n : Nat) (t : List Nat) (hn : 2 ≤ n) (ht : t ≠ []) (hl : ∀ x ∈ t, x < n) :
    ¬ ∀ d, d < t.length → ∀ a b, a < n → b < n → sm t a (fun i => (ch i d : Int)) = sm t b (fun i => (ch i d : Int)) :=
  differ n t hn ht hl (fun d i => (ch i d : Int)) fun c hc h => zero_of_mo t.length c hc h
theorem differ_pow (n : Nat) (t : List Nat) (hn : 2 ≤ n) (ht : t ≠ []) (hl : ∀ x ∈ t, x < n) :
    ¬ ∀ d, d < t.length → ∀ a b, a < n → b < n → sm t a (fun i => (i : Int) ^ d) = sm t b (fun i => (i : Int) ^ d) :=
  differ n t hn ht hl (fun d i => (i : Int) ^ d) fun c hc h => zero_of_mo t.length c hc fun _ hd => mo_zero_of_pow h hd
theorem Ord.lt {n : Nat} {t : List Nat} {o : Nat} (h : Ord n t o) (hn : 2 ≤ n) (ht : t ≠ []) (hl : ∀ x ∈ t, x < n) : o < t.length :=
  Classical.byContradiction fun e => differ_ch n t hn ht hl fun d hd => h.1 d (by omega)
/-! classes -/
def cls : Nat → List (List (List Int))
  | 2 => [[[1, -1]]]
  | 3 => [[[1, 0, -1], [0, 1, -1]]]
  | 4 => [[[1, -1, 1, -1]], [[1, 0, -1, 0], [0, 1, 0, -1]]]
  | 5 => [[[1, 0, 0, 0, -1], [0, 1, 0, 0, -1], [0, 0, 1, 0, -1], [0, 0, 0, 1, -1]]]
  | 6 => [[[1, -1, 1, -1, 1, -1]], [[1, 0, -1, 1, 0, -1], [0, 1, -1, 0, 1, -1]], [[1, 0, -1, -1, 0, 1], [0, 1, 1, 0, -1, -1]]]
  | _ => []
def rv (t : List Nat) (row : List Int) : List Int := t.map fun x => row.getD x 0
/-- the order of turns for a class -/
def CO (t : List Nat) (rows : List (List Int)) (k : Nat) : Prop := (∀ row ∈ rows, ∀ d, d < k → mo (rv t row) d = 0) ∧ ∃ row ∈ rows, mo (rv t row) k ≠ 0
theorem CO.uniq {t : List Nat} {rows : List (List Int)} {j k : Nat} (a : CO t rows j) (b : CO t rows k) : j = k := by
  rcases Nat.lt_trichotomy j k with h | h | h
  · obtain ⟨row, hr, hm⟩ := a.2
    exact absurd (b.1 row hr j h) hm
  · exact h
  · obtain ⟨row, hr, hm⟩ := b.2
    exact absurd (a.1 row hr k h) hm
theorem cls_mo {n : Nat} {t : List Nat} (hl : ∀ x ∈ t, x < n) (row : List Int) (d : Nat) : mo (rv t row) d = sumN n (fun p => row.getD p 0 * sm t p (fun i => (ch i d : Int))) :=
  dot_rows n t hl _ _
theorem sumN_eq {n : Nat} {f g : Nat → Int} (h : ∀ p, p < n → f p = g p) : sumN n f = sumN n g := by
  induction n with
  | zero => rfl
  | succ n ih => simp only [sumN]; rw [ih fun p hp => h p (by omega), h n (by omega)]
theorem sumN_const (n : Nat) (r : Nat → Int) (k : Int) : sumN n (fun p => r p * k) = sumN n r * k := by
  induction n with
  | zero => simp [sumN]
  | succ n ih => simp only [sumN]; rw [ih]; grind
theorem cls_sum0 : ∀ n, 2 ≤ n → n ≤ 6 → ∀ rows ∈ cls n, ∀ row ∈ rows, sumN n (fun p => row.getD p 0) = 0 := by
  intro n h2 h6
  have : n = 2 ∨ n = 3 ∨ n = 4 ∨ n = 5 ∨ n = 6 := by omega
  rcases this with rfl | rfl | rfl | rfl | rfl <;> decide
/-- where all players have equal totals, the rows of the classes give 0 -/
theorem cls_vanish {n : Nat} {t : List Nat} (h2 : 2 ≤ n) (h6 : n ≤ 6) (hl : ∀ x ∈ t, x < n) {d : Nat} (h : ∀ a b, a < n → b < n → sm t a (fun i => (ch i d : Int)) = sm t b (fun i => (ch i d : Int)))
    {rows : List (List Int)} (hr : rows ∈ cls n) {row : List Int} (hw : row ∈ rows) : mo (rv t row) d = 0 := by
  rw [cls_mo hl]
  rw [sumN_eq (g := fun p => row.getD p 0 * sm t 0 (fun i => (ch i d : Int))) fun p hp => by rw [h p 0 hp (by omega)], sumN_const, cls_sum0 n h2 h6 rows hr row hw]
  simp
/-- the rows of the classes tell whether totals are equal -/
theorem cls_span (n : Nat) (h2 : 2 ≤ n) (h6 : n ≤ 6) (x : Nat → Int) (h : ∀ rows ∈ cls n, ∀ row ∈ rows, sumN n (fun p => row.getD p 0 * x p) = 0) : ∀ a b, a < n → b < n → x a = x b := by
  have : n = 2 ∨ n = 3 ∨ n = 4 ∨ n = 5 ∨ n = 6 := by omega
  have h0 : ∀ a, a < n → x a = x 0 := by
    rcases this with rfl | rfl | rfl | rfl | rfl <;> simp [cls, sumN] at h <;> intro a ha
    · have : a = 0 ∨ a = 1 := by omega
      rcases this with rfl | rfl <;> omega
    · have : a = 0 ∨ a = 1 ∨ a = 2 := by omega
      rcases this with rfl | rfl | rfl <;> omega
    · have : a = 0 ∨ a = 1 ∨ a = 2 ∨ a = 3 := by omega
      rcases this with rfl | rfl | rfl | rfl <;> omega
    · have : a = 0 ∨ a = 1 ∨ a = 2 ∨ a = 3 ∨ a = 4 := by omega
      rcases this with rfl | rfl | rfl | rfl | rfl <;> omega
    · have : a = 0 ∨ a = 1 ∨ a = 2 ∨ a = 3 ∨ a = 4 ∨ a = 5 := by omega
      rcases this with rfl | rfl | rfl | rfl | rfl | rfl <;> omega
  intro a b ha hb
  rw [h0 a ha, h0 b hb]
/-- the order of a product: the least sum over the classes whose parts all have an order -/
def Sums (rows : List (List Int)) (fs : List (List Nat)) (ks : List Nat) : Prop := fs.length = ks.length ∧ ∀ (i : Nat) (f : List Nat) (k : Nat), fs[i]? = some f → ks[i]? = some k → CO f rows k
def PO (n : Nat) (fs : List (List Nat)) (m : Nat) : Prop := (∃ rows ∈ cls n, ∃ ks, Sums rows fs ks ∧ m = ks.sum) ∧ ∀ rows ∈ cls n, ∀ ks, Sums rows fs ks → m ≤ ks.sum
theorem PO.uniq {n : Nat} {fs : List (List Nat)} {a b : Nat} (x : PO n fs a) (y : PO n fs b) : a = b := by
  obtain ⟨⟨rows, hr, ks, hs, rfl⟩, h1⟩ := x
  obtain ⟨⟨rows', hr', ks', hs', rfl⟩, h2⟩ := y
  exact Nat.le_antisymm (h1 _ hr' _ hs') (h2 _ hr _ hs)
theorem Sums.rep {rows : List (List Int)} {f : List Nat} {k m : Nat} (h : CO f rows k) : Sums rows (List.replicate m f) (List.replicate m k) := by
  refine ⟨by simp, fun i g j hg hj => ?_⟩
  rw [List.getElem?_replicate] at hg hj
  by_cases hi : i < m
  · rw [if_pos hi] at hg hj
    cases hg; cases hj; exact h
  · rw [if_neg hi] at hg
    cases hg
theorem Sums.app {rows : List (List Int)} {fs gs : List (List Nat)} {ks js : List Nat} (h : Sums rows fs ks) (g : Sums rows gs js) : Sums rows (fs ++ gs) (ks ++ js) := by
  refine ⟨by rw [List.length_append, List.length_append, h.1, g.1], fun i f k hf hk => ?_⟩
  by_cases hi : i < fs.length
  · rw [List.getElem?_append_left hi] at hf
    rw [List.getElem?_append_left (by rw [← h.1]; exact hi)] at hk
    exact h.2 i f k hf hk
  · have hi' : fs.length ≤ i := by omega
    rw [List.getElem?_append_right hi'] at hf
    rw [List.getElem?_append_right (by rw [← h.1]; exact hi')] at hk
    rw [h.1] at hf
    exact g.2 _ f k hf hk
theorem Sums.uniq {rows : List (List Int)} {fs : List (List Nat)} {ks js : List Nat} (h : Sums rows fs ks) (g : Sums rows fs js) : ks = js := by
  refine List.ext_getElem? fun i => ?_
  by_cases hi : i < fs.length
  · have h1 : i < ks.length := by rw [← h.1]; exact hi
    have h2 : i < js.length := by rw [← g.1]; exact hi
    have e1 := List.getElem?_eq_getElem h1
    have e2 := List.getElem?_eq_getElem h2
    have e3 := List.getElem?_eq_getElem hi
    rw [e1, e2, CO.uniq (h.2 i _ _ e3 e1) (g.2 i _ _ e3 e2)]
  · have h1 : ks.length ≤ i := by rw [← h.1]; omega
    have h2 : js.length ≤ i := by rw [← g.1]; omega
    rw [List.getElem?_eq_none h1, List.getElem?_eq_none h2]
theorem sum_rep (m k : Nat) : (List.replicate m k).sum = m * k := by
  induction m with
  | zero => simp
  | succ m ih => rw [List.replicate_succ, List.sum_cons, ih, Nat.add_mul, Nat.one_mul, Nat.add_comm]
/-- orders of great powers -/
theorem po_power {n : Nat} {t : List Nat} {o m : Nat} (h2 : 2 ≤ n) (h6 : n ≤ 6) (hl : ∀ x ∈ t, x < n) (h : Ord n t o) : PO n (List.replicate m t) (m * o) := by
  have hv : ∀ d, d < o → ∀ rows ∈ cls n, ∀ row ∈ rows, mo (rv t row) d = 0 := fun d hd rows hr row hw => cls_vanish h2 h6 hl (h.1 d hd) hr hw
  have hex : ∃ rows ∈ cls n, ∃ row ∈ rows, mo (rv t row) o ≠ 0 := by
    refine Classical.byContradiction fun hn => ?_
    obtain ⟨a, b, ha, hb, hne⟩ := h.2
    refine hne (cls_span n h2 h6 (fun p => sm t p (fun i => (ch i o : Int))) (fun rows hr row hw => ?_) a b ha hb)
    rw [← cls_mo hl]
    exact Classical.byContradiction fun e => hn ⟨rows, hr, row, hw, e⟩
  obtain ⟨rows, hr, row, hw, hne⟩ := hex
  have hco : CO t rows o := ⟨fun row' hw' d hd => hv d hd rows hr row' hw', row, hw, hne⟩
  refine ⟨⟨rows, hr, _, Sums.rep hco, (sum_rep m o).symm⟩, fun rows' hr' ks hs => ?_⟩
  have hk : ∀ k ∈ ks, o ≤ k := fun k hk => by
    obtain ⟨i, hi, e⟩ := List.mem_iff_getElem.mp hk
    have hi2 : i < (List.replicate m t).length := by rw [hs.1]; exact hi
    have c := hs.2 i t k (by rw [List.getElem?_eq_getElem hi2]; simp) (by rw [List.getElem?_eq_getElem hi, e])
    obtain ⟨row', hw', hne'⟩ := c.2
    exact Nat.le_of_not_lt fun hlt => hne' (hv k hlt rows' hr' row' hw')
  have hlen : ks.length = m := by rw [← hs.1]; simp
  have : ∀ l : List Nat, (∀ k ∈ l, o ≤ k) → l.length * o ≤ l.sum := by
    intro l
    induction l with
    | nil => intro _; simp
    | cons x r ih =>
      intro hh
      rw [List.length_cons, List.sum_cons, Nat.add_mul, Nat.one_mul]
      have := ih fun k hk => hh k (List.mem_cons_of_mem _ hk)
      have := hh x List.mem_cons_self
      omega
  have := this ks hk
  rw [hlen] at this
  exact this
theorem po_two {n : Nat} {fs gs : List (List Nat)} {m : Nat} (P : List (List Int) → List Nat → Prop) (h : ∀ rows ∈ cls n, ∀ ks, Sums rows (fs ++ gs) ks → P rows ks) (h1 : ∃ rows ∈ cls n, ∃ ks, Sums rows (fs ++ gs) ks ∧ m = ks.sum)
    (h2 : ∀ rows ∈ cls n, ∀ ks, P rows ks → m ≤ ks.sum) : PO n (fs ++ gs) m := ⟨h1, fun rows hr ks hs => h2 rows hr ks (h rows hr ks hs)⟩
/-! players taken modulo s -/
theorem sm_fold (n : Nat) (t : List Nat) (hl : ∀ x ∈ t, x < n) (g : Nat → Nat) (q : Nat) (f : Nat → Int) : sm (t.map g) q f = sumN n (fun p => (if g p = q then 1 else 0) * sm t p f) := by
  have e : sm (t.map g) q f = dot (t.map fun x => if g x = q then 1 else 0) f := by
    unfold sm ind
    rw [List.map_map]
    rfl
  rw [e]
  exact dot_rows n t hl _ f
theorem fold_count : ∀ n s, n ≤ 6 → 2 ≤ n → (s = 2 ∨ s = 3 ∨ s = 5) → n % s = 0 → ∀ q, q < s → sumN n (fun p => if p % s = q then 1 else 0) = sumN n (fun p => if p % s = 0 then 1 else 0) := by
  intro n s h6 h2 hs hd q hq
  have : n = 2 ∨ n = 3 ∨ n = 4 ∨ n = 5 ∨ n = 6 := by omega
  rcases hs with rfl | rfl | rfl
  · have : q = 0 ∨ q = 1 := by omega
    rcases this with rfl | rfl <;> rcases ‹n = 2 ∨ _› with rfl | rfl | rfl | rfl | rfl <;> first | rfl | omega
  · have : q = 0 ∨ q = 1 ∨ q = 2 := by omega
    rcases this with rfl | rfl | rfl <;> rcases ‹n = 2 ∨ _› with rfl | rfl | rfl | rfl | rfl <;> first | rfl | omega
  · have : q = 0 ∨ q = 1 ∨ q = 2 ∨ q = 3 ∨ q = 4 := by omega
    rcases this with rfl | rfl | rfl | rfl | rfl <;> rcases ‹n = 2 ∨ _› with rfl | rfl | rfl | rfl | rfl <;> first | rfl | omega
/-- the order of turns is at most the degree at which the folded turns' sums of powers differ -/
theorem ord_le_fold {n s : Nat} {t : List Nat} {o m : Nat} (h2 : 2 ≤ n) (h6 : n ≤ 6) (hl : ∀ x ∈ t, x < n) (h : Ord n t o) (hs : s = 2 ∨ s = 3 ∨ s = 5) (hd : n % s = 0)
    (hm : ∃ q, q < s ∧ sm (t.map (· % s)) q (fun i => (i : Int) ^ m) ≠ sm (t.map (· % s)) 0 (fun i => (i : Int) ^ m)) : o ≤ m := by
  refine Nat.le_of_not_lt fun hlt => ?_
  obtain ⟨q, hq, hne⟩ := hm
  have heq : ∀ a, a < n → sm t a (fun i => (i : Int) ^ m) = sm t 0 (fun i => (i : Int) ^ m) := by
    intro a ha
    have hz : dot (t.map fun y => (if y = a then (1 : Int) else 0) - (if y = 0 then 1 else 0)) (fun i => (i : Int) ^ m) = 0 := by
      refine pow_zero_of_mo (k := o) (fun d hd => ?_) hlt
      have := h.1 d hd a 0 ha (by omega)
      unfold mo
      rw [dot_map_sub]
      unfold sm ind at this
      rw [this]
      omega
    rw [dot_map_sub] at hz
    unfold sm ind
    omega
  refine hne ?_
  have hc : ∀ r, r < s → sm (t.map (· % s)) r (fun i => (i : Int) ^ m) = sumN n (fun p => if p % s = 0 then 1 else 0) * sm t 0 (fun i => (i : Int) ^ m) := by
    intro r hr
    rw [sm_fold n t hl (· % s) r]
    rw [sumN_eq (g := fun p => (if p % s = r then 1 else 0) * sm t 0 (fun i => (i : Int) ^ m)) fun p hp => by rw [heq p hp], sumN_const, fold_count n s h6 h2 hs hd r hr]
  rw [hc q hq, hc 0 (by omega)]
end TB

set_option maxRecDepth 100000
namespace TB
open PySem
open Sem (wp)
/-! a code that may run whatever its suspended generators would do leaves them asleep -/
def deadK : Resume → Sem PySem.Fin := fun _ => .unsupported "asleep"
def susp : GenState → Bool
  | .suspended .. => true
  | _ => false
def kill : GenState → GenState
  | .suspended _ l c p fs cl => .suspended deadK l c p fs cl
  | g => g
def okG : GenState → Prop
  | .suspended _ _ _ _ fs _ => splitAtGen fs = none
  | _ => True
theorem kill_seen (x : GenState) : (kill x).seen = x.seen := by cases x <;> rfl
structure RG (orig G Z : Array GenState) : Prop where
  sz : G.size = Z.size
  le : orig.size ≤ Z.size
  at_ : ∀ i : Nat, (∃ x, orig[i]? = some x ∧ susp x = true ∧ G[i]? = some x ∧ Z[i]? = some (kill x)) ∨
    ((∀ x, orig[i]? = some x → susp x = false) ∧ G[i]? = Z[i]? ∧ ∀ x, Z[i]? = some x → okG x)
theorem RG.set {orig G Z : Array GenState} {g : Nat} {y : GenState} (r : RG orig G Z) (hg : ∀ x, orig[g]? = some x → susp x = false) (hy : okG y) :
    RG orig (G.setIfInBounds g y) (Z.setIfInBounds g y) where
  sz := by simp [r.sz]
  le := by simpa using r.le
  at_ := fun i => by
    by_cases e : i = g
    · subst e
      refine .inr ⟨hg, ?_, fun x hx => ?_⟩
      · by_cases hi : i < Z.size
        · have hi' : i < G.size := by rw [r.sz]; exact hi
          simp [hi, hi']
        · have hi' : ¬ i < G.size := by rw [r.sz]; exact hi
          rw [Array.getElem?_eq_none (by simp; omega), Array.getElem?_eq_none (by simp; omega)]
      · by_cases hi : i < Z.size
        · simp [hi] at hx
          rw [← hx]; exact hy
        · rw [Array.getElem?_eq_none (by simp; omega)] at hx
          cases hx
    · rw [Array.getElem?_setIfInBounds_ne (Ne.symm e), Array.getElem?_setIfInBounds_ne (Ne.symm e)]
      exact r.at_ i
theorem RG.push {orig G Z : Array GenState} {y : GenState} (r : RG orig G Z) (hy : okG y) : RG orig (G.push y) (Z.push y) where
  sz := by simp [r.sz]
  le := by have := r.le; simp; omega
  at_ := fun i => by
    by_cases hi : i < Z.size
    · have hi' : i < G.size := by rw [r.sz]; exact hi
      rw [Array.getElem?_push_lt hi, Array.getElem?_push_lt hi', ← Array.getElem?_eq_getElem hi, ← Array.getElem?_eq_getElem hi']
      exact r.at_ i
    · have ho : orig[i]? = none := Array.getElem?_eq_none (by have := r.le; omega)
      refine .inr ⟨fun x hx => (by rw [ho] at hx; cases hx), ?_, fun x hx => ?_⟩
      · by_cases e : i = Z.size
        · have e' : i = G.size := by rw [r.sz]; exact e
          rw [e, Array.getElem?_push_size]
          rw [show Z.size = G.size from r.sz.symm, Array.getElem?_push_size]
        · rw [Array.getElem?_eq_none (by simp; have := r.sz; omega), Array.getElem?_eq_none (by simp; omega)]
      · by_cases e : i = Z.size
        · rw [e, Array.getElem?_push_size] at hx
          cases hx; exact hy
        · rw [Array.getElem?_eq_none (by simp; omega)] at hx
          cases hx
/-- one that is not asleep from the start stands alike -/
theorem RG.same {orig G Z : Array GenState} {g : Nat} {y : GenState} (r : RG orig G Z) (h : Z[g]? = some y) (hy : susp y = false) : G[g]? = some y ∧ (∀ x, orig[g]? = some x → susp x = false) := by
  rcases r.at_ g with ⟨x, h1, h2, h3, h4⟩ | ⟨h1, h2, h3⟩
  · rw [h] at h4
    cases h4
    cases x <;> simp_all [susp, kill]
  · exact ⟨h2.trans h, h1⟩
theorem no_unsupported {M : Model} {Γ : Ctx} {p : Pos} {t : Sem PySem.Fin} {fs : List Frame} {s s' : Shared} {e : End} (h : Runs M Γ p t fs s e s') : ∀ what, t ≠ .unsupported what := by
  induction h <;> first
    | (intro what q; cases q; done)
    | assumption
def okE : End → Prop
  | .ret _ => True
  | .susp _ _ _ _ _ _ fs => splitAtGen fs = none
theorem okE_state {e : End} (h : okE e) : okG e.genState := by cases e <;> exact h
abbrev withG (z : Shared) (G : Array GenState) : Shared := { z with gens := G }
theorem split_ret {k h g l c p kp fs} (x : splitAtGen (.ret k h g l c p kp :: fs) = none) : splitAtGen fs = none := by
  unfold splitAtGen at x
  cases e : splitAtGen fs with
  | none => rfl
  | some v => rw [e] at x; simp at x
theorem run_sim {M : Model} {orig : Array GenState} {Γ : Ctx} {p : Pos} {t : Sem PySem.Fin} {fs : List Frame} {z z' : Shared} {e : End} (h : Runs M Γ p t fs z e z') :
    splitAtGen fs = none → okE e ∧ ∀ G, RG orig G z.gens → ∃ G', Runs M Γ p t fs (withG z G) e (withG z' G') ∧ RG orig G' z'.gens := by
  induction h with
  | done => exact fun _ => ⟨trivial, fun G r => ⟨G, .done, r⟩⟩
  | raise => exact fun _ => ⟨trivial, fun G r => ⟨G, .raise, r⟩⟩
  | again hq _ ih => exact fun hf => ⟨(ih hf).1, fun G r => let ⟨G', a, b⟩ := (ih hf).2 G r; ⟨G', .again hq a, b⟩⟩
  | rule _ ih => exact fun hf => ⟨(ih hf).1, fun G r => let ⟨G', a, b⟩ := (ih hf).2 G r; ⟨G', .rule a, b⟩⟩
  | «at» _ ih => exact fun hf => ⟨(ih hf).1, fun G r => let ⟨G', a, b⟩ := (ih hf).2 G r; ⟨G', .at a, b⟩⟩
  | load ho _ ih => exact fun hf => ⟨(ih hf).1, fun G r => let ⟨G', a, b⟩ := (ih hf).2 G r; ⟨G', .load ho a, b⟩⟩
  | update ha _ ih => exact fun hf => ⟨(ih hf).1, fun G r => let ⟨G', a, b⟩ := (ih hf).2 G r; ⟨G', .update ha a, b⟩⟩
  | loadIfAlive _ ih => exact fun hf => ⟨(ih hf).1, fun G r => let ⟨G', a, b⟩ := (ih hf).2 G r; ⟨G', .loadIfAlive a, b⟩⟩
  | point _ ih => exact fun hf => ⟨(ih hf).1, fun G r => let ⟨G', a, b⟩ := (ih hf).2 G r; ⟨G', .point a, b⟩⟩
  | alloc _ ih => exact fun hf => ⟨(ih hf).1, fun G r => let ⟨G', a, b⟩ := (ih hf).2 G r; ⟨G', .alloc a, b⟩⟩
  | fresh _ ih => exact fun hf => ⟨(ih hf).1, fun G r => let ⟨G', a, b⟩ := (ih hf).2 G r; ⟨G', .fresh a, b⟩⟩
  | ask _ ih => exact fun hf => ⟨(ih hf).1, fun G r => let ⟨G', a, b⟩ := (ih hf).2 G r; ⟨G', .ask a, b⟩⟩
  | choose hn _ ih => exact fun hf => ⟨(ih hf).1, fun G r => let ⟨G', a, b⟩ := (ih hf).2 G r; ⟨G', .choose hn a, b⟩⟩
  | os _ ih => exact fun hf => ⟨(ih hf).1, fun G r => let ⟨G', a, b⟩ := (ih hf).2 G r; ⟨G', .os a, b⟩⟩
  | handled _ ih => exact fun hf => ⟨(ih hf).1, fun G r => let ⟨G', a, b⟩ := (ih hf).2 G r; ⟨G', .handled a, b⟩⟩
  | stack _ ih => exact fun hf => ⟨(ih hf).1, fun G r => let ⟨G', a, b⟩ := (ih hf).2 G r; ⟨G', .stack a, b⟩⟩
  | thread _ ih => exact fun hf => ⟨(ih hf).1, fun G r => let ⟨G', a, b⟩ := (ih hf).2 G r; ⟨G', .thread a, b⟩⟩
  | genState hg _ ih =>
    rename_i g st _ _ _ _ _
    refine fun hf => ⟨(ih hf).1, fun G r => ?_⟩
    obtain ⟨G', a, b⟩ := (ih hf).2 G r
    rcases r.at_ _ with ⟨x, h1, h2, h3, h4⟩ | ⟨h1, h2, h3⟩
    · have e := Option.some.inj (hg.symm.trans h4)
      rw [e, kill_seen] at a
      exact ⟨G', .genState h3 a, b⟩
    · exact ⟨G', .genState (h2.trans hg) a, b⟩
  | newGen _ ih =>
    refine fun hf => ⟨(ih hf).1, fun G r => ?_⟩
    obtain ⟨G', a, b⟩ := (ih hf).2 _ (r.push (y := .fresh _) trivial)
    refine ⟨G', .newGen ?_, b⟩
    rw [← r.sz] at a
    exact a
  | call _ _ ih1 ih2 =>
    refine fun hf => ⟨(ih2 hf).1, fun G r => ?_⟩
    obtain ⟨G1, a1, b1⟩ := (ih1 rfl).2 G r
    obtain ⟨G2, a2, b2⟩ := (ih2 hf).2 G1 b1
    exact ⟨G2, .call a1 a2, b2⟩
  | callSusp _ ih =>
    refine fun hf => ⟨?_, fun G r => ?_⟩
    · have h1 : splitAtGen _ = none := (ih rfl).1
      show splitAtGen (_ ++ _) = none
      rw [splitAtGen_append_none _ h1]
      rfl
    · obtain ⟨G1, a1, b1⟩ := (ih rfl).2 G r
      exact ⟨G1, .callSusp a1, b1⟩
  | yield => exact fun _ => ⟨rfl, fun G r => ⟨G, .yield, r⟩⟩
  | resumeFresh hg _ hq _ ih1 ih2 =>
    refine fun hf => ⟨(ih2 hf).1, fun G r => ?_⟩
    obtain ⟨hG, ho⟩ := r.same hg rfl
    obtain ⟨G1, a1, b1⟩ := (ih1 rfl).2 _ (r.set (y := .running) ho trivial)
    obtain ⟨G2, a2, b2⟩ := (ih2 hf).2 _ (b1.set ho (okE_state (ih1 rfl).1))
    exact ⟨G2, .resumeFresh hG a1 hq a2, b2⟩
  | @resumeSuspended Γ p g r l k s k₀ l₀ c₀ p₀ fs cl e₁ s₁ e s' hg hr1 hq _ ih1 ih2 =>
    refine fun hf => ⟨(ih2 hf).1, fun G r => ?_⟩
    rcases r.at_ g with ⟨x, h1, h2, h3, h4⟩ | ⟨h1, h2, h3⟩
    · rw [hg] at h4
      cases x with
      | suspended k1 l1 c1 p1 fs1 cl1 =>
        have h5 : GenState.suspended k₀ l₀ c₀ p₀ fs cl = .suspended deadK l1 c1 p1 fs1 cl1 := Option.some.inj h4
        cases h5
        exact absurd rfl (no_unsupported hr1 "asleep")
      | _ => cases h2
    · have hfs : splitAtGen fs = none := h3 _ hg
      obtain ⟨G1, a1, b1⟩ := (ih1 hfs).2 _ (r.set (y := .running) h1 trivial)
      obtain ⟨G2, a2, b2⟩ := (ih2 hf).2 _ (b1.set h1 (okE_state (ih1 hfs).1))
      exact ⟨G2, .resumeSuspended (h2.trans hg) a1 hq a2, b2⟩
  | resumeJustStarted hg hv _ ih =>
    refine fun hf => ⟨(ih hf).1, fun G r => ?_⟩
    obtain ⟨G', a, b⟩ := (ih hf).2 G r
    exact ⟨G', .resumeJustStarted (r.same hg rfl).1 hv a, b⟩
  | resumeThrowFresh hg _ ih =>
    refine fun hf => ⟨(ih hf).1, fun G r => ?_⟩
    obtain ⟨hG, ho⟩ := r.same hg rfl
    obtain ⟨G', a, b⟩ := (ih hf).2 _ (r.set (y := .finished) ho trivial)
    exact ⟨G', .resumeThrowFresh hG a, b⟩
  | resumeRunning hg _ ih =>
    refine fun hf => ⟨(ih hf).1, fun G r => ?_⟩
    obtain ⟨G', a, b⟩ := (ih hf).2 G r
    exact ⟨G', .resumeRunning (r.same hg rfl).1 a, b⟩
  | resumeFinished hg _ ih =>
    refine fun hf => ⟨(ih hf).1, fun G r => ?_⟩
    obtain ⟨G', a, b⟩ := (ih hf).2 G r
    exact ⟨G', .resumeFinished (r.same hg rfl).1 a, b⟩
  | segRet _ _ ih1 ih2 =>
    intro hf
    have hf2 := split_ret hf
    refine ⟨(ih2 hf2).1, fun G r => ?_⟩
    obtain ⟨G1, a1, b1⟩ := (ih1 rfl).2 G r
    obtain ⟨G2, a2, b2⟩ := (ih2 hf2).2 G1 b1
    exact ⟨G2, .segRet a1 a2, b2⟩
  | segGen _ _ _ _ => intro hf; simp [splitAtGen] at hf
  | segSuspOut hn _ ih =>
    refine fun hf => ⟨?_, fun G r => ?_⟩
    · have h1 : splitAtGen _ = none := (ih rfl).1
      show splitAtGen (_ ++ _) = none
      rw [splitAtGen_append_none _ h1, hn]
      rfl
    · obtain ⟨G1, a1, b1⟩ := (ih rfl).2 G r
      exact ⟨G1, .segSuspOut hn a1, b1⟩
  | segSuspGen hs _ _ _ _ _ => intro hf; rw [hs] at hf; cases hf
end TB

set_option maxRecDepth 100000
namespace TB
open PySem PySem.Spec PyProof.Rows L2
open Sem (wp)
theorem wakes_sim {M : Model} {orig : Array GenState} {Γ : PySem.Ctx} {p : Pos} {g : Nat} {r : Resume} {z z' : Shared} {res : GenResult} (h : Wakes M Γ p g r z res z') :
    ∀ G, RG orig G z.gens → ∃ G', Wakes M Γ p g r (withG z G) res (withG z' G') ∧ RG orig G' z'.gens := by
  intro G rg
  unfold Wakes at h
  cases hg : z.gens[g]? with
  | none => simp only [hg] at h
  | some gs =>
    simp only [hg] at h
    cases gs with
    | fresh c =>
      obtain ⟨hG, ho⟩ := rg.same hg rfl
      cases r with
      | send v =>
        by_cases hv : v = .none
        · subst hv
          obtain ⟨e₁, s₂, h₁, hq, rfl, rfl⟩ := h
          obtain ⟨ok, sim⟩ := run_sim (orig := orig) h₁ rfl
          obtain ⟨G1, a1, b1⟩ := sim _ (rg.set (y := .running) ho trivial)
          refine ⟨G1.setIfInBounds g e₁.genState, ?_, b1.set ho (okE_state ok)⟩
          unfold Wakes
          rw [show (withG z G).gens[g]? = some (.fresh c) from hG]
          exact ⟨e₁, withG s₂ G1, a1, hq, rfl, rfl⟩
        · have h' : res = .justStarted ∧ z' = z := by cases v <;> first | exact absurd rfl hv | exact h
          obtain ⟨rfl, rfl⟩ := h'
          exact ⟨G, Sem.wakes_justStarted M Γ (s := withG z' G) hG hv, rg⟩
      | throw x =>
        obtain ⟨rfl, rfl⟩ := h
        refine ⟨_, ?_, rg.set (y := .finished) ho trivial⟩
        unfold Wakes
        rw [show (withG z G).gens[g]? = some (.fresh c) from hG]
        exact ⟨rfl, rfl⟩
    | suspended k₀ l₀ c₀ p₀ fs cl =>
      obtain ⟨e₁, s₂, h₁, hq, rfl, rfl⟩ := h
      rcases rg.at_ g with ⟨x, h1, h2, h3, h4⟩ | ⟨h1, h2, h3⟩
      · rw [hg] at h4
        cases x with
        | suspended k1 l1 c1 p1 fs1 cl1 =>
          have h5 : GenState.suspended k₀ l₀ c₀ p₀ fs cl = .suspended deadK l1 c1 p1 fs1 cl1 := Option.some.inj h4
          cases h5
          exact absurd rfl (no_unsupported h₁ "asleep")
        | _ => cases h2
      · obtain ⟨ok, sim⟩ := run_sim (orig := orig) h₁ (h3 _ hg)
        obtain ⟨G1, a1, b1⟩ := sim _ (rg.set (y := .running) h1 trivial)
        refine ⟨G1.setIfInBounds g e₁.genState, ?_, b1.set h1 (okE_state ok)⟩
        unfold Wakes
        rw [show (withG z G).gens[g]? = some (.suspended k₀ l₀ c₀ p₀ fs cl) from h2.trans hg]
        exact ⟨e₁, withG s₂ G1, a1, hq, rfl, rfl⟩
    | running =>
      obtain ⟨hG, ho⟩ := rg.same hg rfl
      obtain ⟨rfl, rfl⟩ := h
      refine ⟨G, ?_, rg⟩
      unfold Wakes
      rw [show (withG z' G).gens[g]? = some .running from hG]
      exact ⟨rfl, rfl⟩
    | finished =>
      obtain ⟨hG, ho⟩ := rg.same hg rfl
      obtain ⟨rfl, rfl⟩ := h
      refine ⟨G, ?_, rg⟩
      unfold Wakes
      rw [show (withG z' G).gens[g]? = some .finished from hG]
      exact ⟨rfl, rfl⟩
/-- the two ends stand beside one another -/
def Beside (orig : Array GenState) {α : Type} (Q : α → Shared → Prop) (a : α) (s : Shared) : Prop := ∃ z G, s = withG z G ∧ RG orig G z.gens ∧ Q a z
theorem wp_sim {α : Type} (M : Model) (Γ : PySem.Ctx) (orig : Array GenState) (t : Sem α) : ∀ (Q : α → Shared → Prop) (E : Value → Shared → Prop) (p : Pos) (z : Shared) (G : Array GenState), RG orig G z.gens →
    wp M Γ t (fun a _ s' => Q a s') (fun e _ s' => E e s') p z → wp M Γ t (fun a _ s' => Beside orig Q a s') (fun e _ s' => Beside orig E e s') p (withG z G) := by
  induction t with
  | pure a => intro Q E p z G r h; exact ⟨z, G, rfl, r, h⟩
  | raise e => intro Q E p z G r h; exact ⟨z, G, rfl, r, h⟩
  | unsupported _ => intro Q E p z G r h; exact h
  | finish _ => intro Q E p z G r h; exact h
  | rule _ k ih => intro Q E p z G r h; exact ih () Q E p z G r h
  | «at» p' k ih => intro Q E p z G r h; exact ih () Q E p' z G r h
  | load a _ k ih => intro Q E p z G r h; obtain ⟨o, ho, h⟩ := h; exact ⟨o, ho, ih o Q E p z G r h⟩
  | update a _ f k ih => intro Q E p z G r h; exact ⟨h.1, ih () Q E p { z with heap := z.heap.update a f } G r h.2⟩
  | loadIfAlive a k ih => intro Q E p z G r h; exact ih _ Q E p z G r h
  | point _ k ih => intro Q E p z G r h; exact ih () Q E p z G r h
  | register _ _ => intro Q E p z G r h; exact h
  | alloc o k ih => intro Q E p z G r h; exact ih _ Q E p { z with heap := z.heap.push o } G r h
  | fresh k ih => intro Q E p z G r h; exact ih _ Q E p { z with toks := z.toks + 1 } G r h
  | ask k ih => intro Q E p z G r h; exact ih _ Q E p z G r h
  | choose src m k ih => intro Q E p z G r h; exact ⟨h.1, ih _ Q E p { z with drawn := z.drawn.bump src } G r h.2⟩
  | os q _ k ih => intro Q E p z G r h; exact ih _ Q E p { z with os := (Os.step z.os q).1 } G r h
  | call c hd _ _ k ih =>
    intro Q E p z G r h
    obtain ⟨res, z', hr, h⟩ := h
    obtain ⟨G', a, b⟩ := (run_sim (orig := orig) hr rfl).2 G r
    exact ⟨res, withG z' G', a, ih res Q E p z' G' b h⟩
  | handled own k ih => intro Q E p z G r h; exact ih _ Q E p z G r h
  | genState g k ih =>
    intro Q E p z G r h
    obtain ⟨st, hs, h⟩ := h
    rcases r.at_ g with ⟨x, h1, h2, h3, h4⟩ | ⟨h1, h2, h3⟩
    · have e := Option.some.inj (hs.symm.trans h4)
      rw [e, kill_seen] at h
      exact ⟨x, h3, ih _ Q E p z G r h⟩
    · exact ⟨st, h2.trans hs, ih _ Q E p z G r h⟩
  | newGen c k ih =>
    intro Q E p z G r h
    have h' := ih _ Q E p { z with gens := z.gens.push (.fresh c) } (G.push (.fresh c)) (r.push (y := .fresh c) trivial) h
    rw [← r.sz] at h'
    exact h'
  | resume g rs _ k ih =>
    intro Q E p z G r h
    obtain ⟨res, z', hw, h⟩ := h
    obtain ⟨G', a, b⟩ := wakes_sim (orig := orig) hw G r
    exact ⟨res, withG z' G', a, ih res Q E p z' G' b h⟩
  | yield _ _ _ _ => intro Q E p z G r h; exact h
  | stack k ih => intro Q E p z G r h; exact ih _ Q E p z G r h
  | fork _ _ => intro Q E p z G r h; exact h
  | thread k ih => intro Q E p z G r h; exact ih _ Q E p z G r h
  | await _ _ _ _ _ => intro Q E p z G r h; exact h
theorem RG.start (G : Array GenState) : RG G G (G.map kill) where
  sz := by simp
  le := by simp
  at_ := fun i => by
    cases e : G[i]? with
    | none =>
      have e2 : (G.map kill)[i]? = none := by rw [Array.getElem?_map, e]; rfl
      refine .inr ⟨fun x hx => ?_, e2.symm, fun x hx => ?_⟩
      · cases hx
      · rw [e2] at hx
        cases hx
    | some x =>
      cases q : susp x with
      | true => exact .inl ⟨x, rfl, q, rfl, by simp [e]⟩
      | false =>
        have hk : kill x = x := by cases x <;> first | rfl | cases q
        refine .inr ⟨fun y hy => (by cases hy; exact q), (by simp [e, hk]), fun y hy => ?_⟩
        have e2 : y = x := by simp [e, hk] at hy; exact hy.symm
        rw [e2]
        cases x <;> first | trivial | cases q
theorem RG.bare {orig G Z : Array GenState} (r : RG orig G Z) (h : AllBare Z) : AllBare G := fun y hy => by
  obtain ⟨i, hi, rfl⟩ := Array.mem_iff_getElem.mp hy
  have e : G[i]? = some G[i] := Array.getElem?_eq_getElem hi
  rcases r.at_ i with ⟨x, h1, h2, h3, h4⟩ | ⟨h1, h2, h3⟩
  · have hb := h _ (Array.mem_of_getElem? h4)
    have e2 : G[i] = x := Option.some.inj (e.symm.trans h3)
    rw [e2]
    cases x <;> exact hb
  · exact h _ (Array.mem_of_getElem? (h2.symm.trans e))
theorem kill_bare {G : Array GenState} (h : AllBare G) : AllBare (G.map kill) := fun y hy => by
  obtain ⟨x, hx, rfl⟩ := Array.mem_map.mp hy
  have := h x hx
  cases x <;> exact this
/-- THE RULE: what runs while the sleepers are dead leaves them asleep -/
theorem wpAny_asleep {α : Type} {M : Model} {A : Around} {t : Sem α} {Q Q' : α → Shared → Prop} {E E' : Value → Shared → Prop} {s : Shared} (h : wpAny M A t Q E (withG s (s.gens.map kill)))
    (hQ : ∀ a z G, RG s.gens G z.gens → (∀ (i : Nat) (x : GenState), s.gens[i]? = some x → susp x = true → G[i]? = some x) → Q a z → Q' a (withG z G)) (hE : ∀ e z G, RG s.gens G z.gens → E e z → E' e (withG z G)) : wpAny M A t Q' E' s := by
  intro Γ p hΓ
  have h1 := wp_sim M Γ s.gens t Q E p (withG s (s.gens.map kill)) s.gens (RG.start s.gens) (h Γ p hΓ)
  refine Sem.wp_mono M Γ t (fun a _ s' hs => ?_) (fun e _ s' hs => ?_) p s h1
  · obtain ⟨z, G, rfl, r, q⟩ := hs
    refine hQ a z G r (fun i x hx hsx => ?_) q
    rcases r.at_ i with ⟨y, h1, h2, h3, h4⟩ | ⟨h1, h2, h3⟩
    · rw [hx] at h1
      cases h1
      exact h3
    · rw [h1 x hx] at hsx
      cases hsx
  · obtain ⟨z, G, rfl, r, q⟩ := hs
    exact hE e z G r q
section
variable {X : Cx} {pins : List (Addr × Obj)} {σ : L2.St} {H : Hp} {s : Shared}
theorem Inv.gens (I : Inv X pins σ H s) {G : Array GenState} (hb : AllBare G) : Inv X pins σ H (withG s G) :=
  ⟨I.ok, I.os, hb, I.base, I.loc, I.cell, I.free, I.freeC, I.pin, I.hok, I.len⟩
theorem SP.gens {D : Ends} {f : Flow} {G : Array GenState} (hb : AllBare G) (h : SP X pins D f s) : SP X pins D f (withG s G) := by
  cases f with
  | next => obtain ⟨σ', H', I, q⟩ := h; exact ⟨σ', H', Inv.gens I hb, q⟩
  | brk => obtain ⟨σ', H', I, q⟩ := h; exact ⟨σ', H', Inv.gens I hb, q⟩
  | cont => obtain ⟨σ', H', I, q⟩ := h; exact ⟨σ', H', Inv.gens I hb, q⟩
  | ret u => obtain ⟨v, σ', H', I, r, q⟩ := h; exact ⟨v, σ', H', Inv.gens I hb, r, q⟩
theorem SP.bare {D : Ends} {f : Flow} (h : SP X pins D f s) : AllBare s.gens := by
  cases f with
  | next => obtain ⟨σ', H', I, q⟩ := h; exact I.bare
  | brk => obtain ⟨σ', H', I, q⟩ := h; exact I.bare
  | cont => obtain ⟨σ', H', I, q⟩ := h; exact I.bare
  | ret u => obtain ⟨v, σ', H', I, r, q⟩ := h; exact I.bare
/-- a block's run leaves the sleepers asleep (no exception leaves it) -/
theorem run_asleep {sts : List Stmt} {t : TS} {D : Ends} (h : PSs X.nox sts t) (I : Inv X pins σ H s) (q : t D σ H) :
    wpAny (model X.prog X.w) X.A (execs sts X.env) (fun f s' => SP X pins D f s' ∧ ∀ (i : Nat) (x : GenState), s.gens[i]? = some x → susp x = true → s'.gens[i]? = some x) (fun _ _ => False) s := by
  refine wpAny_asleep (h.run pins (withG s (s.gens.map kill)) σ H D ((Inv.gens I (kill_bare I.bare)).wish _) q) (fun f z G r hk hz => ⟨?_, hk⟩) fun _ _ _ _ hz => hz
  exact SP.gens (r.bare (SP.bare (X := X.nox) hz)) (L2.SP.unwish hz)
end
end TB

set_option maxRecDepth 100000
namespace TB
open PySem PySem.Spec PyProof.Rows L2
open Sem (wp)
/-! a generator's run up to its next yield -/
def SegP (M : Model) (A : Around) (Φ : End → Shared → Prop) (c : Code) (t : Sem PySem.Fin) (fs : List Frame) (s : Shared) : Prop :=
  ∀ (Γ : PySem.Ctx) (p : Pos), Γ.code = c → Γ.Woken A → ∃ e s', Runs M Γ p t fs s e s' ∧ Φ e s'
section
variable {M : Model} {A : Around} {Φ : End → Shared → Prop} {c : Code} {fs : List Frame} {s : Shared}
theorem segp_wrap {α : Type} {m : Sem α} {K : α → Sem PySem.Fin} {J : Value → Sem PySem.Fin} {gd : Bool → Bool} {lv : List Value → List Value}
    (h : wpAny M (A.over c fs) m (fun a s' => SegP M A Φ c (K a) fs s') (fun x s' => SegP M A Φ c (J x) fs s') s) : SegP M A Φ c (m.wrap K J gd lv) fs s := by
  intro Γ p hc hΓ
  subst hc
  exact runs_wrap_of_wp K J gd lv m (h _ p (hΓ.over fs)) (fun a q s' z => z Γ q rfl hΓ) fun x q s' z => z Γ q rfl hΓ
theorem segp_bw {α β : Type} {m : Sem α} {f : α → Sem β} {K : β → Sem PySem.Fin} {J : Value → Sem PySem.Fin} {gd : Bool → Bool} {lv : List Value → List Value}
    (h : wpAny M (A.over c fs) m (fun a s' => SegP M A Φ c ((f a).wrap K J gd lv) fs s') (fun x s' => SegP M A Φ c (J x) fs s') s) : SegP M A Φ c ((m >>= f).wrap K J gd lv) fs s := by
  rw [Sem.bind_eq_wrap', Sem.wrap_wrap]
  exact segp_wrap h
theorem segp_atp {q : Pos} {k : Unit → Sem PySem.Fin} (h : SegP M A Φ c (k ()) fs s) : SegP M A Φ c (.at q k) fs s := by
  intro Γ p hc hΓ
  obtain ⟨e, s', r, z⟩ := h Γ q hc hΓ
  exact ⟨e, s', Runs.head' (fun _ _ x => .at x) r, z⟩
theorem segp_point {l : List Value} {k : Unit → Sem PySem.Fin} (h : SegP M A Φ c (k ()) fs s) : SegP M A Φ c (.point l k) fs s := by
  intro Γ p hc hΓ
  obtain ⟨e, s', r, z⟩ := h Γ p hc hΓ
  exact ⟨e, s', Runs.head' (fun _ _ x => .point x) r, z⟩
theorem segp_call {c' : Code} {hd : Option Value} {g : Bool} {l : List Value} {k : Result → Sem PySem.Fin} (h : ∀ p, SegP M A Φ c' (M.den c') (.ret k hd g l c p [] :: fs) s) : SegP M A Φ c (.call c' hd g l k) fs s := by
  intro Γ p hc hΓ
  subst hc
  obtain ⟨e, s', r, z⟩ := h p (Γ.goto c') p rfl (hΓ.goto c')
  exact ⟨e, s', runs_call_seg r, z⟩
theorem segp_again {c' : Code} (hq : c'.quiet = true) (h : SegP M A Φ c' (M.den c') fs s) : SegP M A Φ c (.pure (.again c')) fs s := by
  intro Γ p hc hΓ
  subst hc
  obtain ⟨e, s', r, z⟩ := h (Γ.goto c') p rfl (hΓ.goto c')
  exact ⟨e, s', Runs.head (c₁ := c') (fun _ _ x => .again hq x) r, z⟩
theorem segp_yield {v : Value} {g : Bool} {l : List Value} {k : Resume → Sem PySem.Fin} (hfs : splitAtGen fs = none) (h : ∀ p, Φ (.susp v g l k c p fs) s) : SegP M A Φ c (.yield v g l k) fs s := by
  intro Γ p hc hΓ
  subst hc
  exact ⟨_, s, Runs.yield' fs hfs, h p⟩
/-- a generator is woken by next -/
def WakesP (M : Model) (A : Around) (Φ : End → Shared → Prop) (gs : GenState) (s : Shared) : Prop :=
  match gs with
  | .fresh c => SegP M A Φ c (M.den c) [] s
  | .suspended k _ c _ fs _ => SegP M A Φ c (k (.send .none)) fs s
  | _ => False
theorem wpAny_resumeP {α : Type} {g : Nat} {gs : GenState} {l : List Value} {k : GenResult → Sem α} {Q : α → Shared → Prop} {E : Value → Shared → Prop} (hg : s.gens[g]? = some gs) (h : WakesP M A Φ gs (s.setGen g .running))
    (hq : ∀ e s₁, s.gens.size ≤ s₁.gens.size → Φ e s₁ → e.quiet = true ∧ wpAny M A (k e.result) Q E (s₁.setGen g e.genState)) : wpAny M A (.resume g (.send .none) l k) Q E s := by
  intro Γ p hΓ
  rw [Sem.wp_resume]
  cases gs with
  | fresh c =>
    obtain ⟨e, s₁, r, z⟩ := h (Γ.wake c p) p rfl (hΓ.wake c p)
    have hz := GenW.runs_gsz r
    rw [GenW.setGen_size] at hz
    obtain ⟨q1, q2⟩ := hq e s₁ hz z
    refine ⟨_, _, ?_, q2 Γ p hΓ⟩
    unfold Wakes
    rw [hg]
    exact ⟨e, s₁, r, q1, rfl, rfl⟩
  | suspended k₀ l₀ c₀ p₀ fs₀ cl =>
    obtain ⟨e, s₁, r, z⟩ := h (Γ.wake c₀ p) p₀ rfl (hΓ.wake c₀ p)
    have hz := GenW.runs_gsz r
    rw [GenW.setGen_size] at hz
    obtain ⟨q1, q2⟩ := hq e s₁ hz z
    refine ⟨_, _, ?_, q2 Γ p hΓ⟩
    unfold Wakes
    rw [hg]
    exact ⟨e, s₁, r, q1, rfl, rfl⟩
  | running => exact h.elim
  | finished => exact h.elim
end
/-! statements of a generator's body -/
section
variable {prog : Program} {w : World} {A : Around} {Φ : End → Shared → Prop} {c : Code} {fs : List Frame} {s : Shared} {env : Env} {K : Flow → Sem PySem.Fin} {J : Value → Sem PySem.Fin} {gd : Bool → Bool} {lv : List Value → List Value}
theorem segp_execs_nil (h : SegP (model prog w) A Φ c (K .next) fs s) : SegP (model prog w) A Φ c ((execs [] env).wrap K J gd lv) fs s := h
theorem segp_execs_cons {st : Stmt} {rest : List Stmt} (h : SegP (model prog w) A Φ c ((exec st env).wrap (fun f => match f with | .next => (execs rest env).wrap K J gd lv | f => K f) J gd lv) fs s) :
    SegP (model prog w) A Φ c ((execs (st :: rest) env).wrap K J gd lv) fs s := by
  rw [execs_cons_wrap]
  exact h
/-- a statement that yields nothing -/
theorem segp_exec {st : Stmt} (h : wpAny (model prog w) (A.over c fs) (exec st env) (fun f s' => SegP (model prog w) A Φ c (K f) fs s') (fun x s' => SegP (model prog w) A Φ c (J x) fs s') s) :
    SegP (model prog w) A Φ c ((exec st env).wrap K J gd lv) fs s := segp_wrap h
theorem segp_Yield {e : Expr} {ypos pos : Pos} (hfs : splitAtGen fs = none) (hco : env.scope.isCoroutine = false) (hi : interactive env = false)
    (h : wpAny (model prog w) (A.over c fs) (eval e env) (fun v s' => ∀ (k : Resume → Sem PySem.Fin) (p : Pos), k (.send .none) = K .next → Φ (.susp v (gd false) (lv []) k c p fs) s')
      (fun x s' => SegP (model prog w) A Φ c (J x) fs s') s) :
    SegP (model prog w) A Φ c ((exec (.Expr (.Yield (some e) ypos) pos) env).wrap K J gd lv) fs s := by
  rw [exec_Expr env _ pos hi rfl]
  refine segp_atp ?_
  show SegP (model prog w) A Φ c (((eval e env >>= fun v => (standAt ypos >>= fun _ => yieldOut env v)) >>= fun x => dropValue (.Yield (some e) ypos) pos x).wrap K J gd lv) fs s
  rw [Sem.bind_eq_wrap', Sem.bind_eq_wrap', Sem.wrap_wrap, Sem.wrap_wrap]
  refine segp_wrap (wpAny_mono h (fun v s' hv => ?_) fun _ _ x => x)
  have hy : yieldOut env v = yieldValue v := by simp only [yieldOut, hco, Bool.false_eq_true, if_false]
  refine segp_atp ?_
  rw [hy]
  refine segp_yield hfs fun p => ?_
  exact hv _ p rfl
/-- for .. in .. : up to the loop -/
theorem segp_For {tg iter : Expr} {body : List Stmt} {pos : Pos}
    (h : wpAny (model prog w) (A.over c fs) (eval iter env) (fun x s1 => wpAny (model prog w) (A.over c fs) (pyIter x) (fun it s2 =>
      ∀ (k : Result → Sem PySem.Fin) (p : Pos), SegP (model prog w) A Φ (.forLoop tg it body [] env) ((model prog w).den (.forLoop tg it body [] env)) (.ret k none (gd false) (lv []) c p [] :: fs) s2) (fun _ _ => False) s1) (fun _ _ => False) s)
    (hs : ∀ x, foldedSetIterable iter env x = pure x := by intro _; rfl) : SegP (model prog w) A Φ c ((exec (.For tg iter body [] pos) env).wrap K J gd lv) fs s := by
  rw [exec_For]
  refine segp_bw (wpAny_standAt ?_)
  refine segp_bw (wpAny_mono h (fun x s1 h1 => ?_) fun _ _ z => z.elim)
  refine segp_bw (wpAny_of_eq (hs x) ?_)
  refine segp_bw (wpAny_standAt ?_)
  refine segp_bw (wpAny_holding (wpAny_mono h1 (fun it s2 h2 => ?_) fun _ _ z => z.elim))
  unfold runOwn
  rw [Sem.onRaise_eq_wrap, Sem.wrap_wrap]
  exact segp_call fun p => h2 _ p
/-- one turn of such a loop -/
theorem segp_forLoop {tg : Expr} {it : Value} {body : List Stmt}
    (h : wpAny (model prog w) (A.over (.forLoop tg it body [] env) fs) (pyNext it) (fun r s1 => ∃ v, r = some v ∧
      wpAny (model prog w) (A.over (.forLoop tg it body [] env) fs) (letOwnedTupleGo tg it v) (fun _ s2 => wpAny (model prog w) (A.over (.forLoop tg it body [] env) fs) (assign tg env v) (fun _ s3 =>
        ∀ (KK : Flow → Sem PySem.Fin) (JJ : Value → Sem PySem.Fin), KK .next = .pure (.again (.forLoop tg it body [] env)) →
          SegP (model prog w) A Φ (.forLoop tg it body [] env) ((execs body env).wrap KK JJ id id) fs s3) (fun _ _ => False) s2) (fun _ _ => False) s1) (fun _ _ => False) s) :
    SegP (model prog w) A Φ (.forLoop tg it body [] env) ((model prog w).den (.forLoop tg it body [] env)) fs s := by
  show SegP (model prog w) A Φ _ ((forTurn tg it body [] env).onRaise (fun x => do noteFrame x env; theTreesLotGoes x)) fs s
  unfold forTurn
  rw [Sem.onRaise_eq_wrap]
  refine segp_bw (wpAny_standAt ?_)
  refine segp_bw (wpAny_onRaise (wpAny_mono h (fun r s1 h1 => ?_) fun _ _ z => z.elim))
  obtain ⟨v, rfl, h1⟩ := h1
  refine segp_bw (wpAny_mono h1 (fun _ s2 h2 => ?_) fun _ _ z => z.elim)
  refine segp_bw (wpAny_mono h2 (fun _ s3 h3 => ?_) fun _ _ z => z.elim)
  rw [Sem.bind_eq_wrap', Sem.wrap_wrap]
  exact h3 _ _ rfl
/-- the generator's own code -/
theorem segp_func {body : List Stmt} (h : ∀ (KK : Flow → Sem PySem.Fin) (JJ : Value → Sem PySem.Fin), SegP (model prog w) A Φ (.func body env) ((execs body env).wrap KK JJ id id) [] s) :
    SegP (model prog w) A Φ (.func body env) ((model prog w).den (.func body env)) [] s := by
  show SegP (model prog w) A Φ _ (.point [] fun _ => ((execs body env).onRaise (leaving env)) >>= _) [] s
  refine segp_point ?_
  rw [Sem.onRaise_eq_wrap, Sem.bind_eq_wrap', Sem.wrap_wrap]
  exact h _ _
end
end TB

set_option maxRecDepth 100000
namespace TB
open PySem
open Sem (wp)
/-! enumerate over a generator -/
abbrev enumO (a : Addr) (i : Int) (fr : Value) (old : Value) : Obj := { cls := .type "enumerate", data := .fields #[fr, .bool false, .ref a, rawInt i, .none, old] }
set_option maxHeartbeats 1000000 in
theorem new_enum_gen (a : Addr) (g : Nat) :
    Meets (Builtin.«enumerate.__new__» ⟨[.type "enumerate", .ref a], []⟩) (fun _ R s => s.heap.IsGen a g ∧
      R (.ok (.ret (.ref s.heap.objs.size))) { s with heap := s.heap.push (enumO a 0 .none .none) }) :=
  .of_wp fun prog w A R s h => by
    obtain ⟨hp, g, d, tk, os⟩ := s
    obtain ⟨hl, h⟩ := h
    have hsub := sub_enumerate
    wp_walk using wpAny_pyIter_gen hl
    refine wpAny_stack_any fun st => wpAny_pure ?_
    split
    · rename_i c _ _ _ _ _
      cases (c == Value.type "enumerate")
      all_goals
        wp_walk using wpAny_pyIter_gen hl
        exact ⟨_, rfl, h⟩
    · wp_walk using wpAny_pyIter_gen hl
      exact ⟨_, rfl, h⟩
section
variable {prog : Program} {w : World} {A : Around} {E : Value → Shared → Prop} {s : Shared}
theorem call_enum_gen {a : Addr} {g : Nat} {Q : Value → Shared → Prop} (hg : s.heap.IsGen a g) (h : Q (.ref s.heap.objs.size) { s with heap := s.heap.push (enumO a 0 .none .none) }) :
    wpAny (model prog w) A (call (.type "enumerate") [.ref a]) Q E s := by
  have he : (s.heap.push (enumO a 0 .none .none)).get? s.heap.objs.size = some (enumO a 0 .none .none) := Heap.get?_push_size _ rfl
  exact callType_new F.called_enumerate (by decide) (F.typeCall_enumerate_1 _)
    (F.newCall_enumerate_1 _) (fun obj => F.args_object_init_2 obj _) F.entry_enumerate_new
    (new_enum_gen a g) ⟨hg, ⟨_, he, rfl⟩, h⟩
abbrev pairO (i : Int) (t : Tok) (x : Value) : Obj := { cls := .type "tuple", data := .seq #[.int i t, x] }
/-- what the next step of an enumerate wants behind its source's next -/
def EnumK (e it : Addr) (i : Int) (old : Value) (Q : Value → Shared → Prop) (x : Value) (s1 : Shared) : Prop :=
  s1.heap.get? e = some (enumO it i .none old) ∧ ∀ h' : Heap, h'.get? e = some (enumO it (i + 1) (rawInt s1.heap.objs.size) x) → h'.get? s1.heap.objs.size = some (pairO i s1.toks x) → h'.objs.size = s1.heap.objs.size + 1 →
    (∀ b o, b ≠ e → s1.heap.get? b = some o → h'.get? b = some o) → Q (.ref s1.heap.objs.size) { s1 with heap := h', toks := s1.toks + 1 }
theorem enum_next {e it : Addr} {i : Int} {old : Value} {Q : Value → Shared → Prop} (he : s.heap.get? e = some (enumO it i .none old))
    (hn : wpAny (model prog w) A (Builtin.SmallTypes.nextOf (.ref it)) (EnumK e it i old Q) E s) :
    wpAny (model prog w) A (Builtin.«enumerate.__next__» ⟨[.ref e], []⟩) (fun fin s' => ∃ v, fin = .done (.ret v) ∧ Q v s') E s := by
  show wpAny _ _ (field (.ref e) 2 >>= _) _ _ _
  refine wpAny_bind (wpAny_field he rfl (x := .ref it) rfl ?_)
  refine wpAny_bind (wpAny_mono hn (fun x s1 hx => ?_) fun _ _ z => z)
  obtain ⟨e1, k⟩ := hx
  obtain ⟨hp, g, d, tk, os⟩ := s1
  replace e1 : hp.get? e = some (enumO it i .none old) := e1
  show wpAny _ _ (field (.ref e) 3 >>= _) _ _ _
  refine wpAny_bind (wpAny_field e1 rfl (x := rawInt i) rfl ?_)
  show wpAny _ _ (field (.ref e) 4 >>= _) _ _ _
  refine wpAny_bind (wpAny_field e1 rfl (x := Value.none) rfl ?_)
  show wpAny _ _ (mkInt i >>= _) _ _ _
  refine wpAny_bind (wpAny_mkInt ?_)
  show wpAny _ _ (setField (.ref e) 3 (rawInt (i + 1)) >>= _) _ _ ⟨hp, g, d, tk + 1, os⟩
  refine wpAny_bind (wpAny_setField_rec e1 (by simp) fun h2 e2 b2 => ?_)
  replace e2 : h2.get? e = some (enumO it (i + 1) .none old) := e2
  replace b2 : Heap.SameBut e hp h2 := b2
  show wpAny _ _ (setField (.ref e) 4 .none >>= _) _ _ ⟨h2, g, d, tk + 1, os⟩
  refine wpAny_bind (wpAny_setField_rec e2 (by simp) fun h3 e3 b3 => ?_)
  replace e3 : h3.get? e = some (enumO it (i + 1) .none old) := e3
  replace b3 : Heap.SameBut e h2 h3 := b3
  show wpAny _ _ (newTuple [.int i tk, x] >>= _) _ _ ⟨h3, g, d, tk + 1, os⟩
  refine wpAny_bind (wpAny_newTuple ?_)
  have sz3 : h3.objs.size = hp.objs.size := by rw [b3.1, b2.1]
  have el : e < hp.objs.size := Heap.lt_size e1
  have e4 : (h3.push (pairO i tk x)).get? e = some (enumO it (i + 1) .none old) := Heap.get?_push_of_some _ e3
  have t4 : (h3.push (pairO i tk x)).get? hp.objs.size = some (pairO i tk x) := by
    rw [← sz3]
    exact Heap.get?_push_size _ rfl
  have z4 : (h3.push (pairO i tk x)).objs.size = hp.objs.size + 1 := by rw [Heap.size_push, sz3]
  have k4 : ∀ b o, b ≠ e → hp.get? b = some o → (h3.push (pairO i tk x)).get? b = some o := fun b o hb hq => Heap.get?_push_of_some _ ((b3.2 b hb).trans ((b2.2 b hb).trans hq))
  show wpAny _ _ (Builtin.SmallTypes.ownedTupleIsFree (.ref e) >>= _) _ _ ⟨h3.push (pairO i tk x), g, d, tk + 1, os⟩
  rw [sz3]
  generalize h3.push (pairO i tk x) = h4 at e4 t4 z4 k4 ⊢
  unfold Builtin.SmallTypes.ownedTupleIsFree
  refine wpAny_bind (wpAny_bind (wpAny_field e4 rfl (x := Value.none) rfl (wpAny_pure ?_)))
  simp only [if_true]
  refine wpAny_bind (wpAny_rule ?_)
  refine wpAny_bind (wpAny_field e4 rfl (x := old) rfl ?_)
  refine wpAny_bind (wpAny_setField_rec e4 (by simp) fun h5 e5 b5 => ?_)
  replace e5 : h5.get? e = some (enumO it (i + 1) .none x) := e5
  replace b5 : Heap.SameBut e h4 h5 := b5
  show wpAny _ _ (Builtin.SmallTypes.ownedTupleHandOut (.ref e) (.ref hp.objs.size) >>= _) _ _ ⟨h5, g, d, tk + 1, os⟩
  unfold Builtin.SmallTypes.ownedTupleHandOut
  refine wpAny_bind (wpAny_bind (wpAny_setField_rec e5 (by simp) fun h6 e6 b6 => ?_))
  replace e6 : h6.get? e = some (enumO it (i + 1) (rawInt hp.objs.size) x) := e6
  replace b6 : Heap.SameBut e h5 h6 := b6
  refine wpAny_setField_rec e6 (by simp) fun h7 e7 b7 => ?_
  replace e7 : h7.get? e = some (enumO it (i + 1) (rawInt hp.objs.size) x) := e7
  replace b7 : Heap.SameBut e h6 h7 := b7
  have nt : hp.objs.size ≠ e := Nat.ne_of_gt el
  refine wpAny_bind (wpAny_letGo (wpAny_pure ⟨_, rfl, k h7 e7 ?_ ?_ ?_⟩))
  · exact (b7.2 _ nt).trans ((b6.2 _ nt).trans ((b5.2 _ nt).trans t4))
  · rw [b7.1, b6.1, b5.1, z4]
  · exact fun b o hb hq => (b7.2 b hb).trans ((b6.2 b hb).trans ((b5.2 b hb).trans (k4 b o hb hq)))
theorem pyNext_enum {e it : Addr} {i : Int} {old : Value} {Q : Option Value → Shared → Prop} (he : s.heap.get? e = some (enumO it i .none old))
    (hn : wpAny (model prog w) A.in1 (Builtin.SmallTypes.nextOf (.ref it)) (EnumK e it i old fun v => Q (some v)) (fun _ _ => False) s) :
    wpAny (model prog w) A (pyNext (.ref e)) Q E s := by
  have hT : s.TypeIs (.ref e) "enumerate" := ⟨_, he, rfl⟩
  unfold pyNext
  refine wpAny_bind (wpAny_attempt (wpAny_callSpecial?_slot (name := Str.ofString "__next__") hT F.slot_enumerate_next ?_))
  refine wpAny_call_entry F.slot_enumerate_next hT F.entry_enumerate_next ?_ (F.args_enumerate_next_1 _)
  refine wpAny_mono (enum_next he hn) (fun fin s' hf => ?_) fun _ _ z => z.elim
  obtain ⟨v, hv, q⟩ := hf
  exact ⟨v, hv, wpAny_pure q⟩
/-- next of a generator that yields -/
theorem nextOf_gen {a : Addr} {g : Nat} {gs : GenState} {Φ : End → Shared → Prop} {Q : Value → Shared → Prop} (hl : s.heap.NoLimit) (hroom : A.depth < recursionLimit) (hg : s.heap.IsGen a g) (hgs : s.gens[g]? = some gs)
    (hw : WakesP (model prog w) A.in1 Φ gs (s.setGen g .running))
    (hq : ∀ e s1, s.gens.size ≤ s1.gens.size → Φ e s1 → ∃ v gd l k c p fs, e = .susp v gd l k c p fs ∧ e.quiet = true ∧ Q v (s1.setGen g e.genState)) :
    wpAny (model prog w) A (Builtin.SmallTypes.nextOf (.ref a)) Q E s := by
  unfold Builtin.SmallTypes.nextOf
  refine wpAny_bind (wpAny_callSpecial?_slot (name := Str.ofString "__next__") hg.typeIs slot_gen_next ?_)
  refine wpAny_call_entry slot_gen_next hg.typeIs entry_gen_next ?_ (args_gen_next _)
  show wpAny _ A.in1 (Builtin.Generator.genWake (.ref a) (.send .none)) _ _ s
  unfold Builtin.Generator.genWake
  refine wpAny_bind (wpAny_holding (wpAny_genNumber hg (wpAny_bind (wpAny_genState hgs ?_))))
  cases gs with
  | running => exact hw.elim
  | finished => exact hw.elim
  | _ =>
    refine wpAny_bind (wpAny_roomToWake hl hroom ?_)
    show wpAny _ A.in1 (.resume g (.send .none) [] _) _ _ s
    refine wpAny_resumeP hgs hw fun e s1 hz hp => ?_
    obtain ⟨v, gd, l, k, c, p, fs, rfl, hqt, q⟩ := hq e s1 hz hp
    exact ⟨hqt, wpAny_pure ⟨v, rfl, wpAny_pure q⟩⟩
end
end TB

set_option maxRecDepth 100000
namespace TB
open PySem PySem.Spec PyProof.Rows L2
/-! the text by places -/
def top (i : Nat) : Stmt := PySem.Challenge.pw_turnbalance_k19_whole_great_products.main.body.getD i (.Pass ⟨0, 0, 0, 0⟩)
def at0 (l : List Stmt) (i : Nat) : Stmt := l.getD i (.Pass ⟨0, 0, 0, 0⟩)
def retE : Stmt → Expr
  | .Return (some e) _ => e
  | _ => .Constant .none 0 ⟨0, 0, 0, 0⟩
def compSc : Expr → Scope
  | .DictComp (scope := s) .. => s
  | .ListComp (scope := s) .. => s
  | _ => ⟨.function, [], false, false, []⟩
abbrev sNB : Stmt := top 18
abbrev sBR : Stmt := top 19
theorem t1 : FnScope ["row", "degree", "position", "choices"] ["row", "degree"] (defScope sNB) := ⟨rfl, rfl, rfl, by decide +kernel, rfl, by decide +kernel, by decide +kernel⟩
end TB

set_option maxRecDepth 100000
namespace TB
open PySem PySem.Spec PyProof.Rows L2
/-! the heap's part below an address -/
def trunc (L : Addr) (h : Heap) : Heap := { h with objs := h.objs.extract 0 L }
theorem trunc_size (L : Addr) (h : Heap) : (trunc L h).objs.size ≤ L := by
  show (h.objs.extract 0 L).size ≤ L
  rw [Array.size_extract]
  exact Nat.min_le_left ..
theorem trunc_some {L b : Addr} {h : Heap} {o : Obj} (e : (trunc L h).get? b = some o) : b < L ∧ h.get? b = some o := by
  have hlt := Heap.lt_size e
  have hs := trunc_size L h
  have hb : b < L := Nat.lt_of_lt_of_le hlt hs
  refine ⟨hb, ?_⟩
  have e2 : (trunc L h).objs[b]? = h.objs[b]? := by
    show (h.objs.extract 0 L)[b]? = h.objs[b]?
    rw [Array.getElem?_extract]
    have : b < min L h.objs.size - 0 := by
      rw [show (trunc L h).objs.size = min L h.objs.size - 0 from Array.size_extract ..] at hlt
      exact hlt
    rw [if_pos this]
    simp
  unfold Heap.get? at e ⊢
  rw [e2] at e
  exact e
theorem trunc_of {L b : Addr} {h : Heap} {o : Obj} (hb : b < L) (e : h.get? b = some o) : (trunc L h).get? b = some o := by
  have hlt := Heap.lt_size e
  have e2 : (trunc L h).objs[b]? = h.objs[b]? := by
    show (h.objs.extract 0 L)[b]? = h.objs[b]?
    rw [Array.getElem?_extract, if_pos (show b < min L h.objs.size - 0 from Nat.lt_min.mpr ⟨hb, hlt⟩)]
    simp
  unfold Heap.get? at e ⊢
  rw [e2]
  exact e
/-- a generator's frame at work: the heap below it is what a call leaves -/
def gX (P : Program) (w : World) (K : PySem.W.Frag) (mg : Str → Option Value) (base : Heap) (N : List Str) (env : Env) (A : Around) (stack : List Env) (s : Shared) (H : Hp) : Cx :=
  { prog := P, w := w, K := K, mg := mg, base := base, A := A.deeper env, N := N, s_0 := { s with heap := trunc env.locals s.heap }, H_0 := H, env := env, outer := stack, stack := env :: stack, ex := [], fn := fun _ => true, calm := true, pn := [], xe := fun _ _ => False }
structure GEnv (base : Heap) (env : Env) (stack : List Env) : Prop where
  kind : env.scope.kind = .function
  glob : env.globals = mainGlobals
  blt : env.builtins = builtinsNs
  cells : env.cells = []
  nocell : ∀ x, env.kindOf x ≠ some .cell ∧ env.kindOf x ≠ some .free
  fr : env.frame = some env.locals
  lo : base.objs.size ≤ env.locals
  frs : ∀ b ∈ L2.frs stack, b < env.locals
section
variable {P : Program} {w : World} {K : PySem.W.Frag} {mg : Str → Option Value} {base : Heap} {N : List Str} {env : Env} {A : Around} {stack : List Env} {s : Shared} {H : Hp} {σ : L2.St} {pins : List (Addr × Obj)}
theorem funs_trunc {L : Addr} {h : Heap} : ∀ {l : List Env}, (∀ b ∈ L2.frs l, b < L) → h.FunFrames base l → (trunc L h).FunFrames base l
  | [], _, _ => trivial
  | e :: l, hb, ⟨hk, ⟨M, o, hf, hn, ho, hd⟩, hr⟩ => by
    have hm : M ∈ L2.frs (e :: l) := by
      unfold L2.frs
      rw [List.filterMap_cons, hf]
      exact List.mem_cons_self
    refine ⟨hk, ⟨M, o, hf, hn, trunc_of (hb M hm) ho, hd⟩, funs_trunc (fun b hm => hb b ?_) hr⟩
    unfold L2.frs at hm ⊢
    rw [List.filterMap_cons, hf]
    exact List.mem_cons_of_mem _ hm
theorem gen_inv (G : GEnv base env stack) (e0 : Env0 P w K mg base A stack s H) (hd : A.handled = none) (hL : H env.locals = none) (hlen : σ.length = N.length) (hsz : env.locals < s.heap.objs.size)
    (hns : ∃ m, s.heap.Ns env.locals m ∧ ∀ (i : Nat) (x : Str) (v : V), N[i]? = some x → σ[i]? = some (some v) → Vis env.scope x → ∃ u, RelV v u ∧ env.kindOf x = some .local ∧ m x = some u)
    (hp : ∀ p ∈ pins, s.heap.get? p.1 = some p.2 ∧ H p.1 = none ∧ p.1 ≠ env.locals ∧ p.1 ∉ L2.frs stack ∧ ∀ v, p.2.data ≠ .cell v) :
    Inv (gX P w K mg base N env A stack s H) pins σ H s := by
  have hc : ∀ x c, env.cells.lookup x = some c → False := fun x c e => by
    rw [G.cells] at e
    cases e
  refine ⟨⟨e0.mod, G.kind, G.glob, G.blt, trunc_size _ _, fun x y c h _ => (hc x c h).elim, fun x hx => ?_, fun x c _ h => (hc x c h).elim, fun _ => hd, Around.frames_deeper e0.frames, .inr ⟨rfl, G.fr⟩, fun b hb => (by cases hb), fun b o e => ⟨?_, (e0.bs b o e).2⟩, ?_, fun b o e hb => (by cases hb), fun b hb => (by cases hb), funs_trunc G.frs e0.funs, e0.frf⟩,
    rfl, e0.bare, Un.kept fun b o e => (trunc_some e).2, ?_, fun x c e => (hc x c e).elim, hL, fun x c e => (hc x c e).elim, fun p hpp => hp p (by simpa [gX] using hpp), e0.hok, hlen⟩
  · rcases hx with h | h
    · exact absurd h (G.nocell x).1
    · exact absurd h (G.nocell x).2
  · exact trunc_of (Nat.lt_of_lt_of_le (Heap.lt_size e) G.lo) (e0.bs b o e).1
  · show base.objs.size ≤ (s.heap.objs.extract 0 env.locals).size
    rw [Array.size_extract]
    have h1 := G.lo
    have h2 := e0.bsz
    omega
  · obtain ⟨m, hn, hl⟩ := hns
    refine ⟨m, hn, fun i x v h1 h2 h3 => ?_⟩
    obtain ⟨u, r, k, e⟩ := hl i x v h1 h2 h3
    exact ⟨u, r, .inl ⟨k, e⟩⟩
end
end TB

set_option maxRecDepth 100000
set_option maxHeartbeats 4000000
namespace TB
open PySem PySem.Spec PyProof.Rows L2
/-! binomial_rows: the generator -/
def forBody : Stmt → List Stmt
  | .For _ _ b _ _ => b
  | _ => []
def forTg : Stmt → Expr
  | .For t _ _ _ _ => t
  | _ => .Constant .none 0 ⟨0, 0, 0, 0⟩
def forIter : Stmt → Expr
  | .For _ i _ _ _ => i
  | _ => .Constant .none 0 ⟨0, 0, 0, 0⟩
abbrev sBRf : Stmt := at0 (defBody sBR) 1
abbrev sBR0 : Stmt := at0 (defBody sBR) 0
abbrev stY : Stmt := at0 (forBody sBRf) 0
abbrev stA : Stmt := at0 (forBody sBRf) 1
abbrev NBR : List Str := ["length", "degree", "row", "number"]
def rowV (N d : Nat) : List V := (List.range N).map fun i => V.int (ch i d : Int)
theorem rowV_len (N d : Nat) : (rowV N d).length = N := by simp [rowV]
theorem rowV_get {N d i : Nat} (h : i < N) : (rowV N d)[i]? = some (.int (ch i d : Int)) := by
  unfold rowV
  rw [List.getElem?_map, List.getElem?_range h]
  rfl
/-- next_binomials -/
def spNB (K : PySem.W.Frag) : Sp := fun vs H Q _ => ∃ (a : Addr) (N d : Nat), vs = [.ref a, .int (d : Int)] ∧ SqL K H a (rowV N d) ∧ N ≤ 100 ∧ d ≤ 200 ∧
  ∀ H' p, Same H H' → H p = none → H' p = some (.lst (rowV N (d + 1))) → Q (.ref p) H'
abbrev eG (L f : Addr) (cd : Value) : Env := envOfC "binomial_rows" (defScope sBR) L f cd
theorem gEnv {base : Heap} {L f : Addr} {cd : Value} {stack : List Env} (h : base.objs.size ≤ L) (h2 : ∀ b ∈ L2.frs stack, b < L) : GEnv base (eG L f cd) stack := by
  refine ⟨rfl, rfl, rfl, rfl, fun x => ?_, rfl, h, h2⟩
  have no : ∀ y ∈ (defScope sBR).names, y.2 ≠ .cell ∧ y.2 ≠ .free := by decide +kernel
  refine ⟨fun e => ?_, fun e => ?_⟩
  · exact (no (x, .cell) (PySem.mem_of_lookup e)).1 rfl
  · exact (no (x, .free) (PySem.mem_of_lookup e)).2 rfl
/-- what stands about a generator: its frame L, the iterator's objects fp with their turns tn, the objects kp that the caller wants kept -/
structure GDat where
  P : Program
  w : World
  K : PySem.W.Frag
  mg : Str → Option Value
  base : Heap
  L : Addr
  f : Addr
  cd : Value
  N : Nat
  it : Addr
  fp : List Addr
  tn : Nat → Heap → Prop
  kp : List Addr
  k : Nat
def GDat.env (D : GDat) : Env := eG D.L D.f D.cd
abbrev gσ (N : Nat) (r : Addr) (j : Nat) : L2.St := [some (.int (N : Int)), some (.int (N : Int)), some (.ref r), some (.int (j : Int))]
/-- the frame's names -/
def Names (D : GDat) (σ : L2.St) (s : Shared) : Prop :=
  ∃ m, s.heap.Ns D.L m ∧ ∀ (i : Nat) (x : Str) (v : V), NBR[i]? = some x → σ[i]? = some (some v) → Vis (defScope sBR) x → ∃ u, RelV v u ∧ D.env.kindOf x = some .local ∧ m x = some u
/-- asleep behind the yield of row j, which stands at r -/
structure Asl (D : GDat) (r : Addr) (j : Nat) (s : Shared) (H : Hp) : Prop where
  ns : Names D (gσ D.N r j) s
  row : H r = some (.lst (rowV D.N j))
  tn : D.tn (j + 1) s.heap
  fpn : ∀ b ∈ D.fp, H b = none
  hL : H D.L = none
structure KpOk (D : GDat) (stack : List Env) (s : Shared) (H : Hp) : Prop where
  at_ : ∀ b ∈ D.kp, ∃ o, s.heap.get? b = some o ∧ H b = none ∧ b ∉ L2.frs stack ∧ ∀ v, o.data ≠ .cell v
structure GPost (D : GDat) (stack : List Env) (s : Shared) (H : Hp) (s' : Shared) (H' : Hp) : Prop where
  os : s'.os = s.os
  bare : AllBare s'.gens
  un : Un (L2.frs stack) [] H H' (trunc D.L s.heap) s'.heap
  hok : HOk D.P D.w H' s'.heap
  same : Same H H'
  kp : ∀ b ∈ D.kp, ∀ o, s.heap.get? b = some o → s'.heap.get? b = some o ∧ H' b = none
/-- the run up to the next yield, of row j -/
def Yields (D : GDat) (stack : List Env) (s : Shared) (H : Hp) (j : Nat) (Nx : GenState → Prop) (e : End) (s' : Shared) : Prop :=
  (∃ v l k c p fs, e = .susp v false l k c p fs ∧ e.quiet = true ∧ ∃ H' r, v = .ref r ∧ GPost D stack s H s' H' ∧ Asl D r j s' H') ∧ Nx e.genState
def Sl (D : GDat) : Nat → Nat → GenState → Prop
  | 0, _, gs => susp gs = true
  | n + 1, j, gs => susp gs = true ∧ ∀ (A : Around) (stack : List Env) (s : Shared) (H : Hp) (r : Addr), Room D.k (A.deeper D.env) → Env0 D.P D.w D.K D.mg D.base A stack s H → (∀ b ∈ L2.frs stack, b < D.L) → KpOk D stack s H → Asl D r j s H →
      WakesP (model D.P D.w) A (Yields D stack s H (j + 1) (Sl D n (j + 1))) gs s
theorem Sl.susp {D : GDat} {n j : Nat} {gs : GenState} (h : Sl D n j gs) : susp gs = true := by
  cases n with
  | zero => exact h
  | succ n => exact h.1
/-- what stays true through the generator's life -/
structure GOk (D : GDat) : Prop where
  turn : Turn D.P D.w D.K (forTg sBRf) (Itr 0 (D.N + 1)) D.fp D.it D.tn
  fpS : ∀ b ∈ D.fp, D.L < b ∧ b ∉ D.kp
  kpS : D.L ∉ D.kp
  lo : D.base.objs.size ≤ D.L
  nb : C8.Cal D.P D.w D.K D.mg D.base D.k "next_binomials" (spNB D.K) []
  hN : D.N ≤ 100
section
variable {D : GDat} {A : Around} {stack : List Env} {s : Shared} {H : Hp}
abbrev GDat.X (D : GDat) (A : Around) (stack : List Env) (s : Shared) (H : Hp) : Cx := gX D.P D.w D.K D.mg D.base NBR D.env A stack s H
theorem nd4 : NBR.Nodup := by decide
theorem psA (O : GOk D) (hr : Room D.k (A.deeper D.env)) : PS (D.X A stack s H) stA (tAsg (tCall (spNB D.K) [] C8.E0 (tCons (tVar 2) (tCons (tVar 3) tNil))) (gName 2)) :=
  ps_set (i := 2) nd4 rfl (.inl rfl) (C8.pe_c O.nb hr (Nat.le_refl _) rfl (pa_cons (pv 2) (pa_cons (pv 3) pa_nil)))
theorem pgN : PG (D.X A stack s H) (forTg sBRf) (gName 3) := pg_name (i := 3) nd4 rfl (.inl rfl)
end
end TB

set_option maxRecDepth 100000
set_option maxHeartbeats 4000000
namespace TB
open PySem PySem.Spec PyProof.Rows L2
section
variable {D : GDat} {A : Around} {stack : List Env} {s : Shared} {H : Hp}
abbrev GDat.cF (D : GDat) : Code := .forLoop (forTg sBRf) (.ref D.it) (forBody sBRf) [] D.env
abbrev GDat.cB (D : GDat) : Code := .func (defBody sBR) D.env
theorem over_cF {kk : Result → Sem PySem.Fin} {p : Pos} : A.over D.cF [.ret kk none false [] D.cB p []] = A.deeper D.env :=
  (GenW.over_loop rfl rfl).trans GenW.over_func
theorem names_of {σ : L2.St} {pins : List (Addr × Obj)} {s1 : Shared} {H1 : Hp} (I : Inv (D.X A stack s H) pins σ H1 s1) : Names D σ s1 := by
  obtain ⟨m, hn, hl⟩ := I.loc
  refine ⟨m, hn, fun i x v h1 h2 h3 => ?_⟩
  obtain ⟨u, r, l⟩ := hl i x v h1 h2 h3
  rcases l with ⟨k, e⟩ | ⟨_, c, e, _⟩
  · exact ⟨u, r, k, e⟩
  · exact absurd (show ([] : List (Str × Addr)).lookup x = some c from e) (by simp)
theorem post_of {σ : L2.St} {pins : List (Addr × Obj)} {s1 : Shared} {H1 : Hp} (I : Inv (D.X A stack s H) (pinsAt D.kp s.heap ++ pins) σ H1 s1) (hs : Same H H1) : GPost D stack s H s1 H1 :=
  ⟨I.os, I.bare, I.base, I.hok, hs, fun b hb o e =>
    let z := I.pin (b, o) (List.mem_append_right _ (List.mem_append_left _ (mem_pinsAt hb e)))
    ⟨z.1, z.2.1⟩⟩
/-- from the loop's head to the yield -/
theorem seg_head (O : GOk D) {σ1 : L2.St} {s1 : Shared} {H1 : Hp} {r1 : Addr} {j1 : Nat} {x3 : Option V} {kk : Result → Sem PySem.Fin} {p' : Pos} {Nx : GenState → Prop} (hj : j1 ≤ D.N)
    (I1 : Inv (D.X A stack s H) (pinsAt D.kp s.heap) σ1 H1 s1) (e1 : σ1 = [some (.int (D.N : Int)), some (.int (D.N : Int)), some (.ref r1), x3]) (hrow : H1 r1 = some (.lst (rowV D.N j1))) (htn : D.tn j1 s1.heap) (hfp : ∀ b ∈ D.fp, H1 b = none)
    (hfr : ∀ b ∈ L2.frs stack, b < D.L) (hsame : Same H H1)
    (hNx : ∀ (k : Resume → Sem PySem.Fin) (KK : Flow → Sem PySem.Fin) (JJ : Value → Sem PySem.Fin) (p : Pos), k (.send .none) = (execs [stA] D.env).wrap KK JJ id id → KK .next = .pure (.again D.cF) → Nx (.suspended k [] D.cF p [.ret kk none false [] D.cB p' []] false)) :
    SegP (model D.P D.w) A (Yields D stack s H j1 Nx) D.cF ((model D.P D.w).den D.cF) [.ret kk none false [] D.cB p' []] s1 := by
  subst e1
  have stat : ∀ {H' : Hp}, (∀ b ∈ D.fp, H' b = none) → ∀ b ∈ D.fp, FpOk (D.X A stack s H) (pinsAt D.kp s.heap) H' b := fun {H'} hn b hb => by
    obtain ⟨l1, l2⟩ := O.fpS b hb
    refine ⟨hn b hb, Nat.ne_of_gt l1, fun z => Nat.lt_asymm l1 (hfr b z), .inr (Nat.le_trans (trunc_size D.L s.heap) (Nat.le_of_lt l1)), fun x c e => absurd (show ([] : List (Str × Addr)).lookup x = some c from e) (by simp), fun p hp => ?_⟩
    have hp2 : p ∈ pinsAt D.kp s.heap := by simpa [GDat.X, gX] using hp
    intro z
    exact l2 (z ▸ (of_pinsAt hp2).1)
  refine segp_forLoop ?_
  rw [over_cF]
  refine thn (O.turn.item (D.X A stack s H) rfl rfl rfl rfl j1 _ s1 _ H1 (fun _ _ => False) I1 (stat hfp) htn (by show j1 < D.N + 1; omega)) fun r s2 ⟨u, hr, h2⟩ => ⟨u, hr, thn h2 fun _ s3 ⟨x, H3, I3, r3, y3, t3, f3⟩ => ?_⟩
  obtain ⟨eH, ex⟩ := y3
  subst eH ex
  have I4 := I3.pinned (stat f3) (O.turn.obj _ _ t3)
  refine thn (pgN.run _ s3 _ H3 _ u (fun σ' H' => σ' = [some (.int (D.N : Int)), some (.int (D.N : Int)), some (.ref r1), some (.int (j1 : Int))] ∧ H' = H3) I4 r3 ⟨?_, rfl⟩) fun _ s5 ⟨σ5, H5, I5, eσ, eH⟩ => ?_
  · rw [Int.zero_add]
    rfl
  subst eσ eH
  intro KK JJ hKK
  show SegP (model D.P D.w) A (Yields D stack s H j1 Nx) D.cF ((execs [stY, stA] D.env).wrap KK JJ id id) [.ret kk none false [] D.cB p' []] s5 
  refine segp_execs_cons ?_
  refine segp_Yield (e := .Name "row" _) rfl rfl rfl ?_
  rw [over_cF]
  have hpv : PE (D.X A stack s H) (.Name "row" ⟨106, 14, 106, 17⟩) (tVar 2) := pv 2
  refine wpAny_mono (hpv.run _ s5 _ H5 (fun v H' => v = .ref r1 ∧ H' = H5) I5 ⟨.ref r1, rfl, rfl, rfl⟩) (fun v s6 ⟨x6, H6, I6, r6, e6, eH6⟩ => ?_) fun _ _ z => z.elim
  subst e6 eH6
  have ev : v = .ref r1 := r6
  subst ev
  intro k p hk
  exact ⟨⟨_, _, _, _, _, _, rfl, rfl, H6, r1, rfl, post_of I6 hsame, ⟨names_of I6, hrow, O.turn.keep _ _ _ t3 fun b hb o ho => (I6.pin (b, o) (List.mem_append_right _ (List.mem_append_right _ (mem_pinsAt hb ho)))).1, f3, I6.free⟩⟩, hNx k KK JJ p hk hKK⟩
end
end TB

set_option maxRecDepth 100000
set_option maxHeartbeats 4000000
namespace TB
open PySem PySem.Spec PyProof.Rows L2
section
variable {D : GDat} {A : Around} {stack : List Env} {s : Shared} {H : Hp}
theorem asl_inv (O : GOk D) {r : Addr} {j : Nat} (hr : Room D.k (A.deeper D.env)) (e0 : Env0 D.P D.w D.K D.mg D.base A stack s H) (hfr : ∀ b ∈ L2.frs stack, b < D.L) (hkp : KpOk D stack s H) (a : Asl D r j s H) :
    Inv (D.X A stack s H) (pinsAt D.kp s.heap ++ pinsAt D.fp s.heap) (gσ D.N r j) H s := by
  obtain ⟨m, hm, hl⟩ := a.ns
  obtain ⟨o, es, ep, ho, hrr⟩ := id hm
  refine gen_inv (gEnv O.lo hfr) e0 hr.hd a.hL rfl (Heap.lt_size ho) ⟨m, ⟨o, es, ep, ho, hrr⟩, hl⟩ fun p hp => ?_
  rcases List.mem_append.mp hp with h | h
  · obtain ⟨h1, h2⟩ := of_pinsAt h
    obtain ⟨o1, k1, k2, k3, k4⟩ := hkp.at_ p.1 h1
    have : o1 = p.2 := Option.some.inj (k1.symm.trans h2)
    subst this
    exact ⟨h2, k2, fun z => O.kpS (by rw [show p.1 = D.L from z] at h1; exact h1), k3, k4⟩
  · obtain ⟨h1, h2⟩ := of_pinsAt h
    obtain ⟨o1, k1, k4⟩ := O.turn.obj _ _ a.tn p.1 h1
    have : o1 = p.2 := Option.some.inj (k1.symm.trans h2)
    subst this
    obtain ⟨l1, l2⟩ := O.fpS p.1 h1
    exact ⟨h2, a.fpn p.1 h1, Nat.ne_of_gt l1, fun z => Nat.lt_asymm l1 (hfr p.1 z), k4⟩
theorem sl_of (O : GOk D) : ∀ (n j : Nat), j + n ≤ D.N → ∀ (k : Resume → Sem PySem.Fin) (KK : Flow → Sem PySem.Fin) (JJ : Value → Sem PySem.Fin) (kk : Result → Sem PySem.Fin) (p p' : Pos),
    k (.send .none) = (execs [stA] D.env).wrap KK JJ id id → KK .next = .pure (.again D.cF) → Sl D n j (.suspended k [] D.cF p [.ret kk none false [] D.cB p' []] false)
  | 0, _, _, _, _, _, _, _, _, _, _ => rfl
  | n + 1, j, hj, k, KK, JJ, kk, p, p', hk, hKK => by
    refine ⟨rfl, fun A stack s H r hr e0 hfr hkp a => ?_⟩
    have I0 := asl_inv O hr e0 hfr hkp a
    show SegP (model D.P D.w) A _ D.cF (k (.send .none)) _ s
    rw [hk]
    refine segp_execs_cons (segp_exec ?_)
    rw [over_cF]
    refine wpAny_mono ((psA O hr).run _ s _ H { nx := fun σ' H' => ∃ p : Addr, σ' = [some (.int (D.N : Int)), some (.int (D.N : Int)), some (.ref p), some (.int (j : Int))] ∧ Same H H' ∧ H' p = some (.lst (rowV D.N (j + 1))), rt := fun _ _ => False } I0 ?_) (fun f s1 h1 => ?_) fun _ _ z => z.elim
    · refine ⟨.ref r, rfl, .int (j : Int), rfl, ?_⟩
      refine ⟨r, D.N, j, rfl, .inl (.inl a.row), O.hN, by have := O.hN; omega, fun H' p hs _ hp => ?_⟩
      exact ⟨p, rfl, hs, hp⟩
    · cases f with
      | next =>
        obtain ⟨σ1, H1, I1, p1, e1, hs1, hp1⟩ := h1
        refine segp_execs_nil ?_
        rw [hKK]
        refine segp_again rfl ?_
        refine seg_head O (j1 := j + 1) (by omega) I1.unpinned e1 hp1 (O.turn.keep _ _ _ a.tn fun b hb o ho => (I1.pin (b, o) (List.mem_append_right _ (List.mem_append_right _ (mem_pinsAt hb ho)))).1) (fun b hb => ?_) hfr hs1 fun k2 KK2 JJ2 p2 h2 h3 => sl_of O n (j + 1) (by omega) k2 KK2 JJ2 kk p2 p' h2 h3
        obtain ⟨o1, k1, _⟩ := O.turn.obj _ _ a.tn b hb
        exact (I1.pin (b, o1) (List.mem_append_right _ (List.mem_append_right _ (mem_pinsAt hb k1)))).2.1
      | brk => obtain ⟨_, _, _, z⟩ := h1; exact z.elim
      | cont => obtain ⟨_, _, _, z⟩ := h1; exact z.elim
      | ret u => obtain ⟨_, _, _, _, _, z⟩ := h1; exact z.elim
end
end TB

set_option maxRecDepth 100000
set_option maxHeartbeats 4000000
namespace TB
open PySem PySem.Spec PyProof.Rows L2
def GDat.w3 (D : GDat) (it : Addr) (fp : List Addr) (tn : Nat → Heap → Prop) : GDat := { D with it := it, fp := fp, tn := tn }
/-- what is known of a generator from its call on -/
structure GPre (D : GDat) : Prop where
  kpS : D.L ∉ D.kp
  lo : D.base.objs.size ≤ D.L
  nb : C8.Cal D.P D.w D.K D.mg D.base D.k "next_binomials" (spNB D.K) []
  hN : D.N ≤ 100
  rg : D.mg "range" = none
section
variable {D : GDat} {A : Around} {stack : List Env} {s : Shared} {H : Hp}
theorem ps0 : PS (D.X A stack s H) sBR0 (tAsg (tOp rRep (tLst (tCons (tC (.int 1)) tNil)) (tVar 0)) (gName 2)) :=
  ps_set (i := 2) nd4 rfl (.inl rfl) (pe_op op_rep (pe_lst (pa_cons pe_int pa_nil)) (pv 0))
theorem pi0 (hg : D.mg "range" = none) : PI (D.X A stack s H) (forTg sBRf) (forIter sBRf) (iRng1 (tCons (tOp (rI0 fun i j => .int (i + j)) (tVar 1) (tC (.int 1))) tNil)) :=
  pi_range1 rfl hg (pa_cons (pe_op op_add (pv 1) pe_int) pa_nil)
theorem rep_one (N : Nat) : (List.replicate N [V.int 1]).flatten = rowV N 0 := by
  unfold rowV
  induction N with
  | zero => rfl
  | succ n ih =>
    rw [List.replicate_succ', List.flatten_append, ih, List.range_succ, List.map_append]
    congr 1
    simp [ch]
theorem first_wake (O : GPre D) (hr : Room D.k (A.deeper D.env)) (e0 : Env0 D.P D.w D.K D.mg D.base A stack s H) (hfr : ∀ b ∈ L2.frs stack, b < D.L) (hkp : KpOk D stack s H)
    (hns : Names D [some (.int (D.N : Int)), some (.int (D.N : Int)), none, none] s) (hL : H D.L = none) :
    WakesP (model D.P D.w) A (fun e s' => ∃ it fp tn, GOk (D.w3 it fp tn) ∧ Yields (D.w3 it fp tn) stack s H 0 (Sl (D.w3 it fp tn) D.N 0) e s') (.fresh (.func (defBody sBR) D.env)) s := by
  have hN := O.hN
  have I0 : Inv (D.X A stack s H) (pinsAt D.kp s.heap) [some (.int (D.N : Int)), some (.int (D.N : Int)), none, none] H s := by
    obtain ⟨m, hm, hl⟩ := hns
    obtain ⟨o, es, ep, ho, hrr⟩ := id hm
    refine gen_inv (gEnv O.lo hfr) e0 hr.hd hL rfl (Heap.lt_size ho) ⟨m, ⟨o, es, ep, ho, hrr⟩, hl⟩ fun p hp => ?_
    obtain ⟨h1, h2⟩ := of_pinsAt hp
    obtain ⟨o1, k1, k2, k3, k4⟩ := hkp.at_ p.1 h1
    have : o1 = p.2 := Option.some.inj (k1.symm.trans h2)
    subst this
    exact ⟨h2, k2, fun z => O.kpS (by rw [show p.1 = D.L from z] at h1; exact h1), k3, k4⟩
  have hLs : D.L < s.heap.objs.size := by
    obtain ⟨m, ⟨o, es, ep, ho, hrr⟩, hl⟩ := hns
    exact Heap.lt_size ho
  refine segp_func fun KK JJ => ?_
  refine segp_execs_cons (segp_exec ?_)
  rw [GenW.over_func]
  refine wpAny_mono (ps0.run _ s _ H { nx := fun σ' H' => ∃ p : Addr, σ' = [some (.int (D.N : Int)), some (.int (D.N : Int)), some (.ref p), none] ∧ Same H H' ∧ H' p = some (.lst (rowV D.N 0)), rt := fun _ _ => False } I0 ?_) (fun f s1 h1 => ?_) fun _ _ z => z.elim
  · refine ⟨by decide, fun p hp => ⟨.int (D.N : Int), rfl, p, (D.N : Int), _, rfl, rfl, upd_same, by omega, by omega, ?_, fun p2 hp2 => ?_⟩⟩
    · show 1 * ((D.N : Int)).toNat ≤ 16777216
      omega
    · have hne : p ≠ p2 := fun z => by rw [← z, upd_same] at hp2; cases hp2
      refine ⟨p2, rfl, fun b o hb => ?_, ?_⟩
      · have h1 : b ≠ p := fun z => by rw [z, hp] at hb; cases hb
        rw [upd_ne (fun z => by rw [← z, upd_ne h1, hb] at hp2; cases hp2), upd_ne h1]
        exact hb
      · rw [upd_same]
        show some (HO.lst (List.replicate ((D.N : Int)).toNat [V.int 1]).flatten) = _
        rw [Int.toNat_natCast, rep_one]
  · cases f with
    | next =>
      obtain ⟨σ1, H1, I1, p1, e1, hs1, hp1⟩ := h1
      subst e1
      refine segp_execs_cons (segp_For ?_)
      rw [GenW.over_func]
      refine wpAny_mono ((pi0 O.rg).run _ s1 _ H1 (fun J H' => J = Itr 0 (D.N + 1) ∧ H' = H1) I1 ?_) (fun x s2 h2 => wpAny_mono h2 (fun itv s3 h3 => ?_) fun _ _ z => z.elim) fun _ _ z => z.elim
      · refine ⟨.int (D.N : Int), rfl, (D.N : Int), 1, rfl, rfl, (D.N : Int) + 1, rfl, by omega, by omega, ?_, rfl⟩
        rfl
      · obtain ⟨it, fp, tn, J, H', rfl, I3, T, t0, hfp, rfl, rfl⟩ := h3
        intro k p
        have fpS : ∀ b ∈ fp, D.L < b ∧ b ∉ D.kp := fun b hb => by
          obtain ⟨_, g2, _, g4, _, g6⟩ := hfp b hb
          refine ⟨Nat.lt_of_le_of_ne ?_ (Ne.symm g2), fun z => ?_⟩
          · rcases g4 with z | z
            · cases z
            · have : (trunc D.L s.heap).objs.size = min D.L s.heap.objs.size - 0 := Array.size_extract ..
              have z' : (trunc D.L s.heap).objs.size ≤ b := z
              rw [this, Nat.sub_zero, Nat.min_eq_left (Nat.le_of_lt hLs)] at z'
              exact z'
          · obtain ⟨o, k1, _⟩ := hkp.at_ b z
            exact g6 (b, o) (List.mem_append_right _ (mem_pinsAt z k1)) rfl
        have OK : GOk (D.w3 it fp tn) := ⟨T, fpS, O.kpS, O.lo, O.nb, O.hN⟩
        have := seg_head (D := D.w3 it fp tn) (A := A) (stack := stack) (s := s) (H := H) OK (x3 := none) (kk := k) (p' := p) (Nx := Sl (D.w3 it fp tn) D.N 0) (j1 := 0) (Nat.zero_le _) I3 rfl hp1 t0 (fun b hb => (hfp b hb).1) hfr hs1
          fun k2 KK2 JJ2 p2 h2 h3 => sl_of OK D.N 0 (by show 0 + D.N ≤ D.N; omega) k2 KK2 JJ2 k p2 p h2 h3
        intro Γ pp hc hΓ
        obtain ⟨e, s', r, z⟩ := this Γ pp hc hΓ
        exact ⟨e, s', r, it, fp, tn, OK, z⟩
    | brk => obtain ⟨_, _, _, z⟩ := h1; exact z.elim
    | cont => obtain ⟨_, _, _, z⟩ := h1; exact z.elim
    | ret u => obtain ⟨_, _, _, _, _, z⟩ := h1; exact z.elim
end
end TB

set_option maxRecDepth 100000
set_option maxHeartbeats 4000000
namespace TB
open PySem PySem.Spec PyProof.Rows L2
/-! the consumer's side -/
def spBR0 : Sp := fun _ _ _ _ => True
abbrev PBR : List Str := ["length", "degree"]
theorem gsBR : GScope NBR PBR (C8.fnScope sBR) := ⟨rfl, rfl, rfl, by decide, rfl, by decide +kernel, by decide +kernel⟩
/-- all that X's states bear lies below L -/
structure Below (X : Cx) (pins : List (Addr × Obj)) (L : Addr) : Prop where
  s0 : X.s_0.heap.objs.size ≤ L
  loc : X.env.locals < L
  cell : ∀ x c, X.env.cells.lookup x = some c → c < L
  fr : ∀ b ∈ L2.frs X.stack, b < L
  pin : ∀ p ∈ X.pn ++ pins, p.1 < L
section
variable {X : Cx} {pins : List (Addr × Obj)} {σ : L2.St} {H : Hp} {s : Shared}
theorem Inv.below (I : Inv X pins σ H s) : Below X pins s.heap.objs.size :=
  ⟨I.sz, I.lt, fun x c e => by obtain ⟨v, q⟩ := I.cell x c e; exact q.lt, fun b hb => Nat.lt_of_not_le fun h => (by
    rcases List.mem_cons.mp (I.stkSub b hb) with z | z
    · exact absurd I.lt (by rw [← z]; exact Nat.not_lt_of_le h)
    · exact I.nofs h z), fun p hp => Heap.lt_size (I.pin p hp).1⟩
/-- the frame's part of a fresh generator -/
def Names0 (L f : Addr) (cd : Value) (N : Nat) (s : Shared) : Prop :=
  ∃ m, s.heap.Ns L m ∧ ∀ (i : Nat) (x : Str) (v : V), NBR[i]? = some x → ([some (.int (N : Int)), some (.int (N : Int)), none, none] : L2.St)[i]? = some (some v) → Vis (defScope sBR) x → ∃ u, RelV v u ∧ (eG L f cd).kindOf x = some .local ∧ m x = some u
structure Made (X : Cx) (pins : List (Addr × Obj)) (σ : L2.St) (H : Hp) (f : Addr) (N : Nat) (cd : Value) (L a : Addr) (g : Nat) (s' : Shared) : Prop where
  below : Below X pins L
  la : L < a
  sz : a < s'.heap.objs.size
  gen : s'.heap.IsGen a g
  gs : s'.gens[g]? = some (.fresh (.func (defBody sBR) (eG L f cd)))
  inv : Inv X pins σ H s'
  ns : Names0 L f cd N s'
  hL : H L = none
  ha : H a = none
  lo : X.base.objs.size ≤ L
theorem run_br {k : Nat} {f : Addr} {fd : FuncData} {N : Nat} {us : List Value} {E : Value → Shared → Prop} (F : C8.Fun X.K "binomial_rows" "binomial_rows" sBR f fd) (hb : Binds X.K fd PBR []) (hr : Room (k + 1) X.A) (I : Inv X pins σ H s) (r : Vals [.int (N : Int), .int (N : Int)] us) :
    wpAny (model X.prog X.w) X.A (call (.ref f) us) (fun u s' => ∃ cd L a g, u = .ref a ∧ Made X pins σ H f N cd L a g s') E s := by
  obtain ⟨oc, od, dV, kV, doc, pm, an, cdv, ct, osl, rfl, lk, hcd⟩ := F.ex
  have hkind : ∀ y ∈ PBR.zip us, (C8.fnScope sBR).names.lookup y.1 = some .local ∨ ((C8.fnScope sBR).names.lookup y.1 = some .cell ∧ ((cellsFrom (s.heap.objs.size + 1) (C8.fnScope sBR).names []).lookup y.1).isSome = true) := fun ⟨n, v⟩ hy => by
    rcases gsBR.par n (List.of_mem_zip hy).1 with q | q
    · exact .inl q
    · exact .inr ⟨q, PySem.W.cellsFrom_some _ _ _ (.inl q)⟩
  have hul : us.length = 2 := by rw [← r.length]; rfl
  have key : codeAny (model X.prog X.w) X.A (.call (.ref f) ⟨us, []⟩) (fun rs s' => match rs with | .ok (.ret u) => ∃ cd L a g, u = .ref a ∧ Made X pins σ H f N cd L a g s' | _ => False) s := by
    have hb2 := hb s us I.kIn (by rw [List.append_nil]; exact hul)
    rw [List.append_nil] at hb2
    refine codeAny_call_generator hr.depth (I.kIn _ _ lk) rfl gsBR.co gsBR.gen rfl (PySem.W.codeRec_of I.kIn hcd) (hb2 _ _ _ _ ?_)
    refine wpAny_newFunctionEnv_cells gsBR.kind hkind fun env he s1 x => ?_
    subst he
    have lim1 : s1.heap.NoLimit := I.nolimit.keeps x.toInCall.keep
    refine ⟨lim1, ?_⟩
    obtain ⟨h1, tk, es1, hk1⟩ := x.done
    have lt1 : s.heap.objs.size < s1.heap.objs.size := x.toInCall.ns.lt
    have I1 : Inv (gcxOf X.prog X.w X.K X.mg X.base NBR "binomial_rows" (C8.fnScope sBR) f cdv X.A X.stack s H (fun _ _ _ => False) []) [] (start NBR [.int (N : Int), .int (N : Int)]) H s1 := inv_startG gsBR hr.hd I.env0 rfl r x
    subst es1
    have IX : Inv X pins σ H { s with heap := h1, toks := tk } := I.kept hk1
    have hsz : ∀ (o : Obj), (h1.push o).objs.size = h1.objs.size + 1 := fun o => Heap.size_push ..
    have push : ∀ (h : Heap) (o : Obj) (g : Array GenState) (t : Nat), AllBare g → (∀ b u, h1.get? b = some u → h.get? b = some u) → Inv X pins σ H { s with heap := h, gens := g, toks := t } := fun h o g t hg hk =>
      Inv.gens (s := { s with heap := h, toks := t }) (IX.kept (t' := t) hk) hg
    have fin : ∀ (go : Obj) (nm qn : Value) (t2 : Nat), go.cls = .type "generator" → go.data = .fields #[.int s.gens.size 0, nm, qn] → go.slots = #[] → (∀ h : Heap, (h.push go).get? h.objs.size = some go) →
        Made X pins σ H f N cdv s.heap.objs.size h1.objs.size s.gens.size { s with gens := s.gens.push (.fresh (.func (defBody sBR) (eG s.heap.objs.size f cdv))), toks := t2, heap := h1.push go } := by
      intro go nm qn t2 hgc hgd hgs hgp
      refine ⟨Inv.below I, lt1, by show _ < (h1.push go).objs.size; rw [hsz]; exact Nat.lt_succ_self _, ⟨go, nm, qn, hgp h1, hgc, hgd, hgs⟩, Array.getElem?_push_size .., ?_, ?_, I1.free, IX.hok.fresh (Nat.le_refl _), Nat.le_trans I.ok.bsz I.sz⟩
      · exact Inv.gens (s := { s with heap := h1.push go, toks := t2 }) (IX.kept (t' := t2) fun b u e => Heap.get?_push_of_some _ e) (AllBare.push I.bare rfl)
      · obtain ⟨m, hn, hl⟩ := I1.loc
        refine ⟨m, hn.push go, fun i x v h1 h2 h3 => ?_⟩
        obtain ⟨u, ru, l⟩ := hl i x v h1 h2 h3
        rcases l with ⟨k, e⟩ | ⟨_, c, e, _⟩
        · exact ⟨u, ru, k, e⟩
        · have hnil : (gcxOf X.prog X.w X.K X.mg X.base NBR "binomial_rows" (C8.fnScope sBR) f cdv X.A X.stack s H (fun _ _ _ => False) []).env.cells = [] := rfl
          rw [hnil] at e
          cases e
    exact ⟨cdv, _, _, _, rfl, fin _ _ _ _ rfl rfl rfl fun h => Heap.get?_push_size _ rfl⟩
  refine wpAny_call (codeAny_mono key fun rs s' hq => ?_)
  cases rs with
  | error e => exact False.elim hq
  | ok fl =>
    cases fl with
    | ret u => exact hq
    | next => exact False.elim hq
    | brk => exact False.elim hq
    | cont => exact False.elim hq
/-- X's state behind the generator's turn -/
theorem woke {D : GDat} {H1 : Hp} {s1 : Shared} {more : List (Addr × Obj)} (hP : D.P = X.prog) (hw : D.w = X.w) (B : Below X pins D.L) (I : Inv X (pins ++ more) σ H s) (g : GPost D X.stack s H s1 H1) : Inv X pins σ H1 s1 := by
  have I' : Inv X pins σ H s := I.unpinned
  have low : ∀ b o, s.heap.get? b = some o → b ∉ List.range' D.L (s.heap.objs.size - D.L) → b < D.L := fun b o e hb => by
    have h1 := Heap.lt_size e
    refine Nat.lt_of_not_le fun h => hb ?_
    rw [List.mem_range'_1]
    exact ⟨h, Nat.lt_of_lt_of_eq h1 (Nat.add_sub_cancel' (Nat.le_trans h (Nat.le_of_lt h1))).symm⟩
  refine I'.call' (ch := List.range' D.L (s.heap.objs.size - D.L)) g.os ⟨fun b o e n hb hc => g.un.keep b o (trunc_of (low b o e hc) e) n hb (by simp), fun b o e n hb hc => g.un.slot b o (trunc_of (low b o e hc) e) n hb (by simp), fun b o e n hc => g.un.free b o (trunc_of (low b o e hc) e) n (by simp), fun b o e hc => g.un.there b o (trunc_of (low b o e hc) e) (by simp), g.un.tups, g.un.frzs, g.un.tbls⟩ (by rw [← hP, ← hw]; exact g.hok) g.bare fun b hb => ?_
  rw [List.mem_range'_1] at hb
  refine ⟨.inr (Nat.le_trans B.s0 hb.1), fun z => ?_, fun x c e z => ?_, fun p hp z => ?_⟩
  · exact Nat.lt_irrefl _ (Nat.lt_of_lt_of_le (z ▸ B.loc) hb.1)
  · exact Nat.lt_irrefl _ (Nat.lt_of_lt_of_le (z ▸ B.cell x c e) hb.1)
  · exact Nat.lt_irrefl _ (Nat.lt_of_lt_of_le (z ▸ B.pin p hp) hb.1)
end
end TB

set_option maxRecDepth 100000
set_option maxHeartbeats 8000000
namespace TB
open PySem PySem.Spec PyProof.Rows L2
def gD (X : Cx) (L f : Addr) (cd : Value) (N : Nat) (kp : List Addr) (k : Nat) : GDat :=
  { P := X.prog, w := X.w, K := X.K, mg := X.mg, base := X.base, L := L, f := f, cd := cd, N := N, it := 0, fp := [], tn := fun _ _ => True, kp := kp, k := k }
theorem segp_mono {M : Model} {A : Around} {Φ Φ' : End → Shared → Prop} {c : Code} {t : Sem PySem.Fin} {fs : List Frame} {s : Shared} (h : SegP M A Φ c t fs s) (hi : ∀ e s', Φ e s' → Φ' e s') : SegP M A Φ' c t fs s := fun Γ p hc hΓ => by
  obtain ⟨e, s', r, z⟩ := h Γ p hc hΓ
  exact ⟨e, s', r, hi _ _ z⟩
theorem wakesp_mono {M : Model} {A : Around} {Φ Φ' : End → Shared → Prop} {gs : GenState} {s : Shared} (h : WakesP M A Φ gs s) (hi : ∀ e s', Φ e s' → Φ' e s') : WakesP M A Φ' gs s := by
  cases gs with
  | fresh c => exact segp_mono h hi
  | suspended k l c p fs cl => exact segp_mono h hi
  | running => exact h
  | finished => exact h
section
variable {X : Cx} {pins : List (Addr × Obj)} {σ : L2.St} {H : Hp} {s : Shared}
/-- where the generator stands ahead of row d -/
def Gst (D : GDat) (d : Nat) (gs : GenState) (s : Shared) (H : Hp) : Prop :=
  (d = 0 ∧ gs = .fresh (.func (defBody sBR) (eG D.L D.f D.cd)) ∧ Names0 D.L D.f D.cd D.N s ∧ H D.L = none) ∨
  ∃ j it fp tn r, d = j + 1 ∧ GOk (D.w3 it fp tn) ∧ Sl (D.w3 it fp tn) (D.N - j) j gs ∧ Asl (D.w3 it fp tn) r j s H
/-- its next row -/
def NextRow (D : GDat) (stack : List Env) (s : Shared) (H : Hp) (d : Nat) (e : End) (s' : Shared) : Prop :=
  ∃ it fp tn, GOk (D.w3 it fp tn) ∧ Yields (D.w3 it fp tn) stack s H d (Sl (D.w3 it fp tn) (D.N - d) d) e s'
theorem gst_susp {D : GDat} {d : Nat} {gs : GenState} {s : Shared} {H : Hp} (h : Gst D d gs s H) (hd : d ≠ 0) : susp gs = true := by
  rcases h with ⟨z, _⟩ | ⟨j, it, fp, tn, r, rfl, ok, sl, a⟩
  · exact absurd z hd
  · exact sl.susp
theorem gst_wake {D : GDat} {A : Around} {stack : List Env} {d : Nat} {gs : GenState} {s : Shared} {H : Hp} (O : GPre D) (hr : Room D.k (A.deeper D.env)) (e0 : Env0 D.P D.w D.K D.mg D.base A stack s H) (hfr : ∀ b ∈ L2.frs stack, b < D.L) (hkp : KpOk D stack s H) (hd : d ≤ D.N)
    (h : Gst D d gs s H) : WakesP (model D.P D.w) A (NextRow D stack s H d) gs s := by
  rcases h with ⟨rfl, rfl, hn, hL⟩ | ⟨j, it, fp, tn, r, rfl, ok, sl, a⟩
  · refine wakesp_mono (first_wake O hr e0 hfr hkp hn hL) fun e s' z => ?_
    obtain ⟨it, fp, tn, ok, y⟩ := z
    exact ⟨it, fp, tn, ok, y⟩
  · have hj : D.N - j = (D.N - (j + 1)) + 1 := by omega
    rw [hj] at sl
    refine wakesp_mono (sl.2 A stack s H r hr e0 hfr ⟨hkp.at_⟩ a) fun e s' z => ⟨it, fp, tn, ok, z⟩
theorem Below.fpOk {L b : Addr} (B : Below X pins L) (I : Inv X pins σ H s) (h : L ≤ b) (hn : H b = none) : FpOk X pins H b := by
  refine ⟨hn, fun z => Nat.lt_irrefl _ (Nat.lt_of_lt_of_le (z ▸ B.loc) h), fun z => ?_, .inr (Nat.le_trans B.s0 h), fun x c e z => Nat.lt_irrefl _ (Nat.lt_of_lt_of_le (z ▸ B.cell x c e) h), fun p hp z => Nat.lt_irrefl _ (Nat.lt_of_lt_of_le (z ▸ B.pin p hp) h)⟩
  refine Nat.lt_irrefl _ (Nat.lt_of_lt_of_le (B.fr b ?_) h)
  rcases I.ok.stk with e | ⟨e, hf⟩
  · rw [e]; exact z
  · rw [e]
    unfold L2.frs
    rw [List.filterMap_cons, hf]
    exact List.mem_cons_of_mem _ z
theorem Below.nofr {L b : Addr} (B : Below X pins L) (h : L ≤ b) : b ∉ L2.frs X.stack := fun z => Nat.lt_irrefl _ (Nat.lt_of_lt_of_le (B.fr b z) h)
/-- the loop's state ahead of turn d -/
structure LI (X : Cx) (pins : List (Addr × Obj)) (D : GDat) (a e : Addr) (g : Nat) (d : Nat) (σ : L2.St) (H : Hp) (s : Shared) : Prop where
  inv : Inv X pins σ H s
  en : ∃ old, s.heap.get? e = some (enumO a (d : Int) .none old)
  gen : s.heap.IsGen a g
  he : H e = none
  ha : H a = none
  gs : ∃ gs, s.gens[g]? = some gs ∧ Gst D d gs s H
theorem enum_row {D : GDat} {a e : Addr} {g d k : Nat} {kp : List Addr} {L f : Addr} {cd : Value} {N : Nat} (hD : D = gD X L f cd N [a, e] k) (O : GPre D) (hr : Room (k + 3) X.A) (B : Below X pins L) (hLa : L < a) (hae : a < e) (hd : d ≤ N) (I : LI X pins D a e g d σ H s)
    {Q : Option Value → Shared → Prop} {E : Value → Shared → Prop}
    (hQ : ∀ (T r : Addr) (H2 : Hp) (s2 : Shared) (gs : GenState) (item : Value), susp gs = true → s2.gens[g]? = some gs → Inv X pins σ H2 s2 → s2.heap.get? e = some (enumO a ((d : Int) + 1) (rawInt T) item) → s2.heap.IsGen a g → H2 e = none → H2 a = none → L < T → a ≠ T → e ≠ T → Same H H2 → H2 T = none → H2 r = some (.lst (rowV N d)) → s2.heap.get? T = some (pairO (d : Int) (s2.toks - 1) (.ref r)) →
      (∃ it fp tn, GOk (D.w3 it fp tn) ∧ Sl (D.w3 it fp tn) (N - d) d gs ∧ Asl (D.w3 it fp tn) r d s2 H2 ∧ ∀ b ∈ fp, b ≠ T) → Q (some (.ref T)) s2) : wpAny (model X.prog X.w) X.A (pyNext (.ref e)) Q E s := by
  subst hD
  obtain ⟨I0, ⟨old, hen⟩, hgen, hHe, hHa, gs, hgs, hst⟩ := I
  refine pyNext_enum hen ?_
  have hdep : X.A.in1.depth < recursionLimit := Room.depth (k := k + 2) (Room.in1 hr)
  refine nextOf_gen (Φ := NextRow (gD X L f cd N [a, e] k) X.stack (s.setGen g .running) H d) I0.nolimit hdep hgen hgs ?_ ?_
  · have I1 : Inv X pins σ H (s.setGen g .running) := Inv.gens I0 (allBare_setGen I0.bare rfl)
    have e0 := I1.env0
    refine gst_wake O (hr.in1.in1.deeper _) ⟨e0.frames, e0.mod, e0.bs, e0.bsz, e0.funs, e0.frf, e0.hok, e0.bare⟩ B.fr ⟨fun b hb => ?_⟩ hd ?_
    · have hb' : b = a ∨ b = e := by simpa [gD] using hb
      rcases hb' with rfl | rfl
      · obtain ⟨o, nm, qn, ho, hc, hdd, hs⟩ := hgen
        exact ⟨o, ho, hHa, B.nofr (Nat.le_of_lt hLa), fun v q => by rw [hdd] at q; cases q⟩
      · exact ⟨_, hen, hHe, B.nofr (Nat.le_of_lt (Nat.lt_trans hLa hae)), fun v q => by cases q⟩
    · rcases hst with ⟨z1, z2, z3, z4⟩ | ⟨j, it, fp, tn, r, z1, ok, sl, asl⟩
      · exact .inl ⟨z1, z2, z3, z4⟩
      · exact .inr ⟨j, it, fp, tn, r, z1, ok, sl, ⟨asl.ns, asl.row, asl.tn, asl.fpn, asl.hL⟩⟩
  · intro en s1 hsz hy
    obtain ⟨it, fp, tn, ok, ⟨v, l, kk, c, p, fs, rfl, hq, H1, r, rfl, gp, asl⟩, hsl⟩ := hy
    refine ⟨_, _, _, _, _, _, _, rfl, hq, ?_⟩
    have I1 : Inv X pins σ H (s.setGen g .running) := Inv.gens I0 (allBare_setGen I0.bare rfl)
    have W1 : Inv X pins σ H1 s1 := woke (D := (gD X L f cd N [a, e] k).w3 it fp tn) (more := []) rfl rfl B (by rw [List.append_nil]; exact I1) gp
    have gsl : g < s.gens.size := (Array.getElem?_eq_some_iff.mp hgs).1
    have kpe := gp.kp e (by simp [gD, GDat.w3]) _ hen
    obtain ⟨og, nm, qn, ho, hc, hdd, hs⟩ := hgen
    have kpa := gp.kp a (by simp [gD, GDat.w3]) _ ho
    -- the state with the generator asleep again
    have W2 : Inv X pins σ H1 (s1.setGen g (End.susp (.ref r) false l kk c p fs).genState) := Inv.gens W1 (allBare_setGen W1.bare (End.bare_of_quiet hq))
    refine ⟨kpe.1, fun h' he' hT hszz hk => ?_⟩
    have W3 : Inv X pins σ H1 { s1.setGen g (End.susp (.ref r) false l kk c p fs).genState with heap := h', toks := (s1.setGen g (End.susp (.ref r) false l kk c p fs).genState).toks + 1 } :=
      W2.turned (it := e) hk kpe.2 (B.fpOk I0 (Nat.le_of_lt (Nat.lt_trans hLa hae)) (H := H) hHe).2.1 (B.fpOk I0 (Nat.le_of_lt (Nat.lt_trans hLa hae)) hHe).2.2.2.1 (B.fpOk I0 (Nat.le_of_lt (Nat.lt_trans hLa hae)) hHe).2.2.2.2.1 (B.fpOk I0 (Nat.le_of_lt (Nat.lt_trans hLa hae)) hHe).2.2.2.2.2
    have hLs : L < s1.heap.objs.size := Nat.lt_trans (Nat.lt_trans hLa hae) (Heap.lt_size kpe.1)
    refine hQ _ r H1 { s1.setGen g (End.susp (.ref r) false l kk c p fs).genState with heap := h', toks := (s1.setGen g (End.susp (.ref r) false l kk c p fs).genState).toks + 1 } _ _ hsl.susp (setGen_at (Nat.lt_of_lt_of_le gsl hsz)) W3 he' ⟨og, nm, qn, hk a og (Nat.ne_of_lt hae) kpa.1, hc, hdd, hs⟩ kpe.2 kpa.2 hLs (Nat.ne_of_lt (Heap.lt_size kpa.1)) (Nat.ne_of_lt (Heap.lt_size kpe.1)) gp.same (W1.hok.fresh (Nat.le_refl _)) asl.row hT ⟨it, fp, tn, ok, hsl, ?_, fun b hb z => by
      obtain ⟨ob, hob, _⟩ := ok.turn.obj _ _ asl.tn b hb
      exact absurd (Heap.lt_size hob) (by rw [z]; exact Nat.lt_irrefl _)⟩
    refine ⟨?_, asl.row, ok.turn.keep _ _ _ asl.tn fun b hb o ho => hk b o (fun z => (ok.fpS b hb).2 (by rw [z]; simp [gD, GDat.w3])) ho, asl.fpn, asl.hL⟩
    obtain ⟨m, ⟨oL, es, ep, hoL, hrr⟩, hl⟩ := asl.ns
    exact ⟨m, ⟨oL, es, ep, hk _ _ (Nat.ne_of_lt (Nat.lt_trans hLa hae)) hoL, hrr⟩, hl⟩
end
end TB

set_option maxRecDepth 100000
set_option maxHeartbeats 8000000
namespace TB
open PySem PySem.Spec PyProof.Rows L2
def tForG (ta : TA) (g : TG) (tb : TS) : TS := fun D σ H => ta σ H fun vs H1 => ∃ N : Nat, vs = [.int (N : Int), .int (N : Int)] ∧ N ≤ 100 ∧ ∃ W : Nat → L2.St → Hp → Prop, W 0 σ H1 ∧ ∃ m ≤ N, ∀ d ≤ m, ∀ σ' H', W d σ' H' → ∀ (T r : Addr) (H2 : Hp), Same H' H2 → H2 T = some (.tup [.int (d : Int), .ref r]) → H2 r = some (.lst (rowV N d)) →
  g (.ref T) σ' H2 fun σ3 H3 => tb { D with nx := fun σ4 H4 => d < m ∧ H4 r = some (.lst (rowV N d)) ∧ W (d + 1) σ4 H4, ct := fun _ _ => False, bk := fun _ _ => False } σ3 H3
section
variable {X : Cx}
theorem upd_Same {H : Hp} {a : Addr} {o : HO} (h : H a = none) : Same H (upd H a o) := fun b ob e => by
  rw [upd_ne (fun z => by rw [z, h] at e; cases e)]
  exact e
theorem turnedAt {pins : List (Addr × Obj)} {σ : L2.St} {H : Hp} {s : Shared} {h' : Heap} {t' : Nat} {ch : List Addr} {T : Addr} {ob : HO} (I : Inv X pins σ H s) (k : ∀ b o, b ∉ ch → s.heap.get? b = some o → h'.get? b = some o) (hf : ∀ b ∈ ch, FpOk X pins H b) (hT : T ∈ ch)
    (new : ObjOk X.prog X.w (upd H T ob) h' T ob) : Inv X pins σ (upd H T ob) { s with heap := h', toks := t' } := by
  have hn : H T = none := (hf T hT).1
  have nit : ∀ b u, H b = some u → b ∉ ch := fun b u e z => by
    rw [(hf b z).1] at e
    cases e
  have ne : ∀ b, b ∉ ch → b ≠ T := fun b hb z => hb (by rw [z]; exact hT)
  refine I.step (g' := s.gens) (d' := s.drawn) (ch := ch) (fun b hb => ⟨(hf b hb).2.2.2.1, (hf b hb).2.1, (hf b hb).2.2.2.2.1, (hf b hb).2.2.2.2.2⟩) (fun b o _ _ hc e _ => k b o hc e) (fun b o _ _ hc e _ => ⟨o.slots, k b o hc e⟩)
    (fun b o hc e n => by rw [upd_ne (ne b hc)]; exact n) (fun b o hc e => ⟨o, k b o hc e⟩) (fun b xs e => by rw [upd_ne (ne b (nit b _ e))]; exact e) (fun b o u e => by rw [upd_ne (ne b (nit b _ e))]; exact e) (fun b ps e => ⟨#[], by rw [upd_ne (ne b (nit b _ e)), e]; simp⟩) (fun m hm => ?_) (fun b u e => ?_) I.bare
  · obtain ⟨o, es, ep, ho, r⟩ := hm
    exact ⟨o, es, ep, k _ o (fun z => (hf _ z).2.1 rfl) ho, r⟩
  · by_cases hb : b = T
    · subst hb
      rw [upd_same] at e
      cases e
      exact new
    · rw [upd_ne hb] at e
      refine (I.hok b u e).stay (fun c v hc q => k c v (hc.elim (fun z => by rw [z]; exact nit b u e) fun z => nit c _ z) q) (fun c q => by rw [upd_ne (ne c (nit c _ q))]; exact q) fun c xs q => by rw [upd_ne (ne c (nit c _ q))]; exact q
theorem pg_asleep {tg : Expr} {g : TG} {pins : List (Addr × Obj)} {σ : L2.St} {H : Hp} {s : Shared} {v : V} {u : Value} {Q : L2.St → Hp → Prop} (h : PG X.nox tg g) (I : Inv X.nox pins σ H s) (r : RelV v u) (q : g v σ H Q) :
    wpAny (model X.prog X.w) X.A (assign tg X.env u) (fun _ s' => (∃ σ' H', Inv X.nox pins σ' H' s' ∧ Q σ' H') ∧ ∀ (i : Nat) (x : GenState), s.gens[i]? = some x → susp x = true → s'.gens[i]? = some x) (fun _ _ => False) s := by
  refine wpAny_asleep (h.run pins (withG s (s.gens.map kill)) σ H v u Q (Inv.gens I (kill_bare I.bare)) r q) (fun _ z G rg hk hz => ⟨?_, hk⟩) fun _ _ _ _ hz => hz
  obtain ⟨σ', H', I', q'⟩ := hz
  exact ⟨σ', H', Inv.gens I' (rg.bare I'.bare), q'⟩
theorem ps_forG {k : Nat} {f : Addr} {fd : FuncData} {a1 a2 : Expr} {ta : TA} {elts : List Expr} {kk : Nat} {tpos p1 p2 p3 p4 pos : Pos} {g : TG} {tb : TS} {body : List Stmt} (F : C8.Def X.K X.mg "binomial_rows" sBR f fd) (hb : Binds X.K fd PBR []) (nb : C8.Cal X.prog X.w X.K X.mg X.base k "next_binomials" (spNB X.K) []) (hr : Room (k + 5) X.A) (hc : X.calm = true)
    (hg1 : Gl X "enumerate") (hg2 : Gl X "binomial_rows") (hm1 : X.mg "enumerate" = none) (hm2 : X.mg "range" = none) (ha : PA X.nox [a1, a2] ta) (hgT : PG X.nox (.Tuple elts kk tpos) g) (hbd : PSs X.nox body tb)
    (he : starEach [a1, a2] X.env = (false, eval a1 X.env) :: starEach [a2] X.env) (hpl : (backTo p3 (starEach [a2] X.env)).any (·.1) = false)
    (he1 : starEach [.Call (.Name "binomial_rows" p2) [a1, a2] [] p3] X.env = (false, eval (.Call (.Name "binomial_rows" p2) [a1, a2] [] p3) X.env) :: starEach [] X.env)
    (hs : ∀ x, foldedSetIterable (.Call (.Name "enumerate" p1) [.Call (.Name "binomial_rows" p2) [a1, a2] [] p3] [] p4) X.env x = pure x) :
    PS X.nox (.For (.Tuple elts kk tpos) (.Call (.Name "enumerate" p1) [.Call (.Name "binomial_rows" p2) [a1, a2] [] p3] [] p4) body [] pos) (tForG ta g tb) := by
  refine ⟨fun pins s σ H D I h => ?_⟩
  refine wpAny_For ?_ hs
  refine wpAny_Call_Name_kw (ld_blt I hg1 hm1 (PyProof.Rows.boot_enumerate) ?_ (by decide) (by decide))
  refine PyProof.Rows.callWith_type1 ?_ he1 rfl
  rw [he1]
  show wpAny _ _ (spliced ((false, eval (.Call (.Name "binomial_rows" p2) [a1, a2] [] p3) X.env) :: backTo p4 (starEach [] X.env))) _ _ s
  refine Calls.spliced_cons (wpAny_Call_Name_kw (ld_glob I hg2 F.mgf ?_ (by decide)))
  refine PySem.W.callWith_K (h₀ := X.base) I.ok.mod.kin F.kp (thn (ha.run p3 pins s σ H _ I h) fun us s1 ⟨vs, H1, I1, rv, N, hvs, hN, W, w0, m, hm, turn⟩ => ⟨I1.kIn, ?_⟩) he hpl
  subst hvs
  refine thn (run_br (k := k) F.fn hb (hr.mono (by omega)) I1 rv) fun u s2 ⟨cd, L, a, gg, hu, M⟩ => ?_
  subst hu
  refine Calls.spliced_nil ?_
  refine call_enum_gen M.gen ?_
  have henO : (s2.heap.push (enumO a 0 .none .none)).get? s2.heap.objs.size = some (enumO a 0 .none .none) := Heap.get?_push_size _ rfl
  refine wpAny_pyIter_enum (i := 0) (it := a) (old := .none) henO ?_
  have I3 : Inv X.nox pins σ H1 { s2 with heap := s2.heap.push (enumO a 0 .none .none) } := M.inv.kept (t' := s2.toks) fun b o e => Heap.get?_push_of_some _ e
  have hD : gD X L f cd N [a, s2.heap.objs.size] k = gD X.nox L f cd N [a, s2.heap.objs.size] k := rfl
  have B : Below X.nox pins L := M.below
  have O : GPre (gD X.nox L f cd N [a, s2.heap.objs.size] k) := by
    refine ⟨fun z => ?_, M.lo, nb, hN, hm2⟩
    have z' : L = a ∨ L = s2.heap.objs.size := by simpa [gD] using z
    rcases z' with z | z
    · exact absurd M.la (by rw [z]; exact Nat.lt_irrefl _)
    · exact absurd (Nat.lt_trans M.la M.sz) (by rw [z]; exact Nat.lt_irrefl _)
  have start : LI X.nox pins (gD X.nox L f cd N [a, s2.heap.objs.size] k) a s2.heap.objs.size gg 0 σ H1 { s2 with heap := s2.heap.push (enumO a 0 .none .none) } := by
    refine ⟨I3, ⟨.none, henO⟩, M.gen.keeps fun b o e => Heap.get?_push_of_some _ e, M.inv.hok.fresh (Nat.le_refl _), M.ha, _, M.gs, .inl ⟨rfl, rfl, ?_, M.hL⟩⟩
    obtain ⟨mm, hn, hl⟩ := M.ns
    exact ⟨mm, hn.push _, hl⟩
  refine codeAny_forLoop_any (fun n s' => ∃ d σ' H', n = m - d ∧ d ≤ m ∧ LI X.nox pins (gD X.nox L f cd N [a, s2.heap.objs.size] k) a s2.heap.objs.size gg d σ' H' s' ∧ W d σ' H') ?_ m ⟨0, σ, H1, by omega, Nat.zero_le _, start, w0⟩
  rintro n s3 ⟨d, σ3, H3, rfl, hd, li, w3⟩
  refine enum_row (X := X.nox) (kp := []) rfl O (hr.mono (by omega)) B M.la M.sz (by omega) li ?_
  intro T r H2 s4 gs item hsu hgs I4 he4 hg4 hHe hHa hLT haT heT hsame hT hr2 hpair ⟨it, fp, tn, ok, sl, asl, fpT⟩
  refine wpAny_letOwnedTupleGo_enum he4 fun h5 he5 hb5 => ?_
  have hLe : L < s2.heap.objs.size := Nat.lt_trans M.la M.sz
  have hT5 : h5.get? T = some (pairO (d : Int) (s4.toks - 1) (.ref r)) := (hb5.2 T (Ne.symm heT)).trans hpair
  have new : ObjOk X.prog X.w (upd H2 T (.tup [.int (d : Int), .ref r])) h5 T (.tup [.int (d : Int), .ref r]) :=
    ⟨by show 2 ≤ sizeLine; decide, [.int (d : Int) (s4.toks - 1), .ref r], .cons ⟨_, rfl⟩ (.cons rfl .nil), ⟨_, hT5, rfl, _, rfl⟩⟩
  have I5 : Inv X.nox pins σ3 (upd H2 T (.tup [.int (d : Int), .ref r])) { s4 with heap := h5 } := by
    refine turnedAt (t' := s4.toks) (ch := [s2.heap.objs.size, T]) I4 (fun b o hb q => ?_) (fun b hb => ?_) (by simp) new
    · exact (hb5.2 b (fun z => hb (by simp [z]))).trans q
    · have hb' : b = s2.heap.objs.size ∨ b = T := by simpa using hb
      rcases hb' with z | z
      · rw [z]; exact B.fpOk I4 (Nat.le_of_lt hLe) hHe
      · rw [z]; exact B.fpOk I4 (Nat.le_of_lt hLT) hT
  have hTr : T ≠ r := fun z => by rw [z, hr2] at hT; cases hT
  obtain ⟨og, nm, qn, ho4, hoc, hod, hos⟩ := hg4
  have ho5 : h5.get? a = some og := (hb5.2 a (Nat.ne_of_lt M.sz)).trans ho4
  have hfpn : ∀ b ∈ fp, b ≠ s2.heap.objs.size := fun b hb z => (ok.fpS b hb).2 (by rw [z]; simp [gD, GDat.w3])
  have tn5 : tn (d + 1) h5 := ok.turn.keep _ _ _ asl.tn fun b hb o ho => (hb5.2 b (hfpn b hb)).trans ho
  obtain ⟨mm, ⟨oL, es, ep, hoL, hrr⟩, hl⟩ := asl.ns
  have hoL5 : h5.get? L = some oL := (hb5.2 L (Nat.ne_of_lt hLe)).trans hoL
  have mem4 : ∀ b ∈ [L, a, s2.heap.objs.size] ++ fp, L ≤ b ∧ upd H2 T (.tup [.int (d : Int), .ref r]) b = none ∧ ∃ o, h5.get? b = some o ∧ ∀ v, o.data ≠ .cell v := fun b hb => by
    rcases List.mem_append.mp hb with z | z
    · have z' : b = L ∨ b = a ∨ b = s2.heap.objs.size := by simpa using z
      rcases z' with z | z | z
      · rw [z]; exact ⟨Nat.le_refl _, by rw [upd_ne (Nat.ne_of_lt hLT)]; exact asl.hL, oL, hoL5, fun v q => by rw [hrr.1] at q; cases q⟩
      · rw [z]; exact ⟨Nat.le_of_lt M.la, by rw [upd_ne haT]; exact hHa, og, ho5, fun v q => by rw [hod] at q; cases q⟩
      · rw [z]; exact ⟨Nat.le_of_lt hLe, by rw [upd_ne heT]; exact hHe, _, he5, fun v q => by cases q⟩
    · obtain ⟨o, q1, q2⟩ := ok.turn.obj _ _ tn5 b z
      exact ⟨Nat.le_of_lt (ok.fpS b z).1, by rw [upd_ne (fpT b z)]; exact asl.fpn b z, o, q1, q2⟩
  have I6 := I5.pinned (fp := [L, a, s2.heap.objs.size] ++ fp) (fun b hb => B.fpOk I5 (mem4 b hb).1 (mem4 b hb).2.1) (fun b hb => (mem4 b hb).2.2)
  refine wpAny_passesOwn PassesOwn.never (thn (pg_asleep hgT I6 (v := .ref T) rfl (turn d hd σ3 H3 w3 T r _ (hsame.trans (upd_Same hT)) upd_same (by rw [upd_ne (Ne.symm hTr)]; exact hr2))) fun _ s7 ⟨⟨σ7, H7, I7, q7⟩, k7⟩ => ?_)
  refine wpAny_passesOwn PassesOwn.never (thn (run_asleep (X := X.nox) hbd I7 q7) fun fl s8 ⟨q8, k8⟩ => ?_)
  cases fl with
  | next =>
    obtain ⟨σ8, H8, I8, hdm, hr8, w8⟩ := q8
    have pin8 : ∀ b ∈ [L, a, s2.heap.objs.size] ++ fp, ∀ o, h5.get? b = some o → s8.heap.get? b = some o ∧ H8 b = none := fun b hb o e => by
      have z := I8.pin (b, o) (List.mem_append_right _ (List.mem_append_right _ (mem_pinsAt hb e)))
      exact ⟨z.1, z.2.1⟩
    refine ⟨m - (d + 1), by omega, d + 1, σ8, H8, rfl, hdm, ⟨I8.unpinned, ⟨item, ?_⟩, ⟨og, nm, qn, ?_, hoc, hod, hos⟩, ?_, ?_, gs, ?_, .inr ⟨d, it, fp, tn, r, rfl, ok, sl, ?_⟩⟩, w8⟩
    · rw [Int.natCast_add]
      exact (pin8 _ (by simp) _ he5).1
    · exact (pin8 a (by simp) _ ho5).1
    · exact (pin8 _ (by simp) _ he5).2
    · exact (pin8 a (by simp) _ ho5).2
    · exact k8 _ _ (k7 _ _ hgs hsu) hsu
    · refine ⟨⟨mm, ⟨oL, es, ep, (pin8 L (by simp) _ hoL5).1, hrr⟩, hl⟩, hr8, ok.turn.keep _ _ _ tn5 fun b hb o ho => (pin8 b (List.mem_append_right _ hb) o ho).1, fun b hb => ?_, (pin8 L (by simp) _ hoL5).2⟩
      obtain ⟨o, q1, _⟩ := ok.turn.obj _ _ tn5 b hb
      exact (pin8 b (List.mem_append_right _ hb) o q1).2
  | cont => obtain ⟨_, _, _, z⟩ := q8; exact z.elim
  | brk => obtain ⟨_, _, _, z⟩ := q8; exact z.elim
  | ret u =>
    obtain ⟨v8, σ8, H8, I8, r8, q8⟩ := q8
    exact ⟨v8, σ8, H8, I8.unpinned, r8, q8⟩
end
end TB

set_option maxRecDepth 100000
set_option maxHeartbeats 2000000
namespace TB
open PySem PySem.Spec PyProof.Rows L2
/-! the text of turns, the objects -/
def tx (t : List Nat) : Str := SX.S (t.map (· + 65))
theorem tx_len (t : List Nat) : (tx t).length = t.length := by
  unfold tx
  rw [SX.S_len, List.length_map]
abbrev ABC : Str := "ABCDEF"
theorem abc : ABC = tx [0, 1, 2, 3, 4, 5] := rfl
theorem tx_inj {a b : List Nat} (h : tx a = tx b) : a = b := by
  have := SX.S_inj h
  have e := congrArg (List.map (· - 65)) this
  rw [List.map_map, List.map_map] at e
  have id_ : ((fun x => x - 65) ∘ fun x : Nat => x + 65) = id := by
    funext x
    simp
  rw [id_, List.map_id, List.map_id] at e
  exact e
theorem tx_app (a b : List Nat) : tx a ++ tx b = tx (a ++ b) := by
  unfold tx
  rw [SX.S_cat, List.map_append]
theorem bl_t {p : Prop} [Decidable p] (h : p) : V.bl (decide p) = V.bl true := by rw [decide_eq_true h]
theorem bl_f {p : Prop} [Decidable p] (h : ¬ p) : V.bl (decide p) = V.bl false := by rw [decide_eq_false h]
def lets (n : Nat) : Str := tx (List.range n)
/-- an instance of Turns -/
def TnAt (C : Addr) (H : Hp) (a : Addr) (t : List Nat) (n : Nat) : Prop := ∃ dx, H a = some (.ins C dx [(("own_text" : Str), V.str (tx t)), (("own_players" : Str), V.int (n : Int))])
structure TOk (t : List Nat) (n : Nat) : Prop where
  lo : 2 ≤ n
  hi : n ≤ 6
  pos : 1 ≤ t.length
  len : t.length ≤ 2000
  mem : ∀ x ∈ t, x < n
theorem TnAt.same {C : Addr} {H H' : Hp} {a : Addr} {t : List Nat} {n : Nat} (h : TnAt C H a t n) (s : Same H H') : TnAt C H' a t n := let ⟨dx, e⟩ := h; ⟨dx, s _ _ e⟩
/-- what the top has left -/
structure Txt (K : PySem.W.Frag) (mg : Str → Option Value) (C : Addr) : Prop where
  ins : C8.InsC K C
  nT : NoAttr K C "own_text"
  nP : NoAttr K C "own_players"
  mgC : mg "Turns" = some (.ref C)
  isi : mg "isinstance" = none
  int : mg "int" = none
  bool : mg "bool" = none
  str : mg "str" = none
  list : mg "list" = none
  len : mg "len" = none
  any : mg "any" = none
  all : mg "all" = none
  max : mg "max" = none
  min : mg "min" = none
  enum : mg "enumerate" = none
  range : mg "range" = none
  sum : mg "sum" = none
  zip : mg "zip" = none
  letters : ∃ t, mg "LETTERS" = some (.str ABC t)
  maxT : ∃ t, mg "MAX_TURNS_turns" = some (.int 2000 t)
  few : ∃ t, mg "FEWEST_PLAYERS" = some (.int 2 t)
  maxF : ∃ t, mg "MAX_FACTORS" = some (.int 100 t)
section
variable {K : PySem.W.Frag} {mg : Str → Option Value} {C : Addr}
theorem Txt.cl (T : Txt K mg C) : Cls K C := T.ins.cl
theorem Txt.gLet (T : Txt K mg C) : ∃ u, mg "LETTERS" = some u ∧ RelV (.str ABC) u := let ⟨t, e⟩ := T.letters; ⟨_, e, t, rfl⟩
theorem Txt.gMax (T : Txt K mg C) : ∃ u, mg "MAX_TURNS_turns" = some u ∧ RelV (.int 2000) u := let ⟨t, e⟩ := T.maxT; ⟨_, e, t, rfl⟩
theorem Txt.gFew (T : Txt K mg C) : ∃ u, mg "FEWEST_PLAYERS" = some u ∧ RelV (.int 2) u := let ⟨t, e⟩ := T.few; ⟨_, e, t, rfl⟩
theorem Txt.gMaxF (T : Txt K mg C) : ∃ u, mg "MAX_FACTORS" = some u ∧ RelV (.int 100) u := let ⟨t, e⟩ := T.maxF; ⟨_, e, t, rfl⟩
theorem Txt.gC (T : Txt K mg C) : ∃ u, mg "Turns" = some u ∧ RelV (.ref C) u := ⟨_, T.mgC, rfl⟩
end
/-- a property's getter -/
structure Prp (P : Program) (w : World) (K : PySem.W.Frag) (mg : Str → Option Value) (base : Heap) (k : Nat) (C : Addr) (f own : Str) : Prop where
  ex : ∃ (p g : Addr) (fd : FuncData), Cls K C ∧ PropOf K C f p g ∧ FnOk P w K mg base C8.CX0 k g fd ["self"] (getSp C own) ∧ Binds K fd ["self"] []
theorem pe_pr {X : Cx} {k j : Nat} {C : Addr} {f own : Str} {e : Expr} {pos : Pos} {ta : TE} (c : Prp X.prog X.w X.K X.mg X.base k C f own) (hr : Room j X.A) (hk : k + 1 ≤ j) (he : PE X e ta) (hab : attributeBase e f X.env (eval e X.env) = eval e X.env) :
    PE X (.Attribute e f pos) (tProp C (getSp C own) [] C8.E0 ta) := by
  obtain ⟨p, g, fd, cl, po, F, b⟩ := c.ex
  exact pe_prop he cl po F (hr.mono hk) b .nil C8.pass0 hab
theorem getT {C : Addr} {H : Hp} {a : Addr} {t : List Nat} {n : Nat} {Q : VK} {E : XK} (h : TnAt C H a t n) (q : Q (.str (tx t)) H) : getSp C "own_text" [.ref a] H Q E := let ⟨dx, e⟩ := h; ⟨a, dx, _, _, rfl, e, rfl, q⟩
theorem getP {C : Addr} {H : Hp} {a : Addr} {t : List Nat} {n : Nat} {Q : VK} {E : XK} (h : TnAt C H a t n) (q : Q (.int (n : Int)) H) : getSp C "own_players" [.ref a] H Q E := let ⟨dx, e⟩ := h; ⟨a, dx, _, _, rfl, e, rfl, q⟩
theorem propT {C : Addr} {H : Hp} {a : Addr} {t : List Nat} {n : Nat} {Q : VK} (h : TnAt C H a t n) (q : Q (.str (tx t)) H) : ∃ b dx fs, V.ref a = .ref b ∧ H b = some (.ins C dx fs) ∧ getSp C "own_text" (.ref b :: []) H Q C8.E0 := let ⟨dx, e⟩ := h; ⟨a, dx, _, rfl, e, getT ⟨dx, e⟩ q⟩
theorem propP {C : Addr} {H : Hp} {a : Addr} {t : List Nat} {n : Nat} {Q : VK} (h : TnAt C H a t n) (q : Q (.int (n : Int)) H) : ∃ b dx fs, V.ref a = .ref b ∧ H b = some (.ins C dx fs) ∧ getSp C "own_players" (.ref b :: []) H Q C8.E0 := let ⟨dx, e⟩ := h; ⟨a, dx, _, rfl, e, getP ⟨dx, e⟩ q⟩
/-- len of an instance -/
structure LenOf (P : Program) (w : World) (K : PySem.W.Frag) (mg : Str → Option Value) (base : Heap) (k : Nat) (C : Addr) : Prop where
  ex : ∃ (f : Addr) (fd : FuncData), PySem.W.findIn K (.ref C) "__len__" = some (some (.ref f)) ∧ PySem.W.isFn K (.ref f) = true ∧ Binds K fd ["self"] [] ∧
    FnOk P w K mg base C8.CX0 k f fd ["self"] (fun vs H Q _ => ∃ a t n, vs = [.ref a] ∧ TnAt C H a t n ∧ t.length ≤ 2000 ∧ Q (.int (t.length : Int)) H)
def rLen (C : Addr) : List V → Hp → VK → Prop := fun xs H Q => ∃ a t n, xs = [.ref a] ∧ TnAt C H a t n ∧ t.length ≤ 2000 ∧ Q (.int (t.length : Int)) H
theorem call_lenT {X : Cx} {k j : Nat} {C : Addr} (c : LenOf X.prog X.w X.K X.mg X.base k C) (hr : Room j X.A) (hk : k + 1 ≤ j) : CallR X (.builtin "len") (rLen C) := by
  intro pins s σ H xs us Q I r h
  obtain ⟨a, t, n, rfl, ha, hl, q⟩ := h
  obtain ⟨u, rfl, ru⟩ := vals1 r
  obtain rfl : u = Value.ref a := ru
  obtain ⟨f, fd, hf, hfn, hb, F⟩ := c.ex
  obtain ⟨dx, e⟩ := id ha
  obtain ⟨mA, J, _⟩ := ins_get I.hok e
  obtain ⟨od, J, _⟩ := J.look
  refine Calls.call_function_entry kind_len plain_len entry_len (args_len1 _) ?_
  unfold Builtin.«len»
  refine wpAny_bind (m := oneArg "len" _) (wpAny_pure ?_)
  refine wpAny_bind (m := callSpecial? (.ref a) (PySem.Str.ofString "__len__")) (PySem.W.special_fn (name := "__len__") (args := []) I.kIn J hf (beq_iff_eq.mp hfn) ?_)
  refine wpAny_call (codeAny_mono (F.run X.A.in1 X.stack s H ⟨[.ref a], []⟩ [.ref a] [.ref a] (fun v H' => v = .int (t.length : Int) ∧ Q (.int (t.length : Int)) H') C8.E0 (hr.mono hk).in1 I.env0.in1 (by
    have := hb s [.ref a] I.kIn rfl
    simpa using this) (.cons rfl .nil) ⟨a, t, n, rfl, ha, hl, rfl, q⟩) fun r s' hq => ?_)
  cases r with
  | error e => exact False.elim hq
  | ok fl =>
    cases fl with
    | ret u =>
      obtain ⟨v, H', I', rv, ev, q'⟩ := I.after hq
      subst ev
      obtain ⟨tk, rfl⟩ := rv
      refine wpAny_bind (wpAny_holding (wpAny_pure ?_))
      refine wpAny_bind (wpAny_letGo ?_)
      show wpAny _ _ (if ((t.length : Nat) : Int) < 0 then _ else _) _ _ _
      rw [if_neg (by omega)]
      show wpAny _ _ (if ((t.length : Nat) : Int) ≥ 2 ^ 63 then _ else _) _ _ _
      rw [if_neg (by omega)]
      exact wpAny_bind (wpAny_mkInt (wpAny_pure ⟨_, rfl, .int (t.length : Int), H', I'.tok _, ⟨_, rfl⟩, q'⟩))
    | next => exact False.elim hq
    | brk => exact False.elim hq
    | cont => exact False.elim hq
end TB

set_option maxRecDepth 100000
set_option maxHeartbeats 4000000
namespace TB
open PySem PySem.Spec PyProof.Rows L2
/-! walks that give out new pairs -/
def Itp (n : Nat) (Hc : Hp → Prop) (pr : Nat → List V) : It :=
  ⟨fun i H => i < n ∧ Hc H, fun i H v H' => ∃ T : Addr, v = .ref T ∧ H T = none ∧ H' = upd H T (.tup (pr i)), fun i H => i = n ∧ Hc H⟩
theorem turn_pairs {P : Program} {w : World} {K : PySem.W.Frag} {elts : List Expr} {kk : Nat} {tpos : Pos} {ι : Type} {St : ι → Nat → Heap → Prop} {tn : Nat → Heap → Prop} {Hc : Hp → Prop} {pr : Nat → List V} {I : Addr} {fpG : ι → List Addr} {fp wr : List Addr} {n : Nat}
    (G : ∀ x (A : Around), A.handled = none → GoesN P w A (.Tuple elts kk tpos) I (fpG x) wr n (fun i h₀ v h => ∃ (T : Addr) (us : List Value), v = .ref T ∧ h₀.objs.size ≤ T ∧ Vals (pr i) us ∧ h.IsTuple T us.toArray) (St x))
    (hpr : ∀ i, (pr i).length = 2) (mem : I ∈ fp) (sub : ∀ b ∈ wr, b ∈ fp) (obj : ∀ i h, tn i h → ∀ b ∈ fp, ∃ o, h.get? b = some o ∧ ∀ v, o.data ≠ .cell v)
    (keep : ∀ i h h', tn i h → (∀ b ∈ fp, ∀ o, h.get? b = some o → h'.get? b = some o) → tn i h')
    (up : ∀ (X : Cx) (pins : List (Addr × Obj)) (s : Shared) (σ : L2.St) (H : Hp), X.prog = P → X.w = w → X.K = K → Inv X pins σ H s → (∀ b ∈ fp, FpOk X pins H b) → Hc H → ∀ i, tn i s.heap → ∃ x, St x i s.heap)
    (down : ∀ x i h, St x i h → tn i h)
    (self : ∀ (A : Around) (i : Nat) (s : Shared) (Q : Value → Shared → Prop) (E : Value → Shared → Prop), tn i s.heap → Q (.ref I) s → wpAny (model P w) A (pyIter (.ref I)) Q E s) :
    Turn P w K (.Tuple elts kk tpos) (Itp n Hc pr) fp I tn where
  mem := mem
  obj := obj
  keep := keep
  item := by
    intro X hP hw hK hc i pins s σ H E I0 hf st hg
    subst hP hw hK
    obtain ⟨hi, hH⟩ := hg
    obtain ⟨x, hx⟩ := up X pins s σ H rfl rfl rfl I0 hf hH i st
    refine thn ((G x X.A (I0.ok.hd hc)).goes i s (fun u s2 => ∃ y H', Inv X pins σ H' s2 ∧ RelV y u ∧ (Itp n Hc pr).yld i H y H' ∧ tn (i + 1) s2.heap ∧ ∀ b ∈ fp, H' b = none) E hi hx ?_) fun r s1 h => h
    rintro v h' tk ⟨T, us, rfl, hT, rv, o, ho, hoc, m, hod⟩ st' hk htk
    have hlen := rv.length
    have hT0 : H T = none := I0.hok.fresh hT
    have new : ObjOk X.prog X.w (upd H T (.tup (pr i))) h' T (.tup (pr i)) := ⟨by rw [hpr]; decide, us, rv, o, ho, hoc, m, hod⟩
    have I1 : Inv X pins σ (upd H T (.tup (pr i))) { s with heap := h', toks := tk } := I0.turnedNew (ch := wr) (fun b o hb q => hk b o hb q) (fun b hb => hf b (sub b hb)) hT new
    refine ⟨.ref T, _, I1, rfl, ⟨T, rfl, hT0, rfl⟩, down x _ _ st', fun b hb => ?_⟩
    obtain ⟨ob, hob, _⟩ := obj _ _ st b hb
    rw [upd_ne (Nat.ne_of_lt (Nat.lt_of_lt_of_le (Heap.lt_size hob) hT))]
    exact (hf b hb).1
  done := by
    intro X hP hw hK hc i pins s σ H E I0 hf st hg
    subst hP hw hK
    obtain ⟨rfl, hH⟩ := hg
    obtain ⟨x, hx⟩ := up X pins s σ H rfl rfl rfl I0 hf hH i st
    exact (G x X.A (I0.ok.hd hc)).stops s (fun s1 => Inv X pins σ H s1) E hx fun h' tk hk htk => I0.turnedL (ch := wr) (fun b o hb q => hk b o hb q) fun b hb => hf b (sub b hb)
  self := self
/-! enumerate(text) -/
def prE (x : Str) (i : Nat) : List V := [.int (i : Int), .str ⟨#[x.cps.getD i 0]⟩]
def iEnumS (te : TA) : TI := fun σ H R => te σ H fun vs H1 => ∃ x : Str, vs = [.str x] ∧ R (Itp x.cps.size (fun _ => True) (prE x)) H1
theorem pi_enumS {X : Cx} {e : Expr} {ta : TA} {p pos tpos : Pos} {elts : List Expr} {kk : Nat} (hg : Gl X "enumerate") (hm : X.mg "enumerate" = none) (ha : PA X [e] ta) (hs : starEach [e] X.env = [(false, eval e X.env)] := by rfl) :
    PI X (.Tuple elts kk tpos) (.Call (.Name "enumerate" p) [e] [] pos) (iEnumS ta) := by
  refine ⟨fun pins s σ H R I h => ?_⟩
  refine Call_ (ld_blt I hg hm boot_enumerate (PyProof.Rows.callWith_type1 (thn (ha.run pos pins s σ H _ I h) fun us s1 ⟨vs, H1, I1, r1, q1⟩ => ?_) hs rfl))
  obtain ⟨x, ex, q⟩ := q1
  subst ex
  cases r1 with
  | cons r rr =>
    cases rr
    obtain ⟨t, rfl⟩ := r
    refine call_enumerate_str fun h' he hit hsz hk => wpAny_pyIter_enum he ?_
    have I2 : Inv X pins σ H1 { s1 with heap := h' } := I1.kept (t' := s1.toks) hk
    have ne : s1.heap.objs.size + 1 ≠ s1.heap.objs.size := Nat.succ_ne_self _
    refine ⟨s1.heap.objs.size + 1, [s1.heap.objs.size + 1, s1.heap.objs.size], fun i h => (∃ old, IsEnum h (s1.heap.objs.size + 1) s1.heap.objs.size (0 + (i : Int)) old) ∧ h.IsStrIter s1.heap.objs.size (strIterType x) x t i, _, H1, rfl, I2, ?_, ⟨⟨.none, by rw [show (0 : Int) + ((0 : Nat) : Int) = 0 from rfl]; exact he⟩, hit⟩, fun b hb => ?_, q⟩
    · refine turn_pairs (ι := Unit) (St := fun _ i h => (∃ old, IsEnum h (s1.heap.objs.size + 1) s1.heap.objs.size (0 + (i : Int)) old) ∧ h.IsStrIter s1.heap.objs.size (strIterType x) x t i) (fpG := fun _ => [s1.heap.objs.size + 1, s1.heap.objs.size]) (wr := [s1.heap.objs.size + 1, s1.heap.objs.size])
        (fun _ A hA => (GoesN.enumFrom 0 (Draws.text (A := A.in1) hA s1.heap.objs.size x t) (s1.heap.objs.size + 1) ne (by simp) (by simp)).mono fun i h₀ v h hi ⟨T, t2, y, ev, hn, ⟨c, u, hc, ey⟩, hT⟩ => ?_) (fun _ => rfl) (by simp) (fun b hb => hb) (fun i h st b hb => ?_) (fun i h h' st k => ?_)
        (fun _ _ _ _ _ _ _ _ _ _ _ i st => ⟨(), st⟩) (fun _ _ _ st => st) (fun A i s Q E st h => let ⟨⟨_, he⟩, _⟩ := st; wpAny_pyIter_enum he h)
      · subst ev ey
        refine ⟨T, [.int (i : Int) t2, .str ⟨#[c]⟩ u], rfl, hn, ?_, by rw [Int.zero_add] at hT; exact hT⟩
        have : x.cps.getD i 0 = c := by
          rw [Array.getD_eq_getD_getElem?, hc]
          rfl
        exact .cons ⟨t2, rfl⟩ (.cons ⟨u, by rw [this]⟩ .nil)
      · obtain ⟨⟨old, h1⟩, ⟨o, h2, _, h3⟩⟩ := st
        have e' : b = s1.heap.objs.size + 1 ∨ b = s1.heap.objs.size := by simpa using hb
        rcases e' with z | z
        · rw [z]; exact ⟨_, h1, fun v q => nomatch q⟩
        · rw [z]; exact ⟨o, h2, fun v q => by rw [h3] at q; cases q⟩
      · obtain ⟨⟨old, h1⟩, ⟨o, h2, h3⟩⟩ := st
        exact ⟨⟨old, k _ (by simp) _ h1⟩, o, k _ (by simp) _ h2, h3⟩
    · have e' : b = s1.heap.objs.size + 1 ∨ b = s1.heap.objs.size := by simpa using hb
      have hle : s1.heap.objs.size ≤ b := by
        rcases e' with z | z
        · rw [z]; exact Nat.le_add_right _ _
        · rw [z]; exact Nat.le_refl _
      exact I1.fpOk hle (I1.hok.fresh hle)
/-! zip(text, list) -/
def prZ (x : Str) (xs : List V) (i : Nat) : List V := [.str ⟨#[x.cps.getD i 0]⟩, xs.getD i .non]
def iZipS (K : PySem.W.Frag) (te : TA) : TI := fun σ H R => te σ H fun vs H1 => ∃ (x : Str) (l : Addr) (xs : List V), vs = [.str x, .ref l] ∧ SqL K H1 l xs ∧ x.cps.size = xs.length ∧ R (Itp xs.length (fun H => SqL K H l xs) (prZ x xs)) H1
theorem pi_zipS {X : Cx} {e e2 : Expr} {ta : TA} {p pos tpos : Pos} {elts : List Expr} {kk : Nat} (hg : Gl X "zip") (hm : X.mg "zip" = none) (ha : PA X [e, e2] ta)
    (hs : starEach [e, e2] X.env = (false, eval e X.env) :: starEach [e2] X.env := by rfl) (hpl : (backTo pos (starEach [e2] X.env)).any (·.1) = false := by rfl) :
    PI X (.Tuple elts kk tpos) (.Call (.Name "zip" p) [e, e2] [] pos) (iZipS X.K ta) := by
  refine ⟨fun pins s σ H R I h => ?_⟩
  refine Call_ (ld_blt I hg hm PyProof.Rows.boot_zip (PyProof.Rows.callWith_type1 (thn (ha.run pos pins s σ H _ I h) fun us s1 ⟨vs, H1, I1, r1, q1⟩ => ?_) hs hpl))
  obtain ⟨x, l, xs, ex, hq, hlen, q⟩ := q1
  subst ex
  cases r1 with
  | cons r rr =>
    cases rr with
    | cons r' rr =>
      cases rr
      obtain ⟨t, rfl⟩ := r
      cases r'
      obtain ⟨its, rv, p1, _⟩ := I1.list hq
      have hl1 : l < s1.heap.objs.size := p1.lt
      refine zip_begins2 (begins_text x t) (begins_list l its.toArray) trivial p1.isList fun h' hz hTI hTO h1 h2 hsz hk => wpAny_pyIter_zip hz ?_
      have I2 : Inv X pins σ H1 { s1 with heap := h' } := I1.kept (t' := s1.toks) hk
      have S : ZipSep2 (s1.heap.objs.size + 4) (s1.heap.objs.size + 2) (s1.heap.objs.size + 3) s1.heap.objs.size (s1.heap.objs.size + 1) (s1.heap.objs.size :: []) ((s1.heap.objs.size + 1) :: [l]) := zip_sep2 (fun b hb => by cases hb) fun b hb => by rw [List.mem_singleton.mp hb]; exact hl1
      refine ⟨s1.heap.objs.size + 4, [s1.heap.objs.size + 4, s1.heap.objs.size + 2, s1.heap.objs.size + 3, s1.heap.objs.size, s1.heap.objs.size + 1],
        fun i h => IsZip h (s1.heap.objs.size + 4) (s1.heap.objs.size + 2) (s1.heap.objs.size + 3) .none ∧ IsTupOf2 h (s1.heap.objs.size + 2) (.ref s1.heap.objs.size) (.ref (s1.heap.objs.size + 1)) ∧ (∃ a1 a2, IsTupOf2 h (s1.heap.objs.size + 3) a1 a2) ∧ h.IsStrIter s1.heap.objs.size (strIterType x) x t i ∧ h.IsListIter (s1.heap.objs.size + 1) l i, _, H1, rfl, I2, ?_,
        ⟨hz, hTI, ⟨_, _, hTO⟩, ⟨_, h1, rfl, rfl⟩, ⟨_, h2, rfl, rfl⟩⟩, fun b hb => ?_, q⟩
      · refine turn_pairs (ι := { its : List Value // Vals xs its }) (n := xs.length) (St := fun its i h => IsZip h (s1.heap.objs.size + 4) (s1.heap.objs.size + 2) (s1.heap.objs.size + 3) .none ∧ IsTupOf2 h (s1.heap.objs.size + 2) (.ref s1.heap.objs.size) (.ref (s1.heap.objs.size + 1)) ∧ (∃ a1 a2, IsTupOf2 h (s1.heap.objs.size + 3) a1 a2) ∧ h.IsStrIter s1.heap.objs.size (strIterType x) x t i ∧ h.IsListIter (s1.heap.objs.size + 1) l i ∧ h.IsList l its.1.toArray)
          (fpG := fun _ => (s1.heap.objs.size + 4) :: (s1.heap.objs.size + 2) :: (s1.heap.objs.size + 3) :: ([s1.heap.objs.size] ++ [s1.heap.objs.size + 1, l])) (wr := [s1.heap.objs.size + 4, s1.heap.objs.size + 3, s1.heap.objs.size, s1.heap.objs.size + 1])
          (fun its A hA => ?_) (fun _ => rfl) (by simp) (fun b hb => by
            have e' : b = s1.heap.objs.size + 4 ∨ b = s1.heap.objs.size + 3 ∨ b = s1.heap.objs.size ∨ b = s1.heap.objs.size + 1 := by simpa using hb
            rcases e' with z | z | z | z <;> simp [z]) (fun i h st b hb => ?_) (fun i h h' st k => ?_) (fun X' pins' s' σ' H' hP hw hK I' hf hH i st => ?_) (fun its i h st => ⟨st.1, st.2.1, st.2.2.1, st.2.2.2.1, st.2.2.2.2.1⟩) (fun A i s Q E st h => wpAny_pyIter_zip st.1 h)
        · have e1 : min x.cps.size its.1.toArray.size = xs.length := by
            have := its.2.length
            rw [List.size_toArray (as := its.1)]
            omega
          have base := GoesN.zip2 (elts := elts) (x1 := kk) (pos := tpos) (prog := X.prog) (w := X.w) (A := A) S (Draws.text (A := A.in1) hA s1.heap.objs.size x t) (Draws.list (A := A.in1) hA (s1.heap.objs.size + 1) l (Nat.ne_of_lt (Nat.lt_succ_of_lt hl1)) its.1.toArray)
          rw [e1] at base
          refine base.mono fun i h₀ v h hi ⟨T, y, z, ev, hn, ⟨c, u, hc, ey⟩, hz, hT⟩ => ?_
          subst ev ey
          refine ⟨T, [.str ⟨#[c]⟩ u, z], rfl, hn, ?_, hT⟩
          have e2 : x.cps.getD i 0 = c := by
            rw [Array.getD_eq_getD_getElem?, hc]
            rfl
          have hz' : its.1[i]? = some z := by simpa using hz
          obtain ⟨u2, hu2, ru2⟩ := its.2.get (List.getElem?_eq_getElem hi)
          rw [hz'] at hu2
          cases hu2
          refine .cons ⟨u, by rw [e2]⟩ (.cons ?_ .nil)
          rw [List.getD_eq_getElem?_getD, List.getElem?_eq_getElem hi]
          exact ru2
        · obtain ⟨z1, z2, ⟨a1, a2, z3⟩, ⟨o1, z4, _, z4'⟩, ⟨o2, z5, _, z5'⟩⟩ := st
          have e' : b = s1.heap.objs.size + 4 ∨ b = s1.heap.objs.size + 2 ∨ b = s1.heap.objs.size + 3 ∨ b = s1.heap.objs.size ∨ b = s1.heap.objs.size + 1 := by simpa using hb
          rcases e' with z | z | z | z | z
          · rw [z]; exact ⟨_, z1, fun v q => nomatch q⟩
          · rw [z]; exact ⟨_, z2, fun v q => nomatch q⟩
          · rw [z]; exact ⟨_, z3, fun v q => nomatch q⟩
          · rw [z]; exact ⟨_, z4, fun v q => by rw [z4'] at q; cases q⟩
          · rw [z]; exact ⟨_, z5, fun v q => by rw [z5'] at q; cases q⟩
        · obtain ⟨z1, z2, ⟨a1, a2, z3⟩, ⟨o1, z4, z4'⟩, ⟨o2, z5, z5'⟩⟩ := st
          exact ⟨k _ (by simp) _ z1, k _ (by simp) _ z2, ⟨a1, a2, k _ (by simp) _ z3⟩, ⟨o1, k _ (by simp) _ z4, z4'⟩, ⟨o2, k _ (by simp) _ z5, z5'⟩⟩
        · have hH' : SqL X'.K H' l xs := by rw [hK]; exact hH
          obtain ⟨its', rv', p', _⟩ := I'.list hH'
          exact ⟨⟨its', rv'⟩, st.1, st.2.1, st.2.2.1, st.2.2.2.1, st.2.2.2.2, p'.isList⟩
      · have hle : s1.heap.objs.size ≤ b := by
          have e' : b = s1.heap.objs.size + 4 ∨ b = s1.heap.objs.size + 2 ∨ b = s1.heap.objs.size + 3 ∨ b = s1.heap.objs.size ∨ b = s1.heap.objs.size + 1 := by simpa using hb
          rcases e' with z | z | z | z | z
          · rw [z]; exact Nat.le_add_right _ _
          · rw [z]; exact Nat.le_add_right _ _
          · rw [z]; exact Nat.le_add_right _ _
          · rw [z]; exact Nat.le_refl _
          · rw [z]; exact Nat.le_add_right _ _
        exact I1.fpOk hle (I1.hok.fresh hle)
end TB

set_option maxRecDepth 100000
set_option maxHeartbeats 4000000
namespace TB
open PySem PySem.Spec PyProof.Rows L2
/-! enumerate(list or tuple) -/
theorem new_enum_tup (a : Addr) (items : Array Value) :
    Meets (Builtin.«enumerate.__new__» ⟨[.type "enumerate", .ref a], []⟩) (fun _ R s => s.heap.IsTuple a items ∧
      R (.ok (.ret (.ref (s.heap.objs.size + 1)))) { s with heap := (s.heap.push { cls := .type "tuple_iterator", data := .fields #[.ref a, .int 0 0] }).push (enumO s.heap.objs.size 0 .none .none) }) :=
  .of_wp fun prog w A R s h => by
    obtain ⟨hp, g, d, tk, os⟩ := s
    obtain ⟨hl, h⟩ := h
    have hsub := sub_enumerate
    have hz : (hp.push { cls := .type "tuple_iterator", data := .fields #[.ref a, .int 0 0] }).objs.size = hp.objs.size + 1 := Heap.size_push ..
    have h2 : R (.ok (.ret (.ref (hp.push { cls := .type "tuple_iterator", data := .fields #[.ref a, .int 0 0] }).objs.size))) ⟨(hp.push { cls := .type "tuple_iterator", data := .fields #[.ref a, .int 0 0] }).push (enumO hp.objs.size 0 .none .none), g, d, tk, os⟩ := by
      rw [hz]
      exact h
    have q1 : ∀ {A' : Around} {E : Value → Shared → Prop} {Q : Value → Shared → Prop}, Q (.ref hp.objs.size) ⟨hp.push { cls := .type "tuple_iterator", data := .fields #[.ref a, .int 0 0] }, g, d, tk, os⟩ → wpAny (model prog w) A' (pyIter (.ref a)) Q E ⟨hp, g, d, tk, os⟩ :=
      fun q => wpAny_pyIter_tuple hl q
    wp_walk using q1
    refine wpAny_stack_any fun st => wpAny_pure ?_
    split
    · rename_i c _ _ _ _ _
      cases (c == Value.type "enumerate")
      all_goals
        wp_walk using q1
        exact ⟨_, rfl, h2⟩
    · wp_walk using q1
      exact ⟨_, rfl, h2⟩
section
variable {prog : Program} {w : World} {A : Around} {E : Value → Shared → Prop} {s : Shared}
theorem call_enum_tup {a : Addr} {items : Array Value} {Q : Value → Shared → Prop} (hl : s.heap.IsTuple a items)
    (h : ∀ h', IsEnum h' (s.heap.objs.size + 1) s.heap.objs.size 0 .none → h'.IsTupleIter s.heap.objs.size a 0 → h'.objs.size = s.heap.objs.size + 2 →
      (∀ b o, s.heap.get? b = some o → h'.get? b = some o) → Q (.ref (s.heap.objs.size + 1)) { s with heap := h' }) :
    wpAny (model prog w) A (call (.type "enumerate") [.ref a]) Q E s := by
  have hz : (s.heap.push { cls := .type "tuple_iterator", data := .fields #[.ref a, .int 0 0] }).objs.size = s.heap.objs.size + 1 := Heap.size_push ..
  have he : ((s.heap.push { cls := .type "tuple_iterator", data := .fields #[.ref a, .int 0 0] }).push (enumO s.heap.objs.size 0 .none .none)).get? (s.heap.objs.size + 1) = some (enumO s.heap.objs.size 0 .none .none) := by
    rw [← hz]
    exact Heap.get?_push_size _ rfl
  refine callType_new F.called_enumerate (by decide) (F.typeCall_enumerate_1 _) (F.newCall_enumerate_1 _) (fun obj => F.args_object_init_2 obj _) F.entry_enumerate_new
    (new_enum_tup a items) ⟨hl, ⟨_, he, rfl⟩, h _ he ⟨_, Heap.get?_push_of_some _ (Heap.get?_push_size _ rfl), rfl, rfl⟩ (by rw [Heap.size_push, hz]) fun b o x => Heap.get?_push_of_some _ (Heap.get?_push_of_some _ x)⟩
end
def prQ (xs : List V) (i : Nat) : List V := [.int (i : Int), xs.getD i .non]
def SqLT (K : PySem.W.Frag) (H : Hp) (a : Addr) (xs : List V) : Prop := SqL K H a xs ∨ SqT K H a xs
def iEnumQ (K : PySem.W.Frag) (te : TA) : TI := fun σ H R => te σ H fun vs H1 => ∃ (a : Addr) (xs : List V), vs = [.ref a] ∧ ((SqL K H1 a xs ∧ R (Itp xs.length (fun H => SqL K H a xs) (prQ xs)) H1) ∨ (SqT K H1 a xs ∧ R (Itp xs.length (fun H => SqT K H a xs) (prQ xs)) H1))
theorem turn_enq {P : Program} {w : World} {K : PySem.W.Frag} {elts : List Expr} {kk : Nat} {tpos : Pos} {e it : Addr} {xs : List V} {Hc : Hp → Prop} {Si : Nat → Heap → Prop} {La : List Value → Heap → Prop} {a : Addr}
    (ne : e ≠ it) (nea : e ≠ a) (D : ∀ (its : List Value), Vals xs its → ∀ A : Around, A.handled = none → Draws P w A it [it, a] its.toArray.size (fun i v => its.toArray[i]? = some v) (fun i h => Si i h ∧ La its h))
    (hS : ∀ i h, Si i h → ∃ o, h.get? it = some o ∧ ∀ v, o.data ≠ .cell v) (hSk : ∀ i h h', Si i h → (∀ o, h.get? it = some o → h'.get? it = some o) → Si i h')
    (hu : ∀ (X : Cx) (pins : List (Addr × Obj)) (s : Shared) (σ : L2.St) (H : Hp), X.K = K → Inv X pins σ H s → Hc H → ∃ its, Vals xs its ∧ La its s.heap) :
    Turn P w K (.Tuple elts kk tpos) (Itp xs.length Hc (prQ xs)) [e, it] e (fun i h => (∃ old, IsEnum h e it (0 + (i : Int)) old) ∧ Si i h) := by
  refine turn_pairs (ι := { its : List Value // Vals xs its }) (St := fun its i h => (∃ old, IsEnum h e it (0 + (i : Int)) old) ∧ Si i h ∧ La its.1 h) (fpG := fun _ => [e, it, a]) (wr := [e, it])
    (fun its A hA => ?_) (fun _ => rfl) (by simp) (fun b hb => hb) (fun i h st b hb => ?_) (fun i h h' st k => ?_) (fun X pins s σ H hP hw hK I hf hH i st => ?_) (fun its i h st => ⟨st.1, st.2.1⟩) (fun A i s Q E st h => let ⟨⟨_, he⟩, _⟩ := st; wpAny_pyIter_enum he h)
  · have e1 : its.1.toArray.size = xs.length := by
      have := its.2.length
      rw [List.size_toArray (as := its.1)]
      omega
    have base := GoesN.enumFrom (prog := P) (w := w) (A := A) (elts := elts) (x1 := kk) (pos := tpos) 0 (D its.1 its.2 A.in1 hA) e ne (by simp [ne, nea]) (by simp)
    rw [e1] at base
    refine base.mono fun i h₀ v h hi ⟨T, t2, y, ev, hn, hy, hT⟩ => ?_
    subst ev
    refine ⟨T, [.int (i : Int) t2, y], rfl, hn, ?_, by rw [Int.zero_add] at hT; exact hT⟩
    have hy' : its.1[i]? = some y := by simpa using hy
    obtain ⟨u2, hu2, ru2⟩ := its.2.get (List.getElem?_eq_getElem hi)
    rw [hy'] at hu2
    cases hu2
    refine .cons ⟨t2, rfl⟩ (.cons ?_ .nil)
    rw [List.getD_eq_getElem?_getD, List.getElem?_eq_getElem hi]
    exact ru2
  · obtain ⟨⟨old, h1⟩, h2⟩ := st
    have e' : b = e ∨ b = it := by simpa using hb
    rcases e' with z | z
    · rw [z]; exact ⟨_, h1, fun v q => nomatch q⟩
    · rw [z]; exact hS _ _ h2
  · obtain ⟨⟨old, h1⟩, h2⟩ := st
    exact ⟨⟨old, k _ (by simp) _ h1⟩, hSk _ _ _ h2 fun o ho => k it (by simp) o ho⟩
  · obtain ⟨its, rv, hl⟩ := hu X pins s σ H hK I hH
    exact ⟨⟨its, rv⟩, st.1, st.2, hl⟩
theorem pi_enumQ {X : Cx} {e : Expr} {ta : TA} {p pos tpos : Pos} {elts : List Expr} {kk : Nat} (hg : Gl X "enumerate") (hm : X.mg "enumerate" = none) (ha : PA X [e] ta) (hs : starEach [e] X.env = [(false, eval e X.env)] := by rfl) :
    PI X (.Tuple elts kk tpos) (.Call (.Name "enumerate" p) [e] [] pos) (iEnumQ X.K ta) := by
  refine ⟨fun pins s σ H R I h => ?_⟩
  refine Call_ (ld_blt I hg hm boot_enumerate (PyProof.Rows.callWith_type1 (thn (ha.run pos pins s σ H _ I h) fun us s1 ⟨vs, H1, I1, r1, q1⟩ => ?_) hs rfl))
  obtain ⟨a, xs, ex, q⟩ := q1
  subst ex
  cases r1 with
  | cons r rr =>
    cases rr
    cases r
    have hfp : ∀ b ∈ [s1.heap.objs.size + 1, s1.heap.objs.size], FpOk X pins H1 b := fun b hb => by
      have e' : b = s1.heap.objs.size + 1 ∨ b = s1.heap.objs.size := by simpa using hb
      have hle : s1.heap.objs.size ≤ b := by
        rcases e' with z | z
        · rw [z]; exact Nat.le_add_right _ _
        · rw [z]; exact Nat.le_refl _
      exact I1.fpOk hle (I1.hok.fresh hle)
    have ne : s1.heap.objs.size + 1 ≠ s1.heap.objs.size := Nat.succ_ne_self _
    have z0 : (0 : Int) + ((0 : Nat) : Int) = 0 := rfl
    rcases q with ⟨hq, q⟩ | ⟨hq, q⟩
    · obtain ⟨its, rv, p', hz⟩ := I1.list hq
      have hal : a < s1.heap.objs.size := p'.lt
      refine call_enumerate_list p'.isList fun h' he hit hsz hk => wpAny_pyIter_enum he ?_
      refine ⟨s1.heap.objs.size + 1, [s1.heap.objs.size + 1, s1.heap.objs.size], fun i h => (∃ old, IsEnum h (s1.heap.objs.size + 1) s1.heap.objs.size (0 + (i : Int)) old) ∧ h.IsListIter s1.heap.objs.size a i, _, H1, rfl, I1.kept (t' := s1.toks) hk, ?_, ⟨⟨.none, by rw [z0]; exact he⟩, hit⟩, hfp, q⟩
      refine turn_enq (La := fun its h => h.IsList a its.toArray) (a := a) ne (Nat.ne_of_gt (Nat.lt_succ_of_lt hal)) (fun its' _ A hA => Draws.list hA s1.heap.objs.size a (Nat.ne_of_lt hal) its'.toArray) (fun i h st => ?_) (fun i h h' st k => st.at k) fun X' pins' s' σ' H' hK I' hH => ?_
      · obtain ⟨o, h1, _, h3⟩ := st
        exact ⟨o, h1, fun v q => by rw [h3] at q; cases q⟩
      · have hH' : SqL X'.K H' a xs := by rw [hK]; exact hH
        obtain ⟨its', rv', p'', _⟩ := I'.list hH'
        exact ⟨its', rv', p''.isList⟩
    · obtain ⟨its, rv, p', hz⟩ := I1.tuple hq
      have hp2 : s1.heap.IsTuple a its.toArray := p'
      have hal : a < s1.heap.objs.size := by obtain ⟨o, e, _⟩ := hp2; exact Heap.lt_size e
      refine call_enum_tup hp2 fun h' he hit hsz hk => wpAny_pyIter_enum he ?_
      refine ⟨s1.heap.objs.size + 1, [s1.heap.objs.size + 1, s1.heap.objs.size], fun i h => (∃ old, IsEnum h (s1.heap.objs.size + 1) s1.heap.objs.size (0 + (i : Int)) old) ∧ h.IsTupleIter s1.heap.objs.size a i, _, H1, rfl, I1.kept (t' := s1.toks) hk, ?_, ⟨⟨.none, by rw [z0]; exact he⟩, hit⟩, hfp, q⟩
      refine turn_enq (La := fun its h => h.IsTuple a its.toArray) (a := a) ne (Nat.ne_of_gt (Nat.lt_succ_of_lt hal)) (fun its' _ A hA => Draws.tuple hA s1.heap.objs.size a (Nat.ne_of_lt hal) its'.toArray) (fun i h st => ?_) (fun i h h' st k => ?_) fun X' pins' s' σ' H' hK I' hH => ?_
      · obtain ⟨o, h1, _, h3⟩ := st
        exact ⟨o, h1, fun v q => by rw [h3] at q; cases q⟩
      · obtain ⟨o, h1, h3⟩ := st
        exact ⟨o, k _ h1, h3⟩
      · have hH' : SqT X'.K H' a xs := by rw [hK]; exact hH
        obtain ⟨its', rv', p'', _⟩ := I'.tuple hH'
        exact ⟨its', rv', p''⟩
end TB

set_option maxRecDepth 100000
set_option maxHeartbeats 4000000
namespace TB
open PySem PySem.Spec PyProof.Rows L2
/-! range(lo, hi) of any size -/
theorem turn_long {P : Program} {w : World} {K : PySem.W.Frag} {tg : Expr} (it : Addr) (lo : Int) (n : Nat) :
    Turn P w K tg (Itr lo n) [it] it (fun i h => IsLongIter h it (lo + (i : Nat) * 1) ((n : Int) - (i : Nat)) 1) where
  mem := by simp
  obj := fun i h st b hb => by
    have e : b = it := by simpa using hb
    subst e
    exact ⟨_, st, fun v z => nomatch z⟩
  keep := fun i h h' st k => k it (by simp) _ st
  item := by
    intro X hP hw hK hc i pins s σ H E I hf st hg
    subst hP hw hK
    obtain ⟨f0, f1, f2, f3, f4, f5⟩ := hf it (by simp)
    have W := Walks.longrange (prog := X.prog) (w := X.w) (I.ok.hd hc) it lo 1 n
    refine W.item i s _ _ hg st fun v h' tk hv st' kk => ?_
    obtain ⟨t, rfl⟩ := hv
    have I1 : Inv X pins σ H { s with heap := h', toks := tk } := I.turned (fun b o hb e => kk b o (by simpa using hb) e) f0 f1 f3 f4 f5
    refine ⟨_, rfl, go_of (s := { s with heap := h', toks := tk }) (n := "longrange_iterator") st' rfl rfl (by decide) ⟨.int (lo + i), H, I1, ⟨t, ?_⟩, ⟨rfl, rfl⟩, st', fun b hb => (hf b hb).1⟩⟩
    rw [Int.mul_one]
  done := by
    intro X hP hw hK hc i pins s σ H E I hf st hg
    subst hP hw hK
    obtain ⟨f0, f1, f2, f3, f4, f5⟩ := hf it (by simp)
    exact wpAny_pyNext_long_end (I.ok.hd hc) st (by have : n ≤ i := hg; omega) fun h' eb => ⟨rfl, I.turned (t' := s.toks) (fun b o hb e => eb b o hb e) f0 f1 f3 f4 f5⟩
  self := fun _ _ _ _ _ st h => wpAny_pyIter_longiter st h
def iRng2L (ta : TA) : TI := fun σ H R => ta σ H fun vs H1 => ∃ (i : Int) (n : Nat), vs = [.int i, .int (i + n)] ∧ R (Itr i n) H1
section
variable {X : Cx} {tg : Expr}
theorem pi_range2L {a b : Expr} {ta : TA} {p pos : Pos} (hg : Gl X "range") (hm : X.mg "range" = none) (ha : PA X [a, b] ta) (hs : starEach [a, b] X.env = [(false, eval a X.env), (false, eval b X.env)] := by rfl) (hs2 : starEach [b] X.env = [(false, eval b X.env)] := by rfl) :
    PI X tg (.Call (.Name "range" p) [a, b] [] pos) (iRng2L ta) := by
  refine ⟨fun pins s σ H R I h => ?_⟩
  refine Call_ (ld_blt I hg hm boot_range (PyProof.Rows.callWith_type1 (thn (ha.run pos pins s σ H _ I h) fun us s1 ⟨vs, H1, I1, r1, q1⟩ => ?_) (by rw [hs, hs2]) (by rw [hs2]; rfl)))
  obtain ⟨i, n, e, q⟩ := q1
  subst e
  cases r1 with
  | cons r rr =>
    cases rr with
    | cons r' rr =>
      cases rr
      obtain ⟨t, rfl⟩ := r
      obtain ⟨t', rfl⟩ := r'
      have e2 : ((n : Nat) : Int) - ((0 : Nat) : Int) = Builtin.Range.rangeSize i (i + n) 1 := by rw [rangeSize_one]; split <;> omega
      have e1 : i + ((0 : Nat) : Int) * 1 = i := by simp
      refine call_range_2 ?_
      cases hsm : Builtin.Range.small i (i + n) 1 with
      | true =>
        refine wpAny_pyIter_range (IsRange.new ..) hsm ?_
        have I2 : Inv X pins σ H1 { s1 with heap := s1.heap.push { cls := .type "range", data := .fields #[.int i t, .int (i + n) t', .int 1 s1.toks] }, toks := s1.toks + 1 } := I1.kept fun b o e => Heap.get?_push_of_some _ e
        refine ⟨(s1.heap.push { cls := .type "range", data := .fields #[.int i t, .int (i + n) t', .int 1 s1.toks] }).objs.size, [(s1.heap.push { cls := .type "range", data := .fields #[.int i t, .int (i + n) t', .int 1 s1.toks] }).objs.size], _, _, H1, rfl,
          I2.kept (t' := s1.toks + 1) fun b o e => Heap.get?_push_of_some _ e, turn_range _ i n, ?_, fun b hb => ?_, q⟩
        · show IsRangeIter _ _ (i + ((0 : Nat) : Int) * 1) (((n : Nat) : Int) - ((0 : Nat) : Int)) 1
          rw [e1, e2]
          exact Heap.get?_push_size _ rfl
        · have e := List.mem_singleton.mp hb
          subst e
          exact I2.fpOk (Nat.le_refl _) (I2.hok.fresh (Nat.le_refl _))
      | false =>
        refine wpAny_pyIter_longrange (IsRange.new ..) hsm ?_
        have I2 : Inv X pins σ H1 { s1 with heap := s1.heap.push { cls := .type "range", data := .fields #[.int i t, .int (i + n) t', .int 1 s1.toks] }, toks := s1.toks + 1 } := I1.kept fun b o e => Heap.get?_push_of_some _ e
        refine ⟨(s1.heap.push { cls := .type "range", data := .fields #[.int i t, .int (i + n) t', .int 1 s1.toks] }).objs.size, [(s1.heap.push { cls := .type "range", data := .fields #[.int i t, .int (i + n) t', .int 1 s1.toks] }).objs.size], _, _, H1, rfl,
          I2.kept (t' := s1.toks + 1) fun b o e => Heap.get?_push_of_some _ e, turn_long _ i n, ?_, fun b hb => ?_, q⟩
        · show IsLongIter _ _ (i + ((0 : Nat) : Int) * 1) (((n : Nat) : Int) - ((0 : Nat) : Int)) 1
          rw [e1, e2]
          exact Heap.get?_push_size _ rfl
        · have e := List.mem_singleton.mp hb
          subst e
          exact I2.fpOk (Nat.le_refl _) (I2.hok.fresh (Nat.le_refl _))
end
/-! any, min(.., default=None) over ints, max of a text -/
theorem val_at {ns : List Int} {its : List Value} (r : Vals (ns.map V.int) its) {i : Nat} {v : Value} (h : its[i]? = some v) : ∃ t, v = .int (ns.getD i 0) t := by
  have hi : i < its.length := (List.getElem?_eq_some_iff.mp h).1
  have hl := r.length
  rw [List.length_map] at hl
  have hi2 : i < ns.length := by omega
  obtain ⟨u, hu, ru⟩ := r.get (x := V.int (ns[i])) (by rw [List.getElem?_map, List.getElem?_eq_getElem hi2]; rfl)
  rw [h] at hu
  cases hu
  obtain ⟨t, rfl⟩ := ru
  exact ⟨t, by rw [List.getD_eq_getElem?_getD, List.getElem?_eq_getElem hi2]; rfl⟩
theorem anyI_range : ∀ ns : List Int, (List.range ns.length).any (fun i => ns.getD i 0 != 0) = ns.any (· != 0)
  | [] => rfl
  | b :: bs => by
    rw [List.length_cons, List.range_succ_eq_map, List.any_cons, List.any_map, List.any_cons, ← anyI_range bs]
    all_goals rfl
section
variable {X : Cx}
def rAnyI (K : PySem.W.Frag) : List V → Hp → VK → Prop := fun vs H Q => ∃ (a : Addr) (ns : List Int), vs = [V.ref a] ∧ SqL K H a (ns.map V.int) ∧ Q (.bl (ns.any (· != 0))) H
theorem cr_anyI (hc : X.calm = true) : CallR X (.builtin "any") (rAnyI X.K) := by
  intro pins s σ H vs us Q I r h
  obtain ⟨a, ns, rfl, hs, q⟩ := h
  obtain ⟨its, rv, hl, _⟩ := I.list hs
  rw [Vals.ref1 r]
  refine call_any_walk (iter_any hl.isList fun s₂ e2 st hne => ?_)
  subst e2
  refine ⟨_, _, _, _, _, _, fun i => ns.getD i 0 != 0, rfl, Walks.list (A := X.A.in1) (I.ok.hd hc) _ a hne its.toArray, st, fun i v s Q E hv hq => ?_, fun h' tk hk => ?_⟩
  · obtain ⟨t, rfl⟩ := val_at rv (by simpa using hv)
    exact wpAny_of_in1 (truthy_int hq)
  · refine ⟨.bl _, H, I.kept fun b o eo => hk b o (fun hmem => ?_) (Heap.get?_push_of_some _ eo), ?_, q⟩
    · rcases List.mem_cons.mp hmem with e1 | hmem
      · exact absurd (e1 ▸ Heap.lt_size eo) (Nat.lt_irrefl _)
      · cases hmem
    · show Value.bool _ = Value.bool _
      have hlen : its.toArray.size = ns.length := by
        have := rv.length
        rw [List.length_map] at this
        rw [List.size_toArray (as := its)]
        omega
      rw [hlen, anyI_range]
def rMinD (K : PySem.W.Frag) : List V → List V → Hp → VK → Prop := fun vs zs H Q => ∃ (a : Addr) (ns : List Int), vs = [V.ref a] ∧ zs = [V.non] ∧ SqL K H a (ns.map V.int) ∧ (ns = [] → Q .non H) ∧ ∀ m, m ∈ ns → (∀ y, y ∈ ns → m ≤ y) → Q (.int m) H
theorem cr_minD (hc : X.calm = true) : CallRK X (.builtin "min") ["default"] (rMinD X.K) := by
  intro pins s σ H vs zs us ws Q I r rz h
  obtain ⟨a, ns, rfl, rfl, hs, q0, q1⟩ := h
  obtain ⟨its, rv, hl, _⟩ := I.list hs
  rw [Vals.ref1 r]
  obtain ⟨u, rfl, ru⟩ := vals1 rz
  obtain rfl : u = Value.none := ru
  have hlen : its.toArray.size = ns.length := by
    have := rv.length
    rw [List.length_map] at this
    rw [List.size_toArray (as := its)]
    omega
  have kept : ∀ s₂ s' : Shared, s₂ = { s with heap := s.heap.push { cls := .type "list_iterator", data := .fields #[.ref a, .int 0 0] } } → Moved [s.heap.objs.size] (fun a b => b = a) s₂ s' → Inv X pins σ H s' := fun s₂ s' e m => by
    subst e
    obtain ⟨hp, g, d, tk, os⟩ := s'
    obtain rfl : os = s.os := m.os
    obtain rfl : g = s.gens := m.gens
    have I1 : Inv X pins σ H { s with heap := hp, toks := tk } := I.kept fun b o eo => m.heap b o (fun hm => by
      have e1 := List.mem_singleton.mp hm
      exact absurd (e1 ▸ Heap.lt_size eo) (Nat.lt_irrefl _)) (Heap.get?_push_of_some _ eo)
    exact ⟨I1.ok, I1.os, I1.bare, I1.base, I1.loc, I1.cell, I1.free, I1.freeC, I1.pin, I1.hok, I1.len⟩
  refine call_min_walkD (iter_any hl.isList fun s₂ e2 st hne => ?_)
  have W := Walks.list (prog := X.prog) (w := X.w) (A := X.A.in1) (I.ok.hd hc) s.heap.objs.size a hne its.toArray
  rw [hlen] at W
  refine ⟨_, _, _, _, ns.length, _, _, {}, fun i j => decide (ns.getD i 0 < ns.getD j 0), rfl, W.toS, st, fun b hb => ?_, fun b o e => ?_, fun b o e => ?_, fun h0 s' m => ?_, fun h0 => ⟨fun i j vi vj s Q E _ hi hj hq => ?_, fun v s' hP m => ?_⟩⟩
  · have hb' : b = s.heap.objs.size ∨ b = a := by simpa using hb
    subst e2
    show b < (s.heap.push _).objs.size
    rw [Heap.size_push]
    rcases hb' with z | z
    · rw [z]; exact Nat.lt_succ_self _
    · rw [z]
      obtain ⟨_, e, _⟩ := hl.isList
      exact Nat.lt_succ_of_lt (Heap.lt_size e)
  · intro hm
    simp [Heap.get?] at e
  · simp [Heap.get?] at e
  · have hn : ns = [] := List.eq_nil_of_length_eq_zero h0
    exact ⟨.non, H, kept s₂ s' e2 m, rfl, q0 hn⟩
  · obtain ⟨t, rfl⟩ := val_at rv (by simpa using hi)
    obtain ⟨t', rfl⟩ := val_at rv (by simpa using hj)
    exact CmpOf.ints_lt (P := fun i v => ∃ t, v = .int (ns.getD i 0) t) (fun i => ns.getD i 0) (fun i v h => h) i j _ _ s Q E ⟨t, rfl⟩ ⟨t', rfl⟩ hq
  · obtain ⟨t, rfl⟩ := val_at rv (by simpa using hP)
    obtain ⟨h1, h2⟩ := argBest_lt (fun i => ns.getD i 0) (ns.length - 1)
    refine ⟨.int (ns.getD (argBest (fun i j => decide (ns.getD i 0 < ns.getD j 0)) (ns.length - 1)) 0), H, kept s₂ s' e2 m, ⟨t, by simp only [List.getD_eq_getElem?_getD]⟩, q1 _ ?_ fun y hy => ?_⟩
    · exact PySem.getD_mem (by omega)
    · obtain ⟨j, hj, rfl⟩ := mem_getD hy
      exact h2 j (by omega)
/-- max of a text: one of its signs -/
def rMaxS : List V → Hp → VK → Prop := fun vs H Q => ∃ x : Str, vs = [V.str x] ∧ 0 < x.cps.size ∧ ∀ c, c ∈ x.cps.toList → Q (.str ⟨#[c]⟩) H
theorem cr_maxS (hc : X.calm = true) : CallR X (.builtin "max") rMaxS := by
  intro pins s σ H vs us Q I r h
  obtain ⟨x, rfl, hx, q⟩ := h
  obtain ⟨u, rfl, ru⟩ := vals1 r
  obtain ⟨t, rfl⟩ := ru
  refine call_max_walk (wpAny_pyIter_str fun o St W st => ?_)
  refine ⟨_, _, _, x.cps.size, _, _, fun i j => decide ([x.cps.getD j 0] < [x.cps.getD i 0]), rfl, W X.A.in1 (I.ok.hd hc), st, fun b hb => ?_, hx, fun i j vi vj s Q E hi hj hq => ?_, fun v h' tk hP hk => ?_⟩
  · rw [List.mem_singleton.mp hb]
    show _ < (s.heap.push _).objs.size
    rw [Heap.size_push]
    exact Nat.lt_succ_self _
  · obtain ⟨c, u, h1, rfl⟩ := hi
    obtain ⟨c', u', h2, rfl⟩ := hj
    have e1 : x.cps.getD i 0 = c := by rw [Array.getD_eq_getD_getElem?, h1]; rfl
    have e2 : x.cps.getD j 0 = c' := by rw [Array.getD_eq_getD_getElem?, h2]; rfl
    have hq : Q (.bool (decide ([x.cps.getD j 0] < [x.cps.getD i 0]))) s := hq
    rw [e1, e2] at hq
    exact wpAny_of_in1 (PySem.P.gt_str hq)
  · obtain ⟨c, u, h1, rfl⟩ := hP
    refine ⟨.str ⟨#[c]⟩, H, I.kept fun b o eo => hk b o (fun hm => ?_) (Heap.get?_push_of_some _ eo), ⟨u, rfl⟩, q c ?_⟩
    · have e1 := List.mem_singleton.mp hm
      exact absurd (e1 ▸ Heap.lt_size eo) (Nat.lt_irrefl _)
    · have : x.cps.toList[argBest (fun i j => decide ([x.cps.getD j 0] < [x.cps.getD i 0])) (x.cps.size - 1)]? = some c := by simpa using h1
      exact List.mem_of_getElem? this
end
end TB

set_option maxRecDepth 100000
set_option maxHeartbeats 4000000
namespace TB
open PySem PySem.Spec PyProof.Rows L2
/-! comprehensions whose steps leave what stood -/
def accF (F : Nat → Option V) (i : Nat) : List V := (List.range i).filterMap F
theorem accF_len (F : Nat → Option V) (i : Nat) : (accF F i).length ≤ i := by
  unfold accF
  have := List.length_filterMap_le F (List.range i)
  rw [List.length_range] at this
  exact this
theorem accF_some {F : Nat → Option V} {i : Nat} {y : V} (h : F i = some y) : accF F (i + 1) = accF F i ++ [y] := by
  unfold accF
  rw [List.range_succ, List.filterMap_append]
  simp [h]
theorem accF_none {F : Nat → Option V} {i : Nat} (h : F i = none) : accF F (i + 1) = accF F i := by
  unfold accF
  rw [List.range_succ, List.filterMap_append]
  simp [h]
theorem accF_map (f : Nat → V) (n : Nat) : accF (fun i => some (f i)) n = (List.range n).map f := by
  unfold accF
  rw [List.filterMap_eq_map']
theorem accF_get {α : Type} (f : α → V) : ∀ xs : List α, accF (fun j => xs[j]?.map f) xs.length = xs.map f
  | [] => rfl
  | x :: xs => by
    have h := accF_get f xs
    unfold accF at h ⊢
    rw [List.length_cons, List.range_succ_eq_map, List.filterMap_cons, List.filterMap_map]
    show f x :: List.filterMap ((fun j => (x :: xs)[j]?.map f) ∘ Nat.succ) (List.range xs.length) = f x :: xs.map f
    rw [← h]
    rfl
theorem same_upd {H1 H : Hp} {D : Addr} {o : HO} (hD : H1 D = none) (h : Same H1 H) : Same H1 (upd H D o) := fun b ob e => by
  rw [upd_ne (fun z => by rw [z, hD] at e; cases e)]
  exact h b ob e
theorem same_new {H : Hp} {p : Addr} {o : HO} (h : H p = none) : Same H (upd H p o) := same_upd h (Same.refl H)
def PvF (H1 : Hp) (D : Addr) (F : Nat → Option V) (i : Nat) (H : Hp) : Prop := Same H1 H ∧ H D = some (.lst (accF F i))
section
variable {H1 H : Hp} {D : Addr} {F : Nat → Option V} {i n : Nat} {y : V}
theorem pvF0 (hD : H1 D = none) : PvF H1 D F 0 (upd H1 D (.lst [])) := ⟨same_new hD, upd_same⟩
theorem pvF_add (hD : H1 D = none) (hi : i < n) (hn : n ≤ 1000000) (e : F i = some y) (h : PvF H1 D F i H) : ∃ acc, H D = some (.lst acc) ∧ acc.length < sizeLine ∧ PvF H1 D F (i + 1) (upd H D (.lst (acc ++ [y]))) := by
  refine ⟨_, h.2, ?_, same_upd hD h.1, by rw [upd_same, accF_some e]⟩
  have := accF_len F i
  rw [sizeLine_eq]
  omega
theorem pvF_skip (e : F i = none) (h : PvF H1 D F i H) : PvF H1 D F (i + 1) H := ⟨h.1, by rw [accF_none e]; exact h.2⟩
theorem pvF_same {H' : Hp} (h : PvF H1 D F i H) (s : Same H H') : PvF H1 D F i H' := ⟨h.1.trans s, s _ _ h.2⟩
end
/-- where p stands in t -/
def posF (t : List Nat) (p : Nat) (i : Nat) : Option V := if t[i]? = some p then some (.int (i : Int)) else none
theorem sgn (c : Nat) : (⟨#[c]⟩ : Str) = SX.S [c] := rfl
theorem tx_cps (t : List Nat) : (tx t).cps = (t.map (· + 65)).toArray := rfl
theorem tx_toL (t : List Nat) : (tx t).cps.toList = t.map (· + 65) := rfl
theorem tx_size (t : List Nat) : (tx t).cps.size = t.length := by rw [tx_cps]; simp
theorem tx_at {t : List Nat} {i c : Nat} (h : (tx t).cps[i]? = some c) : ∃ x, t[i]? = some x ∧ c = x + 65 := by
  rw [tx_cps] at h
  simp only [List.getElem?_toArray, List.getElem?_map, Option.map_eq_some_iff] at h
  obtain ⟨x, h1, h2⟩ := h
  exact ⟨x, h1, h2.symm⟩
theorem tx_one (x : Nat) : (⟨#[x + 65]⟩ : Str) = tx [x] := rfl
/-! pairs as targets -/
abbrev gP (K : PySem.W.Frag) (i j : Nat) : TG := gTup K 2 (gCons (gName i) (gCons (gName j) gNil))
theorem gp_ok {K : PySem.W.Frag} {i j : Nat} {T : Addr} {x y : V} {σ : L2.St} {H : Hp} {Q : L2.St → Hp → Prop} (h : SqT K H T [x, y]) (q : Q ((σ.set i (some x)).set j (some y)) H) : gP K i j (.ref T) σ H Q :=
  ⟨T, [x, y], rfl, h, rfl, x, [y], rfl, y, [], rfl, rfl, q⟩
theorem walk_p {n : Nat} {Hc : Hp → Prop} {pr : Nat → List V} : Walk (Itp n Hc pr) n Hc (fun i H v H' => ∃ T : Addr, v = .ref T ∧ H T = none ∧ H' = upd H T (.tup (pr i))) :=
  ⟨fun _ _ hi q => ⟨hi, q⟩, fun _ q => ⟨rfl, q⟩, fun _ _ _ _ _ _ y => y⟩
theorem sqt_new {K : PySem.W.Frag} {H : Hp} {T : Addr} {xs : List V} : SqT K (upd H T (.tup xs)) T xs := .inl (.inl upd_same)
end TB

set_option maxRecDepth 100000
set_option maxHeartbeats 2000000
namespace TB
open PySem PySem.Spec PyProof.Rows L2
abbrev sIsInt : Stmt := top 11
abbrev sInRange : Stmt := top 12
abbrev sChkLen : Stmt := top 13
abbrev cT (j : Nat) : Stmt := inClass (top 14) j
abbrev sInit : Stmt := cT 1
abbrev sText : Stmt := cT 3
abbrev sPlayers : Stmt := cT 4
abbrev sChkPl : Stmt := cT 5
abbrev sPos : Stmt := cT 6
abbrev sLen : Stmt := cT 14
abbrev sChkT : Stmt := top 15
abbrev sLetOf : Stmt := top 16
section
variable {P : Program} {w : World} {K : PySem.W.Frag} {mg : Str → Option Value} {base : Heap} {C : Addr}
/-! is_integer -/
theorem scIsInt : FnScope ["value"] ["value"] (C8.fnScope sIsInt) := ⟨rfl, rfl, rfl, by decide +kernel, rfl, by decide +kernel, by decide +kernel⟩
def spIsInt : Sp := fun vs H Q _ => ∃ i : Int, vs = [.int i] ∧ Q (.bl true) H
theorem ok_isInt {f : Addr} {fd : FuncData} (T : Txt K mg C) (F : C8.Def K mg "is_integer" sIsInt f fd) (b : Binds K fd ["value"] []) : C8.Cal P w K mg base 1 "is_integer" spIsInt [] := by
  refine C8.cal0 F b .nil scIsInt (fun vs H Q E h => ?_) (fun cdv A outer s H vs Q E hr h => ?_)
  · obtain ⟨i, rfl, _⟩ := h
    rfl
  · obtain ⟨i, rfl, q⟩ := h
    refine ⟨_, pss_one (ps_ret (pe_and (pe_callB call_isi (by rfl) T.isi (by decide +kernel) (pa_cons (pv 0) (pa_cons (pe_bltn (v := .ty "int") (by rfl) T.int (by decide +kernel) rfl) pa_nil))) (pe_one (pe_not (pe_callB call_isi (by rfl) T.isi (by decide +kernel) (pa_cons (pv 0) (pa_cons (pe_bltn (v := .ty "bool") (by rfl) T.bool (by decide +kernel) rfl) pa_nil))))))), ?_⟩
    refine ⟨_, rfl, .int i, .ty "int", _, _, true, rfl, .ty _, .base (.int i), kit_ty (by decide +kernel), true, rfl, ?_⟩
    exact ⟨_, rfl, .int i, .ty "bool", _, _, false, rfl, .ty _, .base (.int i), kit_ty (by decide +kernel), false, rfl, q⟩
/-! in_range -/
theorem scInRange : FnScope ["value", "least", "most"] ["value", "least", "most"] (C8.fnScope sInRange) := ⟨rfl, rfl, rfl, by decide +kernel, rfl, by decide +kernel, by decide +kernel⟩
def spInRange : Sp := fun vs H Q _ => ∃ i lo hi : Int, vs = [.int i, .int lo, .int hi] ∧ lo ≤ i ∧ i ≤ hi ∧ Q (.bl true) H
theorem ok_inRange {f : Addr} {fd : FuncData} (cI : C8.Cal P w K mg base 1 "is_integer" spIsInt []) (F : C8.Def K mg "in_range" sInRange f fd) (b : Binds K fd ["value", "least", "most"] []) : C8.Cal P w K mg base 2 "in_range" spInRange [] := by
  refine C8.cal0 F b .nil scInRange (fun vs H Q E h => ?_) (fun cdv A outer s H vs Q E hr h => ?_)
  · obtain ⟨i, lo, hi, rfl, _⟩ := h
    rfl
  · obtain ⟨i, lo, hi, rfl, h1, h2, q⟩ := h
    refine ⟨_, pss_one (ps_ret (pe_and (C8.pe_c cI hr (by decide) rfl (pa_cons (pv 0) pa_nil)) (pe_one (pe_chain op_le op_le (pv 1) (pv 0) (pv 2))))), ?_⟩
    refine ⟨_, rfl, i, rfl, true, rfl, ?_⟩
    refine ⟨_, rfl, _, rfl, _, _, rfl, rfl, true, bl_t h1, iteT ?_⟩
    refine ⟨_, rfl, _, _, rfl, rfl, ?_⟩
    show Q (.bl (decide (i ≤ hi))) H
    rw [decide_eq_true h2]
    exact q
/-! check_length -/
theorem scChkLen : FnScope ["length"] ["length"] (C8.fnScope sChkLen) := ⟨rfl, rfl, rfl, by decide +kernel, rfl, by decide +kernel, by decide +kernel⟩
def spChkLen : Sp := fun vs H Q _ => ∃ i : Int, vs = [.int i] ∧ i ≤ 2000 ∧ Q .non H
theorem ok_chkLen {f : Addr} {fd : FuncData} (T : Txt K mg C) (F : C8.Def K mg "check_length" sChkLen f fd) (b : Binds K fd ["length"] []) : C8.Cal P w K mg base 1 "check_length" spChkLen [] := by
  refine C8.cal0 F b .nil scChkLen (fun vs H Q E h => ?_) (fun cdv A outer s H vs Q E hr h => ?_)
  · obtain ⟨i, rfl, _⟩ := h
    rfl
  · obtain ⟨i, rfl, h1, q⟩ := h
    refine ⟨_, pss_one (ps_if (pt_cmpR op_gt (pv 0) (C8.pe_gc rfl T.gMax) (nomark _)) (pss_one ps_never) pss_nil), ?_⟩
    refine ⟨_, rfl, _, _, rfl, rfl, false, bl_f (p := (2000 : Int) < i) (by omega), iteF q⟩
/-! the getters, len -/
theorem ok_text {p g : Addr} {fd : FuncData} (T : Txt K mg C) (F : C8.Fun K "text" "Turns.text" sText g fd) (b : Binds K fd ["self"] []) (po : PropOf K C "text" p g) : Prp P w K mg base 1 C "text" "own_text" := by
  refine ⟨p, g, fd, T.cl, po, ?_, b⟩
  obtain ⟨oc, od, dV, kV, doc, pm, an, cdv, ct, osl, rfl, lk, hcd⟩ := F.ex
  exact fn_getter (N := ["self"]) lk hcd ⟨rfl, rfl, rfl, by decide +kernel, rfl, by decide +kernel, by decide +kernel⟩ rfl rfl T.cl T.nT
theorem ok_players {p g : Addr} {fd : FuncData} (T : Txt K mg C) (F : C8.Fun K "players" "Turns.players" sPlayers g fd) (b : Binds K fd ["self"] []) (po : PropOf K C "players" p g) : Prp P w K mg base 1 C "players" "own_players" := by
  refine ⟨p, g, fd, T.cl, po, ?_, b⟩
  obtain ⟨oc, od, dV, kV, doc, pm, an, cdv, ct, osl, rfl, lk, hcd⟩ := F.ex
  exact fn_getter (N := ["self"]) lk hcd ⟨rfl, rfl, rfl, by decide +kernel, rfl, by decide +kernel, by decide +kernel⟩ rfl rfl T.cl T.nP
theorem scLen : FnScope ["self"] ["self"] (C8.fnScope sLen) := ⟨rfl, rfl, rfl, by decide +kernel, rfl, by decide +kernel, by decide +kernel⟩
theorem ok_len {f : Addr} {fd : FuncData} (T : Txt K mg C) (F : C8.Fun K "__len__" "Turns.__len__" sLen f fd) (b : Binds K fd ["self"] []) (h1 : PySem.W.findIn K (.ref C) "__len__" = some (some (.ref f))) (h2 : PySem.W.isFn K (.ref f) = true) : LenOf P w K mg base 1 C := by
  refine ⟨f, fd, h1, h2, b, C8.fn0 F scLen (fun vs H Q E h => ?_) (fun cdv A outer s H vs Q E hr h => ?_)⟩
  · obtain ⟨a, t, n, rfl, _⟩ := h
    rfl
  · obtain ⟨a, t, n, rfl, ⟨dx, ha⟩, hl, q⟩ := h
    refine ⟨_, pss_one (ps_ret (pe_callB call_len_str (by rfl) T.len PySem.boot_len (pa_cons (pe_fld (pv 0) rfl) pa_nil))), ?_⟩
    refine ⟨_, rfl, a, C, dx, _, _, rfl, ha, T.cl, T.nT, rfl, tx t, rfl, ?_, ?_⟩
    · rw [tx_len, sizeLine_eq]
      omega
    · rw [tx_len]
      exact q
/-! check_turns, letters_of -/
theorem scChkT : FnScope ["value"] ["value"] (C8.fnScope sChkT) := ⟨rfl, rfl, rfl, by decide +kernel, rfl, by decide +kernel, by decide +kernel⟩
def spChkT (C : Addr) : Sp := fun vs H Q _ => ∃ a t n, vs = [.ref a] ∧ TnAt C H a t n ∧ Q .non H
theorem ok_chkT {f : Addr} {fd : FuncData} (T : Txt K mg C) (F : C8.Def K mg "check_turns" sChkT f fd) (b : Binds K fd ["value"] []) : C8.Cal P w K mg base 1 "check_turns" (spChkT C) [] := by
  refine C8.cal0 F b .nil scChkT (fun vs H Q E h => ?_) (fun cdv A outer s H vs Q E hr h => ?_)
  · obtain ⟨a, t, n, rfl, _⟩ := h
    rfl
  · obtain ⟨a, t, n, rfl, ⟨dx, ha⟩, q⟩ := h
    refine ⟨_, pss_one (ps_if (pt_not (pt_val (pe_callB (C8.call_isC T.ins) (by rfl) T.isi (by decide +kernel) (pa_cons (pv 0) (pa_cons (C8.pe_gc rfl T.gC) pa_nil))))) (pss_one ps_never) pss_nil), ?_⟩
    exact ⟨_, rfl, a, dx, _, rfl, ha, true, rfl, iteF q⟩
theorem scLetOf : FnScope ["turns"] ["turns"] (C8.fnScope sLetOf) := ⟨rfl, rfl, rfl, by decide +kernel, rfl, by decide +kernel, by decide +kernel⟩
theorem slice_abc {n : Nat} (h : n ≤ 6) : Txt.slice ABC none (some (n : Int)) = lets n := by
  rw [abc]
  unfold tx
  rw [SX.slice_to (by omega)]
  unfold lets tx
  congr 1
  rw [← List.map_take, Int.toNat_natCast]
  congr 1
  have : n = 0 ∨ n = 1 ∨ n = 2 ∨ n = 3 ∨ n = 4 ∨ n = 5 ∨ n = 6 := by omega
  rcases this with rfl | rfl | rfl | rfl | rfl | rfl | rfl <;> rfl
def spLetOf (C : Addr) : Sp := fun vs H Q _ => ∃ a t n, vs = [.ref a] ∧ TnAt C H a t n ∧ n ≤ 6 ∧ Q (.str (lets n)) H
theorem ok_letOf {f : Addr} {fd : FuncData} (T : Txt K mg C) (pP : Prp P w K mg base 1 C "players" "own_players") (F : C8.Def K mg "letters_of" sLetOf f fd) (b : Binds K fd ["turns"] []) : C8.Cal P w K mg base 3 "letters_of" (spLetOf C) [] := by
  refine C8.cal0 F b .nil scLetOf (fun vs H Q E h => ?_) (fun cdv A outer s H vs Q E hr h => ?_)
  · obtain ⟨a, t, n, rfl, _⟩ := h
    rfl
  · obtain ⟨a, t, n, rfl, ha, hn, q⟩ := h
    refine ⟨_, pss_one (ps_ret (pe_slice C8.sl_txt (C8.pe_gc rfl T.gLet) po_none (po_some (pe_pr pP hr (by decide) (pv 0) rfl)))), ?_⟩
    refine ⟨_, rfl, propP ha ⟨_, rfl, ABC, rfl, by decide, ?_⟩⟩
    rw [slice_abc hn]
    exact q
end
end TB

set_option maxRecDepth 100000
set_option maxHeartbeats 2000000
namespace TB
open PySem PySem.Spec PyProof.Rows L2
section
variable {P : Program} {w : World} {K : PySem.W.Frag} {mg : Str → Option Value} {base : Heap} {C : Addr}
/-! Turns.__init__ -/
theorem scInit : FnScope ["self", "text", "players", "item"] ["self", "text", "players"] (C8.fnScope sInit) := ⟨rfl, rfl, rfl, by decide +kernel, rfl, by decide +kernel, by decide +kernel⟩
def spInit (C : Addr) : Sp := fun vs H Q _ => ∃ (a dx : Addr) (t : List Nat) (n : Nat), vs = [.ref a, .str (tx t), .int (n : Int)] ∧ H a = some (.ins C dx []) ∧ TOk t n ∧ ∀ H', (∀ b o, b ≠ a → H b = some o → H' b = some o) → TnAt C H' a t n → Q .non H'
theorem abc_mem {x : Nat} (h : x < 6) : x + 65 ∈ ABC.cps.toList := by
  rw [abc, tx_toL]
  have : x = 0 ∨ x = 1 ∨ x = 2 ∨ x = 3 ∨ x = 4 ∨ x = 5 := by omega
  rcases this with rfl | rfl | rfl | rfl | rfl | rfl <;> simp
theorem any_false (n : Nat) : ((List.range n).map fun _ => false).any id = false := by
  simp
theorem bl_any {n : Nat} : V.bl (((List.range n).map fun _ => false).any id) = V.bl false := by rw [any_false]
theorem lst_lt {x n : Nat} (h : x < n) : decide ([n - 1 + 65] < [x + 65]) = false := by
  apply decide_eq_false
  intro z
  rw [List.cons_lt_cons_iff] at z
  rcases z with z | ⟨_, z⟩
  · omega
  · exact absurd z (by simp)
theorem ok_init {f : Addr} {fd : FuncData} (T : Txt K mg C) (nI : NoAttr K C "own_text") (cR : C8.Cal P w K mg base 2 "in_range" spInRange []) (M : Mk K C f) (F : C8.Fun K "__init__" "Turns.__init__" sInit f fd) (b : Binds K fd ["self", "text", "players"] []) : C8.Mak P w K mg base 3 "Turns" C (spInit C) [] := by
  refine C8.mak0 M T.mgC F b .nil scInit (fun vs H Q E h => ?_) (fun cdv A outer s H vs Q E hr h => ?_)
  · obtain ⟨a, dx, t, n, rfl, _⟩ := h
    rfl
  · obtain ⟨a, dx, t, n, rfl, ha, ok, k⟩ := h
    have hlo := ok.lo
    have hhi := ok.hi
    have hpos := ok.pos
    have hlen := ok.len
    refine ⟨_, pss_cons (ps_if (PW.pt (pw_or (pt_not (pt_val (pe_callB call_isi (by rfl) T.isi (by decide +kernel) (pa_cons (pv 1) (pa_cons (pe_bltn (v := .ty "str") (by rfl) T.str (by decide +kernel) rfl) pa_nil)))))
        (pw_or (pt_not (pt_chain op_le op_le pe_int (pe_callB call_len_str (by rfl) T.len PySem.boot_len (pa_cons (pv 1) pa_nil)) (C8.pe_gc rfl T.gMax)))
        (pw_or1 (pt_val (pe_callB (cr_any rfl) (by rfl) T.any (by decide +kernel) (pa_cons (pe_lc (own := [("item", 3)]) (g := gName 3) (tt := tYes) rfl scInit.nd (pi_str (pv 1)) (blkOk_by (N := ["self", "text", "players", "item"]) (sc := C8.fnScope sInit) (by decide +kernel)) (fun _ _ _ _ _ => pg_name (i := 3) scInit.nd rfl (Or.inl rfl)) (fun _ _ _ _ _ => pts_nil) (fun _ _ _ _ _ => pe_cmpR op_notIn_sign (pv 3) (C8.pe_gc rfl T.gLet) rfl)) pa_nil))))))) (pss_one ps_never) pss_nil)
      (pss_cons (ps_if (PW.pt (pw_or (pt_not (pt_val (C8.pe_c cR hr (by decide) rfl (pa_cons (pv 2) (pa_cons (C8.pe_gc rfl T.gFew) (pa_cons (pe_callB call_len_str (by rfl) T.len PySem.boot_len (pa_cons (C8.pe_gc rfl T.gLet) pa_nil)) pa_nil))))))
        (pw_or1 (pt_cmpR op_gt_str (pe_callB (cr_maxS rfl) (by rfl) T.max (by decide +kernel) (pa_cons (pv 1) pa_nil)) (pe_item_str (C8.pe_gc rfl T.gLet) (pe_op op_sub (pv 2) pe_int) (fun _ _ => rfl)) (nomark _))))) (pss_one ps_never) pss_nil)
      (pss_cons (ps_fld (pv 0) (pv 1) rfl) (pss_one (ps_fld (pv 0) (pv 2) rfl)))), ?_⟩
    refine ⟨_, rfl, .str (tx t), .ty "str", _, _, true, rfl, .ty _, .base (.str _), kit_ty (by decide +kernel), true, rfl, iteF ?_⟩
    refine ⟨_, rfl, tx t, rfl, by rw [tx_len, sizeLine_eq]; omega, ?_⟩
    refine ⟨_, _, rfl, rfl, true, bl_t (p := (1 : Int) ≤ ((tx t).length : Int)) (by rw [tx_len]; omega), iteT ?_⟩
    refine ⟨_, _, rfl, rfl, true, bl_t (p := ((tx t).length : Int) ≤ 2000) (by rw [tx_len]; omega), iteF ?_⟩
    refine ⟨_, rfl, tx t, rfl, fun D hD => lc_it walk_str (PvF H D fun _ => some (.bl false)) (pvF0 hD) (fun _ _ _ _ => trivial) (fun i x H1 H2 hi p y => ?_) fun H1 p => ?_⟩
    · obtain ⟨rfl, c, hc, rfl⟩ := y
      obtain ⟨z, hz, rfl⟩ := tx_at hc
      have hz6 : z < 6 := Nat.lt_of_lt_of_le (ok.mem z (List.mem_of_getElem? hz)) hhi
      refine ⟨rfl, _, rfl, z + 65, ABC, rfl, rfl, ?_⟩
      rw [decide_eq_true (abc_mem hz6)]
      exact pvF_add hD hi (by rw [tx_size]; omega) rfl p
    · refine ⟨D, (List.range (tx t).cps.size).map fun _ => false, rfl, .inl (.inl ?_), false, bl_any, iteF ?_⟩
      · rw [p.2, accF_map, List.map_map]
        rfl
      · refine ⟨_, rfl, ABC, rfl, by decide, _, _, _, rfl, by omega, (by show (n : Int) ≤ ((6 : Nat) : Int); omega), true, rfl, iteF ?_⟩
        refine ⟨_, rfl, tx t, rfl, by rw [tx_size]; omega, fun c hc => ?_⟩
        rw [tx_toL, List.mem_map] at hc
        obtain ⟨z, hz, rfl⟩ := hc
        have hz2 := ok.mem z hz
        refine ⟨_, rfl, _, _, rfl, rfl, ABC, _, n - 1 + 65, rfl, rfl, by omega, by omega, (by show (n : Int) - 1 < ((6 : Nat) : Int); omega), ?_, ?_⟩
        · have e : ((n : Int) - 1).toNat = n - 1 := by omega
          show ABC.cps[((n : Int) - 1).toNat]? = some (n - 1 + 65)
          rw [e]
          have : n = 2 ∨ n = 3 ∨ n = 4 ∨ n = 5 ∨ n = 6 := by omega
          rcases this with rfl | rfl | rfl | rfl | rfl <;> rfl
        · refine ⟨_, _, rfl, rfl, false, by
            show V.bl (decide ([n - 1 + 65] < [z + 65])) = V.bl false
            rw [lst_lt hz2], iteF ?_⟩
          have ha1 := p.1 a _ ha
          refine ⟨_, rfl, _, rfl, a, C, dx, [], rfl, ha1, T.cl, T.nT, by decide, _, rfl, _, rfl, a, C, dx, _, rfl, upd_same, T.cl, T.nP, by show 1 < 1000; decide, ?_⟩
          refine k _ (fun b o hb e => ?_) ⟨dx, ?_⟩
          · rw [upd_ne hb, upd_ne hb]
            exact p.1 b o e
          · rw [upd_same]
            rfl
/-! check_player, positions -/
theorem scChkPl : FnScope ["self", "value"] ["self", "value"] (C8.fnScope sChkPl) := ⟨rfl, rfl, rfl, by decide +kernel, rfl, by decide +kernel, by decide +kernel⟩
def spChkPl (C : Addr) : Sp := fun vs H Q _ => ∃ (a : Addr) (t : List Nat) (n p : Nat), vs = [.ref a, .str (tx [p])] ∧ TnAt C H a t n ∧ n ≤ 6 ∧ p < n ∧ Q .non H
theorem lets_mem {p n : Nat} (h : p < n) : p + 65 ∈ (lets n).cps.toList := by
  unfold lets
  rw [tx_toL]
  exact List.mem_map.mpr ⟨p, List.mem_range.mpr h, rfl⟩
theorem ok_chkPl {f : Addr} {fd : FuncData} (T : Txt K mg C) (me : Meth K C "check_player" f) (F : C8.Fun K "check_player" "Turns.check_player" sChkPl f fd) (b : Binds K fd ["self", "value"] []) : C8.Met P w K mg base 1 C "check_player" (spChkPl C) [] := by
  refine C8.met0 T.cl me F b scChkPl (fun vs H Q E h => ?_) (fun cdv A outer s H vs Q E hr h => ?_)
  · obtain ⟨a, t, n, p, rfl, _⟩ := h
    rfl
  · obtain ⟨a, t, n, p, rfl, ⟨dx, ha⟩, hn, hp, k⟩ := h
    refine ⟨_, pss_one (ps_if (PW.pt (pw_or (pt_not (pt_val (pe_callB call_isi (by rfl) T.isi (by decide +kernel) (pa_cons (pv 1) (pa_cons (pe_bltn (v := .ty "str") (by rfl) T.str (by decide +kernel) rfl) pa_nil)))))
      (pw_or (pt_cmpR op_ne (pe_callB call_len_str (by rfl) T.len PySem.boot_len (pa_cons (pv 1) pa_nil)) pe_int (nomark _))
      (pw_or1 (pt_cmpR op_notIn_sign (pv 1) (pe_slice C8.sl_txt (C8.pe_gc rfl T.gLet) po_none (po_some (pe_fld (pv 0) rfl))) rfl))))) (pss_one ps_never) pss_nil), ?_⟩
    refine ⟨_, rfl, .str (tx [p]), .ty "str", _, _, true, rfl, .ty _, .base (.str _), kit_ty (by decide +kernel), true, rfl, iteF ?_⟩
    refine ⟨_, rfl, tx [p], rfl, by rw [tx_len, sizeLine_eq]; show 1 ≤ 16777216; decide, rfl, false, by rw [tx_len]; rfl, iteF ?_⟩
    refine ⟨_, rfl, _, rfl, a, C, dx, _, _, rfl, ha, T.cl, T.nP, rfl, _, rfl, ABC, rfl, by decide, p + 65, _, rfl, rfl, false, ?_, iteF k⟩
    rw [slice_abc hn, decide_eq_true (lets_mem hp)]
    rfl
theorem scPos : FnScope ["self", "player", "position", "item"] ["self", "player"] (C8.fnScope sPos) := ⟨rfl, rfl, rfl, by decide +kernel, rfl, by decide +kernel, by decide +kernel⟩


def spPos (C : Addr) : Sp := fun vs H Q _ => ∃ (a : Addr) (t : List Nat) (n p : Nat), vs = [.ref a, .str (tx [p])] ∧ TnAt C H a t n ∧ TOk t n ∧ p < n ∧ ∀ H' l, Same H H' → H l = none → H' l = some (.lst (accF (posF t p) t.length)) → Q (.ref l) H'
theorem ok_pos {f : Addr} {fd : FuncData} (T : Txt K mg C) (cP : C8.Met P w K mg base 1 C "check_player" (spChkPl C) []) (me : Meth K C "positions" f) (F : C8.Fun K "positions" "Turns.positions" sPos f fd) (b : Binds K fd ["self", "player"] []) : C8.Met P w K mg base 2 C "positions" (spPos C) [] := by
  refine C8.met0 T.cl me F b scPos (fun vs H Q E h => ?_) (fun cdv A outer s H vs Q E hr h => ?_)
  · obtain ⟨a, t, n, p, rfl, _⟩ := h
    rfl
  · obtain ⟨a, t, n, p, rfl, ha, ok, hp, k⟩ := h
    obtain ⟨dx, hi⟩ := id ha
    refine ⟨_, pss_cons (ps_expr (C8.pe_mt cP hr (by decide) (pv 0) (pa_cons (pv 1) pa_nil)))
      (pss_one (ps_ret (pe_lc (own := [("position", 2), ("item", 3)]) (g := gP K 2 3) rfl scPos.nd (pi_enumS (by rfl) T.enum (pa_cons (pe_fld (pv 0) rfl) pa_nil)) (blkOk_by (N := ["self", "player", "position", "item"]) (sc := C8.fnScope sPos) (by decide +kernel))
        (fun _ _ _ _ _ => pg_tup rfl (pgs_cons (pg_name (i := 2) scPos.nd rfl (Or.inl rfl)) (pgs_cons (pg_name (i := 3) scPos.nd rfl (Or.inl rfl)) pgs_nil))) (fun _ _ _ _ _ => pts_one (pt_cmpR op_eq (pv 3) (pv 1) (nomark _))) (fun _ _ _ _ _ => pv 2)))), ?_⟩
    refine ⟨_, rfl, a, dx, _, rfl, hi, rfl, _, rfl, a, t, n, p, rfl, ha, ok.hi, hp, ?_⟩
    refine ⟨_, rfl, a, C, dx, _, _, rfl, hi, T.cl, T.nT, rfl, tx t, rfl, fun D hD => lc_it walk_p (PvF H D (posF t p)) (pvF0 hD) (fun _ _ _ _ => trivial) (fun i x H1 H2 hlt pv y => ?_) fun H1 pv => ?_⟩
    · obtain ⟨Tp, rfl, hT, rfl⟩ := y
      rw [tx_size] at hlt
      have hz : t[i]? = some t[i] := List.getElem?_eq_getElem hlt
      have e1 : (tx t).cps.getD i 0 = t[i] + 65 := by
        rw [tx_cps, Array.getD_eq_getD_getElem?]
        simp [hz]
      have pv2 : PvF H D (posF t p) i (upd H1 Tp (.tup (prE (tx t) i))) := pvF_same pv (same_new hT)
      refine gp_ok sqt_new ⟨rfl, _, rfl, _, rfl, rfl, decide (V.str ⟨#[(tx t).cps.getD i 0]⟩ = V.str (tx [p])), rfl, ?_⟩
      rw [e1, tx_one]
      by_cases hpp : t[i] = p
      · rw [decide_eq_true (by rw [hpp])]
        exact iteT ⟨_, rfl, pvF_add hD hlt (by have := ok.len; omega) (by unfold posF; rw [hz, hpp, if_pos rfl]) pv2⟩
      · rw [decide_eq_false (fun z => hpp (by
          have := tx_inj (V.str.inj z)
          simpa using this))]
        exact iteF (pvF_skip (by unfold posF; rw [hz, if_neg (fun z => hpp (Option.some.inj z))]) pv2)
    · refine k H1 D pv.1 hD ?_
      rw [pv.2, tx_size]
end
end TB

set_option maxRecDepth 100000
set_option maxHeartbeats 2000000
namespace TB
open PySem PySem.Spec PyProof.Rows L2
theorem least {p : Nat → Prop} : ∀ d, p d → ∃ o, p o ∧ ∀ e, e < o → ¬ p e := by
  intro d
  induction d using Nat.strongRecOn with
  | ind d ih =>
    intro h
    by_cases z : ∃ e, e < d ∧ p e
    · obtain ⟨e, he, q⟩ := z
      exact ih e he q
    · exact ⟨d, h, fun e he q => z ⟨e, he, q⟩⟩
/-! where a player stands; sums over these -/
def psn (t : List Nat) (p : Nat) : List Nat := (List.range t.length).filter fun i => t[i]? = some p
theorem psn_cons (x : Nat) (t : List Nat) (p : Nat) : psn (x :: t) p = (if x = p then [0] else []) ++ (psn t p).map (· + 1) := by
  unfold psn
  rw [List.length_cons, List.range_succ_eq_map, List.filter_cons, List.filter_map]
  have e : ((fun i => decide ((x :: t)[i]? = some p)) ∘ Nat.succ) = fun i => decide (t[i]? = some p) := by
    funext i
    simp
  rw [e]
  by_cases h : x = p
  · simp [h]
  · simp [h]
theorem psn_sum (t : List Nat) (p : Nat) : ∀ f : Nat → Int, ((psn t p).map f).sum = sm t p f := by
  induction t with
  | nil =>
    intro f
    rfl
  | cons x t ih =>
    intro f
    rw [psn_cons, List.map_append, List.sum_append, List.map_map]
    have h := ih (fun i => f (i + 1))
    have e : (f ∘ fun x => x + 1) = fun i => f (i + 1) := rfl
    rw [e, h]
    show _ = (if x = p then (1 : Int) else 0) * f 0 + dot (ind t p) (fun i => f (i + 1))
    by_cases hx : x = p
    · rw [if_pos hx, if_pos hx]
      show (f 0 + 0) + sm t p _ = _
      rw [Int.one_mul, Int.add_zero]
      rfl
    · rw [if_neg hx, if_neg hx]
      show (0 : Int) + sm t p _ = _
      rw [Int.zero_mul]
      rfl
theorem psn_pos (t : List Nat) (p : Nat) : accF (posF t p) t.length = (psn t p).map fun i : Nat => V.int (i : Int) := by
  unfold accF psn
  rw [← List.filterMap_eq_map', List.filterMap_filter]
  congr 1
  funext i
  unfold posF
  by_cases h : t[i]? = some p
  · simp [h]
  · simp [h]
theorem psn_lt {t : List Nat} {p i : Nat} (h : i ∈ psn t p) : i < t.length := by
  unfold psn at h
  rw [List.mem_filter, List.mem_range] at h
  exact h.1
theorem psn_len (t : List Nat) (p : Nat) : (psn t p).length ≤ t.length := by
  unfold psn
  have := List.length_filter_le (fun i => decide (t[i]? = some p)) (List.range t.length)
  rw [List.length_range] at this
  exact this
/-! a table by letters -/
def tab (g : Nat → V) (n : Nat) : List (Key × V) := (List.range n).map fun p => (Sum.inr (tx [p]), g p)
theorem tx1 {a b : Nat} (h : tx [a] = tx [b]) : a = b := by
  have := tx_inj h
  simpa using this
theorem tab_len (g : Nat → V) (n : Nat) : (tab g n).length = n := by simp [tab]
theorem valV_app {xs ys : List (Key × V)} {k : Key} (h : valV xs k = none) : valV (xs ++ ys) k = valV ys k := by
  unfold valV at h ⊢
  rw [List.find?_append]
  cases e : xs.find? fun kv => decide (kv.1 = k) with
  | none => simp
  | some v => rw [e] at h; cases h
theorem valV_app2 {xs ys : List (Key × V)} {k : Key} {v : V} (h : valV xs k = some v) : valV (xs ++ ys) k = some v := by
  unfold valV at h ⊢
  rw [List.find?_append]
  cases e : xs.find? fun kv => decide (kv.1 = k) with
  | none => rw [e] at h; cases h
  | some u => rw [e] at h; simpa using h
theorem tab_succ (g : Nat → V) (n : Nat) : tab g (n + 1) = tab g n ++ [(Sum.inr (tx [n]), g n)] := by
  unfold tab
  rw [List.range_succ, List.map_append]
  rfl
theorem tab_new (g : Nat → V) {n p : Nat} (h : n ≤ p) : valV (tab g n) (Sum.inr (tx [p])) = none := by
  induction n with
  | zero => rfl
  | succ n ih =>
    rw [tab_succ, valV_app (ih (by omega)), valV_neg (fun z => by
      have := tx1 (Sum.inr.inj z)
      omega)]
    rfl
theorem tab_val (g : Nat → V) {n p : Nat} (h : p < n) : valV (tab g n) (Sum.inr (tx [p])) = some (g p) := by
  induction n with
  | zero => omega
  | succ n ih =>
    rw [tab_succ]
    by_cases hp : p < n
    · exact valV_app2 (ih hp)
    · have e : p = n := by omega
      subst e
      rw [valV_app (tab_new g (Nat.le_refl _))]
      exact valV_pos rfl
theorem tab_put (g : Nat → V) (n : Nat) : putK (tab g n) (Sum.inr (tx [n])) (g n) = tab g (n + 1) := by
  rw [putK_new _ (tab_new g (Nat.le_refl _)), tab_succ]
/-- a dict comprehension by a walk -/
theorem dc_it {J : It} {n : Nat} {G : Hp → Prop} {Y : Nat → Hp → V → Hp → Prop} (w : Walk J n G Y) {g : TG} {tt : TT} {tk tv : TE} {vs : List Nat} {σ : L2.St} {H1 : Hp} {D : Addr} {Qd : Hp → Prop} (Pv : Nat → Hp → Prop) (h0 : Pv 0 (upd H1 D (.dK []))) (hG : ∀ i H, i ≤ n → Pv i H → G H)
    (hs : ∀ i x H H', i < n → Pv i H → Y i H x H' → g x (wipe σ vs) H' fun σ2 H2 => wipe σ2 vs = wipe σ vs ∧ tt σ2 H2 fun b H3 =>
      if b = true then tk σ2 H3 fun y H4 => tv σ2 H4 fun z H5 => ∃ kvs k, y = kV k ∧ H5 D = some (.dK kvs) ∧ kvs.length < sizeLine ∧ Pv (i + 1) (upd H5 D (.dK (putK kvs k z))) else Pv (i + 1) H3) (hd : ∀ H, Pv n H → Qd H) :
    ∃ W : Nat → Nat → Hp → Prop, (∃ m, W 0 m (upd H1 D (.dK []))) ∧ ∀ i m H, W i m H →
      (J.stop i H ∧ Qd H) ∨ (J.go i H ∧ ∃ Nx : Hp → Prop, (∀ H', Nx H' → ∃ m', m' < m ∧ W (i + 1) m' H') ∧ ∀ x H', J.yld i H x H' → g x (wipe σ vs) H' fun σ2 H2 => wipe σ2 vs = wipe σ vs ∧ tt σ2 H2 fun b H3 =>
        if b = true then tk σ2 H3 fun y H4 => tv σ2 H4 fun z H5 => ∃ kvs k, y = kV k ∧ H5 D = some (.dK kvs) ∧ kvs.length < sizeLine ∧ Nx (upd H5 D (.dK (putK kvs k z))) else Nx H3) := by
  refine ⟨fun i m H => m = n - i ∧ i ≤ n ∧ Pv i H, ⟨n, by simp, Nat.zero_le _, h0⟩, ?_⟩
  rintro i m H ⟨rfl, hi, p⟩
  have q := hG i H hi p
  by_cases hlt : i < n
  · exact .inr ⟨w.goes i H hlt q, Pv (i + 1), fun H' p' => ⟨n - (i + 1), by omega, rfl, hlt, p'⟩, fun x H' y => hs i x H H' hlt p (w.yields i H x H' hlt q y)⟩
  · have e : i = n := by omega
    subst e
    exact .inl ⟨w.stops H q, hd H p⟩
def PvT (H1 : Hp) (D : Addr) (g : Nat → V) (i : Nat) (H : Hp) : Prop := Same H1 H ∧ H D = some (.dK (tab g i))
section
variable {H1 H : Hp} {D : Addr} {g : Nat → V} {i : Nat}
theorem pvT0 (hD : H1 D = none) : PvT H1 D g 0 (upd H1 D (.dK [])) := ⟨same_new hD, upd_same⟩
theorem pvT_add (hD : H1 D = none) (hi : i < 100) (h : PvT H1 D g i H) : ∃ kvs k, V.str (tx [i]) = kV k ∧ H D = some (.dK kvs) ∧ kvs.length < sizeLine ∧ PvT H1 D g (i + 1) (upd H D (.dK (putK kvs k (g i)))) := by
  refine ⟨_, .inr (tx [i]), rfl, h.2, ?_, same_upd hD h.1, by rw [upd_same, tab_put]⟩
  rw [tab_len, sizeLine_eq]
  omega
theorem pvT_same {H' : Hp} (h : PvT H1 D g i H) (s : Same H H') : PvT H1 D g i H' := ⟨h.1.trans s, s _ _ h.2⟩
end
theorem lets_at {n i c : Nat} (h : (lets n).cps[i]? = some c) : i < n ∧ c = i + 65 := by
  unfold lets at h
  have hs : i < (tx (List.range n)).cps.size := (Array.getElem?_eq_some_iff.mp h).1
  rw [tx_cps] at h hs
  simp at h hs
  obtain ⟨a, h1, h2⟩ := h
  rw [List.getElem?_range hs] at h1
  cases h1
  exact ⟨hs, h2.symm⟩
theorem lets_size (n : Nat) : (lets n).cps.size = n := by
  unfold lets
  rw [tx_cps]
  simp
end TB

set_option maxRecDepth 100000
set_option maxHeartbeats 2000000
namespace TB
open PySem PySem.Spec PyProof.Rows L2
abbrev sTot : Stmt := top 20
abbrev sFD : Stmt := top 21
abbrev sAP : Stmt := top 22
abbrev sCert : Stmt := top 23
abbrev sOrd : Stmt := top 24
section
variable {P : Program} {w : World} {K : PySem.W.Frag} {mg : Str → Option Value} {base : Heap} {C : Addr}
/-! next_binomials -/
theorem scNB : FnScope ["row", "degree", "position", "choices"] ["row", "degree"] (C8.fnScope sNB) := ⟨rfl, rfl, rfl, by decide +kernel, rfl, by decide +kernel, by decide +kernel⟩
theorem ok_nb {f : Addr} {fd : FuncData} (T : Txt K mg C) (F : C8.Def K mg "next_binomials" sNB f fd) (b : Binds K fd ["row", "degree"] []) : C8.Cal P w K mg base 1 "next_binomials" (spNB K) [] := by
  refine C8.cal0 F b .nil scNB (fun vs H Q E h => ?_) (fun cdv A outer s H vs Q E hr h => ?_)
  · obtain ⟨a, N, d, rfl, _⟩ := h
    rfl
  · obtain ⟨a, N, d, rfl, hq, hN, hd, k⟩ := h
    refine ⟨_, pss_one (ps_ret (pe_lc (own := [("position", 2), ("choices", 3)]) (g := gP K 2 3) (tt := tYes) rfl scNB.nd (pi_enum (by rfl) T.enum (pa_cons (pv 0) pa_nil)) (blkOk_by (N := ["row", "degree", "position", "choices"]) (sc := C8.fnScope sNB) (by decide +kernel))
        (fun _ _ _ _ _ => pg_tup rfl (pgs_cons (pg_name (i := 2) scNB.nd rfl (Or.inl rfl)) (pgs_cons (pg_name (i := 3) scNB.nd rfl (Or.inl rfl)) pgs_nil))) (fun _ _ _ _ _ => pts_nil)
        (fun _ _ _ _ _ => pe_op op_fdiv (pe_op op_mul (pv 3) (pe_op op_sub (pv 2) (pv 1))) (pe_op op_add (pv 1) pe_int)))), ?_⟩
    refine ⟨_, rfl, a, rowV N d, rfl, hq, fun D hD => lc_it walk_enum (PvF H D fun i => some (.int (ch i (d + 1) : Int))) (pvF0 hD) (fun i H1 _ p => p.1.seq hq) (fun i x H1 H2 hi p y => ?_) fun H1 p => ?_⟩
    · obtain ⟨Tp, x, z, rfl, hT, rfl, hx, hz⟩ := y
      rw [rowV_len] at hi
      cases hx
      have hz : (rowV N d)[i]? = some z := hz
      rw [rowV_get hi] at hz
      cases hz
      refine gp_ok sqt_new ⟨rfl, _, rfl, _, rfl, _, rfl, _, _, rfl, rfl, _, _, rfl, rfl, .inr ⟨by omega, by omega⟩, _, rfl, _, _, rfl, rfl, _, _, rfl, rfl, ⟨by omega, by omega⟩, ?_⟩
      have e1 : ((ch i d : Nat) : Int) * (((i : Nat) : Int) - ((d : Nat) : Int)) / (((d : Nat) : Int) + 1) = (ch i (d + 1) : Int) := ch_div i d
      show ∃ acc, _ = some (HO.lst acc) ∧ acc.length < sizeLine ∧ PvF H D _ (i + 1) (upd _ D (.lst (acc ++ [.int (((ch i d : Nat) : Int) * (((i : Nat) : Int) - ((d : Nat) : Int)) / (((d : Nat) : Int) + 1))])))
      rw [e1]
      exact pvF_add (n := N) hD hi (by omega) rfl (pvF_same p (same_new hT))
    · refine k H1 D p.1 hD ?_
      rw [p.2, rowV_len, accF_map]
      rfl
/-! totals_for -/
theorem scTot : FnScope ["turns", "values", "player", "position"] ["turns", "values"] (C8.fnScope sTot) := ⟨rfl, rfl, rfl, by decide +kernel, rfl, by decide +kernel, by decide +kernel⟩
def totT (t : List Nat) (d : Nat) (p : Nat) : V := .int (sm t p fun i => (ch i d : Int))
def spTot (K : PySem.W.Frag) (C : Addr) : Sp := fun vs H Q _ => ∃ (a l : Addr) (t : List Nat) (n d : Nat), vs = [.ref a, .ref l] ∧ TnAt C H a t n ∧ TOk t n ∧ SqL K H l (rowV t.length d) ∧
  ∀ H' p, Same H H' → H' p = some (.dK (tab (totT t d) n)) → Q (.ref p) H'
abbrev dcTot : Expr := retE (at0 (C8.fnBody sTot) 0)
theorem ok_tot {f : Addr} {fd : FuncData} (T : Txt K mg C) (cL : C8.Cal P w K mg base 3 "letters_of" (spLetOf C) []) (cP : C8.Met P w K mg base 2 C "positions" (spPos C) []) (F : C8.Def K mg "totals_for" sTot f fd) (b : Binds K fd ["turns", "values"] []) :
    C8.Cal P w K mg base 4 "totals_for" (spTot K C) [] := by
  refine C8.cal0 F b .nil scTot (fun vs H Q E h => ?_) (fun cdv A outer s H vs Q E hr h => ?_)
  · obtain ⟨a, l, t, n, d, rfl, _⟩ := h
    rfl
  · obtain ⟨a, l, t, n, d, rfl, ha, ok, hl, k⟩ := h
    obtain ⟨dx, hi⟩ := id ha
    refine ⟨_, pss_one (ps_ret (pe_dc (own := [("player", 2)]) (g := gName 2) (tt := tYes) (tk := tVar 2) (tv := tCB (rSum K) (tCons (tLc (iList K (tMeth C "positions" (spPos C) [] C8.E0 (tVar 0) (tCons (tVar 2) tNil))) (gName 3) tYes (tOp (rIxL K) (tVar 1) (tVar 3)) [3]) tNil)) rfl scTot.nd (pi_str (C8.pe_c cL hr (by decide) rfl (pa_cons (pv 0) pa_nil))) (blkOk_by (N := ["turns", "values", "player", "position"]) (sc := C8.fnScope sTot) (by decide +kernel))
        (fun _ _ _ _ _ => pg_name (i := 2) scTot.nd rfl (Or.inl rfl)) (fun _ _ _ _ _ => pts_nil) (fun _ _ _ _ _ => pv 2)
        (fun _ _ _ _ _ => pe_callB (cr_sum rfl) (by rfl) T.sum (by decide +kernel) (pa_cons (pe_lc (own := [("position", 3)]) (g := gName 3) (tt := tYes) rfl scTot.nd (pi_list (C8.pe_mt cP hr (by decide) (pv 0) (pa_cons (pv 2) pa_nil)))
          (blkOk_by (N := ["turns", "values", "player", "position"]) (sc := relabel (compSc dcTot) (envOfC "totals_for" (C8.fnScope sTot) 0 0 .none)) (by decide +kernel)) (fun _ _ _ _ _ => pg_name (i := 3) scTot.nd rfl (Or.inl rfl)) (fun _ _ _ _ _ => pts_nil) (fun _ _ _ _ _ => pe_ix ix_list (pv 1) (pv 3) (fun _ _ => rfl))) pa_nil)))), ?_⟩
    refine ⟨_, rfl, a, t, n, rfl, ha, ok.hi, lets n, rfl, fun D hD => dc_it walk_str (PvT H D (totT t d)) (pvT0 hD) (fun _ _ _ _ => trivial) (fun i x H1 H2 hlt p y => ?_) fun H1 p => ?_⟩
    · obtain ⟨rfl, c, hc, rfl⟩ := y
      obtain ⟨hin, rfl⟩ := lets_at hc
      have ha1 := ha.same p.1
      obtain ⟨dx1, hi1⟩ := id ha1
      refine ⟨rfl, _, rfl, _, rfl, a, dx1, _, rfl, hi1, rfl, _, rfl, a, t, n, i, rfl, ha1, ok, hin, fun H3 l3 s3 hn3 e3 => ?_⟩
      rw [psn_pos] at e3
      have p3 := pvT_same p s3
      refine ⟨l3, rfl, ⟨_, .inl (.inl e3)⟩, fun D2 hD2 => lc_it walk_list (PvF H3 D2 fun j => (psn t i)[j]?.map fun q => V.int (ch q d : Int)) (pvF0 hD2) (fun j H4 _ p4 => p4.1.seq (.inl (.inl e3))) (fun j x H4 H5 hj p4 y => ?_) fun H4 p4 => ?_⟩
      · obtain ⟨rfl, hx⟩ := y
        rw [List.length_map] at hj
        rw [List.getElem?_map, List.getElem?_eq_getElem hj] at hx
        cases hx
        have hq := psn_lt (List.getElem_mem hj)
        have hle := psn_len t i
        have hl5 := ok.len
        refine ⟨rfl, _, rfl, _, rfl, l, _, _, _, rfl, rfl, (p3.1.trans p4.1).seq hl, atI_nat (rowV_get hq), ?_⟩
        exact pvF_add (n := (psn t i).length) hD2 hj (by omega) (by rw [List.getElem?_eq_getElem hj]; rfl) p4
      · refine ⟨D2, (psn t i).map fun q => (ch q d : Int), rfl, .inl (.inl ?_), ?_⟩
        · rw [p4.2, List.length_map, accF_get, List.map_map]
          rfl
        · rw [psn_sum]
          exact pvT_add hD (by have := ok.hi; omega) (pvT_same p3 p4.1)
    · rw [lets_size] at p
      exact k H1 D p.1 p.2
end
end TB

set_option maxRecDepth 100000
set_option maxHeartbeats 4000000
namespace TB
open PySem PySem.Spec PyProof.Rows L2
/-! a walk by turns, any step -/
theorem w_it {J : It} {n : Nat} {G : Hp → Prop} {Y : Nat → Hp → V → Hp → Prop} (w : Walk J n G Y) {H0 : Hp} {End : Hp → Prop} {Stp : (Hp → Prop) → V → Hp → Prop} (Pv : Nat → Hp → Prop) (h0 : Pv 0 H0) (hG : ∀ i H, i ≤ n → Pv i H → G H)
    (hs : ∀ i x H H', i < n → Pv i H → Y i H x H' → Stp (Pv (i + 1)) x H') (hd : ∀ H, Pv n H → End H) :
    ∃ W : Nat → Nat → Hp → Prop, (∃ m, W 0 m H0) ∧ ∀ i m H, W i m H → (J.stop i H ∧ End H) ∨ (J.go i H ∧ ∃ Nx : Hp → Prop, (∀ H', Nx H' → ∃ m', m' < m ∧ W (i + 1) m' H') ∧ ∀ x H', J.yld i H x H' → Stp Nx x H') := by
  refine ⟨fun i m H => m = n - i ∧ i ≤ n ∧ Pv i H, ⟨n, by simp, Nat.zero_le _, h0⟩, ?_⟩
  rintro i m H ⟨rfl, hi, p⟩
  have q := hG i H hi p
  by_cases hlt : i < n
  · exact .inr ⟨w.goes i H hlt q, Pv (i + 1), fun H' p' => ⟨n - (i + 1), by omega, rfl, hlt, p'⟩, fun x H' y => hs i x H H' hlt p (w.yields i H x H' hlt q y)⟩
  · have e : i = n := by omega
    subst e
    exact .inl ⟨w.stops H q, hd H p⟩
def plI (n a : Nat) (j : Nat) : List (Nat × Nat) := (List.range j).filterMap fun b => if a < b then some (a, b) else none
def plO (n : Nat) (i : Nat) : List (Nat × Nat) := (List.range i).flatMap fun a => plI n a n
theorem plI_len (n a j : Nat) : (plI n a j).length ≤ j := by
  unfold plI
  have := List.length_filterMap_le (fun b => if a < b then some (a, b) else none) (List.range j)
  rw [List.length_range] at this
  exact this
theorem plO_succ (n i : Nat) : plO n (i + 1) = plO n i ++ plI n i n := by
  unfold plO
  rw [List.range_succ, List.flatMap_append]
  simp
theorem plO_len (n i : Nat) : (plO n i).length ≤ i * n := by
  induction i with
  | zero => simp [plO]
  | succ i ih =>
    rw [plO_succ, List.length_append]
    have := plI_len n i n
    rw [Nat.succ_mul]
    omega
theorem plI_yes {n a j : Nat} (h : a < j) : plI n a (j + 1) = plI n a j ++ [(a, j)] := by
  unfold plI
  rw [List.range_succ, List.filterMap_append]
  simp [h]
theorem plI_no {n a j : Nat} (h : ¬ a < j) : plI n a (j + 1) = plI n a j := by
  unfold plI
  rw [List.range_succ, List.filterMap_append]
  simp [h]
theorem pl_mem {n : Nat} {ab : Nat × Nat} (h : ab ∈ plO n n) : ab.1 < n ∧ ab.2 < n := by
  unfold plO plI at h
  simp only [List.mem_flatMap, List.mem_range, List.mem_filterMap] at h
  obtain ⟨a, ha, b, hb, e⟩ := h
  by_cases hab : a < b
  · rw [if_pos hab] at e
    cases e
    exact ⟨ha, hb⟩
  · rw [if_neg hab] at e
    cases e
theorem pl_all {n a b : Nat} (ha : a < b) (hb : b < n) : (a, b) ∈ plO n n := by
  unfold plO plI
  simp only [List.mem_flatMap, List.mem_range, List.mem_filterMap]
  exact ⟨a, by omega, b, hb, by rw [if_pos ha]⟩
/-- the pairs as tuples at ps -/
def PairsAt (H : Hp) (ps : List Addr) (l : List (Nat × Nat)) : Prop := ps.length = l.length ∧ ∀ (k : Nat) (p : Addr) (ab : Nat × Nat), ps[k]? = some p → l[k]? = some ab → H p = some (.tup [.str (tx [ab.1]), .str (tx [ab.2])])
theorem PairsAt.same {H H' : Hp} {ps : List Addr} {l : List (Nat × Nat)} (h : PairsAt H ps l) (s : Same H H') : PairsAt H' ps l := ⟨h.1, fun k p ab h1 h2 => s _ _ (h.2 k p ab h1 h2)⟩
theorem PairsAt.add {H : Hp} {ps : List Addr} {l : List (Nat × Nat)} {p : Addr} {ab : Nat × Nat} (h : PairsAt H ps l) (e : H p = some (.tup [.str (tx [ab.1]), .str (tx [ab.2])])) : PairsAt H (ps ++ [p]) (l ++ [ab]) := by
  refine ⟨by rw [List.length_append, List.length_append, h.1]; rfl, fun k q cd h1 h2 => ?_⟩
  by_cases hk : k < ps.length
  · rw [List.getElem?_append_left hk] at h1
    rw [List.getElem?_append_left (by rw [← h.1]; exact hk)] at h2
    exact h.2 k q cd h1 h2
  · rw [List.getElem?_append_right (by omega)] at h1
    rw [List.getElem?_append_right (by rw [← h.1]; omega), ← h.1] at h2
    cases hz : k - ps.length with
    | zero =>
      rw [hz] at h1 h2
      cases h1
      cases h2
      exact e
    | succ z =>
      rw [hz] at h1
      simp at h1
def PvQ (H1 : Hp) (D : Addr) (l : List (Nat × Nat)) (H : Hp) : Prop := Same H1 H ∧ ∃ ps : List Addr, H D = some (.lst (ps.map V.ref)) ∧ PairsAt H ps l
section
variable {P : Program} {w : World} {K : PySem.W.Frag} {mg : Str → Option Value} {base : Heap} {C : Addr}
theorem scAP : FnScope ["turns", "letters", "first", "second"] ["turns"] (C8.fnScope sAP) := ⟨rfl, rfl, rfl, by decide +kernel, rfl, by decide +kernel, by decide +kernel⟩
def spAP (C : Addr) : Sp := fun vs H Q _ => ∃ (a : Addr) (t : List Nat) (n : Nat), vs = [.ref a] ∧ TnAt C H a t n ∧ n ≤ 6 ∧ ∀ (H' : Hp) (l : Addr) (ps : List Addr), Same H H' → H' l = some (.lst (ps.map V.ref)) → PairsAt H' ps (plO n n) → Q (.ref l) H'
theorem lt_sg {a b : Nat} : decide (([a + 65] : List Nat) < [b + 65]) = decide (a < b) := by
  by_cases h : a < b
  · rw [decide_eq_true h, decide_eq_true]
    rw [List.cons_lt_cons_iff]
    exact .inl (by omega)
  · rw [decide_eq_false h, decide_eq_false]
    intro z
    rw [List.cons_lt_cons_iff] at z
    rcases z with z | ⟨_, z⟩
    · omega
    · exact absurd z (by simp)
theorem ok_ap {f : Addr} {fd : FuncData} (T : Txt K mg C) (cL : C8.Cal P w K mg base 3 "letters_of" (spLetOf C) []) (F : C8.Def K mg "all_pairs" sAP f fd) (b : Binds K fd ["turns"] []) : C8.Cal P w K mg base 4 "all_pairs" (spAP C) [] := by
  refine C8.cal0 F b .nil scAP (fun vs H Q E h => ?_) (fun cdv A outer s H vs Q E hr h => ?_)
  · obtain ⟨a, t, n, rfl, _⟩ := h
    rfl
  · obtain ⟨a, t, n, rfl, ha, hn, k⟩ := h
    refine ⟨_, pss_cons (ps_set (i := 1) scAP.nd rfl (.inr rfl) (C8.pe_c cL hr (by decide) rfl (pa_cons (pv 0) pa_nil)))
      (pss_one (ps_ret (pe_lc2 (own := [("first", 2), ("second", 3)]) (vs1 := [3]) (g := gName 2) (g1 := gName 3) (tt := tYes) (wi1 := iStr (tVar 1)) (tt1 := tTest (tOp _ (tVar 2) (tVar 3))) (te := tTup (tCons (tVar 2) (tCons (tVar 3) tNil))) rfl scAP.nd (pi_str (pv 1)) (blkOk_by (N := ["turns", "letters", "first", "second"]) (sc := C8.fnScope sAP) (by decide +kernel)) (by decide)
        (fun _ _ _ _ _ => pg_name (i := 2) scAP.nd rfl (Or.inl rfl)) (fun _ _ _ _ _ => pts_nil) (fun _ _ _ _ _ => pi_str (pv 1)) (fun _ _ _ _ _ => pg_name (i := 3) scAP.nd rfl (Or.inl rfl)) (fun _ _ _ _ _ => pts_one (pt_cmpR op_lt_str (pv 2) (pv 3) (nomark _)))
        (fun _ _ _ _ _ => pe_tup (pa_cons (pv 2) (pa_cons (pv 3) pa_nil)))))), ?_⟩
    refine ⟨_, rfl, a, t, n, rfl, ha, hn, _, rfl, lets n, rfl, fun D hD => w_it walk_str (fun i H' => PvQ H D (plO n i) H') ⟨same_new hD, [], upd_same, rfl, fun k p ab h => by cases h⟩ (fun _ _ _ _ => trivial) (fun i x H1 H2 hlt p y => ?_) fun H1 p => ?_⟩
    · obtain ⟨rfl, c, hc, rfl⟩ := y
      obtain ⟨hin, rfl⟩ := lets_at hc
      refine ⟨rfl, _, rfl, lets n, rfl, w_it walk_str (fun j H' => PvQ H D (plO n i ++ plI n i j) H') (by rw [show plI n i 0 = [] from rfl, List.append_nil]; exact p) (fun _ _ _ _ => trivial) (fun j x H3 H4 hlt2 p2 y => ?_) fun H3 p2 => ?_⟩
      · obtain ⟨rfl, c, hc2, rfl⟩ := y
        obtain ⟨hjn, rfl⟩ := lets_at hc2
        refine ⟨rfl, _, rfl, _, rfl, _, _, rfl, rfl, decide (i < j), by rw [← lt_sg], ?_⟩
        by_cases hij : i < j
        · rw [decide_eq_true hij]
          obtain ⟨s3, ps, e3, q3⟩ := p2
          refine ⟨_, rfl, _, rfl, by show 2 ≤ sizeLine; decide, fun p hp => ?_⟩
          have hpD : D ≠ p := fun z => by rw [← z, e3] at hp; cases hp
          have hlen : ps.length ≤ 36 := by
            rw [q3.1, List.length_append]
            have h1 := plO_len n i
            have h2 := plI_len n i j
            have h3 : i * n ≤ 5 * 6 := Nat.mul_le_mul (by omega) hn
            omega
          refine ⟨ps.map V.ref, by rw [upd_ne hpD]; exact e3, by rw [List.length_map, sizeLine_eq]; omega, same_upd hD (s3.trans (same_new hp)), ps ++ [p], by rw [upd_same, List.map_append]; rfl, ?_⟩
          rw [plI_yes hij, ← List.append_assoc]
          refine PairsAt.add ⟨q3.1, fun k q ab h1 h2 => ?_⟩ (by rw [upd_ne (Ne.symm hpD), upd_same]; rfl)
          have h4 := q3.2 k q ab h1 h2
          rw [upd_ne (fun z => by rw [z, e3] at h4; cases h4), upd_ne (fun z => by rw [z, hp] at h4; cases h4)]
          exact h4
        · rw [decide_eq_false hij]
          refine iteF ?_
          rw [plI_no hij]
          exact p2
      · rw [lets_size] at p2
        rw [plO_succ]
        exact p2
    · rw [lets_size] at p
      obtain ⟨s1, ps, e1, q1⟩ := p
      exact k H1 D ps s1 e1 q1
end
end TB

set_option maxRecDepth 100000
set_option maxHeartbeats 4000000
namespace TB
open PySem PySem.Spec PyProof.Rows L2
theorem ord_ex {n : Nat} {t : List Nat} (ok : TOk t n) : ∃ o, Ord n t o := by
  have h := differ_ch n t ok.lo (fun z => by have := ok.pos; rw [z] at this; simp at this) ok.mem
  have h2 : ∃ d, ∃ a b, a < n ∧ b < n ∧ sm t a (fun i => (ch i d : Int)) ≠ sm t b (fun i => (ch i d : Int)) := by
    refine Classical.byContradiction fun z => h fun d _ a b ha hb => Classical.byContradiction fun q => z ⟨d, a, b, ha, hb, q⟩
  obtain ⟨d, hd⟩ := h2
  obtain ⟨o, ho, hm⟩ := least (p := fun d => ∃ a b, a < n ∧ b < n ∧ sm t a (fun i => (ch i d : Int)) ≠ sm t b (fun i => (ch i d : Int))) d hd
  exact ⟨o, fun d hd a b ha hb => Classical.byContradiction fun q => hm d hd ⟨a, b, ha, hb, q⟩, ho⟩
/-- all players of the pairs alike at d, then all alike -/
theorem alike {n : Nat} {x : Nat → Int} (h : ∀ ab ∈ plO n n, x ab.1 = x ab.2) : ∀ a b, a < n → b < n → x a = x b := fun a b ha hb => by
  rcases Nat.lt_trichotomy a b with z | z | z
  · exact h (a, b) (pl_all z hb)
  · rw [z]
  · exact (h (b, a) (pl_all z ha)).symm
section
variable {P : Program} {w : World} {K : PySem.W.Frag} {mg : Str → Option Value} {base : Heap} {C : Addr}
theorem scFD : FnScope ["turns", "pairs", "degree", "row", "totals", "first", "second"] ["turns", "pairs"] (C8.fnScope sFD) := ⟨rfl, rfl, rfl, by decide +kernel, rfl, by decide +kernel, by decide +kernel⟩
def spFD (K : PySem.W.Frag) (C : Addr) : Sp := fun vs H Q _ => ∃ (a l : Addr) (t : List Nat) (n : Nat) (ps : List Addr), vs = [.ref a, .ref l] ∧ TnAt C H a t n ∧ TOk t n ∧ t.length ≤ 100 ∧ SqL K H l (ps.map V.ref) ∧ PairsAt H ps (plO n n) ∧
  ∀ H' p d x y z, Same H H' → H' p = some (.tup [.int ((d : Nat) : Int), x, y, z]) → Ord n t d → Q (.ref p) H'
theorem ok_fd {fB : Addr} {f : Addr} {fdB fd : FuncData} (T : Txt K mg C) (cLen : LenOf P w K mg base 1 C) (nb : C8.Cal P w K mg base 1 "next_binomials" (spNB K) []) (FB : C8.Def K mg "binomial_rows" sBR fB fdB) (bB : Binds K fdB PBR [])
    (cT : C8.Cal P w K mg base 4 "totals_for" (spTot K C) []) (F : C8.Def K mg "first_difference" sFD f fd) (b : Binds K fd ["turns", "pairs"] []) : C8.Cal P w K mg base 7 "first_difference" (spFD K C) [] := by
  refine C8.cal0 F b .nil scFD (fun vs H Q E h => ?_) (fun cdv A outer s H vs Q E hr h => ?_)
  · obtain ⟨a, l, t, n, ps, rfl, _⟩ := h
    rfl
  · obtain ⟨a, l, t, n, ps, rfl, ha, ok, ht, hl, hps, k⟩ := h
    have hu := hu_of hr
    refine ⟨_, pss_cons (ps_forG FB bB nb hr rfl rfl rfl T.enum T.range (pa_cons (pe_callB (call_lenT cLen hr (by decide)) (by rfl) T.len PySem.boot_len (pa_cons (pv 0) pa_nil)) (pa_cons (pe_callB (call_lenT cLen hr (by decide)) (by rfl) T.len PySem.boot_len (pa_cons (pv 0) pa_nil)) pa_nil))
        (pg_tup rfl (pgs_cons (pg_name (i := 2) scFD.nd rfl (Or.inl rfl)) (pgs_cons (pg_name (i := 3) scFD.nd rfl (Or.inl rfl)) pgs_nil)))
        (pss_cons (ps_set (i := 4) scFD.nd rfl (Or.inl rfl) (C8.pe_c cT hr (by decide) rfl (pa_cons (pv 0) (pa_cons (pv 3) pa_nil))))
          (pss_one (ps_for PassesOwn.never rfl (pi_list (pv 1)) (pg_tup rfl (pgs_cons (pg_name (i := 5) scFD.nd rfl (Or.inl rfl)) (pgs_cons (pg_name (i := 6) scFD.nd rfl (Or.inl rfl)) pgs_nil)))
            (pss_one (ps_if (pt_cmpR op_ne (pe_dget hu (pv 4) (pv 5) (fun _ _ => rfl)) (pe_dget hu (pv 4) (pv 6) (fun _ _ => rfl)) (nomark _))
              (pss_one (ps_ret (pe_tup (pa_cons (pv 2) (pa_cons (pv 5) (pa_cons (pv 6) (pa_cons (pe_op op_sub (pe_dget hu (pv 4) (pv 5) (fun _ _ => rfl)) (pe_dget hu (pv 4) (pv 6) (fun _ _ => rfl))) pa_nil))))))) pss_nil)))))
        rfl rfl rfl (fun _ => rfl)) (pss_one ps_never), ?_⟩
    obtain ⟨o, ho⟩ := ord_ex ok
    have hne : t ≠ [] := fun z => by have := ok.pos; rw [z] at this; simp at this
    have hol := ho.lt ok.lo hne ok.mem
    refine ⟨_, rfl, a, t, n, rfl, ha, ok.len, _, rfl, a, t, n, rfl, ha, ok.len, t.length, rfl, ht,
      fun d σ' H' => (∃ v2 v3 v4 v5 v6, σ' = [some (.ref a), some (.ref l), v2, v3, v4, v5, v6]) ∧ Same H H' ∧ ∀ d' < d, ∀ x y, x < n → y < n → sm t x (fun i => (ch i d' : Int)) = sm t y (fun i => (ch i d' : Int)),
      ⟨⟨none, none, none, none, none, rfl⟩, Same.refl _, fun d' hd => absurd hd (Nat.not_lt_zero _)⟩, o, by omega, fun d hd σ' H' hW Tp r H2 s2 hT hr2 => ?_⟩
    obtain ⟨⟨v2, v3, v4, v5, v6, rfl⟩, sH, eq⟩ := hW
    have sH2 := sH.trans s2
    refine gp_ok (SqT.of hT) ?_
    refine ⟨_, rfl, _, rfl, a, r, t, n, d, rfl, ha.same sH2, ok, SqL.of hr2, fun H3 q s3 e3 => ?_⟩
    have sH3 := sH2.trans s3
    have hl3 : SqL K H3 l (ps.map V.ref) := sH3.seq hl
    refine ⟨_, rfl, l, rfl, ⟨_, hl3⟩, for_it walk_list (fun i σ4 H4 => (∃ w5 w6, σ4 = [some (.ref a), some (.ref l), some (.int (d : Int)), some (.ref r), some (.ref q), w5, w6]) ∧ Same H3 H4 ∧ ∀ j ab, j < i → (plO n n)[j]? = some ab → sm t ab.1 (fun i => (ch i d : Int)) = sm t ab.2 (fun i => (ch i d : Int)))
      ⟨⟨_, _, rfl⟩, Same.refl _, fun j ab hj => absurd hj (Nat.not_lt_zero _)⟩ (fun i σ4 H4 _ p => p.2.1.seq hl3) (fun i x σ4 H4 H5 hi p y => ?_) fun σ4 H4 p => ?_⟩
    · obtain ⟨rfl, hx⟩ := y
      obtain ⟨⟨w5, w6, rfl⟩, s4, eq4⟩ := p
      rw [List.length_map] at hi
      rw [List.getElem?_map, List.getElem?_eq_getElem hi] at hx
      cases hx
      have hi2 : i < (plO n n).length := by rw [← hps.1]; exact hi
      have hab := List.getElem?_eq_getElem hi2
      have hmem := pl_mem (List.getElem_mem hi2)
      have hp4 := (hps.same (sH3.trans s4)).2 i _ _ (List.getElem?_eq_getElem hi) hab
      have e4 := s4 _ _ e3
      refine gp_ok (SqT.of hp4) ?_
      have g1 := DGet.k (k := Sum.inr (tx [(plO n n)[i].1])) e4
      have g2 := DGet.k (k := Sum.inr (tx [(plO n n)[i].2])) e4
      rw [tab_val _ hmem.1] at g1
      rw [tab_val _ hmem.2] at g2
      refine ⟨_, rfl, _, rfl, q, _, rfl, g1, _, rfl, _, rfl, q, _, rfl, g2, rfl, !decide (totT t d (plO n n)[i].1 = totT t d (plO n n)[i].2), rfl, ?_⟩
      by_cases hsame : sm t (plO n n)[i].1 (fun i => (ch i d : Int)) = sm t (plO n n)[i].2 (fun i => (ch i d : Int))
      · rw [decide_eq_true (show totT t d (plO n n)[i].1 = totT t d (plO n n)[i].2 by unfold totT; rw [hsame])]
        refine iteF ⟨⟨_, _, rfl⟩, s4, fun j ab hj e => ?_⟩
        by_cases hji : j < i
        · exact eq4 j ab hji e
        · have : j = i := by omega
          subst this
          rw [hab] at e
          cases e
          exact hsame
      · rw [decide_eq_false (show ¬ totT t d (plO n n)[i].1 = totT t d (plO n n)[i].2 from fun z => hsame (V.int.inj z))]
        refine iteT ⟨_, rfl, _, rfl, _, rfl, _, rfl, _, rfl, q, _, rfl, g1, _, rfl, _, rfl, q, _, rfl, g2, _, _, rfl, rfl, by show 4 ≤ sizeLine; decide, fun p hp => ?_⟩
        exact k _ p d _ _ _ ((sH3.trans s4).trans (same_new hp)) upd_same ⟨fun d' hd' x y hx hy => eq d' hd' x y hx hy, _, _, hmem.1, hmem.2, hsame⟩
    · obtain ⟨⟨w5, w6, rfl⟩, s4, eq4⟩ := p
      have hall : ∀ x y, x < n → y < n → sm t x (fun i => (ch i d : Int)) = sm t y (fun i => (ch i d : Int)) := alike (x := fun p => sm t p (fun i => (ch i d : Int))) fun ab hab => by
        obtain ⟨j, hj, e⟩ := List.getElem_of_mem hab
        exact eq4 j ab (by rw [List.length_map, hps.1]; exact hj) (by rw [List.getElem?_eq_getElem hj, e])
      have hdo : d < o := by
        refine Nat.lt_of_le_of_ne hd fun z => ?_
        obtain ⟨x, y, hx, hy, hxy⟩ := ho.2
        rw [← z] at hxy
        exact hxy (hall x y hx hy)
      refine ⟨hdo, s4 _ _ (s3 _ _ hr2), ⟨_, _, _, _, _, rfl⟩, sH3.trans s4, fun d' hd' x y hx hy => ?_⟩
      by_cases hdd : d' < d
      · exact eq d' hdd x y hx hy
      · have : d' = d := by omega
        subst this
        exact hall x y hx hy
/-! certificate, order -/
theorem scCert : FnScope ["turns"] ["turns"] (C8.fnScope sCert) := ⟨rfl, rfl, rfl, by decide +kernel, rfl, by decide +kernel, by decide +kernel⟩
def spCert (C : Addr) : Sp := fun vs H Q _ => ∃ (a : Addr) (t : List Nat) (n : Nat), vs = [.ref a] ∧ TnAt C H a t n ∧ TOk t n ∧ t.length ≤ 100 ∧ ∀ H' p d x y z, Same H H' → H' p = some (.tup [.int ((d : Nat) : Int), x, y, z]) → Ord n t d → Q (.ref p) H'
theorem ok_cert {f : Addr} {fd : FuncData} (cK : C8.Cal P w K mg base 1 "check_turns" (spChkT C) []) (cA : C8.Cal P w K mg base 4 "all_pairs" (spAP C) []) (cF : C8.Cal P w K mg base 7 "first_difference" (spFD K C) []) (F : C8.Def K mg "certificate" sCert f fd) (b : Binds K fd ["turns"] []) : C8.Cal P w K mg base 8 "certificate" (spCert C) [] := by
  refine C8.cal0 F b .nil scCert (fun vs H Q E h => ?_) (fun cdv A outer s H vs Q E hr h => ?_)
  · obtain ⟨a, t, n, rfl, _⟩ := h
    rfl
  · obtain ⟨a, t, n, rfl, ha, ok, ht, k⟩ := h
    refine ⟨_, pss_cons (ps_expr (C8.pe_c cK hr (by decide) rfl (pa_cons (pv 0) pa_nil))) (pss_one (ps_ret (C8.pe_c cF hr (by decide) rfl (pa_cons (pv 0) (pa_cons (C8.pe_c cA hr (by decide) rfl (pa_cons (pv 0) pa_nil)) pa_nil))))), ?_⟩
    refine ⟨_, rfl, a, t, n, rfl, ha, _, rfl, _, rfl, a, t, n, rfl, ha, ok.hi, fun H1 l ps s1 e1 p1 => ?_⟩
    exact ⟨a, l, t, n, ps, rfl, ha.same s1, ok, ht, SqL.of e1, p1, fun H2 p d x y z s2 e2 o2 => k H2 p d x y z (s1.trans s2) e2 o2⟩
theorem scOrd : FnScope ["turns"] ["turns"] (C8.fnScope sOrd) := ⟨rfl, rfl, rfl, by decide +kernel, rfl, by decide +kernel, by decide +kernel⟩
def spOrd (C : Addr) : Sp := fun vs H Q _ => ∃ (a : Addr) (t : List Nat) (n : Nat), vs = [.ref a] ∧ TnAt C H a t n ∧ TOk t n ∧ t.length ≤ 100 ∧ ∀ H' (d : Nat), Same H H' → Ord n t d → Q (.int (d : Int)) H'
theorem ok_ord {f : Addr} {fd : FuncData} (cC : C8.Cal P w K mg base 8 "certificate" (spCert C) []) (F : C8.Def K mg "order" sOrd f fd) (b : Binds K fd ["turns"] []) : C8.Cal P w K mg base 9 "order" (spOrd C) [] := by
  refine C8.cal0 F b .nil scOrd (fun vs H Q E h => ?_) (fun cdv A outer s H vs Q E hr h => ?_)
  · obtain ⟨a, t, n, rfl, _⟩ := h
    rfl
  · obtain ⟨a, t, n, rfl, ha, ok, ht, k⟩ := h
    refine ⟨_, pss_one (ps_ret (pe_ix ix_tup (C8.pe_c cC hr (by decide) rfl (pa_cons (pv 0) pa_nil)) pe_int (fun _ _ => rfl))), ?_⟩
    refine ⟨_, rfl, a, t, n, rfl, ha, ok, ht, fun H1 p d x y z s1 e1 o1 => ?_⟩
    exact ⟨p, _, _, _, rfl, rfl, SqT.of e1, atI_nat (j := 0) (xs := [V.int (d : Int), x, y, z]) rfl, k H1 d s1 o1⟩
end
end TB

set_option maxRecDepth 100000
set_option maxHeartbeats 2000000
namespace TB
open PySem PySem.Spec PyProof.Rows L2
/-! LETTERS.index(one of them) -/
theorem occ_abc {p : Nat} (h : p < 6) : Builtin.Str.occurrences ABC (tx [p]) 0 ABC.length 1 = [p] := by
  have : p = 0 ∨ p = 1 ∨ p = 2 ∨ p = 3 ∨ p = 4 ∨ p = 5 := by omega
  rcases this with rfl | rfl | rfl | rfl | rfl | rfl <;> decide +kernel
def rIdx : V → List V → Hp → VK → Prop := fun x xs H Q => ∃ p : Nat, x = .str ABC ∧ xs = [.str (tx [p])] ∧ p < 6 ∧ Q (.int (p : Int)) H
theorem mt_idx {X : Cx} : MtR X "str.index" rIdx := by
  intro pins s σ H x xs v us Q I rx rs h
  obtain ⟨p, rfl, rfl, hp, q⟩ := h
  obtain ⟨t, rfl⟩ := rx
  cases rs with
  | cons r1 rs =>
    cases rs
    obtain ⟨u, rfl⟩ := r1
    exact PySem.SC.index (occ_abc hp) ⟨.int (p : Nat), H, I.tok _, ⟨_, rfl⟩, q⟩
/-- LETTERS.index(e) -/
abbrev tIdx (K : PySem.W.Frag) (t : TE) : TE := tBM K "str" rIdx (tC (.str ABC)) (tCons t tNil)
/-- s[i] -/
abbrev rAtS : R2 := fun x y H Q => ∃ (z : Str) (i : Int) (c : Nat), x = .str z ∧ y = .int i ∧ 0 ≤ i ∧ i < 2 ^ 63 ∧ i < (z.length : Int) ∧ z.cps[i.toNat]? = some c ∧ Q (.str ⟨#[c]⟩) H
abbrev rPlus : R2 := rI0 fun i j => .int (i + j)
abbrev rModP : R2 := rI (fun _ j => 0 < j) fun i j => .int (i % j)
/-! "".join -/
theorem joinL_nil : ∀ ls : List (List Nat), TL.joinL [] ls = ls.flatten
  | [] => rfl
  | [p] => by simp [TL.joinL]
  | p :: q :: r => by
    show p ++ ([] ++ TL.joinL [] (q :: r)) = _
    rw [joinL_nil (q :: r)]
    rfl
theorem join_tx (ls : List (List Nat)) : Txt.join (SX.S []) (ls.map tx) = tx ls.flatten := by
  have e : ls.map tx = (ls.map fun l => l.map (· + 65)).map SX.S := by
    rw [List.map_map]
    rfl
  rw [e, SX.join_S, joinL_nil]
  unfold tx
  rw [List.map_flatten]
theorem sum_len (ls : List (List Nat)) : (ls.map tx |>.map (·.length)).sum = ls.flatten.length := by
  induction ls with
  | nil => rfl
  | cons l ls ih =>
    rw [List.map_cons, List.map_cons, List.sum_cons, ih, tx_len, List.flatten_cons, List.length_append]
theorem joinZ {ls : List (List Nat)} (hz : ls.flatten.length ≤ 16777216) : ((ls.map tx).map (·.length)).sum + (ls.map tx).length * (SX.S []).length ≤ 16777216 := by
  rw [sum_len, show (SX.S []).length = 0 from rfl, Nat.mul_zero]
  exact hz
/-- the join of texts at a list -/
theorem joinT {X : Cx} {H : Hp} {Q : VK} {p : Addr} (ls : List (List Nat)) (h : SqL X.K H p ((ls.map tx).map V.str)) (hz : ls.flatten.length ≤ 16777216) (q : Q (.str (tx ls.flatten)) H) :
    ∃ (a : Str) (p' : Addr) (ys : List Str), V.str (SX.S []) = .str a ∧ [V.ref p] = [.ref p'] ∧ (SqL X.K H p' (ys.map V.str) ∨ SqT X.K H p' (ys.map V.str)) ∧ (ys.map (·.length)).sum + ys.length * a.length ≤ 16777216 ∧ Q (.str (Txt.join a ys)) H := by
  refine ⟨SX.S [], p, ls.map tx, rfl, rfl, .inl h, ?_, ?_⟩
  · rw [sum_len, show (SX.S []).length = 0 from rfl, Nat.mul_zero]
    exact hz
  · rw [join_tx]
    exact q
theorem flat1 (l : List Nat) : (l.map fun x => [x]).flatten = l := by
  induction l with
  | nil => rfl
  | cons x l ih => rw [List.map_cons, List.flatten_cons, ih]; rfl
/-! a call of a def with *args -/
structure CalR (P : Program) (w : World) (K : PySem.W.Frag) (mg : Str → Option Value) (base : Heap) (k : Nat) (x : Str) (sp : Sp) : Prop where
  ex : ∃ f : Addr, FnR P w K mg base C8.CX0 k f sp ∧ mg x = some (.ref f) ∧ PySem.W.keepIn K (.ref f) = true
theorem pe_callR {X : Cx} {k j : Nat} {x : Str} {sp : Sp} {e : Expr} {es : List Expr} {t : TA} {p pos : Pos} (c : CalR X.prog X.w X.K X.mg X.base k x sp) (hr : Room j X.A) (hk : k ≤ j) (hg : Gl X x) (ha : PA X (e :: es) t)
    (hdb : (x == ("__debug__" : Str)) = false := by decide) (he : starEach (e :: es) X.env = (false, eval e X.env) :: starEach es X.env := by rfl) (hpl : (backTo pos (starEach es X.env)).any (·.1) = false := by rfl) :
    PE X (.Call (.Name x p) (e :: es) [] pos) (fun σ H Q => t σ H fun vs H1 => sp vs H1 Q C8.E0) := by
  obtain ⟨f, F, hm, kp⟩ := c.ex
  refine ⟨fun pins s σ H Q I h => ?_⟩
  refine wpAny_Call_Name_kw (ld_glob I hg hm ?_ hdb)
  refine PySem.W.callWith_K (h₀ := X.base) I.ok.mod.kin kp (thn (ha.run pos pins s σ H _ I h) fun us s1 ⟨vs, H1, I1, r, q⟩ => ⟨I1.kIn, ?_⟩) he hpl
  refine wpAny_call (codeAny_mono (run_fnR F (hr.mono hk) C8.pass0 I1 r q) fun r s' hq => ?_)
  cases r with
  | error e => exact hq
  | ok fl =>
    cases fl with
    | ret u => exact hq
    | next => exact False.elim hq
    | brk => exact False.elim hq
    | cont => exact False.elim hq
end TB

set_option maxRecDepth 100000
set_option maxHeartbeats 4000000
namespace TB
open PySem PySem.Spec PyProof.Rows L2
abbrev sCF : Stmt := top 26
abbrev sRaised : Stmt := top 27
abbrev sP2 : Stmt := top 28
abbrev sProd : Stmt := top 29
theorem sameT {K : PySem.W.Frag} {H H' : Hp} {a : Addr} {xs : List V} (e : Same H H') (h : SqT K H a xs) : SqT K H' a xs := by
  rcases h with (h | ⟨o, h⟩) | h
  · exact .inl (.inl (e _ _ h))
  · exact .inl (.inr ⟨o, e _ _ h⟩)
  · exact .inr h
theorem sameLT {K : PySem.W.Frag} {H H' : Hp} {a : Addr} {xs : List V} (e : Same H H') (h : SqLT K H a xs) : SqLT K H' a xs := h.imp (fun q => e.seq q) fun q => sameT e q
theorem ix0 {K : PySem.W.Frag} {H : Hp} {l : Addr} {xs : List V} {v : V} {i : Nat} {Q : VK} (h : SqLT K H l xs) (e : xs[i]? = some v) (q : Q v H) : rIx K (.ref l) (.int (i : Int)) H Q := by
  rcases h with h | h
  · exact .inl ⟨l, xs, _, v, rfl, rfl, h, atI_nat e, q⟩
  · exact .inr (.inl ⟨l, xs, _, v, rfl, rfl, h, atI_nat e, q⟩)
/-- factors at as_ -/
structure FsAt (C : Addr) (H : Hp) (as_ : List Addr) (fs : List (List Nat)) (n : Nat) : Prop where
  len : as_.length = fs.length
  at_ : ∀ (i : Nat) (a : Addr) (f : List Nat), as_[i]? = some a → fs[i]? = some f → TnAt C H a f n
  ok : ∀ f ∈ fs, TOk f n
theorem FsAt.same {C : Addr} {H H' : Hp} {as_ : List Addr} {fs : List (List Nat)} {n : Nat} (h : FsAt C H as_ fs n) (s : Same H H') : FsAt C H' as_ fs n := ⟨h.len, fun i a f h1 h2 => (h.at_ i a f h1 h2).same s, h.ok⟩
theorem FsAt.get {C : Addr} {H : Hp} {as_ : List Addr} {fs : List (List Nat)} {n : Nat} (h : FsAt C H as_ fs n) {i : Nat} (hi : i < as_.length) : ∃ f, fs[i]? = some f ∧ TnAt C H as_[i] f n ∧ TOk f n := by
  have hi2 : i < fs.length := by rw [← h.len]; exact hi
  exact ⟨fs[i], List.getElem?_eq_getElem hi2, h.at_ i _ _ (List.getElem?_eq_getElem hi) (List.getElem?_eq_getElem hi2), h.ok _ (List.getElem_mem hi2)⟩
theorem ref_get {as_ : List Addr} {i : Nat} (hi : i < as_.length) : (as_.map V.ref)[i]? = some (.ref as_[i]) := by
  rw [List.getElem?_map, List.getElem?_eq_getElem hi]
  rfl
section
variable {P : Program} {w : World} {K : PySem.W.Frag} {mg : Str → Option Value} {base : Heap} {C : Addr}
/-! check_factors -/
theorem scCF : FnScope ["factors", "position", "factor"] ["factors"] (C8.fnScope sCF) := ⟨rfl, rfl, rfl, by decide +kernel, rfl, by decide +kernel, by decide +kernel⟩
def spCF (K : PySem.W.Frag) (C : Addr) : Sp := fun vs H Q _ => ∃ (l : Addr) (as_ : List Addr) (fs : List (List Nat)) (n : Nat), vs = [.ref l] ∧ SqLT K H l (as_.map V.ref) ∧ FsAt C H as_ fs n ∧ 1 ≤ as_.length ∧ ∀ H', Same H H' → Q .non H'
theorem ok_cf {f : Addr} {fd : FuncData} (T : Txt K mg C) (pP : Prp P w K mg base 1 C "players" "own_players") (F : C8.Def K mg "check_factors" sCF f fd) (b : Binds K fd ["factors"] []) : C8.Cal P w K mg base 3 "check_factors" (spCF K C) [] := by
  refine C8.cal0 F b .nil scCF (fun vs H Q E h => ?_) (fun cdv A outer s H vs Q E hr h => ?_)
  · obtain ⟨l, as_, fs, n, rfl, _⟩ := h
    rfl
  · obtain ⟨l, as_, fs, n, rfl, hl, hf, h1, k⟩ := h
    refine ⟨_, pss_cons (ps_if (pt_cmpR op_eq (pe_callB call_len_seq (by rfl) T.len PySem.boot_len (pa_cons (pv 0) pa_nil)) pe_int (nomark _)) (pss_one ps_never) pss_nil)
      (pss_one (ps_for PassesOwn.never rfl (pi_enumQ (by rfl) T.enum (pa_cons (pv 0) pa_nil)) (pg_tup rfl (pgs_cons (pg_name (i := 1) scCF.nd rfl (Or.inl rfl)) (pgs_cons (pg_name (i := 2) scCF.nd rfl (Or.inl rfl)) pgs_nil)))
        (pss_one (ps_if (PW.pt (pw_or (pt_not (pt_val (pe_callB (C8.call_isC T.ins) (by rfl) T.isi (by decide +kernel) (pa_cons (pv 2) (pa_cons (C8.pe_gc rfl T.gC) pa_nil)))))
          (pw_or1 (pt_cmpR op_ne (pe_pr pP hr (by decide) (pv 2) rfl) (pe_pr pP hr (by decide) (pe_ix ix_seq (pv 0) pe_int (fun _ _ => rfl)) rfl) (nomark _))))) (pss_one ps_never) pss_nil)))), ?_⟩
    refine ⟨_, rfl, l, _, rfl, hl, rfl, false, bl_f (p := V.int ((as_.map V.ref).length : Int) = V.int 0) (fun z => by
      have := V.int.inj z
      rw [List.length_map] at this
      omega), iteF ?_⟩
    refine ⟨_, rfl, l, as_.map V.ref, rfl, ?_⟩
    have hq0 := hl
    rcases hl with hq | hq
    · refine .inl ⟨hq, for_it walk_p (fun i σ3 H3 => (∃ v1 v2, σ3 = [some (.ref l), v1, v2]) ∧ Same H H3) ⟨⟨_, _, rfl⟩, Same.refl _⟩ (fun i σ3 H3 _ p => p.2.seq hq) (fun i x σ3 H3 H4 hi p y => ?_) fun σ3 H3 p => ?_⟩
      · obtain ⟨Tp, rfl, hT, rfl⟩ := y
        obtain ⟨⟨v1, v2, rfl⟩, s3⟩ := p
        rw [List.length_map] at hi
        have s4 := s3.trans (same_new (o := .tup (prQ (as_.map V.ref) i)) hT)
        obtain ⟨f, _, hf4, _⟩ := (hf.same s4).get hi
        obtain ⟨f0, _, hf0, _⟩ := (hf.same s4).get (i := 0) h1
        have e1 : (as_.map V.ref).getD i .non = .ref as_[i] := by rw [List.getD_eq_getElem?_getD, ref_get hi]; rfl
        obtain ⟨dx4, hi4⟩ := id hf4
        refine gp_ok sqt_new ?_
        rw [e1]
        refine ⟨_, rfl, as_[i], dx4, _, rfl, hi4, true, rfl, iteF ?_⟩
        refine ⟨_, rfl, propP hf4 ⟨_, rfl, ix0 (sameLT s4 hq0) (ref_get h1) (propP hf0 ⟨rfl, false, ?_, iteF ⟨⟨_, _, rfl⟩, s4⟩⟩)⟩⟩
        rw [decide_eq_true rfl]
        rfl
      · exact k H3 p.2
    · refine .inr ⟨hq, for_it walk_p (fun i σ3 H3 => (∃ v1 v2, σ3 = [some (.ref l), v1, v2]) ∧ Same H H3) ⟨⟨_, _, rfl⟩, Same.refl _⟩ (fun i σ3 H3 _ p => sameT p.2 hq) (fun i x σ3 H3 H4 hi p y => ?_) fun σ3 H3 p => ?_⟩
      · obtain ⟨Tp, rfl, hT, rfl⟩ := y
        obtain ⟨⟨v1, v2, rfl⟩, s3⟩ := p
        rw [List.length_map] at hi
        have s4 := s3.trans (same_new (o := .tup (prQ (as_.map V.ref) i)) hT)
        obtain ⟨f, _, hf4, _⟩ := (hf.same s4).get hi
        obtain ⟨f0, _, hf0, _⟩ := (hf.same s4).get (i := 0) h1
        have e1 : (as_.map V.ref).getD i .non = .ref as_[i] := by rw [List.getD_eq_getElem?_getD, ref_get hi]; rfl
        obtain ⟨dx4, hi4⟩ := id hf4
        refine gp_ok sqt_new ?_
        rw [e1]
        refine ⟨_, rfl, as_[i], dx4, _, rfl, hi4, true, rfl, iteF ?_⟩
        refine ⟨_, rfl, propP hf4 ⟨_, rfl, ix0 (sameLT s4 hq0) (ref_get h1) (propP hf0 ⟨rfl, false, ?_, iteF ⟨⟨_, _, rfl⟩, s4⟩⟩)⟩⟩
        rw [decide_eq_true rfl]
        rfl
      · exact k H3 p.2
end
end TB

set_option maxRecDepth 100000
set_option maxHeartbeats 4000000
namespace TB
open PySem PySem.Spec PyProof.Rows L2
def asgE : Stmt → Expr
  | .Assign _ e _ => e
  | _ => .Constant .none 0 ⟨0, 0, 0, 0⟩
theorem slice_lets {n : Nat} (h : n ≤ 6) : Txt.slice ABC none (some (n : Int)) = lets n := slice_abc h
/-- one sign of LETTERS -/
theorem abc_at {i : Nat} (h : i < 6) : ABC.cps[i]? = some (i + 65) := by
  have : i = 0 ∨ i = 1 ∨ i = 2 ∨ i = 3 ∨ i = 4 ∨ i = 5 := by omega
  rcases this with rfl | rfl | rfl | rfl | rfl | rfl <;> rfl
theorem abc_len : ABC.length = 6 := rfl
section
variable {P : Program} {w : World} {K : PySem.W.Frag} {mg : Str → Option Value} {base : Heap} {C : Addr}
/-! raised -/
theorem scRaised : FnScope ["text", "player", "players", "number", "item"] ["text", "player", "players"] (C8.fnScope sRaised) := ⟨rfl, rfl, rfl, by decide +kernel, rfl, by decide +kernel, by decide +kernel⟩
def rz (n p : Nat) (g : List Nat) : List Nat := g.map fun x => (x + p) % n
def spRaised : Sp := fun vs H Q _ => ∃ (g : List Nat) (p n : Nat), vs = [.str (tx g), .str (tx [p]), .int (n : Int)] ∧ TOk g n ∧ p < n ∧ ∀ H', Same H H' → Q (.str (tx (rz n p g))) H'
theorem ok_raised {f : Addr} {fd : FuncData} (T : Txt K mg C) (F : C8.Def K mg "raised" sRaised f fd) (b : Binds K fd ["text", "player", "players"] []) : C8.Cal P w K mg base 1 "raised" spRaised [] := by
  refine C8.cal0 F b .nil scRaised (fun vs H Q E h => ?_) (fun cdv A outer s H vs Q E hr h => ?_)
  · obtain ⟨g, p, n, rfl, _⟩ := h
    rfl
  · obtain ⟨g, p, n, rfl, ok, hp, k⟩ := h
    have hn := ok.hi
    have hlo := ok.lo
    refine ⟨_, pss_cons (ps_set (i := 3) scRaised.nd rfl (.inr rfl) (pe_bm PySem.F.plainAttrs_str PySem.F.slot_str_index PySem.F.type_str_index mt_idx (C8.pe_gc rfl T.gLet) (pa_cons (pv 1) pa_nil)))
      (pss_one (ps_ret (pe_join (pe_str (x := SX.S [])) (pe_lc (own := [("item", 4)]) (g := gName 4) (tt := tYes) (te := tOp rAtS (tC (.str ABC)) (tOp rModP (tOp rPlus (tIdx K (tVar 4)) (tVar 3)) (tVar 2))) rfl scRaised.nd (pi_str (pv 0)) (blkOk_by (N := ["text", "player", "players", "number", "item"]) (sc := C8.fnScope sRaised) (by decide +kernel))
        (fun _ _ _ _ _ => pg_name (i := 4) scRaised.nd rfl (Or.inl rfl)) (fun _ _ _ _ _ => pts_nil)
        (fun _ _ _ _ _ => pe_item_str (C8.pe_gc rfl T.gLet) (pe_op op_mod (pe_op op_add (pe_bm PySem.F.plainAttrs_str PySem.F.slot_str_index PySem.F.type_str_index mt_idx (C8.pe_gc rfl T.gLet) (pa_cons (pv 4) pa_nil)) (pv 3)) (pv 2)) (fun _ _ => rfl)))))), ?_⟩
    refine ⟨rfl, _, rfl, p, rfl, rfl, by omega, ?_⟩
    refine ⟨⟨_, rfl⟩, _, rfl, tx g, rfl, fun D hD => lc_it walk_str (PvF H D fun i => g[i]?.map fun x => V.str (tx [(x + p) % n])) (pvF0 hD) (fun _ _ _ _ => trivial) (fun i x H1 H2 hi pv y => ?_) fun H1 pv => ?_⟩
    · obtain ⟨rfl, c, hc, rfl⟩ := y
      obtain ⟨z, hz, rfl⟩ := tx_at hc
      have hz6 := ok.mem z (List.mem_of_getElem? hz)
      have hm : (z + p) % n < n := Nat.mod_lt _ (by omega)
      have hcz : (((z : Nat) : Int) + ((p : Nat) : Int)) % ((n : Nat) : Int) = (((z + p) % n : Nat) : Int) := by
        rw [show ((z : Nat) : Int) + ((p : Nat) : Int) = ((z + p : Nat) : Int) by omega, ← Int.natCast_emod]
      refine ⟨rfl, rfl, _, rfl, z, rfl, rfl, by omega, _, rfl, _, _, rfl, rfl, _, rfl, _, _, rfl, rfl, by omega, ABC, _, (z + p) % n + 65, rfl, rfl, ?_, ?_, ?_, ?_, ?_⟩
      · rw [hcz]
        omega
      · rw [hcz]
        omega
      · rw [hcz, abc_len]
        omega
      · show ABC.cps[((((z : Nat) : Int) + ((p : Nat) : Int)) % ((n : Nat) : Int)).toNat]? = some ((z + p) % n + 65)
        rw [hcz, Int.toNat_natCast]
        exact abc_at (by omega)
      · rw [tx_size] at hi
        exact pvF_add hD hi (by have := ok.len; omega) (by rw [hz]; rfl) pv
    · refine joinT (g.map fun x => [(x + p) % n]) (.inl (.inl ?_)) ?_ ?_
      · rw [pv.2, tx_size, accF_get, List.map_map, List.map_map]
        rfl
      · have e : (g.map fun x => [(x + p) % n]).flatten = rz n p g := by
          rw [← flat1 (rz n p g)]
          unfold rz
          rw [List.map_map]
          rfl
        rw [e]
        unfold rz
        rw [List.length_map]
        have := ok.len
        omega
      · have e : (g.map fun x => [(x + p) % n]).flatten = rz n p g := by
          rw [← flat1 (rz n p g)]
          unfold rz
          rw [List.map_map]
          rfl
        rw [e]
        exact k H1 pv.1
/-! product_of_two -/
theorem scP2 : FnScope ["one", "other", "copies", "player", "item"] ["one", "other"] (C8.fnScope sP2) := ⟨rfl, rfl, rfl, by decide +kernel, rfl, by decide +kernel, by decide +kernel⟩
def spP2 (C : Addr) : Sp := fun vs H Q _ => ∃ (a b : Addr) (f g : List Nat) (n : Nat), vs = [.ref a, .ref b] ∧ TnAt C H a f n ∧ TnAt C H b g n ∧ TOk f n ∧ TOk g n ∧ f.length * g.length ≤ 2000 ∧ ∀ H' c, Same H H' → TnAt C H' c (pr n f g) n → Q (.ref c) H'
theorem made_same {H1 H' : Hp} {x dx C : Addr} (h1 : H1 x = none) (h2 : H1 dx = none) (k : ∀ b o, b ≠ x → upd (upd H1 dx (.own x)) x (.ins C dx []) b = some o → H' b = some o) : Same H1 H' := fun b o e => by
  have n1 : b ≠ x := fun z => by rw [z, h1] at e; cases e
  have n2 : b ≠ dx := fun z => by rw [z, h2] at e; cases e
  exact k b o n1 (by rw [upd_ne n1, upd_ne n2]; exact e)
theorem pr_flat (n : Nat) (f g : List Nat) : (f.map fun a => rz n a g).flatten = pr n f g := by
  unfold pr rz
  rw [List.flatMap_def]
theorem pr_ok {n : Nat} {f g : List Nat} (of : TOk f n) (og : TOk g n) (h : f.length * g.length ≤ 2000) : TOk (pr n f g) n := by
  have h1 := of.pos
  have h2 := og.pos
  refine ⟨of.lo, of.hi, ?_, by rw [pr_len]; exact h, pr_lt (by have := of.lo; omega) f g⟩
  rw [pr_len]
  exact Nat.mul_pos h1 h2
theorem ok_p2 {f : Addr} {fd : FuncData} (T : Txt K mg C) (pT : Prp P w K mg base 1 C "text" "own_text") (pP : Prp P w K mg base 1 C "players" "own_players") (cR : C8.Cal P w K mg base 1 "raised" spRaised []) (cM : C8.Mak P w K mg base 3 "Turns" C (spInit C) [])
    (F : C8.Def K mg "product_of_two" sP2 f fd) (b : Binds K fd ["one", "other"] []) : C8.Cal P w K mg base 5 "product_of_two" (spP2 C) [] := by
  refine C8.cal0 F b .nil scP2 (fun vs H Q E h => ?_) (fun cdv A outer s H vs Q E hr h => ?_)
  · obtain ⟨a, b, f, g, n, rfl, _⟩ := h
    rfl
  · obtain ⟨a, b, f, g, n, rfl, ha, hb, of, og, hfg, k⟩ := h
    have hu := hu_of hr
    refine ⟨_, pss_cons (ps_set (i := 2) scP2.nd rfl (.inr rfl) (pe_dc (own := [("player", 3)]) (g := gName 3) (tt := tYes) (tk := tVar 3) (tv := tCall spRaised [] C8.E0 (tCons (tProp C (getSp C "own_text") [] C8.E0 (tVar 1)) (tCons (tVar 3) (tCons (tProp C (getSp C "own_players") [] C8.E0 (tVar 0)) tNil)))) rfl scP2.nd
          (pi_str (pe_slice C8.sl_txt (C8.pe_gc rfl T.gLet) po_none (po_some (pe_pr pP hr (by decide) (pv 0) rfl)))) (blkOk_by (N := ["one", "other", "copies", "player", "item"]) (sc := C8.fnScope sP2) (by decide +kernel))
          (fun _ _ _ _ _ => pg_name (i := 3) scP2.nd rfl (Or.inl rfl)) (fun _ _ _ _ _ => pts_nil) (fun _ _ _ _ _ => pv 3)
          (fun _ _ _ _ _ => C8.pe_c cR hr (by decide) rfl (pa_cons (pe_pr pT hr (by decide) (pv 1) rfl) (pa_cons (pv 3) (pa_cons (pe_pr pP hr (by decide) (pv 0) rfl) pa_nil))))))
      (pss_one (ps_ret (C8.pe_mk cM hr (by decide) rfl (pa_cons (pe_join (pe_str (x := SX.S [])) (pe_lc (own := [("item", 4)]) (g := gName 4) (tt := tYes) (te := tDGet (tVar 2) (tVar 4)) rfl scP2.nd (pi_str (pe_pr pT hr (by decide) (pv 0) rfl)) (blkOk_by (N := ["one", "other", "copies", "player", "item"]) (sc := C8.fnScope sP2) (by decide +kernel))
          (fun _ _ _ _ _ => pg_name (i := 4) scP2.nd rfl (Or.inl rfl)) (fun _ _ _ _ _ => pts_nil) (fun _ _ _ _ _ => pe_dget hu (pv 2) (pv 4) (fun _ _ => rfl)))) (pa_cons (pe_pr pP hr (by decide) (pv 0) rfl) pa_nil))))), ?_⟩
    refine ⟨_, rfl, propP ha ⟨_, rfl, ABC, rfl, by decide, ?_⟩⟩
    rw [slice_abc of.hi]
    refine ⟨lets n, rfl, fun D hD => dc_it walk_str (PvT H D fun p => .str (tx (rz n p g))) (pvT0 hD) (fun _ _ _ _ => trivial) (fun i x H1 H2 hlt p y => ?_) fun H1 p => ?_⟩
    · obtain ⟨rfl, c, hc, rfl⟩ := y
      obtain ⟨hin, rfl⟩ := lets_at hc
      refine ⟨rfl, _, rfl, _, rfl, propT (hb.same p.1) ⟨_, rfl, _, rfl, propP (ha.same p.1) ⟨g, i, n, rfl, og, hin, fun H3 s3 => ?_⟩⟩⟩
      exact pvT_add hD (by have := of.hi; omega) (pvT_same p s3)
    · rw [lets_size] at p
      have ha1 := ha.same p.1
      refine ⟨⟨_, rfl⟩, _, rfl, propT ha1 ⟨tx f, rfl, fun D2 hD2 => lc_it walk_str (PvF H1 D2 fun i => f[i]?.map fun x => V.str (tx (rz n x g))) (pvF0 hD2) (fun _ _ _ _ => trivial) (fun i x H3 H4 hi pv y => ?_) fun H3 pv => ?_⟩⟩
      · obtain ⟨rfl, c, hc, rfl⟩ := y
        obtain ⟨z, hz, rfl⟩ := tx_at hc
        have hzn := of.mem z (List.mem_of_getElem? hz)
        have g1 := DGet.k (k := Sum.inr (tx [z])) (pv.1 _ _ p.2)
        rw [tab_val _ hzn] at g1
        rw [tx_size] at hi
        refine ⟨rfl, _, rfl, _, rfl, D, _, rfl, g1, ?_⟩
        exact pvF_add hD2 hi (by have := of.len; omega) (by rw [hz]; rfl) pv
      · refine ⟨SX.S [], D2, (f.map fun x => rz n x g).map tx, rfl, rfl, .inl (.inl (.inl ?_)), joinZ ?_, ?_⟩
        · rw [pv.2, tx_size, accF_get, List.map_map, List.map_map]
          rfl
        · rw [pr_flat, pr_len]
          omega
        · rw [join_tx, pr_flat]
          refine ⟨_, rfl, propP (ha1.same pv.1) fun x dx hx hdx hne => ⟨x, dx, pr n f g, n, rfl, upd_same, pr_ok of og hfg, fun H5 k5 t5 => ⟨rfl, ?_⟩⟩⟩
          exact k H5 x ((p.1.trans pv.1).trans (made_same hx hdx k5)) t5
end
end TB

set_option maxRecDepth 100000
set_option maxHeartbeats 4000000
namespace TB
open PySem PySem.Spec PyProof.Rows L2
section
variable {P : Program} {w : World} {K : PySem.W.Frag} {mg : Str → Option Value} {base : Heap} {C : Addr}
theorem scProd : FnScope ["factors", "length", "factor", "found"] (([] : List Str) ++ (["factors"] : List Str)) (C8.fnScope sProd) := ⟨rfl, rfl, rfl, by decide +kernel, rfl, by decide +kernel, by decide +kernel⟩
/-- product of two -/
def spProd (C : Addr) : Sp := fun vs H Q _ => ∃ (p a b : Addr) (f g : List Nat) (n : Nat), vs = [.ref p] ∧ H p = some (.tup [.ref a, .ref b]) ∧ TnAt C H a f n ∧ TnAt C H b g n ∧ TOk f n ∧ TOk g n ∧ f.length * g.length ≤ 2000 ∧ ∀ H' c, Same H H' → TnAt C H' c (pr n f g) n → Q (.ref c) H'
theorem not_whole : ¬ (HT.sIx 2 0 (some 1) = 0 ∧ HT.sIx 2 2 none = 2) := by decide
def lenW (f g : List Nat) : Nat → Nat
  | 0 => 1
  | 1 => f.length
  | _ => f.length * g.length
theorem body_prod {cdv : Value} {A : Around} {outer : List Env} {s : Shared} {H : Hp} {vs : List V} {Q : VK} {E : XK} {fa : Addr} (T : Txt K mg C) (cLen : LenOf P w K mg base 1 C) (cC : C8.Cal P w K mg base 3 "check_factors" (spCF K C) []) (cL : C8.Cal P w K mg base 1 "check_length" spChkLen []) (c2 : C8.Cal P w K mg base 5 "product_of_two" (spP2 C) [])
    (hr : Room 5 (A.deeper (envOfC "product" (C8.fnScope sProd) s.heap.objs.size fa cdv))) (h : spProd C vs H Q E) :
    ∃ t, PSs (cxOf C8.CX0 P w K mg base ["factors", "length", "factor", "found"] "product" (C8.fnScope sProd) fa cdv A outer s H E) (C8.fnBody sProd) t ∧ t { nx := fun _ H' => Q .non H', rt := Q } (start ["factors", "length", "factor", "found"] vs) H := by
  obtain ⟨p, a, b, f, g, n, rfl, hp, ha, hb, of, og, hfg, k⟩ := h
  have hps : SqT K H p [.ref a, .ref b] := SqT.of hp
  suffices hX : ∃ t, PSs (cxOf C8.CX0 P w K mg base ["factors", "length", "factor", "found"] "product" (C8.fnScope sProd) fa cdv A outer s H E).nox (C8.fnBody sProd) t ∧ t { nx := fun _ H' => Q .non H', rt := Q } (start ["factors", "length", "factor", "found"] [.ref p]) H by
    obtain ⟨t, h1, h2⟩ := hX
    exact ⟨t, h1.nox, h2⟩
  refine ⟨_, pss_cons (ps_expr (C8.pe_c cC hr (by decide) rfl (pa_cons (pv 0) pa_nil))) (pss_cons (ps_set (i := 1) scProd.nd rfl (.inl rfl) pe_int)
    (pss_cons (ps_for PassesOwn.never rfl (pi_tup (pv 0)) (pg_name (i := 2) scProd.nd rfl (Or.inl rfl)) (pss_one (ps_aug (i := 1) scProd.nd rfl (.inl rfl) (pe_callB (call_lenT cLen hr (by decide)) (by rfl) T.len PySem.boot_len (pa_cons (pv 2) pa_nil)) iop_mul)))
    (pss_cons (ps_expr (C8.pe_c cL hr (by decide) rfl (pa_cons (pv 1) pa_nil)))
    (pss_cons (ps_set (i := 3) scProd.nd rfl (.inl rfl) (pe_ix ix_tup (pv 0) pe_int (fun _ _ => rfl)))
    (pss_cons (ps_for PassesOwn.never rfl (pi_tup (pe_slice sl_tup (pv 0) (po_some pe_int) po_none)) (pg_name (i := 2) scProd.nd rfl (Or.inl rfl)) (pss_one (ps_set (i := 3) scProd.nd rfl (.inl rfl) (C8.pe_c c2 hr (by decide) rfl (pa_cons (pv 3) (pa_cons (pv 2) pa_nil))))))
    (pss_one (ps_ret (pv 3)))))))), ?_⟩
  refine ⟨_, rfl, p, [a, b], [f, g], n, rfl, .inr hps, ⟨rfl, fun i x y h1 h2 => ?_, fun y hy => ?_⟩, by show 1 ≤ 2; decide, fun H1 s1 => ?_⟩
  · match i, h1, h2 with
    | 0, h1, h2 => cases h1; cases h2; exact ha
    | 1, h1, h2 => cases h1; cases h2; exact hb
  · have hy' : y = f ∨ y = g := by simpa using hy
    rcases hy' with rfl | rfl
    · exact of
    · exact og
  have hp1 := sameT s1 hps
  refine ⟨_, rfl, p, rfl, ⟨_, hp1⟩, for_it walk_tup (fun i σ2 H2 => (∃ v2, σ2 = [some (.ref p), some (.int ((lenW f g i : Nat) : Int)), v2, none]) ∧ Same H H2) ⟨⟨_, rfl⟩, s1⟩ (fun i σ2 H2 _ q => sameT q.2 hps) (fun i x σ2 H2 H3 hi q y => ?_) fun σ2 H2 q => ?_⟩
  · obtain ⟨rfl, hx⟩ := y
    obtain ⟨⟨v2, rfl⟩, s2⟩ := q
    have l1 := of.len
    have l2 := og.len
    match i, hi, hx with
    | 0, _, hx =>
      cases hx
      refine ⟨_, rfl, _, rfl, a, f, n, rfl, ha.same s2, of.len, _, _, rfl, rfl, .inr ⟨by omega, by omega⟩, ⟨some (.ref a), ?_⟩, s2⟩
      show [some (V.ref p), some (V.int (((1 : Nat) : Int) * (f.length : Int))), some (V.ref a), none] = [some (V.ref p), some (V.int ((f.length : Nat) : Int)), some (V.ref a), none]
      rw [show ((1 : Nat) : Int) * (f.length : Int) = (f.length : Int) by omega]
    | 1, _, hx =>
      cases hx
      refine ⟨_, rfl, _, rfl, b, g, n, rfl, hb.same s2, og.len, _, _, rfl, rfl, .inr ⟨by omega, by omega⟩, ⟨some (.ref b), ?_⟩, s2⟩
      show [some (V.ref p), some (V.int (((f.length : Nat) : Int) * (g.length : Int))), some (V.ref b), none] = [some (V.ref p), some (V.int ((f.length * g.length : Nat) : Int)), some (V.ref b), none]
      rw [Int.natCast_mul]
  · obtain ⟨⟨v2, rfl⟩, s2⟩ := q
    have hfgI : ((lenW f g 2 : Nat) : Int) ≤ 2000 := by show ((f.length * g.length : Nat) : Int) ≤ 2000; omega
    refine ⟨_, rfl, _, rfl, hfgI, _, rfl, p, _, _, _, rfl, rfl, sameT s2 hps, atI_nat (j := 0) (xs := [V.ref a, V.ref b]) rfl, ?_⟩
    refine ⟨_, rfl, _, rfl, p, _, rfl, sameT s2 hps, not_whole, fun q hq => ?_⟩
    have hq1 : SqT K (upd H2 q (.tup [V.ref b])) q [.ref b] := sqt_new
    have s3 := s2.trans (same_new (o := .tup [V.ref b]) hq)
    refine ⟨q, rfl, ⟨_, hq1⟩, for_it (n := 1) (walk_tup (xs := [V.ref b])) (fun i σ4 H4 => (∃ v2 v3, σ4 = [some (.ref p), some (.int ((lenW f g 2 : Nat) : Int)), v2, some v3] ∧ ((i = 0 ∧ v3 = .ref a) ∨ (i = 1 ∧ ∃ c, v3 = .ref c ∧ TnAt C H4 c (pr n f g) n))) ∧ Same (upd H2 q (.tup [V.ref b])) H4) ⟨⟨_, _, rfl, .inl ⟨rfl, rfl⟩⟩, Same.refl _⟩ (fun i σ4 H4 _ q => sameT q.2 hq1) (fun i x σ4 H4 H5 hi q y => ?_) fun σ4 H4 q => ?_⟩
    · obtain ⟨rfl, hx⟩ := y
      obtain ⟨⟨v2, v3, rfl, hv⟩, s4⟩ := q
      have hi0 : i = 0 := by omega
      subst hi0
      cases hx
      rcases hv with ⟨_, rfl⟩ | ⟨z, _⟩
      · have s5 := s3.trans s4
        refine ⟨_, rfl, _, rfl, a, b, f, g, n, rfl, ha.same s5, hb.same s5, of, og, hfg, fun H6 c s6 t6 => ?_⟩
        exact ⟨⟨_, _, rfl, .inr ⟨rfl, c, rfl, t6⟩⟩, s4.trans s6⟩
      · omega
    · obtain ⟨⟨v2, v3, rfl, hv⟩, s4⟩ := q
      rcases hv with ⟨z, _⟩ | ⟨_, c, rfl, tc⟩
      · omega
      · exact ⟨_, rfl, k H4 c (s3.trans s4) tc⟩
theorem ok_prod {f : Addr} {fd : FuncData} (T : Txt K mg C) (cLen : LenOf P w K mg base 1 C) (cC : C8.Cal P w K mg base 3 "check_factors" (spCF K C) []) (cL : C8.Cal P w K mg base 1 "check_length" spChkLen []) (c2 : C8.Cal P w K mg base 5 "product_of_two" (spP2 C) [])
    (F : C8.Def K mg "product" sProd f fd) (df : fd.defaults = .none) : CalR P w K mg base 6 "product" (fun vs H Q E => ∃ (a b : Addr) (f g : List Nat) (n : Nat), vs = [.ref a, .ref b] ∧ TnAt C H a f n ∧ TnAt C H b g n ∧ TOk f n ∧ TOk g n ∧ f.length * g.length ≤ 2000 ∧ ∀ H' c, Same H H' → TnAt C H' c (pr n f g) n → Q (.ref c) H') := by
  refine ⟨f, ?_, F.mgf, F.kp⟩
  obtain ⟨oc, od, dV, kV, doc, pm, an, cdv, ct, osl, rfl, lk, hcd⟩ := F.fn.ex
  have e : dV = .none := df
  subst e
  refine FnR.imp (StX.fn_star (ps := []) (pv := "factors") (sp := spProd C) lk hcd scProd StX.cxUp_none (fun us rest hl => ?_) fun A outer s H vs Q E hr h => body_prod T cLen cC cL c2 hr h) fun vs H Q E h => ?_
  · have hz : us = [] := List.eq_nil_of_length_eq_zero hl
    subst hz
    cases rest with
    | nil => rfl
    | cons r rs => rfl
  · obtain ⟨a, b, f, g, n, rfl, ha, hb, of, og, hfg, k⟩ := h
    refine ⟨[], [.ref a, .ref b], rfl, rfl, (by show 2 ≤ sizeLine; decide), fun p hp => ⟨p, a, b, f, g, n, rfl, upd_same, ha.same (same_new hp), hb.same (same_new hp), of, og, hfg, fun H' c s t => k H' c ((same_new hp).trans s) t⟩⟩
end
end TB

set_option maxRecDepth 100000
set_option maxHeartbeats 4000000
namespace TB
open PySem PySem.Spec PyProof.Rows L2
abbrev sCL : Stmt := top 33
abbrev sLO : Stmt := top 34
abbrev sPA : Stmt := top 35
abbrev sCP : Stmt := top 36
abbrev sTA : Stmt := top 37
abbrev sTB : Stmt := top 38
/-- a list of factors -/
structure FL (C : Addr) (H : Hp) (l : Addr) (fs : List (List Nat)) (n : Nat) : Prop where
  ex : ∃ as_ : List Addr, H l = some (.lst (as_.map V.ref)) ∧ FsAt C H as_ fs n
  lo : 1 ≤ fs.length
  hi : fs.length ≤ 101
theorem FL.same {C : Addr} {H H' : Hp} {l : Addr} {fs : List (List Nat)} {n : Nat} (h : FL C H l fs n) (s : Same H H') : FL C H' l fs n := by
  obtain ⟨as_, e, f⟩ := h.ex
  exact ⟨⟨as_, s _ _ e, f.same s⟩, h.lo, h.hi⟩
theorem pl_take {fs : List (List Nat)} {i : Nat} {f : List Nat} (h : fs[i]? = some f) : pl (fs.take (i + 1)) = pl (fs.take i) * f.length := by
  rw [List.take_add_one, h, pl_app]
  simp [pl]
theorem FL.pos {C : Addr} {H : Hp} {l : Addr} {fs : List (List Nat)} {n : Nat} (h : FL C H l fs n) : ∀ f ∈ fs, 0 < f.length := fun f hf => by
  obtain ⟨as_, e, q⟩ := h.ex
  exact (q.ok f hf).pos
section
variable {P : Program} {w : World} {K : PySem.W.Frag} {mg : Str → Option Value} {base : Heap} {C : Addr}
/-! check_list, length_of -/
theorem scCL : FnScope ["factors"] ["factors"] (C8.fnScope sCL) := ⟨rfl, rfl, rfl, by decide +kernel, rfl, by decide +kernel, by decide +kernel⟩
def spCL (C : Addr) : Sp := fun vs H Q _ => ∃ (l : Addr) (fs : List (List Nat)) (n : Nat), vs = [.ref l] ∧ FL C H l fs n ∧ fs.length ≤ 100 ∧ ∀ H', Same H H' → Q .non H'
theorem ok_cl {f : Addr} {fd : FuncData} (T : Txt K mg C) (cC : C8.Cal P w K mg base 3 "check_factors" (spCF K C) []) (F : C8.Def K mg "check_list" sCL f fd) (b : Binds K fd ["factors"] []) : C8.Cal P w K mg base 4 "check_list" (spCL C) [] := by
  refine C8.cal0 F b .nil scCL (fun vs H Q E h => ?_) (fun cdv A outer s H vs Q E hr h => ?_)
  · obtain ⟨l, fs, n, rfl, _⟩ := h
    rfl
  · obtain ⟨l, fs, n, rfl, hl, h100, k⟩ := h
    obtain ⟨as_, e, hf⟩ := hl.ex
    have h1 := hl.lo
    have hlen := hf.len
    refine ⟨_, pss_cons (ps_if (PW.pt (pw_or (pt_not (pt_val (pe_callB call_isi (by rfl) T.isi (by decide +kernel) (pa_cons (pv 0) (pa_cons (pe_bltn (v := .ty "list") (by rfl) T.list (by decide +kernel) rfl) pa_nil)))))
      (pw_or1 (pt_cmpR op_gt (pe_callB call_len_seq (by rfl) T.len PySem.boot_len (pa_cons (pv 0) pa_nil)) (C8.pe_gc rfl T.gMaxF) (nomark _))))) (pss_one ps_never) pss_nil)
      (pss_one (ps_expr (C8.pe_c cC hr (by decide) rfl (pa_cons (pv 0) pa_nil)))), ?_⟩
    refine ⟨_, rfl, .ref l, .ty "list", _, _, true, rfl, .ty _, .base (.lst e), kit_ty (by decide +kernel), true, rfl, iteF ?_⟩
    refine ⟨_, rfl, l, _, rfl, .inl (SqL.of e), _, _, rfl, rfl, false, bl_f (p := (100 : Int) < ((as_.map V.ref).length : Int)) (by rw [List.length_map]; omega), iteF ?_⟩
    exact ⟨_, rfl, l, as_, fs, n, rfl, .inl (SqL.of e), hf, by omega, fun H' s => k H' s⟩
theorem scLO : FnScope ["factors", "length", "factor"] ["factors"] (C8.fnScope sLO) := ⟨rfl, rfl, rfl, by decide +kernel, rfl, by decide +kernel, by decide +kernel⟩
def spLO (C : Addr) : Sp := fun vs H Q _ => ∃ (l : Addr) (fs : List (List Nat)) (n : Nat), vs = [.ref l] ∧ FL C H l fs n ∧ fs.length ≤ 100 ∧ ∀ H', Same H H' → Q (.int (pl fs : Int)) H'
theorem ok_lo {f : Addr} {fd : FuncData} (T : Txt K mg C) (cLen : LenOf P w K mg base 1 C) (cC : C8.Cal P w K mg base 4 "check_list" (spCL C) []) (F : C8.Def K mg "length_of" sLO f fd) (b : Binds K fd ["factors"] []) : C8.Cal P w K mg base 5 "length_of" (spLO C) [] := by
  refine C8.cal0 F b .nil scLO (fun vs H Q E h => ?_) (fun cdv A outer s H vs Q E hr h => ?_)
  · obtain ⟨l, fs, n, rfl, _⟩ := h
    rfl
  · obtain ⟨l, fs, n, rfl, hl, h100, k⟩ := h
    obtain ⟨as_, e, hf⟩ := hl.ex
    refine ⟨_, pss_cons (ps_expr (C8.pe_c cC hr (by decide) rfl (pa_cons (pv 0) pa_nil))) (pss_cons (ps_set (i := 1) scLO.nd rfl (.inl rfl) pe_int)
      (pss_cons (ps_for PassesOwn.never rfl (pi_list (pv 0)) (pg_name (i := 2) scLO.nd rfl (Or.inl rfl)) (pss_one (ps_aug (i := 1) scLO.nd rfl (.inl rfl) (pe_callB (call_lenT cLen hr (by decide)) (by rfl) T.len PySem.boot_len (pa_cons (pv 2) pa_nil)) iop_mul)))
      (pss_one (ps_ret (pv 1))))), ?_⟩
    refine ⟨_, rfl, l, fs, n, rfl, hl, h100, fun H1 s1 => ?_⟩
    have e1 := s1 _ _ e
    refine ⟨_, rfl, l, rfl, ⟨_, SqL.of e1⟩, for_it (walk_list (xs := as_.map V.ref)) (fun i σ2 H2 => (∃ v2, σ2 = [some (.ref l), some (.int ((pl (fs.take i) : Nat) : Int)), v2]) ∧ Same H H2) ⟨⟨_, rfl⟩, s1⟩ (fun i σ2 H2 _ q => q.2.seq (SqL.of e)) (fun i x σ2 H2 H3 hi q y => ?_) fun σ2 H2 q => ?_⟩
    · obtain ⟨rfl, hx⟩ := y
      obtain ⟨⟨v2, rfl⟩, s2⟩ := q
      rw [List.length_map] at hi
      rw [ref_get hi] at hx
      cases hx
      obtain ⟨f, hfi, tf, okf⟩ := (hf.same s2).get hi
      have l1 := okf.len
      refine ⟨_, rfl, _, rfl, _, f, n, rfl, tf, okf.len, _, _, rfl, rfl, .inr ⟨by omega, by omega⟩, ⟨some (.ref as_[i]), ?_⟩, s2⟩
      show [some (V.ref l), some (V.int (((pl (fs.take i) : Nat) : Int) * (f.length : Int))), some (V.ref as_[i])] = _
      rw [pl_take hfi, Int.natCast_mul]
    · obtain ⟨⟨v2, rfl⟩, s2⟩ := q
      rw [List.length_map, hf.len, List.take_length]
      exact ⟨_, rfl, k H2 s2⟩
/-! player_at -/
theorem scPA : FnScope ["factors", "position", "number", "factor"] ["factors", "position"] (C8.fnScope sPA) := ⟨rfl, rfl, rfl, by decide +kernel, rfl, by decide +kernel, by decide +kernel⟩
def spPA (C : Addr) : Sp := fun vs H Q _ => ∃ (l : Addr) (fs : List (List Nat)) (n p : Nat), vs = [.ref l, .int (p : Int)] ∧ FL C H l fs n ∧ ∀ H', Same H H' → Q (.str (tx [at' n fs p])) H'
theorem num_take {rs : List (List Nat)} {i p : Nat} {f : List Nat} (h : rs[i]? = some f) : num (rs.take (i + 1)) p = num (rs.take i) p + f.getD ((p / pl (rs.take i)) % f.length) 0 := by
  rw [List.take_add_one, h, num_app]
  simp [num]
theorem num_le {rs : List (List Nat)} {n : Nat} (h : ∀ f ∈ rs, ∀ x ∈ f, x < n) : ∀ p, num rs p ≤ n * rs.length := by
  induction rs with
  | nil => intro p; simp [num]
  | cons f r ih =>
    intro p
    have h1 := ih (fun f hf => h f (List.mem_cons_of_mem _ hf)) (p / f.length)
    have h2 : f.getD (p % f.length) 0 ≤ n := by
      rw [List.getD_eq_getElem?_getD]
      cases e : f[p % f.length]? with
      | none => exact Nat.zero_le _
      | some x => exact Nat.le_of_lt (h f List.mem_cons_self x (List.mem_of_getElem? e))
    show f.getD (p % f.length) 0 + num r (p / f.length) ≤ n * (r.length + 1)
    rw [Nat.mul_succ]
    omega
theorem ok_pa {f : Addr} {fd : FuncData} (T : Txt K mg C) (pT : Prp P w K mg base 1 C "text" "own_text") (pP : Prp P w K mg base 1 C "players" "own_players") (cLen : LenOf P w K mg base 1 C) (F : C8.Def K mg "player_at" sPA f fd) (b : Binds K fd ["factors", "position"] []) : C8.Cal P w K mg base 3 "player_at" (spPA C) [] := by
  refine C8.cal0 F b .nil scPA (fun vs H Q E h => ?_) (fun cdv A outer s H vs Q E hr h => ?_)
  · obtain ⟨l, fs, n, p, rfl, _⟩ := h
    rfl
  · obtain ⟨l, fs, n, p, rfl, hl, k⟩ := h
    obtain ⟨as_, e, hf⟩ := hl.ex
    have hlen := hf.len
    have h1 := hl.lo
    have hhi := hl.hi
    have okn : 2 ≤ n ∧ n ≤ 6 := by
      have := hf.ok fs[0] (List.getElem_mem (by omega))
      exact ⟨this.lo, this.hi⟩
    refine ⟨_, pss_cons (ps_set (i := 2) scPA.nd rfl (.inl rfl) pe_int)
      (pss_cons (ps_for PassesOwn.never rfl (pi_list (pe_revL (pv 0))) (pg_name (i := 3) scPA.nd rfl (Or.inl rfl))
        (pss_cons (ps_aug (i := 2) scPA.nd rfl (.inl rfl) (pe_bm PySem.F.plainAttrs_str PySem.F.slot_str_index PySem.F.type_str_index mt_idx (C8.pe_gc rfl T.gLet) (pa_cons (pe_item_str (pe_pr pT hr (by decide) (pv 3) rfl) (pe_op op_mod (pv 1) (pe_callB (call_lenT cLen hr (by decide)) (by rfl) T.len PySem.boot_len (pa_cons (pv 3) pa_nil))) (fun _ _ => rfl)) pa_nil)) ip_add)
          (pss_one (ps_aug (i := 1) scPA.nd rfl (.inl rfl) (pe_callB (call_lenT cLen hr (by decide)) (by rfl) T.len PySem.boot_len (pa_cons (pv 3) pa_nil)) iop_fdiv))))
      (pss_one (ps_ret (pe_item_str (C8.pe_gc rfl T.gLet) (pe_op op_mod (pv 2) (pe_pr pP hr (by decide) (pe_ix ix_list (pv 0) pe_int (fun _ _ => rfl)) rfl)) (fun _ _ => rfl))))), ?_⟩
    refine ⟨_, rfl, l, _, rfl, SqL.of e, fun q hq => ?_⟩
    have s1 : Same H (upd H q (.lst (as_.map V.ref).reverse)) := same_new hq
    have eq1 : SqL K (upd H q (.lst (as_.map V.ref).reverse)) q (as_.map V.ref).reverse := .inl (.inl upd_same)
    refine ⟨q, rfl, ⟨_, eq1⟩, for_it (walk_list (xs := (as_.map V.ref).reverse)) (fun i σ2 H2 => (∃ v3, σ2 = [some (.ref l), some (.int ((p / pl (fs.reverse.take i) : Nat) : Int)), some (.int ((num (fs.reverse.take i) p : Nat) : Int)), v3]) ∧ Same (upd H q (.lst (as_.map V.ref).reverse)) H2) ⟨⟨none, by simp [pl, num]; rfl⟩, Same.refl _⟩ (fun i σ2 H2 _ r => r.2.seq eq1) (fun i x σ2 H2 H3 hi r y => ?_) fun σ2 H2 r => ?_⟩
    · obtain ⟨rfl, hx⟩ := y
      obtain ⟨⟨v3, rfl⟩, s2⟩ := r
      have s3 := s1.trans s2
      rw [List.length_reverse, List.length_map] at hi
      have hj : as_.length - 1 - i < as_.length := by omega
      rw [List.getElem?_reverse (by rw [List.length_map]; exact hi), List.length_map, ref_get hj] at hx
      cases hx
      obtain ⟨f, hfi, tf, okf⟩ := (hf.same s3).get hj
      have l1 := okf.len
      have l0 := okf.pos
      have hrev : fs.reverse[i]? = some f := by rw [List.getElem?_reverse (by omega), ← hf.len]; exact hfi
      have hm : p / pl (fs.reverse.take i) % f.length < f.length := Nat.mod_lt _ (by omega)
      have hc : (((p / pl (fs.reverse.take i) : Nat) : Int) % (f.length : Int)) = ((p / pl (fs.reverse.take i) % f.length : Nat) : Int) := by rw [Int.natCast_emod]
      have hd : (((p / pl (fs.reverse.take i) : Nat) : Int) / (f.length : Int)) = ((p / pl (fs.reverse.take (i + 1)) : Nat) : Int) := by rw [pl_take hrev, ← Nat.div_div_eq_div_mul, Int.natCast_ediv (p / pl (fs.reverse.take i)) f.length]
      have hx6 := okf.mem _ (List.getElem_mem hm)
      have hg : f.getD (p / pl (fs.reverse.take i) % f.length) 0 = f[p / pl (fs.reverse.take i) % f.length] := by rw [List.getD_eq_getElem?_getD, List.getElem?_eq_getElem hm, Option.getD_some]
      refine ⟨_, rfl, rfl, _, rfl, propT tf ⟨_, rfl, _, rfl, _, f, n, rfl, tf, okf.len, _, _, rfl, rfl, by omega, tx f, _, f[p / pl (fs.reverse.take i) % f.length] + 65, rfl, rfl, ?_, ?_, ?_, ?_, f[p / pl (fs.reverse.take i) % f.length], rfl, rfl, by omega, ?_⟩⟩
      · rw [hc]; omega
      · rw [hc]; omega
      · rw [hc, tx_len]; omega
      · rw [hc, Int.toNat_natCast, tx_cps]
        simp [List.getElem?_eq_getElem hm]
      · refine ⟨_, _, rfl, rfl, _, rfl, _, rfl, _, f, n, rfl, tf, okf.len, _, _, rfl, rfl, ⟨by omega, by omega⟩, ⟨some (.ref as_[as_.length - 1 - i]), ?_⟩, s2⟩
        rw [num_take hrev, hg]
        show [some (V.ref l), some (V.int (((p / pl (fs.reverse.take i) : Nat) : Int) / (f.length : Int))), some (V.int (((num (fs.reverse.take i) p : Nat) : Int) + ((f[p / pl (fs.reverse.take i) % f.length] : Nat) : Int))), _] = _
        rw [hd, Int.natCast_add]
    · obtain ⟨⟨v3, rfl⟩, s2⟩ := r
      have s3 := s1.trans s2
      rw [List.length_reverse, List.length_map, hf.len, show fs.reverse.take fs.length = fs.reverse by rw [List.take_of_length_le (by rw [List.length_reverse]; omega)]]
      have h0 : 0 < as_.length := by omega
      obtain ⟨f0, _, tf0, _⟩ := (hf.same s3).get h0
      have hm : num fs.reverse p % n < n := Nat.mod_lt _ (by omega)
      have hc : ((num fs.reverse p : Nat) : Int) % (n : Int) = ((num fs.reverse p % n : Nat) : Int) := by rw [Int.natCast_emod]
      refine ⟨_, rfl, _, rfl, l, _, _, _, rfl, rfl, SqL.of (s3 _ _ e), atI_nat (j := 0) (ref_get h0), propP tf0 ⟨_, _, rfl, rfl, by omega, ABC, _, num fs.reverse p % n + 65, rfl, rfl, ?_, ?_, ?_, ?_, ?_⟩⟩
      · rw [hc]; omega
      · rw [hc]; omega
      · rw [hc, abc_len]; omega
      · show ABC.cps[(((num fs.reverse p : Nat) : Int) % (n : Int)).toNat]? = _
        rw [hc, Int.toNat_natCast]
        exact abc_at (by omega)
      · exact k H2 s3
end
end TB

set_option maxRecDepth 100000
set_option maxHeartbeats 4000000
namespace TB
open PySem PySem.Spec PyProof.Rows L2
section
variable {P : Program} {w : World} {K : PySem.W.Frag} {mg : Str → Option Value} {base : Heap} {C : Addr}
/-! check_position -/
theorem scCP : FnScope ["value", "least", "most"] ["value", "least", "most"] (C8.fnScope sCP) := ⟨rfl, rfl, rfl, by decide +kernel, rfl, by decide +kernel, by decide +kernel⟩
def spCP : Sp := fun vs H Q _ => ∃ i lo hi : Int, vs = [.int i, .int lo, .int hi] ∧ lo ≤ i ∧ i ≤ hi ∧ Q .non H
theorem ok_cp {f : Addr} {fd : FuncData} (cI : C8.Cal P w K mg base 1 "is_integer" spIsInt []) (F : C8.Def K mg "check_position" sCP f fd) (b : Binds K fd ["value", "least", "most"] []) : C8.Cal P w K mg base 2 "check_position" spCP [] := by
  refine C8.cal0 F b .nil scCP (fun vs H Q E h => ?_) (fun cdv A outer s H vs Q E hr h => ?_)
  · obtain ⟨i, lo, hi, rfl, _⟩ := h
    rfl
  · obtain ⟨i, lo, hi, rfl, h1, h2, q⟩ := h
    refine ⟨_, pss_one (ps_if (PW.pt (pw_or (pt_not (pt_val (C8.pe_c cI hr (by decide) rfl (pa_cons (pv 0) pa_nil)))) (pw_or1 (pt_not (pt_chain op_le op_le (pv 1) (pv 0) (pv 2)))))) (pss_one ps_never) pss_nil), ?_⟩
    refine ⟨_, rfl, i, rfl, true, rfl, iteF ?_⟩
    exact ⟨_, rfl, _, rfl, _, _, rfl, rfl, true, bl_t h1, iteT ⟨_, rfl, _, _, rfl, rfl, true, bl_t h2, iteF q⟩⟩
/-! turn_at -/
theorem scTA : FnScope ["factors", "position"] ["factors", "position"] (C8.fnScope sTA) := ⟨rfl, rfl, rfl, by decide +kernel, rfl, by decide +kernel, by decide +kernel⟩
def spTA (C : Addr) : Sp := fun vs H Q _ => ∃ (l : Addr) (fs : List (List Nat)) (n p : Nat), vs = [.ref l, .int (p : Int)] ∧ FL C H l fs n ∧ fs.length ≤ 100 ∧ p < pl fs ∧ ∀ H', Same H H' → Q (.str (tx [at' n fs p])) H'
theorem ok_ta {f : Addr} {fd : FuncData} (cP : C8.Cal P w K mg base 2 "check_position" spCP []) (cL : C8.Cal P w K mg base 5 "length_of" (spLO C) []) (cA : C8.Cal P w K mg base 3 "player_at" (spPA C) []) (F : C8.Def K mg "turn_at" sTA f fd) (b : Binds K fd ["factors", "position"] []) : C8.Cal P w K mg base 6 "turn_at" (spTA C) [] := by
  refine C8.cal0 F b .nil scTA (fun vs H Q E h => ?_) (fun cdv A outer s H vs Q E hr h => ?_)
  · obtain ⟨l, fs, n, p, rfl, _⟩ := h
    rfl
  · obtain ⟨l, fs, n, p, rfl, hl, h100, hp, k⟩ := h
    refine ⟨_, pss_cons (ps_expr (C8.pe_c cP hr (by decide) rfl (pa_cons (pv 1) (pa_cons pe_int (pa_cons (pe_op op_sub (C8.pe_c cL hr (by decide) rfl (pa_cons (pv 0) pa_nil)) pe_int) pa_nil)))))
      (pss_one (ps_ret (C8.pe_c cA hr (by decide) rfl (pa_cons (pv 0) (pa_cons (pv 1) pa_nil))))), ?_⟩
    refine ⟨_, rfl, _, rfl, l, fs, n, rfl, hl, h100, fun H1 s1 => ?_⟩
    refine ⟨_, _, rfl, rfl, _, _, _, rfl, by omega, (by show (p : Int) ≤ ((pl fs : Nat) : Int) - 1; omega), ?_⟩
    exact ⟨_, rfl, _, rfl, l, fs, n, p, rfl, hl.same s1, fun H2 s2 => k H2 (s1.trans s2)⟩
/-! text_between -/
theorem scTB : FnScope ["factors", "start", "end", "length", "offset"] ["factors", "start", "end"] (C8.fnScope sTB) := ⟨rfl, rfl, rfl, by decide +kernel, rfl, by decide +kernel, by decide +kernel⟩
def tbw (n : Nat) (fs : List (List Nat)) (a m : Nat) : List Nat := (List.range m).map fun o => at' n fs (a + o)
def spTB (C : Addr) : Sp := fun vs H Q _ => ∃ (l : Addr) (fs : List (List Nat)) (n a m : Nat), vs = [.ref l, .int (a : Int), .int ((a + m : Nat) : Int)] ∧ FL C H l fs n ∧ fs.length ≤ 100 ∧ a + m ≤ pl fs ∧ m ≤ 2000 ∧ ∀ H', Same H H' → Q (.str (tx (tbw n fs a m))) H'
theorem ok_tb {f : Addr} {fd : FuncData} (T : Txt K mg C) (cP : C8.Cal P w K mg base 2 "check_position" spCP []) (cL : C8.Cal P w K mg base 5 "length_of" (spLO C) []) (cA : C8.Cal P w K mg base 3 "player_at" (spPA C) []) (F : C8.Def K mg "text_between" sTB f fd) (b : Binds K fd ["factors", "start", "end"] []) : C8.Cal P w K mg base 6 "text_between" (spTB C) [] := by
  refine C8.cal0 F b .nil scTB (fun vs H Q E h => ?_) (fun cdv A outer s H vs Q E hr h => ?_)
  · obtain ⟨l, fs, n, a, m, rfl, _⟩ := h
    rfl
  · obtain ⟨l, fs, n, a, m, rfl, hl, h100, hp, hm, k⟩ := h
    have hde : (((a + m : Nat) : Int) - (a : Int)) = (m : Int) := by omega
    refine ⟨_, pss_cons (ps_set (i := 3) scTB.nd rfl (.inl rfl) (C8.pe_c cL hr (by decide) rfl (pa_cons (pv 0) pa_nil)))
      (pss_cons (ps_expr (C8.pe_c cP hr (by decide) rfl (pa_cons (pv 1) (pa_cons pe_int (pa_cons (pv 3) pa_nil)))))
      (pss_cons (ps_expr (C8.pe_c cP hr (by decide) rfl (pa_cons (pv 2) (pa_cons (pv 1) (pa_cons (pv 3) pa_nil)))))
      (pss_cons (ps_if (pt_cmpR op_gt (pe_op op_sub (pv 2) (pv 1)) (C8.pe_gc rfl T.gMax) (nomark _)) (pss_one ps_never) pss_nil)
      (pss_one (ps_ret (pe_join (pe_str (x := SX.S [])) (pe_lc (own := [("offset", 4)]) (g := gName 4) (tt := tYes) (te := tCall (spPA C) [] C8.E0 (tCons (tVar 0) (tCons (tOp rPlus (tVar 1) (tVar 4)) tNil))) rfl scTB.nd (pi_range1 rfl T.range (pa_cons (pe_op op_sub (pv 2) (pv 1)) pa_nil)) (blkOk_by (N := ["factors", "start", "end", "length", "offset"]) (sc := C8.fnScope sTB) (by decide +kernel))
        (fun _ _ _ _ _ => pg_name (i := 4) scTB.nd rfl (Or.inl rfl)) (fun _ _ _ _ _ => pts_nil) (fun _ _ _ _ _ => C8.pe_c cA hr (by decide) rfl (pa_cons (pv 0) (pa_cons (pe_op op_add (pv 1) (pv 4)) pa_nil)))))))))), ?_⟩
    refine ⟨_, rfl, l, fs, n, rfl, hl, h100, fun H1 s1 => ?_⟩
    refine ⟨_, rfl, _, rfl, _, _, _, rfl, by omega, (by show (a : Int) ≤ ((pl fs : Nat) : Int); omega), ?_⟩
    refine ⟨_, rfl, _, rfl, _, rfl, _, _, _, rfl, by omega, (by show ((a + m : Nat) : Int) ≤ ((pl fs : Nat) : Int); omega), ?_⟩
    refine ⟨_, rfl, _, rfl, _, _, rfl, rfl, _, _, rfl, rfl, false, bl_f (p := (2000 : Int) < ((a + m : Nat) : Int) - (a : Int)) (by omega), iteF ?_⟩
    refine ⟨⟨_, rfl⟩, _, rfl, _, rfl, _, _, rfl, rfl, _, rfl, by omega, by omega, ?_⟩
    rw [hde, Int.toNat_natCast]
    refine fun D hD => lc_it walk_range (PvF H1 D fun o => some (.str (tx [at' n fs (a + o)]))) (pvF0 hD) (fun _ _ _ _ => trivial) (fun i x H2 H3 hi p y => ?_) fun H2 p => ?_
    · obtain ⟨rfl, rfl⟩ := y
      refine ⟨rfl, _, rfl, _, rfl, _, rfl, _, _, rfl, rfl, l, fs, n, a + i, ?_, hl.same (s1.trans p.1), fun H4 s4 => ?_⟩
      · show [V.ref l, V.int ((a : Int) + (0 + (i : Int)))] = _
        rw [Int.zero_add, Int.natCast_add]
      · exact pvF_add hD hi (by omega) rfl (pvF_same p s4)
    · have e1 : (List.range m).map (fun o => [at' n fs (a + o)]) = (tbw n fs a m).map fun x => [x] := by
        unfold tbw
        rw [List.map_map]
        rfl
      refine ⟨SX.S [], D, ((tbw n fs a m).map fun x => [x]).map tx, rfl, rfl, .inl (.inl (.inl ?_)), joinZ ?_, ?_⟩
      · rw [p.2, accF_map, ← e1, List.map_map, List.map_map]
        rfl
      · rw [flat1]
        unfold tbw
        rw [List.length_map, List.length_range]
        omega
      · rw [join_tx, flat1]
        exact k H2 (s1.trans p.1)
end
end TB

set_option maxRecDepth 100000
set_option maxHeartbeats 4000000
namespace TB
open PySem PySem.Spec PyProof.Rows L2
abbrev sMul : Stmt := top 39
abbrev sCO : Stmt := top 40
abbrev sPO : Stmt := top 41
theorem nz_any (c : List Int) : c.any (· != 0) = true ↔ nz c := by
  unfold nz
  rw [List.any_eq_true]
  constructor
  · rintro ⟨x, h1, h2⟩
    exact ⟨x, h1, by simpa using h2⟩
  · rintro ⟨x, h1, h2⟩
    exact ⟨x, h1, by simpa using h2⟩
theorem psum_take (c : List Int) : ∀ (a : Int) (i : Nat), i < c.length → (psum a c).take (i + 1) = (psum a c).take i ++ [a + (c.take (i + 1)).sum] := by
  induction c with
  | nil => intro a i h; simp at h
  | cons x c ih =>
    intro a i h
    cases i with
    | zero => simp [psum]
    | succ i =>
      have := ih (a + x) i (by simpa using h)
      simp only [psum, List.take_succ_cons, List.cons_append, List.sum_cons]
      rw [this, Int.add_assoc]
theorem cut_last (c : List V) : cutV c none (some (-1)) = c.dropLast := by
  unfold cutV
  show (c.drop 0).take (((-1 : Int) + (c.length : Int)).toNat - 0) = c.dropLast
  rw [List.drop_zero, List.dropLast_eq_take, Nat.sub_zero, show ((-1 : Int) + (c.length : Int)).toNat = c.length - 1 by omega]
section
variable {P : Program} {w : World} {K : PySem.W.Frag} {mg : Str → Option Value} {base : Heap} {C : Addr}
theorem scMul : FnScope ["coefficients", "found", "quotient", "running", "coefficient"] ["coefficients"] (C8.fnScope sMul) := ⟨rfl, rfl, rfl, by decide +kernel, rfl, by decide +kernel, by decide +kernel⟩
def spMul (K : PySem.W.Frag) : Sp := fun vs H Q _ => ∃ (l : Addr) (c : List Int), vs = [.ref l] ∧ SqL K H l (c.map V.int) ∧ c.length ≤ 1000 ∧ (¬ nz c → ∀ H', Same H H' → Q .non H') ∧ ∀ H' (k : Nat), Same H H' → Mul c k → Q (.int (k : Int)) H'
theorem ok_mul {f : Addr} {fd : FuncData} (T : Txt K mg C) (F : C8.Def K mg "multiplicity" sMul f fd) (b : Binds K fd ["coefficients"] []) : C8.Cal P w K mg base 1 "multiplicity" (spMul K) [] := by
  refine C8.cal0 F b .nil scMul (fun vs H Q E h => ?_) (fun cdv A outer s H vs Q E hr h => ?_)
  · obtain ⟨l, c, rfl, _⟩ := h
    rfl
  · obtain ⟨l, c, rfl, hl, hlen, k0, k⟩ := h
    refine ⟨_, pss_cons (ps_if (pt_not (pt_val (pe_callB (cr_anyI rfl) (by rfl) T.any (by decide +kernel) (pa_cons (pv 0) pa_nil)))) (pss_one (ps_ret pe_non)) pss_nil)
      (pss_cons (ps_set (i := 1) scMul.nd rfl (.inl rfl) pe_int)
      (pss_cons (ps_while PassesOwn.never (pt_cmpR op_eq (pe_callB (cr_sum rfl) (by rfl) T.sum (by decide +kernel) (pa_cons (pv 0) pa_nil)) pe_int (nomark _))
        (pss_cons (ps_set (i := 2) scMul.nd rfl (.inl rfl) (pe_lst pa_nil)) (pss_cons (ps_set (i := 3) scMul.nd rfl (.inl rfl) pe_int)
        (pss_cons (ps_for PassesOwn.never rfl (pi_list (pe_slice sl_list (pv 0) po_none (po_some (pe_un un_neg pe_int)))) (pg_name (i := 4) scMul.nd rfl (Or.inl rfl))
          (pss_cons (ps_aug (i := 3) scMul.nd rfl (.inl rfl) (pv 4) ip_add) (pss_one (ps_expr (pe_bm PySem.F.plainAttrs_list PySem.F.slot_list_append PySem.F.type_list_append mt_append (pv 2) (pa_cons (pv 3) pa_nil))))))
        (pss_cons (ps_set (i := 0) scMul.nd rfl (.inl rfl) (pv 2)) (pss_one (ps_aug (i := 1) scMul.nd rfl (.inl rfl) pe_int ip_add)))))))
      (pss_one (ps_ret (pv 1))))), ?_⟩
    refine ⟨_, rfl, l, c, rfl, hl, _, rfl, ?_⟩
    by_cases hz : nz c
    · rw [(nz_any c).mpr hz]
      refine iteF ?_
      refine ⟨fun m σ H' => ∃ (l' : Addr) (ck : List Int) (j : Nat) (e : Int) (v2 v3 v4 : Option V), σ = [some (.ref l'), some (.int (j : Int)), v2, v3, v4] ∧ Same H H' ∧ SqL K H' l' (ck.map V.int) ∧ ck.length ≤ 1000 ∧ m = ck.length ∧ nz ck ∧ e ≠ 0 ∧ (∀ d, mo ck d = e * mo c (d + j)) ∧ ∀ d < j, mo c d = 0,
        ⟨c.length, l, c, 0, 1, none, none, none, rfl, Same.refl _, hl, hlen, rfl, hz, by decide, fun d => by rw [Int.one_mul, Nat.add_zero], fun d hd => absurd hd (Nat.not_lt_zero _)⟩, ?_⟩
      rintro m σ H1 ⟨l', ck, j, e, v2, v3, v4, rfl, s1, hs, hck, rfl, hnz, he, hmo, hlt⟩
      have hne : ck ≠ [] := fun z => by rw [z] at hnz; obtain ⟨x, hx, _⟩ := hnz; cases hx
      have h0 := hmo 0
      rw [mo_zero, Nat.zero_add] at h0
      refine ⟨_, rfl, l', ck, rfl, hs, rfl, decide (V.int ck.sum = V.int 0), rfl, ?_⟩
      by_cases hsum : ck.sum = 0
      · rw [decide_eq_true (by rw [hsum])]
        have hmj : mo c j = 0 := by
          rw [hsum] at h0
          rcases Int.mul_eq_zero.mp h0.symm with z | z
          · exact absurd z he
          · exact z
        refine ⟨_, fun σ' H' z => z, ?_⟩
        refine ⟨Nat.zero_le _, fun q hq => ?_⟩
        have hqH : H q = none := s1.free hq
        have s2 : Same H (upd H1 q (.lst [])) := same_upd hqH s1
        have hs2 : SqL K (upd H1 q (.lst [])) l' (ck.map V.int) := (same_new hq).seq hs
        refine ⟨_, rfl, _, rfl, _, rfl, l', _, rfl, hs2, fun r hr2 => ?_⟩
        rw [cut_last, ← List.map_dropLast]
        have hqr : q ≠ r := fun z => by rw [← z, upd_same] at hr2; cases hr2
        have hrH : H r = none := s2.free hr2
        have s3 : Same H (upd (upd H1 q (.lst [])) r (.lst (ck.dropLast.map V.int))) := same_upd hrH s2
        have hr3 : upd (upd H1 q (.lst [])) r (.lst (ck.dropLast.map V.int)) r = some (.lst (ck.dropLast.map V.int)) := upd_same
        have hq3 : upd (upd H1 q (.lst [])) r (.lst (ck.dropLast.map V.int)) q = some (.lst []) := by rw [upd_ne hqr, upd_same]
        have hdl : ck.dropLast.length = ck.length - 1 := List.length_dropLast
        refine ⟨r, rfl, ⟨_, SqL.of hr3⟩, for_it (walk_list (xs := ck.dropLast.map V.int)) (fun i σ4 H4 => (∃ v4, σ4 = [some (.ref l'), some (.int (j : Int)), some (.ref q), some (.int (ck.dropLast.take i).sum), v4]) ∧ Same H H4 ∧ H4 r = some (.lst (ck.dropLast.map V.int)) ∧ H4 q = some (.lst (((psum 0 ck.dropLast).take i).map V.int)))
          ⟨⟨_, rfl⟩, s3, hr3, hq3⟩ (fun i σ4 H4 _ p => SqL.of p.2.2.1) (fun i x σ4 H4 H5 hi p y => ?_) fun σ4 H4 p => ?_⟩
        · obtain ⟨rfl, hx⟩ := y
          obtain ⟨⟨w4, rfl⟩, s4, r4, q4⟩ := p
          rw [List.length_map] at hi
          rw [List.getElem?_map, List.getElem?_eq_getElem hi] at hx
          cases hx
          have e1 : (ck.dropLast.take i).sum + ck.dropLast[i] = (ck.dropLast.take (i + 1)).sum := by
            rw [List.take_add_one, List.getElem?_eq_getElem hi, List.sum_append]
            simp
          refine ⟨_, rfl, _, rfl, _, _, rfl, rfl, _, rfl, .inl ⟨rfl, _, SqL.of q4⟩, _, rfl, q, _, _, rfl, rfl, q4, ?_, ?_⟩
          · rw [List.length_map, List.length_take, psum_len, sizeLine_eq]
            omega
          · refine ⟨⟨some (.int ck.dropLast[i]), ?_⟩, same_upd hqH s4, by rw [upd_ne (Ne.symm hqr)]; exact r4, ?_⟩
            · rw [← e1]
              rfl
            · rw [upd_same, psum_take _ 0 i hi, List.map_append, ← e1, Int.zero_add]
              rfl
        · obtain ⟨⟨w4, rfl⟩, s4, r4, q4⟩ := p
          rw [List.length_map, show (psum 0 ck.dropLast).take ck.dropLast.length = quo ck by rw [← psum_len 0 ck.dropLast, List.take_length]; rfl] at q4
          have hql := quo_len ck
          have hpos : 0 < ck.length := List.length_pos_iff.mpr hne
          refine ⟨_, rfl, _, rfl, _, _, rfl, rfl, ck.length - 1, by omega, q, quo ck, j + 1, -e, _, _, _, rfl, s4, SqL.of q4, by omega, hql.symm, quo_nz hsum hnz, by omega, fun d => ?_, fun d hd => ?_⟩
          · rw [mo_quo hne hsum, hmo, Int.neg_mul, show d + 1 + j = d + (j + 1) by omega]
          · by_cases hdj : d < j
            · exact hlt d hdj
            · have : d = j := by omega
              rw [this]
              exact hmj
      · rw [decide_eq_false (fun z => hsum (V.int.inj z))]
        refine ⟨_, rfl, k H1 j s1 ⟨hlt, fun z => hsum ?_⟩⟩
        rw [h0, z, Int.mul_zero]
    · have : c.any (· != 0) = false := by
        cases hh : c.any (· != 0) with
        | false => rfl
        | true => exact absurd ((nz_any c).mp hh) hz
      rw [this]
      exact iteT (k0 hz H (Same.refl _))
end
end TB

set_option maxRecDepth 100000
set_option maxHeartbeats 4000000
namespace TB
open PySem PySem.Spec PyProof.Rows L2
/-! written tuples -/
def KT (K : PySem.W.Frag) (a : Addr) (xs : List V) : Prop := ∃ (o : Obj) (its : Array Value) (n : Nat), K.lookup a = some o ∧ o.cls = .type "tuple" ∧ o.data = .seq its n ∧ its.size ≤ sizeLine ∧ Vals xs its.toList
theorem KT.sq {K : PySem.W.Frag} {H : Hp} {a : Addr} {xs : List V} (h : KT K a xs) : SqT K H a xs := .inr h
def RowsAt (K : PySem.W.Frag) (r : Addr) (rows : List (List Int)) : Prop := ∃ ps : List Addr, KT K r (ps.map V.ref) ∧ ps.length = rows.length ∧ ∀ (i : Nat) (p : Addr) (row : List Int), ps[i]? = some p → rows[i]? = some row → KT K p (row.map V.int)
def ClsAt (K : PySem.W.Frag) (r : Addr) (cs : List (List (List Int))) : Prop := ∃ ps : List Addr, KT K r (ps.map V.ref) ∧ ps.length = cs.length ∧ ∀ (i : Nat) (p : Addr) (rows : List (List Int)), ps[i]? = some p → cs[i]? = some rows → RowsAt K p rows
/-- the written dict -/
def IntKeys (es : List DictEntry) : Prop := ∀ e ∈ es, ∃ (i : Int) (t : Tok), e.key = .int i t ∧ e.hash = hashInt i
structure KClasses (K : PySem.W.Frag) (mg : Str → Option Value) : Prop where
  ex : ∃ (d : Addr) (es : Array DictEntry) (m : Nat), mg "CLASSES" = some (.ref d) ∧ K.lookup d = some ⟨.type "dict", none, .dict es m, #[]⟩ ∧ IntKeys es.toList ∧ ∀ n : Nat, 2 ≤ n → n ≤ 6 → ∃ r : Addr, findBy Value.isInt es (n : Int) = some (.ref r) ∧ ClsAt K r (cls n)
def rCls (K : PySem.W.Frag) (d : Addr) : R2 := fun x y H Q => ∃ n : Nat, x = .ref d ∧ y = .int (n : Int) ∧ 2 ≤ n ∧ n ≤ 6 ∧ ∀ r : Addr, ClsAt K r (cls n) → Q (.ref r) H
theorem ix_cls {X : Cx} {d : Addr} {es : Array DictEntry} {m : Nat} (hl : X.K.lookup d = some ⟨.type "dict", none, .dict es m, #[]⟩) (hk : IntKeys es.toList) (hv : ∀ n : Nat, 2 ≤ n → n ≤ 6 → ∃ r : Addr, findBy Value.isInt es (n : Int) = some (.ref r) ∧ ClsAt X.K r (cls n)) : IxR X (rCls X.K d) := by
  intro value slice pins s σ H x y v u Q I rx ry h hs
  obtain ⟨n, rfl, rfl, h2, h6, q⟩ := h
  obtain ⟨r, hr, hc⟩ := hv n h2 h6
  cases rx
  obtain ⟨t, rfl⟩ := ry
  have hm : s.heap.MapOf (intKind X.prog X.w) d (fun k => findBy Value.isInt es k) := ⟨_, es, m, I.kIn _ _ hl, ⟨rfl, rfl, rfl⟩, rfl, fun e he => by
    obtain ⟨i, t, e1, e2⟩ := hk e (Array.mem_toList_iff.mpr he)
    exact ⟨i, by rw [e1]; show (i == i) = true; simp, e2⟩, fun _ => rfl⟩
  exact tail_any hm.typeIs PySem.F.slot_dict_getitem.lookup (wpAny_getItem_of (key := .int (n : Int) t) (k := (n : Int)) (by show ((n : Int) == (n : Int)) = true; simp) hm hr ⟨.ref r, H, I.tok _, rfl, q r hc⟩) hs
/-! the mirror -/
open Classical in
noncomputable def mulO (c : List Int) : Option Nat := if h : ∃ k, Mul c k then some h.choose else none
theorem mulO_some {c : List Int} {k : Nat} (h : Mul c k) : mulO c = some k := by
  have hx : ∃ k, Mul c k := ⟨k, h⟩
  unfold mulO
  rw [dif_pos hx]
  exact congrArg some (Mul.uniq hx.choose_spec h)
theorem mulO_none {c : List Int} (h : ¬ nz c) : mulO c = none := by
  unfold mulO
  rw [dif_neg]
  rintro ⟨k, _, hk⟩
  exact hk (mo_of_not_nz h _)
theorem mul_nz {c : List Int} {k : Nat} (h : Mul c k) : nz c := Classical.byContradiction fun z => h.2 (mo_of_not_nz z _)
open Classical in
noncomputable def coO (t : List Nat) (rows : List (List Int)) : Option Nat := if h : ∃ k, CO t rows k then some h.choose else none
theorem coO_some {t : List Nat} {rows : List (List Int)} {k : Nat} (h : CO t rows k) : coO t rows = some k := by
  have hx : ∃ k, CO t rows k := ⟨k, h⟩
  unfold coO
  rw [dif_pos hx]
  exact congrArg some (CO.uniq hx.choose_spec h)
theorem coO_spec {t : List Nat} {rows : List (List Int)} {k : Nat} (h : coO t rows = some k) : CO t rows k := by
  unfold coO at h
  by_cases hx : ∃ k, CO t rows k
  · rw [dif_pos hx] at h
    rw [← Option.some.inj h]
    exact hx.choose_spec
  · rw [dif_neg hx] at h
    cases h
def valO : Option Nat → V
  | some k => .int (k : Int)
  | none => .non
/-- what multiplicity tells of c -/
theorem mul_cases (c : List Int) : (¬ nz c ∧ mulO c = none) ∨ ∃ k, Mul c k ∧ mulO c = some k := by
  by_cases h : nz c
  · have : ∃ d, mo c d ≠ 0 := Classical.byContradiction fun z => zero_of_mo c.length c rfl (fun d _ => Classical.byContradiction fun q => z ⟨d, q⟩) h
    obtain ⟨d, hd⟩ := this
    obtain ⟨k, hk, hm⟩ := least (p := fun d => mo c d ≠ 0) d hd
    have hM : Mul c k := ⟨fun e he => Classical.byContradiction fun q => hm e he q, hk⟩
    exact .inr ⟨k, hM, mulO_some hM⟩
  · exact .inl ⟨h, mulO_none h⟩
theorem co_min {t : List Nat} {rows : List (List Int)} {m : Nat} (h1 : m ∈ rows.filterMap fun row => mulO (rv t row)) (h2 : ∀ y ∈ rows.filterMap fun row => mulO (rv t row), m ≤ y) : CO t rows m := by
  refine ⟨fun row hr d hd => ?_, ?_⟩
  · rcases mul_cases (rv t row) with ⟨hn, _⟩ | ⟨k, hk, e⟩
    · exact mo_of_not_nz hn _
    · have := h2 k (List.mem_filterMap.mpr ⟨row, hr, e⟩)
      exact hk.1 d (by omega)
  · obtain ⟨row, hr, e⟩ := List.mem_filterMap.mp h1
    refine ⟨row, hr, ?_⟩
    rcases mul_cases (rv t row) with ⟨_, z⟩ | ⟨k, hk, z⟩
    · rw [z] at e; cases e
    · rw [z] at e
      cases e
      exact hk.2
theorem co_none {t : List Nat} {rows : List (List Int)} (h : (rows.filterMap fun row => mulO (rv t row)) = []) : coO t rows = none := by
  unfold coO
  rw [dif_neg]
  rintro ⟨k, _, row, hr, hk⟩
  rcases mul_cases (rv t row) with ⟨hn, _⟩ | ⟨j, hj, e⟩
  · exact hk (mo_of_not_nz hn _)
  · have : j ∈ rows.filterMap fun row => mulO (rv t row) := List.mem_filterMap.mpr ⟨row, hr, e⟩
    rw [h] at this
    cases this
theorem accF_bind {α : Type} (f : α → Option V) : ∀ xs : List α, accF (fun j => xs[j]?.bind f) xs.length = xs.filterMap f
  | [] => rfl
  | x :: xs => by
    have h := accF_bind f xs
    unfold accF at h ⊢
    rw [List.length_cons, List.range_succ_eq_map, List.filterMap_cons, List.filterMap_map, List.filterMap_cons]
    have e : ((fun j => (x :: xs)[j]?.bind f) ∘ Nat.succ) = fun j => xs[j]?.bind f := by
      funext j
      simp
    rw [e, h]
    rfl
end TB

set_option maxRecDepth 100000
set_option maxHeartbeats 4000000
namespace TB
open PySem PySem.Spec PyProof.Rows L2
section
variable {P : Program} {w : World} {K : PySem.W.Frag} {mg : Str → Option Value} {base : Heap} {C : Addr}
theorem scCO : FnScope ["turns", "rows", "numbers", "item", "found", "row", "number", "one"] ["turns", "rows"] (C8.fnScope sCO) := ⟨rfl, rfl, rfl, by decide +kernel, rfl, by decide +kernel, by decide +kernel⟩
def spCO (K : PySem.W.Frag) (C : Addr) : Sp := fun vs H Q _ => ∃ (a r : Addr) (t : List Nat) (n : Nat) (rows : List (List Int)), vs = [.ref a, .ref r] ∧ TnAt C H a t n ∧ TOk t n ∧ t.length ≤ 1000 ∧ RowsAt K r rows ∧ rows.length ≤ 100 ∧ (∀ row ∈ rows, row.length = n) ∧ ∀ H', Same H H' → Q (valO (coO t rows)) H'
abbrev lcCO : Expr := asgE (at0 (C8.fnBody sCO) 1)
abbrev NCO : List Str := ["turns", "rows", "numbers", "item", "found", "row", "number", "one"]
theorem ok_co {f : Addr} {fd : FuncData} (T : Txt K mg C) (pT : Prp P w K mg base 1 C "text" "own_text") (cM : C8.Cal P w K mg base 1 "multiplicity" (spMul K) []) (F : C8.Def K mg "class_order" sCO f fd) (b : Binds K fd ["turns", "rows"] []) : C8.Cal P w K mg base 3 "class_order" (spCO K C) [] := by
  refine C8.cal0 F b .nil scCO (fun vs H Q E h => ?_) (fun cdv A outer s H vs Q E hr h => ?_)
  · obtain ⟨a, r, t, n, rows, rfl, _⟩ := h
    rfl
  · obtain ⟨a, r, t, n, rows, rfl, ha, ok, ht, hrows, hlen, hrl, k⟩ := h
    have hhi := ok.hi
    refine ⟨_, pss_cons (ps_set (i := 2) scCO.nd rfl (.inr rfl) (pe_lc (own := [("item", 3)]) (g := gName 3) (tt := tYes) (te := tIdx K (tVar 3)) rfl scCO.nd (pi_str (pe_pr pT hr (by decide) (pv 0) rfl)) (blkOk_by (N := NCO) (sc := C8.fnScope sCO) (by decide +kernel))
          (fun _ _ _ _ _ => pg_name (i := 3) scCO.nd rfl (Or.inl rfl)) (fun _ _ _ _ _ => pts_nil) (fun _ _ _ _ _ => pe_bm PySem.F.plainAttrs_str PySem.F.slot_str_index PySem.F.type_str_index mt_idx (C8.pe_gc rfl T.gLet) (pa_cons (pv 3) pa_nil))))
      (pss_cons (ps_setLc (i := 4) (own := [("row", 5)]) (g := gName 5) (tt := tYes) (te := tCall (spMul K) [] C8.E0 (tCons (tLc (iList K (tVar 2)) (gName 6) tYes (tOp (rIxT K) (tVar 5) (tVar 6)) [6]) tNil)) rfl scCO.nd rfl rfl (sw_true rfl rfl rfl (by decide +kernel)) (pi_tup (pv 1)) (blkOk_by (N := NCO) (sc := C8.fnScope sCO) (by decide +kernel))
          (fun _ _ _ _ _ => pg_name (i := 5) scCO.nd rfl (Or.inr rfl)) (fun _ _ _ _ _ => pts_nil)
          (fun _ _ _ _ _ => C8.pe_c cM hr (by decide) rfl (pa_cons (pe_lc (own := [("number", 6)]) (g := gName 6) (tt := tYes) (te := tOp (rIxT K) (tVar 5) (tVar 6)) rfl scCO.nd (pi_list (pv 2)) (blkOk_by (N := NCO) (sc := relabel (compSc lcCO) (envOfC "class_order" (C8.fnScope sCO) 0 0 .none)) (by decide +kernel))
            (fun _ _ _ _ _ => pg_name (i := 6) scCO.nd rfl (Or.inl rfl)) (fun _ _ _ _ _ => pts_nil) (fun _ _ _ _ _ => pe_ix ix_tup (pv 5) (pv 6) (fun _ _ => rfl))) pa_nil)))
      (pss_one (ps_ret (pe_callBK (cr_minD rfl) (by rfl) T.min (by decide +kernel) (pa_cons (pe_lc (own := [("one", 7)]) (g := gName 7) (te := tVar 7) rfl scCO.nd (pi_list (pv 4)) (blkOk_by (N := NCO) (sc := C8.fnScope sCO) (by decide +kernel))
          (fun _ _ _ _ _ => pg_name (i := 7) scCO.nd rfl (Or.inl rfl)) (fun _ _ _ _ _ => pts_one (pt_cmpR op_notN (pv 7) pe_non (nomark _))) (fun _ _ _ _ _ => pv 7)) pa_nil) (pk_cons pe_non pk_nil))))), ?_⟩
    refine ⟨_, rfl, propT ha ⟨tx t, rfl, fun D hD => lc_it walk_str (PvF H D fun i => t[i]?.map fun x : Nat => V.int (x : Int)) (pvF0 hD) (fun _ _ _ _ => trivial) (fun i x H1 H2 hi p y => ?_) fun H1 p => ?_⟩⟩
    · obtain ⟨rfl, c, hc, rfl⟩ := y
      obtain ⟨z, hz, rfl⟩ := tx_at hc
      have hzn := ok.mem z (List.mem_of_getElem? hz)
      rw [tx_size] at hi
      refine ⟨rfl, rfl, _, rfl, z, rfl, rfl, by omega, ?_⟩
      exact pvF_add hD hi (by omega) (by rw [hz]; rfl) p
    · obtain ⟨s1, e1⟩ := p
      rw [tx_size, accF_get] at e1
      obtain ⟨ps, kt, hpl, hrow⟩ := hrows
      refine ⟨_, rfl, r, rfl, ⟨_, kt.sq⟩, fun D2 hD2 => lc_it (walk_tup (xs := ps.map V.ref)) (PvF H1 D2 fun i => rows[i]?.map fun row => valO (mulO (rv t row))) (pvF0 hD2) (fun _ _ _ _ => kt.sq) (fun i x H2 H3 hi p y => ?_) fun H2 p => ?_⟩
      · obtain ⟨rfl, hx⟩ := y
        rw [List.length_map] at hi
        rw [ref_get hi] at hx
        cases hx
        have hi2 : i < rows.length := by omega
        have hri := List.getElem?_eq_getElem hi2
        have kr := hrow i _ _ (List.getElem?_eq_getElem hi) hri
        have hrn := hrl _ (List.getElem_mem hi2)
        have e2 := p.1 _ _ e1
        refine ⟨rfl, _, rfl, D, rfl, ⟨_, SqL.of e2⟩, fun D3 hD3 => lc_it (walk_list (xs := t.map fun x : Nat => V.int (x : Int))) (PvF H3 D3 fun j => t[j]?.map fun x => V.int (rows[i].getD x 0)) (pvF0 hD3) (fun j H4 _ q => q.1.seq (SqL.of e2)) (fun j x H4 H5 hj q y => ?_) fun H4 q => ?_⟩
        · obtain ⟨rfl, hx⟩ := y
          rw [List.length_map] at hj
          rw [List.getElem?_map, List.getElem?_eq_getElem hj] at hx
          cases hx
          have hxn := ok.mem _ (List.getElem_mem hj)
          have hxl : t[j] < rows[i].length := by rw [hrn]; exact hxn
          refine ⟨rfl, _, rfl, _, rfl, ps[i], _, _, V.int (rows[i].getD t[j] 0), rfl, rfl, kr.sq, atI_nat (by rw [List.getElem?_map, List.getElem?_eq_getElem hxl, List.getD_eq_getElem?_getD, List.getElem?_eq_getElem hxl]; rfl), ?_⟩
          exact pvF_add hD3 hj (by omega) (by rw [List.getElem?_eq_getElem hj]; rfl) q
        · have e5 : accF (fun j => t[j]?.map fun x => V.int (rows[i].getD x 0)) (t.map fun x : Nat => V.int (x : Int)).length = (rv t rows[i]).map V.int := by
            rw [List.length_map, accF_get]
            unfold rv
            rw [List.map_map]
            rfl
          have q2 := q.2
          rw [e5] at q2
          have hF : (rows[i]?.map fun row => valO (mulO (rv t row))) = some (valO (mulO (rv t rows[i]))) := by rw [hri]; rfl
          refine ⟨D3, rv t rows[i], rfl, SqL.of q2, by unfold rv; rw [List.length_map]; exact ht, fun hz H5 s5 => ?_, fun H5 k5 s5 hM => ?_⟩
          · rw [mulO_none hz] at hF
            exact pvF_add hD2 hi2 (by omega) hF (pvF_same p (q.1.trans s5))
          · rw [mulO_some hM] at hF
            exact pvF_add hD2 hi2 (by omega) hF (pvF_same p (q.1.trans s5))
      · obtain ⟨s2, e2⟩ := p
        rw [List.length_map, hpl, accF_get] at e2
        have hF : ∀ i (hi : i < rows.length), (rows[i]?.bind fun row => (mulO (rv t row)).map fun m : Nat => V.int (m : Int)) = (mulO (rv t rows[i])).map fun m : Nat => V.int (m : Int) := fun i hi => by rw [List.getElem?_eq_getElem hi]; rfl
        refine ⟨_, rfl, D2, rfl, ⟨_, SqL.of e2⟩, fun D4 hD4 => lc_it (walk_list (xs := rows.map fun row => valO (mulO (rv t row)))) (PvF H2 D4 fun i => rows[i]?.bind fun row => (mulO (rv t row)).map fun m : Nat => V.int (m : Int)) (pvF0 hD4) (fun i H3 _ q => q.1.seq (SqL.of e2)) (fun i x H3 H4 hi q y => ?_) fun H3 q => ?_⟩
        · obtain ⟨rfl, hx⟩ := y
          rw [List.length_map] at hi
          rw [List.getElem?_map, List.getElem?_eq_getElem hi] at hx
          cases hx
          have hFi := hF i hi
          cases hm : mulO (rv t rows[i]) with
          | none =>
            rw [hm] at hFi
            refine ⟨rfl, _, rfl, rfl, !decide (valO (mulO (rv t rows[i])) = V.non), rfl, ?_⟩
            rw [hm, decide_eq_true (show valO none = V.non from rfl)]
            exact iteF (pvF_skip hFi q)
          | some m =>
            rw [hm] at hFi
            refine ⟨rfl, _, rfl, rfl, !decide (valO (mulO (rv t rows[i])) = V.non), rfl, ?_⟩
            rw [hm, decide_eq_false (show ¬ valO (some m) = V.non from fun z => by cases z)]
            refine iteT ⟨valO (some m), ?_, ?_⟩
            · show some (some (valO (mulO (rv t rows[i])))) = _
              rw [hm]
            · exact pvF_add hD4 hi (by omega) hFi q
        · obtain ⟨s3, e3⟩ := q
          rw [List.length_map, accF_bind] at e3
          have e6 : (rows.filterMap fun row => (mulO (rv t row)).map fun m : Nat => V.int (m : Int)) = ((rows.filterMap fun row => mulO (rv t row)).map fun m : Nat => (m : Int)).map V.int := by
            rw [List.map_map, List.map_filterMap]
            rfl
          rw [e6] at e3
          have sH := (s1.trans s2).trans s3
          refine ⟨D4, _, rfl, rfl, SqL.of e3, fun hn => ?_, fun m hm hy => ?_⟩
          · have := k H3 sH
            rw [co_none (List.map_eq_nil_iff.mp hn)] at this
            exact this
          · obtain ⟨m', hm', rfl⟩ := List.mem_map.mp hm
            have := k H3 sH
            rw [coO_some (co_min hm' fun y hyy => by
              have := hy _ (List.mem_map.mpr ⟨y, hyy, rfl⟩)
              omega)] at this
            exact this
end
end TB

set_option maxRecDepth 100000
set_option maxHeartbeats 4000000
namespace TB
open PySem PySem.Spec PyProof.Rows L2
/-! the sum over a class -/
noncomputable def poS (fs : List (List Nat)) (rows : List (List Int)) : Option Nat := if (fs.map fun f => (coO f rows).isSome).all id = true then some ((fs.filterMap fun f => coO f rows).sum) else none
theorem sums_tail {rows : List (List Int)} {f : List Nat} {fs : List (List Nat)} {k : Nat} {ks : List Nat} (h : Sums rows (f :: fs) (k :: ks)) : CO f rows k ∧ Sums rows fs ks :=
  ⟨h.2 0 f k rfl rfl, by have := h.1; simpa using this, fun i g j h1 h2 => h.2 (i + 1) g j h1 h2⟩
theorem sums_cons {rows : List (List Int)} {f : List Nat} {fs : List (List Nat)} {k : Nat} {ks : List Nat} (h1 : CO f rows k) (h2 : Sums rows fs ks) : Sums rows (f :: fs) (k :: ks) :=
  ⟨by rw [List.length_cons, List.length_cons, h2.1], fun i g j e1 e2 => by
    cases i with
    | zero => cases e1; cases e2; exact h1
    | succ i => exact h2.2 i g j e1 e2⟩
theorem poS_of {rows : List (List Int)} : ∀ {fs : List (List Nat)} {ks : List Nat}, Sums rows fs ks → (fs.map fun f => (coO f rows).isSome).all id = true ∧ (fs.filterMap fun f => coO f rows) = ks
  | [], [], _ => ⟨rfl, rfl⟩
  | [], k :: ks, h => by have := h.1; cases this
  | f :: fs, [], h => by have := h.1; cases this
  | f :: fs, k :: ks, h => by
    obtain ⟨h1, h2⟩ := sums_tail h
    obtain ⟨a, b⟩ := poS_of h2
    have e := coO_some h1
    refine ⟨?_, ?_⟩
    · rw [List.map_cons, List.all_cons, a, e]
      rfl
    · rw [List.filterMap_cons, e, b]
theorem sums_of {rows : List (List Int)} : ∀ {fs : List (List Nat)}, (fs.map fun f => (coO f rows).isSome).all id = true → Sums rows fs (fs.filterMap fun f => coO f rows)
  | [], _ => ⟨rfl, fun i f k h => by cases h⟩
  | f :: fs, h => by
    rw [List.map_cons, List.all_cons, Bool.and_eq_true] at h
    obtain ⟨h1, h2⟩ := h
    cases e : coO f rows with
    | none => rw [e] at h1; cases h1
    | some k =>
      rw [List.filterMap_cons, e]
      exact sums_cons (coO_spec e) (sums_of h2)
theorem po_of {n : Nat} {fs : List (List Nat)} {m : Nat} (h1 : m ∈ (cls n).filterMap (poS fs)) (h2 : ∀ y ∈ (cls n).filterMap (poS fs), m ≤ y) : PO n fs m := by
  refine ⟨?_, fun rows hr ks hk => h2 _ (List.mem_filterMap.mpr ⟨rows, hr, ?_⟩)⟩
  · obtain ⟨rows, hr, e⟩ := List.mem_filterMap.mp h1
    unfold poS at e
    by_cases z : (fs.map fun f => (coO f rows).isSome).all id = true
    · rw [if_pos z] at e
      exact ⟨rows, hr, _, sums_of z, (Option.some.inj e).symm⟩
    · rw [if_neg z] at e
      cases e
  · obtain ⟨a, b⟩ := poS_of hk
    unfold poS
    rw [if_pos a, b]
theorem po_mem {n : Nat} {fs : List (List Nat)} {m : Nat} (h : PO n fs m) : (cls n).filterMap (poS fs) ≠ [] := by
  obtain ⟨rows, hr, ks, hk, e⟩ := h.1
  intro z
  obtain ⟨a, b⟩ := poS_of hk
  have : ks.sum ∈ (cls n).filterMap (poS fs) := List.mem_filterMap.mpr ⟨rows, hr, by unfold poS; rw [if_pos a, b]⟩
  rw [z] at this
  cases this
theorem cls_len : ∀ n, 2 ≤ n → n ≤ 6 → (cls n).length ≤ 10 ∧ ∀ rows ∈ cls n, rows.length ≤ 100 ∧ ∀ row ∈ rows, row.length = n := by
  intro n h2 h6
  have : n = 2 ∨ n = 3 ∨ n = 4 ∨ n = 5 ∨ n = 6 := by omega
  rcases this with rfl | rfl | rfl | rfl | rfl <;> decide
theorem valO_some {fs : List (List Nat)} {rows : List (List Int)} : (fs.map fun f => (coO f rows).isSome).all id = true → (fs.map fun f => valO (coO f rows)) = ((fs.filterMap fun f => coO f rows).map fun m : Nat => (m : Int)).map V.int := by
  induction fs with
  | nil => intro _; rfl
  | cons f fs ih =>
    intro h
    rw [List.map_cons, List.all_cons, Bool.and_eq_true] at h
    cases e : coO f rows with
    | none => rw [e] at h; cases h.1
    | some k =>
      rw [List.map_cons, List.filterMap_cons, e, ih h.2]
      rfl
theorem sum_cast (l : List Nat) : (l.map fun m : Nat => (m : Int)).sum = (l.sum : Int) := by
  induction l with
  | nil => rfl
  | cons x l ih => rw [List.map_cons, List.sum_cons, List.sum_cons, ih, Int.natCast_add]
theorem take_fm {α β : Type} {xs : List α} {f : α → Option β} {i : Nat} {x : α} (h : xs[i]? = some x) : (xs.take (i + 1)).filterMap f = (xs.take i).filterMap f ++ (f x).toList := by
  rw [List.take_add_one, h, List.filterMap_append]
  cases e : f x <;> simp [e]
section
variable {P : Program} {w : World} {K : PySem.W.Frag} {mg : Str → Option Value} {base : Heap} {C : Addr}
abbrev NPO : List Str := ["factors", "found", "rows", "parts", "factor", "part"]
theorem scPO : FnScope NPO ["factors"] (C8.fnScope sPO) := ⟨rfl, rfl, rfl, by decide +kernel, rfl, by decide +kernel, by decide +kernel⟩
def spPO (C : Addr) : Sp := fun vs H Q _ => ∃ (l : Addr) (fs : List (List Nat)) (n : Nat), vs = [.ref l] ∧ FL C H l fs n ∧ fs.length ≤ 100 ∧ (∀ f ∈ fs, f.length ≤ 1000) ∧ (∃ m, PO n fs m) ∧ ∀ H' (m : Nat), Same H H' → PO n fs m → Q (.int (m : Int)) H'
theorem ok_po {f : Addr} {fd : FuncData} (T : Txt K mg C) (TC : KClasses K mg) (pP : Prp P w K mg base 1 C "players" "own_players") (cL : C8.Cal P w K mg base 4 "check_list" (spCL C) []) (cC : C8.Cal P w K mg base 3 "class_order" (spCO K C) []) (F : C8.Def K mg "product_order" sPO f fd) (b : Binds K fd ["factors"] []) : C8.Cal P w K mg base 5 "product_order" (spPO C) [] := by
  obtain ⟨d, es, em, hmg, hlk, hik, hcl⟩ := TC.ex
  refine C8.cal0 F b .nil scPO (fun vs H Q E h => ?_) (fun cdv A outer s H vs Q E hr h => ?_)
  · obtain ⟨l, fs, n, rfl, _⟩ := h
    rfl
  · obtain ⟨l, fs, n, rfl, hl, h100, hf1000, ⟨m0, hm0⟩, k⟩ := h
    obtain ⟨as_, e, hf⟩ := hl.ex
    have hlen := hf.len
    have h1 := hl.lo
    have okn : 2 ≤ n ∧ n ≤ 6 := by
      have := hf.ok fs[0] (List.getElem_mem (by omega))
      exact ⟨this.lo, this.hi⟩
    obtain ⟨hcl1, hcl2⟩ := cls_len n okn.1 okn.2
    refine ⟨_, pss_cons (ps_expr (C8.pe_c cL hr (by decide) rfl (pa_cons (pv 0) pa_nil))) (pss_cons (ps_set (i := 1) scPO.nd rfl (.inl rfl) (pe_lst pa_nil))
      (pss_cons (ps_for PassesOwn.never rfl (pi_tup (pe_ix (ix_cls (d := d) hlk hik hcl) (C8.pe_gc (v := .ref d) rfl ⟨_, hmg, rfl⟩) (pe_pr pP hr (by decide) (pe_ix ix_list (pv 0) pe_int (fun _ _ => rfl)) rfl) (fun _ _ => rfl))) (pg_name (i := 2) scPO.nd rfl (Or.inr rfl))
        (pss_cons (ps_setLc (i := 3) (own := [("factor", 4)]) (g := gName 4) (tt := tYes) (te := tCall (spCO K C) [] C8.E0 (tCons (tVar 4) (tCons (tVar 2) tNil))) rfl scPO.nd rfl rfl (sw_true rfl rfl rfl (by decide +kernel)) (pi_list (pv 0)) (blkOk_by (N := NPO) (sc := C8.fnScope sPO) (by decide +kernel))
            (fun _ _ _ _ _ => pg_name (i := 4) scPO.nd rfl (Or.inl rfl)) (fun _ _ _ _ _ => pts_nil) (fun _ _ _ _ _ => C8.pe_c cC hr (by decide) rfl (pa_cons (pv 4) (pa_cons (pv 2) pa_nil))))
          (pss_one (ps_if (pt_val (pe_callB (cr_all rfl) (by rfl) T.all (by decide +kernel) (pa_cons (pe_lc (own := [("part", 5)]) (g := gName 5) (tt := tYes) rfl scPO.nd (pi_list (pv 3)) (blkOk_by (N := NPO) (sc := C8.fnScope sPO) (by decide +kernel)) (fun _ _ _ _ _ => pg_name (i := 5) scPO.nd rfl (Or.inl rfl)) (fun _ _ _ _ _ => pts_nil) (fun _ _ _ _ _ => pe_cmpR op_notN (pv 5) pe_non (nomark _))) pa_nil)))
            (pss_one (ps_expr (pe_bm PySem.F.plainAttrs_list PySem.F.slot_list_append PySem.F.type_list_append mt_append (pv 1) (pa_cons (pe_callB (cr_sum rfl) (by rfl) T.sum (by decide +kernel) (pa_cons (pv 3) pa_nil)) pa_nil)))) pss_nil))))
      (pss_one (ps_ret (pe_callB (cr_min rfl) (by rfl) T.min (by decide +kernel) (pa_cons (pv 1) pa_nil)))))), ?_⟩
    refine ⟨_, rfl, l, fs, n, rfl, hl, h100, fun H1 s1 => ⟨Nat.zero_le _, fun q hq => ?_⟩⟩
    have hqH := s1.free hq
    have s2 : Same H (upd H1 q (.lst [])) := same_upd hqH s1
    have h0 : 0 < as_.length := by omega
    obtain ⟨f0, _, tf0, _⟩ := (hf.same s2).get h0
    refine ⟨_, rfl, l, _, _, _, rfl, rfl, SqL.of (s2 _ _ e), atI_nat (j := 0) (ref_get h0), propP tf0 ⟨n, rfl, rfl, okn.1, okn.2, fun r hr2 => ?_⟩⟩
    obtain ⟨ps, kt, hpl, hps⟩ := hr2
    refine ⟨r, rfl, ⟨_, kt.sq⟩, for_it (walk_tup (xs := ps.map V.ref)) (fun i σ3 H3 => (∃ v2 v3, σ3 = [some (.ref l), some (.ref q), v2, v3, none, none]) ∧ Same H H3 ∧ H3 q = some (.lst (((((cls n).take i).filterMap (poS fs)).map fun m : Nat => (m : Int)).map V.int)))
      ⟨⟨_, _, rfl⟩, s2, by rw [upd_same]; rfl⟩ (fun _ _ _ _ _ => kt.sq) (fun i x σ3 H3 H4 hi p y => ?_) fun σ3 H3 p => ?_⟩
    · obtain ⟨rfl, hx⟩ := y
      obtain ⟨⟨v2, v3, rfl⟩, s3, q3⟩ := p
      rw [List.length_map] at hi
      rw [ref_get hi] at hx
      cases hx
      have hi2 : i < (cls n).length := by omega
      have hci := List.getElem?_eq_getElem hi2
      have hrows := hps i _ _ (List.getElem?_eq_getElem hi) hci
      obtain ⟨hr1, hr3⟩ := hcl2 _ (List.getElem_mem hi2)
      refine ⟨_, rfl, l, rfl, ⟨_, SqL.of (s3 _ _ e)⟩, fun D hD => lc_it (walk_list (xs := as_.map V.ref)) (PvF H4 D fun j => fs[j]?.map fun f => valO (coO f (cls n)[i])) (pvF0 hD) (fun j H5 _ p => p.1.seq (SqL.of (s3 _ _ e))) (fun j x H5 H6 hj p y => ?_) fun H5 p => ?_⟩
      · obtain ⟨rfl, hx⟩ := y
        rw [List.length_map] at hj
        rw [ref_get hj] at hx
        cases hx
        obtain ⟨f, hfj, tf, okf⟩ := (hf.same (s3.trans p.1)).get hj
        refine ⟨rfl, _, rfl, _, rfl, as_[j], ps[i], f, n, (cls n)[i], rfl, tf, okf, hf1000 f (List.mem_of_getElem? hfj), hrows, hr1, hr3, fun H7 s7 => ?_⟩
        exact pvF_add hD hj (by omega) (by rw [hfj]; rfl) (pvF_same p s7)
      · obtain ⟨s5, e5⟩ := p
        rw [List.length_map, hlen, accF_get] at e5
        have sH5 := s3.trans s5
        refine ⟨_, rfl, D, rfl, ⟨_, SqL.of e5⟩, fun D2 hD2 => lc_it (walk_list (xs := fs.map fun f => valO (coO f (cls n)[i]))) (PvF H5 D2 fun j => fs[j]?.map fun f => V.bl (coO f (cls n)[i]).isSome) (pvF0 hD2) (fun j H6 _ p => p.1.seq (SqL.of e5)) (fun j x H6 H7 hj p y => ?_) fun H6 p => ?_⟩
        · obtain ⟨rfl, hx⟩ := y
          rw [List.length_map] at hj
          rw [List.getElem?_map, List.getElem?_eq_getElem hj] at hx
          cases hx
          have eb : V.bl (!decide (valO (coO fs[j] (cls n)[i]) = V.non)) = V.bl (coO fs[j] (cls n)[i]).isSome := by
            cases coO fs[j] (cls n)[i] with
            | none => rfl
            | some k => rw [decide_eq_false (show ¬ valO (some k) = V.non from fun z => by cases z)]; rfl
          refine ⟨rfl, _, rfl, rfl, ?_⟩
          rw [show (fun f => valO (coO f (cls n)[i])) fs[j] = valO (coO fs[j] (cls n)[i]) from rfl, eb]
          exact pvF_add hD2 hj (by omega) (by rw [List.getElem?_eq_getElem hj]; rfl) p
        · obtain ⟨s6, e6⟩ := p
          rw [List.length_map, accF_get] at e6
          have sH6 := sH5.trans s6
          have q6 := (s5.trans s6) _ _ q3
          refine ⟨D2, fs.map fun f => (coO f (cls n)[i]).isSome, rfl, SqL.of (by rw [e6, List.map_map]; rfl), _, rfl, ?_⟩
          have hstep := take_fm (f := poS fs) hci
          by_cases hall : (fs.map fun f => (coO f (cls n)[i]).isSome).all id = true
          · rw [hall]
            have ep : poS fs (cls n)[i] = some ((fs.filterMap fun f => coO f (cls n)[i]).sum) := by unfold poS; rw [if_pos hall]
            have e7 := s6 _ _ e5
            rw [valO_some hall] at e7
            refine iteT ⟨_, rfl, .inl ⟨rfl, _, SqL.of q6⟩, _, rfl, D, _, rfl, SqL.of e7, q, _, _, rfl, rfl, q6, ?_, ?_⟩
            · have h8 : (((cls n).take i).filterMap (poS fs)).length ≤ 10 := by
                have h9 := List.length_filterMap_le (poS fs) ((cls n).take i)
                rw [List.length_take] at h9
                omega
              rw [List.length_map, List.length_map, sizeLine_eq]
              omega
            · refine ⟨⟨_, _, rfl⟩, same_upd hqH sH6, ?_⟩
              rw [upd_same, hstep, ep, List.map_append, List.map_append, sum_cast]
              rfl
          · have hfalse : (fs.map fun f => (coO f (cls n)[i]).isSome).all id = false := by
              cases hh : (fs.map fun f => (coO f (cls n)[i]).isSome).all id with
              | false => rfl
              | true => exact absurd hh hall
            rw [hfalse]
            have ep : poS fs (cls n)[i] = none := by unfold poS; rw [if_neg hall]
            refine iteF ⟨⟨_, _, rfl⟩, sH6, ?_⟩
            rw [q6, hstep, ep]
            simp
    · obtain ⟨⟨v2, v3, rfl⟩, s3, q3⟩ := p
      rw [List.length_map, hpl, List.take_length] at q3
      have hne := po_mem hm0
      refine ⟨_, rfl, q, ((cls n).filterMap (poS fs)).map (fun m : Nat => (m : Int)), rfl, SqL.of q3, by rw [List.length_map]; exact List.length_pos_iff.mpr hne, fun m hm hy => ?_⟩
      obtain ⟨m', hm', rfl⟩ := List.mem_map.mp hm
      exact k H3 m' s3 (po_of hm' fun y hyy => by
        have := hy _ (List.mem_map.mpr ⟨y, hyy, rfl⟩)
        omega)
end
end TB

set_option maxRecDepth 100000
set_option maxHeartbeats 4000000
namespace TB
open PySem PySem.Spec PyProof.Rows L2
abbrev sHand : Stmt := top 43
abbrev sDraw : Stmt := top 44
abbrev sText2 : Stmt := top 45
abbrev sPow : Stmt := top 46
abbrev sSum : Stmt := top 47
abbrev sLOrd : Stmt := top 48
abbrev sAdded : Stmt := top 49
abbrev sPlace : Stmt := top 50
abbrev sClasses : Stmt := top 51
abbrev sRight : Stmt := top 52
abbrev sMixed : Stmt := top 53
abbrev sLaw : Stmt := top 54
/-! the pool -/
def Pool (H : Hp) (p : Addr) : Prop := ∃ x y : Int, H p = some (.lst [.int x, .int y]) ∧ 0 ≤ y ∧ y < 2147483648
def SB (p : Addr) (H H' : Hp) : Prop := ∀ b o, b ≠ p → H b = some o → H' b = some o
theorem SB.refl {p : Addr} {H : Hp} : SB p H H := fun _ _ _ e => e
theorem SB.trans {p : Addr} {H H1 H2 : Hp} (a : SB p H H1) (b : SB p H1 H2) : SB p H H2 := fun c o n e => b c o n (a c o n e)
theorem SB.of {p : Addr} {H H' : Hp} (s : Same H H') : SB p H H' := fun b o _ e => s b o e
theorem SB.same {p : Addr} {H H' : Hp} (h : SB p H H') (hn : H p = none) : Same H H' := fun b o e => h b o (fun z => by rw [z, hn] at e; cases e) e
theorem SB.upd {p : Addr} {H H' : Hp} {o : HO} (h : SB p H H') : SB p H (upd H' p o) := fun b ob n e => by rw [upd_ne n]; exact h b ob n e
theorem SB.updD {p D : Addr} {H H' : Hp} {o : HO} (hD : H D = none) (h : SB p H H') : SB p H (L2.upd H' D o) := fun b ob n e => by
  rw [upd_ne (fun z => by rw [z, hD] at e; cases e)]
  exact h b ob n e
theorem Pool.same {H H' : Hp} {p : Addr} (h : Pool H p) (s : Same H H') : Pool H' p := let ⟨x, y, e, a, b⟩ := h; ⟨x, y, s _ _ e, a, b⟩
theorem Pool.upd {H : Hp} {p D : Addr} {o : HO} (h : Pool H p) (n : D ≠ p) : Pool (L2.upd H D o) p := let ⟨x, y, e, a, b⟩ := h; ⟨x, y, by rw [upd_ne (Ne.symm n)]; exact e, a, b⟩
theorem Pool.ne {H : Hp} {p : Addr} (h : Pool H p) : H p ≠ none := let ⟨x, y, e, _⟩ := h; by rw [e]; intro z; cases z
theorem SB.ins {p a : Addr} {H H' : Hp} {C dx : Addr} {fs : List (Str × V)} (h : SB p H H') (hp : Pool H p) (e : H a = some (.ins C dx fs)) : H' a = some (.ins C dx fs) := h a _ (fun z => by
  obtain ⟨x, y, q, _⟩ := hp
  rw [z, q] at e
  cases e) e
theorem TnAt.sb {C : Addr} {p : Addr} {H H' : Hp} {a : Addr} {t : List Nat} {n : Nat} (h : TnAt C H a t n) (s : SB p H H') (hp : Pool H p) : TnAt C H' a t n := let ⟨dx, e⟩ := h; ⟨dx, s.ins hp e⟩
section
variable {P : Program} {w : World} {K : PySem.W.Frag} {mg : Str → Option Value} {base : Heap} {C : Addr}
/-! _law_draw -/
theorem scDraw : FnScope ["_law_pool", "_law_size", "_law_found"] ["_law_pool", "_law_size"] (C8.fnScope sDraw) := ⟨rfl, rfl, rfl, by decide +kernel, rfl, by decide +kernel, by decide +kernel⟩
def spDraw : Sp := fun vs H Q _ => ∃ (p : Addr) (s : Nat), vs = [.ref p, .int (s : Int)] ∧ Pool H p ∧ 0 < s ∧ s ≤ 1000000000 ∧ ∀ H' (r : Nat), SB p H H' → Pool H' p → r < s → Q (.int (r : Int)) H'
theorem nat_of {i : Int} {s : Nat} (h1 : 0 ≤ i) (h2 : i < (s : Int)) : ∃ r : Nat, i = (r : Int) ∧ r < s := ⟨i.toNat, by omega, by omega⟩
theorem ok_draw {f : Addr} {fd : FuncData} (F : C8.Def K mg "_law_draw" sDraw f fd) (b : Binds K fd ["_law_pool", "_law_size"] []) : C8.Cal P w K mg base 1 "_law_draw" spDraw [] := by
  refine C8.cal0 F b .nil scDraw (fun vs H Q E h => ?_) (fun cdv A outer s H vs Q E hr h => ?_)
  · obtain ⟨p, s, rfl, _⟩ := h
    rfl
  · obtain ⟨p, z, rfl, ⟨x, y, e, hy0, hy1⟩, hz, hz1, k⟩ := h
    have hz0 : (0 : Int) < (z : Int) := by omega
    refine ⟨_, pss_cons (ps_if (pt_cmpR op_gt (pe_ix ix_list (pv 0) pe_int (fun _ _ => rfl)) pe_int (nomark _))
        (pss_cons (ps_set (i := 2) scDraw.nd rfl (.inl rfl) (pe_op op_mod (pe_ix ix_list (pv 0) pe_int (fun _ _ => rfl)) (pv 1)))
        (pss_cons (ps_asg (pe_op op_fdiv (pe_ix ix_list (pv 0) pe_int (fun _ _ => rfl)) (pv 1)) (pg_sub (pv 0) pe_int set_list)) (pss_one (ps_ret (pv 2))))) pss_nil)
      (pss_cons (ps_asg (pe_op op_mod (pe_op op_add (pe_op op_mul (pe_ix ix_list (pv 0) pe_int (fun _ _ => rfl)) pe_int) pe_int) pe_int) (pg_sub (pv 0) pe_int set_list))
      (pss_one (ps_ret (pe_op op_mod (pe_op op_fdiv (pe_op op_mod (pe_op op_mul (pe_ix ix_list (pv 0) pe_int (fun _ _ => rfl)) (pe_ix ix_list (pv 0) pe_int (fun _ _ => rfl))) pe_int) pe_int) (pv 1))))), ?_⟩
    have a0 : atI [V.int x, V.int y] 0 = some (V.int x) := atI_nat (j := 0) rfl
    have a1 : atI [V.int x, V.int y] 1 = some (V.int y) := atI_nat (j := 1) rfl
    refine ⟨_, rfl, p, _, _, _, rfl, rfl, SqL.of e, a0, _, _, rfl, rfl, decide (0 < x), rfl, ?_⟩
    by_cases hx : 0 < x
    · rw [decide_eq_true hx]
      refine iteT ⟨_, rfl, p, _, _, _, rfl, rfl, SqL.of e, a0, _, rfl, _, _, rfl, rfl, hz0, ?_⟩
      refine ⟨_, rfl, p, _, _, _, rfl, rfl, SqL.of e, a0, _, rfl, _, _, rfl, rfl, ⟨hz0, by omega⟩, ?_⟩
      refine ⟨_, rfl, p, _, _, 0, rfl, rfl, e, rfl, ?_⟩
      have hm0 := Int.emod_nonneg x (by omega : (z : Int) ≠ 0)
      have hm1 := Int.emod_lt_of_pos x hz0
      obtain ⟨r, hr1, hr2⟩ := nat_of hm0 hm1
      refine ⟨_, rfl, ?_⟩
      rw [show ((fun i j => V.int (i % j)) x (z : Int)) = V.int (r : Int) from congrArg V.int hr1]
      exact k _ r SB.refl.upd ⟨x / (z : Int), y, upd_same, hy0, hy1⟩ hr2
    · rw [decide_eq_false hx]
      refine iteF ?_
      refine ⟨_, rfl, p, _, _, _, rfl, rfl, SqL.of e, a1, _, _, rfl, rfl, .inr ⟨by omega, by omega⟩, _, _, rfl, rfl, _, _, rfl, rfl, by omega, ?_⟩
      refine ⟨_, rfl, p, _, _, 1, rfl, rfl, e, rfl, ?_⟩
      generalize hw : (y * 48271 + 11) % 2147483647 = w1
      have hw0 : 0 ≤ w1 := by rw [← hw]; exact Int.emod_nonneg _ (by decide)
      have hw1 : w1 < 2147483647 := by rw [← hw]; exact Int.emod_lt_of_pos _ (by decide)
      have hL : upd H p (.lst [V.int x, V.int w1]) p = some (.lst [V.int x, V.int w1]) := upd_same
      have a2 : atI [V.int x, V.int w1] 1 = some (V.int w1) := atI_nat (j := 1) rfl
      have e2 : (.lst ([V.int x, V.int y].set 1 ((fun i j => V.int (i % j)) (y * 48271 + 11) 2147483647)) : HO) = .lst [V.int x, V.int w1] := by rw [← hw]; rfl
      rw [e2]
      have hq0 : 0 ≤ w1 * w1 % 2147483629 / 64 := Int.ediv_nonneg (Int.emod_nonneg _ (by decide)) (by decide)
      have hm0 := Int.emod_nonneg (w1 * w1 % 2147483629 / 64) (by omega : (z : Int) ≠ 0)
      have hm1 := Int.emod_lt_of_pos (w1 * w1 % 2147483629 / 64) hz0
      obtain ⟨r, hr1, hr2⟩ := nat_of hm0 hm1
      refine ⟨_, rfl, p, _, _, _, rfl, rfl, SqL.of hL, a2, _, rfl, p, _, _, _, rfl, rfl, SqL.of hL, a2, _, _, rfl, rfl, .inl ⟨by omega, by omega⟩, _, _, rfl, rfl, (by show (0 : Int) < 2147483629; decide), _, _, rfl, rfl, ⟨by decide, by decide⟩, _, rfl, _, _, rfl, rfl, hz0, ?_⟩
      have hk := k _ r (SB.refl.upd (p := p) (o := .lst [V.int x, V.int w1])) ⟨x, w1, upd_same, hw0, by omega⟩ hr2
      rw [← hr1] at hk
      exact hk
/-! _law_hand -/
theorem cut_ints (ns : List Int) (lo hi : Option Int) : ∃ cs : List Int, cutV (ns.map V.int) lo hi = cs.map V.int ∧ cs.length ≤ ns.length := by
  unfold cutV
  rw [← List.map_drop, ← List.map_take]
  refine ⟨_, rfl, ?_⟩
  rw [List.length_take, List.length_drop]
  omega
theorem head_ints (cs : List Int) : ∃ c : Int, (cs.map V.int ++ [V.int 0])[0]? = some (.int c) := by
  cases cs with
  | nil => exact ⟨0, rfl⟩
  | cons c cs => exact ⟨c, rfl⟩
theorem scHand : FnScope ["_law_script", "_law_k", "_law_cell", "_law_seed"] ["_law_script", "_law_k"] (C8.fnScope sHand) := ⟨rfl, rfl, rfl, by decide +kernel, rfl, by decide +kernel, by decide +kernel⟩
def spHand (K : PySem.W.Frag) : Sp := fun vs H Q _ => ∃ (a : Addr) (ns : List Int) (k : Nat), vs = [.ref a, .int (k : Int)] ∧ SqL K H a (ns.map V.int) ∧ ns.length ≤ 1000 ∧ k ≤ 1000 ∧ ∀ H' p, Same H H' → H p = none → Pool H' p → Q (.ref p) H'
theorem ok_hand {f : Addr} {fd : FuncData} (T : Txt K mg C) (F : C8.Def K mg "_law_hand" sHand f fd) (b : Binds K fd ["_law_script", "_law_k"] []) : C8.Cal P w K mg base 1 "_law_hand" (spHand K) [] := by
  refine C8.cal0 F b .nil scHand (fun vs H Q E h => ?_) (fun cdv A outer s H vs Q E hr h => ?_)
  · obtain ⟨a, ns, k, rfl, _⟩ := h
    rfl
  · obtain ⟨a, ns, kk, rfl, hs, hn, hk, k⟩ := h
    refine ⟨_, pss_cons (ps_set (i := 2) scHand.nd rfl (.inl rfl) (pe_ix ix_list (pe_op op_cat (pe_slice sl_list (pv 0) (po_some (pv 1)) (po_some (pe_op op_add (pv 1) pe_int))) (pe_lst (pa_cons pe_int pa_nil))) pe_int (fun _ _ => rfl)))
      (pss_cons (ps_set (i := 3) scHand.nd rfl (.inl rfl) (pe_op op_mod (pe_op op_mul (pe_op op_add (pe_op op_add (pe_op op_mod (pv 2) pe_int) (pe_op op_mul pe_int (pv 1))) pe_int) pe_int) pe_int))
      (pss_one (ps_ret (pe_lst (pa_cons (pe_op op_mul (pe_callTy call_int1 (by rfl) T.int (by decide +kernel) (pa_cons (pe_cmpR op_ge (pv 2) (pe_op op_pow pe_int pe_int) (nomark _)) pa_nil)) (pv 2)) (pa_cons (pv 3) pa_nil)))))), ?_⟩
    refine ⟨_, rfl, _, rfl, _, rfl, _, rfl, _, _, rfl, rfl, _, rfl, a, _, rfl, hs, fun q hq => ?_⟩
    obtain ⟨cs, hcs, hcl⟩ := cut_ints ns (some (kk : Int)) (some ((kk : Int) + 1))
    have hqe : upd H q (.lst (cutV (ns.map V.int) (some (kk : Int)) (some ((kk : Int) + 1)))) q = some (.lst (cs.map V.int)) := by rw [upd_same, hcs]
    have s1 : Same H (upd H q (.lst (cutV (ns.map V.int) (some (kk : Int)) (some ((kk : Int) + 1))))) := same_new hq
    generalize upd H q (.lst (cutV (ns.map V.int) (some (kk : Int)) (some ((kk : Int) + 1)))) = H1 at hqe s1 ⊢
    obtain ⟨c, hc⟩ := head_ints cs
    refine ⟨by show 1 ≤ sizeLine; decide, fun z hz => ?_⟩
    have hqz : q ≠ z := fun e => by rw [← e, hqe] at hz; cases hz
    refine ⟨q, z, cs.map V.int, [V.int 0], rfl, rfl, by rw [upd_ne hqz]; exact hqe, upd_same, by rw [List.length_map, sizeLine_eq]; show cs.length + 1 ≤ 16777216; omega, fun u hu => ?_⟩
    have s2 : Same H (upd (upd H1 z (.lst [V.int 0])) u (.lst (cs.map V.int ++ [V.int 0]))) := same_upd ((s1.trans (same_new hz)).free hu) (s1.trans (same_new hz))
    refine ⟨u, _, _, V.int c, rfl, rfl, .inl (.inl upd_same), atI_nat (j := 0) hc, ?_⟩
    generalize upd (upd H1 z (.lst [V.int 0])) u (.lst (cs.map V.int ++ [V.int 0])) = H2 at s2 ⊢
    refine ⟨_, rfl, _, _, rfl, rfl, (by show (0 : Int) < 2147483647; decide), _, rfl, _, _, rfl, rfl, .inl ⟨by decide, by decide⟩, _, _, rfl, rfl, _, _, rfl, rfl, _, _, rfl, rfl, .inr ⟨by decide, by decide⟩, _, _, rfl, rfl, (by show (0 : Int) < 2147483629; decide), ?_⟩
    have hs0 : 0 ≤ (c % 2147483647 + 7919 * (kk : Int) + 1) * 48271 % 2147483629 := Int.emod_nonneg _ (by decide)
    have hs1 : (c % 2147483647 + 7919 * (kk : Int) + 1) * 48271 % 2147483629 < 2147483629 := Int.emod_lt_of_pos _ (by decide)
    refine ⟨_, rfl, _, _, rfl, rfl, ⟨by decide, by decide, by decide⟩, _, _, rfl, rfl, .inr ⟨_, rfl, _, rfl, _, _, rfl, rfl, .inl ?_, _, rfl, by show 2 ≤ sizeLine; decide, fun p hp => ?_⟩⟩
    · split
      · exact ⟨by decide, by decide⟩
      · exact ⟨by decide, by decide⟩
    · exact k _ p (s2.trans (same_new hp)) (s2.free hp) ⟨_, _, upd_same, hs0, Int.lt_trans hs1 (by decide)⟩
end
end TB

set_option maxRecDepth 100000
set_option maxHeartbeats 4000000
namespace TB
open PySem PySem.Spec PyProof.Rows L2
theorem lets_get {n r : Nat} (h : r < n) : (lets n).cps[r]? = some (r + 65) := by
  unfold lets
  rw [tx_cps]
  simp [List.getElem?_range h]
theorem lets_len (n : Nat) : (lets n).length = n := by
  unfold lets
  rw [tx_len, List.length_range]
section
variable {P : Program} {w : World} {K : PySem.W.Frag} {mg : Str → Option Value} {base : Heap} {C : Addr}
/-! _law_text -/
abbrev NText : List Str := ["_law_pool", "_law_players", "_law_most", "_law_letters", "_law_turn"]
theorem scText2 : FnScope NText ["_law_pool", "_law_players", "_law_most"] (C8.fnScope sText2) := ⟨rfl, rfl, rfl, by decide +kernel, rfl, by decide +kernel, by decide +kernel⟩
def spText : Sp := fun vs H Q _ => ∃ (p : Addr) (n m : Nat), vs = [.ref p, .int (n : Int), .int (m : Int)] ∧ Pool H p ∧ 2 ≤ n ∧ n ≤ 6 ∧ 1 ≤ m ∧ m ≤ 100 ∧ ∀ H' t, SB p H H' → Pool H' p → 1 ≤ t.length → t.length ≤ m → (∀ x ∈ t, x < n) → Q (.str (tx t)) H'
theorem ok_text2 {f : Addr} {fd : FuncData} (T : Txt K mg C) (cD : C8.Cal P w K mg base 1 "_law_draw" spDraw []) (F : C8.Def K mg "_law_text" sText2 f fd) (b : Binds K fd ["_law_pool", "_law_players", "_law_most"] []) : C8.Cal P w K mg base 2 "_law_text" spText [] := by
  refine C8.cal0 F b .nil scText2 (fun vs H Q E h => ?_) (fun cdv A outer s H vs Q E hr h => ?_)
  · obtain ⟨p, n, m, rfl, _⟩ := h
    rfl
  · obtain ⟨p, n, m, rfl, hp, hn2, hn6, hm1, hm2, k⟩ := h
    refine ⟨_, pss_cons (ps_set (i := 3) scText2.nd rfl (.inr rfl) (pe_slice C8.sl_txt (pe_str (x := ABC)) po_none (po_some (pv 1))))
      (pss_one (ps_ret (pe_join (pe_str (x := SX.S [])) (pe_lc (own := [("_law_turn", 4)]) (g := gName 4) (tt := tYes) (te := tOp rAtS (tVar 3) (tCall spDraw [] C8.E0 (tCons (tVar 0) (tCons (tVar 1) tNil)))) rfl scText2.nd
        (pi_range1 rfl T.range (pa_cons (pe_op op_add pe_int (C8.pe_c cD hr (by decide) rfl (pa_cons (pv 0) (pa_cons (pv 2) pa_nil)))) pa_nil)) (blkOk_by (N := NText) (sc := C8.fnScope sText2) (by decide +kernel))
        (fun _ _ _ _ _ => pg_name (i := 4) scText2.nd rfl (Or.inl rfl)) (fun _ _ _ _ _ => pts_nil) (fun _ _ _ _ _ => pe_item_str (pv 3) (C8.pe_c cD hr (by decide) rfl (pa_cons (pv 0) (pa_cons (pv 1) pa_nil))) (fun _ _ => rfl)))))), ?_⟩
    refine ⟨_, rfl, _, rfl, ABC, rfl, by decide, ?_⟩
    rw [slice_abc hn6]
    refine ⟨⟨_, rfl⟩, _, rfl, _, rfl, p, m, rfl, hp, by omega, by omega, fun H1 r s1 p1 hr1 => ?_⟩
    refine ⟨_, _, rfl, rfl, _, rfl, by omega, by omega, ?_⟩
    rw [show ((1 : Int) + (r : Int)).toNat = r + 1 by omega]
    refine fun D hD => lc_it walk_range (fun i H2 => SB p H1 H2 ∧ Pool H2 p ∧ D ≠ p ∧ ∃ t : List Nat, t.length = i ∧ (∀ x ∈ t, x < n) ∧ H2 D = some (.lst ((t.map fun x => [x]).map fun l => V.str (tx l)))) ?_ (fun _ _ _ _ => trivial) (fun i x H2 H3 hi q y => ?_) fun H2 q => ?_
    · have hDp : D ≠ p := fun z => by rw [z] at hD; exact p1.ne hD
      exact ⟨SB.of (same_new hD), p1.upd hDp, hDp, [], rfl, (fun x hx => (by cases hx)), upd_same⟩
    · obtain ⟨rfl, rfl⟩ := y
      obtain ⟨s2, p2, hDp, t, htl, htn, hDt⟩ := q
      refine ⟨rfl, _, rfl, _, rfl, _, rfl, p, n, rfl, p2, by omega, by omega, fun H4 r2 s4 p4 hr2 => ?_⟩
      refine ⟨lets n, _, r2 + 65, rfl, rfl, by omega, by omega, by rw [lets_len]; omega, by rw [Int.toNat_natCast]; exact lets_get hr2, ?_⟩
      refine ⟨_, s4 D _ hDp hDt, by rw [List.length_map, List.length_map, sizeLine_eq]; omega, (s2.trans s4).updD hD, p4.upd hDp, hDp, t ++ [r2], by rw [List.length_append, htl]; rfl, fun x hx => ?_, ?_⟩
      · rcases List.mem_append.mp hx with z | z
        · exact htn x z
        · rw [List.mem_singleton.mp z]; exact hr2
      · rw [upd_same, List.map_append, List.map_append]
        rfl
    · obtain ⟨s2, p2, hDp, t, htl, htn, hDt⟩ := q
      refine ⟨SX.S [], D, (t.map fun x => [x]).map tx, rfl, rfl, .inl (.inl (.inl ?_)), joinZ ?_, ?_⟩
      · rw [hDt, List.map_map, List.map_map, List.map_map]
        rfl
      · rw [flat1]
        omega
      · rw [join_tx, flat1]
        exact k H2 t (s1.trans s2) p2 (by omega) (by omega) htn
/-! _law_power -/
theorem scPow : FnScope ["_law_base", "_law_exponent", "_law_found", "_law_turn"] ["_law_base", "_law_exponent"] (C8.fnScope sPow) := ⟨rfl, rfl, rfl, by decide +kernel, rfl, by decide +kernel, by decide +kernel⟩
def spPow : Sp := fun vs H Q _ => ∃ (b e : Nat), vs = [.int (b : Int), .int (e : Int)] ∧ b ≤ 1000000 ∧ e ≤ 1000000 ∧ Q (.int ((b : Int) ^ e)) H
theorem ok_pow {f : Addr} {fd : FuncData} (T : Txt K mg C) (F : C8.Def K mg "_law_power" sPow f fd) (b : Binds K fd ["_law_base", "_law_exponent"] []) : C8.Cal P w K mg base 1 "_law_power" spPow [] := by
  refine C8.cal0 F b .nil scPow (fun vs H Q E h => ?_) (fun cdv A outer s H vs Q E hr h => ?_)
  · obtain ⟨b, e, rfl, _⟩ := h
    rfl
  · obtain ⟨b, e, rfl, hb, he, k⟩ := h
    refine ⟨_, pss_cons (ps_set (i := 2) scPow.nd rfl (.inl rfl) pe_int) (pss_cons (ps_for PassesOwn.never rfl (pi_range1 rfl T.range (pa_cons (pv 1) pa_nil)) (pg_name (i := 3) scPow.nd rfl (Or.inl rfl)) (pss_one (ps_set (i := 2) scPow.nd rfl (.inl rfl) (pe_op op_mul (pv 2) (pv 0))))) (pss_one (ps_ret (pv 2)))), ?_⟩
    refine ⟨_, rfl, _, rfl, by omega, by omega, ?_⟩
    rw [Int.toNat_natCast]
    refine for_range (n := e) (fun i σ H1 => (∃ v3, σ = [some (.int (b : Int)), some (.int (e : Int)), some (.int ((b : Int) ^ i)), v3]) ∧ H1 = H) ⟨⟨_, rfl⟩, rfl⟩ (fun i σ H1 hi p => ?_) fun σ H1 p => ?_
    · obtain ⟨⟨v3, rfl⟩, rfl⟩ := p
      exact ⟨_, rfl, _, rfl, _, _, rfl, rfl, .inr ⟨by omega, by omega⟩, ⟨_, rfl⟩, rfl⟩
    · obtain ⟨⟨v3, rfl⟩, rfl⟩ := p
      exact ⟨_, rfl, k⟩
end
end TB

set_option maxRecDepth 100000
set_option maxHeartbeats 4000000
namespace TB
open PySem PySem.Spec PyProof.Rows L2
theorem lay_ints (ns : List Int) : PyData.canLayAll0 (ns.map PyData.int) = true := by
  induction ns with
  | nil => rfl
  | cons x ns ih =>
    rw [List.map_cons, PyData.canLayAll0, ih]
    rfl
theorem dep_ints (ns : List Int) : PyData.depthAll (ns.map PyData.int) = 0 := by
  induction ns with
  | nil => rfl
  | cons x ns ih =>
    rw [List.map_cons, PyData.depthAll, ih]
    rfl
theorem shaped_ints (ns : List Int) : SeqAt.shaped (.list (ns.map PyData.int)) = true := by
  unfold SeqAt.shaped
  rw [PyData.canLay0, lay_ints, PyData.depth, dep_ints]
  rfl
theorem dp_ints {K : PySem.W.Frag} {H : Hp} : ∀ ns : List Int, DpAll K H (ns.map V.int) (ns.map PyData.int)
  | [] => .nil
  | x :: ns => .cons (.int x) (dp_ints ns)
theorem eqv_nil (ns : List Int) : PyData.eqv (.list (ns.map PyData.int)) (.list []) = ns.isEmpty := by
  cases ns with
  | nil => rfl
  | cons x ns => rfl
theorem psn_val (t : List Nat) (p : Nat) (f : Nat → Int) : accF (fun i => if t[i]? = some p then some (V.int (f i)) else none) t.length = ((psn t p).map f).map V.int := by
  unfold accF psn
  rw [List.map_map, ← List.filterMap_eq_map', List.filterMap_filter]
  congr 1
  funext i
  by_cases h : t[i]? = some p
  · simp [h]
  · simp [h]
def difI (t : List Nat) (i q : Nat) : Option Int := if sm t q (fun j => (j : Int) ^ i) ≠ sm t 0 (fun j => (j : Int) ^ i) then some (sm t q fun j => (j : Int) ^ i) else none
theorem accF_ints (g : Nat → Option Int) (n : Nat) : accF (fun i => (g i).map V.int) n = ((List.range n).filterMap g).map V.int := by
  unfold accF
  rw [List.map_filterMap]
theorem dif_nil {t : List Nat} {s i : Nat} : ((List.range s).filterMap (difI t i)).isEmpty = false ↔ ∃ q, q < s ∧ sm t q (fun j => (j : Int) ^ i) ≠ sm t 0 (fun j => (j : Int) ^ i) := by
  rw [List.isEmpty_eq_false_iff_exists_mem]
  constructor
  · rintro ⟨x, hx⟩
    obtain ⟨q, hq, e⟩ := List.mem_filterMap.mp hx
    unfold difI at e
    by_cases z : sm t q (fun j => (j : Int) ^ i) ≠ sm t 0 (fun j => (j : Int) ^ i)
    · exact ⟨q, List.mem_range.mp hq, z⟩
    · rw [if_neg z] at e
      cases e
  · rintro ⟨q, hq, z⟩
    exact ⟨_, List.mem_filterMap.mpr ⟨q, List.mem_range.mpr hq, by unfold difI; rw [if_pos z]⟩⟩
section
variable {P : Program} {w : World} {K : PySem.W.Frag} {mg : Str → Option Value} {base : Heap} {C : Addr}
/-! _law_sum -/
abbrev NSum : List Str := ["_law_text_here", "_law_player", "_law_values", "_law_item", "_law_value"]
theorem scSum : FnScope NSum ["_law_text_here", "_law_player", "_law_values"] (C8.fnScope sSum) := ⟨rfl, rfl, rfl, by decide +kernel, rfl, by decide +kernel, by decide +kernel⟩
def valsF (n : Nat) (f : Nat → Int) : List V := (List.range n).map fun i => V.int (f i)
theorem valsF_len (n : Nat) (f : Nat → Int) : (valsF n f).length = n := by simp [valsF]
theorem valsF_get {n i : Nat} {f : Nat → Int} (h : i < n) : (valsF n f)[i]? = some (.int (f i)) := by
  unfold valsF
  rw [List.getElem?_map, List.getElem?_range h]
  rfl
def spSum (K : PySem.W.Frag) : Sp := fun vs H Q _ => ∃ (t : List Nat) (q : Nat) (l : Addr) (f : Nat → Int), vs = [.str (tx t), .str (tx [q]), .ref l] ∧ t.length ≤ 1000 ∧ SqL K H l (valsF t.length f) ∧ ∀ H', Same H H' → Q (.int (sm t q f)) H'
theorem ok_sum {f : Addr} {fd : FuncData} (T : Txt K mg C) (F : C8.Def K mg "_law_sum" sSum f fd) (b : Binds K fd ["_law_text_here", "_law_player", "_law_values"] []) : C8.Cal P w K mg base 1 "_law_sum" (spSum K) [] := by
  refine C8.cal0 F b .nil scSum (fun vs H Q E h => ?_) (fun cdv A outer s H vs Q E hr h => ?_)
  · obtain ⟨t, q, l, f, rfl, _⟩ := h
    rfl
  · obtain ⟨t, q, l, f, rfl, hlen, hl, k⟩ := h
    refine ⟨_, pss_one (ps_ret (pe_callB (cr_sum rfl) (by rfl) T.sum (by decide +kernel) (pa_cons (pe_lc (own := [("_law_item", 3), ("_law_value", 4)]) (g := gP K 3 4) (te := tVar 4) rfl scSum.nd (pi_zipS (by rfl) T.zip (pa_cons (pv 0) (pa_cons (pv 2) pa_nil))) (blkOk_by (N := NSum) (sc := C8.fnScope sSum) (by decide +kernel))
        (fun _ _ _ _ _ => pg_tup rfl (pgs_cons (pg_name (i := 3) scSum.nd rfl (Or.inl rfl)) (pgs_cons (pg_name (i := 4) scSum.nd rfl (Or.inl rfl)) pgs_nil))) (fun _ _ _ _ _ => pts_one (pt_cmpR op_eq (pv 3) (pv 1) (nomark _))) (fun _ _ _ _ _ => pv 4)) pa_nil))), ?_⟩
    refine ⟨_, rfl, _, rfl, tx t, l, _, rfl, hl, by rw [tx_size, valsF_len], fun D hD => lc_it walk_p (PvF H D fun i => if t[i]? = some q then some (V.int (f i)) else none) (pvF0 hD) (fun i H1 _ p => p.1.seq hl) (fun i x H1 H2 hi p y => ?_) fun H1 p => ?_⟩
    · obtain ⟨Tp, rfl, hT, rfl⟩ := y
      rw [valsF_len] at hi
      have hz : t[i]? = some t[i] := List.getElem?_eq_getElem hi
      have e1 : (tx t).cps.getD i 0 = t[i] + 65 := by
        rw [tx_cps, Array.getD_eq_getD_getElem?]
        simp [hz]
      have e2 : (valsF t.length f).getD i .non = .int (f i) := by rw [List.getD_eq_getElem?_getD, valsF_get hi]; rfl
      have p2 := pvF_same p (same_new (o := .tup (prZ (tx t) (valsF t.length f) i)) hT)
      refine gp_ok sqt_new ⟨rfl, _, rfl, _, rfl, rfl, decide (V.str ⟨#[(tx t).cps.getD i 0]⟩ = V.str (tx [q])), rfl, ?_⟩
      rw [e1, e2, tx_one]
      by_cases hpp : t[i] = q
      · rw [decide_eq_true (by rw [hpp])]
        exact iteT ⟨_, rfl, pvF_add hD hi (by omega) (by rw [hz, hpp, if_pos rfl]) p2⟩
      · rw [decide_eq_false (fun z => hpp (tx1 (V.str.inj z)))]
        exact iteF (pvF_skip (by rw [hz, if_neg (fun z => hpp (Option.some.inj z))]) p2)
    · have e := p.2
      rw [valsF_len, psn_val] at e
      refine ⟨D, _, rfl, SqL.of e, ?_⟩
      rw [psn_sum]
      exact k H1 p.1
/-! _law_order -/
abbrev NLO : List Str := ["_law_text_here", "_law_letters", "_law_degree", "_law_values", "_law_position", "_law_sums", "_law_player", "_law_one"]
theorem scLOrd : FnScope NLO ["_law_text_here", "_law_letters"] (C8.fnScope sLOrd) := ⟨rfl, rfl, rfl, by decide +kernel, rfl, by decide +kernel, by decide +kernel⟩
def DiffP (t : List Nat) (s d : Nat) : Prop := ∃ q, q < s ∧ sm t q (fun i => (i : Int) ^ d) ≠ sm t 0 (fun i => (i : Int) ^ d)
def spLOrd : Sp := fun vs H Q _ => ∃ (t : List Nat) (s : Nat), vs = [.str (tx t), .str (lets s)] ∧ 1 ≤ t.length ∧ t.length ≤ 1000 ∧ 1 ≤ s ∧ s ≤ 6 ∧ (∃ d, d < t.length ∧ DiffP t s d) ∧ ∀ H' (d : Nat), Same H H' → DiffP t s d → Q (.int (d : Int)) H'
theorem ok_lord {f : Addr} {fd : FuncData} (T : Txt K mg C) (cW : C8.Cal P w K mg base 1 "_law_power" spPow []) (cS : C8.Cal P w K mg base 1 "_law_sum" (spSum K) []) (F : C8.Def K mg "_law_order" sLOrd f fd) (b : Binds K fd ["_law_text_here", "_law_letters"] []) : C8.Cal P w K mg base 2 "_law_order" spLOrd [] := by
  refine C8.cal0 F b .nil scLOrd (fun vs H Q E h => ?_) (fun cdv A outer s H vs Q E hr h => ?_)
  · obtain ⟨t, s, rfl, _⟩ := h
    rfl
  · obtain ⟨t, sz, rfl, ht1, ht, hs1, hs6, ⟨d0, hd0, hdif⟩, k⟩ := h
    refine ⟨_, pss_cons (ps_for PassesOwn.never rfl (pi_range1 rfl T.range (pa_cons (pe_op op_add (pe_callB call_len_str (by rfl) T.len PySem.boot_len (pa_cons (pv 0) pa_nil)) pe_int) pa_nil)) (pg_name (i := 2) scLOrd.nd rfl (Or.inr rfl))
      (pss_cons (ps_set (i := 3) scLOrd.nd rfl (.inr rfl) (pe_lc (own := [("_law_position", 4)]) (g := gName 4) (tt := tYes) (te := tCall spPow [] C8.E0 (tCons (tVar 4) (tCons (tVar 2) tNil))) rfl scLOrd.nd (pi_range1 rfl T.range (pa_cons (pe_callB call_len_str (by rfl) T.len PySem.boot_len (pa_cons (pv 0) pa_nil)) pa_nil)) (blkOk_by (N := NLO) (sc := C8.fnScope sLOrd) (by decide +kernel))
          (fun _ _ _ _ _ => pg_name (i := 4) scLOrd.nd rfl (Or.inl rfl)) (fun _ _ _ _ _ => pts_nil) (fun _ _ _ _ _ => C8.pe_c cW hr (by decide) rfl (pa_cons (pv 4) (pa_cons (pv 2) pa_nil)))))
      (pss_cons (ps_set (i := 5) scLOrd.nd rfl (.inr rfl) (pe_lc (own := [("_law_player", 6)]) (g := gName 6) (tt := tYes) (te := tCall (spSum K) [] C8.E0 (tCons (tVar 0) (tCons (tVar 6) (tCons (tVar 3) tNil)))) rfl scLOrd.nd (pi_str (pv 1)) (blkOk_by (N := NLO) (sc := C8.fnScope sLOrd) (by decide +kernel))
          (fun _ _ _ _ _ => pg_name (i := 6) scLOrd.nd rfl (Or.inl rfl)) (fun _ _ _ _ _ => pts_nil) (fun _ _ _ _ _ => C8.pe_c cS hr (by decide) rfl (pa_cons (pv 0) (pa_cons (pv 6) (pa_cons (pv 3) pa_nil))))))
      (pss_one (ps_if (pt_cmpR (op_neD hr.units) (pe_lc (own := [("_law_one", 7)]) (g := gName 7) (tt := tTest (tOp _ (tVar 7) (tOp (rIxL K) (tVar 5) (tC (.int 0))))) (te := tVar 7) rfl scLOrd.nd (pi_list (pv 5)) (blkOk_by (N := NLO) (sc := C8.fnScope sLOrd) (by decide +kernel))
          (fun _ _ _ _ _ => pg_name (i := 7) scLOrd.nd rfl (Or.inl rfl)) (fun _ _ _ _ _ => pts_one (pt_cmpR op_ne (pv 7) (pe_ix ix_list (pv 5) pe_int (fun _ _ => rfl)) (nomark _))) (fun _ _ _ _ _ => pv 7)) (pe_lst pa_nil) (nomark _)) (pss_one (ps_ret (pv 2))) pss_nil)))))
      (pss_one ps_never), ?_⟩
    refine ⟨_, rfl, tx t, rfl, by rw [tx_len, sizeLine_eq]; omega, _, _, rfl, rfl, _, rfl, by rw [tx_len]; omega, by rw [tx_len]; omega, ?_⟩
    rw [tx_len, show ((t.length : Int) + 1).toNat = t.length + 1 by omega]
    refine for_range (n := t.length + 1) (fun i σ H1 => (∃ v2 v3 v5, σ = [some (.str (tx t)), some (.str (lets sz)), v2, v3, none, v5, none, none]) ∧ Same H H1 ∧ ∀ d, d < i → ¬ DiffP t sz d) ⟨⟨_, _, _, rfl⟩, Same.refl _, fun d hd => absurd hd (Nat.not_lt_zero _)⟩ (fun i σ H1 hi p => ?_) fun σ H1 p => ?_
    · obtain ⟨⟨v2, v3, v5, rfl⟩, s1, hno⟩ := p
      refine ⟨_, rfl, tx t, rfl, by rw [tx_len, sizeLine_eq]; omega, _, rfl, by rw [tx_len]; omega, by rw [tx_len]; omega, ?_⟩
      rw [tx_len, Int.toNat_natCast, Int.zero_add]
      refine fun D hD => lc_it walk_range (PvF H1 D fun j => some (.int ((j : Int) ^ i))) (pvF0 hD) (fun _ _ _ _ => trivial) (fun j x H2 H3 hj q y => ?_) fun H2 q => ?_
      · obtain ⟨rfl, rfl⟩ := y
        refine ⟨rfl, _, rfl, _, rfl, j, i, ?_, by omega, by omega, ?_⟩
        · show [V.int (0 + (j : Int)), V.int (i : Int)] = _
          rw [Int.zero_add]
        · exact pvF_add hD hj (by omega) rfl q
      · obtain ⟨s2, e2⟩ := q
        rw [accF_map] at e2
        have l2 : SqL K H2 D (valsF t.length fun j => (j : Int) ^ i) := SqL.of e2
        refine ⟨_, rfl, lets sz, rfl, fun D2 hD2 => lc_it walk_str (PvF H2 D2 fun q => some (.int (sm t q fun j => (j : Int) ^ i))) (pvF0 hD2) (fun _ _ _ _ => trivial) (fun q x H3 H4 hq r y => ?_) fun H3 r => ?_⟩
        · obtain ⟨rfl, c, hc, rfl⟩ := y
          obtain ⟨hqs, rfl⟩ := lets_at hc
          refine ⟨rfl, _, rfl, _, rfl, _, rfl, t, q, D, _, rfl, ht, r.1.seq l2, fun H5 s5 => ?_⟩
          exact pvF_add hD2 hqs (by omega) rfl (pvF_same r s5)
        · obtain ⟨s3, e3⟩ := r
          rw [lets_size, accF_map] at e3
          have l3 : SqL K H3 D2 (valsF sz fun q => sm t q fun j => (j : Int) ^ i) := SqL.of e3
          refine ⟨_, rfl, D2, rfl, ⟨_, l3⟩, fun D3 hD3 => lc_it (walk_list (xs := valsF sz fun q => sm t q fun j => (j : Int) ^ i)) (PvF H3 D3 fun q => (difI t i q).map V.int) (pvF0 hD3) (fun _ H4 _ r => r.1.seq l3) (fun q x H4 H5 hq r y => ?_) fun H4 r => ?_⟩
          · obtain ⟨rfl, hx⟩ := y
            rw [valsF_len] at hq
            rw [valsF_get hq] at hx
            cases hx
            refine ⟨rfl, _, rfl, _, rfl, D2, _, _, _, rfl, rfl, r.1.seq l3, atI_nat (j := 0) (valsF_get (by omega)), rfl, !decide (V.int (sm t q fun j => (j : Int) ^ i) = V.int (sm t 0 fun j => (j : Int) ^ i)), rfl, ?_⟩
            by_cases hdf : sm t q (fun j => (j : Int) ^ i) = sm t 0 (fun j => (j : Int) ^ i)
            · rw [decide_eq_true (by rw [hdf])]
              exact iteF (pvF_skip (by unfold difI; rw [if_neg (fun z => z hdf)]; rfl) r)
            · rw [decide_eq_false (fun z => hdf (V.int.inj z))]
              exact iteT ⟨_, rfl, pvF_add hD3 hq (by omega) (by unfold difI; rw [if_pos hdf]; rfl) r⟩
          · obtain ⟨s4, e4⟩ := r
            rw [valsF_len, accF_ints] at e4
            refine ⟨Nat.zero_le _, fun z hz => ?_⟩
            have hzD : D3 ≠ z := fun q => by rw [← q, e4] at hz; cases hz
            refine ⟨.list (((List.range sz).filterMap (difI t i)).map PyData.int), .list [], .lst (SqL.of (by rw [upd_ne hzD]; exact e4)) (dp_ints _), .lst (SqL.of upd_same) .nil, shaped_ints _, shaped_ints [], ?_⟩
            rw [eqv_nil]
            have sH := ((s1.trans s2).trans s3).trans (s4.trans (same_new (o := .lst []) hz))
            refine ⟨!((List.range sz).filterMap (difI t i)).isEmpty, rfl, ?_⟩
            cases hemp : ((List.range sz).filterMap (difI t i)).isEmpty with
            | false =>
              refine iteT ⟨_, rfl, ?_⟩
              exact k _ i sH (dif_nil.mp hemp)
            | true =>
              refine iteF ⟨⟨_, _, _, rfl⟩, sH, fun d hd => ?_⟩
              by_cases hdi : d < i
              · exact hno d hdi
              · have : d = i := by omega
                subst this
                intro hx
                rw [dif_nil.mpr hx] at hemp
                cases hemp
    · obtain ⟨_, _, hno⟩ := p
      exact hno d0 (by omega) hdif
end
end TB

set_option maxRecDepth 100000
set_option maxHeartbeats 4000000
namespace TB
open PySem PySem.Spec PyProof.Rows L2
section
variable {P : Program} {w : World} {K : PySem.W.Frag} {mg : Str → Option Value} {base : Heap} {C : Addr}
/-! _law_added -/
theorem scAdded : FnScope ["_law_one", "_law_other", "_law_players", "_law_letters"] ["_law_one", "_law_other", "_law_players"] (C8.fnScope sAdded) := ⟨rfl, rfl, rfl, by decide +kernel, rfl, by decide +kernel, by decide +kernel⟩
def spAdded : Sp := fun vs H Q _ => ∃ a b n : Nat, vs = [.str (tx [a]), .str (tx [b]), .int (n : Int)] ∧ a < 6 ∧ b < 6 ∧ 1 ≤ n ∧ n ≤ 6 ∧ Q (.str (tx [(a + b) % n])) H
theorem ok_added {f : Addr} {fd : FuncData} (F : C8.Def K mg "_law_added" sAdded f fd) (b : Binds K fd ["_law_one", "_law_other", "_law_players"] []) : C8.Cal P w K mg base 1 "_law_added" spAdded [] := by
  refine C8.cal0 F b .nil scAdded (fun vs H Q E h => ?_) (fun cdv A outer s H vs Q E hr h => ?_)
  · obtain ⟨a, b, n, rfl, _⟩ := h
    rfl
  · obtain ⟨a, b, n, rfl, ha, hb, hn1, hn6, k⟩ := h
    refine ⟨_, pss_cons (ps_set (i := 3) scAdded.nd rfl (.inl rfl) (pe_str (x := ABC))) (pss_one (ps_ret (pe_item_str (pv 3) (pe_op op_mod (pe_op op_add (pe_bm PySem.F.plainAttrs_str PySem.F.slot_str_index PySem.F.type_str_index mt_idx (pv 3) (pa_cons (pv 0) pa_nil)) (pe_bm PySem.F.plainAttrs_str PySem.F.slot_str_index PySem.F.type_str_index mt_idx (pv 3) (pa_cons (pv 1) pa_nil))) (pv 2)) (fun _ _ => rfl)))), ?_⟩
    have hm : (a + b) % n < n := Nat.mod_lt _ (by omega)
    have hcz : (((a : Nat) : Int) + ((b : Nat) : Int)) % ((n : Nat) : Int) = (((a + b) % n : Nat) : Int) := by
      rw [show ((a : Nat) : Int) + ((b : Nat) : Int) = ((a + b : Nat) : Int) by omega, ← Int.natCast_emod]
    refine ⟨_, rfl, _, rfl, rfl, _, rfl, a, rfl, rfl, ha, _, rfl, rfl, _, rfl, b, rfl, rfl, hb, _, _, rfl, rfl, _, rfl, _, _, rfl, rfl, by omega, ABC, _, (a + b) % n + 65, rfl, rfl, ?_, ?_, ?_, ?_, k⟩
    · rw [hcz]; omega
    · rw [hcz]; omega
    · rw [hcz, abc_len]; omega
    · show ABC.cps[((((a : Nat) : Int) + ((b : Nat) : Int)) % ((n : Nat) : Int)).toNat]? = _
      rw [hcz, Int.toNat_natCast]
      exact abc_at (by omega)
/-! _law_place -/
theorem scPlace : FnScope ["_law_pool", "_law_size", "_law_found", "_law_turn"] ["_law_pool", "_law_size"] (C8.fnScope sPlace) := ⟨rfl, rfl, rfl, by decide +kernel, rfl, by decide +kernel, by decide +kernel⟩
def spPlace : Sp := fun vs H Q _ => ∃ (p : Addr) (S : Nat), vs = [.ref p, .int (S : Int)] ∧ Pool H p ∧ 0 < S ∧ ∀ H' (r : Nat), SB p H H' → Pool H' p → r < S → Q (.int (r : Int)) H'
theorem ok_place {f : Addr} {fd : FuncData} (T : Txt K mg C) (cD : C8.Cal P w K mg base 1 "_law_draw" spDraw []) (F : C8.Def K mg "_law_place" sPlace f fd) (b : Binds K fd ["_law_pool", "_law_size"] []) : C8.Cal P w K mg base 2 "_law_place" spPlace [] := by
  refine C8.cal0 F b .nil scPlace (fun vs H Q E h => ?_) (fun cdv A outer s H vs Q E hr h => ?_)
  · obtain ⟨p, S, rfl, _⟩ := h
    rfl
  · obtain ⟨p, S, rfl, hp, hS, k⟩ := h
    have hS0 : (0 : Int) < (S : Int) := by omega
    refine ⟨_, pss_cons (ps_set (i := 2) scPlace.nd rfl (.inl rfl) pe_int)
      (pss_cons (ps_for PassesOwn.never rfl (pi_range1 rfl T.range (pa_cons pe_int pa_nil)) (pg_name (i := 3) scPlace.nd rfl (Or.inl rfl))
        (pss_one (ps_set (i := 2) scPlace.nd rfl (.inl rfl) (pe_op op_add (pe_op op_mul (pv 2) (pe_op op_pow pe_int pe_int)) (C8.pe_c cD hr (by decide) rfl (pa_cons (pv 0) (pa_cons (pe_op op_pow pe_int pe_int) pa_nil)))))))
      (pss_one (ps_ret (pe_ix ix_list (pe_lst (pa_cons (pe_op op_mod (pv 2) (pv 1)) (pa_cons (pe_op op_sub (pv 1) pe_int) (pa_cons pe_int pa_nil))))
        (pe_op op_mul (pe_callTy call_int1 (by rfl) T.int (by decide +kernel) (pa_cons (pe_cmpR op_eq (C8.pe_c cD hr (by decide) rfl (pa_cons (pv 0) (pa_cons pe_int pa_nil))) pe_int (nomark _)) pa_nil)) (C8.pe_c cD hr (by decide) rfl (pa_cons (pv 0) (pa_cons pe_int pa_nil)))) (fun _ _ => rfl))))), ?_⟩
    refine ⟨12, rfl, by decide, by decide, for_range (n := 12) (fun i σ H1 => (∃ (x : Int) (v3 : Option V), σ = [some (.ref p), some (.int (S : Int)), some (.int x), v3]) ∧ SB p H H1 ∧ Pool H1 p) ⟨⟨_, _, rfl⟩, SB.refl, hp⟩ (fun i σ H1 hi q => ?_) fun σ H1 q => ?_⟩
    · obtain ⟨⟨x, v3, rfl⟩, s1, p1⟩ := q
      refine ⟨_, rfl, _, _, rfl, rfl, ⟨by decide, by decide, by decide⟩, _, _, rfl, rfl, .inr ⟨by decide, by decide⟩, _, rfl, _, _, rfl, rfl, ⟨by decide, by decide, by decide⟩, p, 1000000000, rfl, p1, by decide, by decide, fun H2 r s2 p2 hr2 => ?_⟩
      exact ⟨_, _, rfl, rfl, ⟨_, _, rfl⟩, s1.trans s2, p2⟩
    · obtain ⟨⟨x, v3, rfl⟩, s1, p1⟩ := q
      refine ⟨_, rfl, _, rfl, _, _, rfl, rfl, hS0, _, rfl, _, _, rfl, rfl, by show 3 ≤ sizeLine; decide, fun l hl => ?_⟩
      have hlp : l ≠ p := fun z => by rw [z] at hl; exact p1.ne hl
      have s2 : SB p H (upd H1 l (.lst [V.int (x % (S : Int)), V.int ((S : Int) - 1), V.int 0])) := s1.trans (SB.of (same_new hl))
      refine ⟨_, rfl, p, 6, rfl, p1.upd hlp, by decide, by decide, fun H3 r3 s3 p3 hr3 => ?_⟩
      refine ⟨rfl, .inr ⟨_, rfl, ?_⟩⟩
      refine ⟨_, rfl, p, 3, rfl, p3, by decide, by decide, fun H4 r4 s4 p4 hr4 => ?_⟩
      have h4 : H4 l = some (.lst [V.int (x % (S : Int)), V.int ((S : Int) - 1), V.int 0]) := s4 l _ hlp (s3 l _ hlp upd_same)
      have hm0 := Int.emod_nonneg x (by omega : (S : Int) ≠ 0)
      have hm1 := Int.emod_lt_of_pos x hS0
      obtain ⟨r, hr1, hr2⟩ := nat_of hm0 hm1
      have fin : ∀ (j : Nat), j < 3 → ∃ v : Nat, v < S ∧ [V.int (x % (S : Int)), V.int ((S : Int) - 1), V.int 0][j]? = some (V.int (v : Int)) := fun j hj => by
        have : j = 0 ∨ j = 1 ∨ j = 2 := by omega
        rcases this with rfl | rfl | rfl
        · exact ⟨r, hr2, by rw [hr1]; rfl⟩
        · exact ⟨S - 1, by omega, by
            show some (V.int ((S : Int) - 1)) = _
            rw [show (S : Int) - 1 = ((S - 1 : Nat) : Int) by omega]⟩
        · exact ⟨0, hS, rfl⟩
      have sb := s2.trans (s3.trans s4)
      refine ⟨_, _, rfl, rfl, .inl ?_, ?_⟩
      · split
        · exact ⟨by decide, by decide⟩
        · exact ⟨by decide, by decide⟩
      · cases hb : decide (V.int (r3 : Int) = V.int 0) with
        | true =>
          obtain ⟨v, hv, e⟩ := fin r4 hr4
          refine ⟨l, _, _, V.int (v : Int), rfl, rfl, SqL.of h4, ?_, k H4 v sb p4 hv⟩
          show atI _ ((1 : Int) * (r4 : Int)) = _
          rw [Int.one_mul]
          exact atI_nat e
        | false =>
          obtain ⟨v, hv, e⟩ := fin 0 (by decide)
          refine ⟨l, _, _, V.int (v : Int), rfl, rfl, SqL.of h4, ?_, k H4 v sb p4 hv⟩
          show atI _ ((0 : Int) * (r4 : Int)) = _
          rw [Int.zero_mul]
          exact atI_nat (j := 0) e
end
end TB

set_option maxRecDepth 100000
set_option maxHeartbeats 4000000
namespace TB
open PySem PySem.Spec PyProof.Rows L2
def szF (n : Nat) (s : Nat) : Option Int := if n % s = 0 then some (s : Int) else none
def szs (n : Nat) : List Nat := [2, 3, 5].filter fun s => n % s = 0
theorem szs_accF (n : Nat) : accF (fun i => ([2, 3, 5][i]?).bind fun s => (szF n s).map V.int) 3 = (szs n).map fun s : Nat => V.int (s : Int) := by
  have h := accF_bind (fun s => (szF n s).map V.int) [2, 3, 5]
  rw [show ([2, 3, 5] : List Nat).length = 3 from rfl] at h
  rw [h]
  unfold szs
  rw [← List.filterMap_eq_map', List.filterMap_filter]
  congr 1
  funext s
  unfold szF
  by_cases z : n % s = 0
  · simp [z]
  · simp [z]
theorem szs_mem {n s : Nat} (h : s ∈ szs n) : (s = 2 ∨ s = 3 ∨ s = 5) ∧ n % s = 0 := by
  unfold szs at h
  rw [List.mem_filter] at h
  obtain ⟨h1, h2⟩ := h
  exact ⟨by simpa using h1, by simpa using h2⟩
theorem szs_ne {n : Nat} (h2 : 2 ≤ n) (h6 : n ≤ 6) : szs n ≠ [] := by
  have : n = 2 ∨ n = 3 ∨ n = 4 ∨ n = 5 ∨ n = 6 := by omega
  rcases this with rfl | rfl | rfl | rfl | rfl <;> decide
theorem szs_len (n : Nat) : (szs n).length ≤ 3 := List.length_filter_le _ _
def foldT (s : Nat) (t : List Nat) : List Nat := t.map (· % s)
theorem fold_diff {s : Nat} {t : List Nat} (hs : s = 2 ∨ s = 3 ∨ s = 5) (ht : 1 ≤ t.length) : ∃ d, d < (foldT s t).length ∧ DiffP (foldT s t) s d := by
  have h := differ_pow s (foldT s t) (by omega) (fun z => by
    have : (foldT s t).length = t.length := List.length_map ..
    rw [z] at this
    simp at this
    omega) (fun x hx => by
    unfold foldT at hx
    obtain ⟨y, _, rfl⟩ := List.mem_map.mp hx
    exact Nat.mod_lt _ (by omega))
  refine Classical.byContradiction fun z => h fun d hd a b ha hb => ?_
  have e : ∀ q, q < s → sm (foldT s t) q (fun i => (i : Int) ^ d) = sm (foldT s t) 0 (fun i => (i : Int) ^ d) := fun q hq => Classical.byContradiction fun y => z ⟨d, hd, q, hq, y⟩
  rw [e a ha, e b hb]
section
variable {P : Program} {w : World} {K : PySem.W.Frag} {mg : Str → Option Value} {base : Heap} {C : Addr}
abbrev NCl : List Str := ["_law_text_here", "_law_players", "_law_found", "_law_size", "_law_folded", "_law_item"]
theorem scCl : FnScope NCl ["_law_text_here", "_law_players"] (C8.fnScope sClasses) := ⟨rfl, rfl, rfl, by decide +kernel, rfl, by decide +kernel, by decide +kernel⟩
def GoodD (t : List Nat) (n d : Nat) : Prop := ∃ s, (s = 2 ∨ s = 3 ∨ s = 5) ∧ n % s = 0 ∧ DiffP (foldT s t) s d
def spCl : Sp := fun vs H Q _ => ∃ (t : List Nat) (n : Nat), vs = [.str (tx t), .int (n : Int)] ∧ TOk t n ∧ t.length ≤ 1000 ∧ ∀ H' l (ds : List Nat), Same H H' → H' l = some (.lst (ds.map fun d : Nat => V.int (d : Int))) → ds ≠ [] → (∀ d ∈ ds, GoodD t n d) → Q (.ref l) H'
theorem ok_cl2 {f : Addr} {fd : FuncData} (T : Txt K mg C) (cO : C8.Cal P w K mg base 2 "_law_order" spLOrd []) (F : C8.Def K mg "_law_classes" sClasses f fd) (b : Binds K fd ["_law_text_here", "_law_players"] []) : C8.Cal P w K mg base 3 "_law_classes" spCl [] := by
  refine C8.cal0 F b .nil scCl (fun vs H Q E h => ?_) (fun cdv A outer s H vs Q E hr h => ?_)
  · obtain ⟨t, n, rfl, _⟩ := h
    rfl
  · obtain ⟨t, n, rfl, ok, ht, k⟩ := h
    have hlo := ok.lo
    have hhi := ok.hi
    have hpos := ok.pos
    refine ⟨_, pss_cons (ps_set (i := 2) scCl.nd rfl (.inl rfl) (pe_lst pa_nil))
      (pss_cons (ps_for PassesOwn.never rfl (pi_list (pe_lc (own := [("_law_size", 3)]) (g := gName 3) (te := tVar 3) rfl scCl.nd (pi_tup (pe_tup (pa_cons pe_int (pa_cons pe_int (pa_cons pe_int pa_nil))))) (blkOk_by (N := NCl) (sc := C8.fnScope sClasses) (by decide +kernel))
          (fun _ _ _ _ _ => pg_name (i := 3) scCl.nd rfl (Or.inl rfl)) (fun _ _ _ _ _ => pts_one (pt_cmpR op_eq (pe_op op_mod (pv 1) (pv 3)) pe_int (nomark _))) (fun _ _ _ _ _ => pv 3))) (pg_name (i := 3) scCl.nd rfl (Or.inr rfl))
        (pss_cons (ps_set (i := 4) scCl.nd rfl (.inl rfl) (pe_join (pe_str (x := SX.S [])) (pe_lc (own := [("_law_item", 5)]) (g := gName 5) (tt := tYes) (te := tOp rAtS (tC (.str ABC)) (tOp rModP (tIdx K (tVar 5)) (tVar 3))) rfl scCl.nd (pi_str (pv 0)) (blkOk_by (N := NCl) (sc := C8.fnScope sClasses) (by decide +kernel))
            (fun _ _ _ _ _ => pg_name (i := 5) scCl.nd rfl (Or.inl rfl)) (fun _ _ _ _ _ => pts_nil) (fun _ _ _ _ _ => pe_item_str (pe_str (x := ABC)) (pe_op op_mod (pe_bm PySem.F.plainAttrs_str PySem.F.slot_str_index PySem.F.type_str_index mt_idx (pe_str (x := ABC)) (pa_cons (pv 5) pa_nil)) (pv 3)) (fun _ _ => rfl)))))
          (pss_one (ps_expr (pe_bm PySem.F.plainAttrs_list PySem.F.slot_list_append PySem.F.type_list_append mt_append (pv 2) (pa_cons (C8.pe_c cO hr (by decide) rfl (pa_cons (pv 4) (pa_cons (pe_slice C8.sl_txt (pe_str (x := ABC)) po_none (po_some (pv 3))) pa_nil))) pa_nil))))))
      (pss_one (ps_ret (pv 2)))), ?_⟩
    refine ⟨Nat.zero_le _, fun q hq => ?_⟩
    have s1 : Same H (upd H q (.lst [])) := same_new hq
    refine ⟨by show 3 ≤ sizeLine; decide, fun tp htp => ?_⟩
    have s2 := s1.trans (same_new (o := .tup [.int 2, .int 3, .int 5]) htp)
    have hqtp : q ≠ tp := fun z => by rw [← z, upd_same] at htp; cases htp
    have ht2 : SqT K (upd (upd H q (.lst [])) tp (.tup [.int 2, .int 3, .int 5])) tp [.int 2, .int 3, .int 5] := sqt_new
    have hq2 : upd (upd H q (.lst [])) tp (.tup [.int 2, .int 3, .int 5]) q = some (.lst []) := by rw [upd_ne hqtp, upd_same]
    refine ⟨tp, rfl, ⟨_, ht2⟩, fun D hD => lc_it (walk_tup (xs := [V.int 2, V.int 3, V.int 5])) (PvF (upd (upd H q (.lst [])) tp (.tup [.int 2, .int 3, .int 5])) D fun i => ([2, 3, 5][i]?).bind fun s => (szF n s).map V.int) (pvF0 hD) (fun _ _ _ p => sameT p.1 ht2) (fun i x H2 H3 hi p y => ?_) fun H2 p => ?_⟩
    · obtain ⟨rfl, hx⟩ := y
      obtain ⟨s, hs0, rfl, ei⟩ : ∃ s : Nat, 0 < s ∧ x = .int (s : Int) ∧ ([2, 3, 5] : List Nat)[i]? = some s := by
        have hi3 : i < 3 := hi
        have : i = 0 ∨ i = 1 ∨ i = 2 := by omega
        rcases this with rfl | rfl | rfl
        · cases hx; exact ⟨2, by decide, rfl, rfl⟩
        · cases hx; exact ⟨3, by decide, rfl, rfl⟩
        · cases hx; exact ⟨5, by decide, rfl, rfl⟩
      have hF : (([2, 3, 5] : List Nat)[i]?.bind fun s => (szF n s).map V.int) = (szF n s).map V.int := by rw [ei]; rfl
      have hc : ((n : Nat) : Int) % ((s : Nat) : Int) = ((n % s : Nat) : Int) := by rw [Int.natCast_emod]
      refine ⟨rfl, _, rfl, _, rfl, _, _, rfl, rfl, by omega, rfl, decide (V.int (((n : Nat) : Int) % ((s : Nat) : Int)) = V.int 0), rfl, ?_⟩
      by_cases hz : n % s = 0
      · rw [decide_eq_true (by rw [hc, hz]; rfl)]
        exact iteT ⟨_, rfl, pvF_add (n := 3) hD hi (by decide) (by rw [hF]; unfold szF; rw [if_pos hz]; rfl) p⟩
      · rw [decide_eq_false (fun q => hz (by have := V.int.inj q; rw [hc] at this; omega))]
        exact iteF (pvF_skip (by rw [hF]; unfold szF; rw [if_neg hz]; rfl) p)
    · obtain ⟨s3, e3⟩ := p
      rw [show [V.int 2, V.int 3, V.int 5].length = 3 from rfl, szs_accF] at e3
      have sH := s2.trans s3
      have hq3 := s3 _ _ hq2
      have hDH : H D = none := s2.free hD
      have hqD : q ≠ D := fun z => by rw [← z, hq2] at hD; cases hD
      refine ⟨D, rfl, ⟨_, SqL.of e3⟩, for_it (walk_list (xs := (szs n).map fun s : Nat => V.int (s : Int))) (fun i σ4 H4 => (∃ v3 v4, σ4 = [some (.str (tx t)), some (.int (n : Int)), some (.ref q), v3, v4, none]) ∧ Same H H4 ∧ H4 D = some (.lst ((szs n).map fun s : Nat => V.int (s : Int))) ∧ ∃ ds : List Nat, ds.length = i ∧ H4 q = some (.lst (ds.map fun d : Nat => V.int (d : Int))) ∧ ∀ d ∈ ds, GoodD t n d)
        ⟨⟨_, _, rfl⟩, sH, e3, [], rfl, hq3, (fun d hd => (by cases hd))⟩ (fun i σ4 H4 _ p => SqL.of p.2.2.1) (fun i x σ4 H4 H5 hi p y => ?_) fun σ4 H4 p => ?_⟩
      · obtain ⟨rfl, hx⟩ := y
        obtain ⟨⟨v3, v4, rfl⟩, s4, d4, ds, hdl, q4, hgood⟩ := p
        rw [List.length_map] at hi
        rw [List.getElem?_map, List.getElem?_eq_getElem hi] at hx
        cases hx
        obtain ⟨hs5, hns⟩ := szs_mem (List.getElem_mem hi)
        generalize (szs n)[i] = s at hs5 hns ⊢
        have hsp : 0 < s := by omega
        have hs6 : s ≤ 6 := by omega
        refine ⟨⟨_, rfl⟩, _, rfl, tx t, rfl, fun D2 hD2 => lc_it walk_str (PvF H5 D2 fun i => t[i]?.map fun x => V.str (tx [x % s])) (pvF0 hD2) (fun _ _ _ _ => trivial) (fun i x H6 H7 hi pv y => ?_) fun H6 pv => ?_⟩
        · obtain ⟨rfl, c, hc, rfl⟩ := y
          obtain ⟨z, hz, rfl⟩ := tx_at hc
          have hzn := ok.mem z (List.mem_of_getElem? hz)
          have hm : z % s < s := Nat.mod_lt _ hsp
          have hcz : ((z : Nat) : Int) % ((s : Nat) : Int) = ((z % s : Nat) : Int) := by rw [Int.natCast_emod]
          rw [tx_size] at hi
          refine ⟨rfl, rfl, _, rfl, z, rfl, rfl, by omega, _, rfl, _, _, rfl, rfl, by omega, ABC, _, z % s + 65, rfl, rfl, ?_, ?_, ?_, ?_, ?_⟩
          · rw [hcz]; omega
          · rw [hcz]; omega
          · rw [hcz, abc_len]; omega
          · show ABC.cps[(((z : Nat) : Int) % ((s : Nat) : Int)).toNat]? = _
            rw [hcz, Int.toNat_natCast]
            exact abc_at (by omega)
          · exact pvF_add hD2 hi (by omega) (by rw [hz]; rfl) pv
        · obtain ⟨s6, e6⟩ := pv
          rw [tx_size, accF_get] at e6
          have ef : (t.map fun x => [x % s]).flatten = foldT s t := by
            rw [← flat1 (foldT s t)]
            unfold foldT
            rw [List.map_map]
            rfl
          have hfl : (foldT s t).length = t.length := List.length_map ..
          refine ⟨SX.S [], D2, (t.map fun x => [x % s]).map tx, rfl, rfl, .inl (.inl (.inl ?_)), joinZ ?_, ?_⟩
          · rw [e6, List.map_map, List.map_map]
            rfl
          · rw [ef, hfl]
            omega
          · rw [join_tx, ef]
            have q6 := s6 _ _ q4
            refine ⟨_, rfl, .inl ⟨rfl, _, SqL.of q6⟩, _, rfl, _, rfl, _, rfl, ABC, rfl, by decide, ?_⟩
            rw [slice_abc hs6]
            refine ⟨foldT s t, s, rfl, by omega, by omega, by omega, hs6, fold_diff hs5 hpos, fun H8 d s8 hdif => ?_⟩
            have q8 := s8 _ _ q6
            have hi3 := szs_len n
            refine ⟨q, _, _, rfl, rfl, q8, by rw [List.length_map, sizeLine_eq]; omega, ⟨_, _, rfl⟩, same_upd hq ((s4.trans s6).trans s8), ?_, ds ++ [d], by rw [List.length_append, hdl]; rfl, by rw [upd_same, List.map_append]; rfl, fun d' hd' => ?_⟩
            · rw [upd_ne (Ne.symm hqD)]
              exact s8 _ _ (s6 _ _ d4)
            · rcases List.mem_append.mp hd' with z | z
              · exact hgood d' z
              · rw [List.mem_singleton.mp z]
                exact ⟨s, hs5, hns, hdif⟩
      · obtain ⟨⟨v3, v4, rfl⟩, s4, d4, ds, hdl, q4, hgood⟩ := p
        rw [List.length_map] at hdl
        have hne : ds ≠ [] := fun z => szs_ne hlo hhi (List.eq_nil_of_length_eq_zero (by rw [← hdl, z]; rfl))
        exact ⟨_, rfl, k H4 q ds s4 q4 hne hgood⟩
end
end TB

set_option maxRecDepth 100000
set_option maxHeartbeats 8000000
set_option exponentiation.threshold 1000
namespace TB
open PySem PySem.Spec PyProof.Rows L2
theorem bl_neq {x y : V} (h : x = y) : V.bl (!decide (x = y)) = V.bl false := by rw [decide_eq_true h]; rfl
theorem FsAt.sb {C p : Addr} {H H' : Hp} {as_ : List Addr} {fs : List (List Nat)} {n : Nat} (h : FsAt C H as_ fs n) (s : SB p H H') (hp : Pool H p) : FsAt C H' as_ fs n := ⟨h.len, fun i a f h1 h2 => (h.at_ i a f h1 h2).sb s hp, h.ok⟩
theorem ref_ne_pool {as_ : List Addr} {x y : Int} (h : (.lst (as_.map V.ref) : HO) = .lst [.int x, .int y]) : False := by
  injection h with h
  cases as_ with
  | nil => cases h
  | cons a as_ => rw [List.map_cons] at h; injection h with h1 _; cases h1
theorem FL.ne {C p l : Addr} {H : Hp} {fs : List (List Nat)} {n : Nat} (h : FL C H l fs n) (hp : Pool H p) : l ≠ p := fun z => by
  obtain ⟨as_, e, _⟩ := h.ex
  obtain ⟨x, y, q, _⟩ := hp
  rw [z, q] at e
  exact ref_ne_pool (Option.some.inj e).symm
theorem FL.sb {C p l : Addr} {H H' : Hp} {fs : List (List Nat)} {n : Nat} (h : FL C H l fs n) (s : SB p H H') (hp : Pool H p) : FL C H' l fs n := by
  have hne := h.ne hp
  obtain ⟨as_, e, f⟩ := h.ex
  exact ⟨⟨as_, s _ _ hne e, f.sb s hp⟩, h.lo, h.hi⟩
theorem FsAt.tail {C : Addr} {H : Hp} {a : Addr} {as_ : List Addr} {f : List Nat} {fs : List (List Nat)} {n : Nat} (h : FsAt C H (a :: as_) (f :: fs) n) : FsAt C H as_ fs n :=
  ⟨by have := h.len; simpa using this, fun i b g h1 h2 => h.at_ (i + 1) b g h1 h2, fun g hg => h.ok g (List.mem_cons_of_mem _ hg)⟩
theorem FsAt.cons {C : Addr} {H : Hp} {a : Addr} {as_ : List Addr} {f : List Nat} {fs : List (List Nat)} {n : Nat} (h : FsAt C H as_ fs n) (t : TnAt C H a f n) (o : TOk f n) : FsAt C H (a :: as_) (f :: fs) n :=
  ⟨by rw [List.length_cons, List.length_cons, h.len], fun i b g h1 h2 => by
    cases i with
    | zero => cases h1; cases h2; exact t
    | succ i => exact h.at_ i b g h1 h2, fun g hg => by
    rcases List.mem_cons.mp hg with rfl | z
    · exact o
    · exact h.ok g z⟩
theorem FsAt.nil {C : Addr} {H : Hp} {n : Nat} : FsAt C H [] [] n := ⟨rfl, fun i a f h => (by cases h), fun f h => (by cases h)⟩
theorem cut_from (xs : List V) (k : Nat) (h : k ≤ xs.length) : cutV xs (some (k : Int)) none = xs.drop k := by
  unfold cutV
  rw [HT.sIx_nat, Nat.min_eq_left h, HT.sIx_none, List.take_of_length_le (by rw [List.length_drop]; exact Nat.le_refl _)]
theorem pl_two {xs : List (List Nat)} (h : ∀ f ∈ xs, f.length ≤ 9) (hl : xs.length ≤ 100) : pl xs < 2 ^ 401 := by
  have h1 := pl_le h
  have h2 : 9 ^ xs.length ≤ 16 ^ xs.length := Nat.pow_le_pow_left (by decide) _
  have h3 : 16 ^ xs.length ≤ 16 ^ 100 := Nat.pow_le_pow_right (by decide) hl
  have h4 : 16 ^ 100 < 2 ^ 401 := by decide
  omega
section
variable {P : Program} {w : World} {K : PySem.W.Frag} {mg : Str → Option Value} {base : Heap} {C : Addr}
abbrev NRt : List Str := ["_law_pool", "_law_some", "_law_players", "_law_size", "_law_rest", "_law_inner", "_law_turn", "_law_place_here", "_law_due", "_law_high", "_law_at"]
theorem scRt : FnScope NRt ["_law_pool", "_law_some", "_law_players"] (C8.fnScope sRight) := ⟨rfl, rfl, rfl, by decide +kernel, rfl, by decide +kernel, by decide +kernel⟩
abbrev spPr (C : Addr) : Sp := fun vs H Q E => ∃ (a b : Addr) (f g : List Nat) (n : Nat), vs = [.ref a, .ref b] ∧ TnAt C H a f n ∧ TnAt C H b g n ∧ TOk f n ∧ TOk g n ∧ f.length * g.length ≤ 2000 ∧ ∀ H' c, Same H H' → TnAt C H' c (pr n f g) n → Q (.ref c) H'
def spRt (C : Addr) : Sp := fun vs H Q _ => ∃ (p l : Addr) (fs : List (List Nat)) (n : Nat), vs = [.ref p, .ref l, .int (n : Int)] ∧ Pool H p ∧ FL C H l fs n ∧ 2 ≤ fs.length ∧ fs.length ≤ 100 ∧ (∀ f ∈ fs, f.length ≤ 9) ∧ ∀ H', SB p H H' → Pool H' p → Q (.bl true) H'
theorem ok_rt {f : Addr} {fd : FuncData} (T : Txt K mg C) (cLen : LenOf P w K mg base 1 C) (cLO : C8.Cal P w K mg base 5 "length_of" (spLO C) []) (cTA : C8.Cal P w K mg base 6 "turn_at" (spTA C) []) (cTB : C8.Cal P w K mg base 6 "text_between" (spTB C) []) (cPr : CalR P w K mg base 6 "product" (spPr C))
    (cPl : C8.Cal P w K mg base 2 "_law_place" spPlace []) (cAd : C8.Cal P w K mg base 1 "_law_added" spAdded []) (F : C8.Def K mg "_law_right" sRight f fd) (b : Binds K fd ["_law_pool", "_law_some", "_law_players"] []) : C8.Cal P w K mg base 7 "_law_right" (spRt C) [] := by
  refine C8.cal0 F b .nil scRt (fun vs H Q E h => ?_) (fun cdv A outer s H vs Q E hr h => ?_)
  · obtain ⟨p, l, fs, n, rfl, _⟩ := h
    rfl
  · obtain ⟨p, l, fs, n, rfl, hp, hl, h2, h100, h9, k⟩ := h
    refine ⟨_, pss_cons (ps_par (i := 3) (j := 4) rfl scRt.nd rfl rfl (by decide) rfl rfl (pa_cons (C8.pe_c cLO hr (by decide) rfl (pa_cons (pv 1) pa_nil)) (pa_cons (pe_slice sl_list (pv 1) (po_some pe_int) po_none) pa_nil)) rfl)
      (pss_cons (ps_set (i := 5) scRt.nd rfl (.inl rfl) (C8.pe_c cLO hr (by decide) rfl (pa_cons (pv 4) pa_nil)))
      (pss_cons (ps_if (pt_cmpR op_ne (pv 3) (pe_op op_mul (pe_callB (call_lenT cLen hr (by decide)) (by rfl) T.len PySem.boot_len (pa_cons (pe_ix ix_list (pv 1) pe_int (fun _ _ => rfl)) pa_nil)) (pv 5)) (nomark _)) (pss_one ps_never) pss_nil)
      (pss_cons (ps_for PassesOwn.never rfl (pi_range1 rfl T.range (pa_cons pe_int pa_nil)) (pg_name (i := 6) scRt.nd rfl (Or.inl rfl))
        (pss_cons (ps_set (i := 7) scRt.nd rfl (.inl rfl) (C8.pe_c cPl hr (by decide) rfl (pa_cons (pv 0) (pa_cons (pv 3) pa_nil))))
        (pss_cons (ps_set (i := 8) scRt.nd rfl (.inl rfl) (C8.pe_c cAd hr (by decide) rfl (pa_cons (C8.pe_c cTA hr (by decide) rfl (pa_cons (pe_lst (pa_cons (pe_ix ix_list (pv 1) pe_int (fun _ _ => rfl)) pa_nil)) (pa_cons (pe_op op_fdivW (pv 7) (pv 5)) pa_nil)))
            (pa_cons (C8.pe_c cTA hr (by decide) rfl (pa_cons (pv 4) (pa_cons (pe_op op_mod (pv 7) (pv 5)) pa_nil))) (pa_cons (pv 2) pa_nil)))))
        (pss_cons (ps_if (pt_cmpR op_ne (C8.pe_c cTA hr (by decide) rfl (pa_cons (pv 1) (pa_cons (pv 7) pa_nil))) (pv 8) (nomark _)) (pss_one ps_never) pss_nil)
        (pss_cons (ps_if (pt_cmpR op_ne (C8.pe_c cTA hr (by decide) rfl (pa_cons (pe_op op_cat (pe_lst (pa_cons (pe_callR cPr hr (by decide) rfl (pa_cons (pe_ix ix_list (pv 1) pe_int (fun _ _ => rfl)) (pa_cons (pe_ix ix_list (pv 1) pe_int (fun _ _ => rfl)) pa_nil))) pa_nil)) (pe_slice sl_list (pv 1) (po_some pe_int) po_none)) (pa_cons (pv 7) pa_nil))) (pv 8) (nomark _)) (pss_one ps_never) pss_nil)
        (pss_cons (ps_set (i := 9) scRt.nd rfl (.inl rfl) (pe_callB (call_min2 rfl) (by rfl) T.min (by decide +kernel) (pa_cons (pv 3) (pa_cons (pe_op op_add (pv 7) pe_int) pa_nil))))
        (pss_one (ps_if (pt_cmpR op_ne (C8.pe_c cTB hr (by decide) rfl (pa_cons (pv 1) (pa_cons (pv 7) (pa_cons (pv 9) pa_nil)))) (pe_join (pe_str (x := SX.S [])) (pe_lc (own := [("_law_at", 10)]) (g := gName 10) (tt := tYes) (te := tCall (spTA C) [] C8.E0 (tCons (tVar 1) (tCons (tVar 10) tNil))) rfl scRt.nd (pi_range2L rfl T.range (pa_cons (pv 7) (pa_cons (pv 9) pa_nil))) (blkOk_by (N := NRt) (sc := C8.fnScope sRight) (by decide +kernel))
            (fun _ _ _ _ _ => pg_name (i := 10) scRt.nd rfl (Or.inl rfl)) (fun _ _ _ _ _ => pts_nil) (fun _ _ _ _ _ => C8.pe_c cTA hr (by decide) rfl (pa_cons (pv 1) (pa_cons (pv 10) pa_nil))))) (nomark _)) (pss_one ps_never) pss_nil))))))))
      (pss_one (ps_ret pe_bl))))), ?_⟩
    obtain ⟨as_, e, hf⟩ := hl.ex
    match fs, as_, h2, hf, e, hl, h100, h9, k with
    | f0 :: f1 :: fr, [], _, hf, _, _, _, _, _ => exact absurd hf.len (by simp)
    | f0 :: f1 :: fr, [a0], _, hf, _, _, _, _, _ => exact absurd hf.len (by simp)
    | f0 :: f1 :: fr, a0 :: a1 :: ar, _, hf, e, hl, h100, h9, k =>
    have okf0 := hf.ok f0 (by simp)
    have okf1 := hf.ok f1 (by simp)
    have hn2 := okf0.lo
    have hn6 := okf0.hi
    have hl0 := h9 f0 (by simp)
    have hl1 := h9 f1 (by simp)
    have hp0 := okf0.pos
    have hp1 := okf1.pos
    have hpos : 0 < pl (f0 :: f1 :: fr) := pl_pos fun g hg => (hf.ok g hg).pos
    have hposr : 0 < pl (f1 :: fr) := pl_pos fun g hg => (hf.tail.ok g hg).pos
    have hple : pl (f0 :: f1 :: fr) = f0.length * pl (f1 :: fr) := rfl
    have hlen : fr.length + 2 ≤ 100 := h100
    have hw : pl (f1 :: fr) < 2 ^ 401 := pl_two (fun g hg => h9 g (List.mem_cons_of_mem _ hg)) (by show fr.length + 1 ≤ 100; omega)
    refine ⟨_, rfl, l, f0 :: f1 :: fr, n, rfl, hl, h100, fun H1 s1 => ?_⟩
    have e1 := s1 _ _ e
    refine ⟨_, rfl, _, rfl, l, _, rfl, SqL.of e1, fun r hr => ?_⟩
    rw [show cutV ((a0 :: a1 :: ar).map V.ref) (some 1) none = (a1 :: ar).map V.ref from cut_from _ 1 (by simp)]
    have hl2 : FL C (upd H1 r (.lst ((a1 :: ar).map V.ref))) l (f0 :: f1 :: fr) n := (hl.same s1).same (same_new hr)
    have hr2 : FL C (upd H1 r (.lst ((a1 :: ar).map V.ref))) r (f1 :: fr) n := ⟨⟨a1 :: ar, upd_same, ((hf.same s1).same (same_new hr)).tail⟩, by simp, by show fr.length + 1 ≤ 101; omega⟩
    have s2 : Same H (upd H1 r (.lst ((a1 :: ar).map V.ref))) := s1.trans (same_new hr)
    generalize upd H1 r (.lst ((a1 :: ar).map V.ref)) = H2 at hl2 hr2 s2 ⊢
    refine ⟨_, _, rfl, _, rfl, r, f1 :: fr, n, rfl, hr2, by show fr.length + 1 ≤ 100; omega, fun H3 s3 => ?_⟩
    have e3 := s3 _ _ (s2 _ _ e)
    have ht0 : TnAt C H3 a0 f0 n := (hf.at_ 0 a0 f0 rfl rfl).same (s2.trans s3)
    refine ⟨_, rfl, _, rfl, l, _, _, _, rfl, rfl, SqL.of e3, atI_nat (j := 0) (xs := (a0 :: a1 :: ar).map V.ref) rfl, a0, f0, n, rfl, ht0, okf0.len, _, rfl, _, _, rfl, rfl, .inl ⟨by omega, by omega⟩, rfl, false, ?_, iteF ?_⟩
    · show V.bl (!decide (V.int ((pl (f0 :: f1 :: fr) : Nat) : Int) = V.int (((f0.length : Nat) : Int) * ((pl (f1 :: fr) : Nat) : Int)))) = V.bl false
      rw [hple, Int.natCast_mul, decide_eq_true rfl]
      rfl
    · refine ⟨6, rfl, by decide, by decide, for_range (n := 6) (fun i σ H4 => (∃ v6 v7 v8 v9, σ = [some (.ref p), some (.ref l), some (.int (n : Int)), some (.int ((pl (f0 :: f1 :: fr) : Nat) : Int)), some (.ref r), some (.int ((pl (f1 :: fr) : Nat) : Int)), v6, v7, v8, v9, none]) ∧ SB p H H4 ∧ Pool H4 p ∧ FL C H4 l (f0 :: f1 :: fr) n ∧ FL C H4 r (f1 :: fr) n)
        ⟨⟨_, _, _, _, rfl⟩, SB.of (s2.trans s3), hp.same (s2.trans s3), hl2.same s3, hr2.same s3⟩ (fun i σ H4 hi q => ?_) fun σ H4 q => ?_⟩
      · obtain ⟨⟨v6, v7, v8, v9, rfl⟩, s4, p4, l4, r4⟩ := q
        refine ⟨_, rfl, _, rfl, p, pl (f0 :: f1 :: fr), rfl, p4, hpos, fun H5 x s5 p5 hx => ?_⟩
        have l5 := l4.sb s5 p4
        have r5 := r4.sb s5 p4
        have sH5 := s4.trans s5
        obtain ⟨as5, e5, hf5⟩ := l5.ex
        match as5, e5, hf5 with
        | [], _, hf5 => exact absurd hf5.len (by simp)
        | [b0], _, hf5 => exact absurd hf5.len (by simp)
        | b0 :: b1 :: br, e5, hf5 =>
        have tb0 : TnAt C H5 b0 f0 n := hf5.at_ 0 b0 f0 rfl rfl
        have hq0 : x / pl (f1 :: fr) < pl [f0] := by
          rw [show pl [f0] = f0.length * 1 from rfl, Nat.mul_one]
          exact Nat.div_lt_of_lt_mul (by rw [Nat.mul_comm, ← hple]; exact hx)
        have hq1 : x % pl (f1 :: fr) < pl (f1 :: fr) := Nat.mod_lt _ hposr
        have hdiv : ((x : Nat) : Int) / ((pl (f1 :: fr) : Nat) : Int) = ((x / pl (f1 :: fr) : Nat) : Int) := by rw [Int.natCast_ediv]
        have hmod : ((x : Nat) : Int) % ((pl (f1 :: fr) : Nat) : Int) = ((x % pl (f1 :: fr) : Nat) : Int) := by rw [Int.natCast_emod]
        -- due
        refine ⟨_, rfl, l, _, _, _, rfl, rfl, SqL.of e5, atI_nat (j := 0) (xs := (b0 :: b1 :: br).map V.ref) rfl, (by show 1 ≤ sizeLine; decide), fun q hq => ?_⟩
        have sq : Same H5 (upd H5 q (.lst [V.ref b0])) := same_new hq
        have fq : FL C (upd H5 q (.lst [V.ref b0])) q [f0] n := ⟨⟨[b0], upd_same, FsAt.cons FsAt.nil (tb0.same sq) okf0⟩, (by show 1 ≤ 1; decide), (by show 1 ≤ 101; decide)⟩
        have l6 := l5.same sq
        have r6 := r5.same sq
        have p6 := p5.same sq
        have sH6 : SB p H (upd H5 q (.lst [V.ref b0])) := sH5.trans (SB.of sq)
        generalize upd H5 q (.lst [V.ref b0]) = H6 at sq fq l6 r6 p6 sH6 ⊢
        refine ⟨_, rfl, _, rfl, _, _, rfl, rfl, wide_div (by omega) (b := 401) (by rw [Int.natAbs_natCast]; exact hw) (by decide) (by decide), q, [f0], n, x / pl (f1 :: fr), ?_, fq, (by show 1 ≤ 100; decide), hq0, fun H7 s7 => ?_⟩
        · show [V.ref q, V.int (((x : Nat) : Int) / ((pl (f1 :: fr) : Nat) : Int))] = _
          rw [hdiv]
        refine ⟨_, rfl, _, rfl, _, rfl, _, _, rfl, rfl, by omega, r, f1 :: fr, n, x % pl (f1 :: fr), ?_, r6.same s7, by show fr.length + 1 ≤ 100; omega, hq1, fun H8 s8 => ?_⟩
        · show [V.ref r, V.int (((x : Nat) : Int) % ((pl (f1 :: fr) : Nat) : Int))] = _
          rw [hmod]
        refine ⟨_, rfl, at' n [f0] (x / pl (f1 :: fr)), at' n (f1 :: fr) (x % pl (f1 :: fr)), n, rfl, Nat.lt_of_lt_of_le (at_lt (by omega) _ _) hn6, Nat.lt_of_lt_of_le (at_lt (by omega) _ _) hn6, by omega, hn6, ?_⟩
        rw [← at_split]
        have l8 := l6.same (s7.trans s8)
        have r8 := r6.same (s7.trans s8)
        have p8 := p6.same (s7.trans s8)
        have sH8 : SB p H H8 := sH6.trans (SB.of (s7.trans s8))
        -- the place itself
        refine ⟨_, rfl, _, rfl, l, f0 :: f1 :: fr, n, x, rfl, l8, h100, hx, fun H9 s9 => ?_⟩
        refine ⟨_, rfl, rfl, false, bl_neq rfl, iteF ?_⟩
        have l9 := l8.same s9
        obtain ⟨as9, e9, hf9⟩ := l9.ex
        match as9, e9, hf9 with
        | [], _, hf9 => exact absurd hf9.len (by simp)
        | [c0], _, hf9 => exact absurd hf9.len (by simp)
        | c0 :: c1 :: cr, e9, hf9 =>
        -- grouped
        refine ⟨_, rfl, l, _, _, _, rfl, rfl, SqL.of e9, atI_nat (j := 0) (xs := (c0 :: c1 :: cr).map V.ref) rfl, _, rfl, l, _, _, _, rfl, rfl, SqL.of e9, atI_nat (j := 1) (xs := (c0 :: c1 :: cr).map V.ref) rfl, c0, c1, f0, f1, n, rfl, hf9.at_ 0 c0 f0 rfl rfl, hf9.at_ 1 c1 f1 rfl rfl, okf0, okf1, ?_, fun Ha c sa tc => ?_⟩
        · exact Nat.le_trans (Nat.mul_le_mul hl0 hl1) (by decide)
        refine ⟨by show 1 ≤ sizeLine; decide, fun q2 hq2 => ?_⟩
        have eb := (same_new (o := .lst [V.ref c]) hq2) _ _ (sa _ _ e9)
        refine ⟨_, rfl, _, rfl, l, _, rfl, SqL.of eb, fun q3 hq3 => ?_⟩
        rw [show cutV ((c0 :: c1 :: cr).map V.ref) (some 2) none = cr.map V.ref from cut_from _ 2 (by simp)]
        have hq23 : q2 ≠ q3 := fun z => by rw [← z, upd_same] at hq3; cases hq3
        have sb2 : Same Ha (upd (upd Ha q2 (.lst [V.ref c])) q3 (.lst (cr.map V.ref))) := (same_new hq2).trans (same_new hq3)
        refine ⟨q2, q3, [V.ref c], cr.map V.ref, rfl, rfl, by rw [upd_ne hq23, upd_same], upd_same, ?_, fun q4 hq4 => ?_⟩
        · have := hf9.len
          simp only [List.length_cons] at this
          rw [List.length_map, sizeLine_eq]
          show 1 + cr.length ≤ 16777216
          omega
        have sc := sb2.trans (same_new (o := .lst ([V.ref c] ++ cr.map V.ref)) hq4)
        have okp := pr_ok okf0 okf1 (Nat.le_trans (Nat.mul_le_mul hl0 hl1) (by decide))
        have gq : FL C (upd (upd (upd Ha q2 (.lst [V.ref c])) q3 (.lst (cr.map V.ref))) q4 (.lst ([V.ref c] ++ cr.map V.ref))) q4 (pr n f0 f1 :: fr) n :=
          ⟨⟨c :: cr, upd_same, FsAt.cons (((hf9.same sa).same sc).tail.tail) (tc.same sc) okp⟩, by simp, by show fr.length + 1 ≤ 101; omega⟩
        have ld := (l9.same sa).same sc
        have rd := ((r8.same s9).same sa).same sc
        have pd := ((p8.same s9).same sa).same sc
        have sHd : SB p H (upd (upd (upd Ha q2 (.lst [V.ref c])) q3 (.lst (cr.map V.ref))) q4 (.lst ([V.ref c] ++ cr.map V.ref))) := sH8.trans (SB.of ((s9.trans sa).trans sc))
        generalize upd (upd (upd Ha q2 (.lst [V.ref c])) q3 (.lst (cr.map V.ref))) q4 (.lst ([V.ref c] ++ cr.map V.ref)) = Hd at gq ld rd pd sHd ⊢
        have hplg : pl (pr n f0 f1 :: fr) = pl (f0 :: f1 :: fr) := by
          show (pr n f0 f1).length * pl fr = f0.length * (f1.length * pl fr)
          rw [pr_len, Nat.mul_assoc]
        refine ⟨_, rfl, q4, pr n f0 f1 :: fr, n, x, rfl, gq, by show fr.length + 1 ≤ 100; omega, by rw [hplg]; exact hx, fun He se => ?_⟩
        rw [at_group n f0 f1 fr x hp0 hp1]
        refine ⟨_, rfl, rfl, false, bl_neq rfl, iteF ?_⟩
        -- the range
        have le := ld.same se
        have re := rd.same se
        have pe := pd.same se
        have sHe : SB p H He := sHd.trans (SB.of se)
        refine ⟨_, rfl, _, rfl, _, _, rfl, rfl, _, _, rfl, ?_⟩
        obtain ⟨m, hm5, hm1, hme⟩ : ∃ m : Nat, m ≤ 5 ∧ x + m ≤ pl (f0 :: f1 :: fr) ∧ (if ((x : Nat) : Int) + 5 < ((pl (f0 :: f1 :: fr) : Nat) : Int) then ((x : Nat) : Int) + 5 else ((pl (f0 :: f1 :: fr) : Nat) : Int)) = ((x + m : Nat) : Int) := by
          by_cases hc : ((x : Nat) : Int) + 5 < ((pl (f0 :: f1 :: fr) : Nat) : Int)
          · exact ⟨5, by decide, by omega, by rw [if_pos hc]; omega⟩
          · exact ⟨pl (f0 :: f1 :: fr) - x, by omega, by omega, by rw [if_neg hc]; omega⟩
        rw [hme]
        refine ⟨_, rfl, _, rfl, _, rfl, l, f0 :: f1 :: fr, n, x, m, rfl, le, h100, hm1, by omega, fun Hf sf => ?_⟩
        have lf := le.same sf
        refine ⟨⟨_, rfl⟩, _, rfl, _, rfl, (x : Int), m, ?_, fun D hD => lc_it walk_range (PvF Hf D fun o => some (.str (tx [at' n (f0 :: f1 :: fr) (x + o)]))) (pvF0 hD) (fun _ _ _ _ => trivial) (fun j y Hg Hh hj pv yy => ?_) fun Hg pv => ?_⟩
        · show [V.int ((x : Nat) : Int), V.int ((x + m : Nat) : Int)] = [V.int ((x : Nat) : Int), V.int (((x : Nat) : Int) + ((m : Nat) : Int))]
          rw [Int.natCast_add]
        · obtain ⟨rfl, rfl⟩ := yy
          refine ⟨rfl, _, rfl, _, rfl, l, f0 :: f1 :: fr, n, x + j, ?_, lf.same pv.1, h100, by omega, fun Hi si => ?_⟩
          · show [V.ref l, V.int (((x : Nat) : Int) + ((j : Nat) : Int))] = [V.ref l, V.int ((x + j : Nat) : Int)]
            rw [Int.natCast_add]
          · exact pvF_add hD hj (by omega) rfl (pvF_same pv si)
        · have ej : (List.range m).map (fun o => [at' n (f0 :: f1 :: fr) (x + o)]) = (tbw n (f0 :: f1 :: fr) x m).map fun x => [x] := by
            unfold tbw
            rw [List.map_map]
            rfl
          refine ⟨SX.S [], D, ((tbw n (f0 :: f1 :: fr) x m).map fun x => [x]).map tx, rfl, rfl, .inl (.inl (.inl ?_)), joinZ ?_, ?_⟩
          · rw [pv.2, accF_map, ← ej, List.map_map, List.map_map]
            rfl
          · rw [flat1]
            unfold tbw
            rw [List.length_map, List.length_range]
            omega
          · rw [join_tx, flat1]
            have sfg := sf.trans pv.1
            exact ⟨rfl, false, bl_neq rfl, iteF ⟨⟨_, _, _, _, rfl⟩, sHe.trans (SB.of sfg), pe.same sfg, le.same sfg, re.same sfg⟩⟩
      · obtain ⟨_, s4, p4, _⟩ := q
        exact k H4 s4 p4
end
end TB

set_option maxRecDepth 100000
set_option maxHeartbeats 8000000
namespace TB
open PySem PySem.Spec PyProof.Rows L2
theorem FsAt.app {C : Addr} {H : Hp} {as_ bs : List Addr} {fs gs : List (List Nat)} {n : Nat} (h : FsAt C H as_ fs n) (g : FsAt C H bs gs n) : FsAt C H (as_ ++ bs) (fs ++ gs) n := by
  refine ⟨by rw [List.length_append, List.length_append, h.len, g.len], fun i a f h1 h2 => ?_, fun f hf => ?_⟩
  · have hl := h.len
    by_cases hi : i < as_.length
    · rw [List.getElem?_append_left hi] at h1
      rw [List.getElem?_append_left (by omega)] at h2
      exact h.at_ i a f h1 h2
    · rw [List.getElem?_append_right (by omega)] at h1
      rw [List.getElem?_append_right (by omega), ← hl] at h2
      exact g.at_ _ a f h1 h2
  · rcases List.mem_append.mp hf with z | z
    · exact h.ok f z
    · exact g.ok f z
theorem FsAt.rep {C : Addr} {H : Hp} {a : Addr} {f : List Nat} {n : Nat} (m : Nat) (t : TnAt C H a f n) (o : TOk f n) : FsAt C H (List.replicate m a) (List.replicate m f) n := by
  induction m with
  | zero => exact FsAt.nil
  | succ m ih => exact FsAt.cons ih t o
theorem FsAt.rev {C : Addr} {H : Hp} {as_ : List Addr} {fs : List (List Nat)} {n : Nat} (h : FsAt C H as_ fs n) : FsAt C H as_.reverse fs.reverse n := by
  refine ⟨by rw [List.length_reverse, List.length_reverse, h.len], fun i a f h1 h2 => ?_, fun f hf => h.ok f (List.mem_reverse.mp hf)⟩
  have hi : i < as_.length := by
    have := (List.getElem?_eq_some_iff.mp h1).1
    rwa [List.length_reverse] at this
  rw [List.getElem?_reverse hi] at h1
  rw [List.getElem?_reverse (by rw [← h.len]; exact hi), ← h.len] at h2
  exact h.at_ _ a f h1 h2
theorem rep_map (m : Nat) (a : Addr) : (List.replicate m [V.ref a]).flatten = (List.replicate m a).map V.ref := by
  induction m with
  | zero => rfl
  | succ m ih => rw [List.replicate_succ, List.flatten_cons, ih, List.replicate_succ]; rfl
/-! uses of makings -/
abbrev tMk (C : Addr) (tt : TE) (n : Int) : TE := tMake C (spInit C) [] C8.E0 (tCons tt (tCons (tC (.int n)) tNil))
abbrev tPw (C : Addr) (tt : TE) (n : Int) (tv : TE) : TE := tOp rRep (tLst (tCons (tMk C tt n) tNil)) tv
section
variable {C : Addr} {σ : L2.St} {H : Hp} {Q : VK} {tt tv tu tw : TE} {t f : List Nat} {n m k : Nat}
theorem use_mk (ht : ∀ R : VK, R (.str (tx t)) H → tt σ H R) (ok : TOk t n) (k : ∀ H' a, Same H H' → TnAt C H' a t n → Q (.ref a) H') : tMk C tt (n : Int) σ H Q :=
  ht _ fun x dx hx hdx hne => ⟨x, dx, t, n, rfl, upd_same, ok, fun H5 k5 t5 => ⟨rfl, k _ x (made_same hx hdx k5) t5⟩⟩
theorem use_pw (ht : ∀ R : VK, R (.str (tx t)) H → tt σ H R) (hv : ∀ H' (R : VK), R (.int (m : Int)) H' → tv σ H' R) (ok : TOk t n) (h1 : 1 ≤ m) (h2 : m ≤ 101) (k : ∀ H' l, Same H H' → FL C H' l (List.replicate m t) n → Q (.ref l) H') : tPw C tt (n : Int) tv σ H Q := by
  show tMk C tt (n : Int) σ H (fun x H1 => [x].length ≤ sizeLine ∧ ∀ p, H1 p = none → tv σ (upd H1 p (.lst [x])) fun y H2 => rRep (.ref p) y H2 Q)
  refine use_mk ht ok fun H1 a s1 ta => ⟨by show 1 ≤ sizeLine; decide, fun p hp => hv _ _ ⟨p, (m : Int), [.ref a], rfl, rfl, upd_same, by omega, by omega, ?_, fun q hq => ?_⟩⟩
  · rw [Int.toNat_natCast, sizeLine_eq]
    show 1 * m ≤ _
    omega
  · rw [Int.toNat_natCast, rep_map]
    have s2 := (same_new (o := .lst [V.ref a]) hp).trans (same_new (o := .lst ((List.replicate m a).map V.ref)) hq)
    exact k _ q (s1.trans s2) ⟨⟨_, upd_same, FsAt.rep m (ta.same s2) ok⟩, by rw [List.length_replicate]; exact h1, by rw [List.length_replicate]; exact h2⟩
theorem use_mix (ht : ∀ R : VK, R (.str (tx t)) H → tt σ H R) (hv : ∀ H' (R : VK), R (.int (m : Int)) H' → tv σ H' R) (hu : ∀ H' (R : VK), R (.str (tx f)) H' → tu σ H' R) (hw : ∀ H' (R : VK), R (.int (k : Int)) H' → tw σ H' R) (ok : TOk t n) (of : TOk f n) (h1 : 1 ≤ m) (h2 : m ≤ 50) (h3 : 1 ≤ k) (h4 : k ≤ 50)
    (kk : ∀ H' l, Same H H' → FL C H' l (List.replicate m t ++ List.replicate k f) n → Q (.ref l) H') : tOp rCat (tPw C tt (n : Int) tv) (tPw C tu (n : Int) tw) σ H Q := by
  show tPw C tt (n : Int) tv σ H (fun x H1 => tPw C tu (n : Int) tw σ H1 fun y H2 => rCat x y H2 Q)
  refine use_pw ht hv ok h1 (by omega) fun H1 l1 s1 fl1 => use_pw (hu H1) hw of h3 (by omega) fun H2 l2 s2 fl2 => ?_
  obtain ⟨as1, e1, q1⟩ := (fl1.same s2).ex
  obtain ⟨as2, e2, q2⟩ := fl2.ex
  have l1 := q1.len
  have l2 := q2.len
  rw [List.length_replicate] at l1 l2
  refine ⟨_, _, _, _, rfl, rfl, e1, e2, by rw [List.length_map, List.length_map, sizeLine_eq]; omega, fun p hp => ?_⟩
  have s3 := same_new (o := .lst (as1.map V.ref ++ as2.map V.ref)) hp
  refine kk _ p ((s1.trans s2).trans s3) ⟨⟨as1 ++ as2, by rw [upd_same, List.map_append], (q1.same s3).app (q2.same s3)⟩, ?_, ?_⟩ <;> rw [List.length_append, List.length_replicate, List.length_replicate] <;> omega
theorem use_po {l : Addr} {fs : List (List Nat)} (hl : FL C H l fs n) (h100 : fs.length ≤ 100) (hf : ∀ f ∈ fs, f.length ≤ 1000) (hm : PO n fs m) (kk : ∀ H', Same H H' → Q (.int (m : Int)) H') :
    ∃ (l' : Addr) (fs' : List (List Nat)) (n' : Nat), [V.ref l] = [V.ref l'] ∧ FL C H l' fs' n' ∧ fs'.length ≤ 100 ∧ (∀ f ∈ fs', f.length ≤ 1000) ∧ (∃ m, PO n' fs' m) ∧ ∀ H' (m' : Nat), Same H H' → PO n' fs' m' → Q (.int (m' : Int)) H' :=
  ⟨l, fs, n, rfl, hl, h100, hf, ⟨m, hm⟩, fun H' m' s p => by rw [PO.uniq p hm]; exact kk H' s⟩
end
/-! orders of mixed products -/
theorem po_mix {n : Nat} {f g : List Nat} {a b m : Nat} (hk : ∀ rows ∈ cls n, ∃ i j, CO f rows i ∧ CO g rows j ∧ m ≤ a * i + b * j) (hm : ∃ rows ∈ cls n, ∃ i j, CO f rows i ∧ CO g rows j ∧ m = a * i + b * j) : PO n (List.replicate a f ++ List.replicate b g) m := by
  have key : ∀ {rows i j}, CO f rows i → CO g rows j → Sums rows (List.replicate a f ++ List.replicate b g) (List.replicate a i ++ List.replicate b j) := fun x y => Sums.app (Sums.rep x) (Sums.rep y)
  have sm' : ∀ i j, (List.replicate a i ++ List.replicate b j).sum = a * i + b * j := fun i j => by rw [List.sum_append, sum_rep, sum_rep]
  refine ⟨?_, fun rows hr ks hs => ?_⟩
  · obtain ⟨rows, hr, i, j, x, y, e⟩ := hm
    exact ⟨rows, hr, _, key x y, by rw [sm', e]⟩
  · obtain ⟨i, j, x, y, e⟩ := hk rows hr
    rw [Sums.uniq hs (key x y), sm']
    exact e
theorem po_zero {n : Nat} {f : List Nat} {a : Nat} (h : ∃ rows ∈ cls n, CO f rows 0) : PO n (List.replicate a f) 0 := by
  obtain ⟨rows, hr, c⟩ := h
  exact ⟨⟨rows, hr, _, Sums.rep c, by rw [sum_rep]; rfl⟩, fun _ _ _ _ => Nat.zero_le _⟩
theorem po_zero2 {n : Nat} {f g : List Nat} {a b : Nat} (h : ∃ rows ∈ cls n, CO f rows 0 ∧ CO g rows 0) : PO n (List.replicate a f ++ List.replicate b g) 0 := by
  obtain ⟨rows, hr, c, d⟩ := h
  exact ⟨⟨rows, hr, _, Sums.app (Sums.rep c) (Sums.rep d), by rw [List.sum_append, sum_rep, sum_rep]; rfl⟩, fun _ _ _ _ => Nat.zero_le _⟩
abbrev k41 : List (List Int) := [[1, -1, 1, -1]]
abbrev k42 : List (List Int) := [[1, 0, -1, 0], [0, 1, 0, -1]]
abbrev k61 : List (List Int) := [[1, -1, 1, -1, 1, -1]]
abbrev k62 : List (List Int) := [[1, 0, -1, 1, 0, -1], [0, 1, -1, 0, 1, -1]]
abbrev k63 : List (List Int) := [[1, 0, -1, -1, 0, 1], [0, 1, 1, 0, -1, -1]]
theorem c4 {rows : List (List Int)} (h : rows ∈ cls 4) : rows = k41 ∨ rows = k42 := by
  simpa [cls] using h
theorem c6 {rows : List (List Int)} (h : rows ∈ cls 6) : rows = k61 ∨ rows = k62 ∨ rows = k63 := by
  simpa [cls] using h
theorem m41 : k41 ∈ cls 4 := by decide
theorem m42 : k42 ∈ cls 4 := by decide
theorem m61 : k61 ∈ cls 6 := by decide
theorem m62 : k62 ∈ cls 6 := by decide
theorem m63 : k63 ∈ cls 6 := by decide
theorem ac1 : CO [0, 2] k41 0 := by unfold CO; decide
theorem ac2 : CO [0, 2] k42 1 := by unfold CO; decide
theorem ab1 : CO [0, 1] k41 1 := by unfold CO; decide
theorem ab2 : CO [0, 1] k42 0 := by unfold CO; decide
theorem po_ac (a b : Nat) : PO 4 (List.replicate a [0, 2] ++ List.replicate b [0, 1]) (min a b) := by
  refine po_mix (fun rows hr => ?_) ?_
  · rcases c4 hr with rfl | rfl
    · exact ⟨0, 1, ac1, ab1, by omega⟩
    · exact ⟨1, 0, ac2, ab2, by omega⟩
  · by_cases h : a ≤ b
    · exact ⟨_, m42, 1, 0, ac2, ab2, by omega⟩
    · exact ⟨_, m41, 0, 1, ac1, ab1, by omega⟩
theorem po_ab (a b : Nat) : PO 4 (List.replicate b [0, 1] ++ List.replicate a [0, 2]) (min a b) := by
  refine po_mix (fun rows hr => ?_) ?_
  · rcases c4 hr with rfl | rfl
    · exact ⟨1, 0, ab1, ac1, by omega⟩
    · exact ⟨0, 1, ab2, ac2, by omega⟩
  · by_cases h : a ≤ b
    · exact ⟨_, m42, 0, 1, ab2, ac2, by omega⟩
    · exact ⟨_, m41, 1, 0, ab1, ac1, by omega⟩
theorem po_acb (a b : Nat) : PO 6 (List.replicate a [0, 1] ++ List.replicate b [0, 2, 1]) 0 := po_zero2 ⟨k63, m63, by unfold CO; decide, by unfold CO; decide⟩
theorem po_abf (a b : Nat) : PO 6 (List.replicate a [0, 1] ++ List.replicate b [0, 1, 5]) 0 := po_zero2 ⟨k63, m63, by unfold CO; decide, by unfold CO; decide⟩
theorem po_aab (a : Nat) : PO 6 (List.replicate a [0, 0, 1, 4, 5, 5]) 0 := po_zero ⟨k63, m63, by unfold CO; decide⟩
theorem po_ace (a b : Nat) : PO 6 (List.replicate a [0, 2, 4] ++ List.replicate b [0, 3]) (min a b) := by
  have e1 : CO [0, 2, 4] k61 0 := by unfold CO; decide
  have e2 : CO [0, 2, 4] k62 1 := by unfold CO; decide
  have e3 : CO [0, 2, 4] k63 1 := by unfold CO; decide
  have d1 : CO [0, 3] k61 1 := by unfold CO; decide
  have d2 : CO [0, 3] k62 0 := by unfold CO; decide
  have d3 : CO [0, 3] k63 1 := by unfold CO; decide
  refine po_mix (fun rows hr => ?_) ?_
  · rcases c6 hr with rfl | rfl | rfl
    · exact ⟨0, 1, e1, d1, by omega⟩
    · exact ⟨1, 0, e2, d2, by omega⟩
    · exact ⟨1, 1, e3, d3, by omega⟩
  · by_cases h : a ≤ b
    · exact ⟨_, m62, 1, 0, e2, d2, by omega⟩
    · exact ⟨_, m61, 0, 1, e1, d1, by omega⟩
theorem rl {a : Nat} {f : List Nat} (h : f.length ≤ 1000) : ∀ g ∈ List.replicate a f, g.length ≤ 1000 := fun g hg => by
  rw [List.eq_of_mem_replicate hg]; exact h
theorem rl2 {a b : Nat} {f g : List Nat} (h : f.length ≤ 1000) (h2 : g.length ≤ 1000) : ∀ x ∈ List.replicate a f ++ List.replicate b g, x.length ≤ 1000 := fun x hx => by
  rcases List.mem_append.mp hx with z | z
  · exact rl h x z
  · exact rl h2 x z
theorem mixl {a b : Nat} {f g : List Nat} (h : a ≤ 50) (h2 : b ≤ 50) : (List.replicate a f ++ List.replicate b g).length ≤ 100 := by
  rw [List.length_append, List.length_replicate, List.length_replicate]; omega
theorem minI (a b : Nat) : (if ((b : Nat) : Int) < ((a : Nat) : Int) then ((b : Nat) : Int) else ((a : Nat) : Int)) = ((min a b : Nat) : Int) := by
  split <;> omega
end TB

set_option maxRecDepth 100000
set_option maxHeartbeats 8000000
namespace TB
open PySem PySem.Spec PyProof.Rows L2
section
variable {P : Program} {w : World} {K : PySem.W.Frag} {mg : Str → Option Value} {base : Heap} {C : Addr}
abbrev NMx : List Str := ["_law_pool", "_law_one", "_law_other", "_law_some", "_law_text_here"]
theorem scMx : FnScope NMx ["_law_pool"] (C8.fnScope sMixed) := ⟨rfl, rfl, rfl, by decide +kernel, rfl, by decide +kernel, by decide +kernel⟩
def spMx : Sp := fun vs H Q _ => ∃ p : Addr, vs = [.ref p] ∧ Pool H p ∧ ∀ H', SB p H H' → Pool H' p → Q (.bl true) H'
theorem st_eq {R : L2.St → Hp → Prop} {σ τ : L2.St} {H : Hp} (e : σ = τ) (h : R τ H) : R σ H := e ▸ h
theorem tok4 {t : List Nat} (h : 1 ≤ t.length ∧ t.length ≤ 2000 ∧ ∀ x ∈ t, x < 4) : TOk t 4 := ⟨by decide, by decide, h.1, h.2.1, h.2.2⟩
theorem tok6 {t : List Nat} (h : 1 ≤ t.length ∧ t.length ≤ 2000 ∧ ∀ x ∈ t, x < 6) : TOk t 6 := ⟨by decide, by decide, h.1, h.2.1, h.2.2⟩
theorem ok_mx {f : Addr} {fd : FuncData} (T : Txt K mg C) (cD : C8.Cal P w K mg base 1 "_law_draw" spDraw []) (cM : C8.Mak P w K mg base 3 "Turns" C (spInit C) []) (cPO : C8.Cal P w K mg base 5 "product_order" (spPO C) []) (F : C8.Def K mg "_law_mixed" sMixed f fd) (b : Binds K fd ["_law_pool"] []) : C8.Cal P w K mg base 6 "_law_mixed" spMx [] := by
  refine C8.cal0 F b .nil scMx (fun vs H Q E h => ?_) (fun cdv A outer s H vs Q E hr h => ?_)
  · obtain ⟨p, rfl, _⟩ := h
    rfl
  · obtain ⟨p, rfl, hp, k⟩ := h
    refine ⟨_, pss_cons (ps_par (i := 1) (j := 2) rfl scMx.nd rfl rfl (by decide) rfl rfl (pa_cons (pe_op op_add pe_int (C8.pe_c cD hr (by decide) rfl (pa_cons (pv 0) (pa_cons pe_int pa_nil)))) (pa_cons (pe_op op_add pe_int (C8.pe_c cD hr (by decide) rfl (pa_cons (pv 0) (pa_cons pe_int pa_nil)))) pa_nil)) rfl)
      (pss_cons (ps_set (i := 3) scMx.nd rfl (.inl rfl) (pe_op op_cat (pe_op op_rep (pe_lst (pa_cons (C8.pe_mk cM hr (by decide) rfl (pa_cons (pe_str (x := tx [0, 2])) (pa_cons pe_int pa_nil))) pa_nil)) (pv 1)) (pe_op op_rep (pe_lst (pa_cons (C8.pe_mk cM hr (by decide) rfl (pa_cons (pe_str (x := tx [0, 1])) (pa_cons pe_int pa_nil))) pa_nil)) (pv 2))))
      (pss_cons (ps_if (PW.pt (pw_or (pt_cmpR op_ne (C8.pe_c cPO hr (by decide) rfl (pa_cons (pv 3) pa_nil)) (pe_callB (call_min2 rfl) (by rfl) T.min (by decide +kernel) (pa_cons (pv 1) (pa_cons (pv 2) pa_nil))) (nomark _))
          (pw_or1 (pt_cmpR op_ne (C8.pe_c cPO hr (by decide) rfl (pa_cons (pe_revL (pv 3)) pa_nil)) (pe_callB (call_min2 rfl) (by rfl) T.min (by decide +kernel) (pa_cons (pv 1) (pa_cons (pv 2) pa_nil))) (nomark _))))) (pss_one ps_never) pss_nil)
      (pss_cons (ps_for PassesOwn.never rfl (pi_list (pe_lst (pa_cons (pe_str (x := tx [0, 2, 1])) (pa_cons (pe_str (x := tx [0, 1, 5])) pa_nil)))) (pg_name (i := 4) scMx.nd rfl (Or.inl rfl))
        (pss_cons (ps_set (i := 3) scMx.nd rfl (.inl rfl) (pe_op op_cat (pe_op op_rep (pe_lst (pa_cons (C8.pe_mk cM hr (by decide) rfl (pa_cons (pe_str (x := tx [0, 1])) (pa_cons pe_int pa_nil))) pa_nil)) (pv 1)) (pe_op op_rep (pe_lst (pa_cons (C8.pe_mk cM hr (by decide) rfl (pa_cons (pv 4) (pa_cons pe_int pa_nil))) pa_nil)) (pv 2))))
        (pss_one (ps_if (PW.pt (pw_or (pt_cmpR op_ne (C8.pe_c cPO hr (by decide) rfl (pa_cons (pv 3) pa_nil)) pe_int (nomark _))
          (pw_or1 (pt_cmpR op_ne (C8.pe_c cPO hr (by decide) rfl (pa_cons (pe_op op_rep (pe_lst (pa_cons (C8.pe_mk cM hr (by decide) rfl (pa_cons (pe_str (x := tx [0, 0, 1, 4, 5, 5])) (pa_cons pe_int pa_nil))) pa_nil)) (pv 1)) pa_nil)) pe_int (nomark _))))) (pss_one ps_never) pss_nil))))
      (pss_cons (ps_set (i := 3) scMx.nd rfl (.inl rfl) (pe_op op_cat (pe_op op_rep (pe_lst (pa_cons (C8.pe_mk cM hr (by decide) rfl (pa_cons (pe_str (x := tx [0, 2, 4])) (pa_cons pe_int pa_nil))) pa_nil)) (pv 1)) (pe_op op_rep (pe_lst (pa_cons (C8.pe_mk cM hr (by decide) rfl (pa_cons (pe_str (x := tx [0, 3])) (pa_cons pe_int pa_nil))) pa_nil)) (pv 2))))
      (pss_one (ps_ret (pe_cmpR op_eq (C8.pe_c cPO hr (by decide) rfl (pa_cons (pv 3) pa_nil)) (pe_callB (call_min2 rfl) (by rfl) T.min (by decide +kernel) (pa_cons (pv 1) (pa_cons (pv 2) pa_nil))) (nomark _)))))))), ?_⟩
    refine ⟨_, rfl, p, 50, rfl, hp, by decide, by decide, fun H1 a s1 p1 ha => ?_⟩
    refine ⟨_, _, rfl, rfl, _, rfl, p, 50, rfl, p1, by decide, by decide, fun H2 b s2 p2 hb => ?_⟩
    refine ⟨_, _, rfl, rfl, _, _, rfl, ?_⟩
    obtain ⟨x, hx, a1, a2⟩ : ∃ x : Nat, (1 : Int) + (a : Int) = (x : Int) ∧ 1 ≤ x ∧ x ≤ 50 := ⟨a + 1, by omega, by omega, by omega⟩
    obtain ⟨y, hy, b1, b2⟩ : ∃ y : Nat, (1 : Int) + (b : Int) = (y : Int) ∧ 1 ≤ y ∧ y ≤ 50 := ⟨b + 1, by omega, by omega, by omega⟩
    have eσ : ((List.set (L2.start NMx [V.ref p]) 1 (some (V.int (1 + (a : Int))))).set 2 (some (V.int (1 + (b : Int))))) = [some (.ref p), some (.int (x : Int)), some (.int (y : Int)), none, none] := by rw [hx, hy]; rfl
    refine st_eq eσ ?_
    have sH2 := s1.trans s2
    refine use_mix (tt := tC (.str (tx [0, 2]))) (tv := tVar 1) (tu := tC (.str (tx [0, 1]))) (tw := tVar 2) (t := [0, 2]) (f := [0, 1]) (n := 4) (m := x) (k := y) (fun R r => r) (fun H' R r => ⟨_, rfl, r⟩) (fun H' R r => r) (fun H' R r => ⟨_, rfl, r⟩) (tok4 (by decide)) (tok4 (by decide)) a1 a2 b1 b2 fun H3 l s3 fl => ?_
    refine ⟨_, rfl, _, _, _, rfl, fl, mixl a2 b2, rl2 (by decide) (by decide), ⟨_, po_ac x y⟩, fun H4 m4 s4 pm => ?_⟩
    obtain rfl := PO.uniq pm (po_ac x y)
    refine ⟨_, rfl, _, rfl, _, _, rfl, ?_⟩
    rw [minI]
    refine ⟨rfl, false, bl_neq rfl, iteF ?_⟩
    have f4 := fl.same s4
    obtain ⟨as4, e4, q4⟩ := f4.ex
    refine ⟨_, rfl, l, _, rfl, SqL.of e4, fun r hr => ?_⟩
    have sr : Same H4 (upd H4 r (.lst (as4.map V.ref).reverse)) := same_new hr
    have fr : FL C (upd H4 r (.lst (as4.map V.ref).reverse)) r (List.replicate y [0, 1] ++ List.replicate x [0, 2]) 4 := ⟨⟨as4.reverse, by rw [upd_same, List.map_reverse], by
      have := (q4.same sr).rev
      rw [List.reverse_append, List.reverse_replicate, List.reverse_replicate] at this
      exact this⟩, by rw [List.length_append, List.length_replicate, List.length_replicate]; omega, by rw [List.length_append, List.length_replicate, List.length_replicate]; omega⟩
    refine ⟨_, _, _, rfl, fr, mixl b2 a2, rl2 (by decide) (by decide), ⟨_, po_ab x y⟩, fun H5 m5 s5 pm => ?_⟩
    obtain rfl := PO.uniq pm (po_ab x y)
    refine ⟨_, rfl, _, rfl, _, _, rfl, ?_⟩
    rw [minI]
    refine ⟨rfl, false, bl_neq rfl, iteF ?_⟩
    have sH5 : SB p H H5 := sH2.trans (SB.of (((s3.trans s4).trans sr).trans s5))
    have p5 : Pool H5 p := p2.same (((s3.trans s4).trans sr).trans s5)
    refine ⟨by show 2 ≤ sizeLine; decide, fun q hq => ?_⟩
    have hqp : q ≠ p := fun z => by rw [z] at hq; exact p5.ne hq
    refine ⟨q, rfl, ⟨_, SqL.of upd_same⟩, for_it (walk_list (xs := [V.str (tx [0, 2, 1]), V.str (tx [0, 1, 5])])) (fun i σ H6 => (∃ v3 v4, σ = [some (.ref p), some (.int (x : Int)), some (.int (y : Int)), v3, v4]) ∧ SB p H H6 ∧ Pool H6 p ∧ H6 q = some (.lst [V.str (tx [0, 2, 1]), V.str (tx [0, 1, 5])]))
      ⟨⟨_, _, rfl⟩, sH5.trans (SB.of (same_new hq)), p5.upd hqp, upd_same⟩ (fun i σ H6 _ z => SqL.of z.2.2.2) (fun i v σ H6 H7 hi z yy => ?_) fun σ H6 z => ?_⟩
    · obtain ⟨rfl, hv⟩ := yy
      obtain ⟨⟨v3, v4, rfl⟩, s7, p7, q7⟩ := z
      obtain ⟨g, rfl, og, pog, hg⟩ : ∃ g, v = .str (tx g) ∧ TOk g 6 ∧ PO 6 (List.replicate x [0, 1] ++ List.replicate y g) 0 ∧ g.length ≤ 1000 := by
        have hi2 : i < 2 := hi
        have : i = 0 ∨ i = 1 := by omega
        rcases this with rfl | rfl
        · cases hv; exact ⟨[0, 2, 1], rfl, tok6 (by decide), po_acb x y, by decide⟩
        · cases hv; exact ⟨[0, 1, 5], rfl, tok6 (by decide), po_abf x y, by decide⟩
      refine use_mix (tt := tC (.str (tx [0, 1]))) (tv := tVar 1) (tu := tVar 4) (tw := tVar 2) (t := [0, 1]) (f := g) (n := 6) (m := x) (k := y) (fun R r => r) (fun H' R r => ⟨_, rfl, r⟩) (fun H' R r => ⟨_, rfl, r⟩) (fun H' R r => ⟨_, rfl, r⟩) (tok6 (by decide)) og a1 a2 b1 b2 fun H8 l8 s8 f8 => ?_
      refine ⟨_, rfl, _, _, _, rfl, f8, mixl a2 b2, rl2 (by decide) hg, ⟨_, pog⟩, fun H9 m9 s9 pm => ?_⟩
      obtain rfl := PO.uniq pm pog
      refine ⟨rfl, false, bl_neq rfl, iteF ?_⟩
      refine use_pw (tt := tC (.str (tx [0, 0, 1, 4, 5, 5]))) (tv := tVar 1) (t := [0, 0, 1, 4, 5, 5]) (n := 6) (m := x) (fun R r => r) (fun H' R r => ⟨_, rfl, r⟩) (tok6 (by decide)) a1 (by omega) fun H10 l10 s10 f10 => ?_
      refine ⟨_, _, _, rfl, f10, by rw [List.length_replicate]; omega, rl (by decide), ⟨_, po_aab x⟩, fun H11 m11 s11 pm => ?_⟩
      obtain rfl := PO.uniq pm (po_aab x)
      have ss := ((s8.trans s9).trans s10).trans s11
      exact ⟨rfl, false, bl_neq rfl, iteF ⟨⟨_, _, rfl⟩, s7.trans (SB.of ss), p7.same ss, ss _ _ q7⟩⟩
    · obtain ⟨⟨v3, v4, rfl⟩, s6, p6, q6⟩ := z
      refine use_mix (tt := tC (.str (tx [0, 2, 4]))) (tv := tVar 1) (tu := tC (.str (tx [0, 3]))) (tw := tVar 2) (t := [0, 2, 4]) (f := [0, 3]) (n := 6) (m := x) (k := y) (fun R r => r) (fun H' R r => ⟨_, rfl, r⟩) (fun H' R r => r) (fun H' R r => ⟨_, rfl, r⟩) (tok6 (by decide)) (tok6 (by decide)) a1 a2 b1 b2 fun H8 l8 s8 f8 => ?_
      refine ⟨_, rfl, _, _, _, rfl, f8, mixl a2 b2, rl2 (by decide) (by decide), ⟨_, po_ace x y⟩, fun H9 m9 s9 pm => ?_⟩
      obtain rfl := PO.uniq pm (po_ace x y)
      refine ⟨_, rfl, _, rfl, _, _, rfl, ?_⟩
      rw [minI]
      have := k H9 (s6.trans (SB.of (s8.trans s9))) (p6.same (s8.trans s9))
      rw [← bl_t (p := V.int ((min x y : Nat) : Int) = V.int ((min x y : Nat) : Int)) rfl] at this
      exact ⟨rfl, this⟩
end
end TB

set_option maxRecDepth 100000
set_option maxHeartbeats 8000000
namespace TB
open PySem PySem.Spec PyProof.Rows L2
theorem FsAt.upd {C : Addr} {H : Hp} {as_ : List Addr} {fs : List (List Nat)} {n : Nat} {D : Addr} {xs : List V} {o : HO} (h : FsAt C H as_ fs n) (hD : H D = some (.lst xs)) : FsAt C (L2.upd H D o) as_ fs n :=
  ⟨h.len, fun i a f h1 h2 => by
    obtain ⟨dx, e⟩ := h.at_ i a f h1 h2
    exact ⟨dx, by rw [upd_ne (fun z => by rw [z, hD] at e; cases e)]; exact e⟩, h.ok⟩
theorem gset {i : Nat} {v u : V} {σ : L2.St} {H : Hp} {S : L2.St → Hp → Prop} (e : v = u) (h : gName i u σ H S) : gName i v σ H S := e ▸ h
structure LTn (C p D : Addr) (m : Nat) (H1 : Hp) (i : Nat) (H : Hp) : Prop where
  sb : SB p H1 H
  pool : Pool H p
  ne : D ≠ p
  ex : ∃ (as_ : List Addr) (fs : List (List Nat)), as_.length = i ∧ FsAt C H as_ fs m ∧ (∀ f ∈ fs, f.length ≤ 9) ∧ H D = some (.lst (as_.map V.ref))
theorem li0 {C p D : Addr} {m : Nat} {H1 : Hp} (hD : H1 D = none) (hp : Pool H1 p) : LTn C p D m H1 0 (upd H1 D (.lst [])) := by
  have hDp : D ≠ p := fun z => by rw [z] at hD; exact hp.ne hD
  exact ⟨SB.of (same_new hD), hp.upd hDp, hDp, [], [], rfl, FsAt.nil, (fun f hf => (by cases hf)), upd_same⟩
theorem li_add {C p D a : Addr} {m i : Nat} {H1 H H' : Hp} {f : List Nat} (hD : H1 D = none) (h : LTn C p D m H1 i H) (s : SB p H H') (p' : Pool H' p) (t : TnAt C H' a f m) (o : TOk f m) (hf : f.length ≤ 9) (hi : i < 1000) :
    ∃ acc, H' D = some (.lst acc) ∧ acc.length < sizeLine ∧ LTn C p D m H1 (i + 1) (upd H' D (.lst (acc ++ [.ref a]))) := by
  obtain ⟨as_, fs, hl, q, h9, e⟩ := h.ex
  have e' := s D _ h.ne e
  have hap := q.sb s h.pool
  refine ⟨_, e', by rw [List.length_map, sizeLine_eq]; omega, (h.sb.trans s).updD hD, p'.upd h.ne, h.ne, as_ ++ [a], fs ++ [f], by rw [List.length_append, hl]; rfl, (FsAt.app hap (FsAt.cons FsAt.nil t o)).upd e', fun g hg => ?_, by rw [upd_same, List.map_append]; rfl⟩
  rcases List.mem_append.mp hg with z | z
  · exact h9 g z
  · rw [List.mem_singleton.mp z]; exact hf
section
variable {P : Program} {w : World} {K : PySem.W.Frag} {mg : Str → Option Value} {base : Heap} {C : Addr}
abbrev NLw : List Str := ["_law_script", "_law_k", "_law_pool", "_law_players", "_law_base", "_law_some", "_law_times", "_law_least", "_law_told", "_law_turn"]
theorem scLw : FnScope NLw ["_law_script"] (C8.fnScope sLaw) := ⟨rfl, rfl, rfl, by decide +kernel, rfl, by decide +kernel, by decide +kernel⟩
def spLaw (K : PySem.W.Frag) : Sp := fun vs H Q _ => ∃ (a : Addr) (ns : List Int), vs = [.ref a] ∧ SqL K H a (ns.map V.int) ∧ ns.length ≤ 1000 ∧ ∀ H', Q (.bl true) H'
theorem ok_law {f : Addr} {fd : FuncData} (T : Txt K mg C) (cH : C8.Cal P w K mg base 1 "_law_hand" (spHand K) []) (cD : C8.Cal P w K mg base 1 "_law_draw" spDraw []) (cT : C8.Cal P w K mg base 2 "_law_text" spText []) (cM : C8.Mak P w K mg base 3 "Turns" C (spInit C) [])
    (cR : C8.Cal P w K mg base 7 "_law_right" (spRt C) []) (cO : C8.Cal P w K mg base 9 "order" (spOrd C) []) (cPO : C8.Cal P w K mg base 5 "product_order" (spPO C) []) (cC : C8.Cal P w K mg base 3 "_law_classes" spCl []) (cX : C8.Cal P w K mg base 6 "_law_mixed" spMx []) (pT : Prp P w K mg base 1 C "text" "own_text")
    (F : C8.Def K mg "law" sLaw f fd) : FnOk P w K mg base C8.CX0 10 f fd ["_law_script"] (spLaw K) := by
  refine C8.fn0 F.fn scLw (fun vs H Q E h => ?_) (fun cdv A outer s H vs Q E hr h => ?_)
  · obtain ⟨a, ns, rfl, _⟩ := h
    rfl
  · obtain ⟨a, ns, rfl, hs, hn, k⟩ := h
    refine ⟨_, pss_cons (ps_for PassesOwn.never rfl (pi_range1 rfl T.range (pa_cons (pe_callB (call_max2 rfl) (by rfl) T.max (by decide +kernel) (pa_cons pe_int (pa_cons (pe_callB (call_min2 rfl) (by rfl) T.min (by decide +kernel) (pa_cons (pe_callB call_len_seq (by rfl) T.len PySem.boot_len (pa_cons (pv 0) pa_nil)) (pa_cons pe_int pa_nil))) pa_nil))) pa_nil)) (pg_name (i := 1) scLw.nd rfl (Or.inl rfl))
        (pss_cons (ps_set (i := 2) scLw.nd rfl (.inr rfl) (C8.pe_c cH hr (by decide) rfl (pa_cons (pv 0) (pa_cons (pv 1) pa_nil))))
        (pss_cons (ps_set (i := 3) scLw.nd rfl (.inr rfl) (pe_op op_add pe_int (C8.pe_c cD hr (by decide) rfl (pa_cons (pv 2) (pa_cons pe_int pa_nil)))))
        (pss_cons (ps_set (i := 4) scLw.nd rfl (.inr rfl) (pe_lc (own := [("_law_turn", 9)]) (g := gName 9) (tt := tYes) (te := tMake C (spInit C) [] C8.E0 (tCons (tCall spText [] C8.E0 (tCons (tVar 2) (tCons (tVar 3) (tCons (tC (.int 9)) tNil)))) (tCons (tVar 3) tNil))) rfl scLw.nd (pi_range1 rfl T.range (pa_cons pe_int pa_nil)) (blkOk_by (N := NLw) (sc := C8.fnScope sLaw) (by decide +kernel))
            (fun _ _ _ _ _ => pg_name (i := 9) scLw.nd rfl (Or.inl rfl)) (fun _ _ _ _ _ => pts_nil) (fun _ _ _ _ _ => C8.pe_mk cM hr (by decide) rfl (pa_cons (C8.pe_c cT hr (by decide) rfl (pa_cons (pv 2) (pa_cons (pv 3) (pa_cons pe_int pa_nil)))) (pa_cons (pv 3) pa_nil)))))
        (pss_cons (ps_setLc (i := 5) (own := [("_law_turn", 9)]) (g := gName 9) (tt := tYes) (te := tOp (rIxL K) (tVar 4) (tCall spDraw [] C8.E0 (tCons (tVar 2) (tCons (tC (.int 3)) tNil)))) rfl scLw.nd rfl rfl (sw_true rfl rfl rfl (by decide +kernel)) (pi_range1 rfl T.range (pa_cons (pe_op op_add pe_int (C8.pe_c cD hr (by decide) rfl (pa_cons (pv 2) (pa_cons pe_int pa_nil)))) pa_nil)) (blkOk_by (N := NLw) (sc := C8.fnScope sLaw) (by decide +kernel))
            (fun _ _ _ _ _ => pg_name (i := 9) scLw.nd rfl (Or.inl rfl)) (fun _ _ _ _ _ => pts_nil) (fun _ _ _ _ _ => pe_ix ix_list (pv 4) (C8.pe_c cD hr (by decide) rfl (pa_cons (pv 2) (pa_cons pe_int pa_nil))) (fun _ _ => rfl)))
        (pss_cons (ps_if (pt_not (pt_val (C8.pe_c cR hr (by decide) rfl (pa_cons (pv 2) (pa_cons (pv 5) (pa_cons (pv 3) pa_nil)))))) (pss_one ps_never) pss_nil)
        (pss_cons (ps_set (i := 6) scLw.nd rfl (.inl rfl) (pe_op op_add pe_int (C8.pe_c cD hr (by decide) rfl (pa_cons (pv 2) (pa_cons pe_int pa_nil)))))
        (pss_cons (ps_set (i := 7) scLw.nd rfl (.inl rfl) (C8.pe_c cO hr (by decide) rfl (pa_cons (pe_ix ix_list (pv 4) pe_int (fun _ _ => rfl)) pa_nil)))
        (pss_cons (ps_set (i := 8) scLw.nd rfl (.inl rfl) (C8.pe_c cPO hr (by decide) rfl (pa_cons (pe_op op_rep (pe_lst (pa_cons (pe_ix ix_list (pv 4) pe_int (fun _ _ => rfl)) pa_nil)) (pv 6)) pa_nil)))
        (pss_cons (ps_if (pt_cmpR op_ne (pv 8) (pe_op op_mul (pv 6) (pv 7)) (nomark _)) (pss_one ps_never) pss_nil)
        (pss_one (ps_if (PW.pt (pw_or (pt_cmpR op_gt (pv 8) (pe_op op_mul (pv 6) (pe_callB (cr_min rfl) (by rfl) T.min (by decide +kernel) (pa_cons (C8.pe_c cC hr (by decide) rfl (pa_cons (pe_pr pT hr (by decide) (pe_ix ix_list (pv 4) pe_int (fun _ _ => rfl)) rfl) (pa_cons (pv 3) pa_nil))) pa_nil))) (nomark _)) (pw_or1 (pt_not (pt_val (C8.pe_c cX hr (by decide) rfl (pa_cons (pv 2) pa_nil))))))) (pss_one ps_never) pss_nil))))))))))))
      (pss_one (ps_ret pe_bl)), ?_⟩
    refine ⟨_, rfl, a, ns.map V.int, rfl, .inl hs, _, _, rfl, _, _, rfl, _, rfl, ?_, ?_, for_range (fun i σ H1 => (∃ v1 v2 v3 v4 v5 v6 v7 v8, σ = [some (.ref a), v1, v2, v3, v4, v5, v6, v7, v8, none]) ∧ Same H H1) ⟨⟨_, _, _, _, _, _, _, _, rfl⟩, Same.refl _⟩ (fun i σ H1 hi q => ?_) fun σ H1 q => k H1⟩
    · split <;> split <;> omega
    · split <;> split <;> omega
    obtain ⟨⟨v1, v2, v3, v4, v5, v6, v7, v8, rfl⟩, s1⟩ := q
    have hi8 : i ≤ 1000 := by
      split at hi <;> split at hi <;> omega
    refine ⟨_, rfl, _, rfl, a, ns, i, by rw [Int.zero_add]; rfl, s1.seq hs, hn, hi8, fun H2 p s2 hp0 p2 => ?_⟩
    refine ⟨_, rfl, p, 5, rfl, p2, by decide, by decide, fun H3 n s3 p3 hn5 => ?_⟩
    refine ⟨_, _, rfl, rfl, ?_⟩
    obtain ⟨m, hm, m2, m6⟩ : ∃ m : Nat, (2 : Int) + (n : Int) = (m : Int) ∧ 2 ≤ m ∧ m ≤ 6 := ⟨n + 2, by omega, by omega, by omega⟩
    refine st_eq (τ := [some (.ref a), some (.int (i : Int)), some (.ref p), some (.int (m : Int)), v4, v5, v6, v7, v8, none]) (by
      show [some (V.ref a), some (.int (0 + (i : Int))), some (.ref p), some (.int (2 + (n : Int))), v4, v5, v6, v7, v8, none] = _
      rw [hm, Int.zero_add]) ?_
    refine ⟨3, rfl, by decide, by decide, fun D hD => lc_it (walk_range (n := 3)) (LTn C p D m H3) (li0 hD p3) (fun _ _ _ _ => trivial) (fun j x H4 H5 hj q y => ?_) fun H4 q => ?_⟩
    · obtain ⟨rfl, rfl⟩ := y
      refine ⟨rfl, _, rfl, _, rfl, p, m, 9, rfl, q.pool, m2, m6, by decide, by decide, fun H6 t s6 p6 t1 t9 tn => ?_⟩
      have ok : TOk t m := ⟨m2, m6, t1, by omega, tn⟩
      refine ⟨_, rfl, fun x dx hx hdx hne => ⟨x, dx, t, m, rfl, upd_same, ok, fun H7 k7 t7 => ⟨rfl, ?_⟩⟩⟩
      have s67 := made_same hx hdx k7
      exact li_add hD q (s6.trans (SB.of s67)) (p6.same s67) t7 ok t9 (by omega)
    · obtain ⟨bs, gs, hbl, hbf, hb9, eb⟩ := q.ex
      have p4 := q.pool
      have s4 := q.sb
      have hDp := q.ne
      have h0 : 0 < bs.length := by omega
      obtain ⟨t, hgt, _, ok0⟩ := hbf.get h0
      have t9 := hb9 t (List.mem_of_getElem? hgt)
      have tat : ∀ {Hx}, SB p H4 Hx → TnAt C Hx bs[0] t m := fun sx => (hbf.sb sx p4).at_ 0 _ t (List.getElem?_eq_getElem h0) hgt
      refine ⟨_, rfl, p, 99, rfl, p4, by decide, by decide, fun H5 r s5 p5 hr5 => ?_⟩
      refine ⟨_, _, rfl, rfl, _, rfl, by omega, by omega, fun D2 hD2 => lc_it walk_range (LTn C p D2 m H5) (li0 hD2 p5) (fun _ _ _ _ => trivial) (fun j x H6 H7 hj q y => ?_) fun H6 q => ?_⟩
      · obtain ⟨rfl, rfl⟩ := y
        refine ⟨rfl, _, rfl, _, rfl, p, 3, rfl, q.pool, by decide, by decide, fun H8 r8 s8 p8 hr8 => ?_⟩
        have s48 := (s5.trans q.sb).trans s8
        have h8 : r8 < bs.length := by omega
        obtain ⟨f, hgf, tf, of⟩ := (hbf.sb s48 p4).get h8
        refine ⟨D, _, _, _, rfl, rfl, SqL.of (s48 D _ hDp eb), atI_nat (j := r8) (ref_get h8), ?_⟩
        exact li_add hD2 q s8 p8 tf of (hb9 f (List.mem_of_getElem? hgf)) (by omega)
      · obtain ⟨cs, fs, hcl, hcf, hc9, ec⟩ := q.ex
        have p6 := q.pool
        have s46 := s5.trans q.sb
        have hfl : fs.length = r + 2 := by
          have := hcf.len
          omega
        refine ⟨_, rfl, _, rfl, _, rfl, p, D2, fs, m, rfl, p6, ⟨⟨cs, ec, hcf⟩, by omega, by omega⟩, by omega, by omega, hc9, fun H7 s7 p7 => ⟨true, rfl, iteF ?_⟩⟩
        refine ⟨_, rfl, p, 100, rfl, p7, by decide, by decide, fun H8 r8 s8 p8 hr8 => ?_⟩
        refine ⟨_, _, rfl, rfl, ?_⟩
        have s48 := (s46.trans s7).trans s8
        obtain ⟨x, hx, x1, x2⟩ : ∃ x : Nat, (1 : Int) + (r8 : Int) = (x : Int) ∧ 1 ≤ x ∧ x ≤ 100 := ⟨r8 + 1, by omega, by omega, by omega⟩
        refine gset (congrArg V.int hx) ?_
        refine ⟨_, rfl, D, _, _, _, rfl, rfl, SqL.of (s48 D _ hDp eb), atI_nat (j := 0) (ref_get h0), bs[0], t, m, rfl, tat s48, ok0, by omega, fun H9 o s9 ho => ?_⟩
        have o9 : o < t.length := ho.lt m2 (fun z => by rw [z] at hgt t9; have := ok0.pos; rw [z] at this; cases this) ok0.mem
        have s49 := s48.trans (SB.of s9)
        refine ⟨_, rfl, D, _, _, _, rfl, rfl, SqL.of (s49 D _ hDp eb), atI_nat (j := 0) (ref_get h0), (by show 1 ≤ sizeLine; decide), fun q9 hq9 => ⟨_, rfl, q9, (x : Int), [.ref bs[0]], rfl, rfl, upd_same, by omega, by omega, ?_, fun z hz => ?_⟩⟩
        · rw [Int.toNat_natCast, sizeLine_eq]
          show 1 * x ≤ _
          omega
        rw [Int.toNat_natCast, rep_map]
        have sz : Same H9 (upd (upd H9 q9 (.lst [V.ref bs[0]])) z (.lst ((List.replicate x bs[0]).map V.ref))) := (same_new hq9).trans (same_new hz)
        have fz : FL C (upd (upd H9 q9 (.lst [V.ref bs[0]])) z (.lst ((List.replicate x bs[0]).map V.ref))) z (List.replicate x t) m := ⟨⟨_, upd_same, FsAt.rep x ((tat s49).same sz) ok0⟩, by rw [List.length_replicate]; exact x1, by rw [List.length_replicate]; omega⟩
        have po := po_power (m := x) m2 m6 ok0.mem ho
        refine ⟨z, _, m, rfl, fz, by rw [List.length_replicate]; exact x2, rl (by omega), ⟨_, po⟩, fun H10 told s10 hpo => ?_⟩
        obtain rfl := PO.uniq hpo po
        have sz10 := (s9.trans sz).trans s10
        have s410 := s48.trans (SB.of sz10)
        have e10 := s410 D _ hDp eb
        refine ⟨_, rfl, _, rfl, _, rfl, _, _, rfl, rfl, .inl ⟨by omega, by omega⟩, rfl, false, bl_neq (by rw [Int.natCast_mul]), iteF ?_⟩
        refine ⟨_, rfl, _, rfl, _, rfl, D, _, _, _, rfl, rfl, SqL.of e10, atI_nat (j := 0) (ref_get h0), propT (tat s410) ⟨_, rfl, t, m, rfl, ok0, by omega, fun H11 l ds s11 el hne hgood => ?_⟩⟩
        have s411 := s410.trans (SB.of s11)
        have p11 : Pool H11 p := p8.same (sz10.trans s11)
        have hge : ∀ d ∈ ds, o ≤ d := fun d hd => by
          obtain ⟨s, hs, hns, hdif⟩ := hgood d hd
          exact ord_le_fold m2 m6 ok0.mem ho hs hns hdif
        have hlen : 0 < ds.length := by
          cases ds with
          | nil => exact absurd rfl hne
          | cons _ _ => exact Nat.succ_pos _
        refine ⟨l, ds.map fun d : Nat => (d : Int), rfl, SqL.of (by rw [el, List.map_map]; rfl), by rw [List.length_map]; exact hlen, fun mm hmem _ => ?_⟩
        obtain ⟨d, hd, rfl⟩ := List.mem_map.mp hmem
        have hod := Nat.mul_le_mul_left x (hge d hd)
        refine ⟨_, _, rfl, rfl, .inl ⟨by omega, by omega⟩, _, _, rfl, rfl, false, bl_f (by rw [← Int.natCast_mul]; omega), ?_⟩
        refine iteF ⟨_, rfl, p, rfl, p11, fun H12 s12 p12 => ⟨true, rfl, iteF ⟨⟨_, _, _, _, _, _, _, _, rfl⟩, s1.trans ?_⟩⟩⟩
        exact ((SB.of s2).trans (s3.trans (s4.trans (s411.trans s12)))).same hp0
end
end TB

set_option maxRecDepth 100000
set_option maxHeartbeats 4000000
namespace TB
open PySem PySem.Spec PyProof.Rows L2
abbrev Fg : Type := PySem.W.Frag
/-! what the head is asked: the functions -/
def lk (K : Fg) (a : Addr) : He.FnW := match K.lookup a with
  | some ⟨_, _, .func g, _⟩ => some (g.name, g.qualname, g.params, g.body, g.scope, g.globals, g.closure, g.builtins)
  | _ => none
def wt (x q : Str) (st : Stmt) : He.FnW := some (x, q, C8.fnArgs st, .stmts (C8.fnBody st), C8.fnScope st, mainGlobals, [], builtinsNs)
def noDf : Value → Bool
  | .none => true
  | _ => false
def cdOk (K : Fg) (a : Addr) (q : Str) : Bool := match K.lookup a with
  | some ⟨_, _, .func g, _⟩ => PySem.W.codeIn K g.code q && noDf g.defaults
  | _ => false
theorem lk_fun {K : Fg} {a : Addr} {x q : Str} {st : Stmt} (e : lk K a = wt x q st) (c : cdOk K a q = true) : ∃ fd, C8.Fun K x q st a fd ∧ fd.defaults = .none := by
  unfold lk at e
  unfold cdOk at c
  cases z : K.lookup a with
  | none =>
    rw [z] at c
    cases c
  | some o =>
    obtain ⟨oc, od, dt, osl⟩ := o
    rw [z] at c e
    cases dt with
    | func fd =>
      obtain ⟨n1, n2, n3, n4, n5, n6, n7, n8, n9, n10, n11, n12, n13, n14, n15⟩ := fd
      replace e : (some (n1, n2, n3, n4, n5, n6, n7, n15) : He.FnW) = some (x, q, C8.fnArgs st, .stmts (C8.fnBody st), C8.fnScope st, mainGlobals, [], builtinsNs) := e
      simp only [Option.some.injEq, Prod.mk.injEq] at e
      obtain ⟨rfl, rfl, rfl, rfl, rfl, rfl, rfl, rfl⟩ := e
      replace c : (PySem.W.codeIn K n13 n2 && noDf n8) = true := c
      obtain ⟨c1, c2⟩ := He.ba c
      cases n8 with
      | none => exact ⟨_, ⟨oc, od, .none, n9, n10, n11, n12, n13, n14, osl, rfl, z, c1⟩, rfl⟩
      | _ => cases c2
    | _ => cases c
/-! the dict of classes -/
def ktB (K : Fg) (a : Addr) (xs : List V) : Bool := match K.lookup a with
  | some ⟨.type c, _, .seq its _, _⟩ => decide (c = "tuple") && (decide (its.size ≤ sizeLine) && He.relAll xs its.toList)
  | _ => false
theorem ktB_ok {K : Fg} {a : Addr} {xs : List V} (h : ktB K a xs = true) : KT K a xs := by
  unfold ktB at h
  cases z : K.lookup a with
  | none =>
    rw [z] at h
    cases h
  | some o =>
    obtain ⟨oc, od, dt, osl⟩ := o
    rw [z] at h
    cases oc with
    | type c =>
      cases dt with
      | seq its n =>
        obtain ⟨h1, h2⟩ := He.ba h
        obtain ⟨h3, h4⟩ := He.ba h2
        exact ⟨_, its, n, z, congrArg Value.type (of_decide_eq_true h1), rfl, of_decide_eq_true h3, He.relAll_ok h4⟩
      | _ => cases h
    | _ => cases dt <;> cases h
def adr1 : Value → Addr
  | .ref b => b
  | _ => 0
def inner (K : Fg) (a : Addr) : List Addr := match K.lookup a with
  | some ⟨_, _, .seq its _, _⟩ => its.toList.map adr1
  | _ => []
def rowsB (K : Fg) (r : Addr) (rows : List (List Int)) : Bool := ktB K r ((inner K r).map V.ref) && (decide ((inner K r).length = rows.length) && ((inner K r).zip rows).all fun q => ktB K q.1 (q.2.map V.int))
theorem zip_get {α β : Type} {xs : List α} {ys : List β} {i : Nat} {x : α} {y : β} (h1 : xs[i]? = some x) (h2 : ys[i]? = some y) : (x, y) ∈ xs.zip ys := by
  refine List.mem_iff_getElem?.mpr ⟨i, ?_⟩
  rw [List.getElem?_zip_eq_some]
  exact ⟨h1, h2⟩
theorem rowsB_ok {K : Fg} {r : Addr} {rows : List (List Int)} (h : rowsB K r rows = true) : RowsAt K r rows := by
  obtain ⟨h1, h2⟩ := He.ba h
  obtain ⟨h3, h4⟩ := He.ba h2
  exact ⟨inner K r, ktB_ok h1, of_decide_eq_true h3, fun i p row e1 e2 => ktB_ok (List.all_eq_true.mp h4 _ (zip_get e1 e2))⟩
def clsB (K : Fg) (r : Addr) (cs : List (List (List Int))) : Bool := ktB K r ((inner K r).map V.ref) && (decide ((inner K r).length = cs.length) && ((inner K r).zip cs).all fun q => rowsB K q.1 q.2)
theorem clsB_ok {K : Fg} {r : Addr} {cs : List (List (List Int))} (h : clsB K r cs = true) : ClsAt K r cs := by
  obtain ⟨h1, h2⟩ := He.ba h
  obtain ⟨h3, h4⟩ := He.ba h2
  exact ⟨inner K r, ktB_ok h1, of_decide_eq_true h3, fun i p row e1 e2 => rowsB_ok (List.all_eq_true.mp h4 _ (zip_get e1 e2))⟩
def keyB (e : DictEntry) : Bool := match e.key with
  | .int i _ => decide (e.hash = hashInt i)
  | _ => false
def entB (K : Fg) (es : Array DictEntry) (n : Nat) : Bool := match findBy Value.isInt es (n : Int) with
  | some (.ref r) => clsB K r (cls n)
  | _ => false
def dicB (K : Fg) (d : Addr) : Bool := match K.lookup d with
  | some ⟨.type c, none, .dict es _, sl⟩ => decide (c = "dict") && (decide (sl = #[]) && (es.toList.all keyB && [2, 3, 4, 5, 6].all (entB K es)))
  | _ => false
theorem dicB_ok {K : Fg} {d : Addr} {mg : Str → Option Value} (hm : mg "CLASSES" = some (.ref d)) (h : dicB K d = true) : KClasses K mg := by
  unfold dicB at h
  cases z : K.lookup d with
  | none =>
    rw [z] at h
    cases h
  | some o =>
    obtain ⟨oc, od, dt, osl⟩ := o
    rw [z] at h
    cases oc with
    | type c =>
      cases od with
      | some _ => cases dt <;> cases h
      | none =>
        cases dt with
        | dict es m =>
          obtain ⟨h1, h2⟩ := He.ba h
          obtain ⟨h3, h4⟩ := He.ba h2
          obtain ⟨h5, h6⟩ := He.ba h4
          have e1 := of_decide_eq_true h1
          have e2 := of_decide_eq_true h3
          subst e1 e2
          refine ⟨d, es, m, hm, z, fun e he => ?_, fun n h2 h6' => ?_⟩
          · have := List.all_eq_true.mp h5 e he
            unfold keyB at this
            cases q : e.key with
            | int i t =>
              rw [q] at this
              exact ⟨i, t, rfl, of_decide_eq_true this⟩
            | _ => rw [q] at this; cases this
          · have hn : n ∈ [2, 3, 4, 5, 6] := by
              have : n = 2 ∨ n = 3 ∨ n = 4 ∨ n = 5 ∨ n = 6 := by omega
              rcases this with rfl | rfl | rfl | rfl | rfl <;> decide
            have := List.all_eq_true.mp h6 n hn
            unfold entB at this
            cases q : findBy Value.isInt es (n : Int) with
            | none => rw [q] at this; cases this
            | some v =>
              rw [q] at this
              cases v with
              | ref r => exact ⟨r, rfl, clsB_ok this⟩
              | _ => cases this
        | _ => cases h
    | _ => cases od <;> cases dt <;> cases h
/-! the class -/
abbrev cA (K : Fg) : Addr := He.ga K "Turns"
abbrev mA (K : Fg) (m : Str) : Addr := He.ma K (cA K) m
def gA (K : Fg) (m : Str) : Addr := match PySem.W.recIn K (mA K m) "property" with
  | some (.ref g :: _) => g
  | _ => 0
def prB (K : Fg) (m : Str) : Bool := He.eqO (PySem.W.findIn K (.ref (cA K)) m) (some (some (.ref (mA K m)))) && (He.eqO (PySem.W.specialIn K (.ref (mA K m)) "__get__") (some (some (.builtin "property.__get__"))) && (decide (PySem.W.takesIn K (.ref (mA K m)) = some true) && (match PySem.W.recIn K (mA K m) "property" with
  | some (.ref _ :: _) => true
  | _ => false)))
theorem prB_ok {K : Fg} {m : Str} (h : prB K m = true) : PropOf K (cA K) m (mA K m) (gA K m) := by
  obtain ⟨h1, h2⟩ := He.ba h
  obtain ⟨h3, h4⟩ := He.ba h2
  obtain ⟨h5, h6⟩ := He.ba h4
  refine ⟨He.eqO_ok h1, He.eqO_ok h3, of_decide_eq_true h5, ?_⟩
  unfold gA
  cases z : PySem.W.recIn K (mA K m) "property" with
  | none => rw [z] at h6; cases h6
  | some l =>
    rw [z] at h6
    match l, h6 with
    | .ref g :: r, _ => exact ⟨r, rfl⟩
def insB (K : Fg) : Bool := He.eqO (PySem.W.findIn K (.ref (cA K)) "__class__") (some (some (.builtin "object.__class__"))) && (He.eqO (PySem.W.specialIn K (.builtin "object.__class__") "__get__") (some (some (.builtin "getset_descriptor.__get__"))) && (decide (PySem.W.takesIn K (.builtin "object.__class__") = some true) && decide (PySem.W.mroIn K (cA K) (.type "object") = some true)))
theorem insB_ok {K : Fg} (c : Cls K (cA K)) (h : insB K = true) : C8.InsC K (cA K) := by
  obtain ⟨h1, h2⟩ := He.ba h
  obtain ⟨h3, h4⟩ := He.ba h2
  obtain ⟨h5, h6⟩ := He.ba h4
  refine ⟨c, He.eqO_ok h1, He.eqO_ok h3, of_decide_eq_true h5, of_decide_eq_true h6, ?_⟩
  unfold PySem.W.kitOne
  rw [if_pos (by simp)]
end TB

set_option maxRecDepth 100000
set_option maxHeartbeats 4000000
namespace TB
open PySem PySem.Spec PyProof.Rows L2
/-! the names that the head is asked for -/
def gl1 : List (Str × Stmt) := [("is_integer", sIsInt), ("in_range", sInRange), ("check_length", sChkLen), ("check_turns", sChkT), ("letters_of", sLetOf), ("next_binomials", sNB), ("binomial_rows", sBR), ("totals_for", sTot), ("all_pairs", sAP), ("first_difference", sFD), ("certificate", sCert), ("order", sOrd), ("check_factors", sCF), ("raised", sRaised), ("product_of_two", sP2), ("product", sProd), ("check_list", sCL), ("length_of", sLO), ("player_at", sPA), ("check_position", sCP)]
def gl2 : List (Str × Stmt) := [("turn_at", sTA), ("text_between", sTB), ("multiplicity", sMul), ("class_order", sCO), ("product_order", sPO), ("_law_hand", sHand), ("_law_draw", sDraw), ("_law_text", sText2), ("_law_power", sPow), ("_law_sum", sSum), ("_law_order", sLOrd), ("_law_added", sAdded), ("_law_place", sPlace), ("_law_classes", sClasses), ("_law_right", sRight), ("_law_mixed", sMixed), ("law", sLaw)]
abbrev gl : List (Str × Stmt) := gl1 ++ gl2
def mts : List (Str × Str × Stmt) := [("__init__", "Turns.__init__", sInit), ("check_player", "Turns.check_player", sChkPl), ("positions", "Turns.positions", sPos), ("__len__", "Turns.__len__", sLen)]
def prs : List (Str × Str × Stmt) := [("text", "Turns.text", sText), ("players", "Turns.players", sPlayers)]
def fas : List He.Fa := [.glo "Turns", .cls "Turns", .noat "Turns" "own_text", .noat "Turns" "own_players", .mkr "Turns", .meth "Turns" "check_player", .meth "Turns" "positions", .meth "Turns" "__len__", .glo "CLASSES", .str "LETTERS" ABC, .int "MAX_TURNS_turns" 2000, .int "FEWEST_PLAYERS" 2, .int "MAX_FACTORS" 100, .free "isinstance", .free "int", .free "bool", .free "str", .free "list", .free "len", .free "any", .free "all", .free "max", .free "min", .free "enumerate", .free "range", .free "sum", .free "zip"]
def fl (K : Fg) : Bool := (fas.all fun f => f.ok K) && ((gl.all fun q => (He.Fa.glo q.1).ok K && ((He.Fa.keep q.1).ok K && cdOk K (He.ga K q.1) q.1)) && ((mts.all fun q => cdOk K (mA K q.1) q.2.1) && ((prs.all fun q => prB K q.1 && cdOk K (gA K q.1) q.2.1) && (insB K && dicB K (He.ga K "CLASSES")))))
abbrev Ans : Type := Bool × List He.FnW × List He.FnW × List He.FnW
def obK (K : Fg) : Ans := (fl K, gl.map fun q => lk K (He.ga K q.1), mts.map fun q => lk K (mA K q.1), prs.map fun q => lk K (gA K q.1))
def okK : Ans := (true, gl.map fun q => wt q.1 q.1 q.2, mts.map fun q => wt q.1 q.2.1 q.2.2, prs.map fun q => wt q.1 q.2.1 q.2.2)
theorem map_at {α β : Type} {f g : α → β} {xs : List α} (e : xs.map f = xs.map g) {i : Nat} {x : α} (h : xs[i]? = some x) : f x = g x := by
  have := congrArg (fun l : List β => l[i]?) e
  simp only [List.getElem?_map, h, Option.map_some] at this
  exact Option.some.inj this
section
variable {K : Fg} {h : Heap} {mg : Str → Option Value}
theorem ob_fl (c : obK K = okK) : fl K = true := congrArg (fun z : Ans => z.1) c
theorem ob_fa (c : obK K = okK) (i : Nat) {f : He.Fa} (e : fas[i]? = some f := by rfl) : f.ok K = true := List.all_eq_true.mp (He.ba (ob_fl c)).1 f (List.mem_of_getElem? e)
theorem ob_def (X : K.In h) (G : h.Ns mainGlobals mg) (c : obK K = okK) (i : Nat) {x : Str} {st : Stmt} (e : gl[i]? = some (x, st) := by rfl) : ∃ f fd, C8.Def K mg x st f fd ∧ fd.defaults = .none := by
  have c1 := List.all_eq_true.mp (He.ba (He.ba (ob_fl c)).2).1 (x, st) (List.mem_of_getElem? e)
  obtain ⟨c2, c3⟩ := He.ba c1
  obtain ⟨c4, c5⟩ := He.ba c3
  have e1 : gl.map (fun q => lk K (He.ga K q.1)) = gl.map fun q => wt q.1 q.1 q.2 := congrArg (fun z : Ans => z.2.1) c
  obtain ⟨fd, F, df⟩ := lk_fun (map_at e1 e) c5
  exact ⟨_, fd, ⟨F, He.glo_ok X G c2, He.keep_ok c4⟩, df⟩
theorem ob_mt (c : obK K = okK) (i : Nat) {x q : Str} {st : Stmt} (e : mts[i]? = some (x, q, st) := by rfl) : ∃ fd, C8.Fun K x q st (mA K x) fd ∧ fd.defaults = .none := by
  have c1 := List.all_eq_true.mp (He.ba (He.ba (He.ba (ob_fl c)).2).2).1 (x, q, st) (List.mem_of_getElem? e)
  have e1 : mts.map (fun q => lk K (mA K q.1)) = mts.map fun q => wt q.1 q.2.1 q.2.2 := congrArg (fun z : Ans => z.2.2.1) c
  exact lk_fun (map_at e1 e) c1
theorem ob_pr (c : obK K = okK) (i : Nat) {x q : Str} {st : Stmt} (e : prs[i]? = some (x, q, st) := by rfl) : ∃ fd, PropOf K (cA K) x (mA K x) (gA K x) ∧ C8.Fun K x q st (gA K x) fd ∧ fd.defaults = .none := by
  have c1 := List.all_eq_true.mp (He.ba (He.ba (He.ba (He.ba (ob_fl c)).2).2).2).1 (x, q, st) (List.mem_of_getElem? e)
  obtain ⟨c2, c3⟩ := He.ba c1
  have e1 : prs.map (fun q => lk K (gA K q.1)) = prs.map fun q => wt q.1 q.2.1 q.2.2 := congrArg (fun z : Ans => z.2.2.2) c
  obtain ⟨fd, F⟩ := lk_fun (map_at e1 e) c3
  exact ⟨fd, prB_ok c2, F⟩
theorem ob_txt (X : K.In h) (G : h.Ns mainGlobals mg) (c : obK K = okK) : Txt K mg (cA K) := by
  have ci := (He.ba (He.ba (He.ba (He.ba (He.ba (ob_fl c)).2).2).2).2).1
  exact ⟨insB_ok (He.cls_ok (ob_fa c 1)) ci, He.noat_ok (ob_fa c 2), He.noat_ok (ob_fa c 3), He.glo_ok X G (ob_fa c 0), He.free_ok X G (ob_fa c 13), He.free_ok X G (ob_fa c 14), He.free_ok X G (ob_fa c 15), He.free_ok X G (ob_fa c 16), He.free_ok X G (ob_fa c 17), He.free_ok X G (ob_fa c 18), He.free_ok X G (ob_fa c 19), He.free_ok X G (ob_fa c 20), He.free_ok X G (ob_fa c 21), He.free_ok X G (ob_fa c 22), He.free_ok X G (ob_fa c 23), He.free_ok X G (ob_fa c 24), He.free_ok X G (ob_fa c 25), He.free_ok X G (ob_fa c 26),
    He.str_ok X G (ob_fa c 9), He.int_ok X G (ob_fa c 10), He.int_ok X G (ob_fa c 11), He.int_ok X G (ob_fa c 12)⟩
theorem ob_cls (X : K.In h) (G : h.Ns mainGlobals mg) (c : obK K = okK) : KClasses K mg := dicB_ok (He.glo_ok X G (ob_fa c 8)) (He.ba (He.ba (He.ba (He.ba (He.ba (ob_fl c)).2).2).2).2).2
theorem law_binds {f : Addr} {fd : FuncData} (F : C8.Fun K "law" "law" sLaw f fd) (df : fd.defaults = .none) (s : Shared) (v : Value) : BindsTo s fd ⟨[v], []⟩ [("_law_script", v)] := by
  obtain ⟨oc, od, dV, kV, doc, pm, an, cdv, ct, osl, rfl, lk, hcd⟩ := F.ex
  have e : dV = .none := df
  subst e
  exact .of_eq rfl
theorem facts {P : Program} {w : World} {fa : Addr} (X : K.In h) (G : h.Ns mainGlobals mg) (hfa : mg "law" = some (.ref fa)) (c : obK K = okK) :
    ∃ fd : FuncData, (∀ (s : Shared) (v : Value), BindsTo s fd ⟨[v], []⟩ [("_law_script", v)]) ∧ ∀ base : Heap, K.In base → base.Ns mainGlobals mg → FnOk P w K mg base C8.CX0 10 fa fd ["_law_script"] (spLaw K) := by
  have T := ob_txt X G c
  have TC := ob_cls X G c
  obtain ⟨f0, fd0, F0, d0⟩ := ob_def X G c 0 (x := "is_integer") (st := sIsInt)
  have b0 := F0.fn.binds d0 (ps := ["value"]) fun _ _ _ _ _ _ us hl => match us, hl with | [_], _ => rfl
  obtain ⟨f1, fd1, F1, d1⟩ := ob_def X G c 1 (x := "in_range") (st := sInRange)
  have b1 := F1.fn.binds d1 (ps := ["value", "least", "most"]) fun _ _ _ _ _ _ us hl => match us, hl with | [_, _, _], _ => rfl
  obtain ⟨f2, fd2, F2, d2⟩ := ob_def X G c 2 (x := "check_length") (st := sChkLen)
  have b2 := F2.fn.binds d2 (ps := ["length"]) fun _ _ _ _ _ _ us hl => match us, hl with | [_], _ => rfl
  obtain ⟨f3, fd3, F3, d3⟩ := ob_def X G c 3 (x := "check_turns") (st := sChkT)
  have b3 := F3.fn.binds d3 (ps := ["value"]) fun _ _ _ _ _ _ us hl => match us, hl with | [_], _ => rfl
  obtain ⟨f4, fd4, F4, d4⟩ := ob_def X G c 4 (x := "letters_of") (st := sLetOf)
  have b4 := F4.fn.binds d4 (ps := ["turns"]) fun _ _ _ _ _ _ us hl => match us, hl with | [_], _ => rfl
  obtain ⟨f5, fd5, F5, d5⟩ := ob_def X G c 5 (x := "next_binomials") (st := sNB)
  have b5 := F5.fn.binds d5 (ps := ["row", "degree"]) fun _ _ _ _ _ _ us hl => match us, hl with | [_, _], _ => rfl
  obtain ⟨f6, fd6, F6, d6⟩ := ob_def X G c 6 (x := "binomial_rows") (st := sBR)
  have b6 := F6.fn.binds d6 (ps := ["length", "degree"]) fun _ _ _ _ _ _ us hl => match us, hl with | [_, _], _ => rfl
  obtain ⟨f7, fd7, F7, d7⟩ := ob_def X G c 7 (x := "totals_for") (st := sTot)
  have b7 := F7.fn.binds d7 (ps := ["turns", "values"]) fun _ _ _ _ _ _ us hl => match us, hl with | [_, _], _ => rfl
  obtain ⟨f8, fd8, F8, d8⟩ := ob_def X G c 8 (x := "all_pairs") (st := sAP)
  have b8 := F8.fn.binds d8 (ps := ["turns"]) fun _ _ _ _ _ _ us hl => match us, hl with | [_], _ => rfl
  obtain ⟨f9, fd9, F9, d9⟩ := ob_def X G c 9 (x := "first_difference") (st := sFD)
  have b9 := F9.fn.binds d9 (ps := ["turns", "pairs"]) fun _ _ _ _ _ _ us hl => match us, hl with | [_, _], _ => rfl
  obtain ⟨f10, fd10, F10, d10⟩ := ob_def X G c 10 (x := "certificate") (st := sCert)
  have b10 := F10.fn.binds d10 (ps := ["turns"]) fun _ _ _ _ _ _ us hl => match us, hl with | [_], _ => rfl
  obtain ⟨f11, fd11, F11, d11⟩ := ob_def X G c 11 (x := "order") (st := sOrd)
  have b11 := F11.fn.binds d11 (ps := ["turns"]) fun _ _ _ _ _ _ us hl => match us, hl with | [_], _ => rfl
  obtain ⟨f12, fd12, F12, d12⟩ := ob_def X G c 12 (x := "check_factors") (st := sCF)
  have b12 := F12.fn.binds d12 (ps := ["factors"]) fun _ _ _ _ _ _ us hl => match us, hl with | [_], _ => rfl
  obtain ⟨f13, fd13, F13, d13⟩ := ob_def X G c 13 (x := "raised") (st := sRaised)
  have b13 := F13.fn.binds d13 (ps := ["text", "player", "players"]) fun _ _ _ _ _ _ us hl => match us, hl with | [_, _, _], _ => rfl
  obtain ⟨f14, fd14, F14, d14⟩ := ob_def X G c 14 (x := "product_of_two") (st := sP2)
  have b14 := F14.fn.binds d14 (ps := ["one", "other"]) fun _ _ _ _ _ _ us hl => match us, hl with | [_, _], _ => rfl
  obtain ⟨f15, fd15, F15, d15⟩ := ob_def X G c 15 (x := "product") (st := sProd)
  obtain ⟨f16, fd16, F16, d16⟩ := ob_def X G c 16 (x := "check_list") (st := sCL)
  have b16 := F16.fn.binds d16 (ps := ["factors"]) fun _ _ _ _ _ _ us hl => match us, hl with | [_], _ => rfl
  obtain ⟨f17, fd17, F17, d17⟩ := ob_def X G c 17 (x := "length_of") (st := sLO)
  have b17 := F17.fn.binds d17 (ps := ["factors"]) fun _ _ _ _ _ _ us hl => match us, hl with | [_], _ => rfl
  obtain ⟨f18, fd18, F18, d18⟩ := ob_def X G c 18 (x := "player_at") (st := sPA)
  have b18 := F18.fn.binds d18 (ps := ["factors", "position"]) fun _ _ _ _ _ _ us hl => match us, hl with | [_, _], _ => rfl
  obtain ⟨f19, fd19, F19, d19⟩ := ob_def X G c 19 (x := "check_position") (st := sCP)
  have b19 := F19.fn.binds d19 (ps := ["value", "least", "most"]) fun _ _ _ _ _ _ us hl => match us, hl with | [_, _, _], _ => rfl
  obtain ⟨f20, fd20, F20, d20⟩ := ob_def X G c 20 (x := "turn_at") (st := sTA)
  have b20 := F20.fn.binds d20 (ps := ["factors", "position"]) fun _ _ _ _ _ _ us hl => match us, hl with | [_, _], _ => rfl
  obtain ⟨f21, fd21, F21, d21⟩ := ob_def X G c 21 (x := "text_between") (st := sTB)
  have b21 := F21.fn.binds d21 (ps := ["factors", "start", "end"]) fun _ _ _ _ _ _ us hl => match us, hl with | [_, _, _], _ => rfl
  obtain ⟨f22, fd22, F22, d22⟩ := ob_def X G c 22 (x := "multiplicity") (st := sMul)
  have b22 := F22.fn.binds d22 (ps := ["coefficients"]) fun _ _ _ _ _ _ us hl => match us, hl with | [_], _ => rfl
  obtain ⟨f23, fd23, F23, d23⟩ := ob_def X G c 23 (x := "class_order") (st := sCO)
  have b23 := F23.fn.binds d23 (ps := ["turns", "rows"]) fun _ _ _ _ _ _ us hl => match us, hl with | [_, _], _ => rfl
  obtain ⟨f24, fd24, F24, d24⟩ := ob_def X G c 24 (x := "product_order") (st := sPO)
  have b24 := F24.fn.binds d24 (ps := ["factors"]) fun _ _ _ _ _ _ us hl => match us, hl with | [_], _ => rfl
  obtain ⟨f25, fd25, F25, d25⟩ := ob_def X G c 25 (x := "_law_hand") (st := sHand)
  have b25 := F25.fn.binds d25 (ps := ["_law_script", "_law_k"]) fun _ _ _ _ _ _ us hl => match us, hl with | [_, _], _ => rfl
  obtain ⟨f26, fd26, F26, d26⟩ := ob_def X G c 26 (x := "_law_draw") (st := sDraw)
  have b26 := F26.fn.binds d26 (ps := ["_law_pool", "_law_size"]) fun _ _ _ _ _ _ us hl => match us, hl with | [_, _], _ => rfl
  obtain ⟨f27, fd27, F27, d27⟩ := ob_def X G c 27 (x := "_law_text") (st := sText2)
  have b27 := F27.fn.binds d27 (ps := ["_law_pool", "_law_players", "_law_most"]) fun _ _ _ _ _ _ us hl => match us, hl with | [_, _, _], _ => rfl
  obtain ⟨f28, fd28, F28, d28⟩ := ob_def X G c 28 (x := "_law_power") (st := sPow)
  have b28 := F28.fn.binds d28 (ps := ["_law_base", "_law_exponent"]) fun _ _ _ _ _ _ us hl => match us, hl with | [_, _], _ => rfl
  obtain ⟨f29, fd29, F29, d29⟩ := ob_def X G c 29 (x := "_law_sum") (st := sSum)
  have b29 := F29.fn.binds d29 (ps := ["_law_text_here", "_law_player", "_law_values"]) fun _ _ _ _ _ _ us hl => match us, hl with | [_, _, _], _ => rfl
  obtain ⟨f30, fd30, F30, d30⟩ := ob_def X G c 30 (x := "_law_order") (st := sLOrd)
  have b30 := F30.fn.binds d30 (ps := ["_law_text_here", "_law_letters"]) fun _ _ _ _ _ _ us hl => match us, hl with | [_, _], _ => rfl
  obtain ⟨f31, fd31, F31, d31⟩ := ob_def X G c 31 (x := "_law_added") (st := sAdded)
  have b31 := F31.fn.binds d31 (ps := ["_law_one", "_law_other", "_law_players"]) fun _ _ _ _ _ _ us hl => match us, hl with | [_, _, _], _ => rfl
  obtain ⟨f32, fd32, F32, d32⟩ := ob_def X G c 32 (x := "_law_place") (st := sPlace)
  have b32 := F32.fn.binds d32 (ps := ["_law_pool", "_law_size"]) fun _ _ _ _ _ _ us hl => match us, hl with | [_, _], _ => rfl
  obtain ⟨f33, fd33, F33, d33⟩ := ob_def X G c 33 (x := "_law_classes") (st := sClasses)
  have b33 := F33.fn.binds d33 (ps := ["_law_text_here", "_law_players"]) fun _ _ _ _ _ _ us hl => match us, hl with | [_, _], _ => rfl
  obtain ⟨f34, fd34, F34, d34⟩ := ob_def X G c 34 (x := "_law_right") (st := sRight)
  have b34 := F34.fn.binds d34 (ps := ["_law_pool", "_law_some", "_law_players"]) fun _ _ _ _ _ _ us hl => match us, hl with | [_, _, _], _ => rfl
  obtain ⟨f35, fd35, F35, d35⟩ := ob_def X G c 35 (x := "_law_mixed") (st := sMixed)
  have b35 := F35.fn.binds d35 (ps := ["_law_pool"]) fun _ _ _ _ _ _ us hl => match us, hl with | [_], _ => rfl
  obtain ⟨f36, fd36, F36, d36⟩ := ob_def X G c 36 (x := "law") (st := sLaw)
  obtain ⟨fdInit, FInit, dInit⟩ := ob_mt c 0
  have bInit := FInit.binds dInit (ps := ["self", "text", "players"]) fun _ _ _ _ _ _ us hl => match us, hl with | [_, _, _], _ => rfl
  obtain ⟨fdChk, FChk, dChk⟩ := ob_mt c 1
  have bChk := FChk.binds dChk (ps := ["self", "value"]) fun _ _ _ _ _ _ us hl => match us, hl with | [_, _], _ => rfl
  obtain ⟨fdPos, FPos, dPos⟩ := ob_mt c 2
  have bPos := FPos.binds dPos (ps := ["self", "player"]) fun _ _ _ _ _ _ us hl => match us, hl with | [_, _], _ => rfl
  obtain ⟨fdLen, FLen, dLen⟩ := ob_mt c 3
  have bLen := FLen.binds dLen (ps := ["self"]) fun _ _ _ _ _ _ us hl => match us, hl with | [_], _ => rfl
  obtain ⟨fdTx, poTx, FTx, dTx⟩ := ob_pr c 0
  have bTx := FTx.binds dTx (ps := ["self"]) fun _ _ _ _ _ _ us hl => match us, hl with | [_], _ => rfl
  obtain ⟨fdPl, poPl, FPl, dPl⟩ := ob_pr c 1
  have bPl := FPl.binds dPl (ps := ["self"]) fun _ _ _ _ _ _ us hl => match us, hl with | [_], _ => rfl
  have e := hfa.symm.trans F36.mgf
  cases e
  refine ⟨fd36, law_binds F36.fn d36, fun base _ _ => ?_⟩
  have pT := ok_text (P := P) (w := w) (base := base) T FTx bTx poTx
  have pP := ok_players (P := P) (w := w) (base := base) T FPl bPl poPl
  have cLen := ok_len (P := P) (w := w) (base := base) T FLen bLen (He.meth_ok (ob_fa c 7)).at_ (He.meth_ok (ob_fa c 7)).fn
  have mChk := ok_chkPl (P := P) (w := w) (base := base) T (He.meth_ok (ob_fa c 5)) FChk bChk
  have mPos := ok_pos (P := P) (w := w) (base := base) T mChk (He.meth_ok (ob_fa c 6)) FPos bPos
  have cII := ok_isInt (P := P) (w := w) (base := base) T F0 b0
  have cIR := ok_inRange (P := P) (w := w) (base := base) cII F1 b1
  have cM := ok_init (P := P) (w := w) (base := base) T T.nT cIR (He.mkr_ok (ob_fa c 4)) FInit bInit
  have cCLn := ok_chkLen (P := P) (w := w) (base := base) T F2 b2
  have cCT := ok_chkT (P := P) (w := w) (base := base) T F3 b3
  have cLet := ok_letOf (P := P) (w := w) (base := base) T pP F4 b4
  have cNB := ok_nb (P := P) (w := w) (base := base) T F5 b5
  have cTot := ok_tot (P := P) (w := w) (base := base) T cLet mPos F7 b7
  have cAP := ok_ap (P := P) (w := w) (base := base) T cLet F8 b8
  have cFD := ok_fd (P := P) (w := w) (base := base) T cLen cNB F6 b6 cTot F9 b9
  have cCert := ok_cert (P := P) (w := w) (base := base) cCT cAP cFD F10 b10
  have cOrd := ok_ord (P := P) (w := w) (base := base) cCert F11 b11
  have cCF := ok_cf (P := P) (w := w) (base := base) T pP F12 b12
  have cRa := ok_raised (P := P) (w := w) (base := base) T F13 b13
  have cP2 := ok_p2 (P := P) (w := w) (base := base) T pT pP cRa cM F14 b14
  have cPr := ok_prod (P := P) (w := w) (base := base) T cLen cCF cCLn cP2 F15 d15
  have cCL := ok_cl (P := P) (w := w) (base := base) T cCF F16 b16
  have cLO := ok_lo (P := P) (w := w) (base := base) T cLen cCL F17 b17
  have cPA := ok_pa (P := P) (w := w) (base := base) T pT pP cLen F18 b18
  have cCP := ok_cp (P := P) (w := w) (base := base) cII F19 b19
  have cTA := ok_ta (P := P) (w := w) (base := base) cCP cLO cPA F20 b20
  have cTB := ok_tb (P := P) (w := w) (base := base) T cCP cLO cPA F21 b21
  have cMul := ok_mul (P := P) (w := w) (base := base) T F22 b22
  have cCO := ok_co (P := P) (w := w) (base := base) T pT cMul F23 b23
  have cPO := ok_po (P := P) (w := w) (base := base) T TC pP cCL cCO F24 b24
  have cHand := ok_hand (P := P) (w := w) (base := base) T F25 b25
  have cDraw := ok_draw (P := P) (w := w) (base := base) F26 b26
  have cText := ok_text2 (P := P) (w := w) (base := base) T cDraw F27 b27
  have cPow := ok_pow (P := P) (w := w) (base := base) T F28 b28
  have cSum := ok_sum (P := P) (w := w) (base := base) T F29 b29
  have cLOrd := ok_lord (P := P) (w := w) (base := base) T cPow cSum F30 b30
  have cAdd := ok_added (P := P) (w := w) (base := base) F31 b31
  have cPlc := ok_place (P := P) (w := w) (base := base) T cDraw F32 b32
  have cCls := ok_cl2 (P := P) (w := w) (base := base) T cLOrd F33 b33
  have cRt := ok_rt (P := P) (w := w) (base := base) T cLen cLO cTA cTB cPr cPlc cAdd F34 b34
  have cMx := ok_mx (P := P) (w := w) (base := base) T cDraw cM cPO F35 b35
  exact ok_law T cHand cDraw cText cM cRt cOrd cPO cCls cMx pT F36
end
theorem walk {l : PySem.W.OpenLaw} {q : Program} {loose : List Str} {XP : (Str → Option Value) → Heap → Prop} {YP : World → Heap → Prop} {d : DefRec} {K : Params → Fg} (hn : l.most = some 63) (hdf : d.params.defaults = []) (hdn : d.name = "law")
    (hY : ∀ (w : World) (h : Heap), YP w h → (K w.params).In h) (c : ∀ p : Params, obK (K p) = okK) : PySem.W.WalkO q loose XP YP l.row.toRowW d [] (fun f vs => PySem.call f vs) :=
  L2.walk_of (n := 63) (k := 10) (x := "_law_script") (CX := fun _ => C8.CX0) (sp := fun w => spLaw (K w.params)) hn (by decide) hdf ⟨rfl, by decide, by decide⟩ hY
    (fun w mg fa h KX G hm => facts KX G (by rw [← hdn]; exact hm) (c w.params)) (fun _ _ a ns hl _ hS => ⟨a, ns, rfl, hS, by omega, fun _ => rfl⟩) fun _ _ _ _ _ z => z
end TB

set_option maxRecDepth 100000
set_option maxHeartbeats 0
namespace TB
open PySem PySem.Spec PyProof.Rows L2
/-! the head: its names, what it is asked, its run -/
def loose1 : List Str := ["_wall", "InvalidTurns", "InvalidPlayer", "InvalidNumber", "InvalidFactors", "LimitExceeded", "LETTERS", "MAX_TURNS_turns", "FEWEST_PLAYERS", "is_integer", "in_range", "check_length", "Turns", "check_turns", "letters_of", "next_binomials", "binomial_rows", "totals_for", "first_difference", "all_pairs", "certificate", "order", "check_factors", "raised"]
def loose2 : List Str := ["product_of_two", "product", "MAX_FACTORS", "CLASSES", "check_list", "length_of", "player_at", "check_position", "turn_at", "text_between", "multiplicity", "class_order", "product_order", "_law_hand", "_law_draw", "_law_text", "_law_power", "_law_sum", "_law_order", "_law_added", "_law_place", "_law_classes", "_law_right", "_law_mixed"]
def looseN : List Str := loose1 ++ loose2
abbrev RL : PySem.W.OpenLaw := PySem.Challenge.rw_turnbalance_k19_whole_great_products
abbrev RR : PySem.W.OpenRow := PySem.W.OpenLaw.row RL
def obG (g : Addr → Option Obj) : Ans := obK (He.frG g (He.asD g 6))
def hkT : PySem.W.Hook where
  α := Ans
  obs := fun s => obG s.heap.get?
  val := fun _ => okK
  says := fun _ h => ∃ K : Fg, K.In h ∧ obK K = okK
  of := fun _ _ e => ⟨_, He.frG_in, e⟩
  keeps := fun _ _ _ z k => z.imp fun _ y => ⟨PySem.W.Frag.In.keeps y.1 k, y.2⟩
def obT (s : PySem.W.SharedT) : Ans := obG (HandSHeadRun.getT s)
theorem obT_eq (s : PySem.W.SharedT) : obT s = hkT.obs s.abs := congrArg obG (funext (HandSHeadRun.getT_eq s))
theorem runF (w : World) : HandSHeadRun.RunEq RR (PySem.W.view RR.prog [54]) hkT obT 8000 looseN (w.withFollow "special-get-raises" false) := by
  intro os
  kernel_rfl
theorem runG (w : World) : HandSHeadRun.RunEq RR (PySem.W.view RR.prog [54]) hkT obT 8000 looseN (w.withFollow "special-get-raises" true) := by
  intro os
  kernel_rfl
theorem runT (w : World) : HandSHeadRun.RunEq RR (PySem.W.view RR.prog [54]) hkT obT 8000 looseN w := PySem.W.byRow2 "special-get-raises" (P := fun w => HandSHeadRun.RunEq RR (PySem.W.view RR.prog [54]) hkT obT 8000 looseN w) runF runG w
end TB

set_option maxRecDepth 100000
set_option maxHeartbeats 0
open PySem PySem.W PySem.Calls PyProof.Rows in
theorem PySem.Challenge.cw_turnbalance_k19_whole_great_products_holds : PySem.Challenge.rw_turnbalance_k19_whole_great_products.Holds := by
  w_on; o_law
  refine HandSHeadRun.head_any (r := TB.RR) (q := view TB.RR.prog [54]) (H := TB.hkT) (ob := TB.obT) (M := 8000) (loose := TB.looseN) (d := HandSHeadRun.topDef TB.RR.prog 54) (kwd := []) TB.obT_eq
    (by kernel_rfl) (fun s => by kernel_rfl) TB.runT (by kernel_rfl) (by kernel_rfl) (by kernel_rfl) (by rfl) (by first | assumption | decide +kernel) (by decide +kernel) ⟨rfl, rfl, rfl, rfl, rfl, by decide +kernel⟩ ?hw ?hc
  case hw => w_witness2
  case hc =>
    refine L2.walk_ofE (l := TB.RL) (n := 63) (k := 10) (x := "_law_script") (CX := C8.CX0) rfl (by decide) (by kernel_rfl) ⟨rfl, by decide, by decide⟩ ?F (fun _ _ _ _ z => z)
    intro w mg fa h Y G hm
    obtain ⟨K, KX, c⟩ := Y
    obtain ⟨fd, hb, hF⟩ := TB.facts (P := TB.RL.prog) (w := w) KX G hm c
    exact ⟨K, fd, TB.spLaw K, KX, hb, fun H a ns hl _ hS => ⟨a, ns, rfl, hS, by omega, fun _ => rfl⟩, hF⟩
