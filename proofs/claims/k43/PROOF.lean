import PyProof.Rows.All
import Wide.All
import OpenK.AllK
import Wide.FinOn
import PySem.Challenge.RW_keptmisses_k43_whole_advisers_who_always
import HandS.ForMost
import HandS.HeadHook4
import HandS.Head3
import HandS.HeadWalk
import HandS.Lambda
import HandS.Gcd
import HandS.IsInst
import HandS.TupAny
import KE.KeyNested
import KE.KDictKeyed
import KE.KDictDisplayH
import HandS.TupLen
import HandS.DictComp
import KE.SortData
import HandS.SortKw
import HandS.Zip
import HandS.WideBits
import KE.KStateDown
import HandS.NestedK
set_option linter.all false
/-! The mathematics of k43: fractions are Rat, a circle is a list of advisers of size 2. -/
namespace K43

/-- a rule: the letter told, the states behind 0 and 1 -/
abbrev Rule := Nat × Nat × Nat
abbrev Adv := List Rule
abbrev Key := List (Nat × Nat)
def told (a : Adv) (s : Nat) : Nat := (a.getD s (0, 0, 0)).1
def nxt (a : Adv) (s x : Nat) : Nat := if x = 0 then (a.getD s (0, 0, 0)).2.1 else (a.getD s (0, 0, 0)).2.2
def step1 (a : Adv) (q : Nat × Nat) (x : Nat) : Nat × Nat := (nxt a q.1 x, if told a q.1 = x then q.2 else q.2 + 1)
def raw (c : List Adv) (k : Key) (x : Nat) : Key := List.zipWith (fun a q => step1 a q x) c k
/-- the least gap -/
def least : Key → Nat
  | [] => 0
  | [q] => q.2
  | q :: r => min q.2 (least r)
def stp (c : List Adv) (k : Key) (x : Nat) : Key × Nat := ((raw c k x).map fun q => (q.1, q.2 - least (raw c k x)), least (raw c k x))
/-- the level of two worths, as the first best lot tells it -/
def lev (w0 w1 : Rat) : Rat := if (if w0 < w1 then w1 else w0) < (w0 + w1 + 1) / 2 then (w0 + w1 + 1) / 2 else if w0 < w1 then w1 else w0
def Lv (c : List Adv) : Nat → Key → Rat
  | 0, _ => 0
  | m + 1, k => lev (Lv c m (stp c k 0).1 - (stp c k 0).2) (Lv c m (stp c k 1).1 - (stp c k 1).2)
def wr (c : List Adv) (m : Nat) (k : Key) (x : Nat) : Rat := Lv c m (stp c k x).1 - (stp c k x).2
theorem Lv_succ (c : List Adv) (m : Nat) (k : Key) : Lv c (m + 1) k = lev (wr c m k 0) (wr c m k 1) := rfl
/-- the chance of a worth at a level -/
def cha (w l : Rat) : Rat := if w + 1 - l < 0 then 0 else w + 1 - l

theorem lev_cases (w0 w1 : Rat) : lev w0 w1 = (w0 + w1 + 1) / 2 ∨ lev w0 w1 = w1 ∨ lev w0 w1 = w0 := by
  unfold lev
  by_cases h : w0 < w1
  · rw [if_pos h]
    split
    · exact .inl rfl
    · exact .inr (.inl rfl)
  · rw [if_neg h]
    split
    · exact .inl rfl
    · exact .inr (.inr rfl)
theorem lev_ge0 (w0 w1 : Rat) : w0 ≤ lev w0 w1 := by unfold lev; grind
theorem lev_ge1 (w0 w1 : Rat) : w1 ≤ lev w0 w1 := by unfold lev; grind
theorem lev_geM (w0 w1 : Rat) : (w0 + w1 + 1) / 2 ≤ lev w0 w1 := by unfold lev; grind
theorem lev_mid {w0 w1 : Rat} (h : w0 - w1 ≤ 1) (h2 : w1 - w0 ≤ 1) : lev w0 w1 = (w0 + w1 + 1) / 2 := by unfold lev; grind
theorem lev_le {w0 w1 b : Rat} (h0 : w0 ≤ b) (h1 : w1 ≤ b) : lev w0 w1 ≤ b + 1/2 := by unfold lev; grind
theorem cha_miss {w l : Rat} : 1 - cha w l ≤ l - w := by unfold cha; grind
theorem cha_nonneg {w l : Rat} : 0 ≤ cha w l := by unfold cha; grind
theorem cha_le1 {w l : Rat} (h : w ≤ l) : cha w l ≤ 1 := by unfold cha; grind

/-! ### halves: the random walk -/
def rabs (q : Rat) : Rat := if q < 0 then -q else q
def am : Nat → Int → Rat
  | 0, d => (d.natAbs : Rat) / 2
  | m + 1, d => (am m (d + 1) + am m (d - 1)) / 2
theorem am_succ (m : Nat) (d : Int) : am (m + 1) d = (am m (d + 1) + am m (d - 1)) / 2 := rfl
theorem am_lip : ∀ (m : Nat) (d : Int), am m (d + 1) - am m d ≤ 1/2 ∧ am m d - am m (d + 1) ≤ 1/2
  | 0, d => by
    show ((d + 1).natAbs : Rat) / 2 - (d.natAbs : Rat) / 2 ≤ 1/2 ∧ (d.natAbs : Rat) / 2 - ((d + 1).natAbs : Rat) / 2 ≤ 1/2
    have h1 : (d + 1).natAbs ≤ d.natAbs + 1 := by omega
    have h2 : d.natAbs ≤ (d + 1).natAbs + 1 := by omega
    have h1' : ((d + 1).natAbs : Rat) ≤ (d.natAbs : Rat) + 1 := by exact_mod_cast h1
    have h2' : (d.natAbs : Rat) ≤ ((d + 1).natAbs : Rat) + 1 := by exact_mod_cast h2
    grind
  | m + 1, d => by
    have a := am_lip m (d + 1)
    have b := am_lip m (d - 1)
    have e : d - 1 + 1 = d + 1 - 1 := by omega
    rw [e] at b
    unfold am
    grind
theorem am_lip2 (m : Nat) (d : Int) : am m (d + 1) - am m (d - 1) ≤ 1 ∧ am m (d - 1) - am m (d + 1) ≤ 1 := by
  have a := am_lip m d
  have b := am_lip m (d - 1)
  have e : d - 1 + 1 = d := by omega
  rw [e] at b
  grind

/-! ### two advisers who always differ -/
structure Bis (A B : Adv) (R : Nat → Nat → Prop) : Prop where
  one : ∀ s t, R s t → told A s + told B t = 1
  nx : ∀ s t x, R s t → x < 2 → R (nxt A s x) (nxt B t x)
def cir (P : List Bool) (A B : Adv) : List Adv := P.map fun b => if b = true then A else B
def kk (P : List Bool) (s t g1 g2 : Nat) : Key := P.map fun b => if b = true then (s, g1) else (t, g2)
/-- a pattern with both of them: the least gap is the lesser one -/
def Both (P : List Bool) : Prop := ∀ s t g1 g2, least (kk P s t g1 g2) = min g1 g2
theorem both_tf : Both [true, false] := fun s t g1 g2 => by simp [kk, least]
theorem both_ft : Both [false, true] := fun s t g1 g2 => by simp [kk, least, Nat.min_comm]
theorem both_tft : Both [true, false, true] := fun s t g1 g2 => by simp [kk, least]
theorem both_tff : Both [true, false, false] := fun s t g1 g2 => by simp [kk, least]
theorem raw_kk (P : List Bool) (A B : Adv) (s t g1 g2 x : Nat) : raw (cir P A B) (kk P s t g1 g2) x = kk P (nxt A s x) (nxt B t x) (if told A s = x then g1 else g1 + 1) (if told B t = x then g2 else g2 + 1) := by
  unfold raw cir kk
  induction P with
  | nil => rfl
  | cons b r ih =>
    rw [List.map_cons, List.map_cons, List.map_cons, List.zipWith_cons_cons, ih]
    cases b <;> simp [step1]
theorem stp_kk {P : List Bool} (hP : Both P) (A B : Adv) (s t g1 g2 x : Nat) : stp (cir P A B) (kk P s t g1 g2) x =
    (kk P (nxt A s x) (nxt B t x) ((if told A s = x then g1 else g1 + 1) - min (if told A s = x then g1 else g1 + 1) (if told B t = x then g2 else g2 + 1)) ((if told B t = x then g2 else g2 + 1) - min (if told A s = x then g1 else g1 + 1) (if told B t = x then g2 else g2 + 1)),
      min (if told A s = x then g1 else g1 + 1) (if told B t = x then g2 else g2 + 1)) := by
  unfold stp
  rw [raw_kk, hP]
  refine Prod.ext ?_ rfl
  show List.map _ (kk P _ _ _ _) = kk P _ _ _ _
  unfold kk
  rw [List.map_map]
  refine List.map_congr_left fun b _ => ?_
  cases b <;> simp
theorem lev_comm (a b : Rat) : lev a b = lev b a := by unfold lev; grind
theorem wr_val {m : Nat} {d : Int} {D e u : Rat} (h : e = D + 1/2) (hu : u = am m d - e) : u = am m d - D - 1/2 := by grind
theorem nat_half {a b : Nat} {l : Nat} (h : b + 2 * l = a + 1) : (b : Rat) / 2 + l = (a : Rat) / 2 + 1/2 := by
  have h' : (b : Rat) + 2 * l = (a : Rat) + 1 := by exact_mod_cast h
  grind
theorem Lv_pair {P : List Bool} (hP : Both P) {A B : Adv} {R : Nat → Nat → Prop} (hR : Bis A B R) : ∀ (m s t g1 g2 : Nat), R s t → min g1 g2 = 0 →
    Lv (cir P A B) m (kk P s t g1 g2) = am m ((g1 : Int) - g2) - (((g1 : Int) - g2).natAbs : Rat) / 2
  | 0, s, t, g1, g2, _, _ => by
    show (0 : Rat) = _
    unfold am
    grind
  | m + 1, s, t, g1, g2, hr, h0 => by
    rw [Lv_succ]
    have tel := hR.one s t hr
    have key : ∀ x, x < 2 → wr (cir P A B) m (kk P s t g1 g2) x = am m ((g1 : Int) - g2 + (if told A s = x then -1 else 1)) - (((g1 : Int) - g2).natAbs : Rat) / 2 - 1/2 := by
      intro x hx
      unfold wr
      rw [stp_kk hP]
      have ih := Lv_pair hP hR m (nxt A s x) (nxt B t x) ((if told A s = x then g1 else g1 + 1) - min (if told A s = x then g1 else g1 + 1) (if told B t = x then g2 else g2 + 1))
        ((if told B t = x then g2 else g2 + 1) - min (if told A s = x then g1 else g1 + 1) (if told B t = x then g2 else g2 + 1)) (hR.nx s t x hr hx) (by omega)
      rw [ih]
      by_cases e : told A s = x
      · have e2 : ¬ told B t = x := by omega
        rw [if_pos e, if_neg e2, if_pos e]
        have q : ((g1 - min g1 (g2 + 1) : Nat) : Int) - ((g2 + 1 - min g1 (g2 + 1) : Nat) : Int) = (g1 : Int) - g2 + -1 := by omega
        rw [q]
        have q2 : ((g1 : Int) - g2 + -1).natAbs + 2 * (min g1 (g2 + 1)) = ((g1 : Int) - g2).natAbs + 1 := by omega
        have q3 := nat_half q2
        grind
      · have e2 : told B t = x := by omega
        rw [if_neg e, if_pos e2, if_neg e]
        have q : ((g1 + 1 - min (g1 + 1) g2 : Nat) : Int) - ((g2 - min (g1 + 1) g2 : Nat) : Int) = (g1 : Int) - g2 + 1 := by omega
        rw [q]
        have q2 : ((g1 : Int) - g2 + 1).natAbs + 2 * (min (g1 + 1) g2) = ((g1 : Int) - g2).natAbs + 1 := by omega
        have q3 := nat_half q2
        grind
    rw [key 0 (by omega), key 1 (by omega)]
    have lp := am_lip2 m ((g1 : Int) - g2)
    have es : (g1 : Int) - g2 - 1 = (g1 : Int) - g2 + -1 := by omega
    rw [es] at lp
    have fin : lev (am m ((g1 : Int) - g2 + -1) - (((g1 : Int) - g2).natAbs : Rat) / 2 - 1/2) (am m ((g1 : Int) - g2 + 1) - (((g1 : Int) - g2).natAbs : Rat) / 2 - 1/2) = am (m + 1) ((g1 : Int) - g2) - (((g1 : Int) - g2).natAbs : Rat) / 2 := by
      rw [lev_mid (by grind) (by grind)]
      rw [am_succ, es]
      grind
    by_cases e : told A s = 0
    · have e1 : ¬ told A s = 1 := by omega
      rw [if_pos e, if_neg e1]
      exact fin
    · have e1 : told A s = 1 := by omega
      rw [if_neg e, if_pos e1, lev_comm]
      exact fin
/-! ### one adviser, once or more -/
theorem Lv_one {P : List Bool} (hP : ∀ s t g1 g2, least (kk P s t g1 g2) = g1) {A : Adv} {G : Nat → Prop} (h1 : ∀ s, G s → told A s < 2) (h2 : ∀ s x, G s → x < 2 → G (nxt A s x)) : ∀ (m s : Nat), G s → Lv (cir P A A) m (kk P s s 0 0) = 0
  | 0, _, _ => rfl
  | m + 1, s, hs => by
    rw [Lv_succ]
    have key : ∀ x, x < 2 → wr (cir P A A) m (kk P s s 0 0) x = - (if told A s = x then 0 else 1) := by
      intro x hx
      have e1 : stp (cir P A A) (kk P s s 0 0) x = (kk P (nxt A s x) (nxt A s x) 0 0, if told A s = x then 0 else 0 + 1) := by
        unfold stp
        rw [raw_kk, hP]
        refine Prod.ext ?_ rfl
        show List.map _ (kk P _ _ _ _) = kk P _ _ _ _
        unfold kk
        rw [List.map_map]
        refine List.map_congr_left fun b _ => ?_
        cases b <;> simp
      unfold wr
      rw [e1]
      dsimp only
      rw [Lv_one hP h1 h2 m _ (h2 s x hs hx)]
      by_cases e : told A s = x
      · rw [if_pos e, if_pos e]; grind
      · rw [if_neg e, if_neg e]; grind
    rw [key 0 (by omega), key 1 (by omega)]
    have t2 := h1 s hs
    by_cases e : told A s = 0
    · have e1 : ¬ told A s = 1 := by omega
      rw [if_pos e, if_neg e1]
      unfold lev; grind
    · have e1 : told A s = 1 := by omega
      rw [if_neg e, if_pos e1]
      unfold lev; grind

/-! ### the ways: Pascal's rows -/
/-- [row[k] + row[k + 1], ..] -/
def mids : List Nat → List Nat
  | a :: b :: r => (a + b) :: mids (b :: r)
  | _ => []
def ways : Nat → List Nat
  | 0 => [1]
  | n + 1 => 1 :: mids (ways n) ++ [1]
/-- Σ row[k] * f(k), k from j on -/
def wsum (f : Nat → Nat) : Nat → List Nat → Nat
  | _, [] => 0
  | j, a :: r => a * f j + wsum f (j + 1) r
theorem mids_len : ∀ l : List Nat, (mids l).length = l.length - 1
  | [] => rfl
  | [_] => rfl
  | a :: b :: r => by
    show (mids (b :: r)).length + 1 = _
    rw [mids_len (b :: r)]
    simp
theorem ways_len : ∀ n, (ways n).length = n + 1
  | 0 => rfl
  | n + 1 => by
    show (1 :: mids (ways n) ++ [1]).length = _
    rw [List.length_append, List.length_cons, mids_len, ways_len n]
    simp
theorem wsum_append (f : Nat → Nat) : ∀ (l r : List Nat) (j : Nat), wsum f j (l ++ r) = wsum f j l + wsum f (j + l.length) r
  | [], r, j => by simp [wsum]
  | a :: l, r, j => by
    rw [List.cons_append]
    show a * f j + wsum f (j + 1) (l ++ r) = a * f j + wsum f (j + 1) l + _
    rw [wsum_append f l r (j + 1), List.length_cons]
    have e : j + (l.length + 1) = j + 1 + l.length := by omega
    rw [e]; omega
/-- the row behind: each entry counts at its place and at the next -/
theorem wsum_mids (f : Nat → Nat) : ∀ (a : Nat) (r : List Nat) (j : Nat), a * f j + wsum f (j + 1) (mids (a :: r)) + (a :: r).getLast (List.cons_ne_nil a r) * f (j + 1 + r.length) = wsum (fun k => f k + f (k + 1)) j (a :: r)
  | a, [], j => by
    simp [mids, wsum, Nat.mul_add]
  | a, b :: r, j => by
    have ih := wsum_mids f b r (j + 1)
    show a * f j + ((a + b) * f (j + 1) + wsum f (j + 1 + 1) (mids (b :: r))) + _ = a * (f j + f (j + 1)) + wsum _ (j + 1) (b :: r)
    rw [← ih, List.getLast_cons (List.cons_ne_nil b r), List.length_cons, Nat.add_mul, Nat.mul_add]
    have e : j + 1 + (r.length + 1) = j + 1 + 1 + r.length := by omega
    rw [e]; omega
theorem ways_ends : ∀ n, ∃ r, ways n = 1 :: r ∧ ∀ h, (1 :: r).getLast h = 1
  | 0 => ⟨[], rfl, fun _ => rfl⟩
  | n + 1 => ⟨mids (ways n) ++ [1], rfl, fun h => by
    rw [List.getLast_cons (by simp), List.getLast_append_of_ne_nil _ (by simp)]; rfl⟩
theorem wsum_ways (f : Nat → Nat) (n : Nat) : wsum f 0 (ways (n + 1)) = wsum (fun k => f k + f (k + 1)) 0 (ways n) := by
  obtain ⟨r, e, l⟩ := ways_ends n
  have hl := ways_len n
  show wsum f 0 (1 :: mids (ways n) ++ [1]) = _
  rw [wsum_append, e]
  rw [e] at hl
  have q := wsum_mids f 1 r 0
  rw [l] at q
  rw [← q]
  have el : (1 :: mids (1 :: r)).length = 1 + r.length := by
    rw [List.length_cons, mids_len, List.length_cons]; omega
  rw [el]
  show 1 * f 0 + wsum f (0 + 1) (mids (1 :: r)) + (1 * f (0 + (1 + r.length)) + 0) = _
  have e2 : 0 + 1 + r.length = 1 + r.length := by omega
  rw [e2, Nat.zero_add, Nat.zero_add]; omega
theorem wsum_congr {f g : Nat → Nat} (h : ∀ k, f k = g k) (j : Nat) (l : List Nat) : wsum f j l = wsum g j l := by
  have e : f = g := funext h
  rw [e]
theorem wsum_addf (f g : Nat → Nat) : ∀ (l : List Nat) (j : Nat), wsum (fun k => f k + g k) j l = wsum f j l + wsum g j l
  | [], _ => rfl
  | a :: r, j => by
    show a * (f j + g j) + wsum (fun k => f k + g k) (j + 1) r = a * f j + wsum f (j + 1) r + (a * g j + wsum g (j + 1) r)
    rw [wsum_addf f g r (j + 1), Nat.mul_add]; omega
theorem am_ways : ∀ (n : Nat) (d : Int), ((wsum (fun k => (d + n - 2 * k).natAbs) 0 (ways n) : Nat) : Rat) = 2 * 2 ^ n * am n d
  | 0, d => by
    have e : wsum (fun k => (d + (0 : Nat) - 2 * (k : Int)).natAbs) 0 (ways 0) = d.natAbs := by
      show 1 * (d + (0 : Nat) - 2 * ((0 : Nat) : Int)).natAbs + 0 = _
      rw [Nat.one_mul, Nat.add_zero]
      congr 1
      omega
    rw [e]
    unfold am
    grind
  | n + 1, d => by
    rw [wsum_ways, wsum_addf]
    have e1 : wsum (fun k => (d + ((n + 1 : Nat) : Int) - 2 * ((k : Nat) : Int)).natAbs) 0 (ways n) = wsum (fun k => ((d + 1) + n - 2 * k).natAbs) 0 (ways n) := wsum_congr (fun k => by congr 1; omega) _ _
    have e2 : wsum (fun k => (d + ((n + 1 : Nat) : Int) - 2 * ((k + 1 : Nat) : Int)).natAbs) 0 (ways n) = wsum (fun k => ((d - 1) + n - 2 * k).natAbs) 0 (ways n) := wsum_congr (fun k => by congr 1; omega) _ _
    rw [e1, e2]
    have a := am_ways n (d + 1)
    have b := am_ways n (d - 1)
    rw [am_succ]
    have c : (2 : Rat) ^ (n + 1) = 2 ^ n * 2 := Rat.pow_succ 2 n
    rw [c]
    push_cast
    rw [a, b]
    grind
theorem ways_sum (n : Nat) : wsum (fun _ => 1) 0 (ways n) = 2 ^ n := by
  induction n with
  | zero => rfl
  | succ n ih =>
    rw [wsum_ways, wsum_addf, ih, Nat.pow_succ]
    omega
theorem wsum_one : ∀ (l : List Nat) (j : Nat), wsum (fun _ => 1) j l = l.sum
  | [], _ => rfl
  | a :: r, j => by
    show a * 1 + wsum (fun _ => 1) (j + 1) r = _
    rw [wsum_one r, List.sum_cons]; omega
/-- what the law's own sum tells -/
def htop (n : Nat) : Nat := wsum (fun k => ((n : Int) - 2 * k).natAbs) 0 (ways n)
theorem halved (n : Nat) : mkRat (htop n) (2 * 2 ^ n) = am n 0 := by
  have h := am_ways n 0
  have e : wsum (fun k => ((0 : Int) + n - 2 * k).natAbs) 0 (ways n) = htop n := wsum_congr (fun k => by congr 1; omega) _ _
  rw [e] at h
  have h2 : (2 : Rat) ^ n ≠ 0 := by
    have := Rat.pow_pos (n := n) (show (0 : Rat) < 2 by decide)
    grind
  rw [Rat.mkRat_eq_div]
  push_cast
  rw [h]
  grind

/-! ### sizes: a whole number of 4096ths -/
def Sm (n : Nat) (q : Rat) : Prop := ∃ i : Int, q * 4096 = i ∧ i.natAbs ≤ n
theorem Sm.mono {n m : Nat} {q : Rat} (h : Sm n q) (l : n ≤ m) : Sm m q := let ⟨i, a, b⟩ := h; ⟨i, a, by omega⟩
theorem Sm.add {n m : Nat} {a b : Rat} (h : Sm n a) (h' : Sm m b) : Sm (n + m) (a + b) := by
  obtain ⟨i, e, l⟩ := h
  obtain ⟨j, e', l'⟩ := h'
  refine ⟨i + j, ?_, by omega⟩
  push_cast
  grind
theorem Sm.sub {n m : Nat} {a b : Rat} (h : Sm n a) (h' : Sm m b) : Sm (n + m) (a - b) := by
  obtain ⟨i, e, l⟩ := h
  obtain ⟨j, e', l'⟩ := h'
  refine ⟨i - j, ?_, by omega⟩
  push_cast
  grind
theorem Sm.zero : Sm 0 0 := ⟨0, by grind, by decide⟩
theorem Sm.nat (k : Nat) : Sm (4096 * k) (k : Rat) := ⟨4096 * (k : Int), by push_cast; grind, by omega⟩
theorem Sm.int (k : Int) : Sm (4096 * k.natAbs) (k : Rat) := ⟨4096 * k, by push_cast; grind, by omega⟩
theorem mk_eq {q : Rat} {i : Int} (e : q * 4096 = i) : q = mkRat i 4096 := by
  rw [Rat.mkRat_eq_div]
  push_cast
  grind
theorem Sm.den {n : Nat} {q : Rat} (h : Sm n q) : q.den ≤ 4096 ∧ q.num.natAbs ≤ n := by
  obtain ⟨i, e, l⟩ := h
  have hq := mk_eq e
  have g0 : 0 < Nat.gcd 4096 i.natAbs := Nat.gcd_pos_of_pos_left _ (by decide)
  constructor
  · rw [hq, Rat.den_mkRat, if_neg (by decide)]
    exact Nat.div_le_self _ _
  · rw [hq, Rat.num_mkRat, if_neg (by decide)]
    exact Nat.le_trans (Int.natAbs_ediv_le_natAbs _ _) l
/-- .. of 2048ths -/
def Sh (n : Nat) (q : Rat) : Prop := ∃ i : Int, q * 2048 = i ∧ i.natAbs ≤ n
theorem Sh.mono {n m : Nat} {q : Rat} (h : Sh n q) (l : n ≤ m) : Sh m q := let ⟨i, a, b⟩ := h; ⟨i, a, by omega⟩
theorem Sh.sm {n : Nat} {q : Rat} (h : Sh n q) : Sm (2 * n) q := let ⟨i, a, b⟩ := h; ⟨2 * i, by push_cast; grind, by omega⟩
theorem Sh.half {n m : Nat} {a b : Rat} (h : Sh n a) (h' : Sh m b) : Sm (n + m) ((a + b) * (1 / 2)) := by
  obtain ⟨i, e, l⟩ := h
  obtain ⟨j, e', l'⟩ := h'
  refine ⟨i + j, ?_, by omega⟩
  push_cast
  grind
theorem Sh.sub {n m : Nat} {a b : Rat} (h : Sh n a) (h' : Sh m b) : Sh (n + m) (a - b) := by
  obtain ⟨i, e, l⟩ := h
  obtain ⟨j, e', l'⟩ := h'
  refine ⟨i - j, ?_, by omega⟩
  push_cast
  grind
theorem Sh.nat (k : Nat) : Sh (2048 * k) (k : Rat) := ⟨2048 * (k : Int), by push_cast; grind, by omega⟩
/-! ### the values of the game are such -/
/-- a whole number of 2^m ths, from -2m to 2m -/
def Dy (m : Nat) (q : Rat) : Prop := (∃ i : Int, q * 2 ^ m = i) ∧ -(2 * m : Rat) ≤ q ∧ q ≤ 2 * m
theorem two_pow_pos (m : Nat) : (0 : Rat) < 2 ^ m := Rat.pow_pos (by decide)
theorem dy_lev {m : Nat} {a b : Rat} {r t : Nat} (ha : Dy m a) (hb : Dy m b) (hr : r ≤ 1) (ht : t ≤ 1) : Dy (m + 1) (lev (a - r) (b - t)) := by
  obtain ⟨⟨i, ei⟩, a1, a2⟩ := ha
  obtain ⟨⟨j, ej⟩, b1, b2⟩ := hb
  have r0 : (0 : Rat) ≤ r := by exact_mod_cast Nat.zero_le r
  have r1 : (r : Rat) ≤ 1 := by exact_mod_cast hr
  have t0 : (0 : Rat) ≤ t := by exact_mod_cast Nat.zero_le t
  have t1 : (t : Rat) ≤ 1 := by exact_mod_cast ht
  have ep : (2 : Rat) ^ (m + 1) = 2 ^ m * 2 := Rat.pow_succ 2 m
  have e2 : ((2 ^ m : Int) : Rat) = 2 ^ m := by push_cast; rfl
  refine ⟨?_, ?_, ?_⟩
  · rw [ep]
    rcases lev_cases (a - r) (b - t) with e | e | e
    · refine ⟨i - r * 2 ^ m + (j - t * 2 ^ m) + 2 ^ m, ?_⟩
      rw [e]
      push_cast
      rw [← ei, ← ej]
      clear ep e2 a1 a2 b1 b2 r0 r1 t0 t1
      grind
    · refine ⟨2 * (j - t * 2 ^ m), ?_⟩
      rw [e]
      push_cast
      rw [← ej]
      clear ep e2 a1 a2 b1 b2 r0 r1 t0 t1
      grind
    · refine ⟨2 * (i - r * 2 ^ m), ?_⟩
      rw [e]
      push_cast
      rw [← ei]
      clear ep e2 a1 a2 b1 b2 r0 r1 t0 t1
      grind
  · have h := lev_ge0 (a - r) (b - t)
    push_cast
    grind
  · have h := lev_le (w0 := a - r) (w1 := b - t) (b := 2 * m) (by grind) (by grind)
    push_cast
    grind
theorem sh_of {i : Int} {q : Rat} (e : q * 2048 = i) (h1 : -(20 : Rat) ≤ q) (h2 : q ≤ 20) : Sh 40960 q := by
  refine ⟨i, e, ?_⟩
  have l1 : (i : Rat) ≤ ((40960 : Int) : Rat) := by
    rw [← e]
    have : ((40960 : Int) : Rat) = 20 * 2048 := by push_cast; grind
    rw [this]
    grind
  have l2 : ((-40960 : Int) : Rat) ≤ (i : Rat) := by
    rw [← e]
    have : ((-40960 : Int) : Rat) = -20 * 2048 := by push_cast; grind
    rw [this]
    grind
  have l1' := Rat.intCast_le_intCast.mp l1
  have l2' := Rat.intCast_le_intCast.mp l2
  omega
theorem dy_sh {m : Nat} {q : Rat} (h : Dy m q) (hm : m ≤ 10) : Sh 40960 q := by
  obtain ⟨⟨i, e⟩, h1, h2⟩ := h
  have ep : (2 : Rat) ^ m * 2 ^ (11 - m) = 2048 := by
    have h : ∀ m, m < 12 → (2 : Rat) ^ m * 2 ^ (11 - m) = 2048 := by decide +kernel
    exact h m (by omega)
  have hm' : (m : Rat) ≤ 10 := by exact_mod_cast hm
  refine sh_of (i := i * 2 ^ (11 - m)) ?_ ?_ ?_
  · push_cast
    rw [← e, Rat.mul_assoc, ep]
  · clear e ep
    grind
  · clear e ep
    grind
/-! ### keys -/
/-- as many as the circle's advisers, each state one of its own, the least gap 0 -/
inductive Fit : List Adv → Key → Prop where
  | nil : Fit [] []
  | cons {a : Adv} {c : List Adv} {q : Nat × Nat} {k : Key} : q.1 < a.length → Fit c k → Fit (a :: c) (q :: k)
def AdvOk (a : Adv) : Prop := 1 ≤ a.length ∧ a.length ≤ 6 ∧ ∀ r ∈ a, r.1 < 2 ∧ r.2.1 < a.length ∧ r.2.2 < a.length
theorem AdvOk.at {a : Adv} (h : AdvOk a) {s : Nat} (hs : s < a.length) : a[s]? = some (a.getD s (0, 0, 0)) ∧ a.getD s (0, 0, 0) ∈ a := by
  have e : a[s]? = some a[s] := List.getElem?_eq_getElem hs
  have e2 : a.getD s (0, 0, 0) = a[s] := by rw [List.getD_eq_getElem?_getD, e]; rfl
  rw [e2]
  exact ⟨e, List.getElem_mem hs⟩
theorem AdvOk.told {a : Adv} (h : AdvOk a) {s : Nat} (hs : s < a.length) : told a s < 2 := (h.2.2 _ (h.at hs).2).1
theorem AdvOk.nxt {a : Adv} (h : AdvOk a) {s : Nat} (hs : s < a.length) (x : Nat) : nxt a s x < a.length := by
  unfold K43.nxt
  split
  · exact (h.2.2 _ (h.at hs).2).2.1
  · exact (h.2.2 _ (h.at hs).2).2.2
def CirOk (c : List Adv) : Prop := 1 ≤ c.length ∧ c.length ≤ 4 ∧ ∀ a ∈ c, AdvOk a
theorem fit_raw {c : List Adv} {k : Key} (hc : ∀ a ∈ c, AdvOk a) (h : Fit c k) (x : Nat) : Fit c (raw c k x) := by
  induction h with
  | nil => exact .nil
  | cons h1 h2 ih => exact .cons ((hc _ (.head _)).nxt h1 x) (ih fun a ha => hc a (.tail _ ha))
theorem fit_map {c : List Adv} {k : Key} (h : Fit c k) (f : Nat × Nat → Nat) : Fit c (k.map fun q => (q.1, f q)) := by
  induction h with
  | nil => exact .nil
  | cons h1 h2 ih => exact .cons h1 ih
theorem fit_len {c : List Adv} {k : Key} (h : Fit c k) : k.length = c.length := by
  induction h with
  | nil => rfl
  | cons h1 h2 ih => simp [ih]
theorem least_raw {c : List Adv} {k : Key} (h : Fit c k) (x : Nat) : least (raw c k x) ≤ least k + 1 := by
  induction h with
  | nil => exact Nat.zero_le _
  | @cons a c q k h1 h2 ih =>
    have e : (step1 a q x).2 ≤ q.2 + 1 := by
      unfold step1
      dsimp only
      split <;> omega
    cases h2 with
    | nil => exact e
    | @cons a2 c2 q2 k2 h3 h4 =>
      have ih2 : least (raw (a2 :: c2) (q2 :: k2) x) ≤ least (q2 :: k2) + 1 := ih
      show min (step1 a q x).2 (least (raw (a2 :: c2) (q2 :: k2) x)) ≤ min q.2 (least (q2 :: k2)) + 1
      omega
theorem least_sub (l : Nat) : ∀ (k : Key), k ≠ [] → least (k.map fun q => (q.1, q.2 - l)) = least k - l
  | [], h => absurd rfl h
  | [q], _ => rfl
  | q :: q2 :: r, _ => by
    have ih := least_sub l (q2 :: r) (List.cons_ne_nil _ _)
    show min (q.2 - l) (least ((q2 :: r).map fun q => (q.1, q.2 - l))) = min q.2 (least (q2 :: r)) - l
    rw [ih]
    omega
structure KeyOk (c : List Adv) (k : Key) : Prop where
  fit : Fit c k
  low : least k = 0
theorem key_stp {c : List Adv} {k : Key} (hc : CirOk c) (h : KeyOk c k) (x : Nat) : KeyOk c (stp c k x).1 ∧ (stp c k x).2 ≤ 1 := by
  have f := fit_raw hc.2.2 h.fit x
  refine ⟨⟨fit_map f fun q => q.2 - least (raw c k x), ?_⟩, ?_⟩
  · show least ((raw c k x).map fun q => (q.1, q.2 - least (raw c k x))) = 0
    rw [least_sub]
    · omega
    · intro z
      have e := fit_len f
      rw [z] at e
      have := hc.1
      simp at e
      omega
  · show least (raw c k x) ≤ 1
    have := least_raw h.fit x
    have := h.low
    omega
theorem Lv_dy {c : List Adv} (hc : CirOk c) : ∀ (m : Nat) (k : Key), KeyOk c k → Dy m (Lv c m k)
  | 0, k, _ => ⟨⟨0, by show (0 : Rat) * 2 ^ 0 = ((0 : Int) : Rat); grind⟩, by show -(2 * ((0 : Nat) : Rat)) ≤ 0; grind, by show (0 : Rat) ≤ 2 * ((0 : Nat) : Rat); grind⟩
  | m + 1, k, h => by
    obtain ⟨a0, a1⟩ := key_stp hc h 0
    obtain ⟨b0, b1⟩ := key_stp hc h 1
    exact dy_lev (Lv_dy hc m _ a0) (Lv_dy hc m _ b0) a1 b1
theorem Lv_sh {c : List Adv} (hc : CirOk c) {m : Nat} (hm : m ≤ 10) {k : Key} (h : KeyOk c k) : Sh 40960 (Lv c m k) := dy_sh (Lv_dy hc m k h) hm
theorem wr_sh {c : List Adv} (hc : CirOk c) {m : Nat} (hm : m ≤ 10) {k : Key} (h : KeyOk c k) (x : Nat) : Sh 43008 (wr c m k x) := by
  obtain ⟨a0, a1⟩ := key_stp hc h x
  have e := (Lv_sh hc hm a0).sub (Sh.nat (stp c k x).2)
  exact e.mono (by omega)
end K43
set_option Elab.async false
set_option linter.all false
set_option maxRecDepth 100000
/-! the text by places -/
namespace K43
open PySem PySem.Spec PyProof.Rows L2
abbrev prg : Program := PySem.Challenge.pw_keptmisses_k43_whole_advisers_who_always
def top (i : Nat) : Stmt := prg.main.body.getD i (.Pass ⟨0, 0, 0, 0⟩)
abbrev FnP (K : PySem.W.Frag) (x q : Str) (st : Stmt) (f : Addr) (fd : FuncData) : Prop := FunD K x q (defArgs st) (defBody st) (defScope st) [] [] f fd
abbrev s_is_integer : Stmt := top 8
abbrev s_is_between : Stmt := top 9
abbrev s_is_index : Stmt := top 10
abbrev s_is_tuple_of : Stmt := top 11
abbrev s_check_number : Stmt := top 12
abbrev s_fraction : Stmt := top 16
abbrev s_is_less : Stmt := top 17
abbrev s_plus : Stmt := top 18
abbrev s_minus : Stmt := top 19
abbrev s_times : Stmt := top 20
abbrev s_lots : Stmt := top 22
abbrev s_total : Stmt := top 23
abbrev s_mean : Stmt := top 24
abbrev s_even_worth : Stmt := top 25
abbrev s_raw_even_lot : Stmt := top 26
abbrev s_raw_level : Stmt := top 27
abbrev s_raw_filled : Stmt := top 28
abbrev s_is_size : Stmt := top 34
abbrev s_raw_is_row : Stmt := top 35
abbrev s_check_row : Stmt := top 36
abbrev s_is_rule : Stmt := top 42
abbrev s_is_adviser : Stmt := top 43
abbrev s_is_circle : Stmt := top 44
abbrev s_check_circle : Stmt := top 45
abbrev s_raw_misses : Stmt := top 46
abbrev s_adviser_misses : Stmt := top 47
abbrev s_stepped : Stmt := top 48
abbrev s_lags_of : Stmt := top 50
abbrev s_lag : Stmt := top 51
abbrev s_followed : Stmt := top 52
abbrev s__law_pot : Stmt := top 54
abbrev s__law_draw : Stmt := top 55
abbrev s__law_any : Stmt := top 56
abbrev s__law_is : Stmt := top 58
abbrev s__law_gcd : Stmt := top 59
abbrev s__law_fraction : Stmt := top 60
abbrev s__law_plus : Stmt := top 61
abbrev s__law_minus : Stmt := top 62
abbrev s__law_less : Stmt := top 63
abbrev s__law_adviser : Stmt := top 65
abbrev s__law_halved : Stmt := top 71
abbrev s__law_against : Stmt := top 72
abbrev s__law_doubled : Stmt := top 73
abbrev s_law : Stmt := top 74
abbrev s_Lags_init : Stmt := inClass (top 49) 0
abbrev s_Lags_behind : Stmt := inClass (top 49) 1
abbrev s_Lags_worths : Stmt := inClass (top 49) 2
def d_is_integer : He.DefD := ⟨("is_integer", none), "is_integer", "is_integer", defArgs s_is_integer, defBody s_is_integer, defScope s_is_integer, [], []⟩
def d_is_between : He.DefD := ⟨("is_between", none), "is_between", "is_between", defArgs s_is_between, defBody s_is_between, defScope s_is_between, [], []⟩
def d_is_index : He.DefD := ⟨("is_index", none), "is_index", "is_index", defArgs s_is_index, defBody s_is_index, defScope s_is_index, [], []⟩
def d_is_tuple_of : He.DefD := ⟨("is_tuple_of", none), "is_tuple_of", "is_tuple_of", defArgs s_is_tuple_of, defBody s_is_tuple_of, defScope s_is_tuple_of, [], []⟩
def d_check_number : He.DefD := ⟨("check_number", none), "check_number", "check_number", defArgs s_check_number, defBody s_check_number, defScope s_check_number, [], []⟩
def d_fraction : He.DefD := ⟨("fraction", none), "fraction", "fraction", defArgs s_fraction, defBody s_fraction, defScope s_fraction, [], []⟩
def d_is_less : He.DefD := ⟨("is_less", none), "is_less", "is_less", defArgs s_is_less, defBody s_is_less, defScope s_is_less, [], []⟩
def d_plus : He.DefD := ⟨("plus", none), "plus", "plus", defArgs s_plus, defBody s_plus, defScope s_plus, [], []⟩
def d_minus : He.DefD := ⟨("minus", none), "minus", "minus", defArgs s_minus, defBody s_minus, defScope s_minus, [], []⟩
def d_times : He.DefD := ⟨("times", none), "times", "times", defArgs s_times, defBody s_times, defScope s_times, [], []⟩
def d_lots : He.DefD := ⟨("lots", none), "lots", "lots", defArgs s_lots, defBody s_lots, defScope s_lots, [], []⟩
def d_total : He.DefD := ⟨("total", none), "total", "total", defArgs s_total, defBody s_total, defScope s_total, [], []⟩
def d_mean : He.DefD := ⟨("mean", none), "mean", "mean", defArgs s_mean, defBody s_mean, defScope s_mean, [], []⟩
def d_even_worth : He.DefD := ⟨("even_worth", none), "even_worth", "even_worth", defArgs s_even_worth, defBody s_even_worth, defScope s_even_worth, [], []⟩
def d_raw_even_lot : He.DefD := ⟨("raw_even_lot", none), "raw_even_lot", "raw_even_lot", defArgs s_raw_even_lot, defBody s_raw_even_lot, defScope s_raw_even_lot, [], []⟩
def d_raw_level : He.DefD := ⟨("raw_level", none), "raw_level", "raw_level", defArgs s_raw_level, defBody s_raw_level, defScope s_raw_level, [], []⟩
def d_raw_filled : He.DefD := ⟨("raw_filled", none), "raw_filled", "raw_filled", defArgs s_raw_filled, defBody s_raw_filled, defScope s_raw_filled, [], []⟩
def d_is_size : He.DefD := ⟨("is_size", none), "is_size", "is_size", defArgs s_is_size, defBody s_is_size, defScope s_is_size, [], []⟩
def d_raw_is_row : He.DefD := ⟨("raw_is_row", none), "raw_is_row", "raw_is_row", defArgs s_raw_is_row, defBody s_raw_is_row, defScope s_raw_is_row, [], []⟩
def d_check_row : He.DefD := ⟨("check_row", none), "check_row", "check_row", defArgs s_check_row, defBody s_check_row, defScope s_check_row, [], []⟩
def d_is_rule : He.DefD := ⟨("is_rule", none), "is_rule", "is_rule", defArgs s_is_rule, defBody s_is_rule, defScope s_is_rule, [], []⟩
def d_is_adviser : He.DefD := ⟨("is_adviser", none), "is_adviser", "is_adviser", defArgs s_is_adviser, defBody s_is_adviser, defScope s_is_adviser, [], []⟩
def d_is_circle : He.DefD := ⟨("is_circle", none), "is_circle", "is_circle", defArgs s_is_circle, defBody s_is_circle, defScope s_is_circle, [], []⟩
def d_check_circle : He.DefD := ⟨("check_circle", none), "check_circle", "check_circle", defArgs s_check_circle, defBody s_check_circle, defScope s_check_circle, [], []⟩
def d_raw_misses : He.DefD := ⟨("raw_misses", none), "raw_misses", "raw_misses", defArgs s_raw_misses, defBody s_raw_misses, defScope s_raw_misses, [], []⟩
def d_adviser_misses : He.DefD := ⟨("adviser_misses", none), "adviser_misses", "adviser_misses", defArgs s_adviser_misses, defBody s_adviser_misses, defScope s_adviser_misses, [], []⟩
def d_stepped : He.DefD := ⟨("stepped", none), "stepped", "stepped", defArgs s_stepped, defBody s_stepped, defScope s_stepped, [], []⟩
def d_lags_of : He.DefD := ⟨("lags_of", none), "lags_of", "lags_of", defArgs s_lags_of, defBody s_lags_of, defScope s_lags_of, [], []⟩
def d_lag : He.DefD := ⟨("lag", none), "lag", "lag", defArgs s_lag, defBody s_lag, defScope s_lag, [], []⟩
def d_followed : He.DefD := ⟨("followed", none), "followed", "followed", defArgs s_followed, defBody s_followed, defScope s_followed, [], []⟩
def d__law_pot : He.DefD := ⟨("_law_pot", none), "_law_pot", "_law_pot", defArgs s__law_pot, defBody s__law_pot, defScope s__law_pot, [], []⟩
def d__law_draw : He.DefD := ⟨("_law_draw", none), "_law_draw", "_law_draw", defArgs s__law_draw, defBody s__law_draw, defScope s__law_draw, [], []⟩
def d__law_any : He.DefD := ⟨("_law_any", none), "_law_any", "_law_any", defArgs s__law_any, defBody s__law_any, defScope s__law_any, [], []⟩
def d__law_is : He.DefD := ⟨("_law_is", none), "_law_is", "_law_is", defArgs s__law_is, defBody s__law_is, defScope s__law_is, [], []⟩
def d__law_gcd : He.DefD := ⟨("_law_gcd", none), "_law_gcd", "_law_gcd", defArgs s__law_gcd, defBody s__law_gcd, defScope s__law_gcd, [], []⟩
def d__law_fraction : He.DefD := ⟨("_law_fraction", none), "_law_fraction", "_law_fraction", defArgs s__law_fraction, defBody s__law_fraction, defScope s__law_fraction, [], []⟩
def d__law_plus : He.DefD := ⟨("_law_plus", none), "_law_plus", "_law_plus", defArgs s__law_plus, defBody s__law_plus, defScope s__law_plus, [], []⟩
def d__law_minus : He.DefD := ⟨("_law_minus", none), "_law_minus", "_law_minus", defArgs s__law_minus, defBody s__law_minus, defScope s__law_minus, [], []⟩
def d__law_less : He.DefD := ⟨("_law_less", none), "_law_less", "_law_less", defArgs s__law_less, defBody s__law_less, defScope s__law_less, [], []⟩
def d__law_adviser : He.DefD := ⟨("_law_adviser", none), "_law_adviser", "_law_adviser", defArgs s__law_adviser, defBody s__law_adviser, defScope s__law_adviser, [], []⟩
def d__law_halved : He.DefD := ⟨("_law_halved", none), "_law_halved", "_law_halved", defArgs s__law_halved, defBody s__law_halved, defScope s__law_halved, [], []⟩
def d__law_against : He.DefD := ⟨("_law_against", none), "_law_against", "_law_against", defArgs s__law_against, defBody s__law_against, defScope s__law_against, [], []⟩
def d__law_doubled : He.DefD := ⟨("_law_doubled", none), "_law_doubled", "_law_doubled", defArgs s__law_doubled, defBody s__law_doubled, defScope s__law_doubled, [], []⟩
def d_law : He.DefD := ⟨("law", none), "law", "law", defArgs s_law, defBody s_law, defScope s_law, [], []⟩
def d_Lags_init : He.DefD := ⟨("Lags", some "__init__"), "__init__", "Lags.__init__", defArgs s_Lags_init, defBody s_Lags_init, defScope s_Lags_init, [], []⟩
def d_Lags_behind : He.DefD := ⟨("Lags", some "behind"), "behind", "Lags.behind", defArgs s_Lags_behind, defBody s_Lags_behind, defScope s_Lags_behind, [], []⟩
def d_Lags_worths : He.DefD := ⟨("Lags", some "worths"), "worths", "Lags.worths", defArgs s_Lags_worths, defBody s_Lags_worths, defScope s_Lags_worths, [], []⟩
def fn0 : List He.DefD := [d_is_integer, d_is_between, d_is_index, d_is_tuple_of, d_check_number, d_fraction, d_is_less, d_plus, d_minus, d_times, d_lots, d_total, d_mean, d_even_worth, d_raw_even_lot, d_raw_level]
def fn1 : List He.DefD := [d_raw_filled, d_is_size, d_raw_is_row, d_check_row, d_is_rule, d_is_adviser, d_is_circle, d_check_circle, d_raw_misses, d_adviser_misses, d_stepped, d_lags_of, d_lag, d_followed, d__law_pot, d__law_draw]
def fn2 : List He.DefD := [d__law_any, d__law_is, d__law_gcd, d__law_fraction, d__law_plus, d__law_minus, d__law_less, d__law_adviser, d__law_halved, d__law_against, d__law_doubled, d_law, d_Lags_init, d_Lags_behind, d_Lags_worths]
def fn : List He.DefD := fn0 ++ fn1 ++ fn2
def fa0 : List He.Fa := [.glo "is_integer", .glo "is_between", .glo "is_index", .glo "is_tuple_of", .glo "check_number", .glo "fraction", .glo "is_less", .glo "plus", .glo "minus", .glo "times", .glo "lots", .glo "total"]
def fa1 : List He.Fa := [.glo "mean", .glo "even_worth", .glo "raw_even_lot", .glo "raw_level", .glo "raw_filled", .glo "is_size", .glo "raw_is_row", .glo "check_row", .glo "is_rule", .glo "is_adviser", .glo "is_circle", .glo "check_circle"]
def fa2 : List He.Fa := [.glo "raw_misses", .glo "adviser_misses", .glo "stepped", .glo "lags_of", .glo "lag", .glo "followed", .glo "_law_pot", .glo "_law_draw", .glo "_law_any", .glo "_law_is", .glo "_law_gcd", .glo "_law_fraction"]
def fa3 : List He.Fa := [.glo "_law_plus", .glo "_law_minus", .glo "_law_less", .glo "_law_adviser", .glo "_law_halved", .glo "_law_against", .glo "_law_doubled", .glo "law", .glo "Lags", .free "len", .free "isinstance", .free "int"]
def fa4 : List He.Fa := [.free "bool", .free "tuple", .free "list", .free "all", .free "range", .free "sorted", .free "zip", .free "min", .free "sum", .free "abs", .int "SIZE" 0, .int "RULES" 1]
def fa5 : List He.Fa := [.int "MOST_SIZE" 4, .int "MOST_LETTERS_machines" 400, .int "MOST_ADVISERS" 4, .int "MOST_ADVISER_STATES" 6, .int "MOST_LETTERS_advisers" 10, .int "MOST_KEYS" 3000, .cls "Lags", .mkr "Lags", .meth "Lags" "behind", .meth "Lags" "worths", .noat "Lags" "circle", .noat "Lags" "begin"]
def fa6 : List He.Fa := [.noat "Lags" "lags"]
def fa : List He.Fa := fa0 ++ fa1 ++ fa2 ++ fa3 ++ fa4 ++ fa5 ++ fa6
def isBf (K : PySem.W.Frag) (x : Str) (id : String) : Bool := match PySem.W.nsIn K mainGlobals x with
  | some (some (.builtin i)) => decide (i = id)
  | _ => false
def ex (K : PySem.W.Frag) : Bool := isBf K "gcd" "math.gcd" && (He.tupB K "NOUGHT" [.int 0, .int 1] && He.tupB K "ONE" [.int 1, .int 1])
def tf : List He.Defn := [("lots", none)]
def loose0 : List Str := ["__name__", "MissError", "NoRow", "NoCircle", "NoNumber", "TooMany", "is_integer", "is_between", "is_index", "is_tuple_of", "check_number", "NOUGHT"]
def loose1 : List Str := ["ONE", "fraction", "is_less", "plus", "minus", "times", "lots", "total", "mean", "even_worth", "raw_even_lot", "raw_level"]
def loose2 : List Str := ["raw_filled", "SIZE", "RULES", "MOST_SIZE", "MOST_LETTERS_machines", "is_size", "raw_is_row", "check_row", "MOST_ADVISERS", "MOST_ADVISER_STATES", "MOST_LETTERS_advisers", "MOST_KEYS"]
def loose3 : List Str := ["is_rule", "is_adviser", "is_circle", "check_circle", "raw_misses", "adviser_misses", "stepped", "Lags", "lags_of", "lag", "followed", "_law_pot"]
def loose4 : List Str := ["_law_draw", "_law_any", "_law_mixed", "_law_is", "_law_gcd", "_law_fraction", "_law_plus", "_law_minus", "_law_less", "_law_mean", "_law_adviser", "_law_circle"]
def loose5 : List Str := ["_law_missed", "_law_rows", "_law_water", "_law_highest", "_law_halved", "_law_against", "_law_doubled"]
def loose : List Str := loose0 ++ loose1 ++ loose2 ++ loose3 ++ loose4 ++ loose5
/-! members -/
theorem in_is_integer : d_is_integer ∈ fn := List.mem_of_getElem? (i := 0) rfl
theorem in_is_between : d_is_between ∈ fn := List.mem_of_getElem? (i := 1) rfl
theorem in_is_index : d_is_index ∈ fn := List.mem_of_getElem? (i := 2) rfl
theorem in_is_tuple_of : d_is_tuple_of ∈ fn := List.mem_of_getElem? (i := 3) rfl
theorem in_check_number : d_check_number ∈ fn := List.mem_of_getElem? (i := 4) rfl
theorem in_fraction : d_fraction ∈ fn := List.mem_of_getElem? (i := 5) rfl
theorem in_is_less : d_is_less ∈ fn := List.mem_of_getElem? (i := 6) rfl
theorem in_plus : d_plus ∈ fn := List.mem_of_getElem? (i := 7) rfl
theorem in_minus : d_minus ∈ fn := List.mem_of_getElem? (i := 8) rfl
theorem in_times : d_times ∈ fn := List.mem_of_getElem? (i := 9) rfl
theorem in_lots : d_lots ∈ fn := List.mem_of_getElem? (i := 10) rfl
theorem in_total : d_total ∈ fn := List.mem_of_getElem? (i := 11) rfl
theorem in_mean : d_mean ∈ fn := List.mem_of_getElem? (i := 12) rfl
theorem in_even_worth : d_even_worth ∈ fn := List.mem_of_getElem? (i := 13) rfl
theorem in_raw_even_lot : d_raw_even_lot ∈ fn := List.mem_of_getElem? (i := 14) rfl
theorem in_raw_level : d_raw_level ∈ fn := List.mem_of_getElem? (i := 15) rfl
theorem in_raw_filled : d_raw_filled ∈ fn := List.mem_of_getElem? (i := 16) rfl
theorem in_is_size : d_is_size ∈ fn := List.mem_of_getElem? (i := 17) rfl
theorem in_raw_is_row : d_raw_is_row ∈ fn := List.mem_of_getElem? (i := 18) rfl
theorem in_check_row : d_check_row ∈ fn := List.mem_of_getElem? (i := 19) rfl
theorem in_is_rule : d_is_rule ∈ fn := List.mem_of_getElem? (i := 20) rfl
theorem in_is_adviser : d_is_adviser ∈ fn := List.mem_of_getElem? (i := 21) rfl
theorem in_is_circle : d_is_circle ∈ fn := List.mem_of_getElem? (i := 22) rfl
theorem in_check_circle : d_check_circle ∈ fn := List.mem_of_getElem? (i := 23) rfl
theorem in_raw_misses : d_raw_misses ∈ fn := List.mem_of_getElem? (i := 24) rfl
theorem in_adviser_misses : d_adviser_misses ∈ fn := List.mem_of_getElem? (i := 25) rfl
theorem in_stepped : d_stepped ∈ fn := List.mem_of_getElem? (i := 26) rfl
theorem in_lags_of : d_lags_of ∈ fn := List.mem_of_getElem? (i := 27) rfl
theorem in_lag : d_lag ∈ fn := List.mem_of_getElem? (i := 28) rfl
theorem in_followed : d_followed ∈ fn := List.mem_of_getElem? (i := 29) rfl
theorem in__law_pot : d__law_pot ∈ fn := List.mem_of_getElem? (i := 30) rfl
theorem in__law_draw : d__law_draw ∈ fn := List.mem_of_getElem? (i := 31) rfl
theorem in__law_any : d__law_any ∈ fn := List.mem_of_getElem? (i := 32) rfl
theorem in__law_is : d__law_is ∈ fn := List.mem_of_getElem? (i := 33) rfl
theorem in__law_gcd : d__law_gcd ∈ fn := List.mem_of_getElem? (i := 34) rfl
theorem in__law_fraction : d__law_fraction ∈ fn := List.mem_of_getElem? (i := 35) rfl
theorem in__law_plus : d__law_plus ∈ fn := List.mem_of_getElem? (i := 36) rfl
theorem in__law_minus : d__law_minus ∈ fn := List.mem_of_getElem? (i := 37) rfl
theorem in__law_less : d__law_less ∈ fn := List.mem_of_getElem? (i := 38) rfl
theorem in__law_adviser : d__law_adviser ∈ fn := List.mem_of_getElem? (i := 39) rfl
theorem in__law_halved : d__law_halved ∈ fn := List.mem_of_getElem? (i := 40) rfl
theorem in__law_against : d__law_against ∈ fn := List.mem_of_getElem? (i := 41) rfl
theorem in__law_doubled : d__law_doubled ∈ fn := List.mem_of_getElem? (i := 42) rfl
theorem in_law : d_law ∈ fn := List.mem_of_getElem? (i := 43) rfl
theorem in_Lags_init : d_Lags_init ∈ fn := List.mem_of_getElem? (i := 44) rfl
theorem in_Lags_behind : d_Lags_behind ∈ fn := List.mem_of_getElem? (i := 45) rfl
theorem in_Lags_worths : d_Lags_worths ∈ fn := List.mem_of_getElem? (i := 46) rfl
theorem fa_is_integer : He.Fa.glo "is_integer" ∈ fa := List.mem_of_getElem? (i := 0) rfl
theorem fa_is_between : He.Fa.glo "is_between" ∈ fa := List.mem_of_getElem? (i := 1) rfl
theorem fa_is_index : He.Fa.glo "is_index" ∈ fa := List.mem_of_getElem? (i := 2) rfl
theorem fa_is_tuple_of : He.Fa.glo "is_tuple_of" ∈ fa := List.mem_of_getElem? (i := 3) rfl
theorem fa_check_number : He.Fa.glo "check_number" ∈ fa := List.mem_of_getElem? (i := 4) rfl
theorem fa_fraction : He.Fa.glo "fraction" ∈ fa := List.mem_of_getElem? (i := 5) rfl
theorem fa_is_less : He.Fa.glo "is_less" ∈ fa := List.mem_of_getElem? (i := 6) rfl
theorem fa_plus : He.Fa.glo "plus" ∈ fa := List.mem_of_getElem? (i := 7) rfl
theorem fa_minus : He.Fa.glo "minus" ∈ fa := List.mem_of_getElem? (i := 8) rfl
theorem fa_times : He.Fa.glo "times" ∈ fa := List.mem_of_getElem? (i := 9) rfl
theorem fa_lots : He.Fa.glo "lots" ∈ fa := List.mem_of_getElem? (i := 10) rfl
theorem fa_total : He.Fa.glo "total" ∈ fa := List.mem_of_getElem? (i := 11) rfl
theorem fa_mean : He.Fa.glo "mean" ∈ fa := List.mem_of_getElem? (i := 12) rfl
theorem fa_even_worth : He.Fa.glo "even_worth" ∈ fa := List.mem_of_getElem? (i := 13) rfl
theorem fa_raw_even_lot : He.Fa.glo "raw_even_lot" ∈ fa := List.mem_of_getElem? (i := 14) rfl
theorem fa_raw_level : He.Fa.glo "raw_level" ∈ fa := List.mem_of_getElem? (i := 15) rfl
theorem fa_raw_filled : He.Fa.glo "raw_filled" ∈ fa := List.mem_of_getElem? (i := 16) rfl
theorem fa_is_size : He.Fa.glo "is_size" ∈ fa := List.mem_of_getElem? (i := 17) rfl
theorem fa_raw_is_row : He.Fa.glo "raw_is_row" ∈ fa := List.mem_of_getElem? (i := 18) rfl
theorem fa_check_row : He.Fa.glo "check_row" ∈ fa := List.mem_of_getElem? (i := 19) rfl
theorem fa_is_rule : He.Fa.glo "is_rule" ∈ fa := List.mem_of_getElem? (i := 20) rfl
theorem fa_is_adviser : He.Fa.glo "is_adviser" ∈ fa := List.mem_of_getElem? (i := 21) rfl
theorem fa_is_circle : He.Fa.glo "is_circle" ∈ fa := List.mem_of_getElem? (i := 22) rfl
theorem fa_check_circle : He.Fa.glo "check_circle" ∈ fa := List.mem_of_getElem? (i := 23) rfl
theorem fa_raw_misses : He.Fa.glo "raw_misses" ∈ fa := List.mem_of_getElem? (i := 24) rfl
theorem fa_adviser_misses : He.Fa.glo "adviser_misses" ∈ fa := List.mem_of_getElem? (i := 25) rfl
theorem fa_stepped : He.Fa.glo "stepped" ∈ fa := List.mem_of_getElem? (i := 26) rfl
theorem fa_lags_of : He.Fa.glo "lags_of" ∈ fa := List.mem_of_getElem? (i := 27) rfl
theorem fa_lag : He.Fa.glo "lag" ∈ fa := List.mem_of_getElem? (i := 28) rfl
theorem fa_followed : He.Fa.glo "followed" ∈ fa := List.mem_of_getElem? (i := 29) rfl
theorem fa__law_pot : He.Fa.glo "_law_pot" ∈ fa := List.mem_of_getElem? (i := 30) rfl
theorem fa__law_draw : He.Fa.glo "_law_draw" ∈ fa := List.mem_of_getElem? (i := 31) rfl
theorem fa__law_any : He.Fa.glo "_law_any" ∈ fa := List.mem_of_getElem? (i := 32) rfl
theorem fa__law_is : He.Fa.glo "_law_is" ∈ fa := List.mem_of_getElem? (i := 33) rfl
theorem fa__law_gcd : He.Fa.glo "_law_gcd" ∈ fa := List.mem_of_getElem? (i := 34) rfl
theorem fa__law_fraction : He.Fa.glo "_law_fraction" ∈ fa := List.mem_of_getElem? (i := 35) rfl
theorem fa__law_plus : He.Fa.glo "_law_plus" ∈ fa := List.mem_of_getElem? (i := 36) rfl
theorem fa__law_minus : He.Fa.glo "_law_minus" ∈ fa := List.mem_of_getElem? (i := 37) rfl
theorem fa__law_less : He.Fa.glo "_law_less" ∈ fa := List.mem_of_getElem? (i := 38) rfl
theorem fa__law_adviser : He.Fa.glo "_law_adviser" ∈ fa := List.mem_of_getElem? (i := 39) rfl
theorem fa__law_halved : He.Fa.glo "_law_halved" ∈ fa := List.mem_of_getElem? (i := 40) rfl
theorem fa__law_against : He.Fa.glo "_law_against" ∈ fa := List.mem_of_getElem? (i := 41) rfl
theorem fa__law_doubled : He.Fa.glo "_law_doubled" ∈ fa := List.mem_of_getElem? (i := 42) rfl
theorem fa_law : He.Fa.glo "law" ∈ fa := List.mem_of_getElem? (i := 43) rfl
theorem fa_Lags : He.Fa.glo "Lags" ∈ fa := List.mem_of_getElem? (i := 44) rfl
theorem fa_len : He.Fa.free "len" ∈ fa := List.mem_of_getElem? (i := 45) rfl
theorem fa_isinstance : He.Fa.free "isinstance" ∈ fa := List.mem_of_getElem? (i := 46) rfl
theorem fa_int : He.Fa.free "int" ∈ fa := List.mem_of_getElem? (i := 47) rfl
theorem fa_bool : He.Fa.free "bool" ∈ fa := List.mem_of_getElem? (i := 48) rfl
theorem fa_tuple : He.Fa.free "tuple" ∈ fa := List.mem_of_getElem? (i := 49) rfl
theorem fa_list : He.Fa.free "list" ∈ fa := List.mem_of_getElem? (i := 50) rfl
theorem fa_all : He.Fa.free "all" ∈ fa := List.mem_of_getElem? (i := 51) rfl
theorem fa_range : He.Fa.free "range" ∈ fa := List.mem_of_getElem? (i := 52) rfl
theorem fa_sorted : He.Fa.free "sorted" ∈ fa := List.mem_of_getElem? (i := 53) rfl
theorem fa_zip : He.Fa.free "zip" ∈ fa := List.mem_of_getElem? (i := 54) rfl
theorem fa_min : He.Fa.free "min" ∈ fa := List.mem_of_getElem? (i := 55) rfl
theorem fa_sum : He.Fa.free "sum" ∈ fa := List.mem_of_getElem? (i := 56) rfl
theorem fa_abs : He.Fa.free "abs" ∈ fa := List.mem_of_getElem? (i := 57) rfl
theorem fa_SIZE : He.Fa.int "SIZE" 0 ∈ fa := List.mem_of_getElem? (i := 58) rfl
theorem fa_RULES : He.Fa.int "RULES" 1 ∈ fa := List.mem_of_getElem? (i := 59) rfl
theorem fa_MOST_SIZE : He.Fa.int "MOST_SIZE" 4 ∈ fa := List.mem_of_getElem? (i := 60) rfl
theorem fa_MOST_LETTERS_machines : He.Fa.int "MOST_LETTERS_machines" 400 ∈ fa := List.mem_of_getElem? (i := 61) rfl
theorem fa_MOST_ADVISERS : He.Fa.int "MOST_ADVISERS" 4 ∈ fa := List.mem_of_getElem? (i := 62) rfl
theorem fa_MOST_ADVISER_STATES : He.Fa.int "MOST_ADVISER_STATES" 6 ∈ fa := List.mem_of_getElem? (i := 63) rfl
theorem fa_MOST_LETTERS_advisers : He.Fa.int "MOST_LETTERS_advisers" 10 ∈ fa := List.mem_of_getElem? (i := 64) rfl
theorem fa_MOST_KEYS : He.Fa.int "MOST_KEYS" 3000 ∈ fa := List.mem_of_getElem? (i := 65) rfl
theorem fa_cls_Lags : He.Fa.cls "Lags" ∈ fa := List.mem_of_getElem? (i := 66) rfl
theorem fa_mkr_Lags : He.Fa.mkr "Lags" ∈ fa := List.mem_of_getElem? (i := 67) rfl
theorem fa_meth_Lags_behind : He.Fa.meth "Lags" "behind" ∈ fa := List.mem_of_getElem? (i := 68) rfl
theorem fa_meth_Lags_worths : He.Fa.meth "Lags" "worths" ∈ fa := List.mem_of_getElem? (i := 69) rfl
theorem fa_noat_Lags_circle : He.Fa.noat "Lags" "circle" ∈ fa := List.mem_of_getElem? (i := 70) rfl
theorem fa_noat_Lags_begin : He.Fa.noat "Lags" "begin" ∈ fa := List.mem_of_getElem? (i := 71) rfl
theorem fa_noat_Lags_lags : He.Fa.noat "Lags" "lags" ∈ fa := List.mem_of_getElem? (i := 72) rfl
end K43
set_option Elab.async false
set_option linter.all false
set_option maxRecDepth 100000
set_option maxHeartbeats 4000000
namespace K43
open PySem PySem.Spec PyProof.Rows L2

/-- what the top has written -/
structure Tx (K : PySem.W.Frag) (mg : Str → Option Value) : Prop where
  glo : ∀ x, He.Fa.glo x ∈ fa → mg x = some (.ref (He.ga K x))
  free : ∀ x, He.Fa.free x ∈ fa → mg x = none
  int : ∀ x i, He.Fa.int x i ∈ fa → ∃ t, mg x = some (.int i t)
  fn : ∀ d ∈ fn, ∃ fd, FunD K d.name d.qual d.params d.body d.scope (d.dvs K) (d.kws K) (He.fAd K d.at_) fd
  gcd : mg "gcd" = some (.builtin "math.gcd")
  gN : mg "NOUGHT" = some (.ref (He.ga K "NOUGHT"))
  gO : mg "ONE" = some (.ref (He.ga K "ONE"))
  nought : ∀ H, SqT K H (He.ga K "NOUGHT") [.int 0, .int 1]
  one : ∀ H, SqT K H (He.ga K "ONE") [.int 1, .int 1]
  cls : Cls K (He.ga K "Lags")
  mkr : Mk K (He.ga K "Lags") (He.ma K (He.ga K "Lags") "__init__")
  mB : Meth K (He.ga K "Lags") "behind" (He.ma K (He.ga K "Lags") "behind")
  mW : Meth K (He.ga K "Lags") "worths" (He.ma K (He.ga K "Lags") "worths")
  nC : NoAttr K (He.ga K "Lags") "circle"
  nB : NoAttr K (He.ga K "Lags") "begin"
  nL : NoAttr K (He.ga K "Lags") "lags"

/-- a def that can be called by its name -/
def Cal (P : Program) (w : World) (K : PySem.W.Frag) (mg : Str → Option Value) (base : Heap) (k : Nat) (x : Str) (ps : List Str) (sp : Sp) : Prop :=
  ∃ f fd, FnOk P w K mg base CX0 k f fd ps sp ∧ mg x = some (.ref f) ∧ PySem.W.keepIn K (.ref f) = true ∧ Binds K fd ps []
section
variable {P : Program} {w : World} {K : PySem.W.Frag} {mg : Str → Option Value} {base : Heap}
theorem Cal.mono {j k : Nat} {x : Str} {ps : List Str} {sp : Sp} (C : Cal P w K mg base j x ps sp) (h : j ≤ k) : Cal P w K mg base k x ps sp := by
  obtain ⟨f, fd, F, a, b, c⟩ := C
  exact ⟨f, fd, F.mono h, a, b, c⟩
theorem cal_of {d : He.DefD} {N ps : List Str} {k : Nat} {sp : Sp} (T : Tx K mg) (hd : d ∈ fn) (hg : He.Fa.glo d.name ∈ fa) (hat : d.at_ = (d.name, none)) (h1 : d.dfl = []) (h2 : d.kwd = [])
    (hb : ∀ (kV doc pm : Value) (an : Option Addr) (cdv ct : Value) (us : List Value), us.length = ps.length → bindArgs (PySem.W.fnOf d.name d.qual d.params d.body d.scope .none kV doc pm an cdv ct) ⟨us, []⟩ = pure (ps.zip us))
    (S : FnScope N ps d.scope) (len : ∀ vs H Q E, sp vs H Q E → vs.length = ps.length)
    (hbody : ∀ (f : Addr) (cdv : Value) (A : Around) (outer : List Env) (s : Shared) (H : Hp) (vs : List V) (Q : VK) (E : XK), Room k (A.deeper (envOfC d.qual d.scope s.heap.objs.size f cdv)) → sp vs H Q E →
      ∃ t, PSs (cxOf CX0 P w K mg base N d.qual d.scope f cdv A outer s H E).nox d.body t ∧ t { nx := fun _ H' => Q .non H', rt := Q } (start N vs) H) : Cal P w K mg base (k + 1) d.name ps sp := by
  obtain ⟨fd, F⟩ := T.fn d hd
  have e1 : d.dvs K = [] := by unfold He.DefD.dvs; rw [h1]; rfl
  have e2 : d.kws K = [] := by unfold He.DefD.kws; rw [h2]; rfl
  rw [e1] at F
  have ef : He.fAd K d.at_ = He.ga K d.name := by rw [hat]; rfl
  rw [ef] at F
  refine ⟨_, fd, F.ok S len (fun cdv A outer s H vs Q E hr h => ?_), T.glo _ hg, F.kp, F.bindsN hb⟩
  obtain ⟨t, p, q⟩ := hbody _ cdv A outer s H vs Q E hr h
  exact ⟨t, p.nox, q⟩
end
section
variable {X : Cx} {k : Nat} {ps : List Str} {sp : Sp} {x : Str} {p pos : Pos} {e : Expr} {es : List Expr} {t : TA}
theorem pe_cal (C : Cal X.prog X.w X.K X.mg X.base k x ps sp) (hr : Room k X.A) (ha : PA X (e :: es) t) (hg : Gl X x := by rfl) (hdb : (x == ("__debug__" : Str)) = false := by decide) (he : starEach (e :: es) X.env = (false, eval e X.env) :: starEach es X.env := by rfl) (hpl : (backTo pos (starEach es X.env)).any (·.1) = false := by rfl) :
    PE X (.Call (.Name x p) (e :: es) [] pos) (tCall sp [] E0 t) := by
  obtain ⟨f, fd, F, a, b, c⟩ := C
  exact pe_call F hr hg a b c .nil pass0 ha hdb he hpl
end

/-! ### heaps -/
theorem same_upd {H : Hp} {p : Addr} {o : HO} (h : H p = none) : Same H (upd H p o) := fun b x e => by
  rw [upd_ne (ne_of_none e h)]
  exact e
theorem _root_.L2.Same.sqT {K : PySem.W.Frag} {H H' : Hp} {a : Addr} {xs : List V} (e : Same H H') (h : SqT K H a xs) : SqT K H' a xs := by
  rcases h with (h | ⟨o, h⟩) | h
  · exact .inl (.inl (e _ _ h))
  · exact .inl (.inr ⟨o, e _ _ h⟩)
  · exact .inr h
/-- all but what stands at D -/
def SB (D : Addr) (H H' : Hp) : Prop := ∀ b o, b ≠ D → H b = some o → H' b = some o
theorem SB.refl (D : Addr) (H : Hp) : SB D H H := fun _ _ _ h => h
theorem SB.trans {D : Addr} {H H1 H2 : Hp} (a : SB D H H1) (b : SB D H1 H2) : SB D H H2 := fun c o n h => b c o n (a c o n h)
theorem _root_.L2.Same.sb {H H' : Hp} (s : Same H H') (D : Addr) : SB D H H' := fun b o _ h => s b o h
theorem sb_upd (D : Addr) (H : Hp) (o : HO) : SB D H (upd H D o) := fun b x n h => by
  rw [upd_ne n]
  exact h
theorem SB.same {D : Addr} {H H' : Hp} (s : SB D H H') (h : H D = none) : Same H H' := fun b o e => s b o (ne_of_none e h) e
theorem SB.sqT {K : PySem.W.Frag} {D : Addr} {H H' : Hp} {a : Addr} {xs ys : List V} (s : SB D H H') (hD : H D = some (.lst ys)) (h : SqT K H a xs) : SqT K H' a xs := by
  rcases h with (h | ⟨o, h⟩) | h
  · exact .inl (.inl (s _ _ (ne_of h hD (fun z => by cases z)) h))
  · exact .inl (.inr ⟨o, s _ _ (ne_of h hD (fun z => by cases z)) h⟩)
  · exact .inr h
theorem SB.sqL {K : PySem.W.Frag} {D : Addr} {H H' : Hp} {a : Addr} {xs : List V} (s : SB D H H') (n : a ≠ D) (h : SqL K H a xs) : SqL K H' a xs := by
  rcases h with (h | ⟨o, h⟩) | h
  · exact .inl (.inl (s _ _ n h))
  · exact .inl (.inr ⟨o, s _ _ n h⟩)
  · exact .inr h
/-! ### comprehensions whose element is a pure call: what is made item by item -/
section
variable {K : PySem.W.Frag} {a : Addr} {xs : List V} {g : TG} {te : TE} {vs : List Nat} {σ : L2.St} {H1 : Hp} {D : Addr} {Qd : Hp → Prop}
/-- behind i items: what was tracked stands, the new list holds items as R says -/
def LcI (R : Nat → V → Hp → Prop) (H1 : Hp) (D : Addr) (i : Nat) (H : Hp) : Prop := Same H1 H ∧ ∃ acc : List V, H D = some (.lst acc) ∧ acc.length = i ∧ ∀ j y, acc[j]? = some y → R j y H
theorem LcI.start {R : Nat → V → Hp → Prop} (hD : H1 D = none) : LcI R H1 D 0 (upd H1 D (.lst [])) := ⟨same_upd hD, [], upd_same, rfl, fun j y e => by simp at e⟩
theorem LcI.more {R : Nat → V → Hp → Prop} {i : Nat} {H H4 : Hp} {y : V} (hD : H1 D = none) (mono : ∀ j y H H' l, H D = some (.lst l) → SB D H H' → R j y H → R j y H') (h : LcI R H1 D i H) (s : Same H H4) (hz : i < sizeLine) (r : R i y H4) :
    ∃ acc, H4 D = some (.lst acc) ∧ acc.length < sizeLine ∧ LcI R H1 D (i + 1) (upd H4 D (.lst (acc ++ [y]))) := by
  obtain ⟨s1, acc, e, l, hR⟩ := h
  have e4 := s _ _ e
  refine ⟨acc, e4, by omega, ?_, acc ++ [y], upd_same, by rw [List.length_append, List.length_singleton, l], fun j z hz => ?_⟩
  · exact ((s1.trans s).sb D |>.trans (sb_upd D H4 _)).same hD
  · rcases Nat.lt_or_ge j acc.length with q | q
    · rw [List.getElem?_append_left q] at hz
      exact mono j z H _ acc e ((s.sb D).trans (sb_upd D H4 _)) (hR j z hz)
    · rw [List.getElem?_append_right q] at hz
      have ej : j = acc.length := by
        rcases Nat.lt_or_ge 0 (j - acc.length) with q2 | q2
        · rw [List.getElem?_eq_none (by rw [List.length_singleton]; omega)] at hz
          cases hz
        · omega
      subst ej
      rw [Nat.sub_self] at hz
      have ez : y = z := Option.some.inj hz
      subst ez
      rw [l]
      exact mono i y H4 _ acc e4 (sb_upd D H4 _) r
theorem lcT (R : Nat → V → Hp → Prop) (hD : H1 D = none) (hS : SqT K H1 a xs) (hz : xs.length ≤ sizeLine) (mono : ∀ j y H H' l, H D = some (.lst l) → SB D H H' → R j y H → R j y H')
    (step : ∀ i x H (Qn : V → Hp → Prop), xs[i]? = some x → Same H1 H → (∀ y H4, Same H H4 → R i y H4 → Qn y H4) → g x (wipe σ vs) H fun σ2 H2 => wipe σ2 vs = wipe σ vs ∧ te σ2 H2 Qn)
    (fin : ∀ H acc, Same H1 H → H D = some (.lst acc) → acc.length = xs.length → (∀ j y, acc[j]? = some y → R j y H) → Qd H) :
    ∃ W : Nat → Nat → Hp → Prop, (∃ m, W 0 m (upd H1 D (.lst []))) ∧ ∀ i m H, W i m H →
      ((Itt K a).stop i H ∧ Qd H) ∨ ((Itt K a).go i H ∧ ∃ Nx : Hp → Prop, (∀ H', Nx H' → ∃ m', m' < m ∧ W (i + 1) m' H') ∧ ∀ x H', (Itt K a).yld i H x H' → g x (wipe σ vs) H' fun σ2 H2 => wipe σ2 vs = wipe σ vs ∧ tYes σ2 H2 fun b H3 =>
        if b = true then te σ2 H3 fun y H4 => ∃ acc, H4 D = some (.lst acc) ∧ acc.length < sizeLine ∧ Nx (upd H4 D (.lst (acc ++ [y]))) else Nx H3) :=
  lc_tup (LcI R H1 D) (LcI.start hD) (fun i H _ h => h.1.sqT hS) (fun i x H hx h => step i x H _ hx h.1 fun y H4 s r => LcI.more hD mono h s (Nat.lt_of_lt_of_le (List.getElem?_eq_some_iff.mp hx).1 hz) r)
    (fun H ⟨s, acc, e, l, r⟩ => fin H acc s e l r)
theorem lcL (R : Nat → V → Hp → Prop) (hD : H1 D = none) (hS : SqL K H1 a xs) (hz : xs.length ≤ sizeLine) (mono : ∀ j y H H' l, H D = some (.lst l) → SB D H H' → R j y H → R j y H')
    (step : ∀ i x H (Qn : V → Hp → Prop), xs[i]? = some x → Same H1 H → (∀ y H4, Same H H4 → R i y H4 → Qn y H4) → g x (wipe σ vs) H fun σ2 H2 => wipe σ2 vs = wipe σ vs ∧ te σ2 H2 Qn)
    (fin : ∀ H acc, Same H1 H → H D = some (.lst acc) → acc.length = xs.length → (∀ j y, acc[j]? = some y → R j y H) → Qd H) :
    ∃ W : Nat → Nat → Hp → Prop, (∃ m, W 0 m (upd H1 D (.lst []))) ∧ ∀ i m H, W i m H →
      ((Itl K a).stop i H ∧ Qd H) ∨ ((Itl K a).go i H ∧ ∃ Nx : Hp → Prop, (∀ H', Nx H' → ∃ m', m' < m ∧ W (i + 1) m' H') ∧ ∀ x H', (Itl K a).yld i H x H' → g x (wipe σ vs) H' fun σ2 H2 => wipe σ2 vs = wipe σ vs ∧ tYes σ2 H2 fun b H3 =>
        if b = true then te σ2 H3 fun y H4 => ∃ acc, H4 D = some (.lst acc) ∧ acc.length < sizeLine ∧ Nx (upd H4 D (.lst (acc ++ [y]))) else Nx H3) :=
  lc_list (LcI R H1 D) (LcI.start hD) (fun i H _ h => h.1.seq hS) (fun i x H hx h => step i x H _ hx h.1 fun y H4 s r => LcI.more hD mono h s (Nat.lt_of_lt_of_le (List.getElem?_eq_some_iff.mp hx).1 hz) r)
    (fun H ⟨s, acc, e, l, r⟩ => fin H acc s e l r)
theorem lcR {lo : Int} {n : Nat} (R : Nat → V → Hp → Prop) (hD : H1 D = none) (hz : n ≤ sizeLine) (mono : ∀ j y H H' l, H D = some (.lst l) → SB D H H' → R j y H → R j y H')
    (step : ∀ i H (Qn : V → Hp → Prop), i < n → Same H1 H → (∀ y H4, Same H H4 → R i y H4 → Qn y H4) → g (.int (lo + i)) (wipe σ vs) H fun σ2 H2 => wipe σ2 vs = wipe σ vs ∧ te σ2 H2 Qn)
    (fin : ∀ H acc, Same H1 H → H D = some (.lst acc) → acc.length = n → (∀ j y, acc[j]? = some y → R j y H) → Qd H) :
    ∃ W : Nat → Nat → Hp → Prop, (∃ m, W 0 m (upd H1 D (.lst []))) ∧ ∀ i m H, W i m H →
      ((Itr lo n).stop i H ∧ Qd H) ∨ ((Itr lo n).go i H ∧ ∃ Nx : Hp → Prop, (∀ H', Nx H' → ∃ m', m' < m ∧ W (i + 1) m' H') ∧ ∀ x H', (Itr lo n).yld i H x H' → g x (wipe σ vs) H' fun σ2 H2 => wipe σ2 vs = wipe σ vs ∧ tYes σ2 H2 fun b H3 =>
        if b = true then te σ2 H3 fun y H4 => ∃ acc, H4 D = some (.lst acc) ∧ acc.length < sizeLine ∧ Nx (upd H4 D (.lst (acc ++ [y]))) else Nx H3) :=
  lc_range (LcI R H1 D) (LcI.start hD) (fun i H hi h => step i H _ hi h.1 fun y H4 s r => LcI.more hD mono h s (Nat.lt_of_lt_of_le hi hz) r)
    (fun H ⟨s, acc, e, l, r⟩ => fin H acc s e l r)
end
/-! ### fractions -/
/-- the two numbers of a fraction -/
def rep (q : Rat) : List V := [.int q.num, .int (q.den : Int)]
def FrA (K : PySem.W.Frag) (H : Hp) (v : V) (q : Rat) : Prop := ∃ a, v = .ref a ∧ SqT K H a (rep q)
theorem FrA.same {K : PySem.W.Frag} {H H' : Hp} {v : V} {q : Rat} (h : FrA K H v q) (s : Same H H') : FrA K H' v q := by
  obtain ⟨a, rfl, h⟩ := h
  exact ⟨a, rfl, s.sqT h⟩
/-- what the program's arithmetic asks -/
def Bd (q : Rat) : Prop := q.den ≤ 4096 ∧ q.num.natAbs ≤ 1048576
end K43
set_option Elab.async false
set_option linter.all false
set_option maxRecDepth 100000
set_option maxHeartbeats 4000000
namespace K43
open PySem PySem.Spec PyProof.Rows L2
/-! ### Rat and its two numbers -/
theorem mkRat_num (t : Int) (b : Nat) (hb : b ≠ 0) : (mkRat t b).num = t / (Nat.gcd t.natAbs b : Nat) ∧ (mkRat t b).den = b / Nat.gcd t.natAbs b := by
  rw [← Rat.normalize_eq_mkRat hb]
  constructor
  · rw [Rat.normalize_eq]
  · rw [Rat.normalize_eq]
section
variable {P : Program} {w : World} {K : PySem.W.Frag} {mg : Str → Option Value} {base : Heap}
theorem sc_fraction : FnScope ["top", "bottom", "shared"] ["top", "bottom"] (defScope s_fraction) := ⟨rfl, rfl, rfl, by decide +kernel, rfl, by decide +kernel, by decide +kernel⟩
def spFraction : Sp := fun vs H Q _ => ∃ (t : Int) (b : Nat), vs = [.int t, .int (b : Int)] ∧ 0 < b ∧ b < 1073741824 ∧ ∀ H' p, Same H H' → H' p = some (.tup (rep (mkRat t b))) → Q (.ref p) H'
theorem c_fraction (T : Tx K mg) : Cal P w K mg base 1 "fraction" ["top", "bottom"] spFraction := by
  refine cal_of (d := d_fraction) T in_fraction fa_fraction rfl rfl rfl (fun _ _ _ _ _ _ us hl => match us, hl with | [_, _], _ => rfl) sc_fraction (fun vs H Q E h => ?_) (fun f cdv A outer s H vs Q E hr h => ?_)
  · obtain ⟨t, b, rfl, _⟩ := h
    rfl
  · obtain ⟨t, b, rfl, h0, h1, q⟩ := h
    refine ⟨_, pss_cons (ps_set (i := 2) sc_fraction.nd rfl (.inl rfl) (pe_callBfun cr_gcd rfl T.gcd (pa_cons (pv 0) (pa_cons (pv 1) pa_nil))))
      (pss_cons (ps_if (pt_cmpR op_lt (pv 1) pe_int (nomark _)) (pss_one ps_never) pss_nil)
      (pss_one (ps_ret (pe_tup (pa_cons (pe_op op_fdiv (pv 0) (pv 2)) (pa_cons (pe_op op_fdiv (pv 1) (pv 2)) pa_nil)))))), ?_⟩
    refine ⟨_, rfl, _, rfl, t, b, rfl, ?_⟩
    refine ⟨_, rfl, _, _, rfl, rfl, _, rfl, ite2 (fun e => ?_) (fun e => ?_)⟩
    · have := of_decide_eq_true e
      omega
    · have hg0 : 0 < Nat.gcd t.natAbs b := Nat.gcd_pos_of_pos_right _ h0
      have hg1 : Nat.gcd t.natAbs b ≤ b := Nat.gcd_le_right _ h0
      have eb : (Int.natAbs (b : Int)) = b := Int.natAbs_natCast b
      refine ⟨_, rfl, _, rfl, _, _, rfl, rfl, ⟨?_, ?_⟩, _, rfl, _, rfl, _, _, rfl, rfl, ⟨?_, ?_⟩, by show 2 ≤ sizeLine; decide, fun p np => ?_⟩
      · rw [eb]; omega
      · rw [eb]; omega
      · rw [eb]; omega
      · rw [eb]; omega
      · refine q _ p (same_upd np) ?_
        rw [upd_same, eb]
        obtain ⟨e1, e2⟩ := mkRat_num t b (by omega)
        unfold rep
        rw [e1, e2]
        rfl
/-! ### arithmetic of fractions -/
theorem sc_plus : FnScope ["one", "other"] ["one", "other"] (defScope s_plus) := ⟨rfl, rfl, rfl, by decide +kernel, rfl, by decide +kernel, by decide +kernel⟩
theorem sc_minus : FnScope ["one", "other"] ["one", "other"] (defScope s_minus) := ⟨rfl, rfl, rfl, by decide +kernel, rfl, by decide +kernel, by decide +kernel⟩
theorem sc_times : FnScope ["one", "other"] ["one", "other"] (defScope s_times) := ⟨rfl, rfl, rfl, by decide +kernel, rfl, by decide +kernel, by decide +kernel⟩
theorem sc_is_less : FnScope ["one", "other"] ["one", "other"] (defScope s_is_less) := ⟨rfl, rfl, rfl, by decide +kernel, rfl, by decide +kernel, by decide +kernel⟩
/-- a new fraction from two -/
def spRat (K : PySem.W.Frag) (g : Rat → Rat → Rat) : Sp := fun vs H Q _ => ∃ (v1 v2 : V) (a b : Rat), vs = [v1, v2] ∧ FrA K H v1 a ∧ FrA K H v2 b ∧ Bd a ∧ Bd b ∧ ∀ H' p, Same H H' → H' p = some (.tup (rep (g a b))) → Q (.ref p) H'
def spLess (K : PySem.W.Frag) : Sp := fun vs H Q _ => ∃ (v1 v2 : V) (a b : Rat), vs = [v1, v2] ∧ FrA K H v1 a ∧ FrA K H v2 b ∧ Bd a ∧ Bd b ∧ Q (.bl (decide (a < b))) H
theorem rep0 (q : Rat) : (rep q)[0]? = some (.int q.num) := rfl
theorem rep1 (q : Rat) : (rep q)[1]? = some (.int (q.den : Int)) := rfl
theorem Bd.mul {a : Rat} (h : Bd a) : -(2 ^ 64) < a.num ∧ a.num < 2 ^ 64 := by
  have := h.2
  omega
theorem Bd.mulD {a : Rat} (h : Bd a) : -(2 ^ 64) < (a.den : Int) ∧ (a.den : Int) < 2 ^ 64 := by
  have := h.1
  omega
theorem Bd.den {a b : Rat} (ha : Bd a) (hb : Bd b) : 0 < a.den * b.den ∧ a.den * b.den < 1073741824 := by
  have h1 := ha.1
  have h2 := hb.1
  have h3 : a.den * b.den ≤ 4096 * 4096 := Nat.mul_le_mul h1 h2
  have h4 : 0 < a.den * b.den := Nat.mul_pos (Nat.pos_of_ne_zero a.den_nz) (Nat.pos_of_ne_zero b.den_nz)
  omega
theorem c_plus (T : Tx K mg) : Cal P w K mg base 2 "plus" ["one", "other"] (spRat K (· + ·)) := by
  refine cal_of (d := d_plus) T in_plus fa_plus rfl rfl rfl (fun _ _ _ _ _ _ us hl => match us, hl with | [_, _], _ => rfl) sc_plus (fun vs H Q E h => ?_) (fun f cdv A outer s H vs Q E hr h => ?_)
  · obtain ⟨_, _, _, _, rfl, _⟩ := h
    rfl
  · obtain ⟨_, _, a, b, rfl, ⟨x, rfl, hx⟩, ⟨y, rfl, hy⟩, ha, hb, q⟩ := h
    refine ⟨_, pss_one (ps_ret (pe_cal (c_fraction T) hr (pa_cons (pe_op op_add (pe_op op_mul (pe_ix ix_tup (pv 0) pe_int (fun _ _ => rfl)) (pe_ix ix_tup (pv 1) pe_int (fun _ _ => rfl))) (pe_op op_mul (pe_ix ix_tup (pv 1) pe_int (fun _ _ => rfl)) (pe_ix ix_tup (pv 0) pe_int (fun _ _ => rfl))))
      (pa_cons (pe_op op_mul (pe_ix ix_tup (pv 0) pe_int (fun _ _ => rfl)) (pe_ix ix_tup (pv 1) pe_int (fun _ _ => rfl))) pa_nil)))), ?_⟩
    refine ⟨_, rfl, x, _, _, _, rfl, rfl, hx, atI_nat (j := 0) (rep0 a), _, rfl, y, _, _, _, rfl, rfl, hy, atI_nat (j := 1) (rep1 b), _, _, rfl, rfl, .inl ha.mul, ?_⟩
    refine ⟨_, rfl, y, _, _, _, rfl, rfl, hy, atI_nat (j := 0) (rep0 b), _, rfl, x, _, _, _, rfl, rfl, hx, atI_nat (j := 1) (rep1 a), _, _, rfl, rfl, .inl hb.mul, ?_⟩
    refine ⟨_, _, rfl, rfl, _, rfl, x, _, _, _, rfl, rfl, hx, atI_nat (j := 1) (rep1 a), _, rfl, y, _, _, _, rfl, rfl, hy, atI_nat (j := 1) (rep1 b), _, _, rfl, rfl, .inl ha.mulD, ?_⟩
    obtain ⟨d0, d1⟩ := ha.den hb
    refine ⟨a.num * b.den + b.num * a.den, a.den * b.den, by rw [Int.natCast_mul]; rfl, d0, d1, fun H' p sm hp => ?_⟩
    rw [← Rat.add_def'] at hp
    exact q H' p sm hp
theorem c_minus (T : Tx K mg) : Cal P w K mg base 2 "minus" ["one", "other"] (spRat K (· - ·)) := by
  refine cal_of (d := d_minus) T in_minus fa_minus rfl rfl rfl (fun _ _ _ _ _ _ us hl => match us, hl with | [_, _], _ => rfl) sc_minus (fun vs H Q E h => ?_) (fun f cdv A outer s H vs Q E hr h => ?_)
  · obtain ⟨_, _, _, _, rfl, _⟩ := h
    rfl
  · obtain ⟨_, _, a, b, rfl, ⟨x, rfl, hx⟩, ⟨y, rfl, hy⟩, ha, hb, q⟩ := h
    refine ⟨_, pss_one (ps_ret (pe_cal (c_fraction T) hr (pa_cons (pe_op op_sub (pe_op op_mul (pe_ix ix_tup (pv 0) pe_int (fun _ _ => rfl)) (pe_ix ix_tup (pv 1) pe_int (fun _ _ => rfl))) (pe_op op_mul (pe_ix ix_tup (pv 1) pe_int (fun _ _ => rfl)) (pe_ix ix_tup (pv 0) pe_int (fun _ _ => rfl))))
      (pa_cons (pe_op op_mul (pe_ix ix_tup (pv 0) pe_int (fun _ _ => rfl)) (pe_ix ix_tup (pv 1) pe_int (fun _ _ => rfl))) pa_nil)))), ?_⟩
    refine ⟨_, rfl, x, _, _, _, rfl, rfl, hx, atI_nat (j := 0) (rep0 a), _, rfl, y, _, _, _, rfl, rfl, hy, atI_nat (j := 1) (rep1 b), _, _, rfl, rfl, .inl ha.mul, ?_⟩
    refine ⟨_, rfl, y, _, _, _, rfl, rfl, hy, atI_nat (j := 0) (rep0 b), _, rfl, x, _, _, _, rfl, rfl, hx, atI_nat (j := 1) (rep1 a), _, _, rfl, rfl, .inl hb.mul, ?_⟩
    refine ⟨_, _, rfl, rfl, _, rfl, x, _, _, _, rfl, rfl, hx, atI_nat (j := 1) (rep1 a), _, rfl, y, _, _, _, rfl, rfl, hy, atI_nat (j := 1) (rep1 b), _, _, rfl, rfl, .inl ha.mulD, ?_⟩
    obtain ⟨d0, d1⟩ := ha.den hb
    refine ⟨a.num * b.den - b.num * a.den, a.den * b.den, by rw [Int.natCast_mul]; rfl, d0, d1, fun H' p sm hp => ?_⟩
    rw [← Rat.sub_def'] at hp
    exact q H' p sm hp
theorem c_times (T : Tx K mg) : Cal P w K mg base 2 "times" ["one", "other"] (spRat K (· * ·)) := by
  refine cal_of (d := d_times) T in_times fa_times rfl rfl rfl (fun _ _ _ _ _ _ us hl => match us, hl with | [_, _], _ => rfl) sc_times (fun vs H Q E h => ?_) (fun f cdv A outer s H vs Q E hr h => ?_)
  · obtain ⟨_, _, _, _, rfl, _⟩ := h
    rfl
  · obtain ⟨_, _, a, b, rfl, ⟨x, rfl, hx⟩, ⟨y, rfl, hy⟩, ha, hb, q⟩ := h
    refine ⟨_, pss_one (ps_ret (pe_cal (c_fraction T) hr (pa_cons (pe_op op_mul (pe_ix ix_tup (pv 0) pe_int (fun _ _ => rfl)) (pe_ix ix_tup (pv 1) pe_int (fun _ _ => rfl)))
      (pa_cons (pe_op op_mul (pe_ix ix_tup (pv 0) pe_int (fun _ _ => rfl)) (pe_ix ix_tup (pv 1) pe_int (fun _ _ => rfl))) pa_nil)))), ?_⟩
    refine ⟨_, rfl, x, _, _, _, rfl, rfl, hx, atI_nat (j := 0) (rep0 a), _, rfl, y, _, _, _, rfl, rfl, hy, atI_nat (j := 0) (rep0 b), _, _, rfl, rfl, .inl ha.mul, ?_⟩
    refine ⟨_, rfl, x, _, _, _, rfl, rfl, hx, atI_nat (j := 1) (rep1 a), _, rfl, y, _, _, _, rfl, rfl, hy, atI_nat (j := 1) (rep1 b), _, _, rfl, rfl, .inl ha.mulD, ?_⟩
    obtain ⟨d0, d1⟩ := ha.den hb
    refine ⟨a.num * b.num, a.den * b.den, by rw [Int.natCast_mul]; rfl, d0, d1, fun H' p sm hp => ?_⟩
    rw [← Rat.mul_def'] at hp
    exact q H' p sm hp
theorem c_is_less (T : Tx K mg) : Cal P w K mg base 1 "is_less" ["one", "other"] (spLess K) := by
  refine cal_of (d := d_is_less) T in_is_less fa_is_less rfl rfl rfl (fun _ _ _ _ _ _ us hl => match us, hl with | [_, _], _ => rfl) sc_is_less (fun vs H Q E h => ?_) (fun f cdv A outer s H vs Q E hr h => ?_)
  · obtain ⟨_, _, _, _, rfl, _⟩ := h
    rfl
  · obtain ⟨_, _, a, b, rfl, ⟨x, rfl, hx⟩, ⟨y, rfl, hy⟩, ha, hb, q⟩ := h
    refine ⟨_, pss_one (ps_ret (pe_cmp (pc_lt (pe_op op_mul (pe_ix ix_tup (pv 0) pe_int (fun _ _ => rfl)) (pe_ix ix_tup (pv 1) pe_int (fun _ _ => rfl))) (pe_op op_mul (pe_ix ix_tup (pv 1) pe_int (fun _ _ => rfl)) (pe_ix ix_tup (pv 0) pe_int (fun _ _ => rfl)))))), ?_⟩
    refine ⟨_, rfl, x, _, _, _, rfl, rfl, hx, atI_nat (j := 0) (rep0 a), _, rfl, y, _, _, _, rfl, rfl, hy, atI_nat (j := 1) (rep1 b), _, _, rfl, rfl, .inl ha.mul, ?_⟩
    refine ⟨_, rfl, y, _, _, _, rfl, rfl, hy, atI_nat (j := 0) (rep0 b), _, rfl, x, _, _, _, rfl, rfl, hx, atI_nat (j := 1) (rep1 a), _, _, rfl, rfl, .inl hb.mul, ?_⟩
    refine ⟨_, _, rfl, rfl, ?_⟩
    have e : decide (a.num * (b.den : Int) < b.num * (a.den : Int)) = decide (a < b) := by
      rw [decide_eq_decide]
      exact (Rat.lt_iff a b).symm
    show Q (V.bl (decide (a.num * (b.den : Int) < b.num * (a.den : Int)))) H
    rw [e]
    exact q
/-! ### the law's own -/
theorem sc_lgcd : FnScope ["_law_one", "_law_other"] ["_law_one", "_law_other"] (defScope s__law_gcd) := ⟨rfl, rfl, rfl, by decide +kernel, rfl, by decide +kernel, by decide +kernel⟩
def spGcd : Sp := fun vs H Q _ => ∃ (t : Int) (b : Nat), vs = [.int t, .int (b : Int)] ∧ 0 < b ∧ Q (.int (Nat.gcd t.natAbs b : Nat)) H
theorem c_lgcd (T : Tx K mg) : Cal P w K mg base 1 "_law_gcd" ["_law_one", "_law_other"] spGcd := by
  refine cal_of (d := d__law_gcd) T in__law_gcd fa__law_gcd rfl rfl rfl (fun _ _ _ _ _ _ us hl => match us, hl with | [_, _], _ => rfl) sc_lgcd (fun vs H Q E h => ?_) (fun f cdv A outer s H vs Q E hr h => ?_)
  · obtain ⟨t, b, rfl, _⟩ := h
    rfl
  · obtain ⟨t, b, rfl, h0, q⟩ := h
    refine ⟨_, pss_cons (ps_set (i := 0) sc_lgcd.nd rfl (.inl rfl) (pe_callB call_abs (by rfl) (T.free _ fa_abs) (by decide +kernel) (pa_cons (pv 0) pa_nil)))
      (pss_cons (ps_while PassesOwn.never (pt_cmpR op_gt (pv 1) pe_int (nomark _)) (pss_one (ps_par (i := 0) (j := 1) rfl sc_lgcd.nd rfl rfl (by decide) rfl rfl (pa_cons (pv 1) (pa_cons (pe_op op_mod (pe_callTy call_int1 (by rfl) (T.free _ fa_int) (by decide +kernel) (pa_cons (pv 0) pa_nil)) (pv 1)) pa_nil)) (by rfl))))
      (pss_one (ps_ret (pv 0)))), ?_⟩
    refine ⟨_, rfl, _, rfl, ?_⟩
    refine ⟨fun m σ H' => ∃ x y : Nat, σ = [some (.int (x : Int)), some (.int (y : Int))] ∧ H' = H ∧ Nat.gcd x y = Nat.gcd t.natAbs b ∧ m = y, ⟨_, t.natAbs, b, ?_, rfl, rfl, rfl⟩, ?_⟩
    · show [some (V.int (if t < 0 then -t else t)), some (V.int (b : Int))] = _
      have e : (if t < 0 then -t else t) = (t.natAbs : Int) := by split <;> omega
      rw [e]
    · rintro m σ H' ⟨x, y, rfl, rfl, eg, em⟩
      refine ⟨_, rfl, _, _, rfl, rfl, _, rfl, ite2 (fun e => ?_) (fun e => ?_)⟩
      · have e' : 0 < y := by
          have := of_decide_eq_true e
          omega
        refine ⟨fun σ' H2 => ∃ x' y' : Nat, σ' = [some (.int (x' : Int)), some (.int (y' : Int))] ∧ H2 = H' ∧ Nat.gcd x' y' = Nat.gcd t.natAbs b ∧ y' < y, fun σ' H' ⟨x', y', e1, e2, e3, e4⟩ => ⟨y', by omega, x', y', e1, e2, e3, rfl⟩, ?_⟩
        refine ⟨_, rfl, _, rfl, .inl ⟨_, rfl, _, rfl, _, _, rfl, rfl, ?_, _, _, rfl, y, x % y, ?_, rfl, ?_, Nat.mod_lt _ e'⟩⟩
        · show (0 : Int) < y
          omega
        · show [some (V.int (y : Int)), some (V.int ((x : Int) % (y : Int)))] = _
          rw [← Int.natCast_emod]
        · rw [← eg, Nat.gcd_comm y (x % y), ← Nat.gcd_rec, Nat.gcd_comm]
      · have e' : y = 0 := by
          have : ¬ (0 : Int) < y := fun z => e (decide_eq_true z)
          omega
        subst e'
        rw [Nat.gcd_zero_right] at eg
        rw [eg]
        exact ⟨_, rfl, q⟩
theorem sc_lfraction : FnScope ["_law_top", "_law_bottom", "_law_shared"] ["_law_top", "_law_bottom"] (defScope s__law_fraction) := ⟨rfl, rfl, rfl, by decide +kernel, rfl, by decide +kernel, by decide +kernel⟩
theorem c_lfraction (T : Tx K mg) : Cal P w K mg base 2 "_law_fraction" ["_law_top", "_law_bottom"] spFraction := by
  refine cal_of (d := d__law_fraction) T in__law_fraction fa__law_fraction rfl rfl rfl (fun _ _ _ _ _ _ us hl => match us, hl with | [_, _], _ => rfl) sc_lfraction (fun vs H Q E h => ?_) (fun f cdv A outer s H vs Q E hr h => ?_)
  · obtain ⟨t, b, rfl, _⟩ := h
    rfl
  · obtain ⟨t, b, rfl, h0, h1, q⟩ := h
    refine ⟨_, pss_cons (ps_set (i := 2) sc_lfraction.nd rfl (.inl rfl) (pe_cal (c_lgcd T) hr (pa_cons (pv 0) (pa_cons (pv 1) pa_nil))))
      (pss_one (ps_ret (pe_tup (pa_cons (pe_op op_fdiv (pv 0) (pv 2)) (pa_cons (pe_op op_fdiv (pv 1) (pv 2)) pa_nil))))), ?_⟩
    refine ⟨_, rfl, _, rfl, t, b, rfl, h0, ?_⟩
    have hg0 : 0 < Nat.gcd t.natAbs b := Nat.gcd_pos_of_pos_right _ h0
    have hg1 : Nat.gcd t.natAbs b ≤ b := Nat.gcd_le_right _ h0
    refine ⟨_, rfl, _, rfl, _, _, rfl, rfl, ⟨?_, ?_⟩, _, rfl, _, rfl, _, _, rfl, rfl, ⟨?_, ?_⟩, by show 2 ≤ sizeLine; decide, fun p np => ?_⟩
    · omega
    · omega
    · omega
    · omega
    · refine q _ p (same_upd np) ?_
      rw [upd_same]
      obtain ⟨e1, e2⟩ := mkRat_num t b (by omega)
      unfold rep
      rw [e1, e2]
      rfl
theorem sc_lplus : FnScope ["_law_one", "_law_other"] ["_law_one", "_law_other"] (defScope s__law_plus) := ⟨rfl, rfl, rfl, by decide +kernel, rfl, by decide +kernel, by decide +kernel⟩
theorem c_lplus (T : Tx K mg) : Cal P w K mg base 3 "_law_plus" ["_law_one", "_law_other"] (spRat K (· + ·)) := by
  refine cal_of (d := d__law_plus) T in__law_plus fa__law_plus rfl rfl rfl (fun _ _ _ _ _ _ us hl => match us, hl with | [_, _], _ => rfl) sc_lplus (fun vs H Q E h => ?_) (fun f cdv A outer s H vs Q E hr h => ?_)
  · obtain ⟨_, _, _, _, rfl, _⟩ := h
    rfl
  · obtain ⟨_, _, a, b, rfl, ⟨x, rfl, hx⟩, ⟨y, rfl, hy⟩, ha, hb, q⟩ := h
    refine ⟨_, pss_one (ps_ret (pe_cal (c_lfraction T) hr (pa_cons (pe_op op_add (pe_op op_mul (pe_ix ix_tup (pv 0) pe_int (fun _ _ => rfl)) (pe_ix ix_tup (pv 1) pe_int (fun _ _ => rfl))) (pe_op op_mul (pe_ix ix_tup (pv 1) pe_int (fun _ _ => rfl)) (pe_ix ix_tup (pv 0) pe_int (fun _ _ => rfl))))
      (pa_cons (pe_op op_mul (pe_ix ix_tup (pv 0) pe_int (fun _ _ => rfl)) (pe_ix ix_tup (pv 1) pe_int (fun _ _ => rfl))) pa_nil)))), ?_⟩
    refine ⟨_, rfl, x, _, _, _, rfl, rfl, hx, atI_nat (j := 0) (rep0 a), _, rfl, y, _, _, _, rfl, rfl, hy, atI_nat (j := 1) (rep1 b), _, _, rfl, rfl, .inl ha.mul, ?_⟩
    refine ⟨_, rfl, y, _, _, _, rfl, rfl, hy, atI_nat (j := 0) (rep0 b), _, rfl, x, _, _, _, rfl, rfl, hx, atI_nat (j := 1) (rep1 a), _, _, rfl, rfl, .inl hb.mul, ?_⟩
    refine ⟨_, _, rfl, rfl, _, rfl, x, _, _, _, rfl, rfl, hx, atI_nat (j := 1) (rep1 a), _, rfl, y, _, _, _, rfl, rfl, hy, atI_nat (j := 1) (rep1 b), _, _, rfl, rfl, .inl ha.mulD, ?_⟩
    obtain ⟨d0, d1⟩ := ha.den hb
    refine ⟨a.num * b.den + b.num * a.den, a.den * b.den, by rw [Int.natCast_mul]; rfl, d0, d1, fun H' p sm hp => ?_⟩
    rw [← Rat.add_def'] at hp
    exact q H' p sm hp
theorem sc_lminus : FnScope ["_law_one", "_law_other"] ["_law_one", "_law_other"] (defScope s__law_minus) := ⟨rfl, rfl, rfl, by decide +kernel, rfl, by decide +kernel, by decide +kernel⟩
theorem c_lminus (T : Tx K mg) : Cal P w K mg base 3 "_law_minus" ["_law_one", "_law_other"] (spRat K (· - ·)) := by
  refine cal_of (d := d__law_minus) T in__law_minus fa__law_minus rfl rfl rfl (fun _ _ _ _ _ _ us hl => match us, hl with | [_, _], _ => rfl) sc_lminus (fun vs H Q E h => ?_) (fun f cdv A outer s H vs Q E hr h => ?_)
  · obtain ⟨_, _, _, _, rfl, _⟩ := h
    rfl
  · obtain ⟨_, _, a, b, rfl, ⟨x, rfl, hx⟩, ⟨y, rfl, hy⟩, ha, hb, q⟩ := h
    refine ⟨_, pss_one (ps_ret (pe_cal (c_lfraction T) hr (pa_cons (pe_op op_sub (pe_op op_mul (pe_ix ix_tup (pv 0) pe_int (fun _ _ => rfl)) (pe_ix ix_tup (pv 1) pe_int (fun _ _ => rfl))) (pe_op op_mul (pe_ix ix_tup (pv 1) pe_int (fun _ _ => rfl)) (pe_ix ix_tup (pv 0) pe_int (fun _ _ => rfl))))
      (pa_cons (pe_op op_mul (pe_ix ix_tup (pv 0) pe_int (fun _ _ => rfl)) (pe_ix ix_tup (pv 1) pe_int (fun _ _ => rfl))) pa_nil)))), ?_⟩
    refine ⟨_, rfl, x, _, _, _, rfl, rfl, hx, atI_nat (j := 0) (rep0 a), _, rfl, y, _, _, _, rfl, rfl, hy, atI_nat (j := 1) (rep1 b), _, _, rfl, rfl, .inl ha.mul, ?_⟩
    refine ⟨_, rfl, y, _, _, _, rfl, rfl, hy, atI_nat (j := 0) (rep0 b), _, rfl, x, _, _, _, rfl, rfl, hx, atI_nat (j := 1) (rep1 a), _, _, rfl, rfl, .inl hb.mul, ?_⟩
    refine ⟨_, _, rfl, rfl, _, rfl, x, _, _, _, rfl, rfl, hx, atI_nat (j := 1) (rep1 a), _, rfl, y, _, _, _, rfl, rfl, hy, atI_nat (j := 1) (rep1 b), _, _, rfl, rfl, .inl ha.mulD, ?_⟩
    obtain ⟨d0, d1⟩ := ha.den hb
    refine ⟨a.num * b.den - b.num * a.den, a.den * b.den, by rw [Int.natCast_mul]; rfl, d0, d1, fun H' p sm hp => ?_⟩
    rw [← Rat.sub_def'] at hp
    exact q H' p sm hp
theorem sc_lless : FnScope ["_law_one", "_law_other"] ["_law_one", "_law_other"] (defScope s__law_less) := ⟨rfl, rfl, rfl, by decide +kernel, rfl, by decide +kernel, by decide +kernel⟩
theorem c_lless (T : Tx K mg) : Cal P w K mg base 1 "_law_less" ["_law_one", "_law_other"] (spLess K) := by
  refine cal_of (d := d__law_less) T in__law_less fa__law_less rfl rfl rfl (fun _ _ _ _ _ _ us hl => match us, hl with | [_, _], _ => rfl) sc_lless (fun vs H Q E h => ?_) (fun f cdv A outer s H vs Q E hr h => ?_)
  · obtain ⟨_, _, _, _, rfl, _⟩ := h
    rfl
  · obtain ⟨_, _, a, b, rfl, ⟨x, rfl, hx⟩, ⟨y, rfl, hy⟩, ha, hb, q⟩ := h
    refine ⟨_, pss_one (ps_ret (pe_cmp (pc_lt (pe_op op_mul (pe_ix ix_tup (pv 0) pe_int (fun _ _ => rfl)) (pe_ix ix_tup (pv 1) pe_int (fun _ _ => rfl))) (pe_op op_mul (pe_ix ix_tup (pv 1) pe_int (fun _ _ => rfl)) (pe_ix ix_tup (pv 0) pe_int (fun _ _ => rfl)))))), ?_⟩
    refine ⟨_, rfl, x, _, _, _, rfl, rfl, hx, atI_nat (j := 0) (rep0 a), _, rfl, y, _, _, _, rfl, rfl, hy, atI_nat (j := 1) (rep1 b), _, _, rfl, rfl, .inl ha.mul, ?_⟩
    refine ⟨_, rfl, y, _, _, _, rfl, rfl, hy, atI_nat (j := 0) (rep0 b), _, rfl, x, _, _, _, rfl, rfl, hx, atI_nat (j := 1) (rep1 a), _, _, rfl, rfl, .inl hb.mul, ?_⟩
    refine ⟨_, _, rfl, rfl, ?_⟩
    have e : decide (a.num * (b.den : Int) < b.num * (a.den : Int)) = decide (a < b) := by
      rw [decide_eq_decide]
      exact (Rat.lt_iff a b).symm
    show Q (V.bl (decide (a.num * (b.den : Int) < b.num * (a.den : Int)))) H
    rw [e]
    exact q
end
end K43
set_option Elab.async false
set_option linter.all false
set_option maxRecDepth 100000
set_option maxHeartbeats 4000000
namespace K43
open PySem PySem.Spec PyProof.Rows L2
section
variable {P : Program} {w : World} {K : PySem.W.Frag} {mg : Str → Option Value} {base : Heap}
/-! ### the plain checks, where they hold -/
theorem sc_is_integer : FnScope ["thing"] ["thing"] (defScope s_is_integer) := ⟨rfl, rfl, rfl, by decide +kernel, rfl, by decide +kernel, by decide +kernel⟩
def spIsInt : Sp := fun vs H Q _ => ∃ t : Int, vs = [.int t] ∧ Q (.bl true) H
theorem c_is_integer (T : Tx K mg) : Cal P w K mg base 1 "is_integer" ["thing"] spIsInt := by
  refine cal_of (d := d_is_integer) T in_is_integer fa_is_integer rfl rfl rfl (fun _ _ _ _ _ _ us hl => match us, hl with | [_], _ => rfl) sc_is_integer (fun vs H Q E h => ?_) (fun f cdv A outer s H vs Q E hr h => ?_)
  · obtain ⟨_, rfl, _⟩ := h
    rfl
  · obtain ⟨t, rfl, q⟩ := h
    refine ⟨_, pss_one (ps_ret (pe_and (pe_callB call_isi (by rfl) (T.free _ fa_isinstance) (by decide +kernel) (pa_cons (pv 0) (pa_cons (pe_bltn (v := .ty "int") (u := .type "int") (by rfl) (T.free _ fa_int) (by decide +kernel) rfl) pa_nil)))
      (pe_one (pe_not (pe_callB call_isi (by rfl) (T.free _ fa_isinstance) (by decide +kernel) (pa_cons (pv 0) (pa_cons (pe_bltn (v := .ty "bool") (u := .type "bool") (by rfl) (T.free _ fa_bool) (by decide +kernel) rfl) pa_nil))))))), ?_⟩
    refine ⟨_, rfl, _, _, _, _, true, rfl, .ty "int", .base (.int t), kit_ty (by decide +kernel), true, rfl, iteT ?_⟩
    exact ⟨_, rfl, _, _, _, _, false, rfl, .ty "bool", .base (.int t), kit_ty (by decide +kernel), false, rfl, q⟩
theorem sc_is_between : FnScope ["thing", "least", "most"] ["thing", "least", "most"] (defScope s_is_between) := ⟨rfl, rfl, rfl, by decide +kernel, rfl, by decide +kernel, by decide +kernel⟩
def spBetween : Sp := fun vs H Q _ => ∃ t a b : Int, vs = [.int t, .int a, .int b] ∧ a ≤ t ∧ t ≤ b ∧ Q (.bl true) H
theorem c_is_between (T : Tx K mg) : Cal P w K mg base 2 "is_between" ["thing", "least", "most"] spBetween := by
  refine cal_of (d := d_is_between) T in_is_between fa_is_between rfl rfl rfl (fun _ _ _ _ _ _ us hl => match us, hl with | [_, _, _], _ => rfl) sc_is_between (fun vs H Q E h => ?_) (fun f cdv A outer s H vs Q E hr h => ?_)
  · obtain ⟨_, _, _, rfl, _⟩ := h
    rfl
  · obtain ⟨t, a, b, rfl, h1, h2, q⟩ := h
    refine ⟨_, pss_one (ps_ret (pe_and (pe_cal (c_is_integer T) hr (pa_cons (pv 0) pa_nil)) (pe_one (pe_chain op_le op_le (pv 1) (pv 0) (pv 2))))), ?_⟩
    refine ⟨_, rfl, t, rfl, true, rfl, iteT ?_⟩
    refine ⟨_, rfl, _, rfl, _, _, rfl, rfl, _, rfl, ?_⟩
    rw [decide_eq_true h1]
    refine iteT ⟨_, rfl, _, _, rfl, rfl, ?_⟩
    show Q (V.bl (decide (t ≤ b))) H
    rw [decide_eq_true h2]
    exact q
theorem sc_is_index : FnScope ["thing", "many"] ["thing", "many"] (defScope s_is_index) := ⟨rfl, rfl, rfl, by decide +kernel, rfl, by decide +kernel, by decide +kernel⟩
def spIndex : Sp := fun vs H Q _ => ∃ t m : Nat, vs = [.int (t : Int), .int (m : Int)] ∧ t < m ∧ Q (.bl true) H
theorem c_is_index (T : Tx K mg) : Cal P w K mg base 3 "is_index" ["thing", "many"] spIndex := by
  refine cal_of (d := d_is_index) T in_is_index fa_is_index rfl rfl rfl (fun _ _ _ _ _ _ us hl => match us, hl with | [_, _], _ => rfl) sc_is_index (fun vs H Q E h => ?_) (fun f cdv A outer s H vs Q E hr h => ?_)
  · obtain ⟨_, _, rfl, _⟩ := h
    rfl
  · obtain ⟨t, m, rfl, h1, q⟩ := h
    refine ⟨_, pss_one (ps_ret (pe_cal (c_is_between T) hr (pa_cons (pv 0) (pa_cons pe_int (pa_cons (pe_op op_sub (pv 1) pe_int) pa_nil))))), ?_⟩
    exact ⟨_, rfl, _, rfl, _, _, rfl, rfl, _, _, _, rfl, by omega, by omega, q⟩
theorem sc_is_tuple_of : FnScope ["thing", "many"] ["thing", "many"] (defScope s_is_tuple_of) := ⟨rfl, rfl, rfl, by decide +kernel, rfl, by decide +kernel, by decide +kernel⟩
def TyT (K : PySem.W.Frag) (H : Hp) (a : Addr) : Prop := TyX K H (.ref a) (.type "tuple")
theorem tyT_of {H : Hp} {a : Addr} {xs : List V} (h : SqT K H a xs) : TyT K H a := by
  rcases h with (h | ⟨o, h⟩) | ⟨o, _, _, h, c, _⟩
  · exact .base (.tup h)
  · exact .fTuple h
  · exact .kTuple h c
def spTupleOf (K : PySem.W.Frag) : Sp := fun vs H Q _ => ∃ (a : Addr) (xs : List V) (m : Nat), vs = [.ref a, .int (m : Int)] ∧ SqT K H a xs ∧ xs.length = m ∧ Q (.bl true) H
theorem c_is_tuple_of (T : Tx K mg) : Cal P w K mg base 1 "is_tuple_of" ["thing", "many"] (spTupleOf K) := by
  refine cal_of (d := d_is_tuple_of) T in_is_tuple_of fa_is_tuple_of rfl rfl rfl (fun _ _ _ _ _ _ us hl => match us, hl with | [_, _], _ => rfl) sc_is_tuple_of (fun vs H Q E h => ?_) (fun f cdv A outer s H vs Q E hr h => ?_)
  · obtain ⟨_, _, _, rfl, _⟩ := h
    rfl
  · obtain ⟨a, xs, m, rfl, hS, hl, q⟩ := h
    refine ⟨_, pss_one (ps_ret (pe_and (pe_callB call_isi (by rfl) (T.free _ fa_isinstance) (by decide +kernel) (pa_cons (pv 0) (pa_cons (pe_bltn (v := .ty "tuple") (u := .type "tuple") (by rfl) (T.free _ fa_tuple) (by decide +kernel) rfl) pa_nil)))
      (pe_one (pe_cmpR op_eq (pe_callB call_len_seq (by rfl) (T.free _ fa_len) PySem.boot_len (pa_cons (pv 0) pa_nil)) (pv 1) (nomark _))))), ?_⟩
    refine ⟨_, rfl, _, _, _, _, true, rfl, .ty "tuple", tyT_of hS, kit_ty (by decide +kernel), true, rfl, iteT ?_⟩
    refine ⟨_, rfl, a, _, rfl, .inr hS, _, rfl, rfl, ?_⟩
    rw [hl]
    show Q (.bl (decide (V.int (m : Int) = V.int (m : Int)))) H
    rw [decide_eq_true rfl]
    exact q
theorem sc_check_number : FnScope ["thing", "least", "most"] ["thing", "least", "most"] (defScope s_check_number) := ⟨rfl, rfl, rfl, by decide +kernel, rfl, by decide +kernel, by decide +kernel⟩
def spCheckNumber : Sp := fun vs H Q _ => ∃ t a b : Int, vs = [.int t, .int a, .int b] ∧ a ≤ t ∧ t ≤ b ∧ Q .non H
theorem c_check_number (T : Tx K mg) : Cal P w K mg base 3 "check_number" ["thing", "least", "most"] spCheckNumber := by
  refine cal_of (d := d_check_number) T in_check_number fa_check_number rfl rfl rfl (fun _ _ _ _ _ _ us hl => match us, hl with | [_, _, _], _ => rfl) sc_check_number (fun vs H Q E h => ?_) (fun f cdv A outer s H vs Q E hr h => ?_)
  · obtain ⟨_, _, _, rfl, _⟩ := h
    rfl
  · obtain ⟨t, a, b, rfl, h1, h2, q⟩ := h
    refine ⟨_, pss_one (ps_if (pt_not (pt_val (pe_cal (c_is_between T) hr (pa_cons (pv 0) (pa_cons (pv 1) (pa_cons (pv 2) pa_nil)))))) (pss_one ps_never) pss_nil), ?_⟩
    exact ⟨_, rfl, _, rfl, _, rfl, t, a, b, rfl, h1, h2, true, rfl, iteF q⟩
theorem sc_is_size : FnScope ["thing"] ["thing"] (defScope s_is_size) := ⟨rfl, rfl, rfl, by decide +kernel, rfl, by decide +kernel, by decide +kernel⟩
def spIsSize : Sp := fun vs H Q _ => vs = [.int 2] ∧ Q (.bl true) H
theorem c_is_size (T : Tx K mg) : Cal P w K mg base 3 "is_size" ["thing"] spIsSize := by
  obtain ⟨tk, hM⟩ := T.int _ _ fa_MOST_SIZE
  refine cal_of (d := d_is_size) T in_is_size fa_is_size rfl rfl rfl (fun _ _ _ _ _ _ us hl => match us, hl with | [_], _ => rfl) sc_is_size (fun vs H Q E h => ?_) (fun f cdv A outer s H vs Q E hr h => ?_)
  · obtain ⟨rfl, _⟩ := h
    rfl
  · obtain ⟨rfl, q⟩ := h
    refine ⟨_, pss_one (ps_ret (pe_cal (c_is_between T) hr (pa_cons (pv 0) (pa_cons pe_int (pa_cons (pe_glob (v := .int 4) rfl hM ⟨_, rfl⟩) pa_nil))))), ?_⟩
    exact ⟨_, rfl, _, _, _, rfl, by decide, by decide, q⟩
/-! ### all([..]) over a tuple, each of them true -/
/-- all of a comprehension over a tuple whose element tells True -/
theorem all_tup {a : Addr} {xs : List V} {g : TG} {te : TE} {vs : List Nat} {σ : L2.St} {H : Hp} {Q : VK} (hS : SqT K H a xs) (hz : xs.length ≤ sizeLine)
    (step : ∀ (i : Nat) x H2 (Qn : V → Hp → Prop), xs[i]? = some x → Same H H2 → (∀ H4, Same H2 H4 → Qn (.bl true) H4) → g x (wipe σ vs) H2 fun σ2 H3 => wipe σ2 vs = wipe σ vs ∧ te σ2 H3 Qn)
    (fin : ∀ H2, Same H H2 → Q (.bl true) H2) : tLc (fun _ H R => R (Itt K a) H) g tYes te vs σ H fun x H2 => rAll K [x] H2 Q := by
  intro D hD
  refine lcT (fun _ y _ => y = .bl true) hD hS hz (fun j y H H' l _ _ h => h) (fun i x H2 Qn hx s k => step i x H2 Qn hx s (fun H4 s4 => k _ _ s4 rfl)) (fun H2 acc s e l r => ?_)
  have ea : acc = (List.replicate acc.length true).map V.bl := by
    refine List.ext_getElem? fun j => ?_
    rw [List.map_replicate]
    cases q : acc[j]? with
    | none => rw [List.getElem?_eq_none (by rw [List.length_replicate]; exact List.getElem?_eq_none_iff.mp q)]
    | some y => rw [r j y q, List.getElem?_replicate, if_pos (List.getElem?_eq_some_iff.mp q).1]
  refine ⟨D, List.replicate acc.length true, rfl, SqL.of (by rw [e]; exact congrArg (fun z => some (HO.lst z)) ea), ?_⟩
  have e2 : (List.replicate acc.length true).all id = true := by simp
  rw [e2]
  exact fin H2 s
/-! ### rows -/
/-- a row of letters -/
def RowA (K : PySem.W.Frag) (H : Hp) (v : V) (row : List Nat) : Prop := ∃ a, v = .ref a ∧ SqT K H a (row.map fun x : Nat => V.int (x : Int))
theorem sc_raw_is_row : FnScope ["size", "thing", "letter"] ["size", "thing"] (defScope s_raw_is_row) := ⟨rfl, rfl, rfl, by decide +kernel, rfl, by decide +kernel, by decide +kernel⟩
def spRawIsRow (K : PySem.W.Frag) : Sp := fun vs H Q _ => ∃ (v : V) (row : List Nat), vs = [.int 2, v] ∧ RowA K H v row ∧ (∀ x ∈ row, x < 2) ∧ row.length ≤ 10 ∧ ∀ H', Same H H' → Q (.bl true) H'
theorem c_raw_is_row (T : Tx K mg) : Cal P w K mg base 4 "raw_is_row" ["size", "thing"] (spRawIsRow K) := by
  obtain ⟨tk, hM⟩ := T.int _ _ fa_MOST_LETTERS_machines
  refine cal_of (d := d_raw_is_row) T in_raw_is_row fa_raw_is_row rfl rfl rfl (fun _ _ _ _ _ _ us hl => match us, hl with | [_, _], _ => rfl) sc_raw_is_row (fun vs H Q E h => ?_) (fun f cdv A outer s H vs Q E hr h => ?_)
  · obtain ⟨_, _, rfl, _⟩ := h
    rfl
  · obtain ⟨v, row, rfl, ⟨a, rfl, hS⟩, hx, hl, q⟩ := h
    refine ⟨_, pss_cons (ps_if (PW.pt (pw_or (pt_not (pt_val (pe_callB call_isi (by rfl) (T.free _ fa_isinstance) (by decide +kernel) (pa_cons (pv 1) (pa_cons (pe_bltn (v := .ty "tuple") (u := .type "tuple") (by rfl) (T.free _ fa_tuple) (by decide +kernel) rfl) pa_nil)))))
        (pw_or1 (pt_cmpR op_gt (pe_callB call_len_seq (by rfl) (T.free _ fa_len) PySem.boot_len (pa_cons (pv 1) pa_nil)) (pe_glob (v := .int 400) rfl hM ⟨_, rfl⟩) (nomark _))))) (pss_one ps_never) pss_nil)
      (pss_one (ps_ret (pe_callB (cr_all rfl) (by rfl) (T.free _ fa_all) (by decide +kernel) (pa_cons (pe_lc (own := [("letter", 2)]) (g := gName 2) (tt := tYes) rfl sc_raw_is_row.nd (pi_tup (pv 1)) (blkOk_by (N := ["size", "thing", "letter"]) (sc := defScope s_raw_is_row) (by decide +kernel))
        (fun _ _ _ _ _ => pg_name (i := 2) sc_raw_is_row.nd rfl (Or.inl rfl)) (fun _ _ _ _ _ => pts_nil) (fun _ _ _ _ _ => pe_cal (c_is_index T) hr (pa_cons (pv 2) (pa_cons (pv 0) pa_nil)))) pa_nil)))), ?_⟩
    refine ⟨_, rfl, _, _, _, _, true, rfl, .ty "tuple", tyT_of hS, kit_ty (by decide +kernel), true, rfl, iteF ?_⟩
    refine ⟨_, rfl, a, _, rfl, .inr hS, _, _, rfl, rfl, _, rfl, ?_⟩
    have e1 : decide ((400 : Int) < ((row.map fun x : Nat => V.int (x : Int)).length : Int)) = false := decide_eq_false (by rw [List.length_map]; omega)
    rw [e1]
    refine iteF ⟨_, rfl, a, rfl, ⟨_, hS⟩, all_tup hS (by rw [List.length_map]; exact Nat.le_of_lt (small1000 (by omega))) (fun i x H2 Qn hi s k => ?_) fun H2 s => q H2 s⟩
    rw [List.getElem?_map] at hi
    cases e : row[i]? with
    | none =>
      rw [e] at hi
      cases hi
    | some z =>
      rw [e] at hi
      have ez : V.int (z : Int) = x := Option.some.inj hi
      subst ez
      exact ⟨rfl, _, rfl, _, rfl, z, 2, rfl, hx z (List.mem_of_getElem? e), k H2 (Same.refl _)⟩
theorem sc_check_row : FnScope ["size", "thing"] ["size", "thing"] (defScope s_check_row) := ⟨rfl, rfl, rfl, by decide +kernel, rfl, by decide +kernel, by decide +kernel⟩
def spCheckRow (K : PySem.W.Frag) : Sp := fun vs H Q _ => ∃ (v : V) (row : List Nat), vs = [.int 2, v] ∧ RowA K H v row ∧ (∀ x ∈ row, x < 2) ∧ row.length ≤ 10 ∧ ∀ H', Same H H' → Q .non H'
theorem c_check_row (T : Tx K mg) : Cal P w K mg base 5 "check_row" ["size", "thing"] (spCheckRow K) := by
  refine cal_of (d := d_check_row) T in_check_row fa_check_row rfl rfl rfl (fun _ _ _ _ _ _ us hl => match us, hl with | [_, _], _ => rfl) sc_check_row (fun vs H Q E h => ?_) (fun f cdv A outer s H vs Q E hr h => ?_)
  · obtain ⟨_, _, rfl, _⟩ := h
    rfl
  · obtain ⟨v, row, rfl, hR, hx, hl, q⟩ := h
    refine ⟨_, pss_one (ps_if (pt_not (pt_val (pe_cal (c_raw_is_row T) hr (pa_cons (pv 0) (pa_cons (pv 1) pa_nil))))) (pss_one ps_never) pss_nil), ?_⟩
    exact ⟨_, rfl, _, rfl, v, row, rfl, hR, hx, hl, fun H' s => ⟨true, rfl, iteF (q H' s)⟩⟩
end
end K43
set_option Elab.async false
set_option linter.all false
set_option maxRecDepth 100000
set_option maxHeartbeats 4000000
/-! dicts whose keys are tuples of pairs of whole numbers -/
namespace K43
open PySem PySem.Spec PyProof.Rows L2
/-! ### tuples stand -/
def TupK (H H' : Hp) : Prop := ∀ b xs, Rd H b (.tup xs) → Rd H' b (.tup xs)
theorem TupK.refl (H : Hp) : TupK H H := fun _ _ h => h
theorem TupK.trans {H H1 H2 : Hp} (a : TupK H H1) (b : TupK H1 H2) : TupK H H2 := fun c xs h => b c xs (a c xs h)
theorem TupK.sqT {K : PySem.W.Frag} {H H' : Hp} {a : Addr} {xs : List V} (t : TupK H H') (h : SqT K H a xs) : SqT K H' a xs := by
  rcases h with h | h
  · exact .inl (t _ _ h)
  · exact .inr h
theorem _root_.L2.Same.tk {H H' : Hp} (s : Same H H') : TupK H H' := fun b xs h => by
  rcases h with h | ⟨o, h⟩
  · exact .inl (s _ _ h)
  · exact .inr ⟨o, s _ _ h⟩
/-- what stands at D is no tuple -/
def NT (H : Hp) (D : Addr) : Prop := ∀ xs, ¬ Rd H D (.tup xs)
theorem NT.lst {H : Hp} {D : Addr} {ys : List V} (h : H D = some (.lst ys)) : NT H D := fun xs r => by
  rcases r with r | ⟨o, r⟩ <;> rw [h] at r <;> cases r
theorem NT.ext {H : Hp} {D : Addr} {f : Heap → Prop} (h : H D = some (.ext f)) : NT H D := fun xs r => by
  rcases r with r | ⟨o, r⟩ <;> rw [h] at r <;> cases r
theorem NT.none {H : Hp} {D : Addr} (h : H D = none) : NT H D := fun xs r => by
  rcases r with r | ⟨o, r⟩ <;> rw [h] at r <;> cases r
theorem NT.ins {H : Hp} {D C dx : Addr} {fs : List (Str × V)} (h : H D = some (.ins C dx fs)) : NT H D := fun xs r => by
  rcases r with r | ⟨o, r⟩ <;> rw [h] at r <;> cases r
theorem SB.tk {H H' : Hp} {D : Addr} (s : SB D H H') (n : NT H D) : TupK H H' := fun b xs h => by
  have nb : b ≠ D := fun z => n xs (by rw [← z]; exact h)
  rcases h with h | ⟨o, h⟩
  · exact .inl (s _ _ nb h)
  · exact .inr ⟨o, s _ _ nb h⟩
/-! ### keys -/
def nk (k : Key) : NestedKey := .tup (k.map fun q => .tup [.num (q.1 : Int), .num (q.2 : Int)])
theorem nk_inj {a b : Key} (h : nk a = nk b) : a = b := by
  unfold nk at h
  injection h with h
  induction a generalizing b with
  | nil =>
    cases b with
    | nil => rfl
    | cons y ys => simp at h
  | cons x xs ih =>
    cases b with
    | nil => simp at h
    | cons y ys =>
      rw [List.map_cons, List.map_cons] at h
      injection h with h1 h2
      injection h1 with h1
      injection h1 with h3 h4
      injection h3 with h3
      injection h4 with h4
      injection h4 with h4
      rw [ih h2]
      congr 1
      exact Prod.ext (by omega) (by omega)
theorem nk_depth (k : Key) : (nk k).depth ≤ 8 := by
  have e : ∀ l : Key, NestedKey.depthAll (l.map fun q => .tup [.num (q.1 : Int), .num (q.2 : Int)]) ≤ 1 := by
    intro l
    induction l with
    | nil => simp [NestedKey.depthAll]
    | cons q r ih =>
      rw [List.map_cons]
      simp only [NestedKey.depthAll, NestedKey.depth]
      omega
  have e2 := e k
  unfold nk
  simp only [NestedKey.depth]
  omega
/-- the tuple at a is the key k -/
def PairA (K : PySem.W.Frag) (H : Hp) (v : V) (q : Nat × Nat) : Prop := ∃ a, v = .ref a ∧ SqT K H a [.int (q.1 : Int), .int (q.2 : Int)]
def KeyT (K : PySem.W.Frag) (H : Hp) (a : Addr) (k : Key) : Prop := ∃ vs : List V, SqT K H a vs ∧ Paired (PairA K H) vs k
theorem PairA.tk {K : PySem.W.Frag} {H H' : Hp} {v : V} {q : Nat × Nat} (h : PairA K H v q) (t : TupK H H') : PairA K H' v q := by
  obtain ⟨a, e, h⟩ := h
  exact ⟨a, e, t.sqT h⟩
theorem KeyT.tk {K : PySem.W.Frag} {H H' : Hp} {a : Addr} {k : Key} (h : KeyT K H a k) (t : TupK H H') : KeyT K H' a k := by
  obtain ⟨vs, h1, h2⟩ := h
  exact ⟨vs, t.sqT h1, Paired.mapP h2 fun _ _ z => z.tk t⟩
section
variable {X : Cx} {pins : List (Addr × Obj)} {σ : L2.St} {H : Hp} {s : Shared}
theorem pair_is {v : V} {u : Value} {q : Nat × Nat} (I : Inv X pins σ H s) (h : PairA X.K H v q) (r : RelV v u) : NestedIs s.heap (.tup [.num (q.1 : Int), .num (q.2 : Int)]) u := by
  obtain ⟨a, rfl, h⟩ := h
  obtain rfl : u = Value.ref a := r
  obtain ⟨its, rv, ⟨o, ho, hc, n, hd⟩, _⟩ := I.tuple h
  refine .tup ho hc hd ?_
  cases rv with
  | cons r1 t =>
    cases t with
    | cons r2 t2 =>
      cases t2
      obtain ⟨t1, rfl⟩ := r1
      obtain ⟨t2, rfl⟩ := r2
      exact .cons (.int _ _) (.cons (.int _ _) .nil)
theorem key_is {a : Addr} {k : Key} (I : Inv X pins σ H s) (h : KeyT X.K H a k) : (nestedKind X.prog X.w).is s.heap (nk k) a := by
  obtain ⟨vs, h1, h2⟩ := h
  obtain ⟨its, rv, ⟨o, ho, hc, n, hd⟩, _⟩ := I.tuple h1
  refine ⟨.tup ho hc hd ?_, nk_depth k⟩
  have all : ∀ {vs : List V} {its : List Value} {k : Key}, Vals vs its → Paired (PairA X.K H) vs k → NestedAll s.heap (k.map fun q => .tup [.num (q.1 : Int), .num (q.2 : Int)]) its := by
    intro vs its k r p
    induction p generalizing its with
    | nil => cases r; exact .nil
    | cons h t ih =>
      cases r with
      | cons r1 r2 => exact .cons (pair_is I h r1) (ih r2)
  simpa using all rv h2
end
/-! ### the dict -/
def obHO (d : Addr) (o : Obj) : HO := .ext fun h => h.get? d = some o
theorem obHO_ok {P : Program} {w : World} {H : Hp} {h : Heap} {d : Addr} {o : Obj} (e : h.get? d = some o) : ObjOk P w H h d (obHO d o) := ⟨e, ⟨o, e⟩, fun h1 h2 q st => st o q⟩
abbrev KX (K : PySem.W.Frag) (H : Hp) : List (Key × V) → List (NestedKey × Addr × Value) → Prop := Paired fun p q => q.1 = nk p.1 ∧ KeyT K H q.2.1 p.1 ∧ RelV p.2 q.2.2
/-- at d stands the dict o with the items kvs -/
def NDO (P : Program) (w : World) (K : PySem.W.Frag) (H : Hp) (d : Addr) (o : Obj) (kvs : List (Key × V)) : Prop :=
  H d = some (obHO d o) ∧ (d == sysModules) = false ∧ kvs.length ≤ sizeLine ∧ o.ExactDict ∧ ∃ es ep xs, o.data = .dict es ep ∧ es.toList = xs.map (entryOfKey (nestedKind P w)) ∧ (xs.map (·.1)).Nodup ∧ KX K H kvs xs
def ND (P : Program) (w : World) (K : PySem.W.Frag) (H : Hp) (d : Addr) (kvs : List (Key × V)) : Prop := ∃ o, NDO P w K H d o kvs
section
variable {P : Program} {w : World} {K : PySem.W.Frag} {H H' : Hp} {d : Addr} {o : Obj} {kvs : List (Key × V)}
theorem KX.tk {xs : List (NestedKey × Addr × Value)} (h : KX K H kvs xs) (t : TupK H H') : KX K H' kvs xs := Paired.mapP h fun _ _ z => ⟨z.1, z.2.1.tk t, z.2.2⟩
theorem NDO.keep (h : NDO P w K H d o kvs) (e : H' d = some (obHO d o)) (t : TupK H H') : NDO P w K H' d o kvs := by
  obtain ⟨_, h2, h3, h4, es, ep, xs, h5, h6, h7, h8⟩ := h
  exact ⟨e, h2, h3, h4, es, ep, xs, h5, h6, h7, h8.tk t⟩
theorem NDO.same (h : NDO P w K H d o kvs) (s : Same H H') : NDO P w K H' d o kvs := h.keep (s _ _ h.1) s.tk
theorem NDO.sb {D : Addr} (h : NDO P w K H d o kvs) (s : SB D H H') (n : d ≠ D) (t : NT H D) : NDO P w K H' d o kvs := h.keep (s _ _ n h.1) (s.tk t)
theorem NDO.nt (h : NDO P w K H d o kvs) : NT H d := NT.ext h.1
theorem ND.same (h : ND P w K H d kvs) (s : Same H H') : ND P w K H' d kvs := let ⟨o, q⟩ := h; ⟨o, q.same s⟩
theorem ND.sb {D : Addr} (h : ND P w K H d kvs) (s : SB D H H') (n : d ≠ D) (t : NT H D) : ND P w K H' d kvs := let ⟨o, q⟩ := h; ⟨o, q.sb s n t⟩
theorem ND.nt (h : ND P w K H d kvs) : NT H d := let ⟨_, q⟩ := h; q.nt
theorem KX.val {xs : List (NestedKey × Addr × Value)} (r : KX K H kvs xs) (k : Key) : RelO (valV kvs k) ((atKey xs (nk k)).map (·.2)) := by
  induction r with
  | nil => exact True.intro
  | @cons p q ps qs h t ih =>
    obtain ⟨h1, _, h2⟩ := h
    by_cases e : p.1 = k
    · have e' : q.1 = nk k := by rw [h1, e]
      have b : atKey (q :: qs) (nk k) = some q.2 := by simp [atKey, List.find?_cons, e']
      rw [valV_pos e, b]
      exact h2
    · have e' : ¬ q.1 = nk k := fun z => e (nk_inj (h1.symm.trans z))
      have b : atKey (q :: qs) (nk k) = atKey qs (nk k) := by simp [atKey, List.find?_cons, e']
      rw [valV_neg e, b]
      exact ih
theorem KX.put {xs : List (NestedKey × Addr × Value)} (r : KX K H kvs xs) (k : Key) {b : Addr} {y : V} {u : Value} (hb : KeyT K H b k) (ry : RelV y u) : KX K H (putK kvs k y) (storedH xs (nk k) b u) := by
  have e : (kvs.any fun kv => decide (kv.1 = k)) = (atKey xs (nk k)).isSome := by
    rw [valV_any, (KX.val r k).isSome_eq, Option.isSome_map]
  unfold putK storedH
  rw [e]
  by_cases q : (atKey xs (nk k)).isSome = true
  · rw [if_pos q, if_pos q]
    clear e q
    induction r with
    | nil => exact .nil
    | @cons p z ps zs h t ih =>
      rw [List.map_cons, List.map_cons]
      refine .cons ?_ ih
      obtain ⟨h1, h2, h3⟩ := h
      unfold putAt
      by_cases e : p.1 = k
      · rw [if_pos e, if_pos (by rw [h1, e])]
        exact ⟨h1, h2, ry⟩
      · rw [if_neg e, if_neg (fun z => e (nk_inj (h1.symm.trans z)))]
        exact ⟨h1, h2, h3⟩
  · rw [if_neg q, if_neg q]
    exact Paired.snoc r ⟨rfl, hb, ry⟩
end
section
variable {X : Cx} {pins : List (Addr × Obj)} {σ : L2.St} {H : Hp} {s : Shared} {d : Addr} {o : Obj} {kvs : List (Key × V)}
/-- what the library asks of it -/
theorem nd_of (I : Inv X pins σ H s) (h : NDO X.prog X.w X.K H d o kvs) : ∃ xs, KX X.K H kvs xs ∧ s.heap.DictOfH (nestedKind X.prog X.w) d xs := by
  obtain ⟨h1, h2, h3, h4, es, ep, xs, h5, h6, h7, h8⟩ := h
  obtain ⟨e, _⟩ := I.hok d _ h1
  refine ⟨xs, h8, o, es, ep, e, h4, h5, h6, fun x hx => ?_, h7⟩
  have all : ∀ {l : List (Key × V)} {m : List (NestedKey × Addr × Value)}, KX X.K H l m → ∀ x ∈ m, (nestedKind X.prog X.w).is s.heap x.1 x.2.1 := by
    intro l m q
    induction q with
    | nil => intro x hx; exact nomatch hx
    | cons hq t ih =>
      intro x hx
      rcases List.mem_cons.mp hx with e | hx
      · subst e
        rw [hq.1]
        exact key_is I hq.2.1
      · exact ih x hx
  exact all h8 x hx
/-- behind a store of the library's -/
theorem nd_stored {h' : Heap} {t' : Nat} {xs : List (NestedKey × Addr × Value)} {k : Key} {b : Addr} {v : V} {u : Value} (I : Inv X pins σ H s) (h : NDO X.prog X.w X.K H d o kvs) (r : KX X.K H kvs xs) (hb : KeyT X.K H b k) (rv : RelV v u) (hl : kvs.length < sizeLine)
    (dd : h'.DictOfH (nestedKind X.prog X.w) d (storedH xs (nk k) b u)) (hs : Heap.SameBut d s.heap h') : ∃ o', Inv X pins σ (upd H d (obHO d o')) { s with heap := h', toks := t' } ∧ NDO X.prog X.w X.K (upd H d (obHO d o')) d o' (putK kvs k v) := by
  obtain ⟨q, es, ep, hq, h2, h3, h4, _, h5⟩ := dd
  refine ⟨q, d_write I (by rw [h.1]; exact True.intro) hs ⟨q, hq⟩ (obHO_ok hq), upd_same, h.2.1, ?_, h2, es, ep, _, h3, h4, h5, KX.tk (KX.put r k hb rv) ((sb_upd d H _).tk h.nt)⟩
  have := length_putK kvs k v
  omega
end
end K43
set_option Elab.async false
set_option linter.all false
set_option maxRecDepth 100000
set_option maxHeartbeats 8000000
/-! rules for such dicts -/
namespace K43
open PySem PySem.Spec PyProof.Rows L2
section
variable {X : Cx} {pins : List (Addr × Obj)} {σ : L2.St} {H : Hp} {s : Shared} {d : Addr} {o : Obj} {kvs : List (Key × V)}
theorem nd_empty {P : Program} {w : World} {K : PySem.W.Frag} {H : Hp} (h : Heap) (hb : sysModules < h.objs.size) : NDO P w K (upd H h.objs.size (obHO h.objs.size { cls := .type "dict", data := .dict #[] })) h.objs.size { cls := .type "dict", data := .dict #[] } [] :=
  ⟨upd_same, beq_eq_false_iff_ne.mpr (Ne.symm (Nat.ne_of_lt hb)), Nat.zero_le _, ⟨rfl, rfl, rfl⟩, #[], 0, [], rfl, rfl, List.nodup_nil, .nil⟩
/-- a new empty dict is laid -/
theorem nd_laid {t' : Nat} (I : Inv X pins σ H s) : Inv X pins σ (upd H s.heap.objs.size (obHO s.heap.objs.size { cls := .type "dict", data := .dict #[] })) { s with heap := s.heap.push { cls := .type "dict", data := .dict #[] }, toks := t' } :=
  I.laid (fun b u e => Heap.get?_push_of_some _ e) (Nat.le_refl _) (obHO_ok (Heap.get?_push_size _ rfl))
/-- {} -/
def tDNewN (P : Program) (w : World) (K : PySem.W.Frag) : TE := fun _ H Q => ∀ p H', H p = none → Same H H' → ND P w K H' p [] → Q (.ref p) H'
theorem pe_dnewN {pos : Pos} : PE X (.Dict [] [] pos) (tDNewN X.prog X.w X.K) := by
  refine ⟨fun pins s σ H Q I h => ?_⟩
  have hn := I.hok.fresh (Nat.le_refl s.heap.objs.size)
  exact wpAny_Dict_empty ⟨.ref s.heap.objs.size, _, nd_laid I, rfl, h _ _ hn (same_upd hn) ⟨_, nd_empty s.heap I.big⟩⟩
theorem nroom {A : Around} (hu : A.units + 64 < cLine) : (nestedKind X.prog X.w).room A.in1 := by
  show A.units + 1 + 8 < cLine
  omega
theorem nroom0 {A : Around} (hu : A.units + 64 < cLine) : (nestedKind X.prog X.w).room A := by
  show A.units + 8 < cLine
  omega
/-- d[k], there -/
def tDGetN (P : Program) (w : World) (K : PySem.W.Frag) (td ty : TE) : TE := fun σ H Q => td σ H fun x H1 => ty σ H1 fun y H2 => ∃ d kvs k b v, x = .ref d ∧ y = .ref b ∧ ND P w K H2 d kvs ∧ KeyT K H2 b k ∧ valV kvs k = some v ∧ Q v H2
theorem pe_dgetN {ob ix : Expr} {td ty : TE} {pos : Pos} (hu : X.A.units + 64 < cLine) (ho : PE X ob td) (hi : PE X ix ty) (hs : NoSl ix) : PE X (.Subscript ob ix pos) (tDGetN X.prog X.w X.K td ty) := by
  refine ⟨fun pins s σ H Q I h => ?_⟩
  refine subD_of PySem.F.slot_dict_getitem.lookup hs (thn (ho.run pins s σ H _ I h) fun u s1 ⟨x, H1, I1, rx, q1⟩ => thn (hi.run pins s1 σ H1 _ I1 q1) fun iv s2 ⟨y, H2, I2, ry, d, kvs, k, b, v, ex, ey, ⟨o, nd⟩, kt, hv, q2⟩ => ?_)
  subst ex ey
  obtain rfl : u = Value.ref d := rx
  obtain rfl : iv = Value.ref b := ry
  obtain ⟨xs, r, dd⟩ := nd_of I2 nd
  obtain ⟨w', hw, rw'⟩ := RelO.some_of (v := v) (o := (atKey xs (nk k)).map (·.2)) (by rw [← hv]; exact KX.val r k)
  obtain ⟨p, hp, hp2⟩ := Option.map_eq_some_iff.mp hw
  refine ⟨dd.typeIs, wpAny_getItem_heap (nroom hu) (key_is I2 kt) dd hp ?_⟩
  rw [hp2]
  exact ⟨v, H2, I2.tok _, rw', q2⟩
/-- d[k] = v -/
def sDPutN (P : Program) (w : World) (K : PySem.W.Frag) (td ty tv : TE) : TS := fun D σ H => tv σ H fun v H1 => td σ H1 fun x H2 => ty σ H2 fun y H3 => ∃ d kvs k b, x = .ref d ∧ y = .ref b ∧ ND P w K H3 d kvs ∧ KeyT K H3 b k ∧ kvs.length < sizeLine ∧
  ∀ H4, SB d H3 H4 → ND P w K H4 d (putK kvs k v) → D.nx σ H4
theorem ps_dputN {ob ix value : Expr} {td ty tv : TE} {pos pos' : Pos} (hu : X.A.units + 64 < cLine) (ho : PE X ob td) (hi : PE X ix ty) (hv : PE X value tv) (hs : swapsWith value (some (.Subscript ob ix pos')) pos.line X.env = pure false) :
    PS X (.Assign [.Subscript ob ix pos'] value pos) (sDPutN X.prog X.w X.K td ty tv) := by
  refine ⟨fun pins s σ H D I h => ?_⟩
  refine wpAny_Assign_Subscript (thn (hv.run pins s σ H _ I h) fun r s1 ⟨v, H1, I1, rv, q1⟩ => thn (ho.run pins s1 σ H1 _ I1 q1) fun u s2 ⟨x, H2, I2, rx, q2⟩ => thn (hi.run pins s2 σ H2 _ I2 q2) fun iv s3 ⟨y, H3, I3, ry, d, kvs, k, b, ex, ey, ⟨o, nd⟩, kt, hl, q3⟩ => ?_) hs
  subst ex ey
  obtain rfl : u = Value.ref d := rx
  obtain rfl : iv = Value.ref b := ry
  obtain ⟨xs, r, dd⟩ := nd_of I3 nd
  have hz : xs.length ≤ sizeLine := by rw [← Paired.length r]; exact nd.2.2.1
  refine wpAny_setItem_heap (hsz := hz) (nroom hu) (key_is I3 kt) dd fun h' dd' hs' => ?_
  obtain ⟨o', I4, nd'⟩ := nd_stored (t' := s3.toks + (nestedKind X.prog X.w).draws (nk k)) I3 nd r kt rv hl dd' hs'
  exact ⟨σ, _, I4, q3 _ (sb_upd _ _ _) ⟨o', nd'⟩⟩
/-- len(d) -/
def rLenN (P : Program) (w : World) (K : PySem.W.Frag) : List V → Hp → VK → Prop := fun xs H Q => ∃ p kvs, xs = [.ref p] ∧ ND P w K H p kvs ∧ Q (.int ((kvs.length : Nat) : Int)) H
theorem call_lenN : CallR X (.builtin "len") (rLenN X.prog X.w X.K) := by
  intro pins s σ H xs us Q I r h
  obtain ⟨p, kvs, rfl, ⟨o, nd⟩, q⟩ := h
  obtain ⟨u, rfl, rx⟩ := vals1 r
  obtain rfl : u = .ref p := rx
  obtain ⟨ys, rel, dd⟩ := nd_of I nd
  have hl : kvs.length = ys.length := Paired.length rel
  have z := nd.2.2.1
  refine call_len_dictH nd.2.1 dd (by rw [← hl]; rw [sizeLine_eq] at z; omega) ?_
  rw [← hl]
  exact ⟨.int ((kvs.length : Nat) : Int), H, I.tok _, ⟨_, rfl⟩, q⟩
/-- {k: v}, one pair -/
def tDispN (P : Program) (w : World) (K : PySem.W.Frag) (tk tv : TE) : TE := fun σ H Q => ∀ p H0, H p = none → Same H H0 → NT H0 p → (∃ o, NDO P w K H0 p o []) → tk σ H0 fun x H1 => tv σ H1 fun y H2 => ∃ k b, x = .ref b ∧ KeyT K H2 b k ∧ ND P w K H2 p [] ∧ ∀ H3, SB p H2 H3 → ND P w K H3 p [(k, y)] → Q (.ref p) H3
theorem pe_dispN {ke ve : Expr} {tk tv : TE} {pos : Pos} (hu : X.A.units + 64 < cLine) (hk : PE X ke tk) (hv : PE X ve tv) : PE X (.Dict [some ke] [ve] pos) (tDispN X.prog X.w X.K tk tv) := by
  refine ⟨fun pins s σ H Q I h => ?_⟩
  have hn := I.hok.fresh (Nat.le_refl s.heap.objs.size)
  have I1 := nd_laid (t' := s.toks) I
  have h0 := h _ _ hn (same_upd hn) (NT.ext upd_same) ⟨_, nd_empty s.heap I.big⟩
  have hp := zip_pairTrees [some ke] [ve] X.env pos rfl rfl
  have hl := pairTrees_length [some ke] [ve] X.env pos rfl rfl
  have hne : pairTrees [some ke] [ve] X.env pos ≠ [] := fun z => by
    rw [z] at hl
    cases hl
  have run : wpAny (model X.prog X.w) X.A (subDict (pairTrees [some ke] [ve] X.env pos)) (fun p s' => EP X pins σ Q (.ref p) s') X.xe s := by
    refine wpAny_subDictH (knd := nestedKind X.prog X.w) (nroom0 hu) (by rw [hl]; show 1 ≤ 15; decide) ?_
    refine pairTrees_cons_walk (thn (hk.run pins _ σ _ _ I1 h0) fun kv s2 ⟨x, H2, I2, rx, q2⟩ => thn (hv.run pins s2 σ H2 _ I2 q2) fun vv s3 ⟨y, H3, I3, ry, k, b, ex, kt, ⟨o, nd⟩, q3⟩ => pairTrees_nil_walk ?_)
    subst ex
    obtain rfl : kv = Value.ref b := rx
    obtain ⟨xs, r, dd⟩ := nd_of I3 nd
    cases r
    refine ⟨[(nk k, b, vv)], ⟨rfl, rfl, key_is I3 kt, trivial⟩, dd, fun h' tk' dk hs => ?_⟩
    obtain ⟨o', I4, nd'⟩ := nd_stored (t' := tk') (k := k) (b := b) (v := y) I3 nd .nil kt ry (by decide) dk hs
    exact ⟨V.ref s.heap.objs.size, _, I4, rfl, q3 _ (sb_upd _ _ _) ⟨o', nd'⟩⟩
  rw [arm_eval_Dict, hp, dictDisplay_pairs _ hne (by rw [hl]; show 1 < 17; decide)]
  exact wpAny_bind (wpAny_standAt (wpAny_bind (thn run fun p s' e => wpAny_pure e)))
end
/-! ### the keys of such a dict, walked -/
/-- the dict o at d, its items kvs; each turn gives the key's own tuple -/
def Itn (P : Program) (w : World) (K : PySem.W.Frag) (d : Addr) (o : Obj) (kvs : List (Key × V)) : It :=
  ⟨fun i H => NDO P w K H d o kvs ∧ i < kvs.length, fun i H x H' => H' = H ∧ ∃ k v b, kvs[i]? = some (k, v) ∧ x = .ref b ∧ KeyT K H b k, fun i H => NDO P w K H d o kvs ∧ kvs.length ≤ i⟩
/-- what is known of the object -/
theorem nd_obj {X : Cx} {pins : List (Addr × Obj)} {σ : L2.St} {H : Hp} {s : Shared} {d : Addr} {o : Obj} {kvs : List (Key × V)} (I : Inv X pins σ H s) (h : NDO X.prog X.w X.K H d o kvs) :
    s.heap.get? d = some o ∧ ∃ (es : Array DictEntry) (ep : Nat), o.data = .dict es ep ∧ es.size = kvs.length ∧ ∀ (i : Nat) (k : Key) (v : V), kvs[i]? = some (k, v) → ∃ (en : DictEntry) (q : Addr), es[i]? = some en ∧ en.key = .ref q ∧ KeyT X.K H q k := by
  obtain ⟨h1, h2, h3, h4, es, ep, xs, h5, h6, h7, h8⟩ := h
  obtain ⟨e, _⟩ := I.hok d _ h1
  refine ⟨e, es, ep, h5, ?_, fun i k v q => ?_⟩
  · have l1 : es.size = xs.length := size_of_entries h6
    have l2 : kvs.length = xs.length := Paired.length h8
    omega
  · obtain ⟨b, hb, e1, e2, _⟩ := paired_get h8 q
    have q2 := entry_at h6 i
    rw [hb] at q2
    exact ⟨_, b.2.1, q2, rfl, e2⟩
theorem turn_keysN {P : Program} {w : World} {K : PySem.W.Frag} {tg : Expr} {d : Addr} {o : Obj} {es : Array DictEntry} {ep : Nat} {kvs : List (Key × V)} (it : Addr) (hod : o.data = .dict es ep) :
    Turn P w K tg (Itn P w K d o kvs) [it] it (fun i h => h.IsKeyIter it d i kvs.length ep) where
  mem := List.mem_singleton.mpr rfl
  obj := fun i h ⟨oi, e, c, dd⟩ b hb => by
    rw [List.mem_singleton.mp hb]
    exact ⟨oi, e, fun v z => by rw [dd] at z; cases z⟩
  keep := fun i h h' st k => st.at fun oi e => k it (List.mem_singleton.mpr rfl) oi e
  item := by
    intro X e1 e2 e3 hc i pins s σ H E I hf st ⟨nd, hi⟩
    subst e1 e2 e3
    obtain ⟨f0, f1, f2, f3, f4, f5⟩ := hf it (List.mem_singleton.mpr rfl)
    obtain ⟨ho, es', ep', hdt, hsz, ent⟩ := nd_obj I nd
    obtain ⟨rfl, rfl⟩ := dict_ep hod hdt
    obtain ⟨en, q, hen, hkey, hq⟩ := ent i kvs[i].1 kvs[i].2 (List.getElem?_eq_getElem hi)
    refine next_key_item st ho hdt hsz hen fun h' st' sb => ?_
    have J : Inv X pins σ H { s with heap := h' } := I.turned (t' := s.toks) (fun b ob hb e => (sb.2 b hb).trans e) f0 f1 f3 f4 f5
    obtain ⟨oi, e, c, dd⟩ := id st'
    exact ⟨en.key, rfl, go_of (s := { s with heap := h' }) e c dd (by decide) ⟨.ref q, H, J, hkey, ⟨rfl, _, _, q, List.getElem?_eq_getElem hi, rfl, hq⟩, st', fun b hb => (hf b hb).1⟩⟩
  done := by
    intro X e1 e2 e3 hc i pins s σ H E I hf st ⟨nd, hi⟩
    subst e1 e2 e3
    obtain ⟨f0, f1, f2, f3, f4, f5⟩ := hf it (List.mem_singleton.mpr rfl)
    obtain ⟨ho, es', ep', hdt, hsz, ent⟩ := nd_obj I nd
    obtain ⟨rfl, rfl⟩ := dict_ep hod hdt
    exact next_key_end (I.ok.hd hc) st ho hdt hsz hi fun h' eb => ⟨rfl, I.turned (t' := s.toks) (fun b ob hb e => eb b ob hb e) f0 f1 f3 f4 f5⟩
  self := fun A i s Q E st h => by
    refine wpAny_pyIter_slot st.typeIs F.slot_dict_keyiterator_iter (wpAny_call_entry F.slot_dict_keyiterator_iter st.typeIs F.entry_dict_keyiterator_iter ?_ (F.args_dict_keyiterator_iter_1 _))
    exact wpAny_pure ⟨.ref it, rfl, "dict_keyiterator", _, st.typeIs, F.slot_dict_keyiterator_next.lookup, h⟩
def iKeysN (P : Program) (w : World) (K : PySem.W.Frag) (td : TE) : TI := fun σ H R => td σ H fun x H1 => ∃ d o kvs, x = .ref d ∧ NDO P w K H1 d o kvs ∧ R (Itn P w K d o kvs) H1
theorem pi_keysN {X : Cx} {tg e : Expr} {td : TE} (he : PE X e td) : PI X tg e (iKeysN X.prog X.w X.K td) := by
  refine ⟨fun pins s σ H R I h => ?_⟩
  refine thn (he.run pins s σ H _ I h) fun u s1 ⟨x, H1, I1, rx, d, o, kvs, ex, nd, q⟩ => ?_
  subst ex
  obtain rfl : u = Value.ref d := rx
  obtain ⟨ho, es, ep, hdt, hsz, ent⟩ := nd_obj I1 nd
  refine iter_keys nd.2.1 ho nd.2.2.2.1 hdt (pi_one (tk := s1.toks) I1 _ (turn_keysN _ hdt) ⟨_, Heap.get?_push_size _ rfl, rfl, ?_⟩ q)
  rw [hsz] <;> rfl
/-! ### {k: v for x in iter} -/
def tDcN (P : Program) (w : World) (K : PySem.W.Frag) (wi : TI) (g : TG) (tk tv : TE) (vs : List Nat) : TE := fun σ H Q => wi σ H fun J H1 => ∀ D H0, H1 D = none → Same H1 H0 → ND P w K H0 D [] → ∃ W : Nat → Nat → Hp → Prop, (∃ m, W 0 m H0) ∧ ∀ i m H, W i m H →
  (J.stop i H ∧ Q (.ref D) H) ∨ (J.go i H ∧ ∃ Nx : Hp → Prop, (∀ H', Nx H' → ∃ m', m' < m ∧ W (i + 1) m' H') ∧ ∀ x H', J.yld i H x H' → g x (wipe σ vs) H' fun σ2 H2 => wipe σ2 vs = wipe σ vs ∧
    tk σ2 H2 fun y H4 => tv σ2 H4 fun z H5 => ∃ kvs k b, y = .ref b ∧ ND P w K H5 D kvs ∧ KeyT K H5 b k ∧ kvs.length < sizeLine ∧ ∀ H6, SB D H5 H6 → ND P w K H6 D (putK kvs k z) → Nx H6)
/-- the block's step that lays one item -/
theorem nd_dictSet {X : Cx} {pins : List (Addr × Obj)} {σ : L2.St} {H : Hp} {s : Shared} {E : Value → Shared → Prop} {D b : Addr} {kvs : List (Key × V)} {k : Key} {v : V} {r : Value} {Q : Unit → Shared → Prop} (hu : X.A.units + 64 < cLine) (I : Inv X pins σ H s)
    (nd : ND X.prog X.w X.K H D kvs) (kt : KeyT X.K H b k) (hl : kvs.length < sizeLine) (rv : RelV v r) (h : ∀ H' s', SB D H H' → ND X.prog X.w X.K H' D (putK kvs k v) → Inv X pins σ H' s' → Q () s') : wpAny (model X.prog X.w) X.A (dictSet D (.ref b) r) Q E s := by
  obtain ⟨o, nd⟩ := nd
  obtain ⟨xs, rel, dd⟩ := nd_of I nd
  have hz : xs.length ≤ sizeLine := by rw [← Paired.length rel]; exact nd.2.2.1
  refine wpAny_dictSet_heap (hsz := hz) (nroom0 hu) (key_is I kt) dd fun h' dd' hs => ?_
  obtain ⟨o', I4, nd'⟩ := nd_stored (t' := s.toks + (nestedKind X.prog X.w).draws (nk k)) I nd rel kt rv hl dd' hs
  exact h _ _ (sb_upd _ _ _) ⟨o', nd'⟩ I4
section
variable {X : Cx} {kx vx tg iter : Expr} {scope : Scope} {own : List (Str × Nat)} {pos pos' : Pos} {wi : TI} {g : TG} {tk tv : TE}
theorem pe_dcN (hu : X.A.units + 64 < cLine) (hc : X.calm = true) (hN : X.N.Nodup) (hi : PI X tg iter wi) (ok : BlkOk X.N X.env.scope scope own)
    (hg : ∀ (s : Shared) (H : Hp) (C : Addr) (cl : List (Str × Addr)) (fp : List Addr), PG (X.blk s H scope (compEnvC scope cl C X.env) fp) tg g)
    (hk : ∀ (s : Shared) (H : Hp) (C : Addr) (cl : List (Str × Addr)) (fp : List Addr), PE (X.blk s H scope (compEnvC scope cl C X.env) fp) kx tk)
    (he : ∀ (s : Shared) (H : Hp) (C : Addr) (cl : List (Str × Addr)) (fp : List Addr), PE (X.blk s H scope (compEnvC scope cl C X.env) fp) vx tv) (hs : ∀ x, foldedSetIterable iter X.env x = pure x := by intro _; rfl) :
    PE X (.DictComp kx vx [⟨tg, iter, [], 0⟩] scope pos) (tDcN X.prog X.w X.K wi g tk tv (own.map (·.2))) := by
  refine ⟨fun pins s σ H Q I h => ?_⟩
  rw [arm_eval_DictComp]
  have hfree : ∀ y ∈ scope.names, y.2 = .free → ∃ c, X.env.cells.lookup y.1 = some c := fun y hy e => (ok.free y hy e).elim (fun k => I.ok.has _ (.inl k)) fun k => I.ok.has _ (.inr k)
  refine wpAny_comprehension_free (use := none) rfl hs (closure_ok hfree) ok.kind (fun y hy e => by rw [ok.uniq y hy, e]) (thn (hi.run pins s σ H _ I h) fun xv s1 hx => thn hx fun itv s2 h2 => ?_)
  obtain ⟨it, fp, tn, J, H2, e, I2, T, st2, f2, q⟩ := h2
  subst e
  refine wpAny_newObj_type (newEnv_comp ?_)
  generalize hD : s2.heap.objs.size = D
  have hDn : H2 D = none := I2.hok.fresh (Nat.le_of_eq hD)
  have J3 := nd_laid (t' := s2.toks) I2
  have n3 : ND X.prog X.w X.K (upd H2 s2.heap.objs.size (obHO s2.heap.objs.size { cls := .type "dict", data := .dict #[] })) s2.heap.objs.size [] := ⟨_, nd_empty s2.heap I2.big⟩
  rw [hD] at J3 n3
  obtain ⟨W, ⟨m0, w0⟩, turn⟩ := q D _ hDn (same_upd hDn) n3
  have low : ∀ b ∈ fp, b < s2.heap.objs.size := fun b hb => let ⟨o, e, _⟩ := T.obj _ _ st2 b hb; Heap.lt_size e
  have off : ∀ b ∈ fp, b ≠ D := fun b hb => by rw [← hD]; exact Nat.ne_of_lt (low b hb)
  generalize hH3 : upd H2 D (obHO D { cls := .type "dict", data := .dict #[] }) = H3 at J3 n3 w0
  generalize hs3 : ({ s2 with heap := s2.heap.push { cls := .type "dict", data := .dict #[] }, toks := s2.toks } : Shared) = s3 at J3
  have h3 : s3.heap = s2.heap.push { cls := .type "dict", data := .dict #[] } := by rw [← hs3]
  have f3 : ∀ b ∈ fp, FpOk X pins H3 b ∧ b < s3.heap.objs.size := fun b hb => by
    refine ⟨⟨?_, (f2 b hb).2⟩, by rw [h3, Heap.size_push]; exact Nat.lt_succ_of_lt (low b hb)⟩
    rw [← hH3, upd_ne (off b hb)]
    exact (f2 b hb).1
  have st3 : tn 0 s3.heap := T.keep _ _ _ st2 fun b _ o e => by rw [h3]; exact Heap.get?_push_of_some _ e
  have I4 := block_start J3 ok hN f3
  have pg := hg s3 H3 s3.heap.objs.size (cellsFrom (s3.heap.objs.size + 1) scope.names (cloFrom X.env.cells scope.names [])) fp
  have pk := hk s3 H3 s3.heap.objs.size (cellsFrom (s3.heap.objs.size + 1) scope.names (cloFrom X.env.cells scope.names [])) fp
  have pe := he s3 H3 s3.heap.objs.size (cellsFrom (s3.heap.objs.size + 1) scope.names (cloFrom X.env.cells scope.names [])) fp
  show codeAny (model X.prog X.w) X.A (.compStart (.DictComp kx vx [⟨tg, iter, [], 0⟩] scope pos) 0 (.ref it) (.ref D) (compEnvC scope (cellsFrom (s3.heap.objs.size + 1) scope.names (cloFrom X.env.cells scope.names [])) s3.heap.objs.size X.env))
    (compPost (model X.prog X.w) X.A X.xe none (EP X pins σ Q) (.ref D) s3.heap.objs.size) { s3 with heap := pushCells (s3.heap.push { cls := .type "dict", data := .dict #[] }) scope.names }
  generalize hce : compEnvC scope (cellsFrom (s3.heap.objs.size + 1) scope.names (cloFrom X.env.cells scope.names [])) s3.heap.objs.size X.env = ce at I4 pg pk pe ⊢
  have cL : ce.locals = s3.heap.objs.size := by rw [← hce]; rfl
  generalize hs4 : ({ s3 with heap := pushCells (s3.heap.push { cls := .type "dict", data := .dict #[] }) scope.names } : Shared) = s4 at I4 ⊢
  have st4 : tn 0 s4.heap := T.keep _ _ _ st3 fun b _ o e => by rw [← hs4]; exact pushCells_keeps _ _ _ _ (Heap.get?_push_of_some _ e)
  have stat : ∀ {σ' : L2.St} {H' : Hp} {s' : Shared}, Inv (X.blk s3 H3 scope ce fp) [] σ' H' s' → (∀ b ∈ fp, H' b = none) → ∀ b ∈ fp, FpOk (X.blk s3 H3 scope ce fp) [] H' b := fun {σ' H' s'} I' hn b hb =>
    ⟨hn b hb, (I'.ok.exf b hb).1, I'.ok.exfs b hb, .inl hb, fun x c e => (I'.ok.exf b hb).2 x c e, fun p hp => absurd (show p ∈ ([] : List (Addr × Obj)) ++ [] from hp) (by simp)⟩
  have loop : codeAny (model X.prog X.w) X.A (.compLoop (.DictComp kx vx [⟨tg, iter, [], 0⟩] scope pos) 0 (.ref it) (.ref D) ce) (compPost (model X.prog X.w) X.A X.xe none (EP X pins σ Q) (.ref D) s3.heap.objs.size) s4 := by
    refine compLoop_anyD (fun n s' => ∃ i H', Inv (X.blk s3 H3 scope ce fp) [] (wipe σ (own.map (·.2))) H' s' ∧ tn i s'.heap ∧ (∀ b ∈ fp, H' b = none) ∧ W i n H') ?_ m0 ⟨0, H3, I4, st4, fun b hb => (f3 b hb).1.1, w0⟩
    rintro n s5 ⟨i, H5, I5, st5, n5, w5⟩
    rcases turn i n H5 w5 with ⟨stop, qq⟩ | ⟨go, Nx, hNx, step⟩
    · refine thnF (T.done (X.blk s3 H3 scope ce fp) rfl rfl rfl hc i [] s5 _ H5 (fun _ _ => False) I5 (stat I5 n5) st5 stop) fun r s6 ⟨hr, I6⟩ => ?_
      subst hr
      have I7 : Inv X pins σ H5 s6 := J3.call' (ch := fp) I6.os I6.base I6.hok I6.bare fun b hb => let z := (f3 b hb).1.2; ⟨z.2.2.1, z.1, z.2.2.2.1, z.2.2.2.2⟩
      have nC : H5 s3.heap.objs.size = none := by
        rw [← cL]
        exact I6.free
      obtain ⟨m, hn, _⟩ := I6.loc
      have hn2 : s6.heap.Ns s3.heap.objs.size m := by
        rw [← cL]
        exact hn
      refine ⟨m, hn2, fun h'' sb => ?_⟩
      obtain ⟨f0, f1, f2', f3', f4, f5⟩ := J3.fpOk (Nat.le_refl _) nC
      exact ⟨.ref D, H5, I7.turned (t' := s6.toks) (fun b o hb e => (sb.2 b hb).trans e) f0 f1 f3' f4 f5, rfl, qq⟩
    · refine thnF (T.item (X.blk s3 H3 scope ce fp) rfl rfl rfl hc i [] s5 _ H5 (fun _ _ => False) I5 (stat I5 n5) st5 go) fun r s6 ⟨u, hr, h6⟩ => ?_
      subst hr
      refine thnF h6 fun _ s7 ⟨x, H7, I7, r7, y7, st7, n7⟩ => ?_
      have I7' := I7.pinned (stat I7 n7) (T.obj _ _ st7)
      refine thnF (pg.run _ s7 _ H7 x u _ I7' r7 (step x H7 y7)) fun _ s8 ⟨σ8, H8, I8, hw8, q8⟩ => ?_
      refine wpAny_tests_nil ?_
      rw [if_pos rfl]
      refine thnF (pk.run _ s8 σ8 H8 _ I8 q8) fun z s10 ⟨yk, H10, I10, r10, q10⟩ => thnF (pe.run _ s10 σ8 H10 _ I10 q10) fun z2 s11 ⟨yv, H11, I11, r11, kvs, k, b, ek, nd11, kt, hz11, nx⟩ => ?_
      subst ek
      obtain rfl : z = Value.ref b := r10
      refine nd_dictSet (X := X.blk s3 H3 scope ce fp) hu I11 nd11 kt hz11 r11 fun H' s' sb nd' I' => ?_
      obtain ⟨m', hm, w'⟩ := hNx H' (nx H' sb nd')
      have pin' : ∀ b ∈ fp, ∀ o, s7.heap.get? b = some o → s'.heap.get? b = some o ∧ H' b = none := fun b hb o e =>
        let z := I'.pin (b, o) (List.mem_append_right _ (List.mem_append_right _ (mem_pinsAt hb e)))
        ⟨z.1, z.2.1⟩
      have hl : (wipe σ (own.map (·.2))).length = σ8.length := by rw [← hw8, wipe_length]
      refine ⟨m', hm, i + 1, H', (I'.unpinned (pins := [])).weak hl (fun j v e => ?_), T.keep _ _ _ st7 fun b hb o e => (pin' b hb o e).1, fun b hb => ?_, w'⟩
      · rw [← hw8] at e
        exact (wipe_some e).1
      · obtain ⟨o, e, _⟩ := T.obj _ _ st7 b hb
        exact (pin' b hb o e).2
  exact codeAny_compStart_dict loop (T.self X.A 0 _ _ _ st4 loop)
end
end K43
set_option Elab.async false
set_option linter.all false
set_option maxRecDepth 100000
set_option maxHeartbeats 8000000
/-! sorted(.., key=lambda lot: (len(lot), lot)) over tuples of whole numbers -/
namespace K43
open PySem PySem.Spec PyProof.Rows L2
open PySem.W (KeyEnd KeyIs dataLe AllAlike Sortable KeyedOut)
/-- all but the frame's own object stand: the state is known again -/
theorem kept_all {X : Cx} {pins : List (Addr × Obj)} {σ : L2.St} {H : Hp} {s : Shared} {h' : Heap} {m : Str → Option Value} (I : Inv X pins σ H s) (F : Fr X.base X.env.locals h' m) (N : News X.base X.env.locals h' (allNews X.base s.heap X.env.locals)) :
    ∀ b o, b ≠ X.env.locals → s.heap.get? b = some o → h'.get? b = some o := fun b o hb e => by
  cases q : X.base.get? b with
  | some u =>
    have e2 := I.bk b u q
    rw [e] at e2
    rw [Option.some.inj e2]
    exact F.keep b u q
  | none => exact (N (b, o) (mem_allNews hb q e)).1
section
variable {X : Cx} {pins : List (Addr × Obj)} {σ : L2.St} {H : Hp} {s : Shared}
/-- .. and a new object of the heap behind is tracked -/
theorem inv_new {h' : Heap} {t' : Nat} {m : Str → Option Value} {D : Addr} {u : HO} (I : Inv X pins σ H s) (hm : s.heap.Ns X.env.locals m) (hn : h'.Ns X.env.locals m) (k : ∀ b o, b ≠ X.env.locals → s.heap.get? b = some o → h'.get? b = some o)
    (hD : s.heap.objs.size ≤ D) (new : ObjOk X.prog X.w (upd H D u) h' D u) : Inv X pins σ (upd H D u) { s with heap := h', toks := t' } := by
  have nD : ∀ b o, s.heap.get? b = some o → b ≠ D := fun b o e => Nat.ne_of_lt (Nat.lt_of_lt_of_le (Heap.lt_size e) hD)
  have hDn : H D = none := I.hok.fresh hD
  have tr : ∀ b v, H b = some v → b ≠ X.env.locals := fun b v e z => by
    rw [z, I.free] at e
    cases e
  have up : ∀ b v, H b = some v → upd H D u b = some v := fun b v e => by
    rw [upd_ne (ne_of_none e hDn)]
    exact e
  refine I.step (g' := s.gens) (d' := s.drawn) (ch := [D]) (fun b hb => ?_) (fun b o hL _ hc e n => k b o hL e) (fun b o hL _ hc e n => ⟨o.slots, k b o hL e⟩) (fun b o hc e n => ?_) (fun b o hc e => ?_) (fun b xs e => up b _ e) (fun b o v e => up b _ e)
    (fun b ps e => ⟨#[], by rw [up b _ e]; simp⟩) (fun m' hm' => ?_) (fun b v e => ?_) I.bare
  · rw [List.mem_singleton.mp hb]
    refine ⟨.inr (Nat.le_trans I.sz hD), Nat.ne_of_gt (Nat.lt_of_lt_of_le I.lt hD), fun x c hc z => ?_, fun p hp z => ?_⟩
    · obtain ⟨v, o, ho, _⟩ := I.cell x c hc
      exact nD c o ho z
    · exact nD p.1 p.2 (I.pin p hp).1 z
  · rw [upd_ne (fun z => hc (List.mem_singleton.mpr z))]
    exact n
  · by_cases hL : b = X.env.locals
    · rw [hL]
      obtain ⟨o', _, _, ho, _⟩ := hn
      exact ⟨o', ho⟩
    · exact ⟨o, k b o hL e⟩
  · have e1 := hm.eq_nsMap
    have e2 := hm'.eq_nsMap
    rw [e2, ← e1]
    exact hn
  · by_cases hb : b = D
    · subst hb
      rw [upd_same] at e
      cases e
      exact new
    · rw [upd_ne hb] at e
      refine (I.hok b v e).stay (fun c w' hc q => k c w' ?_ q) (fun c q => up c _ q) fun c xs q => up c _ q
      rcases hc with z | z
      · rw [z]
        exact tr b v e
      · exact tr c _ z
end
/-- sorted(xs, key=f): where the new list stands -/
theorem sorted_key_at {prog : Program} {w : World} {A : Around} {E : Value → Shared → Prop} {s : Shared} {h₀ : Heap} {L : Addr} {m : Str → Option Value} {news : List (Addr × Obj)} {vs : List Value} {kz : List PyData} {l : Addr} {f : Value} {kw : List (Str × Value)} {Q : Value → Shared → Prop}
    (F : Fr h₀ L s.heap m) (N : News h₀ L s.heap news) (hl : s.heap.IsList l vs.toArray) (hlen : kz.length = vs.length) (hZ : vs.length ≤ sizeLine) (hal : AllAlike kz) (hsk : Sortable kz) (hu : ∀ d, d ∈ kz → A.units + 2 + d.depth < cLine)
    (ha1 : argsOk "sorted" ⟨[.ref l], kw⟩) (ha2 : ∀ x, argsOk "list.sort" ⟨[.ref x], kw⟩) (ht : ∀ x, Builtin.«list.sort» ⟨[.ref x], kw⟩ = ksk_tree x f false)
    (turn : ∀ (i : Nat) (v : Value) (k : PyData), vs[i]? = some v → kz[i]? = some k → ∀ (h : Heap) (tk : Nat) (own : List (Addr × Obj)), Fr h₀ L h m → News h₀ L h (news ++ own) →
      wpAny (model prog w) A.in1.in1 (call f [v]) (KeyEnd h₀ L m (news ++ own) k { s with heap := h, toks := tk }) (fun _ _ => False) { s with heap := h, toks := tk })
    (h : ∀ h' tk out c, Fr h₀ L h' m → News h₀ L h' ((s.heap.objs.size + 1, seqObj "list" (List.toArray out) c) :: news) → KeyedOut false kz vs out → Q (.ref (s.heap.objs.size + 1)) { s with heap := h', toks := tk }) : wpAny (model prog w) A (call (.builtin "sorted") [.ref l] kw) Q E s := by
  have hL : L < s.heap.objs.size := F.ns.lt
  refine PySem.W.sorted_of_sort hl hZ ha1 ha2 fun E' => ?_
  rw [ht]
  refine PySem.W.key_tree (kz := kz) (news := news) (s := { s with heap := PySem.W.copyHeap s.heap vs }) (F.kept fun _ _ => PySem.W.copyHeap_old) (N.grown fun _ _ => PySem.W.copyHeap_old) (PySem.W.copyHeap_at s.heap vs) (Nat.ne_of_gt (Nat.lt_succ_of_lt hL)) (Heap.get?_none_of_le (Nat.le_trans F.above (Nat.le_succ_of_le (Nat.le_of_lt hL))))
    (fun p hp => Nat.ne_of_lt (Nat.lt_succ_of_lt (Heap.lt_size (N p hp).1))) hlen hZ hal hsk hu turn fun h' tk out c F' N' k' => ⟨rfl, h h' tk out c F' N' k'⟩
/-- the key of a tuple -/
def kd (lot : List Int) : PyData := .tuple [.int lot.length, .tuple (lot.map .int)]
/-- the lambda's own text -/
def lamA (p : Pos) : Arguments := { posonlyargs := [], args := [{ arg := "lot", annotation := none, pos := p }], vararg := none, kwonlyargs := [], kw_defaults := [], kwarg := none, defaults := [] }
def lamB (p1 p2 p3 p4 p5 : Pos) : Expr := .Tuple [.Call (.Name "len" p1) [.Name "lot" p2] [] p3, .Name "lot" p4] 0 p5
def lamSc : Scope := { kind := .function, names := [(Str.ofString "lot", .local), (Str.ofString "len", .globalImplicit)], isGenerator := false, isCoroutine := false, more := [] }
theorem readsAll_ints {h : Heap} : ∀ {vs : List Value} {ns : List Int}, IntsAre vs ns → ReadsAll h vs (ns.map .int) []
  | _, _, .nil => .nil
  | _, _, .cons n t r => .cons (as := []) (bs := []) (.int n t) (readsAll_ints r)
theorem lam_turn {prog : Program} {w : World} {A : Around} {mg mb : Str → Option Value} {h₀ h : Heap} {s : Shared} {L f c' t : Addr} {m : Str → Option Value} {need : List (Addr × Obj)} {q : Str} {pm ctv : Value} {p0 p1 p2 p3 p4 p5 : Pos} {its : List Value} {ot : Obj} {n : Nat} {lot : List Int}
    (hg : h₀.Ns mainGlobals mg) (hb : h₀.Ns builtinsNs mb) (hlen : mg "len" = none) (hbl : mb "len" = some (.builtin "len")) (hlim : h₀.NoLimit) (hroom : A.depth < recursionLimit)
    (F : Fr h₀ L h m) (N : News h₀ L h need) (hf : h.get? f = some (PySem.W.kla_obj "<lambda>" q (lamA p0) (lamB p1 p2 p3 p4 p5) lamSc [] pm c' ctv)) (hcd : h.CodeRec (.ref c') q)
    (ht : (t, ot) ∈ need) (hc : ot.cls = .type "tuple") (hd : ot.data = .seq its.toArray n) (hi : IntsAre its lot) (hz : lot.length ≤ 4) :
    wpAny (model prog w) A (call (.ref f) [.ref t]) (KeyEnd h₀ L m need (kd lot) { s with heap := h }) (fun _ _ => False) { s with heap := h } := by
  refine wpAny_call (PySem.W.kla_callFunE hroom hf rfl rfl rfl rfl hcd ?_)
  show wpAny _ _ (pure [(("lot" : Str), Value.ref t)]) _ _ _
  refine wpAny_pure (wpAny_newFunctionEnv (fun x hx => by rcases List.mem_cons.mp hx with e | hx <;> first | (rw [e]; decide) | (rw [List.mem_singleton.mp hx]; decide)) (fun y hy => by rw [List.mem_singleton.mp hy]; rfl) (fun h₁ hns hsb => ?_) rfl)
  have hlt : L < h.objs.size := F.ns.lt
  have old : ∀ b o, h.get? b = some o → h₁.get? b = some o := fun b o e => hsb.extBut b o (Nat.ne_of_lt (Heap.lt_size e)) (Heap.get?_push_of_some _ e)
  have b0 : ∀ b o, h₀.get? b = some o → h₁.get? b = some o := fun b o e => old b o (F.keep b o e)
  refine ⟨hlim.keeps b0, PySem.W.kla_codeExpr ?_⟩
  have hsz : h.objs.size < h₁.objs.size := hns.lt
  have name : ∀ {Q : Value → Shared → Prop} {E : Value → Shared → Prop} {pos : Pos} {tk : Nat} {A' : Around}, Q (.ref t) { s with heap := h₁, toks := tk } → wpAny (model prog w) A' (eval (.Name "lot" pos) (newEnv lamSc h.objs.size mainGlobals [] (q ++ ".<locals>.") (some f) (.ref c') none builtinsNs)) Q E { s with heap := h₁, toks := tk } := fun {Q E pos tk A'} z =>
    wpAny_Name (wpAny_loadName_local rfl rfl hns (by rfl) z)
  refine wpAny_Tuple_spliced (Calls.spliced_cons (wpAny_Call_Name_kw (Calls.Name_function_global rfl rfl (Calls.loadGlobal_builtin (hg.keeps b0) hlen (hb.keeps b0) hbl ?_))))
  refine PyProof.Rows.callWith_builtin1 (Calls.spliced_cons (name (Calls.spliced_nil ?_)))
  have hto : h₁.get? t = some ot := old _ _ (N _ ht).1
  have hil : its.length = lot.length := hi.length
  refine len_tuple (items := its.toArray) ⟨ot, hto, hc, n, hd⟩ (by rw [List.size_toArray, hil]; omega) ?_
  have fin : ∀ (t1 : Tok) (t2 : Nat), KeyEnd h₀ L m need (kd lot) { s with heap := h } (.ref h₁.objs.size) { s with heap := h₁.push { cls := .type "tuple", data := .seq [Value.int (its.toArray.size : Nat) t1, .ref t].toArray }, toks := t2 } := by
    intro t1 t2
    refine ⟨_, _, [(h₁.objs.size, { cls := .type "tuple", data := .seq [Value.int (its.toArray.size : Nat) t1, .ref t].toArray }), (t, ot)], rfl, fun g hg0 hgm => ?_, fun p hp => ?_, ⟨(F.ns.keeps old).push _, fun b o e => Heap.get?_push_of_some _ (b0 b o e), F.above⟩, fun p hp => ?_⟩
    · have e : ((its.toArray.size : Nat) : Int) = (lot.length : Int) := by rw [List.size_toArray, hil]
      refine ⟨[] ++ ([] ++ []), .tuple (hgm _ (.head _)) rfl rfl (.cons ?_ (.cons ?_ .nil))⟩
      · rw [e]
        exact .int _ _
      · exact .tuple (hgm _ (.tail _ (.head _))) hc hd (readsAll_ints hi)
    · rcases List.mem_cons.mp hp with rfl | hp
      · rfl
      · rw [List.mem_singleton.mp hp]
        exact hc
    · rcases List.mem_append.mp hp with hp | hp
      · exact ⟨Heap.get?_push_of_some _ (old _ _ (N _ hp).1), (N _ hp).2⟩
      · rcases List.mem_cons.mp hp with rfl | hp
        · exact ⟨Heap.get?_push_size _ rfl, Nat.ne_of_gt (Nat.lt_trans hlt hsz), Heap.get?_none_of_le (Nat.le_trans F.above (Nat.le_of_lt (Nat.lt_trans hlt hsz)))⟩
        · rw [List.mem_singleton.mp hp]
          exact ⟨Heap.get?_push_of_some _ hto, (N _ ht).2⟩
  exact Calls.spliced_cons (name (Calls.spliced_nil ⟨by show 2 ≤ sizeLine; decide, fin _ _⟩))
/-! ### the rule -/
/-- the three lots of size 2 -/
def cont : Nat → List Int
  | 0 => [0]
  | 1 => [1]
  | _ => [0, 1]
theorem kd_alike (b b' : Nat) : PySem.W.alike (kd (cont b)) (kd (cont b')) = true := by
  have e := PySem.W.alike_ints (cont b) (cont b')
  unfold kd
  simp [PySem.W.alike, PySem.W.alikeAll, e]
theorem kd_sorted : [0, 1, 2].mergeSort (dataLe false fun i => kd (cont i)) = [0, 1, 2] := List.mergeSort_of_pairwise (by decide +kernel)
/-- all but the tables -/
abbrev ExtN := LamX.ExtN
theorem _root_.LamX.ExtN.sqL {K : PySem.W.Frag} {H H' : Hp} {a : Addr} {xs : List V} (e : ExtN H H') (h : SqL K H a xs) : SqL K H' a xs := by
  rcases h with (h | ⟨o, h⟩) | h
  · exact .inl (.inl (e _ _ h (fun ps z => by cases z)))
  · exact .inl (.inr ⟨o, e _ _ h (fun ps z => by cases z)⟩)
  · exact .inr h
theorem _root_.LamX.ExtN.tk {H H' : Hp} (e : ExtN H H') : TupK H H' := fun b xs h => by
  rcases h with h | ⟨o, h⟩
  · exact .inl (e _ _ h (fun ps z => by cases z))
  · exact .inr ⟨o, e _ _ h (fun ps z => by cases z)⟩
theorem _root_.L2.Same.ext {H H' : Hp} (s : Same H H') : ExtN H H' := LamX.ExtN.of s
def tSortLam (K : PySem.W.Frag) (T : List (Addr × Str)) (t : TA) : TE := fun σ H Q => t σ H fun vs H1 => ∃ a t0 t1 t2, vs = [.ref a] ∧ SqL K H1 a [.ref t0, .ref t1, .ref t2] ∧ H1 t0 = some (.tup [.int 0]) ∧ H1 t1 = some (.tup [.int 1]) ∧ H1 t2 = some (.tup [.int 0, .int 1]) ∧ LamX.Tabs T H1 ∧
  ∀ H2 p, ExtN H1 H2 → LamX.Tabs T H2 → H2 p = some (.lst [.ref t0, .ref t1, .ref t2]) → Q (.ref p) H2
/-- a tracked tuple of ints, in the heap -/
theorem tup_obj {X : Cx} {pins : List (Addr × Obj)} {σ : L2.St} {H : Hp} {s : Shared} {t : Addr} {ns : List Int} (I : Inv X pins σ H s) (e : H t = some (.tup (ns.map V.int))) :
    ∃ (ot : Obj) (its : List Value) (n : Nat), (t, ot) ∈ allNews X.base s.heap X.env.locals ∧ ot.cls = .type "tuple" ∧ ot.data = .seq its.toArray n ∧ IntsAre its ns := by
  obtain ⟨_, its, rv, ot, ho, hc, n, hd⟩ := I.hok t _ e
  refine ⟨ot, its, n, mem_allNews (fun z => ?_) ?_ ho, hc, hd, rv.ints⟩
  · rw [z, I.free] at e
    cases e
  · cases q : X.base.get? t with
    | none => rfl
    | some u =>
      rw [(I.bs t u q).2] at e
      cases e
theorem pe_sortLam {X : Cx} {k : Nat} {e : Expr} {ta : TA} {T : List (Addr × Str)} {c P : Addr} {p pos kpos lpos p0 p1 p2 p3 p4 p5 : Pos} (hr : Room k X.A) (hg : Gl X "sorted") (hm : X.mg "sorted" = none) (hl : X.mg "len" = none) (ha : PA X [e] ta)
    (TB : LamX.TabB X.base X.mg c P) (hcode : X.env.code = .ref c) (hT1 : (P, X.env.qual ++ "<lambda>") ∈ T) (hT2 : ∀ p ∈ T, p.1 = P → p.2 = X.env.qual ++ "<lambda>")
    (he : backTo pos (starEach [e] X.env) = (false, eval e X.env) :: backTo pos (starEach [] X.env) := by rfl) (hpl : (backTo pos (starEach [e] X.env)).any (·.1) = false := by rfl) :
    PE X (.Call (.Name "sorted" p) [e] [⟨some "key", .Lambda (lamA p0) (lamB p1 p2 p3 p4 p5) lamSc lpos, kpos⟩] pos) (tSortLam X.K T ta) := by
  refine ⟨fun pins s σ H Q I h => ?_⟩
  refine wpAny_Call_Name_kw (ld_blt (u := .builtin "sorted") I hg hm (by decide +kernel) ?_)
  refine PyProof.Rows.callWith_kw (thn (ha.run pos pins s σ H _ I h) fun us s1 ⟨vs, H1, I1, r1, q1⟩ => ?_) he hpl
  obtain ⟨a, t0, t1, t2, rfl, hS, e0, e1, e2, hT, q⟩ := q1
  obtain rfl := Vals.ref1 r1
  show wpAny _ _ (evalAll [do let v ← eval (.Lambda (lamA p0) (lamB p1 p2 p3 p4 p5) lamSc lpos) X.env; standAt pos; pure v]) _ _ s1
  refine wpAny_evalAll_cons (wpAny_bind (LamX.lam_make2 (T := T) (c := c) (P := P) I1 TB hcode hT1 hT2 hT rfl (fun y hy hy2 => ?_) fun f c' pm ctv H2 s2 I2 ext tabs hobj hfn hfr hco => wpAny_bind (wpAny_standAt (wpAny_pure (wpAny_evalAll_nil ?_)))))
  · rcases List.mem_cons.mp hy with z | hy
    · rw [z] at hy2
      cases hy2
    · rw [List.mem_singleton.mp hy] at hy2
      cases hy2
  · show wpAny _ _ (call (.builtin "sorted") [.ref a] [(Str.ofString "key", .ref f)]) _ _ _
    have f0 := ext _ _ e0 (fun ps z => by cases z)
    have f1 := ext _ _ e1 (fun ps z => by cases z)
    have f2 := ext _ _ e2 (fun ps z => by cases z)
    obtain ⟨its, rv, pl, _⟩ := I2.list (ext.sqL hS)
    obtain ⟨m, hn, _⟩ := id I2.loc
    obtain ⟨mb, hb1, hb2⟩ := I2.mod.blt
    have F : Fr X.base X.env.locals s2.heap m := ⟨hn, I2.bk, Nat.le_trans I2.ok.bsz I2.ok.above⟩
    have N : News X.base X.env.locals s2.heap (allNews X.base s2.heap X.env.locals) := news_all
    have hits : its = [.ref t0, .ref t1, .ref t2] := by
      cases rv with
      | cons r1 rv =>
        cases rv with
        | cons r2 rv =>
          cases rv with
          | cons r3 rv =>
            cases rv
            cases r1
            cases r2
            cases r3
            rfl
    subst hits
    obtain ⟨oc, cvs, ctk, hoc, hcd, hcv⟩ := (show ObjOk X.prog X.w H2 s2.heap c' (LamX.CodeO c' (X.env.qual ++ "<lambda>")) from I2.hok c' _ hco).1
    have hu := hr.units
    refine sorted_key_at (kz := [0, 1, 2].map fun i => kd (cont i)) F N pl.isList rfl (by show 3 ≤ sizeLine; decide) (AllAlike.of kd_alike) (Sortable.tuples fun b => ⟨_, _, rfl⟩) (fun d hd => ?_) (ksk_s1 _ _) (fun _ => ksk_l1 _ _) (fun x => ksk_t1 _ x)
      (fun i v key hv hk g tk own F' N' => ?_) (fun h' tk out cc F' N' ko => ?_)
    · have e3 : d.depth ≤ 2 := by
        obtain ⟨i, hi, rfl⟩ := List.mem_map.mp hd
        rcases List.mem_cons.mp hi with z | hi
        · rw [z]; decide
        · rcases List.mem_cons.mp hi with z | hi
          · rw [z]; decide
          · rw [List.mem_singleton.mp hi]; decide
      omega
    · have kept : ∀ b o, b ≠ X.env.locals → s2.heap.get? b = some o → g.get? b = some o := kept_all I2 F' fun z hz => N' z (List.mem_append_left _ hz)
      have hfL : f ≠ X.env.locals := fun z => by
        obtain ⟨o, _, _, ho, hd, _⟩ := hn
        rw [z, ho] at hobj
        rw [Option.some.inj hobj] at hd
        cases hd
      have hcL : c' ≠ X.env.locals := fun z => by
        rw [z, I2.free] at hco
        cases hco
      have hcr : g.CodeRec (.ref c') (X.env.qual ++ "<lambda>") := ⟨c', oc, cvs, ctk, rfl, kept _ _ hcL hoc, hcd, hcv⟩
      have turn : ∀ (t : Addr) (ns : List Int), H2 t = some (.tup (ns.map V.int)) → ns.length ≤ 4 → wpAny (model X.prog X.w) X.A.in1.in1 (call (.ref f) [.ref t]) (KeyEnd X.base X.env.locals m (allNews X.base s2.heap X.env.locals ++ own) (kd ns) { s2 with heap := g, toks := tk }) (fun _ _ => False) { s2 with heap := g, toks := tk } := by
        intro t ns ht hz
        obtain ⟨ot, is, n, hmem, hc, hd, hi⟩ := tup_obj I2 ht
        exact lam_turn (s := { s2 with heap := g, toks := tk }) I2.mod.glob hb1 hl ((hb2 _ (by decide)).trans (by decide +kernel)) I2.mod.nolimit hr.depth F' N' (kept _ _ hfL hobj) hcr (List.mem_append_left _ hmem) hc hd hi hz
      match i, hv, hk with
      | 0, hv, hk =>
        rw [← Option.some.inj hv, ← Option.some.inj hk]
        exact turn t0 [0] f0 (by decide)
      | 1, hv, hk =>
        rw [← Option.some.inj hv, ← Option.some.inj hk]
        exact turn t1 [1] f1 (by decide)
      | 2, hv, hk =>
        rw [← Option.some.inj hv, ← Option.some.inj hk]
        exact turn t2 [0, 1] f2 (by decide)
      | i + 3, hv, hk => cases hv
    · have hR : PySem.W.EachIs (fun (v : Value) (i : Nat) => v = .ref (match i with | 0 => t0 | 1 => t1 | _ => t2)) [Value.ref t0, .ref t1, .ref t2] [0, 1, 2] := .cons rfl (.cons rfl (.cons rfl .nil))
      have eo := PySem.W.keyedOut_each (fun i => kd (cont i)) ko hR
      rw [kd_sorted] at eo
      have e4 : out = [.ref t0, .ref t1, .ref t2] := by
        cases eo with
        | cons z1 eo =>
          cases eo with
          | cons z2 eo =>
            cases eo with
            | cons z3 eo =>
              cases eo
              subst z1 z2 z3
              rfl
      subst e4
      have hD := (N' _ (.head _)).1
      have nD : H2 (s2.heap.objs.size + 1) = none := I2.hok.fresh (Nat.le_succ _)
      have J := inv_new (t' := tk) (D := s2.heap.objs.size + 1) (u := .lst [.ref t0, .ref t1, .ref t2]) I2 hn F'.ns (kept_all I2 F' fun z hz => N' z (.tail _ hz)) (Nat.le_succ _) ⟨by show 3 ≤ sizeLine; decide, _, cc, .cons rfl (.cons rfl (.cons rfl .nil)), hD⟩
      exact ⟨.ref _, _, J, rfl, q _ _ (ext.trans (same_upd nD).ext) (tabs.ext (same_upd nD)) upd_same⟩
end K43
set_option Elab.async false
set_option linter.all false
set_option maxRecDepth 100000
set_option maxHeartbeats 8000000
namespace K43
open PySem PySem.Spec PyProof.Rows L2
section
variable {P : Program} {w : World} {K : PySem.W.Frag} {mg : Str → Option Value} {base : Heap}
/-- a def whose own code object is told -/
theorem cal_ofC {d : He.DefD} {N ps : List Str} {k : Nat} {sp : Sp} (T : Tx K mg) (hd : d ∈ fn) (hg : He.Fa.glo d.name ∈ fa) (hat : d.at_ = (d.name, none)) (h1 : d.dfl = []) (h2 : d.kwd = [])
    (hb : ∀ (kV doc pm : Value) (an : Option Addr) (cdv ct : Value) (us : List Value), us.length = ps.length → bindArgs (PySem.W.fnOf d.name d.qual d.params d.body d.scope .none kV doc pm an cdv ct) ⟨us, []⟩ = pure (ps.zip us))
    (S : FnScope N ps d.scope) (len : ∀ vs H Q E, sp vs H Q E → vs.length = ps.length)
    (hbody : ∀ (f : Addr) (A : Around) (outer : List Env) (s : Shared) (H : Hp) (vs : List V) (Q : VK) (E : XK), Room k (A.deeper (envOfC d.qual d.scope s.heap.objs.size f (.ref (He.codeOf K d.at_)))) → sp vs H Q E →
      ∃ t, PSs (cxOf CX0 P w K mg base N d.qual d.scope f (.ref (He.codeOf K d.at_)) A outer s H E).nox d.body t ∧ t { nx := fun _ H' => Q .non H', rt := Q } (start N vs) H) : Cal P w K mg base (k + 1) d.name ps sp := by
  obtain ⟨fd, F⟩ := T.fn d hd
  have e1 : d.dvs K = [] := by unfold He.DefD.dvs; rw [h1]; rfl
  have e2 : d.kws K = [] := by unfold He.DefD.kws; rw [h2]; rfl
  rw [e1] at F
  have kb : Binds K fd ps [] := F.bindsN hb
  have ef : He.fAd K d.at_ = He.ga K d.name := by rw [hat]; rfl
  obtain ⟨⟨oc, od, dV, kV, doc, pm, an, cdv, ct, osl, rfl, lk, hcd, hD, hK⟩, kp⟩ := F
  obtain ⟨c, rfl⟩ := He.codeIn_ref hcd
  have ec : He.codeOf K d.at_ = c := He.codeOf_eq lk rfl
  refine ⟨He.fAd K d.at_, _, fn_of lk hcd S len (fun A outer s H vs Q E hr h => ?_), by rw [ef]; exact T.glo _ hg, kp, kb⟩
  have hbody2 := hbody (He.fAd K d.at_) A outer s H vs Q E
  rw [ec] at hbody2
  obtain ⟨t, p, q⟩ := hbody2 hr h
  exact ⟨t, p.nox, q⟩
/-! ### the tables -/
abbrev lotsAt : He.Defn := ("lots", none)
def lamT (K : PySem.W.Frag) : List (Addr × Str) := [((He.cT K lotsAt).2, ("lots" ++ ".<locals>.") ++ "<lambda>")]
abbrev Tb (K : PySem.W.Frag) (H : Hp) : Prop := LamX.Tabs (lamT K) H
abbrev TBs (K : PySem.W.Frag) (mg : Str → Option Value) (base : Heap) : Prop := LamX.TabB base mg (He.cT K lotsAt).1 (He.cT K lotsAt).2
/-! ### lots -/
def Ls : Nat → List (List Int)
  | 0 => [[]]
  | i + 1 => Ls i ++ (Ls i).map (· ++ [(i : Int)])
def LotA (H : Hp) (v : V) (c : List Int) : Prop := ∃ a, v = .ref a ∧ H a = some (.tup (c.map V.int))
theorem LotA.sb {H H' : Hp} {v : V} {c : List Int} {D : Addr} {ys : List V} (h : LotA H v c) (s : SB D H H') (hD : H D = some (.lst ys)) : LotA H' v c := by
  obtain ⟨a, e, h⟩ := h
  exact ⟨a, e, s _ _ (ne_of h hD (fun z => by cases z)) h⟩
theorem LotA.same {H H' : Hp} {v : V} {c : List Int} (h : LotA H v c) (s : Same H H') : LotA H' v c := by
  obtain ⟨a, e, h⟩ := h
  exact ⟨a, e, s _ _ h⟩
theorem paired_of {α β : Type} {G : α → β → Prop} : ∀ {l : List α} {m : List β}, l.length = m.length → (∀ (j : Nat) (x : α) (y : β), l[j]? = some x → m[j]? = some y → G x y) → Paired G l m
  | [], [], _, _ => .nil
  | [], _ :: _, h, _ => by simp at h
  | _ :: _, [], h, _ => by simp at h
  | a :: l, b :: m, h, f => .cons (f 0 a b rfl rfl) (paired_of (by simpa using h) fun j x y e1 e2 => f (j + 1) x y (by simpa using e1) (by simpa using e2))
theorem Paired.app {α β : Type} {G : α → β → Prop} {l : List α} {m : List β} {l' : List α} {m' : List β} (h : Paired G l m) (h' : Paired G l' m') : Paired G (l ++ l') (m ++ m') := by
  induction h with
  | nil => exact h'
  | cons r t ih => exact .cons r ih
theorem sc_lots : FnScope ["size", "found", "letter", "lot"] ["size"] (defScope s_lots) := ⟨rfl, rfl, rfl, by decide +kernel, rfl, by decide +kernel, by decide +kernel⟩
def spLots (K : PySem.W.Frag) : Sp := fun vs H Q _ => vs = [.int 2] ∧ Tb K H ∧ ∀ H' p t0 t1 t2, ExtN H H' → Tb K H' → H' p = some (.lst [.ref t0, .ref t1, .ref t2]) → H' t0 = some (.tup [.int 0]) → H' t1 = some (.tup [.int 1]) → H' t2 = some (.tup [.int 0, .int 1]) → Q (.ref p) H'
theorem ls_len : ∀ i, i ≤ 2 → (Ls i).length ≤ 4 := by decide
theorem c_lots (T : Tx K mg) (B : TBs K mg base) : Cal P w K mg base 1 "lots" ["size"] (spLots K) := by
  refine cal_ofC (d := d_lots) T in_lots fa_lots rfl rfl rfl (fun _ _ _ _ _ _ us hl => match us, hl with | [_], _ => rfl) sc_lots (fun vs H Q E h => ?_) (fun f A outer s H vs Q E hr h => ?_)
  · obtain ⟨rfl, _⟩ := h
    rfl
  · obtain ⟨rfl, hT, q⟩ := h
    refine ⟨_, pss_cons (ps_set (i := 1) sc_lots.nd rfl (.inl rfl) (pe_lst (pa_cons (pe_tup pa_nil) pa_nil)))
      (pss_cons (ps_for PassesOwn.never rfl (pi_range1 (by rfl) (T.free _ fa_range) (pa_cons (pv 0) pa_nil)) (pg_name (i := 2) sc_lots.nd rfl (.inr rfl))
        (pss_one (ps_expr (pe_bm PySem.F.plainAttrs_list PySem.F.slot_list_extend PySem.F.type_list_extend mt_extend (pv 1) (pa_cons (pe_lc (own := [("lot", 3)]) (g := gName 3) (tt := tYes) (te := tOp (rCatA K) (tVar 3) (tTup (tCons (tVar 2) tNil))) rfl sc_lots.nd (pi_list (pe_callTy call_list_of (by rfl) (T.free _ fa_list) (by decide +kernel) (pa_cons (pv 1) pa_nil)))
          (blkOk_by (N := ["size", "found", "letter", "lot"]) (sc := defScope s_lots) (by decide +kernel)) (fun _ _ _ _ _ => pg_name (i := 3) sc_lots.nd rfl (Or.inl rfl)) (fun _ _ _ _ _ => pts_nil) (fun _ _ _ _ _ => pe_op op_catA (pv 3) (pe_tup (pa_cons (pv 2) pa_nil)))) pa_nil)))))
      (pss_one (ps_ret (pe_sortLam (T := lamT K) hr rfl (T.free _ fa_sorted) (T.free _ fa_len) (pa_cons (pe_slice sl_list (pv 1) (po_some pe_int) po_none) pa_nil) B rfl (List.mem_singleton.mpr rfl) (fun p hp _ => by rw [List.mem_singleton.mp hp]; rfl))))), ?_⟩
    refine ⟨Nat.zero_le _, fun t nt => ⟨by show 1 ≤ sizeLine; decide, fun l nl => ?_⟩⟩
    have s1 : Same H (upd H t (.tup [])) := same_upd nt
    have s2 : Same (upd H t (.tup [])) (upd (upd H t (.tup [])) l (.lst [.ref t])) := same_upd nl
    have nl0 : H l = none := s1.free nl
    refine ⟨_, rfl, 2, rfl, by decide, by decide, for_range (lo := 0) (n := 2) (fun i σ H2 => ∃ vs y2, σ = [some (.int 2), some (.ref l), y2, none] ∧ Same H H2 ∧ H2 l = some (.lst vs) ∧ Paired (LotA H2) vs (Ls i)) ⟨[.ref t], none, rfl, s1.trans s2, upd_same, .cons ⟨t, rfl, s2 _ _ upd_same⟩ .nil⟩ ?_ ?_⟩
    · rintro i σ H2 hi ⟨vs, y2, rfl, sm, hl, pl⟩
      have hvl : vs.length ≤ 4 := by
        rw [Paired.length pl]
        exact ls_len i (by omega)
      refine ⟨.ref l, rfl, .inl ⟨rfl, _, SqL.of hl⟩, ?_⟩
      -- list(found)
      refine ⟨_, rfl, l, vs, rfl, .inl (SqL.of hl), fun c nc => ⟨c, rfl, ⟨_, SqL.of upd_same⟩, ?_⟩⟩
      have s3 : Same H2 (upd H2 c (.lst vs)) := same_upd nc
      intro D nD
      refine lcL (fun j y H5 => ∃ lot, (Ls i)[j]? = some lot ∧ LotA H5 y (lot ++ [(i : Int)])) nD (SqL.of upd_same) (by show vs.length ≤ sizeLine; exact Nat.le_of_lt (small1000 (by omega))) (fun j y H5 H6 ys e sb ⟨lot, h1, h2⟩ => ⟨lot, h1, h2.sb sb e⟩) (fun j x H5 Qn hx sx k => ?_) (fun H5 acc sx e5 el hR => ?_)
      · -- lot + (letter,)
        obtain ⟨lot, hlot, a, rfl, ha⟩ := paired_get pl hx
        have ha5 := sx _ _ (s3 _ _ ha)
        refine ⟨rfl, _, rfl, _, rfl, by show 1 ≤ sizeLine; decide, fun p np => ?_⟩
        have s6 : Same H5 (upd H5 p (.tup [.int (0 + (i : Int))])) := same_upd np
        refine ⟨a, p, lot.map V.int, [.int (0 + (i : Int))], rfl, rfl, SqT.of (s6 _ _ ha5), SqT.of upd_same, ?_, fun z => ?_, fun _ z => (List.cons_ne_nil _ _ z).elim, fun z _ p2 np2 => ?_⟩
        · rw [List.length_map]
          have h4 : lot.length ≤ 2 := by
            have hm := List.mem_of_getElem? hlot
            have : ∀ i, i < 2 → ∀ c ∈ Ls i, c.length ≤ 2 := by decide
            exact this i hi lot hm
          show lot.length + 1 ≤ sizeLine
          exact Nat.le_of_lt (small1000 (by omega))
        · refine k _ _ s6 ⟨lot, hlot, p, rfl, ?_⟩
          have e0 : lot = [] := List.map_eq_nil_iff.mp z
          subst e0
          rw [upd_same, Int.zero_add]
          rfl
        · refine k _ _ (s6.trans (same_upd np2)) ⟨lot, hlot, p2, rfl, ?_⟩
          rw [upd_same, List.map_append, Int.zero_add]
          rfl
      · -- extend
        have hl5 : H5 l = some (.lst vs) := sx _ _ (s3 _ _ hl)
        refine ⟨l, D, vs, acc, rfl, rfl, hl5, e5, ?_, ?_⟩
        · rw [el]
          exact Nat.le_of_lt (small1000 (by omega))
        · have s7 : Same H H5 := sm.trans (s3.trans sx)
          refine ⟨vs ++ acc, _, rfl, ((s7.sb l).trans (sb_upd l H5 _)).same nl0, upd_same, ?_⟩
          refine Paired.app (Paired.mapP pl fun v c h => (h.same (s3.trans sx)).sb (sb_upd l H5 _) hl5) (paired_of ?_ fun j x y e1 e2 => ?_)
          · rw [el, List.length_map]
            exact Paired.length pl
          · obtain ⟨lot, h1, h2⟩ := hR j x e1
            rw [List.getElem?_map, h1] at e2
            have e3 : lot ++ [(i : Int)] = y := Option.some.inj e2
            rw [← e3]
            exact h2.sb (sb_upd l H5 _) hl5
    · rintro σ H2 ⟨vs, y2, rfl, sm, hl, pl⟩
      cases pl with
      | cons r0 pl =>
        cases pl with
        | cons r1 pl =>
          cases pl with
          | cons r2 pl =>
            cases pl with
            | cons r3 pl =>
              cases pl
              obtain ⟨a0, rfl, _⟩ := r0
              obtain ⟨a1, rfl, e1⟩ := r1
              obtain ⟨a2, rfl, e2⟩ := r2
              obtain ⟨a3, rfl, e3⟩ := r3
              refine ⟨_, rfl, 1, rfl, l, _, rfl, SqL.of hl, fun c nc => ?_⟩
              have s3 : Same H2 (upd H2 c (.lst (cutV [.ref a0, .ref a1, .ref a2, .ref a3] (some 1) none))) := same_upd nc
              refine ⟨c, a1, a2, a3, rfl, SqL.of upd_same, s3 _ _ e1, s3 _ _ e2, s3 _ _ e3, hT.ext (sm.trans s3), fun H3 p ext tb hp => ?_⟩
              exact q H3 p a1 a2 a3 ((sm.trans s3).ext.trans ext) tb hp (ext _ _ (s3 _ _ e1) (fun ps z => by cases z)) (ext _ _ (s3 _ _ e2) (fun ps z => by cases z)) (ext _ _ (s3 _ _ e3) (fun ps z => by cases z))
end
end K43
set_option Elab.async false
set_option linter.all false
set_option maxRecDepth 100000
set_option maxHeartbeats 8000000
namespace K43
open PySem PySem.Spec PyProof.Rows L2
theorem FrA.tk {K : PySem.W.Frag} {H H' : Hp} {v : V} {q : Rat} (h : FrA K H v q) (t : TupK H H') : FrA K H' v q := by
  obtain ⟨a, e, h⟩ := h
  exact ⟨a, e, t.sqT h⟩
theorem FrA.of {K : PySem.W.Frag} {H : Hp} {p : Addr} {q : Rat} (h : H p = some (.tup (rep q))) : FrA K H (.ref p) q := ⟨p, rfl, SqT.of h⟩
theorem Sm.bd {n : Nat} {q : Rat} (h : Sm n q) (l : n ≤ 1048576) : Bd q := ⟨h.den.1, Nat.le_trans h.den.2 l⟩
theorem rep_half : rep (1 / 2 : Rat) = [.int 1, .int 2] := by decide +kernel
theorem rep_one : rep (1 : Rat) = [.int 1, .int 1] := by decide +kernel
theorem rep_zero : rep (0 : Rat) = [.int 0, .int 1] := by decide +kernel
/-- the list of these fractions -/
def FrL (K : PySem.W.Frag) (H : Hp) (vs : List V) (qs : List Rat) : Prop := Paired (FrA K H) vs qs
section
variable {P : Program} {w : World} {K : PySem.W.Frag} {mg : Str → Option Value} {base : Heap}
theorem Tx.nFr (T : Tx K mg) (H : Hp) : FrA K H (.ref (He.ga K "NOUGHT")) 0 := ⟨_, rfl, by rw [rep_zero]; exact T.nought H⟩
theorem Tx.oFr (T : Tx K mg) (H : Hp) : FrA K H (.ref (He.ga K "ONE")) 1 := ⟨_, rfl, by rw [rep_one]; exact T.one H⟩
/-! ### total, mean -/
theorem sc_total : FnScope ["parts", "found", "part"] ["parts"] (defScope s_total) := ⟨rfl, rfl, rfl, by decide +kernel, rfl, by decide +kernel, by decide +kernel⟩
def sumQ (qs : List Rat) : Rat := qs.foldl (· + ·) 0
def spTotal (K : PySem.W.Frag) : Sp := fun vs H Q _ => ∃ (a : Addr) (us : List V) (qs : List Rat), vs = [.ref a] ∧ SqL K H a us ∧ Paired (FrA K H) us qs ∧ qs.length ≤ 2 ∧ (∀ q ∈ qs, Sm 100000 q) ∧ ∀ H' v, Same H H' → FrA K H' v (sumQ qs) → Q v H'
theorem sum_sm : ∀ (qs : List Rat) (i : Nat), (∀ q ∈ qs, Sm 100000 q) → Sm (100000 * qs.length) (sumQ qs) := by
  intro qs i h
  have gen : ∀ (qs : List Rat) (a : Rat) (n : Nat), Sm n a → (∀ q ∈ qs, Sm 100000 q) → Sm (n + 100000 * qs.length) (qs.foldl (· + ·) a) := by
    intro qs
    induction qs with
    | nil => intro a n ha _; exact ha.mono (by omega)
    | cons q r ih =>
      intro a n ha h
      have e := ih (a + q) (n + 100000) (ha.add (h q (.head _))) fun z hz => h z (.tail _ hz)
      exact e.mono (by rw [List.length_cons]; omega)
  exact (gen qs 0 0 Sm.zero h).mono (by omega)
theorem c_total (T : Tx K mg) : Cal P w K mg base 3 "total" ["parts"] (spTotal K) := by
  refine cal_of (d := d_total) T in_total fa_total rfl rfl rfl (fun _ _ _ _ _ _ us hl => match us, hl with | [_], _ => rfl) sc_total (fun vs H Q E h => ?_) (fun f cdv A outer s H vs Q E hr h => ?_)
  · obtain ⟨_, _, _, rfl, _⟩ := h
    rfl
  · obtain ⟨a, us, qs, rfl, hS, hP, hl, hsm, q⟩ := h
    refine ⟨_, pss_cons (ps_set (i := 1) sc_total.nd rfl (.inl rfl) (pe_glob (v := .ref (He.ga K "NOUGHT")) rfl T.gN rfl))
      (pss_cons (ps_for PassesOwn.never rfl (pi_list (pv 0)) (pg_name (i := 2) sc_total.nd rfl (.inl rfl)) (pss_one (ps_set (i := 1) sc_total.nd rfl (.inl rfl) (pe_cal (c_plus T) hr (pa_cons (pv 1) (pa_cons (pv 2) pa_nil))))))
      (pss_one (ps_ret (pv 1)))), ?_⟩
    refine ⟨_, rfl, a, rfl, ⟨_, hS⟩, for_list (K := K) (a := a) (xs := us) (fun i σ H2 => ∃ v y, σ = [some (.ref a), some v, y] ∧ Same H H2 ∧ FrA K H2 v (sumQ (qs.take i))) ⟨_, none, rfl, Same.refl _, T.nFr _⟩ (fun i σ H2 _ ⟨_, _, _, sm, _⟩ => sm.seq hS) ?_ ?_⟩
    · rintro i x σ H2 hx ⟨v, y, rfl, sm, hv⟩
      obtain ⟨z, hz, hf⟩ := paired_get hP hx
      have et : sumQ (qs.take (i + 1)) = sumQ (qs.take i) + z := by
        rw [List.take_add_one, hz]
        show ((qs.take i) ++ [z]).foldl (· + ·) 0 = _
        rw [List.foldl_append]
        rfl
      have h1 : Bd (sumQ (qs.take i)) := by
        refine (sum_sm (qs.take i) 0 fun q hq => hsm q (List.mem_of_mem_take hq)).bd ?_
        rw [List.length_take]
        have : min i qs.length ≤ 2 := Nat.le_trans (Nat.min_le_right _ _) hl
        omega
      refine ⟨_, rfl, _, rfl, v, x, _, z, rfl, hv, hf.same sm, h1, (hsm z (List.mem_of_getElem? hz)).bd (by decide), fun H3 p s3 hp => ?_⟩
      exact ⟨_, _, rfl, sm.trans s3, by rw [et]; exact FrA.of hp⟩
    · rintro σ H2 ⟨v, y, rfl, sm, hv⟩
      rw [Paired.length hP, List.take_length] at hv
      exact ⟨_, rfl, q H2 v sm hv⟩
theorem sc_mean : FnScope ["parts"] ["parts"] (defScope s_mean) := ⟨rfl, rfl, rfl, by decide +kernel, rfl, by decide +kernel, by decide +kernel⟩
/-- one over how many -/
def oneOver : Nat → Rat
  | 2 => 1 / 2
  | _ => 1
theorem rep_oneOver {n : Nat} (h1 : 1 ≤ n) (h2 : n ≤ 2) : rep (oneOver n) = [.int 1, .int (n : Int)] := by
  have h : n = 1 ∨ n = 2 := by omega
  rcases h with rfl | rfl
  · exact rep_one
  · exact rep_half
theorem bd_oneOver {n : Nat} (h1 : 1 ≤ n) (h2 : n ≤ 2) : Bd (oneOver n) := by
  have h : n = 1 ∨ n = 2 := by omega
  rcases h with rfl | rfl
  · exact ⟨by decide +kernel, by decide +kernel⟩
  · exact ⟨by decide +kernel, by decide +kernel⟩
def spMean (K : PySem.W.Frag) : Sp := fun vs H Q _ => ∃ (a : Addr) (us : List V) (qs : List Rat), vs = [.ref a] ∧ SqL K H a us ∧ Paired (FrA K H) us qs ∧ 1 ≤ qs.length ∧ qs.length ≤ 2 ∧ (∀ q ∈ qs, Sm 100000 q) ∧ ∀ H' v, Same H H' → FrA K H' v (sumQ qs * oneOver qs.length) → Q v H'
theorem c_mean (T : Tx K mg) : Cal P w K mg base 4 "mean" ["parts"] (spMean K) := by
  refine cal_of (d := d_mean) T in_mean fa_mean rfl rfl rfl (fun _ _ _ _ _ _ us hl => match us, hl with | [_], _ => rfl) sc_mean (fun vs H Q E h => ?_) (fun f cdv A outer s H vs Q E hr h => ?_)
  · obtain ⟨_, _, _, rfl, _⟩ := h
    rfl
  · obtain ⟨a, us, qs, rfl, hS, hP, h1, hl, hsm, q⟩ := h
    refine ⟨_, pss_one (ps_ret (pe_cal (c_times T) (hr.mono (by decide)) (pa_cons (pe_cal (c_total T) hr (pa_cons (pv 0) pa_nil)) (pa_cons (pe_tup (pa_cons pe_int (pa_cons (pe_callB call_len_seq (by rfl) (T.free _ fa_len) PySem.boot_len (pa_cons (pv 0) pa_nil)) pa_nil))) pa_nil)))), ?_⟩
    refine ⟨_, rfl, a, us, qs, rfl, hS, hP, hl, hsm, fun H2 v s2 hv => ?_⟩
    refine ⟨_, rfl, a, us, rfl, .inl (s2.seq hS), by show 2 ≤ sizeLine; decide, fun p np => ?_⟩
    have s3 := same_upd (o := .tup [.int 1, .int (us.length : Int)]) np
    refine ⟨v, .ref p, sumQ qs, oneOver qs.length, rfl, hv.same s3, FrA.of ?_, ?_, bd_oneOver h1 hl, fun H4 p4 s4 hp4 => q H4 _ (s2.trans (s3.trans s4)) (FrA.of hp4)⟩
    · rw [upd_same, rep_oneOver h1 hl, Paired.length hP]
    · refine (sum_sm qs 0 hsm).bd ?_
      omega
end
end K43
set_option Elab.async false
set_option linter.all false
set_option maxRecDepth 100000
set_option maxHeartbeats 8000000
namespace K43
open PySem PySem.Spec PyProof.Rows L2
def WoA (K : PySem.W.Frag) (H : Hp) (v : V) (w0 w1 : Rat) : Prop := ∃ a v0 v1, v = .ref a ∧ SqT K H a [v0, v1] ∧ FrA K H v0 w0 ∧ FrA K H v1 w1
theorem WoA.tk {K : PySem.W.Frag} {H H' : Hp} {v : V} {w0 w1 : Rat} (h : WoA K H v w0 w1) (t : TupK H H') : WoA K H' v w0 w1 := by
  obtain ⟨a, v0, v1, e, h1, h2, h3⟩ := h
  exact ⟨a, v0, v1, e, t.sqT h1, h2.tk t, h3.tk t⟩
/-! ### a lot's worth -/
def sel (w0 w1 : Rat) (x : Int) : Rat := if x = 0 then w0 else w1
def lotQ (w0 w1 : Rat) (j : Nat) : List Rat := (cont j).map (sel w0 w1)
/-- the mean of the lot, and 1 - 1 / size -/
def ewM (w0 w1 : Rat) (j : Nat) : Rat := sumQ (lotQ w0 w1 j) * oneOver (lotQ w0 w1 j).length
def ewv (w0 w1 : Rat) (j : Nat) : Rat := ewM w0 w1 j + mkRat ((cont j).length - 1 : Nat) (cont j).length
theorem cont_len (j : Nat) : 1 ≤ (cont j).length ∧ (cont j).length ≤ 2 := by
  match j with
  | 0 => decide
  | 1 => decide
  | j + 2 => exact ⟨by show 1 ≤ 2; decide, by show 2 ≤ 2; decide⟩
theorem cont_mem (j : Nat) : ∀ x ∈ cont j, x = 0 ∨ x = 1 := by
  match j with
  | 0 => decide
  | 1 => decide
  | j + 2 =>
    show ∀ x ∈ ([0, 1] : List Int), x = 0 ∨ x = 1
    decide
theorem ewM_0 (w0 w1 : Rat) : ewM w0 w1 0 = w0 := by
  show (0 + w0) * 1 = w0
  grind
theorem ewM_1 (w0 w1 : Rat) : ewM w0 w1 1 = w1 := by
  show (0 + w1) * 1 = w1
  grind
theorem ewM_2 (w0 w1 : Rat) (j : Nat) : ewM w0 w1 (j + 2) = (w0 + w1) * (1 / 2) := by
  show (0 + w0 + w1) * (1 / 2) = _
  grind
theorem mk01 : mkRat 0 1 = 0 := by decide +kernel
theorem mk12 : mkRat 1 2 = 1 / 2 := by decide +kernel
theorem ewv_0 (w0 w1 : Rat) : ewv w0 w1 0 = w0 := by
  unfold ewv
  rw [ewM_0]
  show w0 + mkRat 0 1 = w0
  rw [mk01]
  grind
theorem ewv_1 (w0 w1 : Rat) : ewv w0 w1 1 = w1 := by
  unfold ewv
  rw [ewM_1]
  show w1 + mkRat 0 1 = w1
  rw [mk01]
  grind
theorem ewv_2 (w0 w1 : Rat) (j : Nat) : ewv w0 w1 (j + 2) = (w0 + w1 + 1) / 2 := by
  unfold ewv
  rw [ewM_2]
  show (w0 + w1) * (1 / 2) + mkRat 1 2 = _
  rw [mk12]
  grind
theorem ewM_sm {w0 w1 : Rat} (h0 : Sh 50000 w0) (h1 : Sh 50000 w1) (j : Nat) : Sm 100000 (ewM w0 w1 j) := by
  match j with
  | 0 => rw [ewM_0]; exact h0.sm
  | 1 => rw [ewM_1]; exact h1.sm
  | j + 2 => rw [ewM_2]; exact h0.half h1
theorem half_sm : Sm 4096 (1 / 2 : Rat) := ⟨2048, by grind, by decide⟩
theorem one_sm : Sm 4096 (1 : Rat) := ⟨4096, by grind, by decide⟩
theorem mk_bd (j : Nat) : Bd (mkRat ((cont j).length - 1 : Nat) (cont j).length) := by
  match j with
  | 0 => exact ⟨by decide +kernel, by decide +kernel⟩
  | 1 => exact ⟨by decide +kernel, by decide +kernel⟩
  | j + 2 =>
    show Bd (mkRat 1 2)
    exact ⟨by decide +kernel, by decide +kernel⟩
theorem ewv_sm {w0 w1 : Rat} (h0 : Sh 50000 w0) (h1 : Sh 50000 w1) (j : Nat) : Sm 110000 (ewv w0 w1 j) := by
  match j with
  | 0 => rw [ewv_0]; exact h0.sm.mono (by decide)
  | 1 => rw [ewv_1]; exact h1.sm.mono (by decide)
  | j + 2 =>
    rw [ewv_2]
    have e : (w0 + w1 + 1) / 2 = (w0 + w1) * (1 / 2) + 1 / 2 := by grind
    rw [e]
    exact ((h0.half h1).add half_sm).mono (by decide)
theorem lotQ_sm {w0 w1 : Rat} (h0 : Sh 50000 w0) (h1 : Sh 50000 w1) (j : Nat) : ∀ q ∈ lotQ w0 w1 j, Sm 100000 q := by
  intro q hq
  obtain ⟨x, _, rfl⟩ := List.mem_map.mp hq
  unfold sel
  split
  · exact h0.sm
  · exact h1.sm
/-! ### the first best lot -/
def bst (w0 w1 : Rat) : Nat → Nat × Rat
  | 0 => (0, 0)
  | i + 1 => if i = 0 then (0, ewv w0 w1 0) else if (bst w0 w1 i).2 < ewv w0 w1 i then (i, ewv w0 w1 i) else bst w0 w1 i
theorem bst_val (w0 w1 : Rat) : ∀ i, 1 ≤ i → (bst w0 w1 i).1 < i ∧ (bst w0 w1 i).2 = ewv w0 w1 (bst w0 w1 i).1
  | 0, h => by omega
  | i + 1, _ => by
    unfold bst
    by_cases hi : i = 0
    · rw [if_pos hi]
      exact ⟨by show 0 < i + 1; omega, rfl⟩
    · rw [if_neg hi]
      have ih := bst_val w0 w1 i (by omega)
      split
      · exact ⟨by show i < i + 1; omega, rfl⟩
      · exact ⟨by omega, ih.2⟩
theorem bst_lev (w0 w1 : Rat) : (bst w0 w1 3).2 = lev w0 w1 := by
  have e1 : bst w0 w1 1 = (0, w0) := by
    show (if (0 : Nat) = 0 then (0, ewv w0 w1 0) else _) = _
    rw [if_pos rfl, ewv_0]
  have e2 : bst w0 w1 2 = if w0 < w1 then (1, w1) else (0, w0) := by
    show (if (1 : Nat) = 0 then _ else if (bst w0 w1 1).2 < ewv w0 w1 1 then (1, ewv w0 w1 1) else bst w0 w1 1) = _
    rw [if_neg (by decide), e1, ewv_1]
  have e3 : bst w0 w1 3 = if (bst w0 w1 2).2 < (w0 + w1 + 1) / 2 then (2, (w0 + w1 + 1) / 2) else bst w0 w1 2 := by
    show (if (2 : Nat) = 0 then _ else if (bst w0 w1 2).2 < ewv w0 w1 2 then (2, ewv w0 w1 2) else bst w0 w1 2) = _
    rw [if_neg (by decide), ewv_2 w0 w1 0]
  rw [e3, e2]
  unfold lev
  by_cases h : w0 < w1
  · rw [if_pos h, if_pos h]
    dsimp only
    split <;> rfl
  · rw [if_neg h, if_neg h]
    dsimp only
    split <;> rfl
theorem lev_sm {w0 w1 : Rat} (h0 : Sh 50000 w0) (h1 : Sh 50000 w1) : Sm 110000 (lev w0 w1) := by
  rw [← bst_lev, (bst_val w0 w1 3 (by decide)).2]
  exact ewv_sm h0 h1 _
section
variable {P : Program} {w : World} {K : PySem.W.Frag} {mg : Str → Option Value} {base : Heap}
theorem sc_even_worth : FnScope ["worths", "lot", "letter"] ["worths", "lot"] (defScope s_even_worth) := ⟨rfl, rfl, rfl, by decide +kernel, rfl, by decide +kernel, by decide +kernel⟩
def spEven (K : PySem.W.Frag) : Sp := fun vs H Q _ => ∃ (v : V) (t : Addr) (w0 w1 : Rat) (j : Nat), vs = [v, .ref t] ∧ WoA K H v w0 w1 ∧ SqT K H t ((cont j).map V.int) ∧ Sh 50000 w0 ∧ Sh 50000 w1 ∧ ∀ H' v', Same H H' → FrA K H' v' (ewv w0 w1 j) → Q v' H'
theorem c_even_worth (T : Tx K mg) : Cal P w K mg base 5 "even_worth" ["worths", "lot"] (spEven K) := by
  refine cal_of (d := d_even_worth) T in_even_worth fa_even_worth rfl rfl rfl (fun _ _ _ _ _ _ us hl => match us, hl with | [_, _], _ => rfl) sc_even_worth (fun vs H Q E h => ?_) (fun f cdv A outer s H vs Q E hr h => ?_)
  · obtain ⟨_, _, _, _, _, rfl, _⟩ := h
    rfl
  · obtain ⟨_, t, w0, w1, j, rfl, ⟨a, v0, v1, rfl, hW, f0, f1⟩, hL, h0, h1, q⟩ := h
    refine ⟨_, pss_one (ps_ret (pe_cal (c_plus T) (hr.mono (by decide)) (pa_cons (pe_cal (c_mean T) hr (pa_cons (pe_lc (own := [("letter", 2)]) (g := gName 2) (tt := tYes) (te := tOp (rIxT K) (tVar 0) (tVar 2)) rfl sc_even_worth.nd (pi_tup (pv 1)) (blkOk_by (N := ["worths", "lot", "letter"]) (sc := defScope s_even_worth) (by decide +kernel))
        (fun _ _ _ _ _ => pg_name (i := 2) sc_even_worth.nd rfl (Or.inl rfl)) (fun _ _ _ _ _ => pts_nil) (fun _ _ _ _ _ => pe_ix ix_tup (pv 0) (pv 2) (fun _ _ => rfl))) pa_nil))
      (pa_cons (pe_cal (c_fraction T) (hr.mono (by decide)) (pa_cons (pe_op op_sub (pe_callB call_len_seq (by rfl) (T.free _ fa_len) PySem.boot_len (pa_cons (pv 1) pa_nil)) pe_int) (pa_cons (pe_callB call_len_seq (by rfl) (T.free _ fa_len) PySem.boot_len (pa_cons (pv 1) pa_nil)) pa_nil))) pa_nil)))), ?_⟩
    have cl := cont_len j
    refine ⟨_, rfl, t, rfl, ⟨_, hL⟩, ?_⟩
    intro D nD
    refine lcT (fun i y H2 => ∃ x, (cont j)[i]? = some x ∧ FrA K H2 y (sel w0 w1 x)) nD hL (by rw [List.length_map]; exact Nat.le_of_lt (small1000 (by omega))) (fun i y H2 H3 ys e sb ⟨x, h1, h2⟩ => ⟨x, h1, h2.tk (sb.tk (NT.lst e))⟩) (fun i x H2 Qn hx sx k => ?_) (fun H2 acc sx e5 el hR => ?_)
    · rw [List.getElem?_map] at hx
      cases e : (cont j)[i]? with
      | none =>
        rw [e] at hx
        cases hx
      | some z =>
        rw [e] at hx
        have ez : V.int z = x := Option.some.inj hx
        subst ez
        rcases cont_mem j z (List.mem_of_getElem? e) with rfl | rfl
        · exact ⟨rfl, _, rfl, _, rfl, a, _, _, _, rfl, rfl, sx.sqT hW, atI_nat (j := 0) rfl, k _ _ (Same.refl _) ⟨0, e, f0.same sx⟩⟩
        · exact ⟨rfl, _, rfl, _, rfl, a, _, _, _, rfl, rfl, sx.sqT hW, atI_nat (j := 1) rfl, k _ _ (Same.refl _) ⟨1, e, f1.same sx⟩⟩
    · have pr : Paired (FrA K H2) acc (lotQ w0 w1 j) := by
        refine paired_of (by unfold lotQ; rw [el, List.length_map, List.length_map]) fun i x y e1 e2 => ?_
        obtain ⟨z, h1, h2⟩ := hR i x e1
        unfold lotQ at e2
        rw [List.getElem?_map, h1] at e2
        rw [← Option.some.inj e2]
        exact h2
      have ll : (lotQ w0 w1 j).length = (cont j).length := by unfold lotQ; rw [List.length_map]
      refine ⟨D, acc, lotQ w0 w1 j, rfl, SqL.of e5, pr, by rw [ll]; exact cl.1, by rw [ll]; exact cl.2, lotQ_sm h0 h1 j, fun H3 v3 s3 hv3 => ?_⟩
      have hL3 := (sx.trans s3).sqT hL
      refine ⟨_, rfl, t, _, rfl, .inr hL3, _, _, rfl, rfl, _, rfl, t, _, rfl, .inr hL3, ((cont j).length - 1 : Nat), (cont j).length, ?_, by omega, by omega, fun H4 p4 s4 hp4 => ?_⟩
      · rw [List.length_map]
        have e : (((cont j).length : Nat) : Int) - 1 = (((cont j).length - 1 : Nat) : Int) := by omega
        show [V.int (((cont j).length : Int) - 1), V.int ((cont j).length : Int)] = _
        rw [e]
      · exact ⟨v3, .ref p4, _, _, rfl, hv3.same s4, FrA.of hp4, (ewM_sm h0 h1 j).bd (by decide), mk_bd j, fun H5 p5 s5 hp5 => q H5 _ (((sx.trans s3).trans s4).trans s5) (FrA.of hp5)⟩
theorem sc_raw_even_lot : FnScope ["worths", "best", "told", "lot", "worth"] ["worths"] (defScope s_raw_even_lot) := ⟨rfl, rfl, rfl, by decide +kernel, rfl, by decide +kernel, by decide +kernel⟩
def spEvenLot (K : PySem.W.Frag) : Sp := fun vs H Q _ => ∃ (v : V) (w0 w1 : Rat), vs = [v] ∧ WoA K H v w0 w1 ∧ Sh 50000 w0 ∧ Sh 50000 w1 ∧ Tb K H ∧ ∀ H' t, ExtN H H' → Tb K H' → H' t = some (.tup ((cont (bst w0 w1 3).1).map V.int)) → Q (.ref t) H'
theorem c_raw_even_lot (T : Tx K mg) (B : TBs K mg base) : Cal P w K mg base 6 "raw_even_lot" ["worths"] (spEvenLot K) := by
  refine cal_of (d := d_raw_even_lot) T in_raw_even_lot fa_raw_even_lot rfl rfl rfl (fun _ _ _ _ _ _ us hl => match us, hl with | [_], _ => rfl) sc_raw_even_lot (fun vs H Q E h => ?_) (fun f cdv A outer s H vs Q E hr h => ?_)
  · obtain ⟨_, _, _, rfl, _⟩ := h
    rfl
  · obtain ⟨_, w0, w1, rfl, hWo, h0, h1, hT, q⟩ := h
    have hWo' := hWo
    obtain ⟨a, v0, v1, rfl, hW, f0, f1⟩ := hWo
    have nd := sc_raw_even_lot.nd
    refine ⟨_, pss_cons (ps_asg (pe_tup (pa_cons pe_non (pa_cons pe_non pa_nil))) (pg_tup rfl (pgs_cons (pg_name (i := 1) nd rfl (.inl rfl)) (pgs_cons (pg_name (i := 2) nd rfl (.inl rfl)) pgs_nil))))
      (pss_cons (ps_for PassesOwn.never rfl (pi_list (pe_cal (c_lots T B) (hr.mono (by decide)) (pa_cons (pe_callB call_len_seq (by rfl) (T.free _ fa_len) PySem.boot_len (pa_cons (pv 0) pa_nil)) pa_nil))) (pg_name (i := 3) nd rfl (.inl rfl))
        (pss_cons (ps_set (i := 4) nd rfl (.inl rfl) (pe_cal (c_even_worth T) hr (pa_cons (pv 0) (pa_cons (pv 3) pa_nil))))
        (pss_one (ps_if (PW.pt (pw_or (pt_cmp (pc_isN (pv 1))) (pw_or1 (pt_val (pe_cal (c_is_less T) (hr.mono (by decide)) (pa_cons (pv 2) (pa_cons (pv 4) pa_nil)))))))
          (pss_one (ps_par (i := 1) (j := 2) rfl nd rfl rfl (by decide) rfl rfl (pa_cons (pv 3) (pa_cons (pv 4) pa_nil)) (by rfl))) pss_nil))))
      (pss_one (ps_ret (pv 1)))), ?_⟩
    refine ⟨by show 2 ≤ sizeLine; decide, fun z nz => ⟨z, _, rfl, SqT.of upd_same, rfl, _, _, rfl, _, _, rfl, rfl, ?_⟩⟩
    have s0 : Same H (upd H z (.tup [.non, .non])) := same_upd nz
    refine ⟨_, rfl, a, [v0, v1], rfl, .inr (s0.sqT hW), rfl, hT.ext s0, fun H1 p t0 t1 t2 ext tb hp e0 e1 e2 => ?_⟩
    have lotAt : ∀ i x, [V.ref t0, .ref t1, .ref t2][i]? = some x → i < 3 ∧ ∃ t, x = .ref t ∧ H1 t = some (.tup ((cont i).map V.int)) := by
      intro i x hx
      match i, hx with
      | 0, hx => exact ⟨by decide, t0, (Option.some.inj hx).symm, e0⟩
      | 1, hx => exact ⟨by decide, t1, (Option.some.inj hx).symm, e1⟩
      | 2, hx => exact ⟨by decide, t2, (Option.some.inj hx).symm, e2⟩
      | i + 3, hx => cases hx
    have hW1 := (hWo'.tk s0.tk).tk ext.tk
    refine ⟨p, rfl, ⟨_, SqL.of hp⟩, for_list (K := K) (a := p) (xs := [.ref t0, .ref t1, .ref t2]) (fun i σ H2 => Same H1 H2 ∧ ∃ b tl y3 y4, σ = [some (.ref a), some b, some tl, y3, y4] ∧ ((i = 0 ∧ b = .non) ∨
        (1 ≤ i ∧ ∃ t, b = .ref t ∧ H1 t = some (.tup ((cont (bst w0 w1 i).1).map V.int)) ∧ FrA K H2 tl (bst w0 w1 i).2)))
      ⟨Same.refl _, .non, .non, none, none, rfl, .inl ⟨rfl, rfl⟩⟩ (fun i σ H2 _ z => z.1.seq (SqL.of hp)) ?_ ?_⟩
    · rintro i x σ H2 hx ⟨sm, b, tl, y3, y4, rfl, hc⟩
      obtain ⟨hi, t, rfl, ht⟩ := lotAt i x hx
      refine ⟨_, rfl, _, rfl, .ref a, t, w0, w1, i, rfl, hW1.tk sm.tk, SqT.of (sm _ _ ht), h0, h1, fun H3 v3 s3 hv3 => ?_⟩
      refine ⟨_, rfl, _, rfl, ?_⟩
      rcases hc with ⟨rfl, rfl⟩ | ⟨h1i, t', rfl, ht', hf⟩
      · refine iteT (iteT ⟨_, rfl, _, rfl, _, _, rfl, sm.trans s3, .ref t, v3, _, _, rfl, .inr ⟨by decide, t, rfl, ?_, ?_⟩⟩)
        · exact ht
        · exact hv3
      · have eb : decide (V.ref t' = V.non) = false := decide_eq_false (fun z => by cases z)
        rw [eb]
        have bv := bst_val w0 w1 i h1i
        refine iteF ⟨_, rfl, _, rfl, tl, v3, _, _, rfl, hf.same s3, hv3, ?_, (ewv_sm h0 h1 i).bd (by decide), _, rfl, ?_⟩
        · rw [bv.2]
          exact (ewv_sm h0 h1 _).bd (by decide)
        · have eb2 : bst w0 w1 (i + 1) = if (bst w0 w1 i).2 < ewv w0 w1 i then (i, ewv w0 w1 i) else bst w0 w1 i := by
            show (if i = 0 then _ else _) = _
            rw [if_neg (by omega)]
          by_cases hlt : (bst w0 w1 i).2 < ewv w0 w1 i
          · rw [decide_eq_true hlt]
            rw [if_pos hlt] at eb2
            refine iteT ⟨_, rfl, _, rfl, _, _, rfl, sm.trans s3, .ref t, v3, _, _, rfl, .inr ⟨by omega, t, rfl, ?_, ?_⟩⟩
            · rw [eb2]
              exact ht
            · rw [eb2]
              exact hv3
          · rw [decide_eq_false hlt]
            rw [if_neg hlt] at eb2
            refine iteF ⟨sm.trans s3, .ref t', tl, _, _, rfl, .inr ⟨by omega, t', rfl, ?_, ?_⟩⟩
            · rw [eb2]
              exact ht'
            · rw [eb2]
              exact hf.same s3
    · rintro σ H2 ⟨sm, b, tl, y3, y4, rfl, ⟨h, _⟩ | ⟨_, t, rfl, ht, hf⟩⟩
      · cases h
      · exact ⟨_, rfl, q H2 t (s0.ext.trans (ext.trans sm.ext)) (tb.ext sm) (sm _ _ ht)⟩
theorem sc_raw_level : FnScope ["worths"] ["worths"] (defScope s_raw_level) := ⟨rfl, rfl, rfl, by decide +kernel, rfl, by decide +kernel, by decide +kernel⟩
def spLevel (K : PySem.W.Frag) : Sp := fun vs H Q _ => ∃ (v : V) (w0 w1 : Rat), vs = [v] ∧ WoA K H v w0 w1 ∧ Sh 50000 w0 ∧ Sh 50000 w1 ∧ Tb K H ∧ ∀ H' v', ExtN H H' → Tb K H' → FrA K H' v' (lev w0 w1) → Q v' H'
theorem c_raw_level (T : Tx K mg) (B : TBs K mg base) : Cal P w K mg base 7 "raw_level" ["worths"] (spLevel K) := by
  refine cal_of (d := d_raw_level) T in_raw_level fa_raw_level rfl rfl rfl (fun _ _ _ _ _ _ us hl => match us, hl with | [_], _ => rfl) sc_raw_level (fun vs H Q E h => ?_) (fun f cdv A outer s H vs Q E hr h => ?_)
  · obtain ⟨_, _, _, rfl, _⟩ := h
    rfl
  · obtain ⟨v, w0, w1, rfl, hW, h0, h1, hT, q⟩ := h
    refine ⟨_, pss_one (ps_ret (pe_cal (c_even_worth T) (hr.mono (by decide)) (pa_cons (pv 0) (pa_cons (pe_cal (c_raw_even_lot T B) hr (pa_cons (pv 0) pa_nil)) pa_nil)))), ?_⟩
    refine ⟨_, rfl, _, rfl, v, w0, w1, rfl, hW, h0, h1, hT, fun H1 t ext tb ht => ?_⟩
    refine ⟨v, t, w0, w1, _, rfl, hW.tk ext.tk, SqT.of ht, h0, h1, fun H2 v2 s2 hv2 => q H2 v2 (ext.trans s2.ext) (tb.ext s2) ?_⟩
    rw [← bst_lev, (bst_val w0 w1 3 (by decide)).2]
    exact hv2
end
end K43
set_option Elab.async false
set_option linter.all false
set_option maxRecDepth 100000
set_option maxHeartbeats 8000000
namespace K43
open PySem PySem.Spec PyProof.Rows L2
section
variable {P : Program} {w : World} {K : PySem.W.Frag} {mg : Str → Option Value} {base : Heap}
theorem sc_raw_filled : FnScope ["worths", "told", "found", "worth", "chance"] ["worths"] (defScope s_raw_filled) := ⟨rfl, rfl, rfl, by decide +kernel, rfl, by decide +kernel, by decide +kernel⟩
def spFilled (K : PySem.W.Frag) : Sp := fun vs H Q _ => ∃ (v : V) (w0 w1 : Rat), vs = [v] ∧ WoA K H v w0 w1 ∧ Sh 50000 w0 ∧ Sh 50000 w1 ∧ Tb K H ∧ ∀ H' v', ExtN H H' → Tb K H' → WoA K H' v' (cha w0 (lev w0 w1)) (cha w1 (lev w0 w1)) → Q v' H'
theorem c_raw_filled (T : Tx K mg) (B : TBs K mg base) : Cal P w K mg base 8 "raw_filled" ["worths"] (spFilled K) := by
  refine cal_of (d := d_raw_filled) T in_raw_filled fa_raw_filled rfl rfl rfl (fun _ _ _ _ _ _ us hl => match us, hl with | [_], _ => rfl) sc_raw_filled (fun vs H Q E h => ?_) (fun f cdv A outer s H vs Q E hr h => ?_)
  · obtain ⟨_, _, _, rfl, _⟩ := h
    rfl
  · obtain ⟨_, w0, w1, rfl, hWo, h0, h1, hT, q⟩ := h
    have hWo' := hWo
    obtain ⟨a, v0, v1, rfl, hW, f0, f1⟩ := hWo
    have nd := sc_raw_filled.nd
    have hr6 : Room 2 (A.deeper (envOfC d_raw_filled.qual d_raw_filled.scope s.heap.objs.size f cdv)) := hr.mono (by decide)
    refine ⟨_, pss_cons (ps_set (i := 1) nd rfl (.inl rfl) (pe_cal (c_raw_level T B) hr (pa_cons (pv 0) pa_nil)))
      (pss_cons (ps_set (i := 2) nd rfl (.inl rfl) (pe_lst pa_nil))
      (pss_cons (ps_for PassesOwn.never rfl (pi_tup (pv 0)) (pg_name (i := 3) nd rfl (.inl rfl))
        (pss_cons (ps_set (i := 4) nd rfl (.inl rfl) (pe_cal (c_minus T) hr6 (pa_cons (pe_cal (c_plus T) hr6 (pa_cons (pv 3) (pa_cons (pe_glob (v := .ref (He.ga K "ONE")) rfl T.gO rfl) pa_nil))) (pa_cons (pv 1) pa_nil))))
        (pss_one (ps_expr (pe_bm PySem.F.plainAttrs_list PySem.F.slot_list_append PySem.F.type_list_append mt_append (pv 2) (pa_cons (pe_ifExp (pt_val (pe_cal (c_is_less T) (hr6.mono (by decide)) (pa_cons (pv 4) (pa_cons (pe_glob (v := .ref (He.ga K "NOUGHT")) rfl T.gN rfl) pa_nil)))) (pe_glob (v := .ref (He.ga K "NOUGHT")) rfl T.gN rfl) (pv 4)) pa_nil))))))
      (pss_one (ps_ret (pe_callTy call_tuple_of (by rfl) (T.free _ fa_tuple) (by decide +kernel) (pa_cons (pv 2) pa_nil)))))), ?_⟩
    refine ⟨_, rfl, _, w0, w1, rfl, hWo', h0, h1, hT, fun H1 vl ext tb hvl => ⟨Nat.zero_le _, fun l nl => ?_⟩⟩
    have s1 : Same H1 (upd H1 l (.lst [])) := same_upd nl
    have tk1 := ext.tk.trans s1.tk
    have hsm := lev_sm h0 h1
    have wat : ∀ (i : Nat) (x : V), [v0, v1][i]? = some x → ∃ wq, [w0, w1][i]? = some wq ∧ Sm 100000 wq ∧ ∀ H2, TupK H H2 → FrA K H2 x wq := by
      intro i x hx
      match i, hx with
      | 0, hx => exact ⟨w0, rfl, h0.sm, fun H2 t => by rw [← Option.some.inj hx]; exact f0.tk t⟩
      | 1, hx => exact ⟨w1, rfl, h1.sm, fun H2 t => by rw [← Option.some.inj hx]; exact f1.tk t⟩
      | i + 2, hx => cases hx
    refine ⟨_, rfl, a, rfl, ⟨_, tk1.sqT hW⟩, for_tup (K := K) (a := a) (xs := [v0, v1]) (fun i σ H2 => Same H1 H2 ∧ ∃ y3 y4 acc, σ = [some (.ref a), some vl, some (.ref l), y3, y4] ∧ H2 l = some (.lst acc) ∧ Paired (FrA K H2) acc (([w0, w1].take i).map fun x => cha x (lev w0 w1)))
      ⟨s1, none, none, [], rfl, upd_same, .nil⟩ (fun i σ H2 _ z => (ext.tk.trans z.1.tk).sqT hW) ?_ ?_⟩
    · rintro i x σ H2 hx ⟨sm, y3, y4, acc, rfl, hl, hp⟩
      obtain ⟨wq, hwq, hqs, hqf⟩ := wat i x hx
      have hi : i < 2 := (List.getElem?_eq_some_iff.mp hx).1
      have hbw : Bd (wq + 1) := (hqs.add one_sm).bd (by decide)
      have hbc : Bd (wq + 1 - lev w0 w1) := ((hqs.add one_sm).sub hsm).bd (by decide)
      refine ⟨_, rfl, x, _, wq, 1, rfl, hqf _ (ext.tk.trans sm.tk), T.oFr _, hqs.bd (by decide), one_sm.bd (by decide), fun H3 p3 s3 hp3 => ?_⟩
      refine ⟨_, rfl, .ref p3, vl, _, _, rfl, FrA.of hp3, (hvl.same sm).same s3, hbw, hsm.bd (by decide), fun H4 p4 s4 hp4 => ?_⟩
      have hl4 := s4 _ _ (s3 _ _ hl)
      have s24 := s3.trans s4
      have hal : acc.length ≤ 2 := by
        rw [Paired.length hp, List.length_map, List.length_take]
        exact Nat.min_le_right _ _
      refine ⟨.ref l, rfl, .inl ⟨rfl, _, SqL.of hl4⟩, _, rfl, .ref p4, _, _, 0, rfl, FrA.of hp4, T.nFr _, hbc, ⟨by decide +kernel, by decide +kernel⟩, _, rfl, ?_⟩
      have fin : ∀ v, FrA K H4 v (cha wq (lev w0 w1)) → Same H1 (upd H4 l (.lst (acc ++ [v]))) ∧ ∃ y3' y4' acc', [some (V.ref a), some vl, some (V.ref l), some x, some (V.ref p4)] = [some (V.ref a), some vl, some (.ref l), y3', y4'] ∧ upd H4 l (.lst (acc ++ [v])) l = some (.lst acc') ∧ Paired (FrA K (upd H4 l (.lst (acc ++ [v])))) acc' (([w0, w1].take (i + 1)).map fun x => cha x (lev w0 w1)) := by
        intro v hv
        have tk := (sb_upd l H4 (.lst (acc ++ [v]))).tk (NT.lst hl4)
        refine ⟨(((sm.trans s24).sb l).trans (sb_upd l H4 _)).same nl, _, _, _, rfl, upd_same, ?_⟩
        have e : ([w0, w1].take (i + 1)).map (fun x => cha x (lev w0 w1)) = (([w0, w1].take i).map fun x => cha x (lev w0 w1)) ++ [cha wq (lev w0 w1)] := by
          rw [List.take_add_one, hwq, List.map_append]
          rfl
        rw [e]
        exact Paired.app (Paired.mapP hp fun v c h => (h.same s24).tk tk) (.cons (hv.tk tk) .nil)
      by_cases hlt : wq + 1 - lev w0 w1 < 0
      · rw [decide_eq_true hlt]
        refine iteT ⟨l, acc, _, rfl, rfl, hl4, Nat.lt_of_le_of_lt hal (by decide), fin _ ?_⟩
        unfold cha
        rw [if_pos hlt]
        exact T.nFr _
      · rw [decide_eq_false hlt]
        refine iteF ⟨_, rfl, l, acc, _, rfl, rfl, hl4, Nat.lt_of_le_of_lt hal (by decide), fin _ ?_⟩
        unfold cha
        rw [if_neg hlt]
        exact FrA.of hp4
    · rintro σ H2 ⟨sm, y3, y4, acc, rfl, hl, hp⟩
      refine ⟨_, rfl, l, acc, rfl, .inl ⟨SqL.of hl, fun p np => ?_⟩⟩
      have s3 := same_upd (o := .tup acc) np
      cases hp with
      | cons r0 hp =>
        cases hp with
        | cons r1 hp =>
          cases hp
          exact q _ _ (ext.trans (sm.trans s3).ext) (tb.ext (sm.trans s3)) ⟨p, _, _, rfl, SqT.of upd_same, r0.same s3, r1.same s3⟩
end
end K43
set_option Elab.async false
set_option linter.all false
set_option maxRecDepth 100000
set_option maxHeartbeats 8000000
namespace K43
open PySem PySem.Spec PyProof.Rows L2
/-! ### advisers, circles, keys as they stand -/
def RuleA (K : PySem.W.Frag) (H : Hp) (v : V) (r : Rule) : Prop := ∃ p n, v = .ref p ∧ SqT K H p [.int (r.1 : Int), .ref n] ∧ SqT K H n [.int (r.2.1 : Int), .int (r.2.2 : Int)]
def AdvA (K : PySem.W.Frag) (H : Hp) (v : V) (a : Adv) : Prop := ∃ p r us, v = .ref p ∧ SqT K H p [.int 2, .ref r] ∧ SqT K H r us ∧ Paired (RuleA K H) us a
def CirA (K : PySem.W.Frag) (H : Hp) (v : V) (c : List Adv) : Prop := ∃ p us, v = .ref p ∧ SqT K H p us ∧ Paired (AdvA K H) us c
theorem RuleA.tk {K : PySem.W.Frag} {H H' : Hp} {v : V} {r : Rule} (h : RuleA K H v r) (t : TupK H H') : RuleA K H' v r := let ⟨p, n, e, h1, h2⟩ := h; ⟨p, n, e, t.sqT h1, t.sqT h2⟩
theorem AdvA.tk {K : PySem.W.Frag} {H H' : Hp} {v : V} {a : Adv} (h : AdvA K H v a) (t : TupK H H') : AdvA K H' v a := let ⟨p, r, us, e, h1, h2, h3⟩ := h; ⟨p, r, us, e, t.sqT h1, t.sqT h2, Paired.mapP h3 fun _ _ z => z.tk t⟩
theorem CirA.tk {K : PySem.W.Frag} {H H' : Hp} {v : V} {c : List Adv} (h : CirA K H v c) (t : TupK H H') : CirA K H' v c := let ⟨p, us, e, h1, h2⟩ := h; ⟨p, us, e, t.sqT h1, Paired.mapP h2 fun _ _ z => z.tk t⟩
theorem RowA.tk {K : PySem.W.Frag} {H H' : Hp} {v : V} {r : List Nat} (h : RowA K H v r) (t : TupK H H') : RowA K H' v r := let ⟨a, e, h⟩ := h; ⟨a, e, t.sqT h⟩
theorem paired_get' {α β : Type} {G : α → β → Prop} {l₁ : List α} {l₂ : List β} (h : Paired G l₁ l₂) {i : Nat} {b : β} (e : l₂[i]? = some b) : ∃ a, l₁[i]? = some a ∧ G a b := by
  induction h generalizing i with
  | nil => simp at e
  | cons r t ih =>
    cases i with
    | zero => exact ⟨_, rfl, by rw [← Option.some.inj (show some _ = some b from e)]; exact r⟩
    | succ i =>
      obtain ⟨a, h1, h2⟩ := ih (i := i) (by simpa using e)
      exact ⟨a, by simpa using h1, h2⟩
section
variable {P : Program} {w : World} {K : PySem.W.Frag} {mg : Str → Option Value} {base : Heap}
theorem sc_is_rule : FnScope ["thing", "size", "states", "later"] ["thing", "size", "states"] (defScope s_is_rule) := ⟨rfl, rfl, rfl, by decide +kernel, rfl, by decide +kernel, by decide +kernel⟩
def spIsRule (K : PySem.W.Frag) : Sp := fun vs H Q _ => ∃ (v : V) (r : Rule) (n : Nat), vs = [v, .int 2, .int (n : Int)] ∧ RuleA K H v r ∧ r.1 < 2 ∧ r.2.1 < n ∧ r.2.2 < n ∧ ∀ H', Same H H' → Q (.bl true) H'
theorem c_is_rule (T : Tx K mg) : Cal P w K mg base 4 "is_rule" ["thing", "size", "states"] (spIsRule K) := by
  refine cal_of (d := d_is_rule) T in_is_rule fa_is_rule rfl rfl rfl (fun _ _ _ _ _ _ us hl => match us, hl with | [_, _, _], _ => rfl) sc_is_rule (fun vs H Q E h => ?_) (fun f cdv A outer s H vs Q E hr h => ?_)
  · obtain ⟨_, _, _, rfl, _⟩ := h
    rfl
  · obtain ⟨_, r, n, rfl, ⟨p, x, rfl, hp, hx⟩, h1, h2, h3, q⟩ := h
    refine ⟨_, pss_cons (ps_if (PW.pt (pw_or (pt_not (pt_val (pe_cal (c_is_tuple_of T) (hr.mono (by decide)) (pa_cons (pv 0) (pa_cons pe_int pa_nil)))))
        (pw_or (pt_not (pt_val (pe_cal (c_is_index T) hr (pa_cons (pe_ix ix_tup (pv 0) pe_int (fun _ _ => rfl)) (pa_cons (pv 1) pa_nil)))))
        (pw_or1 (pt_not (pt_val (pe_cal (c_is_tuple_of T) (hr.mono (by decide)) (pa_cons (pe_ix ix_tup (pv 0) pe_int (fun _ _ => rfl)) (pa_cons (pv 1) pa_nil))))))))) (pss_one ps_never) pss_nil)
      (pss_one (ps_ret (pe_callB (cr_all rfl) (by rfl) (T.free _ fa_all) (by decide +kernel) (pa_cons (pe_lc (own := [("later", 3)]) (g := gName 3) (tt := tYes) rfl sc_is_rule.nd (pi_tup (pe_ix ix_tup (pv 0) pe_int (fun _ _ => rfl))) (blkOk_by (N := ["thing", "size", "states", "later"]) (sc := defScope s_is_rule) (by decide +kernel))
        (fun _ _ _ _ _ => pg_name (i := 3) sc_is_rule.nd rfl (Or.inl rfl)) (fun _ _ _ _ _ => pts_nil) (fun _ _ _ _ _ => pe_cal (c_is_index T) hr (pa_cons (pv 3) (pa_cons (pv 2) pa_nil)))) pa_nil)))), ?_⟩
    refine ⟨_, rfl, p, _, 2, rfl, hp, rfl, _, rfl, iteF ?_⟩
    refine ⟨_, rfl, p, _, _, _, rfl, rfl, hp, atI_nat (j := 0) rfl, _, rfl, r.1, 2, rfl, h1, _, rfl, iteF ?_⟩
    refine ⟨_, rfl, p, _, _, _, rfl, rfl, hp, atI_nat (j := 1) rfl, _, rfl, x, _, 2, rfl, hx, rfl, _, rfl, iteF ?_⟩
    refine ⟨_, rfl, p, _, _, _, rfl, rfl, hp, atI_nat (j := 1) rfl, x, rfl, ⟨_, hx⟩, all_tup hx (by show 2 ≤ sizeLine; decide) (fun i y H2 Qn hi s k => ?_) fun H2 s => q H2 s⟩
    match i, hi with
    | 0, hi =>
      rw [← Option.some.inj hi]
      exact ⟨rfl, _, rfl, _, rfl, r.2.1, n, rfl, h2, k H2 (Same.refl _)⟩
    | 1, hi =>
      rw [← Option.some.inj hi]
      exact ⟨rfl, _, rfl, _, rfl, r.2.2, n, rfl, h3, k H2 (Same.refl _)⟩
    | i + 2, hi => cases hi
theorem sc_is_adviser : FnScope ["thing", "states", "rule"] ["thing"] (defScope s_is_adviser) := ⟨rfl, rfl, rfl, by decide +kernel, rfl, by decide +kernel, by decide +kernel⟩
def spIsAdviser (K : PySem.W.Frag) : Sp := fun vs H Q _ => ∃ (v : V) (a : Adv), vs = [v] ∧ AdvA K H v a ∧ AdvOk a ∧ ∀ H', Same H H' → Q (.bl true) H'
theorem c_is_adviser (T : Tx K mg) : Cal P w K mg base 5 "is_adviser" ["thing"] (spIsAdviser K) := by
  obtain ⟨tS, hS⟩ := T.int _ _ fa_SIZE
  obtain ⟨tR, hR⟩ := T.int _ _ fa_RULES
  obtain ⟨tM, hM⟩ := T.int _ _ fa_MOST_ADVISER_STATES
  refine cal_of (d := d_is_adviser) T in_is_adviser fa_is_adviser rfl rfl rfl (fun _ _ _ _ _ _ us hl => match us, hl with | [_], _ => rfl) sc_is_adviser (fun vs H Q E h => ?_) (fun f cdv A outer s H vs Q E hr h => ?_)
  · obtain ⟨_, _, rfl, _⟩ := h
    rfl
  · obtain ⟨_, a, rfl, ⟨p, r, us, rfl, hp, hr', hus⟩, ok, q⟩ := h
    have hl : us.length = a.length := Paired.length hus
    refine ⟨_, pss_cons (ps_if (PW.pt (pw_or (pt_not (pt_val (pe_cal (c_is_tuple_of T) (hr.mono (by decide)) (pa_cons (pv 0) (pa_cons pe_int pa_nil)))))
        (pw_or (pt_not (pt_val (pe_cal (c_is_size T) (hr.mono (by decide)) (pa_cons (pe_ix ix_tup (pv 0) (pe_glob (v := .int 0) rfl hS ⟨_, rfl⟩) (fun _ _ => rfl)) pa_nil))))
        (pw_or1 (pt_not (pt_val (pe_callB call_isi (by rfl) (T.free _ fa_isinstance) (by decide +kernel) (pa_cons (pe_ix ix_tup (pv 0) (pe_glob (v := .int 1) rfl hR ⟨_, rfl⟩) (fun _ _ => rfl)) (pa_cons (pe_bltn (v := .ty "tuple") (u := .type "tuple") (by rfl) (T.free _ fa_tuple) (by decide +kernel) rfl) pa_nil))))))))) (pss_one ps_never) pss_nil)
      (pss_cons (ps_set (i := 1) sc_is_adviser.nd rfl (.inr rfl) (pe_callB call_len_seq (by rfl) (T.free _ fa_len) PySem.boot_len (pa_cons (pe_ix ix_tup (pv 0) (pe_glob (v := .int 1) rfl hR ⟨_, rfl⟩) (fun _ _ => rfl)) pa_nil)))
      (pss_one (ps_ret (pe_and (pe_chain op_le op_le pe_int (pv 1) (pe_glob (v := .int 6) rfl hM ⟨_, rfl⟩)) (pe_one (pe_callB (cr_all rfl) (by rfl) (T.free _ fa_all) (by decide +kernel) (pa_cons (pe_lc (own := [("rule", 2)]) (g := gName 2) (tt := tYes)
        (te := tCall (spIsRule K) [] E0 (tCons (tVar 2) (tCons (tOp (rIxT K) (tVar 0) (tC (.int 0))) (tCons (tVar 1) tNil)))) rfl sc_is_adviser.nd (pi_tup (pe_ix ix_tup (pv 0) (pe_glob (v := .int 1) rfl hR ⟨_, rfl⟩) (fun _ _ => rfl))) (blkOk_by (N := ["thing", "states", "rule"]) (sc := defScope s_is_adviser) (by decide +kernel))
        (fun _ _ _ _ _ => pg_name (i := 2) sc_is_adviser.nd rfl (Or.inl rfl)) (fun _ _ _ _ _ => pts_nil) (fun _ _ _ _ _ => pe_cal (c_is_rule T) hr (pa_cons (pv 2) (pa_cons (pe_ix ix_tup (pv 0) (pe_glob (v := .int 0) rfl hS ⟨_, rfl⟩) (fun _ _ => rfl)) (pa_cons (pv 1) pa_nil))))) pa_nil))))))), ?_⟩
    refine ⟨_, rfl, p, _, 2, rfl, hp, rfl, _, rfl, iteF ?_⟩
    refine ⟨_, rfl, p, _, _, _, rfl, rfl, hp, atI_nat (j := 0) rfl, rfl, _, rfl, iteF ?_⟩
    refine ⟨_, rfl, p, _, _, _, rfl, rfl, hp, atI_nat (j := 1) rfl, _, _, _, _, true, rfl, .ty "tuple", tyT_of hr', kit_ty (by decide +kernel), _, rfl, iteF ?_⟩
    refine ⟨_, rfl, p, _, _, _, rfl, rfl, hp, atI_nat (j := 1) rfl, r, us, rfl, .inr hr', ?_⟩
    refine ⟨_, rfl, _, _, rfl, rfl, _, rfl, ?_⟩
    have o1 := ok.1
    have o2 := ok.2.1
    rw [decide_eq_true (show (1 : Int) ≤ (us.length : Int) by omega)]
    refine iteT ⟨_, _, rfl, rfl, _, rfl, ?_⟩
    rw [decide_eq_true (show (us.length : Int) ≤ (6 : Int) by omega)]
    refine iteT ?_
    refine ⟨_, rfl, p, _, _, _, rfl, rfl, hp, atI_nat (j := 1) rfl, r, rfl, ⟨_, hr'⟩, all_tup hr' (Nat.le_of_lt (small1000 (by omega))) (fun i y H2 Qn hi s k => ?_) fun H2 s => q H2 s⟩
    obtain ⟨z, hz, hf⟩ := paired_get hus hi
    have oz := ok.2.2 z (List.mem_of_getElem? hz)
    exact ⟨rfl, _, rfl, _, rfl, p, _, _, _, rfl, rfl, s.sqT hp, atI_nat (j := 0) rfl, _, rfl, y, z, us.length, rfl, hf.tk s.tk, oz.1, by omega, by omega, fun H4 s4 => k H4 s4⟩
theorem sc_is_circle : FnScope ["thing", "one"] ["thing"] (defScope s_is_circle) := ⟨rfl, rfl, rfl, by decide +kernel, rfl, by decide +kernel, by decide +kernel⟩
def tSizes (K : PySem.W.Frag) : TE := tCB (rAll K) (tCons (tLc (iTup K (tVar 0)) (gName 1) tYes (tOp rEq (tOp (rIxT K) (tVar 1) (tC (.int 0))) (tOp (rIxT K) (tOp (rIxT K) (tVar 0) (tC (.int 0))) (tC (.int 0)))) [1]) tNil)
def spIsCircle (K : PySem.W.Frag) : Sp := fun vs H Q _ => ∃ (v : V) (c : List Adv), vs = [v] ∧ CirA K H v c ∧ CirOk c ∧ ∀ H', Same H H' → Q (.bl true) H'
theorem c_is_circle (T : Tx K mg) : Cal P w K mg base 6 "is_circle" ["thing"] (spIsCircle K) := by
  obtain ⟨tS, hS⟩ := T.int _ _ fa_SIZE
  obtain ⟨tM, hM⟩ := T.int _ _ fa_MOST_ADVISERS
  refine cal_of (d := d_is_circle) T in_is_circle fa_is_circle rfl rfl rfl (fun _ _ _ _ _ _ us hl => match us, hl with | [_], _ => rfl) sc_is_circle (fun vs H Q E h => ?_) (fun f cdv A outer s H vs Q E hr h => ?_)
  · obtain ⟨_, _, rfl, _⟩ := h
    rfl
  · obtain ⟨_, c, rfl, ⟨p, us, rfl, hp, hus⟩, ok, q⟩ := h
    have hl : us.length = c.length := Paired.length hus
    have o1 := ok.1
    have o2 := ok.2.1
    have nd := sc_is_circle.nd
    refine ⟨_, pss_cons (ps_if (PW.pt (pw_or (pt_not (pt_val (pe_callB call_isi (by rfl) (T.free _ fa_isinstance) (by decide +kernel) (pa_cons (pv 0) (pa_cons (pe_bltn (v := .ty "tuple") (u := .type "tuple") (by rfl) (T.free _ fa_tuple) (by decide +kernel) rfl) pa_nil)))))
        (pw_or1 (pt_not (pt_chain op_le op_le pe_int (pe_callB call_len_seq (by rfl) (T.free _ fa_len) PySem.boot_len (pa_cons (pv 0) pa_nil)) (pe_glob (v := .int 4) rfl hM ⟨_, rfl⟩)))))) (pss_one ps_never) pss_nil)
      (pss_one (ps_ret (pe_and (pe_callB (cr_all rfl) (by rfl) (T.free _ fa_all) (by decide +kernel) (pa_cons (pe_lc (own := [("one", 1)]) (g := gName 1) (tt := tYes)
          (te := tCall (spIsAdviser K) [] E0 (tCons (tVar 1) tNil)) rfl nd (pi_tup (pv 0)) (blkOk_by (N := ["thing", "one"]) (sc := defScope s_is_circle) (by decide +kernel))
          (fun _ _ _ _ _ => pg_name (i := 1) nd rfl (Or.inl rfl)) (fun _ _ _ _ _ => pts_nil) (fun _ _ _ _ _ => pe_cal (c_is_adviser T) hr (pa_cons (pv 1) pa_nil))) pa_nil))
        (pe_one (pe_callB (cr_all rfl) (by rfl) (T.free _ fa_all) (by decide +kernel) (pa_cons (pe_lc (own := [("one", 1)]) (g := gName 1) (tt := tYes)
          (te := tOp rEq (tOp (rIxT K) (tVar 1) (tC (.int 0))) (tOp (rIxT K) (tOp (rIxT K) (tVar 0) (tC (.int 0))) (tC (.int 0)))) rfl nd (pi_tup (pv 0)) (blkOk_by (N := ["thing", "one"]) (sc := defScope s_is_circle) (by decide +kernel))
          (fun _ _ _ _ _ => pg_name (i := 1) nd rfl (Or.inl rfl)) (fun _ _ _ _ _ => pts_nil) (fun _ _ _ _ _ => pe_cmpR op_eq (pe_ix ix_tup (pv 1) (pe_glob (v := .int 0) rfl hS ⟨_, rfl⟩) (fun _ _ => rfl)) (pe_ix ix_tup (pe_ix ix_tup (pv 0) pe_int (fun _ _ => rfl)) (pe_glob (v := .int 0) rfl hS ⟨_, rfl⟩) (fun _ _ => rfl)) (nomark _))) pa_nil)))))), ?_⟩
    refine ⟨_, rfl, _, _, _, _, true, rfl, .ty "tuple", tyT_of hp, kit_ty (by decide +kernel), _, rfl, iteF ?_⟩
    refine ⟨_, rfl, p, us, rfl, .inr hp, _, _, rfl, rfl, _, rfl, ?_⟩
    rw [decide_eq_true (show (1 : Int) ≤ (us.length : Int) by omega)]
    refine iteT ⟨_, _, rfl, rfl, _, rfl, ?_⟩
    rw [decide_eq_true (show (us.length : Int) ≤ (4 : Int) by omega)]
    refine iteF ?_
    refine ⟨_, rfl, p, rfl, ⟨_, hp⟩, all_tup (Q := fun x H1 => ∃ c, x = V.bl c ∧ if c = true then tSizes K (start ["thing", "one"] [.ref p]) H1 Q else Q (.bl false) H1) hp (Nat.le_of_lt (small1000 (by omega))) (fun i y H2 Qn hi s k => ?_) fun H2 s => ⟨true, rfl, iteT ?_⟩⟩
    · obtain ⟨z, hz, hf⟩ := paired_get hus hi
      exact ⟨rfl, _, rfl, y, z, rfl, hf.tk s.tk, ok.2.2 z (List.mem_of_getElem? hz), fun H4 s4 => k H4 s4⟩
    · have hp2 := s.sqT hp
      refine ⟨_, rfl, p, rfl, ⟨_, hp2⟩, all_tup hp2 (Nat.le_of_lt (small1000 (by omega))) (fun i y H3 Qn hi s3 k => ?_) fun H3 s3 => q H3 (s.trans s3)⟩
      obtain ⟨z, hz, hf⟩ := paired_get hus hi
      obtain ⟨z0, hz0⟩ : ∃ z0, us[0]? = some z0 := ⟨us[0]'(by omega), List.getElem?_eq_getElem (by omega)⟩
      obtain ⟨c0, _, hf0⟩ := paired_get hus hz0
      obtain ⟨p1, r1, us1, rfl, g1, _⟩ := hf
      obtain ⟨p2, r2, us2, rfl, g2, _⟩ := hf0
      have t3 := (s.trans s3)
      refine ⟨rfl, _, rfl, p1, _, _, _, rfl, rfl, t3.sqT g1, atI_nat (j := 0) rfl, _, rfl, p, us, _, _, rfl, rfl, t3.sqT hp, atI_nat (j := 0) hz0, p2, _, _, _, rfl, rfl, t3.sqT g2, atI_nat (j := 0) rfl, rfl, ?_⟩
      show Qn (.bl (decide (V.int 2 = V.int 2))) H3
      rw [decide_eq_true rfl]
      exact k H3 (Same.refl _)
theorem sc_check_circle : FnScope ["thing"] ["thing"] (defScope s_check_circle) := ⟨rfl, rfl, rfl, by decide +kernel, rfl, by decide +kernel, by decide +kernel⟩
def spCheckCircle (K : PySem.W.Frag) : Sp := fun vs H Q _ => ∃ (v : V) (c : List Adv), vs = [v] ∧ CirA K H v c ∧ CirOk c ∧ ∀ H', Same H H' → Q .non H'
theorem c_check_circle (T : Tx K mg) : Cal P w K mg base 7 "check_circle" ["thing"] (spCheckCircle K) := by
  refine cal_of (d := d_check_circle) T in_check_circle fa_check_circle rfl rfl rfl (fun _ _ _ _ _ _ us hl => match us, hl with | [_], _ => rfl) sc_check_circle (fun vs H Q E h => ?_) (fun f cdv A outer s H vs Q E hr h => ?_)
  · obtain ⟨_, _, rfl, _⟩ := h
    rfl
  · obtain ⟨v, c, rfl, hc, ok, q⟩ := h
    refine ⟨_, pss_one (ps_if (pt_not (pt_val (pe_cal (c_is_circle T) hr (pa_cons (pv 0) pa_nil)))) (pss_one ps_never) pss_nil), ?_⟩
    exact ⟨_, rfl, v, c, rfl, hc, ok, fun H' s => ⟨true, rfl, iteF (q H' s)⟩⟩
end
end K43
set_option Elab.async false
set_option linter.all false
set_option maxRecDepth 100000
set_option maxHeartbeats 8000000
namespace K43
open PySem PySem.Spec PyProof.Rows L2
/-- one rule of an adviser that stands, by its state -/
theorem adv_at {K : PySem.W.Frag} {H : Hp} {v : V} {a : Adv} {s : Nat} (h : AdvA K H v a) (ok : AdvOk a) (hs : s < a.length) :
    ∃ p r us y n, v = .ref p ∧ SqT K H p [.int 2, .ref r] ∧ SqT K H r us ∧ us[s]? = some (.ref y) ∧ SqT K H y [.int (told a s : Int), .ref n] ∧ SqT K H n [.int (nxt a s 0 : Int), .int (nxt a s 1 : Int)] := by
  obtain ⟨p, r, us, e, h1, h2, h3⟩ := h
  obtain ⟨u, hu, y, n, rfl, g1, g2⟩ := paired_get' h3 (ok.at hs).1
  exact ⟨p, r, us, y, n, e, h1, h2, hu, g1, g2⟩
theorem nxt_at (a : Adv) (s x : Nat) (hx : x < 2) : ([V.int (nxt a s 0 : Int), .int (nxt a s 1 : Int)] : List V)[x]? = some (.int (nxt a s x : Int)) := by
  match x, hx with
  | 0, _ => rfl
  | 1, _ => rfl
def mrun (a : Adv) (row : List Nat) : Nat × Nat := row.foldl (fun q x => step1 a q x) (0, 0)
theorem mrun_snoc {a : Adv} {row : List Nat} {i x : Nat} (h : row[i]? = some x) : mrun a (row.take (i + 1)) = step1 a (mrun a (row.take i)) x := by
  unfold mrun
  rw [List.take_add_one, h, List.foldl_append]
  rfl
section
variable {P : Program} {w : World} {K : PySem.W.Frag} {mg : Str → Option Value} {base : Heap}
theorem sc_raw_misses : FnScope ["adviser", "row", "state", "found", "letter", "told", "nexts"] ["adviser", "row"] (defScope s_raw_misses) := ⟨rfl, rfl, rfl, by decide +kernel, rfl, by decide +kernel, by decide +kernel⟩
def spRawMisses (K : PySem.W.Frag) : Sp := fun vs H Q _ => ∃ (v r : V) (a : Adv) (row : List Nat), vs = [v, r] ∧ AdvA K H v a ∧ AdvOk a ∧ RowA K H r row ∧ (∀ x ∈ row, x < 2) ∧ ∀ H', Same H H' → Q (.int ((mrun a row).2 : Int)) H'
theorem c_raw_misses (T : Tx K mg) : Cal P w K mg base 1 "raw_misses" ["adviser", "row"] (spRawMisses K) := by
  obtain ⟨tR, hR⟩ := T.int _ _ fa_RULES
  refine cal_of (d := d_raw_misses) T in_raw_misses fa_raw_misses rfl rfl rfl (fun _ _ _ _ _ _ us hl => match us, hl with | [_, _], _ => rfl) sc_raw_misses (fun vs H Q E h => ?_) (fun f cdv A outer s H vs Q E hr h => ?_)
  · obtain ⟨_, _, _, _, rfl, _⟩ := h
    rfl
  · obtain ⟨v, _, a, row, rfl, hA, ok, ⟨rp, rfl, hrow⟩, hx, q⟩ := h
    have nd := sc_raw_misses.nd
    refine ⟨_, pss_cons (ps_asg (pe_tup (pa_cons pe_int (pa_cons pe_int pa_nil))) (pg_tup rfl (pgs_cons (pg_name (i := 2) nd rfl (.inl rfl)) (pgs_cons (pg_name (i := 3) nd rfl (.inl rfl)) pgs_nil))))
      (pss_cons (ps_for PassesOwn.never rfl (pi_tup (pv 1)) (pg_name (i := 4) nd rfl (.inl rfl))
        (pss_cons (ps_asg (pe_ix ix_tup (pe_ix ix_tup (pv 0) (pe_glob (v := .int 1) rfl hR ⟨_, rfl⟩) (fun _ _ => rfl)) (pv 2) (fun _ _ => rfl)) (pg_tup rfl (pgs_cons (pg_name (i := 5) nd rfl (.inl rfl)) (pgs_cons (pg_name (i := 6) nd rfl (.inl rfl)) pgs_nil))))
        (pss_cons (ps_aug (i := 3) nd rfl (.inl rfl) (pe_ifExp (pt_cmpR op_eq (pv 5) (pv 4) (nomark _)) pe_int pe_int) ip_add)
        (pss_one (ps_set (i := 2) nd rfl (.inl rfl) (pe_ix ix_tup (pv 6) (pv 4) (fun _ _ => rfl)))))))
      (pss_one (ps_ret (pv 3)))), ?_⟩
    refine ⟨by show 2 ≤ sizeLine; decide, fun z nz => ⟨z, _, rfl, SqT.of upd_same, rfl, _, _, rfl, _, _, rfl, rfl, ?_⟩⟩
    have s0 : Same H (upd H z (.tup [.int 0, .int 0])) := same_upd nz
    refine ⟨_, rfl, rp, rfl, ⟨_, s0.sqT hrow⟩, for_tup (K := K) (a := rp) (xs := row.map fun x : Nat => V.int (x : Int)) (fun i σ H2 => Same H H2 ∧ (mrun a (row.take i)).1 < a.length ∧ ∃ y4 y5 y6, σ = [some v, some (.ref rp), some (.int ((mrun a (row.take i)).1 : Int)), some (.int ((mrun a (row.take i)).2 : Int)), y4, y5, y6])
      ⟨s0, ok.1, none, none, none, rfl⟩ (fun i σ H2 _ z => z.1.sqT hrow) ?_ ?_⟩
    · rintro i y σ H2 hy ⟨sm, hst, y4, y5, y6, rfl⟩
      rw [List.getElem?_map] at hy
      cases e : row[i]? with
      | none =>
        rw [e] at hy
        cases hy
      | some x =>
        rw [e] at hy
        have ey : V.int (x : Int) = y := Option.some.inj hy
        subst ey
        have hx2 := hx x (List.mem_of_getElem? e)
        have es := mrun_snoc (a := a) e
        obtain ⟨p, r, us, yr, n, rfl, h1, h2, h3, h4, h5⟩ := adv_at (hA.tk sm.tk) ok hst
        refine ⟨_, rfl, p, _, _, _, rfl, rfl, h1, atI_nat (j := 1) rfl, _, rfl, r, us, _, _, rfl, rfl, h2, atI_nat h3, yr, _, rfl, h4, rfl, _, _, rfl, _, _, rfl, rfl, ?_⟩
        refine ⟨_, rfl, _, rfl, _, rfl, rfl, _, rfl, ?_⟩
        by_cases ht : told a (mrun a (row.take i)).1 = x
        · have d1 : decide (V.int (told a (mrun a (row.take i)).1 : Int) = V.int (x : Int)) = true := decide_eq_true (by rw [ht])
          have e2 : step1 a (mrun a (row.take i)) x = (nxt a (mrun a (row.take i)).1 x, (mrun a (row.take i)).2) := by
            unfold step1
            rw [if_pos ht]
          rw [e2] at es
          rw [d1]
          refine iteT ⟨_, _, rfl, rfl, _, rfl, _, rfl, n, _, _, _, rfl, rfl, h5, atI_nat (nxt_at a _ x hx2), sm, ?_, some (.int (x : Int)), some (.int (told a (mrun a (row.take i)).1 : Int)), some (.ref n), ?_⟩
          · rw [es]
            exact ok.nxt hst x
          · rw [es]
            show [some (V.ref p), some (V.ref rp), some (V.int (nxt a (mrun a (row.take i)).1 x : Int)), some (V.int (((mrun a (row.take i)).2 : Int) + 0)), some (V.int (x : Int)), some (V.int (told a (mrun a (row.take i)).1 : Int)), some (V.ref n)] = _
            rw [Int.add_zero]
        · have d1 : decide (V.int (told a (mrun a (row.take i)).1 : Int) = V.int (x : Int)) = false := decide_eq_false (fun z => ht (by injection z with z; omega))
          have e2 : step1 a (mrun a (row.take i)) x = (nxt a (mrun a (row.take i)).1 x, (mrun a (row.take i)).2 + 1) := by
            unfold step1
            rw [if_neg ht]
          rw [e2] at es
          rw [d1]
          refine iteF ⟨_, _, rfl, rfl, _, rfl, _, rfl, n, _, _, _, rfl, rfl, h5, atI_nat (nxt_at a _ x hx2), sm, ?_, some (.int (x : Int)), some (.int (told a (mrun a (row.take i)).1 : Int)), some (.ref n), ?_⟩
          · rw [es]
            exact ok.nxt hst x
          · rw [es]
            rfl
    · rintro σ H2 ⟨sm, hst, y4, y5, y6, rfl⟩
      rw [List.length_map, List.take_length]
      exact ⟨_, rfl, q H2 sm⟩
theorem sc_adviser_misses : FnScope ["circle", "row", "adviser"] ["circle", "row"] (defScope s_adviser_misses) := ⟨rfl, rfl, rfl, by decide +kernel, rfl, by decide +kernel, by decide +kernel⟩
def spAdvMisses (K : PySem.W.Frag) : Sp := fun vs H Q _ => ∃ (v r : V) (c : List Adv) (row : List Nat), vs = [v, r] ∧ CirA K H v c ∧ CirOk c ∧ RowA K H r row ∧ (∀ x ∈ row, x < 2) ∧ row.length ≤ 10 ∧ ∀ H' p, Same H H' → H' p = some (.tup (c.map fun a => V.int ((mrun a row).2 : Int))) → Q (.ref p) H'
theorem c_adviser_misses (T : Tx K mg) : Cal P w K mg base 8 "adviser_misses" ["circle", "row"] (spAdvMisses K) := by
  obtain ⟨tS, hS⟩ := T.int _ _ fa_SIZE
  refine cal_of (d := d_adviser_misses) T in_adviser_misses fa_adviser_misses rfl rfl rfl (fun _ _ _ _ _ _ us hl => match us, hl with | [_, _], _ => rfl) sc_adviser_misses (fun vs H Q E h => ?_) (fun f cdv A outer s H vs Q E hr h => ?_)
  · obtain ⟨_, _, _, _, rfl, _⟩ := h
    rfl
  · obtain ⟨v, r, c, row, rfl, hC, ok, hrow, hx, hl, q⟩ := h
    have hC' := hC
    obtain ⟨p, us, rfl, hp, hus⟩ := hC'
    have hul : us.length = c.length := Paired.length hus
    have o1 := ok.1
    have o2 := ok.2.1
    have nd := sc_adviser_misses.nd
    refine ⟨_, pss_cons (ps_expr (pe_cal (c_check_circle T) hr (pa_cons (pv 0) pa_nil)))
      (pss_cons (ps_expr (pe_cal (c_check_row T) (hr.mono (by decide)) (pa_cons (pe_ix ix_tup (pe_ix ix_tup (pv 0) pe_int (fun _ _ => rfl)) (pe_glob (v := .int 0) rfl hS ⟨_, rfl⟩) (fun _ _ => rfl)) (pa_cons (pv 1) pa_nil))))
      (pss_one (ps_ret (pe_callTy call_tuple_of (by rfl) (T.free _ fa_tuple) (by decide +kernel) (pa_cons (pe_lc (own := [("adviser", 2)]) (g := gName 2) (tt := tYes) (te := tCall (spRawMisses K) [] E0 (tCons (tVar 2) (tCons (tVar 1) tNil))) rfl nd (pi_tup (pv 0)) (blkOk_by (N := ["circle", "row", "adviser"]) (sc := defScope s_adviser_misses) (by decide +kernel))
        (fun _ _ _ _ _ => pg_name (i := 2) nd rfl (Or.inl rfl)) (fun _ _ _ _ _ => pts_nil) (fun _ _ _ _ _ => pe_cal (c_raw_misses T) (hr.mono (by decide)) (pa_cons (pv 2) (pa_cons (pv 1) pa_nil)))) pa_nil))))), ?_⟩
    refine ⟨_, rfl, _, c, rfl, hC, ok, fun H1 s1 => ?_⟩
    obtain ⟨z0, hz0⟩ : ∃ z0, us[0]? = some z0 := ⟨us[0]'(by omega), List.getElem?_eq_getElem (by omega)⟩
    obtain ⟨c0, _, hf0⟩ := paired_get hus hz0
    obtain ⟨p2, r2, us2, rfl, g2, _⟩ := hf0
    refine ⟨_, rfl, p, _, _, _, rfl, rfl, s1.sqT hp, atI_nat (j := 0) hz0, p2, _, _, _, rfl, rfl, s1.sqT g2, atI_nat (j := 0) rfl, _, rfl, r, row, rfl, hrow.tk s1.tk, hx, hl, fun H2 s2 => ?_⟩
    have s12 := s1.trans s2
    refine ⟨_, rfl, p, rfl, ⟨_, s12.sqT hp⟩, ?_⟩
    intro D nD
    refine lcT (fun i y _ => ∃ a, c[i]? = some a ∧ y = .int ((mrun a row).2 : Int)) nD (s12.sqT hp) (Nat.le_of_lt (small1000 (by omega))) (fun i y H3 H4 ys e sb z => z) (fun i y H3 Qn hy sx k => ?_) (fun H3 acc sx e3 el hR => ?_)
    · obtain ⟨a, ha, hf⟩ := paired_get hus hy
      have t3 := (s12.trans sx).tk
      exact ⟨rfl, _, rfl, _, rfl, y, r, a, row, rfl, hf.tk t3, ok.2.2 a (List.mem_of_getElem? ha), hrow.tk t3, hx, fun H4 s4 => k _ _ s4 ⟨a, ha, rfl⟩⟩
    · refine ⟨D, acc, rfl, .inl ⟨SqL.of e3, fun l nl => ?_⟩⟩
      refine q _ l (s12.trans (sx.trans (same_upd nl))) ?_
      rw [upd_same]
      refine congrArg (fun z => some (HO.tup z)) (List.ext_getElem? fun i => ?_)
      rw [List.getElem?_map]
      cases e : acc[i]? with
      | none =>
        have h1 : c[i]? = none := List.getElem?_eq_none (by have := List.getElem?_eq_none_iff.mp e; omega)
        rw [h1]
        rfl
      | some y =>
        obtain ⟨a, ha, hy⟩ := hR i y e
        rw [ha, hy]
        rfl
end
end K43
set_option Elab.async false
set_option linter.all false
set_option maxRecDepth 100000
set_option maxHeartbeats 8000000
namespace K43
open PySem PySem.Spec PyProof.Rows L2
theorem fit_at {c : List Adv} {k : Key} (h : Fit c k) : ∀ {i : Nat} {a : Adv} {q : Nat × Nat}, c[i]? = some a → k[i]? = some q → q.1 < a.length := by
  induction h with
  | nil => intro i a q e; simp at e
  | cons h1 h2 ih =>
    intro i a q e1 e2
    cases i with
    | zero =>
      rw [← Option.some.inj (show some _ = some a from e1), ← Option.some.inj (show some _ = some q from e2)]
      exact h1
    | succ i => exact ih (i := i) (by simpa using e1) (by simpa using e2)
theorem raw_at {c : List Adv} {k : Key} {x i : Nat} {a : Adv} {q : Nat × Nat} (e1 : c[i]? = some a) (e2 : k[i]? = some q) : (raw c k x)[i]? = some (step1 a q x) := by
  unfold raw
  rw [List.getElem?_zipWith, e1, e2]
theorem least_mem : ∀ (k : Key), k ≠ [] → ∃ q ∈ k, q.2 = least k
  | [], h => absurd rfl h
  | [q], _ => ⟨q, .head _, rfl⟩
  | q :: q2 :: r, _ => by
    obtain ⟨z, hz, e⟩ := least_mem (q2 :: r) (List.cons_ne_nil _ _)
    show ∃ y ∈ q :: q2 :: r, y.2 = min q.2 (least (q2 :: r))
    by_cases h : q.2 ≤ least (q2 :: r)
    · exact ⟨q, .head _, by omega⟩
    · exact ⟨z, .tail _ hz, by omega⟩
theorem least_le : ∀ (k : Key) (q : Nat × Nat), q ∈ k → least k ≤ q.2
  | [], q, h => nomatch h
  | [q0], q, h => by
    rw [List.mem_singleton.mp h]
    exact Nat.le_refl _
  | q0 :: q2 :: r, q, h => by
    show min q0.2 (least (q2 :: r)) ≤ q.2
    rcases List.mem_cons.mp h with e | h
    · rw [e]
      exact Nat.min_le_left _ _
    · have := least_le (q2 :: r) q h
      omega
theorem least_int {k : Key} (h0 : k ≠ []) {m : Int} (h1 : m ∈ k.map fun q => (q.2 : Int)) (h2 : ∀ y ∈ k.map (fun q => (q.2 : Int)), m ≤ y) : m = (least k : Int) := by
  obtain ⟨q, hq, e⟩ := least_mem k h0
  obtain ⟨z, hz, ez⟩ := List.mem_map.mp h1
  have a := h2 _ (List.mem_map.mpr ⟨q, hq, rfl⟩)
  have b := least_le k z hz
  have ez2 : (z.2 : Int) = m := ez
  omega
section
variable {P : Program} {w : World} {K : PySem.W.Frag} {mg : Str → Option Value} {base : Heap}
theorem sc_stepped : FnScope ["circle", "key", "letter", "found", "adviser", "state", "gap", "told", "nexts", "least"] ["circle", "key", "letter"] (defScope s_stepped) := ⟨rfl, rfl, rfl, by decide +kernel, rfl, by decide +kernel, by decide +kernel⟩
def spStepped (K : PySem.W.Frag) : Sp := fun vs H Q _ => ∃ (v : V) (ka : Addr) (c : List Adv) (k : Key) (x : Nat), vs = [v, .ref ka, .int (x : Int)] ∧ CirA K H v c ∧ CirOk c ∧ KeyT K H ka k ∧ Fit c k ∧ x < 2 ∧
  ∀ H' p kp, Same H H' → H' p = some (.tup [.ref kp, .int ((stp c k x).2 : Int)]) → KeyT K H' kp (stp c k x).1 → Q (.ref p) H'
theorem c_stepped (T : Tx K mg) : Cal P w K mg base 1 "stepped" ["circle", "key", "letter"] (spStepped K) := by
  obtain ⟨tR, hR⟩ := T.int _ _ fa_RULES
  refine cal_of (d := d_stepped) T in_stepped fa_stepped rfl rfl rfl (fun _ _ _ _ _ _ us hl => match us, hl with | [_, _, _], _ => rfl) sc_stepped (fun vs H Q E h => ?_) (fun f cdv A outer s H vs Q E hr h => ?_)
  · obtain ⟨_, _, _, _, _, rfl, _⟩ := h
    rfl
  · obtain ⟨_, ka, c, k, x, rfl, ⟨p, us, rfl, hp, hus⟩, ok, ⟨ks, hk, hks⟩, fit, hx, q⟩ := h
    have nd := sc_stepped.nd
    have lu : us.length = c.length := Paired.length hus
    have lk : ks.length = k.length := Paired.length hks
    have lck : k.length = c.length := fit_len fit
    have o1 := ok.1
    have o2 := ok.2.1
    have fr := fit_raw ok.2.2 fit x
    have lr : (raw c k x).length = c.length := fit_len fr
    have r0 : raw c k x ≠ [] := fun z => by
      rw [z] at lr
      simp at lr
      omega
    refine ⟨_, pss_cons (ps_set (i := 3) nd rfl (.inl rfl) (pe_lst pa_nil))
      (pss_cons (ps_for PassesOwn.never rfl (RZ.pi_zipA (by rfl) (T.free _ fa_zip) (pa_cons (pv 0) (pa_cons (pv 1) pa_nil)))
          (pg_tup rfl (pgs_cons (pg_name (i := 4) nd rfl (.inl rfl)) (pgs_cons (pg_tup rfl (pgs_cons (pg_name (i := 5) nd rfl (.inl rfl)) (pgs_cons (pg_name (i := 6) nd rfl (.inl rfl)) pgs_nil))) pgs_nil)))
        (pss_cons (ps_asg (pe_ix ix_tup (pe_ix ix_tup (pv 4) (pe_glob (v := .int 1) rfl hR ⟨_, rfl⟩) (fun _ _ => rfl)) (pv 5) (fun _ _ => rfl)) (pg_tup rfl (pgs_cons (pg_name (i := 7) nd rfl (.inl rfl)) (pgs_cons (pg_name (i := 8) nd rfl (.inl rfl)) pgs_nil))))
        (pss_one (ps_expr (pe_bm PySem.F.plainAttrs_list PySem.F.slot_list_append PySem.F.type_list_append mt_append (pv 3) (pa_cons (pe_tup (pa_cons (pe_ix ix_tup (pv 8) (pv 2) (fun _ _ => rfl)) (pa_cons (pe_ifExp (pt_cmpR op_eq (pv 7) (pv 2) (nomark _)) (pv 6) (pe_op op_add (pv 6) pe_int)) pa_nil))) pa_nil))))))
      (pss_cons (ps_set (i := 9) nd rfl (.inr rfl) (pe_callB (cr_min rfl) (by rfl) (T.free _ fa_min) (by decide +kernel) (pa_cons (pe_lc (own := [("state", 5), ("gap", 6)]) (g := gTup K 2 (gCons (gName 5) (gCons (gName 6) gNil))) (tt := tYes) rfl nd (pi_list (pv 3))
          (blkOk_by (N := ["circle", "key", "letter", "found", "adviser", "state", "gap", "told", "nexts", "least"]) (sc := defScope s_stepped) (by decide +kernel)) (fun _ _ _ _ _ => pg_tup rfl (pgs_cons (pg_name (i := 5) nd rfl (Or.inl rfl)) (pgs_cons (pg_name (i := 6) nd rfl (Or.inl rfl)) pgs_nil))) (fun _ _ _ _ _ => pts_nil) (fun _ _ _ _ _ => pv 6)) pa_nil)))
      (pss_one (ps_ret (pe_tup (pa_cons (pe_callTy call_tuple_of (by rfl) (T.free _ fa_tuple) (by decide +kernel) (pa_cons (pe_lc (own := [("state", 5), ("gap", 6)]) (g := gTup K 2 (gCons (gName 5) (gCons (gName 6) gNil))) (tt := tYes) rfl nd (pi_list (pv 3))
          (blkOk_by (N := ["circle", "key", "letter", "found", "adviser", "state", "gap", "told", "nexts", "least"]) (sc := defScope s_stepped) (by decide +kernel)) (fun _ _ _ _ _ => pg_tup rfl (pgs_cons (pg_name (i := 5) nd rfl (Or.inl rfl)) (pgs_cons (pg_name (i := 6) nd rfl (Or.inl rfl)) pgs_nil))) (fun _ _ _ _ _ => pts_nil) (fun _ _ _ _ _ => pe_tup (pa_cons (pv 5) (pa_cons (pe_op op_sub (pv 6) (pv 9)) pa_nil)))) pa_nil)) (pa_cons (pv 9) pa_nil))))))), ?_⟩
    refine ⟨Nat.zero_le _, fun l nl => ?_⟩
    have s1 : Same H (upd H l (.lst [])) := same_upd nl
    refine ⟨_, rfl, _, rfl, p, ka, us, ks, rfl, .inr ⟨s1.sqT hp, s1.sqT hk, RZ.for_zipT (K := K) (xs := us) (ys := ks) (by omega) (fun i σ H2 => Same H H2 ∧ ∃ acc y4 y5 y6 y7 y8, σ = [some (.ref p), some (.ref ka), some (.int (x : Int)), some (.ref l), y4, y5, y6, y7, y8, none] ∧ H2 l = some (.lst acc) ∧ Paired (PairA K H2) acc ((raw c k x).take i))
      ⟨s1, [], none, none, none, none, none, rfl, upd_same, .nil⟩ (fun i σ H2 z => ⟨z.1.sqT hp, z.1.sqT hk⟩) ?_ ?_⟩⟩
    · rintro i x1 y1 T1 σ H2 hx1 hy1 ⟨sm, acc, y4, y5, y6, y7, y8, rfl, hl, hacc⟩ nT
      obtain ⟨a, ha, hA⟩ := paired_get hus hx1
      obtain ⟨kq, hkq, pa, rfl, hpa⟩ := paired_get hks hy1
      have hst := fit_at fit ha hkq
      have oka := ok.2.2 a (List.mem_of_getElem? ha)
      have s2 : Same H2 (upd H2 T1 (.tup [x1, .ref pa])) := same_upd nT
      have s02 := sm.trans s2
      obtain ⟨p2, r2, us2, yr, n, rfl, h1, h2, h3, h4, h5⟩ := adv_at (hA.tk s02.tk) oka hst
      refine ⟨T1, _, rfl, SqT.of upd_same, rfl, _, _, rfl, _, _, rfl, pa, _, rfl, s02.sqT hpa, rfl, _, _, rfl, _, _, rfl, rfl, rfl, ?_⟩
      refine ⟨_, rfl, p2, _, _, _, rfl, rfl, h1, atI_nat (j := 1) rfl, _, rfl, r2, us2, _, _, rfl, rfl, h2, atI_nat h3, yr, _, rfl, h4, rfl, _, _, rfl, _, _, rfl, rfl, ?_⟩
      have hl2 := s2 _ _ hl
      refine ⟨.ref l, rfl, .inl ⟨rfl, _, SqL.of hl2⟩, _, rfl, _, rfl, n, _, _, _, rfl, rfl, h5, atI_nat (nxt_at a _ x hx), ?_⟩
      refine ⟨_, rfl, _, rfl, rfl, _, rfl, ?_⟩
      have er := raw_at (x := x) ha hkq
      have hal : acc.length ≤ 4 := by
        rw [Paired.length hacc, List.length_take]
        omega
      have fin : ∀ (g : Int) (t : Addr), (upd H2 T1 (.tup [.ref p2, .ref pa])) t = none → g = ((step1 a kq x).2 : Int) → Same H (upd (upd (upd H2 T1 (.tup [.ref p2, .ref pa])) t (.tup [.int (nxt a kq.1 x : Int), .int g])) l (.lst (acc ++ [.ref t]))) ∧
          Paired (PairA K (upd (upd (upd H2 T1 (.tup [.ref p2, .ref pa])) t (.tup [.int (nxt a kq.1 x : Int), .int g])) l (.lst (acc ++ [.ref t])))) (acc ++ [.ref t]) ((raw c k x).take (i + 1)) := by
        intro g t nt hg
        have s3 := same_upd (o := .tup [.int (nxt a kq.1 x : Int), .int g]) nt
        have hl3 := s3 _ _ hl2
        have tk3 := (sb_upd l _ (.lst (acc ++ [.ref t]))).tk (NT.lst hl3)
        refine ⟨(((s02.trans s3).sb l).trans (sb_upd l _ _)).same nl, ?_⟩
        rw [List.take_add_one, er]
        refine Paired.app (Paired.mapP hacc fun v z h => (h.tk (s2.trans s3).tk).tk tk3) (.cons ⟨t, rfl, tk3.sqT (SqT.of ?_)⟩ .nil)
        rw [upd_same, hg]
        rfl
      by_cases ht : told a kq.1 = x
      · have d1 : decide (V.int (told a kq.1 : Int) = V.int (x : Int)) = true := decide_eq_true (by rw [ht])
        rw [d1]
        refine iteT ⟨_, rfl, by show 2 ≤ sizeLine; decide, fun t nt => ⟨l, acc, _, rfl, rfl, (same_upd nt) _ _ hl2, Nat.lt_of_le_of_lt hal (by decide), ?_⟩⟩
        obtain ⟨f1, f2⟩ := fin (kq.2 : Int) t nt (by unfold step1; rw [if_pos ht])
        exact ⟨f1, _, _, _, _, _, _, rfl, upd_same, f2⟩
      · have d1 : decide (V.int (told a kq.1 : Int) = V.int (x : Int)) = false := decide_eq_false (fun z => ht (by injection z with z; omega))
        rw [d1]
        refine iteF ⟨_, rfl, _, _, rfl, rfl, by show 2 ≤ sizeLine; decide, fun t nt => ⟨l, acc, _, rfl, rfl, (same_upd nt) _ _ hl2, Nat.lt_of_le_of_lt hal (by decide), ?_⟩⟩
        obtain ⟨f1, f2⟩ := fin ((kq.2 : Int) + 1) t nt (by unfold step1; rw [if_neg ht]; rfl)
        exact ⟨f1, _, _, _, _, _, _, rfl, upd_same, f2⟩
    · rintro σ H2 ⟨sm, acc, y4, y5, y6, y7, y8, rfl, hl, hacc⟩
      rw [lu, ← lr, List.take_length] at hacc
      have hal : acc.length = (raw c k x).length := Paired.length hacc
      refine ⟨_, rfl, l, rfl, ⟨_, SqL.of hl⟩, ?_⟩
      intro D nD
      refine lcL (fun j y _ => ∃ z, (raw c k x)[j]? = some z ∧ y = .int (z.2 : Int)) nD (SqL.of hl) (Nat.le_of_lt (small1000 (by omega))) (fun i y H3 H4 ys e sb z => z) (fun i y H3 Qn hy sx kk => ?_) (fun H3 ac sx e3 el hR3 => ?_)
      · obtain ⟨z, hz, pz, rfl, hpz⟩ := paired_get hacc hy
        exact ⟨pz, _, rfl, sx.sqT hpz, rfl, _, _, rfl, _, _, rfl, rfl, rfl, _, rfl, kk _ _ (Same.refl _) ⟨z, hz, rfl⟩⟩
      · have ea : ac = ((raw c k x).map fun z => (z.2 : Int)).map V.int := by
          refine List.ext_getElem? fun i => ?_
          rw [List.map_map, List.getElem?_map]
          cases e : ac[i]? with
          | none =>
            have h1 : (raw c k x)[i]? = none := List.getElem?_eq_none (by have := List.getElem?_eq_none_iff.mp e; omega)
            rw [h1]
            rfl
          | some y =>
            obtain ⟨z, hz, hy⟩ := hR3 i y e
            rw [hz, hy]
            rfl
        refine ⟨D, _, rfl, SqL.of (by rw [← ea]; exact e3), by rw [List.length_map]; omega, fun m hm1 hm2 => ?_⟩
        have em := least_int r0 hm1 hm2
        subst em
        have hl3 := sx _ _ hl
        have hacc3 : Paired (PairA K H3) acc (raw c k x) := Paired.mapP hacc fun v z h => h.tk sx.tk
        refine ⟨_, rfl, l, rfl, ⟨_, SqL.of hl3⟩, ?_⟩
        intro D2 nD2
        refine lcL (fun j y H5 => ∃ z, (raw c k x)[j]? = some z ∧ PairA K H5 y (z.1, z.2 - least (raw c k x))) nD2 (SqL.of hl3) (Nat.le_of_lt (small1000 (by omega))) (fun i y H4 H5 ys e sb ⟨z, a1, a2⟩ => ⟨z, a1, a2.tk (sb.tk (NT.lst e))⟩) (fun i y H4 Qn hy sx4 kk => ?_) (fun H4 ac4 sx4 e4 el4 hR4 => ?_)
        · obtain ⟨z, hz, pz, rfl, hpz⟩ := paired_get hacc3 hy
          have hle := least_le _ z (List.mem_of_getElem? hz)
          refine ⟨pz, _, rfl, sx4.sqT hpz, rfl, _, _, rfl, _, _, rfl, rfl, rfl, _, rfl, _, rfl, _, rfl, _, _, rfl, rfl, by show 2 ≤ sizeLine; decide, fun t nt => kk _ _ (same_upd nt) ⟨z, hz, t, rfl, SqT.of ?_⟩⟩
          rw [upd_same]
          have e5 : (z.2 : Int) - (least (raw c k x) : Int) = ((z.2 - least (raw c k x) : Nat) : Int) := by omega
          show some (HO.tup [V.int (z.1 : Int), V.int ((z.2 : Int) - (least (raw c k x) : Int))]) = _
          rw [e5]
        · refine ⟨D2, ac4, rfl, .inl ⟨SqL.of e4, fun kp nkp => ?_⟩⟩
          have s5 := same_upd (o := .tup ac4) nkp
          refine ⟨_, rfl, by show 2 ≤ sizeLine; decide, fun t nt => ?_⟩
          have s6 := same_upd (o := .tup [.ref kp, .int (least (raw c k x) : Int)]) nt
          refine q _ t kp (sm.trans (sx.trans (sx4.trans (s5.trans s6)))) upd_same ⟨ac4, s6.sqT (SqT.of upd_same), ?_⟩
          refine paired_of ?_ fun i y z e1 e2 => ?_
          · show ac4.length = ((raw c k x).map fun q => (q.1, q.2 - least (raw c k x))).length
            rw [List.length_map]
            omega
          · obtain ⟨z', hz', hp'⟩ := hR4 i y e1
            have e2' : ((raw c k x).map fun q => (q.1, q.2 - least (raw c k x)))[i]? = some z := e2
            rw [List.getElem?_map, hz'] at e2'
            rw [← Option.some.inj e2']
            exact hp'.tk (s5.trans s6).tk
end
end K43
set_option Elab.async false
set_option linter.all false
set_option maxRecDepth 100000
set_option maxHeartbeats 8000000
/-! the class Lags: layers of keys, lags behind them -/
namespace K43
open PySem PySem.Spec PyProof.Rows L2
/-! ### xs[-2::-1] -/
theorem down_bounds {n : Nat} (h : 1 ≤ n) : sliceBounds (some (-2)) none (some (-1)) n = ((n : Int) - 2, -1, -1) := by
  have e : max (-1 : Int) (min (-2 + (n : Int)) ((n : Int) - 1)) = (n : Int) - 2 := by omega
  show (max (-1 : Int) (min (-2 + (n : Int)) ((n : Int) - 1)), (-1 : Int), (-1 : Int)) = _
  rw [e]
theorem down_pick {items : Array Value} (h : 1 ≤ items.size) : slicePick items (some (-2)) none (some (-1)) = items.toList.dropLast.reverse.toArray := by
  unfold slicePick
  rw [down_bounds h]
  show ((sliceRange ((items.size : Int) - 2) (-1) (-1)).filterMap (items[·]?)).toArray = _
  have e : (items.size : Int) - 2 = ((items.size - 1 : Nat) : Int) - 1 := by omega
  have r := pick_run items 0 (items.size - 1)
  have e2 : (List.range (items.size - 1)).map (0 + ·) = List.range (items.size - 1) := by
    rw [show ((0 + ·) : Nat → Nat) = id from funext fun k => Nat.zero_add k, List.map_id]
  rw [e2, List.drop_zero] at r
  rw [e, PySem.W.krv_sliceRange, PySem.W.krv_range, List.filterMap_reverse, r, List.dropLast_eq_take, Array.length_toList]
def tDown (K : PySem.W.Frag) (te : TE) : TE := fun σ H Q => te σ H fun x H1 => ∃ a xs, x = .ref a ∧ SqL K H1 a xs ∧ 1 ≤ xs.length ∧ ∀ p, H1 p = none → Q (.ref p) (upd H1 p (.lst xs.dropLast.reverse))
theorem vals_init {vs : List V} {us : List Value} (r : Vals vs us) : Vals vs.dropLast us.dropLast := by
  rw [List.dropLast_eq_take, List.dropLast_eq_take, ← r.length]
  exact r.take _
section
variable {X : Cx}
theorem pe_down {e : Expr} {te : TE} {k k2 : Nat} {p1 p2 p3 p4 p5 pos : Pos} (he : PE X e te) : PE X (.Subscript e (.Slice (some (.UnaryOp .USub (.Constant (.int 2) k2 p4) p5)) none (some (.UnaryOp .USub (.Constant (.int 1) k p1) p2)) p3) pos) (tDown X.K te) := by
  refine ⟨fun pins s σ H Q I h => ?_⟩
  refine Subscript_ (thn (he.run pins s σ H _ I h) fun v s1 ⟨x, H1, I1, r1, a, xs, ex, hx, hn, q⟩ => ?_)
  subst ex
  cases r1
  have ha : PO X (some (.UnaryOp .USub (.Constant (.int 2) k2 p4) p5)) (tPart (tUn (rU fun i => .int (-i)) (tC (.int 2)))) := po_some (pe_un un_neg pe_int)
  have hst : PO X (some (.UnaryOp .USub (.Constant (.int 1) k p1) p2)) (tPart (tUn (rU fun i => .int (-i)) (tC (.int 1)))) := po_some (pe_un un_neg pe_int)
  refine wpAny_Slice (thn (ha.run pins s1 σ H1 (fun o H2 => o = some (-2) ∧ H2 = H1) I1 ⟨2, rfl, -2, rfl, rfl, rfl⟩) fun vl s2 ⟨l, H2, I2, pl, el, e2⟩ => ?_)
  subst el e2
  refine thn (po_none.run pins s2 σ H2 (fun o H3 => o = none ∧ H3 = H2) I2 ⟨rfl, rfl⟩) fun vu s3 ⟨u, H3, I3, pu, eu, e3⟩ => ?_
  subst eu e3
  refine thn (hst.run pins s3 σ H3 (fun o H4 => o = some (-1) ∧ H4 = H3) I3 ⟨1, rfl, -1, rfl, rfl, rfl⟩) fun vs s4 ⟨o, H4, I4, ps, eo, e4⟩ => ?_
  subst eo e4
  have I5 : Inv X pins σ H4 { s4 with heap := s4.heap.push { cls := .type "slice", data := .fields #[vl, vu, vs] } } := I4.kept (t' := s4.toks) fun b ob q => Heap.get?_push_of_some _ q
  obtain ⟨its, r, ht, hz⟩ := I5.list hx
  have hlen := r.length
  refine tail_any (ops := [.ref a, .ref s4.heap.objs.size]) ht.isList.typeIs (PySem.slot_list_getitem.lookup) ?_ (by with_unfolding_all rfl)
  refine wpAny_getItem_list_slice ht.isList (Heap.IsSliceOf.new _ vl vu vs) pl pu ps (by decide) ?_ (by rw [List.size_toArray]; omega)
  rw [down_pick (by rw [List.size_toArray]; omega)]
  refine ⟨.ref _, _, I5.laid (t' := s4.toks) (o := .lst xs.dropLast.reverse) (fun b ob q => Heap.get?_push_of_some _ q) (Nat.le_refl _) ?_, rfl, q _ (I5.hok.fresh (Nat.le_refl _))⟩
  exact ⟨by rw [List.length_reverse, List.length_dropLast]; omega, _, 0, (vals_init r).reverse, Heap.get?_push_size _ rfl⟩
end
/-! ### methods -/
section
variable {P : Program} {w : World} {K : PySem.W.Frag} {mg : Str → Option Value} {base : Heap}
theorem met_of {d : He.DefD} {N ps : List Str} {m : Str} {k : Nat} {sp : Sp} (T : Tx K mg) (hd : d ∈ fn) (hat : d.at_ = (("Lags" : Str), some m)) (h1 : d.dfl = []) (h2 : d.kwd = [])
    (hb : ∀ (kV doc pm : Value) (an : Option Addr) (cdv ct : Value) (us : List Value), us.length = ps.length → bindArgs (PySem.W.fnOf d.name d.qual d.params d.body d.scope .none kV doc pm an cdv ct) ⟨us, []⟩ = pure (ps.zip us))
    (S : FnScope N ps d.scope) (len : ∀ vs H Q E, sp vs H Q E → vs.length = ps.length)
    (hbody : ∀ (f : Addr) (cdv : Value) (A : Around) (outer : List Env) (s : Shared) (H : Hp) (vs : List V) (Q : VK) (E : XK), Room k (A.deeper (envOfC d.qual d.scope s.heap.objs.size f cdv)) → sp vs H Q E →
      ∃ t, PSs (cxOf CX0 P w K mg base N d.qual d.scope f cdv A outer s H E).nox d.body t ∧ t { nx := fun _ H' => Q .non H', rt := Q } (start N vs) H) :
    ∃ fd, FnOk P w K mg base CX0 (k + 1) (He.ma K (He.ga K "Lags") m) fd ps sp ∧ Binds K fd ps [] := by
  obtain ⟨fd, F⟩ := T.fn d hd
  have e1 : d.dvs K = [] := by unfold He.DefD.dvs; rw [h1]; rfl
  have e2 : d.kws K = [] := by unfold He.DefD.kws; rw [h2]; rfl
  rw [e1] at F
  have ef : He.fAd K d.at_ = He.ma K (He.ga K "Lags") m := by rw [hat]; rfl
  rw [ef] at F
  refine ⟨fd, F.ok S len (fun cdv A outer s H vs Q E hr h => ?_), F.bindsN hb⟩
  obtain ⟨t, p, q⟩ := hbody _ cdv A outer s H vs Q E hr h
  exact ⟨t, p.nox, q⟩
end
/-! ### keys that can be reached -/
def beginK (c : List Adv) : Key := c.map fun _ => (0, 0)
inductive Rea (c : List Adv) : Nat → Key → Prop where
  | zero : Rea c 0 (beginK c)
  | succ {j : Nat} {k : Key} {x : Nat} : Rea c j k → x < 2 → Rea c (j + 1) (stp c k x).1
theorem begin_fit {c : List Adv} (h : ∀ a ∈ c, AdvOk a) : Fit c (beginK c) := by
  induction c with
  | nil => exact .nil
  | cons a c ih => exact .cons (h a (.head _)).1 (ih fun b hb => h b (.tail _ hb))
theorem begin_low : ∀ c : List Adv, least (beginK c) = 0
  | [] => rfl
  | [_] => rfl
  | a :: b :: c => by
    show min 0 (least (beginK (b :: c))) = 0
    omega
theorem Rea.ok {c : List Adv} (hc : CirOk c) {j : Nat} {k : Key} (h : Rea c j k) : KeyOk c k := by
  induction h with
  | zero => exact ⟨begin_fit hc.2.2, begin_low c⟩
  | succ _ _ ih => exact (key_stp hc ih _).1
theorem keys_put {κ : Type} [DecidableEq κ] (kvs : List (κ × V)) (k : κ) (v : V) (j : κ) : j ∈ (putK kvs k v).map (·.1) ↔ j ∈ kvs.map (·.1) ∨ j = k := by
  constructor
  · intro h
    cases e : valV (putK kvs k v) j with
    | none => exact absurd h (valV_not e)
    | some y =>
      rw [valV_put] at e
      by_cases q : j = k
      · exact .inr q
      · rw [if_neg q] at e
        exact .inl (valV_in e)
  · intro h
    have e : ∃ y, valV (putK kvs k v) j = some y := by
      rw [valV_put]
      by_cases q : j = k
      · exact ⟨v, by rw [if_pos q]⟩
      · rw [if_neg q]
        cases e : valV kvs j with
        | none => exact absurd (h.resolve_right q) (valV_not e)
        | some y => exact ⟨y, rfl⟩
    obtain ⟨y, e⟩ := e
    exact valV_in e
theorem key_val {κ : Type} [DecidableEq κ] {kvs : List (κ × V)} {k : κ} (h : k ∈ kvs.map (·.1)) : ∃ v, valV kvs k = some v := by
  cases e : valV kvs k with
  | none => exact absurd h (valV_not e)
  | some v => exact ⟨v, rfl⟩
section
variable {P : Program} {w : World} {K : PySem.W.Frag} {H H' : Hp}
/-- the dict at d has just the keys of the j'th layer -/
def LayD (P : Program) (w : World) (K : PySem.W.Frag) (H : Hp) (d : Addr) (c : List Adv) (j : Nat) : Prop := ∃ kvs : List (Key × V), ND P w K H d kvs ∧ kvs.length ≤ 2 ^ j ∧ ∀ k, k ∈ kvs.map (·.1) ↔ Rea c j k
/-- the dict at d tells the lags of the keys for which p holds, with m letters left -/
def LagD (P : Program) (w : World) (K : PySem.W.Frag) (H : Hp) (d : Addr) (c : List Adv) (m : Nat) (p : Key → Prop) : Prop := ∃ kvs : List (Key × V), ND P w K H d kvs ∧ ∀ k, p k → ∃ v, valV kvs k = some v ∧ FrA K H v (Lv c m k)
theorem ND.keep {d : Addr} {kvs : List (Key × V)} (h : ND P w K H d kvs) (e : ∀ o, H d = some (obHO d o) → H' d = some (obHO d o)) (t : TupK H H') : ND P w K H' d kvs := let ⟨o, q⟩ := h; ⟨o, q.keep (e o q.1) t⟩
theorem LayD.same {d : Addr} {c : List Adv} {j : Nat} (h : LayD P w K H d c j) (s : Same H H') : LayD P w K H' d c j := let ⟨kvs, a, b⟩ := h; ⟨kvs, a.same s, b⟩
theorem LagD.same {d : Addr} {c : List Adv} {m : Nat} {p : Key → Prop} (h : LagD P w K H d c m p) (s : Same H H') : LagD P w K H' d c m p :=
  let ⟨kvs, a, b⟩ := h; ⟨kvs, a.same s, fun k hk => let ⟨v, e, f⟩ := b k hk; ⟨v, e, f.same s⟩⟩
end
/-! ### a loop over such a dict -/
theorem for_keysN {P : Program} {w : World} {K : PySem.W.Frag} {d : Addr} {o : Obj} {kvs : List (Key × V)} {g : TG} {tb : TS} {D : Ends} {σ : L2.St} {H : Hp} (Pv : Nat → L2.St → Hp → Prop) (h0 : Pv 0 σ H) (hl : ∀ i σ H, Pv i σ H → NDO P w K H d o kvs)
    (hs : ∀ (i : Nat) k v b σ H, kvs[i]? = some (k, v) → KeyT K H b k → Pv i σ H → g (.ref b) σ H fun σ2 H2 => tb { D with nx := Pv (i + 1), ct := Pv (i + 1), bk := D.nx } σ2 H2) (hd : ∀ σ H, Pv kvs.length σ H → D.nx σ H) :
    ∃ W : Nat → Nat → L2.St → Hp → Prop, (∃ m, W 0 m σ H) ∧ ∀ i m σ H, W i m σ H →
      ((Itn P w K d o kvs).stop i H ∧ D.nx σ H) ∨ ((Itn P w K d o kvs).go i H ∧ ∃ N : L2.St → Hp → Prop, (∀ σ' H', N σ' H' → ∃ m', m' < m ∧ W (i + 1) m' σ' H') ∧ ∀ x H', (Itn P w K d o kvs).yld i H x H' → g x σ H' fun σ2 H2 => tb { D with nx := N, ct := N, bk := D.nx } σ2 H2) := by
  refine ⟨fun i m σ H => m = kvs.length - i ∧ i ≤ kvs.length ∧ Pv i σ H, ⟨kvs.length, by simp, Nat.zero_le _, h0⟩, ?_⟩
  rintro i m σ H ⟨rfl, hi, p⟩
  have q := hl i σ H p
  by_cases hlt : i < kvs.length
  · refine .inr ⟨⟨q, hlt⟩, Pv (i + 1), fun σ' H' p' => ⟨kvs.length - (i + 1), by omega, rfl, hlt, p'⟩, fun x H' y => ?_⟩
    obtain ⟨e, k, v, b, e1, e2, e3⟩ := y
    subst e e2
    exact hs i k v b σ _ e1 e3 p
  · have e : i = kvs.length := by omega
    subst e
    exact .inl ⟨⟨q, Nat.le_refl _⟩, hd σ H p⟩
end K43
set_option Elab.async false
set_option linter.all false
set_option maxRecDepth 100000
set_option maxHeartbeats 400000
namespace K43
open PySem PySem.Spec PyProof.Rows L2
theorem nat_rep (n : Nat) : rep (n : Rat) = [.int (n : Int), .int 1] := by
  show [V.int ((n : Rat).num), V.int (((n : Rat).den : Nat) : Int)] = _
  rw [Rat.num_natCast, Rat.den_natCast]
  rfl
theorem two_snoc {α : Type} (f : Nat → α) {i : Nat} (h : i < 2) : ([0, 1].take (i + 1)).map f = (([0, 1].take i).map f) ++ [f i] := by
  match i, h with
  | 0, _ => rfl
  | 1, _ => rfl
section
variable {P : Program} {w : World} {K : PySem.W.Frag} {mg : Str → Option Value} {base : Heap}
/-- the circle's first adviser's size -/
theorem cir_head {H : Hp} {v : V} {c : List Adv} (h : CirA K H v c) (ok : CirOk c) : ∃ p us p2 r2, v = .ref p ∧ SqT K H p us ∧ us[0]? = some (.ref p2) ∧ SqT K H p2 [.int 2, .ref r2] := by
  obtain ⟨p, us, rfl, hp, hus⟩ := h
  have hul : us.length = c.length := Paired.length hus
  have o1 := ok.1
  obtain ⟨z0, hz0⟩ : ∃ z0, us[0]? = some z0 := ⟨us[0]'(by omega), List.getElem?_eq_getElem (by omega)⟩
  obtain ⟨c0, _, hf0⟩ := paired_get hus hz0
  obtain ⟨p2, r2, us2, rfl, g2, _⟩ := hf0
  exact ⟨p, us, p2, r2, rfl, hp, hz0, g2⟩
theorem sc_worths : FnScope ["self", "key", "later", "found", "letter", "there", "rise"] ["self", "key", "later"] (defScope s_Lags_worths) := ⟨rfl, rfl, rfl, by decide +kernel, rfl, by decide +kernel, by decide +kernel⟩
def spWorths (P : Program) (w : World) (K : PySem.W.Frag) : Sp := fun vs H Q _ => ∃ (p dx ka d : Addr) (fs : List (Str × V)) (v : V) (c : List Adv) (k : Key) (m : Nat), vs = [.ref p, .ref ka, .ref d] ∧ H p = some (.ins (He.ga K "Lags") dx fs) ∧ fs.lookup ("circle" : Str) = some v ∧
  CirA K H v c ∧ CirOk c ∧ KeyT K H ka k ∧ KeyOk c k ∧ m ≤ 10 ∧ LagD P w K H d c m (fun q => ∃ x, x < 2 ∧ q = (stp c k x).1) ∧ ∀ H' v', Same H H' → WoA K H' v' (wr c m k 0) (wr c m k 1) → Q v' H'
theorem m_worths (T : Tx K mg) : ∃ fd, FnOk P w K mg base CX0 3 (He.ma K (He.ga K "Lags") "worths") fd ["self", "key", "later"] (spWorths P w K) ∧ Binds K fd ["self", "key", "later"] [] := by
  obtain ⟨tS, hS⟩ := T.int _ _ fa_SIZE
  refine met_of (d := d_Lags_worths) T in_Lags_worths rfl rfl rfl (fun _ _ _ _ _ _ us hl => match us, hl with | [_, _, _], _ => rfl) sc_worths (fun vs H Q E h => ?_) (fun f cdv A outer s H vs Q E hr h => ?_)
  · obtain ⟨_, _, _, _, _, _, _, _, _, rfl, _⟩ := h
    rfl
  · obtain ⟨p, dx, ka, d, fs, v, c, k, m, rfl, hp, hf, hC, ok, hk, kok, hm, ⟨kvs, hd, hlag⟩, q⟩ := h
    have nd := sc_worths.nd
    have hu := hr.units
    refine ⟨_, pss_cons (ps_set (i := 3) nd rfl (.inl rfl) (pe_lst pa_nil))
      (pss_cons (ps_for PassesOwn.never rfl (pi_range1 (by rfl) (T.free _ fa_range) (pa_cons (pe_ix ix_tup (pe_ix ix_tup (pe_fld (pv 0) rfl) pe_int (fun _ _ => rfl)) (pe_glob (v := .int 0) rfl hS ⟨_, rfl⟩) (fun _ _ => rfl)) pa_nil)) (pg_name (i := 4) nd rfl (.inl rfl))
        (pss_cons (ps_asg (pe_cal (c_stepped T) (hr.mono (by decide)) (pa_cons (pe_fld (pv 0) rfl) (pa_cons (pv 1) (pa_cons (pv 4) pa_nil)))) (pg_tup rfl (pgs_cons (pg_name (i := 5) nd rfl (.inl rfl)) (pgs_cons (pg_name (i := 6) nd rfl (.inl rfl)) pgs_nil))))
        (pss_one (ps_expr (pe_bm PySem.F.plainAttrs_list PySem.F.slot_list_append PySem.F.type_list_append mt_append (pv 3) (pa_cons (pe_cal (c_minus T) hr (pa_cons (pe_dgetN hu (pv 2) (pv 5) (fun _ _ => rfl)) (pa_cons (pe_tup (pa_cons (pv 6) (pa_cons pe_int pa_nil))) pa_nil))) pa_nil))))))
      (pss_one (ps_ret (pe_callTy call_tuple_of (by rfl) (T.free _ fa_tuple) (by decide +kernel) (pa_cons (pv 3) pa_nil))))), ?_⟩
    refine ⟨Nat.zero_le _, fun l nl => ?_⟩
    have s1 : Same H (upd H l (.lst [])) := same_upd nl
    obtain ⟨cp, us, p2, r2, rfl, h1, h2, h3⟩ := cir_head hC ok
    refine ⟨_, rfl, p, _, dx, fs, _, rfl, s1 _ _ hp, T.cls, T.nC, hf, cp, _, _, _, rfl, rfl, s1.sqT h1, atI_nat (j := 0) h2, p2, _, _, _, rfl, rfl, s1.sqT h3, atI_nat (j := 0) rfl, 2, rfl, by decide, by decide, ?_⟩
    refine for_range (lo := 0) (n := 2) (fun i σ H2 => Same H H2 ∧ ∃ y4 y5 y6 acc, σ = [some (.ref p), some (.ref ka), some (.ref d), some (.ref l), y4, y5, y6] ∧ H2 l = some (.lst acc) ∧ Paired (FrA K H2) acc (([0, 1].take i).map (wr c m k)))
      ⟨s1, none, none, none, [], rfl, upd_same, .nil⟩ ?_ ?_
    · rintro i σ H2 hi ⟨sm, y4, y5, y6, acc, rfl, hl, hacc⟩
      rw [Int.zero_add]
      refine ⟨_, rfl, p, _, dx, fs, _, rfl, sm _ _ hp, T.cls, T.nC, hf, _, rfl, _, rfl, _, ka, c, k, i, rfl, hC.tk sm.tk, ok, hk.tk sm.tk, kok.fit, hi, fun H3 tp kp s3 htp hkp => ?_⟩
      refine ⟨tp, _, rfl, SqT.of htp, rfl, _, _, rfl, _, _, rfl, rfl, ?_⟩
      have s03 := sm.trans s3
      have hl3 := s3 _ _ hl
      obtain ⟨v1, e1, f1⟩ := hlag (stp c k i).1 ⟨i, hi, rfl⟩
      obtain ⟨ko, kr⟩ := key_stp ok kok i
      refine ⟨.ref l, rfl, .inl ⟨rfl, _, SqL.of hl3⟩, _, rfl, _, rfl, d, kvs, _, kp, v1, rfl, rfl, hd.same s03, hkp, e1, _, rfl, by show 2 ≤ sizeLine; decide, fun t nt => ?_⟩
      have s4 := same_upd (o := .tup [.int ((stp c k i).2 : Int), .int 1]) nt
      refine ⟨v1, .ref t, Lv c m (stp c k i).1, ((stp c k i).2 : Rat), rfl, (f1.same s03).same s4, ⟨t, rfl, SqT.of (by rw [nat_rep]; exact upd_same)⟩, (Lv_sh ok hm ko).sm.bd (by decide), ((Sh.nat (stp c k i).2).mono (by omega : _ ≤ 2048)).sm.bd (by decide), fun H5 fp s5 hfp => ?_⟩
      have s25 := s3.trans (s4.trans s5)
      have hl5 := s25 _ _ hl
      refine ⟨l, acc, _, rfl, rfl, hl5, ?_, ?_⟩
      · have : acc.length ≤ 2 := by
          rw [Paired.length hacc, List.length_map, List.length_take]
          exact Nat.min_le_right _ _
        exact Nat.lt_of_le_of_lt this (by decide)
      · have tk := (sb_upd l H5 (.lst (acc ++ [.ref fp]))).tk (NT.lst hl5)
        refine ⟨(((sm.trans s25).sb l).trans (sb_upd l H5 _)).same nl, _, _, _, _, rfl, upd_same, ?_⟩
        rw [two_snoc (wr c m k) hi]
        exact Paired.app (Paired.mapP hacc fun v c h => (h.same s25).tk tk) (.cons ((FrA.of hfp).tk tk) .nil)
    · rintro σ H2 ⟨sm, y4, y5, y6, acc, rfl, hl, hacc⟩
      refine ⟨_, rfl, l, acc, rfl, .inl ⟨SqL.of hl, fun t nt => ?_⟩⟩
      have s2 := same_upd (o := .tup acc) nt
      refine q _ _ (sm.trans s2) ?_
      have hacc' : Paired (FrA K H2) acc [wr c m k 0, wr c m k 1] := hacc
      cases hacc' with
      | cons f0 r =>
        cases r with
        | cons f1 r =>
          cases r
          exact ⟨t, _, _, rfl, SqT.of upd_same, f0.same s2, f1.same s2⟩
end
end K43
set_option Elab.async false
set_option linter.all false
set_option maxRecDepth 100000
set_option maxHeartbeats 1000000
namespace K43
open PySem PySem.Spec PyProof.Rows L2
/-- the keys one letter behind the first i of some -/
def InB (c : List Adv) (kvs : List (Key × V)) (i : Nat) (k : Key) : Prop := ∃ q, q ∈ (kvs.take i).map (·.1) ∧ ∃ x, x < 2 ∧ k = (stp c q x).1
theorem inb_zero {c : List Adv} {kvs : List (Key × V)} {k : Key} : ¬ InB c kvs 0 k := fun ⟨q, h, _⟩ => by simp at h
theorem inb_succ {c : List Adv} {kvs : List (Key × V)} {i : Nat} {k q : Key} {v : V} (e : kvs[i]? = some (q, v)) : InB c kvs (i + 1) k ↔ InB c kvs i k ∨ ∃ x, x < 2 ∧ k = (stp c q x).1 := by
  unfold InB
  rw [List.take_add_one, e, List.map_append]
  constructor
  · rintro ⟨q', h, x, hx, rfl⟩
    rcases List.mem_append.mp h with h | h
    · exact .inl ⟨q', h, x, hx, rfl⟩
    · have z : q' = q := List.mem_singleton.mp h
      rw [z]
      exact .inr ⟨x, hx, rfl⟩
  · rintro (⟨q', h, x, hx, rfl⟩ | ⟨x, hx, rfl⟩)
    · exact ⟨q', List.mem_append.mpr (.inl h), x, hx, rfl⟩
    · exact ⟨q, List.mem_append.mpr (.inr (List.mem_singleton.mpr rfl)), x, hx, rfl⟩
theorem inb_all {c : List Adv} {kvs : List (Key × V)} {j : Nat} (h : ∀ k, k ∈ kvs.map (·.1) ↔ Rea c j k) (k : Key) : InB c kvs kvs.length k ↔ Rea c (j + 1) k := by
  unfold InB
  rw [List.take_length]
  constructor
  · rintro ⟨q, hq, x, hx, rfl⟩
    exact .succ ((h q).mp hq) hx
  · intro r
    cases r with
    | succ r hx => exact ⟨_, (h _).mpr r, _, hx, rfl⟩
theorem lt_succ_or {c : List Adv} {q k : Key} {j : Nat} : (∃ x, x < j + 1 ∧ k = (stp c q x).1) ↔ (∃ x, x < j ∧ k = (stp c q x).1) ∨ k = (stp c q j).1 := by
  constructor
  · rintro ⟨x, hx, rfl⟩
    by_cases e : x = j
    · rw [e]; exact .inr rfl
    · exact .inl ⟨x, by omega, rfl⟩
  · rintro (⟨x, hx, rfl⟩ | rfl)
    · exact ⟨x, by omega, rfl⟩
    · exact ⟨j, by omega, rfl⟩
theorem pow_le10 {j : Nat} (h : j ≤ 10) : 2 ^ j ≤ 1024 := Nat.pow_le_pow_right (by decide) h
section
variable {P : Program} {w : World} {K : PySem.W.Frag} {mg : Str → Option Value} {base : Heap}
theorem sc_behind : FnScope ["self", "layer", "found", "key", "letter"] ["self", "layer"] (defScope s_Lags_behind) := ⟨rfl, rfl, rfl, by decide +kernel, rfl, by decide +kernel, by decide +kernel⟩
def spBehind (P : Program) (w : World) (K : PySem.W.Frag) : Sp := fun vs H Q _ => ∃ (p dx d : Addr) (fs : List (Str × V)) (v : V) (c : List Adv) (j : Nat), vs = [.ref p, .ref d] ∧ H p = some (.ins (He.ga K "Lags") dx fs) ∧ fs.lookup ("circle" : Str) = some v ∧
  CirA K H v c ∧ CirOk c ∧ LayD P w K H d c j ∧ j ≤ 9 ∧ ∀ H' d', Same H H' → LayD P w K H' d' c (j + 1) → Q (.ref d') H'
theorem m_behind (T : Tx K mg) : ∃ fd, FnOk P w K mg base CX0 2 (He.ma K (He.ga K "Lags") "behind") fd ["self", "layer"] (spBehind P w K) ∧ Binds K fd ["self", "layer"] [] := by
  obtain ⟨tS, hS⟩ := T.int _ _ fa_SIZE
  obtain ⟨tM, hM⟩ := T.int _ _ fa_MOST_KEYS
  refine met_of (d := d_Lags_behind) T in_Lags_behind rfl rfl rfl (fun _ _ _ _ _ _ us hl => match us, hl with | [_, _], _ => rfl) sc_behind (fun vs H Q E h => ?_) (fun f cdv A outer s H vs Q E hr h => ?_)
  · obtain ⟨_, _, _, _, _, _, _, rfl, _⟩ := h
    rfl
  · obtain ⟨p, dx, d, fs, v, c, j, rfl, hp, hf, hC, ok, ⟨kvs, ⟨o, hd⟩, hln, hks⟩, hj, q⟩ := h
    have nd := sc_behind.nd
    have hu := hr.units
    refine ⟨_, pss_cons (ps_set (i := 2) nd rfl (.inl rfl) pe_dnewN)
      (pss_cons (ps_for PassesOwn.never rfl (pi_keysN (pv 1)) (pg_name (i := 3) nd rfl (.inl rfl))
        (pss_cons (ps_for PassesOwn.never rfl (pi_range1 (by rfl) (T.free _ fa_range) (pa_cons (pe_ix ix_tup (pe_ix ix_tup (pe_fld (pv 0) rfl) pe_int (fun _ _ => rfl)) (pe_glob (v := .int 0) rfl hS ⟨_, rfl⟩) (fun _ _ => rfl)) pa_nil)) (pg_name (i := 4) nd rfl (.inl rfl))
          (pss_one (ps_dputN hu (pv 2) (pe_ix ix_tup (pe_cal (c_stepped T) hr (pa_cons (pe_fld (pv 0) rfl) (pa_cons (pv 3) (pa_cons (pv 4) pa_nil)))) pe_int (fun _ _ => rfl)) pe_bl (by rfl))))
        (pss_one (ps_if (pt_cmpR op_gt (pe_callB call_lenN (by rfl) (T.free _ fa_len) PySem.boot_len (pa_cons (pv 2) pa_nil)) (pe_glob (v := .int 3000) rfl hM ⟨_, rfl⟩) (nomark _)) (pss_one ps_never) pss_nil))))
      (pss_one (ps_ret (pv 2)))), ?_⟩
    have hln2 : kvs.length ≤ 512 := Nat.le_trans hln (Nat.pow_le_pow_right (by decide) hj)
    refine fun D H1 nD s1 hD => ?_
    obtain ⟨cp, us, p2, r2, rfl, h1, h2, h3⟩ := cir_head hC ok
    refine ⟨_, rfl, d, o, kvs, rfl, hd.same s1, ?_⟩
    refine for_keysN (fun i σ H2 => Same H H2 ∧ ∃ y3 y4 acc, σ = [some (.ref p), some (.ref d), some (.ref D), y3, y4] ∧ ND P w K H2 D acc ∧ acc.length ≤ 2 * i ∧ ∀ k, k ∈ acc.map (·.1) ↔ InB c kvs i k)
      ⟨s1, none, none, [], rfl, hD, Nat.le_refl _, fun k => ⟨fun z => (List.not_mem_nil z).elim, fun z => (inb_zero z).elim⟩⟩ (fun i σ H2 z => hd.same z.1) ?_ ?_
    · rintro i kq vq b σ H2 hi hb ⟨sm, y3, y4, acc, rfl, hnd, hal, hak⟩
      have hi2 : i < kvs.length := (List.getElem?_eq_some_iff.mp hi).1
      have hrea : Rea c j kq := (hks kq).mp (List.mem_map.mpr ⟨_, List.mem_of_getElem? hi, rfl⟩)
      have kok := hrea.ok ok
      refine ⟨_, rfl, p, _, dx, fs, _, rfl, sm _ _ hp, T.cls, T.nC, hf, cp, _, _, _, rfl, rfl, sm.sqT h1, atI_nat (j := 0) h2, p2, _, _, _, rfl, rfl, sm.sqT h3, atI_nat (j := 0) rfl, 2, rfl, by decide, by decide, ?_⟩
      refine for_range (lo := 0) (n := 2) (fun x σ H3 => Same H H3 ∧ TupK H2 H3 ∧ ∃ y4 acc, σ = [some (.ref p), some (.ref d), some (.ref D), some (.ref b), y4] ∧ ND P w K H3 D acc ∧ acc.length ≤ 2 * i + x ∧ ∀ k, k ∈ acc.map (·.1) ↔ InB c kvs i k ∨ ∃ z, z < x ∧ k = (stp c kq z).1)
        ⟨sm, TupK.refl _, y4, acc, rfl, hnd, hal, fun k => ⟨fun z => .inl ((hak k).mp z), fun z => z.elim (hak k).mpr fun ⟨_, l, _⟩ => (Nat.not_lt_zero _ l).elim⟩⟩ ?_ ?_
      · rintro x σ H3 hx ⟨sm3, tk3, y4', acc3, rfl, hnd3, hal3, hak3⟩
        rw [Int.zero_add]
        refine ⟨_, rfl, _, rfl, p, _, dx, fs, _, rfl, sm3 _ _ hp, T.cls, T.nC, hf, _, rfl, _, rfl, _, b, c, kq, x, rfl, hC.tk sm3.tk, ok, hb.tk tk3, kok.fit, hx, fun H4 tp kp s4 htp hkp => ?_⟩
        refine ⟨tp, _, _, _, rfl, rfl, SqT.of htp, atI_nat (j := 0) rfl, D, acc3, _, kp, rfl, rfl, hnd3.same s4, hkp, ?_, fun H5 sb hnd5 => ?_⟩
        · exact Nat.lt_of_le_of_lt (show acc3.length ≤ 1024 by omega) (by decide)
        · refine ⟨((sm3.trans s4).sb D |>.trans sb).same nD, tk3.trans (s4.tk.trans (sb.tk (hnd3.same s4).nt)), _, _, rfl, hnd5, ?_, fun k => ?_⟩
          · have := length_putK acc3 (stp c kq x).1 (V.bl true)
            omega
          · rw [keys_put, hak3, lt_succ_or, or_assoc]
      · rintro σ H3 ⟨sm3, tk3, y4', acc3, rfl, hnd3, hal3, hak3⟩
        refine ⟨_, rfl, D, acc3, rfl, hnd3, _, _, rfl, rfl, _, rfl, ?_⟩
        have e1 : decide ((3000 : Int) < (acc3.length : Int)) = false := decide_eq_false (by omega)
        rw [e1]
        refine iteF ⟨sm3, _, _, _, rfl, hnd3, by omega, fun k => ?_⟩
        rw [hak3, inb_succ hi]
    · rintro σ H2 ⟨sm, y3, y4, acc, rfl, hnd, hal, hak⟩
      refine ⟨_, rfl, q H2 D sm ⟨acc, hnd, ?_, fun k => ?_⟩⟩
      · rw [Nat.pow_succ]; omega
      · rw [hak, inb_all hks]
end
end K43
set_option Elab.async false
set_option linter.all false
set_option maxRecDepth 100000
set_option maxHeartbeats 1000000
namespace K43
open PySem PySem.Spec PyProof.Rows L2
/-! ### all but one object and the tables -/
def EB (D : Addr) (H H' : Hp) : Prop := ∀ b o, b ≠ D → H b = some o → (∀ ps, o ≠ .tbl ps) → H' b = some o
theorem EB.refl (D : Addr) (H : Hp) : EB D H H := fun _ _ _ h _ => h
theorem EB.trans {D : Addr} {H H1 H2 : Hp} (a : EB D H H1) (b : EB D H1 H2) : EB D H H2 := fun c o n h t => b c o n (a c o n h t) t
theorem _root_.LamX.ExtN.eb {H H' : Hp} (s : LamX.ExtN H H') (D : Addr) : EB D H H' := fun b o _ h t => s b o h t
theorem SB.eb {D : Addr} {H H' : Hp} (s : SB D H H') : EB D H H' := fun b o n h _ => s b o n h
theorem EB.ext {D : Addr} {H H' : Hp} (s : EB D H H') (h : H D = none) : ExtN H H' := fun b o e t => s b o (ne_of_none e h) e t
/-- dicts and tuples stand -/
structure Kp (H H' : Hp) : Prop where
  d : ∀ d o, H d = some (obHO d o) → H' d = some (obHO d o)
  t : TupK H H'
theorem Kp.refl (H : Hp) : Kp H H := ⟨fun _ _ h => h, TupK.refl H⟩
theorem Kp.trans {H H1 H2 : Hp} (a : Kp H H1) (b : Kp H1 H2) : Kp H H2 := ⟨fun d o h => b.d d o (a.d d o h), a.t.trans b.t⟩
theorem _root_.LamX.ExtN.kp {H H' : Hp} (s : LamX.ExtN H H') : Kp H H' := ⟨fun d o h => s _ _ h (fun ps z => by cases z), s.tk⟩
theorem _root_.L2.Same.kp {H H' : Hp} (s : Same H H') : Kp H H' := s.ext.kp
theorem EB.tk {H H' : Hp} {D : Addr} (s : EB D H H') (n : NT H D) : TupK H H' := fun b xs h => by
  have nb : b ≠ D := fun z => n xs (by rw [← z]; exact h)
  rcases h with h | ⟨o, h⟩
  · exact .inl (s _ _ nb h (fun ps z => by cases z))
  · exact .inr ⟨o, s _ _ nb h (fun ps z => by cases z)⟩
theorem EB.kpL {H H' : Hp} {D : Addr} {xs : List V} (s : EB D H H') (h : H D = some (.lst xs)) : Kp H H' := ⟨fun d o e => s d _ (ne_of e h (fun z => by cases z)) e (fun ps z => by cases z), s.tk (NT.lst h)⟩
theorem EB.kpI {H H' : Hp} {D C dx : Addr} {fs : List (Str × V)} (s : EB D H H') (h : H D = some (.ins C dx fs)) : Kp H H' := ⟨fun d o e => s d _ (ne_of e h (fun z => by cases z)) e (fun ps z => by cases z), s.tk (NT.ins h)⟩
section
variable {P : Program} {w : World} {K : PySem.W.Frag} {H H' : Hp}
theorem ND.kp {d : Addr} {kvs : List (Key × V)} (h : ND P w K H d kvs) (k : Kp H H') : ND P w K H' d kvs := ND.keep h (fun o e => k.d d o e) k.t
theorem NDO.kp {d : Addr} {o : Obj} {kvs : List (Key × V)} (h : NDO P w K H d o kvs) (k : Kp H H') : NDO P w K H' d o kvs := h.keep (k.d d o h.1) k.t
theorem LayD.kp {d : Addr} {c : List Adv} {j : Nat} (h : LayD P w K H d c j) (s : Kp H H') : LayD P w K H' d c j := let ⟨kvs, a, b⟩ := h; ⟨kvs, a.kp s, b⟩
theorem LagD.kp {d : Addr} {c : List Adv} {m : Nat} {p : Key → Prop} (h : LagD P w K H d c m p) (s : Kp H H') : LagD P w K H' d c m p :=
  let ⟨kvs, a, b⟩ := h; ⟨kvs, a.kp s, fun k hk => let ⟨v, e, f⟩ := b k hk; ⟨v, e, f.tk s.t⟩⟩
/-! ### the code table stands where a list, a dict, an instance is written -/
theorem heap_of (D : Addr) (o : Obj) (h : o.isFreed = false) : ∃ h : Heap, h.get? D = some o := by
  refine ⟨{ objs := Array.replicate (D + 1) o }, Heap.get?_some_iff.mpr ⟨?_, h⟩⟩
  show (Array.replicate (D + 1) o)[D]? = some o
  simp
theorem obHO_ne {D : Addr} {o : Obj} {q : Str} {es : Array DictEntry} {ep : Nat} (hd : o.data = .dict es ep) : obHO D o ≠ LamX.CodeO D q := by
  intro z
  have f : o.isFreed = false := by
    obtain ⟨cc, dd, dt, sl⟩ := o
    have e : dt = .dict es ep := hd
    subst e
    rfl
  obtain ⟨h, e⟩ := heap_of D o f
  have z2 := congrFun (HO.ext.inj z) h
  obtain ⟨oc, vs, tk, e1, e2, _⟩ := cast z2 e
  rw [e] at e1
  have e3 : o = oc := Option.some.inj e1
  rw [← e3, hd] at e2
  cases e2
theorem Tb.sb {D : Addr} {ho : HO} (t : Tb K H) (s : SB D H H') (h : H D = some ho) (h1 : ∀ ps, ho ≠ .tbl ps) (h2 : ∀ q, ho ≠ LamX.CodeO D q) : Tb K H' := fun p hp => by
  obtain ⟨ps, e1, e2, e3⟩ := t p hp
  refine ⟨ps, s _ _ (fun z => ?_) e1, e2, fun pos cv hc => ?_⟩
  · rw [z, h] at e1
    exact h1 ps (Option.some.inj e1)
  · obtain ⟨cc, e4, e5⟩ := e3 pos cv hc
    refine ⟨cc, e4, s _ _ (fun z => ?_) e5⟩
    subst z
    rw [h] at e5
    exact h2 _ (Option.some.inj e5)
theorem Tb.same (t : Tb K H) (s : Same H H') : Tb K H' := LamX.Tabs.ext t s
theorem Tb.updL {D : Addr} {xs : List V} (t : Tb K H) (s : SB D H H') (h : H D = some (.lst xs)) : Tb K H' := t.sb s h (fun ps z => by cases z) (fun q z => by cases z)
theorem Tb.updI {D C dx : Addr} {fs : List (Str × V)} (t : Tb K H) (s : SB D H H') (h : H D = some (.ins C dx fs)) : Tb K H' := t.sb s h (fun ps z => by cases z) (fun q z => by cases z)
theorem Tb.updD {D : Addr} {kvs : List (Key × V)} (t : Tb K H) (s : SB D H H') (h : ND P w K H D kvs) : Tb K H' := by
  obtain ⟨o, h1, _, _, _, es, ep, _, h2, _⟩ := h
  exact t.sb s h1 (fun ps z => by cases z) (fun q => obHO_ne h2)
end
/-! ### a dict made of the keys of another -/
section
variable {P : Program} {w : World} {K : PySem.W.Frag} {d D : Addr} {o : Obj} {kvs : List (Key × V)} {g : TG} {tk tv : TE} {vs : List Nat} {σ : L2.St} {H1 H0 : Hp} {Qd : Hp → Prop}
/-- behind i keys: each of them has its value -/
def DcI (P : Program) (w : World) (K : PySem.W.Frag) (kvs : List (Key × V)) (val : Key → Rat) (H1 : Hp) (D : Addr) (i : Nat) (H : Hp) : Prop :=
  ExtN H1 H ∧ Tb K H ∧ ∃ acc : List (Key × V), ND P w K H D acc ∧ acc.length ≤ i ∧ ∀ k, k ∈ (kvs.take i).map (·.1) → ∃ v, valV acc k = some v ∧ FrA K H v (val k)
theorem dc_keysN (val : Key → Rat) (hD : H1 D = none) (s0 : Same H1 H0) (hd0 : ND P w K H0 D []) (tb : Tb K H1) (hnd : NDO P w K H1 d o kvs) (hz : kvs.length ≤ 1024)
    (step : ∀ (i : Nat) k v b H (Qn : V → V → Hp → Prop), kvs[i]? = some (k, v) → KeyT K H b k → ExtN H1 H → Tb K H → (∀ z H5, ExtN H H5 → Tb K H5 → FrA K H5 z (val k) → Qn (.ref b) z H5) →
      g (.ref b) (wipe σ vs) H fun σ2 H2 => wipe σ2 vs = wipe σ vs ∧ tk σ2 H2 fun y H4 => tv σ2 H4 fun z H5 => Qn y z H5)
    (fin : ∀ H acc, ExtN H1 H → Tb K H → ND P w K H D acc → (∀ k, k ∈ kvs.map (·.1) → ∃ v, valV acc k = some v ∧ FrA K H v (val k)) → Qd H) :
    ∃ W : Nat → Nat → Hp → Prop, (∃ m, W 0 m H0) ∧ ∀ i m H, W i m H →
      ((Itn P w K d o kvs).stop i H ∧ Qd H) ∨ ((Itn P w K d o kvs).go i H ∧ ∃ Nx : Hp → Prop, (∀ H', Nx H' → ∃ m', m' < m ∧ W (i + 1) m' H') ∧ ∀ x H', (Itn P w K d o kvs).yld i H x H' → g x (wipe σ vs) H' fun σ2 H2 => wipe σ2 vs = wipe σ vs ∧
        tk σ2 H2 fun y H4 => tv σ2 H4 fun z H5 => ∃ kvs k b, y = .ref b ∧ ND P w K H5 D kvs ∧ KeyT K H5 b k ∧ kvs.length < sizeLine ∧ ∀ H6, SB D H5 H6 → ND P w K H6 D (putK kvs k z) → Nx H6) := by
  refine ⟨fun i m H => m = kvs.length - i ∧ i ≤ kvs.length ∧ DcI P w K kvs val H1 D i H, ⟨kvs.length, by simp, Nat.zero_le _, s0.ext, tb.same s0, [], hd0, Nat.le_refl _, fun k z => (List.not_mem_nil z).elim⟩, ?_⟩
  rintro i m H ⟨rfl, hi, ext, tbH, acc, hacc, hal, hak⟩
  have q := hnd.kp ext.kp
  by_cases hlt : i < kvs.length
  · refine .inr ⟨⟨q, hlt⟩, DcI P w K kvs val H1 D (i + 1), fun H' p' => ⟨kvs.length - (i + 1), by omega, rfl, hlt, p'⟩, fun x H' y => ?_⟩
    obtain ⟨e, k, v, b, e1, e2, e3⟩ := y
    subst e e2
    refine step i k v b _ _ e1 e3 ext tbH fun z H5 x5 t5 f5 => ?_
    have nd5 := hacc.kp x5.kp
    refine ⟨acc, k, b, rfl, nd5, e3.tk x5.tk, Nat.lt_of_le_of_lt (show acc.length ≤ 1024 by omega) (by decide), fun H6 sb nd6 => ?_⟩
    have t56 := sb.tk nd5.nt
    refine ⟨EB.ext (((ext.eb D).trans (x5.eb D)).trans sb.eb) hD, t5.updD sb nd5, _, nd6, ?_, fun k' hk' => ?_⟩
    · have := length_putK acc k z
      omega
    · rw [valV_put]
      by_cases ek : k' = k
      · rw [if_pos ek, ek]
        exact ⟨z, rfl, f5.tk t56⟩
      · rw [if_neg ek]
        rw [List.take_add_one, e1, List.map_append] at hk'
        rcases List.mem_append.mp hk' with h | h
        · obtain ⟨v', h1, h2⟩ := hak k' h
          exact ⟨v', h1, (h2.tk x5.tk).tk t56⟩
        · exact absurd (List.mem_singleton.mp h) ek
  · have e : i = kvs.length := by omega
    subst e
    refine .inl ⟨⟨q, Nat.le_refl _⟩, fin H acc ext tbH hacc fun k hk => hak k ?_⟩
    rw [List.take_length]
    exact hk
end
end K43
set_option Elab.async false
set_option linter.all false
set_option maxRecDepth 100000
set_option maxHeartbeats 1000000
namespace K43
open PySem PySem.Spec PyProof.Rows L2
section
variable {P : Program} {w : World} {K : PySem.W.Frag} {mg : Str → Option Value} {base : Heap}
/-- the instance at p tells the lags of the circle v for n letters -/
def LagsO (P : Program) (w : World) (K : PySem.W.Frag) (H : Hp) (p : Addr) (c : List Adv) (n : Nat) : Prop := ∃ (dx bk gl : Addr) (v : V) (gs : List V), H p = some (.ins (He.ga K "Lags") dx [("circle", v), ("begin", .ref bk), ("lags", .ref gl)]) ∧ CirA K H v c ∧
  KeyT K H bk (beginK c) ∧ H gl = some (.lst gs) ∧ gs.length = n + 1 ∧ ∀ j, j ≤ n → ∃ d, gs[j]? = some (.ref d) ∧ LagD P w K H d c (n - j) (Rea c j)
theorem sc_init : FnScope ["self", "circle", "many", "layers", "_", "layer", "later", "adviser", "key"] ["self", "circle", "many"] (defScope s_Lags_init) := ⟨rfl, rfl, rfl, by decide +kernel, rfl, by decide +kernel, by decide +kernel⟩
def spInit (P : Program) (w : World) (K : PySem.W.Frag) : Sp := fun vs H Q _ => ∃ (p dx : Addr) (v : V) (c : List Adv) (n : Nat), vs = [.ref p, v, .int (n : Int)] ∧ H p = some (.ins (He.ga K "Lags") dx []) ∧ CirA K H v c ∧ CirOk c ∧ n ≤ 10 ∧ Tb K H ∧
  ∀ H', EB p H H' → Tb K H' → LagsO P w K H' p c n → Q .non H'
theorem put1 (v : V) : putF "circle" v [] = [(("circle" : Str), v)] := rfl
theorem put2 (v u : V) : putF "begin" u [(("circle" : Str), v)] = [(("circle" : Str), v), ("begin", u)] := by
  unfold putF
  rw [if_neg (by decide)]
  rfl
theorem put3 (v u x : V) : putF "lags" x [(("circle" : Str), v), ("begin", u)] = [(("circle" : Str), v), ("begin", u), ("lags", x)] := by
  unfold putF
  rw [if_neg (by decide)]
  unfold putF
  rw [if_neg (by decide)]
  rfl
theorem at1 (v : V) (l : List (Str × V)) : List.lookup ("circle" : Str) (("circle", v) :: l) = some v := by simp [List.lookup]
theorem at2 (v u : V) (l : List (Str × V)) : List.lookup ("begin" : Str) (("circle", v) :: ("begin", u) :: l) = some u := by
  rw [List.lookup_cons, show (("begin" : Str) == "circle") = false by decide]
  simp [List.lookup]
theorem at3 (v u x : V) (l : List (Str × V)) : List.lookup ("lags" : Str) (("circle", v) :: ("begin", u) :: ("lags", x) :: l) = some x := by
  rw [List.lookup_cons, show (("lags" : Str) == "circle") = false by decide, List.lookup_cons, show (("lags" : Str) == "begin") = false by decide]
  simp [List.lookup]
theorem at_end {xs : List V} {v : V} {n : Nat} (h : xs[n]? = some v) (hl : xs.length = n + 1) : atI xs (-1) = some v := by
  have e : xs = xs.take n ++ [v] := by
    have := List.take_add_one (l := xs) (i := n)
    rw [h, List.take_of_length_le (by omega)] at this
    exact this
  rw [e]
  exact atI_last _ _
theorem no_behind (v : V) (x : V) : List.lookup ("behind" : Str) [(("circle" : Str), v), ("begin", x)] = none := by
  rw [List.lookup_cons, show (("behind" : Str) == "circle") = false by decide, List.lookup_cons, show (("behind" : Str) == "begin") = false by decide]
  rfl
theorem no_worths (v u x : V) : List.lookup ("worths" : Str) [(("circle" : Str), v), ("begin", u), ("lags", x)] = none := by
  rw [List.lookup_cons, show (("worths" : Str) == "circle") = false by decide, List.lookup_cons, show (("worths" : Str) == "begin") = false by decide, List.lookup_cons, show (("worths" : Str) == "lags") = false by decide]
  rfl
theorem m_init (T : Tx K mg) (B : TBs K mg base) : ∃ fd, FnOk P w K mg base CX0 8 (He.ma K (He.ga K "Lags") "__init__") fd ["self", "circle", "many"] (spInit P w K) ∧ Binds K fd ["self", "circle", "many"] [] := by
  obtain ⟨fB, FB, bB⟩ := m_behind (P := P) (w := w) (base := base) T
  obtain ⟨fW, FW, bW⟩ := m_worths (P := P) (w := w) (base := base) T
  refine met_of (d := d_Lags_init) T in_Lags_init rfl rfl rfl (fun _ _ _ _ _ _ us hl => match us, hl with | [_, _, _], _ => rfl) sc_init (fun vs H Q E h => ?_) (fun f cdv A outer s H vs Q E hr h => ?_)
  · obtain ⟨_, _, _, _, _, rfl, _⟩ := h
    rfl
  · obtain ⟨p, dx, v, c, n, rfl, hp, hC, ok, hn, htb, q⟩ := h
    have nd := sc_init.nd
    have hu := hr.units
    refine ⟨_, pss_cons (ps_fld (pv 0) (pv 1) (by rfl))
      (pss_cons (ps_fld (pv 0) (pe_callTy call_tuple_of (by rfl) (T.free _ fa_tuple) (by decide +kernel) (pa_cons (pe_lc (own := [("adviser", 7)]) (g := gName 7) (tt := tYes) rfl nd (pi_tup (pv 1)) (blkOk_by (N := ["self", "circle", "many", "layers", "_", "layer", "later", "adviser", "key"]) (sc := defScope s_Lags_init) (by decide +kernel))
          (fun _ _ _ _ _ => pg_name (i := 7) nd rfl (Or.inl rfl)) (fun _ _ _ _ _ => pts_nil) (fun _ _ _ _ _ => pe_tup (pa_cons pe_int (pa_cons pe_int pa_nil)))) pa_nil)) (by rfl))
      (pss_cons (ps_set (i := 3) nd rfl (.inl rfl) (pe_lst (pa_cons (pe_dispN hu (pe_fld (pv 0) rfl) pe_bl) pa_nil)))
      (pss_cons (ps_for PassesOwn.never rfl (pi_range1 (by rfl) (T.free _ fa_range) (pa_cons (pv 2) pa_nil)) (pg_name (i := 4) nd rfl (.inl rfl))
        (pss_one (ps_expr (pe_bm PySem.F.plainAttrs_list PySem.F.slot_list_append PySem.F.type_list_append mt_append (pv 3) (pa_cons (pe_meth (pv 0) T.cls T.mB FB (hr.mono (by decide)) bB .nil pass0 (pa_cons (pe_ix ix_list (pv 3) (pe_un un_neg pe_int) (fun _ _ => rfl)) pa_nil)) pa_nil)))))
      (pss_cons (ps_fld (pv 0) (pe_lst (pa_cons (pe_dcN (own := [("key", 8)]) (g := gName 8) (tk := tVar 8) (tv := tC (.ref (He.ga K "NOUGHT"))) hu rfl nd (pi_keysN (pe_ix ix_list (pv 3) (pe_un un_neg pe_int) (fun _ _ => rfl))) (blkOk_by (N := ["self", "circle", "many", "layers", "_", "layer", "later", "adviser", "key"]) (sc := defScope s_Lags_init) (by decide +kernel))
          (fun _ _ _ _ _ => pg_name (i := 8) nd rfl (Or.inl rfl)) (fun _ _ _ _ _ => pv 8) (fun _ _ _ _ _ => pe_glob (v := .ref (He.ga K "NOUGHT")) rfl T.gN rfl)) pa_nil)) (by rfl))
      (pss_one (ps_for PassesOwn.never rfl (pi_list (pe_down (pv 3))) (pg_name (i := 5) nd rfl (.inl rfl))
        (pss_cons (ps_set (i := 6) nd rfl (.inr rfl) (pe_ix ix_list (pe_fld (pv 0) rfl) pe_int (fun _ _ => rfl)))
        (pss_one (ps_expr (pe_bm PySem.F.plainAttrs_list PySem.F.slot_list_insert PySem.F.type_list_insert mt_insert (pe_fld (pv 0) rfl) (pa_cons pe_int (pa_cons (pe_dcN (own := [("key", 8)]) (g := gName 8) (tk := tVar 8)
            (tv := tCall (spLevel K) [] E0 (tCons (tMeth (He.ga K "Lags") "worths" (spWorths P w K) [] E0 (tVar 0) (tCons (tVar 8) (tCons (tVar 6) tNil))) tNil)) hu rfl nd (pi_keysN (pv 5)) (blkOk_by (N := ["self", "circle", "many", "layers", "_", "layer", "later", "adviser", "key"]) (sc := defScope s_Lags_init) (by decide +kernel))
          (fun _ _ _ _ _ => pg_name (i := 8) nd rfl (Or.inl rfl)) (fun _ _ _ _ _ => pv 8) (fun _ _ _ _ _ => pe_cal (c_raw_level T B) hr (pa_cons (pe_meth (pv 0) T.cls T.mW FW (hr.mono (by decide)) bW .nil pass0 (pa_cons (pv 8) (pa_cons (pv 6) pa_nil))) pa_nil))) pa_nil)))))))))))), ?_⟩
    refine ⟨_, rfl, _, rfl, p, _, dx, [], rfl, hp, T.cls, T.nC, by decide, ?_⟩
    have hp1 : (upd H p (.ins (He.ga K "Lags") dx (putF "circle" v []))) p = some (.ins (He.ga K "Lags") dx [("circle", v)]) := by rw [put1]; exact upd_same
    have sb1 : SB p H (upd H p (.ins (He.ga K "Lags") dx (putF "circle" v []))) := sb_upd _ _ _
    generalize upd H p (.ins (He.ga K "Lags") dx (putF "circle" v [])) = H1 at hp1 sb1
    have tb1 := htb.updI sb1 hp
    have kp1 := sb1.eb.kpI hp
    obtain ⟨cp, us, rfl, hcp, hus⟩ := hC.tk kp1.t
    have hC1 : CirA K H1 (.ref cp) c := ⟨cp, us, rfl, hcp, hus⟩
    have lus : us.length = c.length := Paired.length hus
    have oc := ok.2.1
    -- self.begin
    refine ⟨_, rfl, cp, rfl, ⟨_, hcp⟩, ?_⟩
    intro D nD
    refine lcT (fun j y H => PairA K H y (0, 0)) nD hcp (Nat.le_of_lt (small1000 (by omega))) (fun i y H3 H4 ys e sb h => h.tk (sb.tk (NT.lst e))) (fun i y H3 Qn hy sx k => ⟨rfl, by show 2 ≤ sizeLine; decide, fun t nt => k _ _ (same_upd nt) ⟨t, rfl, SqT.of upd_same⟩⟩) (fun H3 acc sx e3 el hR => ?_)
    refine ⟨D, acc, rfl, .inl ⟨SqL.of e3, fun bk nbk => ?_⟩⟩
    have s4 : Same H1 (upd H3 bk (.tup acc)) := sx.trans (same_upd nbk)
    have hbk : KeyT K (upd H3 bk (.tup acc)) bk (beginK c) := ⟨acc, SqT.of upd_same, paired_of (by show acc.length = (beginK c).length; unfold beginK; rw [List.length_map]; omega) fun i y z e1 e2 => by
      have e4 : (beginK c)[i]? = some z := e2
      unfold beginK at e4
      rw [List.getElem?_map] at e4
      obtain ⟨_, _, rfl⟩ := Option.map_eq_some_iff.mp e4
      exact (hR i y e1).tk (same_upd nbk).tk⟩
    generalize upd H3 bk (.tup acc) = H4 at s4 hbk
    clear hR e3 sx
    refine ⟨_, rfl, p, _, dx, _, rfl, s4 _ _ hp1, T.cls, T.nB, by show 1 < 1000; decide, ?_⟩
    have hp5 : (upd H4 p (.ins (He.ga K "Lags") dx (putF "begin" (.ref bk) [("circle", .ref cp)]))) p = some (.ins (He.ga K "Lags") dx [("circle", .ref cp), ("begin", .ref bk)]) := by rw [put2]; exact upd_same
    have sb5 : SB p H4 (upd H4 p (.ins (He.ga K "Lags") dx (putF "begin" (.ref bk) [("circle", .ref cp)]))) := sb_upd _ _ _
    generalize upd H4 p (.ins (He.ga K "Lags") dx (putF "begin" (.ref bk) [("circle", .ref cp)])) = H5 at hp5 sb5
    have tb5 := (tb1.same s4).updI sb5 (s4 _ _ hp1)
    have kp5 := s4.kp.trans (sb5.eb.kpI (s4 _ _ hp1))
    have hC5 := hC1.tk kp5.t
    have hbk5 := hbk.tk (sb5.eb.kpI (s4 _ _ hp1)).t
    have eb5 : EB p H H5 := sb1.eb.trans (((s4.sb p).trans sb5).eb)
    clear hbk hC1 hp1 sb1 sb5 s4 hC htb tb1 kp1 kp5
    -- the first layer
    refine fun dd H6 n6 s6 nt6 nd6 => ⟨_, rfl, p, _, dx, _, _, rfl, s6 _ _ hp5, T.cls, T.nB, at2 _ _ _, beginK c, bk, rfl, hbk5.tk s6.tk, nd6, fun H7 sb7 nd7 => ⟨by show 1 ≤ sizeLine; decide, fun L nL => ?_⟩⟩
    have s57 : Same H5 H7 := ((s6.sb dd).trans sb7).same n6
    have lay0 : LayD P w K H7 dd c 0 := ⟨_, nd7, Nat.le_refl _, fun k => ⟨fun z => by rw [show k = beginK c from List.mem_singleton.mp z]; exact .zero, fun z => by cases z; exact List.mem_singleton.mpr rfl⟩⟩
    have tb7 := tb5.same s57
    have eb7 : EB p H H7 := eb5.trans (s57.sb p).eb
    have hp7 := s57 _ _ hp5
    have hC7 := hC5.tk s57.tk
    have hbk7 := hbk5.tk s57.tk
    clear hp5 hC5 hbk5 eb5 s6 nt6 sb7 tb5 nd7
    have s78 : Same H7 (upd H7 L (.lst [.ref dd])) := same_upd nL
    -- the layers
    refine ⟨_, rfl, (n : Int), rfl, by omega, by omega, ?_⟩
    refine for_range (lo := 0) (n := (n : Int).toNat) (fun i σ H2 => Same H7 H2 ∧ ∃ y4 ys, σ = [some (.ref p), some (.ref cp), some (.int (n : Int)), some (.ref L), y4, none, none, none, none] ∧ H2 L = some (.lst ys) ∧ ys.length = i + 1 ∧ ∀ j, j ≤ i → ∃ d, ys[j]? = some (.ref d) ∧ LayD P w K H2 d c j)
      ⟨s78, none, [.ref dd], rfl, upd_same, rfl, fun j hj => ⟨dd, by rw [Nat.le_zero.mp hj]; rfl, by rw [Nat.le_zero.mp hj]; exact lay0.same s78⟩⟩ ?_ ?_
    · rintro i σ H2 hi ⟨sm, y4, ys, rfl, hL, hyl, hys⟩
      obtain ⟨d, hyd, hld⟩ := hys i (Nat.le_refl _)
      have hat : atI ys (-1) = some (.ref d) := at_end hyd hyl
      refine ⟨.ref L, rfl, .inl ⟨rfl, _, SqL.of hL⟩, _, rfl, p, dx, _, rfl, sm _ _ hp7, no_behind _ _, _, rfl, 1, rfl, L, ys, -1, .ref d, rfl, rfl, SqL.of hL, hat, p, dx, d, _, _, c, i, rfl, sm _ _ hp7, at1 _ _, hC7.tk sm.tk, ok, hld, by omega, fun H3 d' s3 lay3 => ?_⟩
      have hL3 := s3 _ _ hL
      refine ⟨L, ys, _, rfl, rfl, hL3, Nat.lt_of_le_of_lt (show ys.length ≤ 11 by omega) (by decide), ?_⟩
      have sb4 := sb_upd L H3 (.lst (ys ++ [.ref d']))
      have kp4 := sb4.eb.kpL hL3
      refine ⟨(((sm.trans s3).sb L).trans sb4).same nL, _, _, rfl, upd_same, by rw [List.length_append, hyl]; rfl, fun j hj => ?_⟩
      rcases Nat.lt_or_ge j (i + 1) with h | h
      · obtain ⟨e, h1, h2⟩ := hys j (by omega)
        exact ⟨e, by rw [List.getElem?_append_left (by omega)]; exact h1, (h2.same s3).kp kp4⟩
      · have ej : j = i + 1 := by omega
        subst ej
        exact ⟨d', by rw [List.getElem?_append_right (by omega), hyl, Nat.sub_self]; rfl, lay3.kp kp4⟩
    rintro σ H2 ⟨sm, y4, ys, rfl, hL, hyl, hys⟩
    rw [Int.toNat_natCast] at hyl hys
    have tb2 := tb7.same sm
    have eb2 : EB p H H2 := eb7.trans (sm.sb p).eb
    have hp2 := sm _ _ hp7
    have hC2 := hC7.tk sm.tk
    have hbk2 := hbk7.tk sm.tk
    clear hp7 hC7 hbk7 eb7 sm tb7 s78 lay0 nL s57
    -- the last layer's lags
    obtain ⟨d, hyd, ⟨kvs, ⟨o, hnd⟩, hkl, hks⟩⟩ := hys n (Nat.le_refl _)
    have hat : atI ys (-1) = some (.ref d) := at_end hyd hyl
    refine ⟨_, rfl, 1, rfl, L, ys, -1, .ref d, rfl, rfl, SqL.of hL, hat, d, o, kvs, rfl, hnd, ?_⟩
    intro D9 H9 n9 s9 nd9
    refine dc_keysN (fun k => Lv c 0 k) n9 s9 nd9 tb2 hnd (Nat.le_trans hkl (pow_le10 hn)) (fun i k v b H Qn e1 kt ext tb kk => ⟨rfl, _, rfl, kk _ _ (LamX.ExtN.refl _) tb (T.nFr _)⟩) (fun H9 acc9 x9 tb9 nda9 hv9 => ?_)
    refine ⟨by show 1 ≤ sizeLine; decide, fun G nG => ?_⟩
    have x10 : ExtN H2 (upd H9 G (.lst [.ref D9])) := x9.trans (same_upd nG).ext
    have hp10 := x10 _ _ hp2 (fun ps z => by cases z)
    refine ⟨_, rfl, p, _, dx, _, rfl, hp10, T.cls, T.nL, by show 2 < 1000; decide, ?_⟩
    have lag0 : LagD P w K (upd H9 G (.lst [.ref D9])) D9 c 0 (Rea c n) := LagD.same ⟨acc9, nda9, fun k hk => hv9 k ((hks k).mpr hk)⟩ (same_upd nG)
    have tb10 := tb9.same (same_upd (o := .lst [.ref D9]) nG)
    have hG10 : (upd H9 G (.lst [.ref D9])) G = some (.lst [.ref D9]) := upd_same
    have eb9 : EB p H H9 := eb2.trans (x9.eb p)
    have nGH : ∀ b o, b ≠ p → H b = some o → (∀ ps, o ≠ .tbl ps) → b ≠ G := fun b o n e t => ne_of_none (eb9 b o n e t) nG
    have eb10 : EB p H (upd H9 G (.lst [.ref D9])) := eb9.trans ((same_upd nG).sb p).eb
    have hL10 := x10 _ _ hL (fun ps z => by cases z)
    have LG : L ≠ G := ne_of_none (x9 _ _ hL (fun ps z => by cases z)) nG
    generalize upd H9 G (.lst [.ref D9]) = H10 at x10 hp10 lag0 tb10 hG10 eb10 hL10
    clear hv9 nda9 tb9 x9 eb9 nG
    have hp11 : (upd H10 p (.ins (He.ga K "Lags") dx (putF "lags" (.ref G) [("circle", .ref cp), ("begin", .ref bk)]))) p = some (.ins (He.ga K "Lags") dx [("circle", .ref cp), ("begin", .ref bk), ("lags", .ref G)]) := by rw [put3]; exact upd_same
    have sb11 : SB p H10 (upd H10 p (.ins (He.ga K "Lags") dx (putF "lags" (.ref G) [("circle", .ref cp), ("begin", .ref bk)]))) := sb_upd _ _ _
    generalize upd H10 p (.ins (He.ga K "Lags") dx (putF "lags" (.ref G) [("circle", .ref cp), ("begin", .ref bk)])) = H11 at hp11 sb11
    have tb11 := tb10.updI sb11 hp10
    have kp11 := sb11.eb.kpI hp10
    have eb11 : EB p H H11 := eb10.trans sb11.eb
    have Gp : G ≠ p := ne_of hG10 hp10 (fun z => by cases z)
    have hG11 := sb11 _ _ Gp hG10
    have hL11 := sb11 _ _ (ne_of hL10 hp10 (fun z => by cases z)) hL10
    have k211 := x10.kp.trans kp11
    have lag11 := lag0.kp kp11
    clear tb10 eb10 hG10 hL10 lag0 sb11
    -- xs[-2::-1]
    refine ⟨_, rfl, L, ys, rfl, SqL.of hL11, by omega, fun Z nZ => ⟨Z, rfl, ⟨_, SqL.of upd_same⟩, ?_⟩⟩
    have s12 : Same H11 (upd H11 Z (.lst ys.dropLast.reverse)) := same_upd nZ
    have hZ : (upd H11 Z (.lst ys.dropLast.reverse)) Z = some (.lst ys.dropLast.reverse) := upd_same
    have GZ : Z ≠ G := (ne_of_none hG11 nZ).symm
    generalize upd H11 Z (.lst ys.dropLast.reverse) = H12 at s12 hZ
    have k212 := k211.trans s12.kp
    have eb12 : EB p H H12 := eb11.trans (s12.sb p).eb
    have hG12 := s12 _ _ hG11
    have hp12 := s12 _ _ hp11
    have hC12 := hC2.tk k212.t
    have hbk12 := hbk2.tk k212.t
    have tb12 := tb11.same s12
    have lag12 := lag11.kp s12.kp
    have hys12 : ∀ j, j ≤ n → ∃ d, ys[j]? = some (.ref d) ∧ LayD P w K H12 d c j := fun j hj => let ⟨d, a, b⟩ := hys j hj; ⟨d, a, b.kp k212⟩
    clear hp2 hC2 hbk2 hL hys hnd hks eb2 tb2 s9 n9 nd9 hp10 hp11 eb11 hG11 hL11 lag11 tb11 s12 k211 k212 kp11 x10
    refine for_list (K := K) (a := Z) (xs := ys.dropLast.reverse) (fun i σ H2 => i ≤ n ∧ EB G H12 H2 ∧ Tb K H2 ∧ ∃ y4 y5 y6 gs, σ = [some (.ref p), some (.ref cp), some (.int (n : Int)), some (.ref L), y4, y5, y6, none, none] ∧ H2 G = some (.lst gs) ∧ gs.length = i + 1 ∧ ∀ j, j ≤ i → ∃ d, gs[j]? = some (.ref d) ∧ LagD P w K H2 d c (i - j) (Rea c (n - i + j)))
      ⟨Nat.zero_le _, EB.refl _ _, tb12, _, none, none, [.ref D9], rfl, hG12, rfl, fun j hj => ⟨D9, by rw [Nat.le_zero.mp hj]; rfl, by rw [Nat.le_zero.mp hj]; exact lag12⟩⟩ (fun i σ H2 _ z => SqL.of (z.2.1 _ _ GZ hZ (fun ps z => by cases z))) ?_ ?_
    · rintro i x σ H2 hx ⟨hin, eb, tb, y4, y5, y6, gs, rfl, hG, hgl, hgs⟩
      have hi : i < n := by
        have := (List.getElem?_eq_some_iff.mp hx).1
        rw [List.length_reverse, List.length_dropLast] at this
        omega
      obtain ⟨d, hyd, hld⟩ := hys12 (n - 1 - i) (by omega)
      have ex : x = .ref d := by
        rw [List.getElem?_reverse (by rw [List.length_dropLast]; omega), List.length_dropLast, hyl, List.getElem?_dropLast, if_pos (by omega)] at hx
        have e : n + 1 - 1 - 1 - i = n - 1 - i := by omega
        rw [e, hyd] at hx
        exact (Option.some.inj hx).symm
      subst ex
      obtain ⟨d0, hg0, hlag0⟩ := hgs 0 (Nat.zero_le _)
      have kp2 := eb.kpL hG12
      have hp2 := eb _ _ Gp.symm hp12 (fun ps z => by cases z)
      obtain ⟨kvs', ⟨o', hnd'⟩, hkl', hks'⟩ := hld.kp kp2
      refine ⟨_, rfl, p, _, dx, _, _, rfl, hp2, T.cls, T.nL, at3 _ _ _ _, G, gs, 0, .ref d0, rfl, rfl, SqL.of hG, atI_nat (j := 0) hg0, ?_⟩
      refine ⟨_, rfl, p, _, dx, _, _, rfl, hp2, T.cls, T.nL, at3 _ _ _ _, .inl ⟨rfl, _, SqL.of hG⟩, _, rfl, d, o', kvs', rfl, hnd', ?_⟩
      intro D3 H3 n3 s3 nd3
      refine dc_keysN (fun k => Lv c (i + 1) k) n3 s3 nd3 tb hnd' (Nat.le_trans hkl' (pow_le10 (by omega))) (fun l k v b H4 Qn e1 kt ext t4 kk => ⟨rfl, _, rfl, ?_⟩) (fun H4 acc4 x4 tb4 nda4 hv4 => ?_)
      · have hrea : Rea c (n - 1 - i) k := (hks' k).mp (List.mem_map.mpr ⟨_, List.mem_of_getElem? e1, rfl⟩)
        have kok := hrea.ok ok
        have lag4 := hlag0.kp ext.kp
        refine ⟨_, rfl, p, dx, _, rfl, ext _ _ hp2 (fun ps z => by cases z), no_worths _ _ _, _, rfl, _, rfl, p, dx, b, d0, _, _, c, k, i, rfl, ext _ _ hp2 (fun ps z => by cases z), at1 _ _, (hC12.tk kp2.t).tk ext.tk, ok, kt, kok, by omega, ?_, fun H5 wv s5 wo5 => ?_⟩
        · obtain ⟨kv, h1, h2⟩ := lag4
          refine ⟨kv, h1, fun k' ⟨x, hx, e⟩ => h2 k' ?_⟩
          rw [e, show n - i + 0 = n - 1 - i + 1 by omega]
          exact .succ hrea hx
        · exact ⟨wv, _, _, rfl, wo5, (wr_sh ok (by omega) kok 0).mono (by decide), (wr_sh ok (by omega) kok 1).mono (by decide), t4.same s5, fun H6 lv x6 t6 f6 => kk _ _ (s5.ext.trans x6) t6 f6⟩
      · have hG4 := x4 _ _ hG (fun ps z => by cases z)
        have sbG := sb_upd G H4 (.lst (gs.take (0 : Int).toNat ++ [.ref D3] ++ gs.drop (0 : Int).toNat))
        have kpG := sbG.eb.kpL hG4
        refine ⟨G, gs, 0, .ref D3, rfl, rfl, hG4, Nat.lt_of_le_of_lt (show gs.length ≤ 11 by omega) (by decide), by decide, by decide, by omega, (eb.trans (x4.eb G)).trans sbG.eb, tb4.updL sbG hG4, _, _, _, _, rfl, upd_same, ?_, fun j hj => ?_⟩
        · show (V.ref D3 :: gs).length = _
          rw [List.length_cons, hgl]
        · cases j with
          | zero =>
            refine ⟨D3, rfl, LagD.kp ⟨acc4, nda4, fun k hk => hv4 k ((hks' k).mpr ?_)⟩ kpG⟩
            rw [show n - 1 - i = n - (i + 1) + 0 by omega]
            exact hk
          | succ j =>
            obtain ⟨e, h1, h2⟩ := hgs j (by omega)
            refine ⟨e, h1, ?_⟩
            have h3 := (h2.kp x4.kp).kp kpG
            rw [show i + 1 - (j + 1) = i - j by omega, show n - (i + 1) + (j + 1) = n - i + j by omega]
            exact h3
    · rintro σ H2 ⟨hin, eb, tb, y4, y5, y6, gs, rfl, hG, hgl, hgs⟩
      have el : ys.dropLast.reverse.length = n := by
        rw [List.length_reverse, List.length_dropLast, hyl]
        rfl
      rw [el] at hgl hgs
      have kp2 := eb.kpL hG12
      refine q H2 (fun b o nb e t => eb b o (nGH b o nb e t) (eb12 b o nb e t) t) tb ⟨dx, bk, G, _, gs, eb _ _ Gp.symm hp12 (fun ps z => by cases z), hC12.tk kp2.t, hbk12.tk kp2.t, hG, hgl, fun j hj => ?_⟩
      obtain ⟨d, h1, h2⟩ := hgs j hj
      rw [show n - n + j = j by omega] at h2
      exact ⟨d, h1, h2⟩
end
end K43
set_option Elab.async false
set_option linter.all false
set_option maxRecDepth 100000
set_option maxHeartbeats 1000000
namespace K43
open PySem PySem.Spec PyProof.Rows L2
section
variable {P : Program} {w : World} {K : PySem.W.Frag} {mg : Str → Option Value} {base : Heap}
/-- from a new instance's heap -/
theorem make_ext {H : Hp} {x dx C : Addr} (nx : H x = none) (nd : H dx = none) (ne : dx ≠ x) : Same H (upd (upd H dx (.own x)) x (.ins C dx [])) :=
  (same_upd nd).trans (same_upd (by rw [upd_ne ne.symm]; exact nx))
theorem make_tail {H H' : Hp} {x dx C : Addr} (nx : H x = none) (nd : H dx = none) (ne : dx ≠ x) (e : EB x (upd (upd H dx (.own x)) x (.ins C dx [])) H') : ExtN H H' :=
  EB.ext ((((make_ext nx nd ne).sb x).eb).trans e) nx
theorem sc_lags_of : FnScope ["circle", "n"] ["circle", "n"] (defScope s_lags_of) := ⟨rfl, rfl, rfl, by decide +kernel, rfl, by decide +kernel, by decide +kernel⟩
def spLagsOf (P : Program) (w : World) (K : PySem.W.Frag) : Sp := fun vs H Q _ => ∃ (v : V) (c : List Adv) (n : Nat), vs = [v, .int (n : Int)] ∧ CirA K H v c ∧ CirOk c ∧ n ≤ 10 ∧ Tb K H ∧ ∀ H' p, ExtN H H' → Tb K H' → LagsO P w K H' p c n → Q (.ref p) H'
theorem c_lags_of (T : Tx K mg) (B : TBs K mg base) : Cal P w K mg base 10 "lags_of" ["circle", "n"] (spLagsOf P w K) := by
  obtain ⟨tM, hM⟩ := T.int _ _ fa_MOST_LETTERS_advisers
  obtain ⟨fI, FI, bI⟩ := m_init (P := P) (w := w) T B
  refine cal_of (d := d_lags_of) T in_lags_of fa_lags_of rfl rfl rfl (fun _ _ _ _ _ _ us hl => match us, hl with | [_, _], _ => rfl) sc_lags_of (fun vs H Q E h => ?_) (fun f cdv A outer s H vs Q E hr h => ?_)
  · obtain ⟨_, _, _, rfl, _⟩ := h
    rfl
  · obtain ⟨v, c, n, rfl, hC, ok, hn, tb, q⟩ := h
    refine ⟨_, pss_cons (ps_expr (pe_cal (c_check_circle T) (hr.mono (by decide)) (pa_cons (pv 0) pa_nil)))
      (pss_cons (ps_expr (pe_cal (c_check_number T) (hr.mono (by decide)) (pa_cons (pv 1) (pa_cons pe_int (pa_cons (pe_glob (v := .int 10) rfl hM ⟨_, rfl⟩) pa_nil)))))
      (pss_one (ps_ret (pe_make T.mkr FI hr (by rfl) (T.glo _ fa_Lags) bI .nil pass0 (pa_cons (pv 0) (pa_cons (pv 1) pa_nil)))))), ?_⟩
    refine ⟨_, rfl, v, c, rfl, hC, ok, fun H1 s1 => ⟨_, rfl, _, _, _, rfl, by omega, by omega, ?_⟩⟩
    refine ⟨_, rfl, _, rfl, fun x dx nx ndx ne => ?_⟩
    have s2 := make_ext (C := He.ga K "Lags") nx ndx ne
    exact ⟨x, dx, v, c, n, rfl, upd_same, hC.tk (s1.trans s2).tk, ok, hn, tb.same (s1.trans s2), fun H' eb tb' lo => ⟨rfl, q H' x (s1.ext.trans (make_tail nx ndx ne eb)) tb' lo⟩⟩
theorem sc_lag : FnScope ["circle", "n", "told"] ["circle", "n"] (defScope s_lag) := ⟨rfl, rfl, rfl, by decide +kernel, rfl, by decide +kernel, by decide +kernel⟩
def spLag (K : PySem.W.Frag) : Sp := fun vs H Q _ => ∃ (v : V) (c : List Adv) (n : Nat), vs = [v, .int (n : Int)] ∧ CirA K H v c ∧ CirOk c ∧ n ≤ 10 ∧ Tb K H ∧ ∀ H' v', ExtN H H' → Tb K H' → FrA K H' v' (Lv c n (beginK c)) → Q v' H'
theorem c_lag (T : Tx K mg) (B : TBs K mg base) : Cal P w K mg base 11 "lag" ["circle", "n"] (spLag K) := by
  refine cal_of (d := d_lag) T in_lag fa_lag rfl rfl rfl (fun _ _ _ _ _ _ us hl => match us, hl with | [_, _], _ => rfl) sc_lag (fun vs H Q E h => ?_) (fun f cdv A outer s H vs Q E hr h => ?_)
  · obtain ⟨_, _, _, rfl, _⟩ := h
    rfl
  · obtain ⟨v, c, n, rfl, hC, ok, hn, tb, q⟩ := h
    have nd := sc_lag.nd
    have hu := hr.units
    refine ⟨_, pss_cons (ps_set (i := 2) nd rfl (.inl rfl) (pe_cal (c_lags_of T B) hr (pa_cons (pv 0) (pa_cons (pv 1) pa_nil))))
      (pss_one (ps_ret (pe_dgetN hu (pe_ix ix_list (pe_fld (pv 2) rfl) pe_int (fun _ _ => rfl)) (pe_fld (pv 2) rfl) (fun _ _ => rfl)))), ?_⟩
    refine ⟨_, rfl, _, rfl, v, c, n, rfl, hC, ok, hn, tb, fun H1 p e1 tb1 ⟨dx, bk, gl, v', gs, h1, h2, h3, h4, h5, h6⟩ => ?_⟩
    obtain ⟨d, g0, kvs, hnd, hl⟩ := h6 0 (Nat.zero_le _)
    obtain ⟨x, hx, fx⟩ := hl _ .zero
    exact ⟨_, rfl, p, _, dx, _, _, rfl, h1, T.cls, T.nL, at3 _ _ _ _, gl, gs, 0, .ref d, rfl, rfl, SqL.of h4, atI_nat (j := 0) g0, _, rfl, p, _, dx, _, _, rfl, h1, T.cls, T.nB, at2 _ _ _, d, kvs, _, bk, x, rfl, rfl, hnd, h3, hx, q _ _ e1 tb1 fx⟩
/-- the key behind a row -/
def keyAt (c : List Adv) (row : List Nat) : Key := row.foldl (fun k x => (stp c k x).1) (beginK c)
theorem keyAt_snoc {c : List Adv} {row : List Nat} {x : Nat} : keyAt c (row ++ [x]) = (stp c (keyAt c row) x).1 := by
  unfold keyAt
  rw [List.foldl_append]
  rfl
theorem keyAt_take {c : List Adv} {row : List Nat} {i x : Nat} (h : row[i]? = some x) : keyAt c (row.take (i + 1)) = (stp c (keyAt c (row.take i)) x).1 := by
  rw [List.take_add_one, h]
  exact keyAt_snoc
theorem rea_row {c : List Adv} : ∀ (i : Nat) (row : List Nat), i ≤ row.length → (∀ x ∈ row, x < 2) → Rea c i (keyAt c (row.take i))
  | 0, _, _, _ => .zero
  | i + 1, row, hi, h => by
    have e : row[i]? = some row[i] := List.getElem?_eq_getElem hi
    rw [keyAt_take e]
    exact .succ (rea_row i row (by omega) h) (h _ (List.getElem_mem _))
theorem sc_followed : FnScope ["circle", "n", "row", "told", "key", "letter"] ["circle", "n", "row"] (defScope s_followed) := ⟨rfl, rfl, rfl, by decide +kernel, rfl, by decide +kernel, by decide +kernel⟩
def spFollowed (K : PySem.W.Frag) : Sp := fun vs H Q _ => ∃ (v r : V) (c : List Adv) (n : Nat) (row : List Nat), vs = [v, .int (n : Int), r] ∧ CirA K H v c ∧ CirOk c ∧ n ≤ 10 ∧ RowA K H r row ∧ (∀ x ∈ row, x < 2) ∧ row.length < n ∧ Tb K H ∧
  ∀ H' v', ExtN H H' → Tb K H' → WoA K H' v' (cha (wr c (n - (row.length + 1)) (keyAt c row) 0) (Lv c (n - row.length) (keyAt c row))) (cha (wr c (n - (row.length + 1)) (keyAt c row) 1) (Lv c (n - row.length) (keyAt c row))) → Q v' H'
theorem c_followed (T : Tx K mg) (B : TBs K mg base) : Cal P w K mg base 10 "followed" ["circle", "n", "row"] (spFollowed K) := by
  obtain ⟨tM, hM⟩ := T.int _ _ fa_MOST_LETTERS_advisers
  obtain ⟨tS, hS⟩ := T.int _ _ fa_SIZE
  obtain ⟨fI, FI, bI⟩ := m_init (P := P) (w := w) T B
  obtain ⟨fW, FW, bW⟩ := m_worths (P := P) (w := w) (base := base) T
  refine cal_of (d := d_followed) T in_followed fa_followed rfl rfl rfl (fun _ _ _ _ _ _ us hl => match us, hl with | [_, _, _], _ => rfl) sc_followed (fun vs H Q E h => ?_) (fun f cdv A outer s H vs Q E hr h => ?_)
  · obtain ⟨_, _, _, _, _, rfl, _⟩ := h
    rfl
  · obtain ⟨v, r, c, n, row, rfl, hC, ok, hn, hrow, hx, hln, tb, q⟩ := h
    have nd := sc_followed.nd
    have hu := hr.units
    refine ⟨_, pss_cons (ps_expr (pe_cal (c_check_circle T) (hr.mono (by decide)) (pa_cons (pv 0) pa_nil)))
      (pss_cons (ps_expr (pe_cal (c_check_number T) (hr.mono (by decide)) (pa_cons (pv 1) (pa_cons pe_int (pa_cons (pe_glob (v := .int 10) rfl hM ⟨_, rfl⟩) pa_nil)))))
      (pss_cons (ps_if (PW.pt (pw_or (pt_not (pt_val (pe_cal (c_raw_is_row T) (hr.mono (by decide)) (pa_cons (pe_ix ix_tup (pe_ix ix_tup (pv 0) pe_int (fun _ _ => rfl)) (pe_glob (v := .int 0) rfl hS ⟨_, rfl⟩) (fun _ _ => rfl)) (pa_cons (pv 2) pa_nil)))))
        (pw_or1 (pt_cmpR op_ge (pe_callB call_len_seq (by rfl) (T.free _ fa_len) PySem.boot_len (pa_cons (pv 2) pa_nil)) (pv 1) (nomark _))))) (pss_one ps_never) pss_nil)
      (pss_cons (ps_set (i := 3) nd rfl (.inl rfl) (pe_make T.mkr FI hr (by rfl) (T.glo _ fa_Lags) bI .nil pass0 (pa_cons (pv 0) (pa_cons (pv 1) pa_nil))))
      (pss_cons (ps_set (i := 4) nd rfl (.inl rfl) (pe_fld (pv 3) rfl))
      (pss_cons (ps_for PassesOwn.never rfl (pi_tup (pv 2)) (pg_name (i := 5) nd rfl (.inl rfl))
        (pss_one (ps_set (i := 4) nd rfl (.inl rfl) (pe_ix ix_tup (pe_cal (c_stepped T) (hr.mono (by decide)) (pa_cons (pv 0) (pa_cons (pv 4) (pa_cons (pv 5) pa_nil)))) pe_int (fun _ _ => rfl)))))
      (pss_one (ps_ret (pe_cal (c_raw_filled T B) (hr.mono (by decide)) (pa_cons (pe_meth (pv 3) T.cls T.mW FW (hr.mono (by decide)) bW .nil pass0
        (pa_cons (pv 4) (pa_cons (pe_ix ix_list (pe_fld (pv 3) rfl) (pe_op op_add (pe_callB call_len_seq (by rfl) (T.free _ fa_len) PySem.boot_len (pa_cons (pv 2) pa_nil)) pe_int) (fun _ _ => rfl)) pa_nil))) pa_nil))))))))), ?_⟩
    refine ⟨_, rfl, v, c, rfl, hC, ok, fun H1 s1 => ⟨_, rfl, _, _, _, rfl, by omega, by omega, ?_⟩⟩
    obtain ⟨cp, us, p2, r2, rfl, h1, h2, h3⟩ := cir_head (hC.tk s1.tk) ok
    obtain ⟨rp, rfl, hrp⟩ := hrow
    refine ⟨_, rfl, cp, _, _, _, rfl, rfl, h1, atI_nat (j := 0) h2, p2, _, _, _, rfl, rfl, h3, atI_nat (j := 0) rfl, _, rfl, _, row, rfl, ⟨rp, rfl, s1.sqT hrp⟩, hx, by omega, fun H2 s2 => ⟨true, rfl, iteF ?_⟩⟩
    have s12 := s1.trans s2
    refine ⟨_, rfl, rp, _, rfl, .inr (s12.sqT hrp), _, rfl, _, _, rfl, rfl, _, rfl, ?_⟩
    have e1 : decide ((n : Int) ≤ ((row.map fun x : Nat => V.int (x : Int)).length : Int)) = false := decide_eq_false (by rw [List.length_map]; omega)
    rw [e1]
    refine iteF ⟨_, rfl, _, rfl, fun x dx nx ndx ne => ?_⟩
    have s3 := make_ext (C := He.ga K "Lags") nx ndx ne
    have s13 := s12.trans s3
    refine ⟨x, dx, _, c, n, rfl, upd_same, hC.tk s13.tk, ok, hn, tb.same s13, fun H4 eb tb4 ⟨dx', bk, gl, v', gs, g1, g2, g3, g4, g5, g6⟩ => ⟨rfl, ?_⟩⟩
    have e4 := s12.ext.trans (make_tail nx ndx ne eb)
    refine ⟨_, rfl, x, _, dx', _, _, rfl, g1, T.cls, T.nB, at2 _ _ _, ?_⟩
    refine ⟨_, rfl, rp, rfl, ⟨_, e4.tk.sqT hrp⟩, for_tup (K := K) (a := rp) (xs := row.map fun x : Nat => V.int (x : Int)) (fun i σ H5 => Same H4 H5 ∧ ∃ ka y5, σ = [some (.ref cp), some (.int (n : Int)), some (.ref rp), some (.ref x), some (.ref ka), y5] ∧ KeyT K H5 ka (keyAt c (row.take i)))
      ⟨Same.refl _, bk, none, rfl, g3⟩ (fun i σ H5 _ z => (e4.tk.trans z.1.tk).sqT hrp) ?_ ?_⟩
    · rintro i y σ H5 hy ⟨s5, ka, y5, rfl, hka⟩
      rw [List.getElem?_map] at hy
      obtain ⟨l, hl, rfl⟩ := Option.map_eq_some_iff.mp hy
      have hil := (List.getElem?_eq_some_iff.mp hl).1
      have fit := ((rea_row i row (by omega) hx).ok ok).fit
      refine ⟨_, rfl, _, rfl, _, rfl, _, ka, c, _, l, rfl, hC.tk (e4.tk.trans s5.tk), ok, hka, fit, hx l (List.mem_of_getElem? hl), fun H6 tp kp s6 htp hkp => ?_⟩
      refine ⟨tp, _, _, _, rfl, rfl, SqT.of htp, atI_nat (j := 0) rfl, s5.trans s6, kp, _, rfl, ?_⟩
      rw [keyAt_take hl]
      exact hkp
    · rintro σ H5 ⟨s5, ka, y5, rfl, hka⟩
      rw [List.length_map, List.take_length] at hka
      have hrea : Rea c row.length (keyAt c row) := by
        have := rea_row (c := c) row.length row (Nat.le_refl _) hx
        rw [List.take_length] at this
        exact this
      have kok := hrea.ok ok
      obtain ⟨d, gd, hlag⟩ := g6 (row.length + 1) (by omega)
      have el : (((row.map fun x : Nat => V.int (x : Int)).length : Nat) : Int) + 1 = ((row.length + 1 : Nat) : Int) := by rw [List.length_map]; omega
      refine ⟨_, rfl, x, dx', _, rfl, s5 _ _ g1, no_worths _ _ _, _, rfl, _, rfl, x, _, dx', _, _, rfl, s5 _ _ g1, T.cls, T.nL, at3 _ _ _ _, ?_⟩
      refine ⟨_, rfl, rp, _, rfl, .inr ((e4.tk.trans s5.tk).sqT hrp), _, _, rfl, rfl, gl, gs, _, .ref d, rfl, rfl, SqL.of (s5 _ _ g4), by rw [el]; exact atI_nat gd, ?_⟩
      refine ⟨x, dx', ka, d, _, _, c, _, n - (row.length + 1), rfl, s5 _ _ g1, at1 _ _, g2.tk s5.tk, ok, hka, kok, by omega, ?_, fun H6 wv s6 wo => ?_⟩
      · obtain ⟨kv, m1, m2⟩ := hlag
        exact ⟨kv, m1.same s5, fun k' ⟨x, hx, e⟩ => let ⟨v, a, b⟩ := m2 k' (by rw [e]; exact .succ hrea hx); ⟨v, a, b.same s5⟩⟩
      · refine ⟨wv, _, _, rfl, wo, (wr_sh ok (by omega) kok 0).mono (by decide), (wr_sh ok (by omega) kok 1).mono (by decide), (tb4.same s5).same s6, fun H7 v7 e7 tb7 wo7 => q H7 v7 ((e4.trans (s5.trans s6).ext).trans e7) tb7 ?_⟩
        have e8 : n - row.length = n - (row.length + 1) + 1 := by omega
        rw [e8, Lv_succ]
        exact wo7
end
end K43
set_option Elab.async false
set_option linter.all false
set_option maxRecDepth 100000
set_option maxHeartbeats 1000000
/-! what the law itself needs: a cut, sums of tuples, draws -/
namespace K43
open PySem PySem.Spec PyProof.Rows L2
section
variable {X : Cx}
/-- the end of a statement told by what holds there -/
def sCut (t : TS) : TS := fun D σ H => ∃ G : L2.St → Hp → Prop, (∀ σ' H', G σ' H' → D.nx σ' H') ∧ t { D with nx := G } σ H
theorem ps_cut {st : Stmt} {t : TS} (h : PS X st t) : PS X st (sCut t) := by
  refine ⟨fun pins s σ H D I ⟨G, g, q⟩ => thn (h.run pins s σ H _ I q) fun fl s' e => ?_⟩
  cases fl with
  | next =>
    obtain ⟨σ', H', I', z⟩ := e
    exact ⟨σ', H', I', g _ _ z⟩
  | brk => exact e
  | cont => exact e
  | ret u => exact e
/-! ### sum and min of a pair -/
theorem tup_old {s : Shared} {o : Obj} {h' : Heap} (hk : ∀ b ob, b ∉ [s.heap.objs.size] → (s.heap.push o).get? b = some ob → h'.get? b = some ob) : ∀ b ob, s.heap.get? b = some ob → h'.get? b = some ob := fun b ob e => by
  refine hk b ob (fun hm => ?_) (Heap.get?_push_of_some _ e)
  rcases List.mem_cons.mp hm with e1 | hm
  · exact absurd (e1 ▸ Heap.lt_size e) (Nat.lt_irrefl _)
  · cases hm
def rPair (f : Nat → Nat → Nat) (K : PySem.W.Frag) : List V → Hp → VK → Prop := fun vs H Q => ∃ (a : Addr) (x y : Nat), vs = [.ref a] ∧ SqT K H a [.int (x : Int), .int (y : Int)] ∧ x < 1000 ∧ y < 1000 ∧ Q (.int ((f x y : Nat) : Int)) H
theorem cr_sumP (hc : X.calm = true) : CallR X (.builtin "sum") (rPair (· + ·) X.K) := by
  intro pins s σ H vs us Q I r h
  obtain ⟨a, x, y, rfl, hs, hx, hy, q⟩ := h
  obtain ⟨its, rv, hl, _⟩ := I.tuple hs
  rw [Vals.ref1 r]
  cases rv with
  | cons r1 rr =>
    cases rr with
    | cons r2 rr =>
      cases rr
      obtain ⟨t1, rfl⟩ := r1
      obtain ⟨t2, rfl⟩ := r2
      have hi : (#[Value.int (x : Int) t1, Value.int (y : Int) t2] : Array Value) = intItems #[((x : Int), t1), ((y : Int), t2)] := by simp [intItems]
      have hT : s.heap.IsTuple a (intItems #[((x : Int), t1), ((y : Int), t2)]) := by rw [← hi]; exact hl
      have hlt : a < s.heap.objs.size := by obtain ⟨_, e, _⟩ := hT; exact Heap.lt_size e
      refine call_sum_walk (wpAny_pyIter_tuple hT ?_)
      refine ⟨_, [s.heap.objs.size, a], [s.heap.objs.size], _, _, _, numAt #[((x : Int), t1), ((y : Int), t2)], rfl, Walks.tuple (A := X.A.in1) (I.ok.hd hc) _ a (Nat.ne_of_lt hlt) (intItems #[((x : Int), t1), ((y : Int), t2)]),
        ⟨⟨_, Heap.get?_push_size _ rfl, rfl, rfl⟩, hT.push _⟩, fun b hb => ?_, (fun _ _ => intItems_at), (fun j hj => ?_), fun h' tk t' hk => ?_⟩
      · show b < (s.heap.push _).objs.size
        rw [Heap.size_push]
        rcases List.mem_cons.mp hb with rfl | hb
        · exact Nat.lt_succ_self _
        · rcases List.mem_cons.mp hb with rfl | hb
          · exact Nat.lt_succ_of_lt hlt
          · cases hb
      · have hj2 : j < 2 := by simpa [intItems] using hj
        match j, hj2 with
        | 0, _ => simp [InLong, numAt, preSum]; omega
        | 1, _ => simp [InLong, numAt, preSum]; omega
      · have e : preSum (numAt #[((x : Int), t1), ((y : Int), t2)]) (intItems #[((x : Int), t1), ((y : Int), t2)]).size = ((x + y : Nat) : Int) := by simp [preSum, numAt, intItems]
        rw [e]
        exact ⟨.int _, H, I.kept (tup_old hk), ⟨_, rfl⟩, q⟩
theorem cr_minP (hc : X.calm = true) : CallR X (.builtin "min") (rPair min X.K) := by
  intro pins s σ H vs us Q I r h
  obtain ⟨a, x, y, rfl, hs, hx, hy, q⟩ := h
  obtain ⟨its, rv, hl, _⟩ := I.tuple hs
  rw [Vals.ref1 r]
  cases rv with
  | cons r1 rr =>
    cases rr with
    | cons r2 rr =>
      cases rr
      obtain ⟨t1, rfl⟩ := r1
      obtain ⟨t2, rfl⟩ := r2
      have hi : (#[Value.int (x : Int) t1, Value.int (y : Int) t2] : Array Value) = intItems #[((x : Int), t1), ((y : Int), t2)] := by simp [intItems]
      have hT : s.heap.IsTuple a (intItems #[((x : Int), t1), ((y : Int), t2)]) := by rw [← hi]; exact hl
      have hlt : a < s.heap.objs.size := by obtain ⟨_, e, _⟩ := hT; exact Heap.lt_size e
      refine call_min_walk (wpAny_pyIter_tuple hT ?_)
      refine ⟨_, [s.heap.objs.size, a], [s.heap.objs.size], _, _, _, _, rfl, Walks.tuple (A := X.A.in1) (I.ok.hd hc) _ a (Nat.ne_of_lt hlt) (intItems #[((x : Int), t1), ((y : Int), t2)]),
        ⟨⟨_, Heap.get?_push_size _ rfl, rfl, rfl⟩, hT.push _⟩, fun b hb => ?_, by simp [intItems], CmpOf.ints_lt (numAt #[((x : Int), t1), ((y : Int), t2)]) (fun _ _ => intItems_at), fun v h' tk hP hk => ?_⟩
      · show b < (s.heap.push _).objs.size
        rw [Heap.size_push]
        rcases List.mem_cons.mp hb with rfl | hb
        · exact Nat.lt_succ_self _
        · rcases List.mem_cons.mp hb with rfl | hb
          · exact Nat.lt_succ_of_lt hlt
          · cases hb
      · have hP' : (intItems #[((x : Int), t1), ((y : Int), t2)])[argBest (fun i j => decide (numAt #[((x : Int), t1), ((y : Int), t2)] i < numAt #[((x : Int), t1), ((y : Int), t2)] j)) 1]? = some v := by
          have hsz2 : (intItems #[((x : Int), t1), ((y : Int), t2)]).size - 1 = 1 := by simp [intItems]
          rw [← hsz2]
          exact hP
        have I' := I.kept (t' := tk) (tup_old hk)
        by_cases hba : (y : Int) < x
        · have e : argBest (fun i j => decide (numAt #[((x : Int), t1), ((y : Int), t2)] i < numAt #[((x : Int), t1), ((y : Int), t2)] j)) 1 = 1 := by simp [argBest, numAt, hba]
          rw [e] at hP'
          have ev : v = .int (y : Int) t2 := by simpa [intItems] using hP'.symm
          have em : min x y = y := by omega
          rw [em] at q
          exact ⟨.int _, H, I', ⟨t2, ev⟩, q⟩
        · have e : argBest (fun i j => decide (numAt #[((x : Int), t1), ((y : Int), t2)] i < numAt #[((x : Int), t1), ((y : Int), t2)] j)) 1 = 0 := by simp [argBest, numAt, hba]
          rw [e] at hP'
          have ev : v = .int (x : Int) t1 := by simpa [intItems] using hP'.symm
          have em : min x y = x := by omega
          rw [em] at q
          exact ⟨.int _, H, I', ⟨t1, ev⟩, q⟩
end
end K43
set_option Elab.async false
set_option linter.all false
set_option maxRecDepth 100000
set_option maxHeartbeats 1000000
namespace K43
open PySem PySem.Spec PyProof.Rows L2
/-- the pot of draws at p -/
def PotA (H : Hp) (p cp : Addr) : Prop := ∃ (cs : List Int) (i : Nat) (d m t : Int), H p = some (.lst [.ref cp, .int (i : Int), .int d, .int m, .int t]) ∧ H cp = some (.lst (cs.map V.int))
theorem PotA.same {H H' : Hp} {p cp : Addr} (h : PotA H p cp) (s : Same H H') : PotA H' p cp := let ⟨cs, i, d, m, t, a, b⟩ := h; ⟨cs, i, d, m, t, s _ _ a, s _ _ b⟩
theorem PotA.ext {H H' : Hp} {p cp : Addr} (h : PotA H p cp) (s : ExtN H H') : PotA H' p cp := let ⟨cs, i, d, m, t, a, b⟩ := h; ⟨cs, i, d, m, t, s _ _ a (fun ps z => by cases z), s _ _ b (fun ps z => by cases z)⟩
theorem pot_ne {H : Hp} {p cp : Addr} {x : List V} {cs : List Int} {a : Addr} (h1 : H p = some (.lst (.ref a :: x))) (h2 : H cp = some (.lst (cs.map V.int))) : cp ≠ p := fun z => by
  subst z
  rw [h1] at h2
  have e := Option.some.inj h2
  injection e with e
  cases cs with
  | nil => cases e
  | cons y ys =>
    rw [List.map_cons] at e
    injection e with e1 e2
    cases e1
theorem PotA.lst {H : Hp} {p cp : Addr} (h : PotA H p cp) : ∃ xs, H p = some (.lst xs) := let ⟨_, _, _, _, _, a, _⟩ := h; ⟨_, a⟩
theorem PotA.ne {H : Hp} {p cp D : Addr} (h : PotA H p cp) (n : H D = none) : p ≠ D ∧ cp ≠ D := let ⟨_, _, _, _, _, a, b⟩ := h; ⟨ne_of_none a n, ne_of_none b n⟩
theorem PotA.out {H H' : Hp} {p cp D : Addr} (h : PotA H p cp) (s : SB D H H') (n1 : p ≠ D) (n2 : cp ≠ D) : PotA H' p cp := let ⟨cs, i, d, m, t, a, b⟩ := h; ⟨cs, i, d, m, t, s _ _ n1 a, s _ _ n2 b⟩
theorem PotA.tk {H H' : Hp} {p cp : Addr} (h : PotA H p cp) (s : SB p H H') : TupK H H' := let ⟨_, a⟩ := h.lst; s.tk (NT.lst a)
theorem PotA.tb {K : PySem.W.Frag} {H H' : Hp} {p cp : Addr} (h : PotA H p cp) (s : SB p H H') (t : Tb K H) : Tb K H' := let ⟨_, a⟩ := h.lst; t.updL s a
theorem ints_of : ∀ (acc : List V), (∀ (j : Nat) y, acc[j]? = some y → ∃ n : Int, y = .int n) → ∃ cs : List Int, acc = cs.map V.int
  | [], _ => ⟨[], rfl⟩
  | v :: r, h => by
    obtain ⟨n, rfl⟩ := h 0 v rfl
    obtain ⟨cs, rfl⟩ := ints_of r fun j y e => h (j + 1) y (by simpa using e)
    exact ⟨n :: cs, rfl⟩
section
variable {P : Program} {w : World} {K : PySem.W.Frag} {mg : Str → Option Value} {base : Heap}
theorem sc_pot : FnScope ["_law_script", "_law_cells", "_law_cell"] ["_law_script"] (defScope s__law_pot) := ⟨rfl, rfl, rfl, by decide +kernel, rfl, by decide +kernel, by decide +kernel⟩
def spPot (K : PySem.W.Frag) : Sp := fun vs H Q _ => ∃ (a : Addr) (ns : List Int), vs = [.ref a] ∧ SqL K H a (ns.map V.int) ∧ ns.length ≤ 63 ∧ ∀ H' p cp, Same H H' → PotA H' p cp → Q (.ref p) H'
theorem c_pot (T : Tx K mg) : Cal P w K mg base 1 "_law_pot" ["_law_script"] (spPot K) := by
  refine cal_of (d := d__law_pot) T in__law_pot fa__law_pot rfl rfl rfl (fun _ _ _ _ _ _ us hl => match us, hl with | [_], _ => rfl) sc_pot (fun vs H Q E h => ?_) (fun f cdv A outer s H vs Q E hr h => ?_)
  · obtain ⟨_, _, rfl, _⟩ := h
    rfl
  · obtain ⟨a, ns, rfl, ha, hln, q⟩ := h
    have nd := sc_pot.nd
    refine ⟨_, pss_cons (ps_setLc (i := 1) (own := [("_law_cell", 2)]) (g := gName 2) (tt := tYes) rfl nd rfl rfl (sw_true rfl rfl rfl rfl) (pi_list (pe_slice sl_list (pv 0) po_none (po_some pe_int))) (blkOk_by (N := ["_law_script", "_law_cells", "_law_cell"]) (sc := defScope s__law_pot) (by decide +kernel))
        (fun _ _ _ _ _ => pg_name (i := 2) nd rfl (Or.inl rfl)) (fun _ _ _ _ _ => pts_nil) (fun _ _ _ _ _ => pe_callB call_abs (by rfl) (T.free _ fa_abs) (by decide +kernel) (pa_cons (pe_callTy call_int1 (by rfl) (T.free _ fa_int) (by decide +kernel) (pa_cons (pv 2) pa_nil)) pa_nil)))
      (pss_one (ps_ret (pe_lst (pa_cons (pv 1) (pa_cons pe_int (pa_cons pe_int (pa_cons (pe_op op_add pe_int (pe_callB call_len_seq (by rfl) (T.free _ fa_len) PySem.boot_len (pa_cons (pv 1) pa_nil))) (pa_cons pe_int pa_nil)))))))), ?_⟩
    refine ⟨_, rfl, 63, rfl, a, _, rfl, ha, fun z nz => ⟨z, rfl, ⟨_, SqL.of upd_same⟩, ?_⟩⟩
    have s1 : Same H (upd H z (.lst (cutV (ns.map V.int) none (some 63)))) := same_upd nz
    have hcut : ∀ (i : Nat) x, (cutV (ns.map V.int) none (some 63))[i]? = some x → ∃ n : Int, x = .int n := fun i x e => by
      have m := List.mem_of_getElem? e
      unfold cutV at m
      obtain ⟨n, _, rfl⟩ := List.mem_map.mp (List.mem_of_mem_drop (List.mem_of_mem_take m))
      exact ⟨n, rfl⟩
    have hcl : (cutV (ns.map V.int) none (some 63)).length ≤ 63 := by
      have := cutV_length (ns.map V.int) none (some 63)
      rw [List.length_map] at this
      omega
    intro D nD
    refine lcL (fun j y _ => ∃ n : Int, y = .int n) nD (SqL.of upd_same) (Nat.le_of_lt (small1000 (by omega))) (fun i y H3 H4 ys e sb h => h) (fun i x H3 Qn hx sx k => ?_) (fun H3 acc sx e3 el hR => ?_)
    · obtain ⟨n, rfl⟩ := hcut i x hx
      exact ⟨rfl, _, rfl, .inl ⟨n, rfl, n, rfl, k _ _ (Same.refl _) ⟨_, rfl⟩⟩⟩
    · obtain ⟨cs, hcs⟩ := ints_of acc hR
      subst hcs
      refine ⟨_, rfl, _, rfl, D, _, rfl, .inl (SqL.of e3), _, _, rfl, rfl, by show 5 ≤ sizeLine; decide, fun p np => ?_⟩
      have s2 := same_upd (o := .lst [.ref D, .int 0, .int 0, .int (1 + ((cs.map V.int).length : Nat)), .int 0]) np
      exact q _ p D (s1.trans (sx.trans s2)) ⟨cs, 0, 0, _, 0, upd_same, s2 _ _ e3⟩
end
end K43
set_option Elab.async false
set_option linter.all false
set_option maxRecDepth 100000
set_option maxHeartbeats 1000000
namespace K43
open PySem PySem.Spec PyProof.Rows L2
section
variable {P : Program} {w : World} {K : PySem.W.Frag} {mg : Str → Option Value} {base : Heap}
theorem sc_draw : FnScope ["_law_pot_here", "_law_many", "_law_cell", "_law_digit", "_law_number"] ["_law_pot_here", "_law_many"] (defScope s__law_draw) := ⟨rfl, rfl, rfl, by decide +kernel, rfl, by decide +kernel, by decide +kernel⟩
def spDraw : Sp := fun vs H Q _ => ∃ (p cp : Addr) (m : Nat), vs = [.ref p, .int (m : Int)] ∧ PotA H p cp ∧ 0 < m ∧ m < 1000 ∧ ∀ H' (r : Nat), SB p H H' → PotA H' p cp → r < m → Q (.int (r : Int)) H'
theorem mod_nat {x : Int} {m : Nat} (h : 0 < m) : ∃ r : Nat, x % (m : Int) = (r : Int) ∧ r < m := by
  have h1 := Int.emod_nonneg x (show (m : Int) ≠ 0 by omega)
  have h2 := Int.emod_lt_of_pos x (show (0 : Int) < m by omega)
  exact ⟨(x % (m : Int)).toNat, by omega, by omega⟩
theorem emod_small {x : Int} {m : Int} (h : 0 < m) (h2 : m ≤ 2147483647) : -(2 ^ 64) < x % m ∧ x % m < 2 ^ 64 := by
  have h1 := Int.emod_nonneg x (show m ≠ 0 by omega)
  have h2 := Int.emod_lt_of_pos x h
  omega
theorem c_draw (T : Tx K mg) : Cal P w K mg base 1 "_law_draw" ["_law_pot_here", "_law_many"] spDraw := by
  refine cal_of (d := d__law_draw) T in__law_draw fa__law_draw rfl rfl rfl (fun _ _ _ _ _ _ us hl => match us, hl with | [_, _], _ => rfl) sc_draw (fun vs H Q E h => ?_) (fun f cdv A outer s H vs Q E hr h => ?_)
  · obtain ⟨_, _, _, rfl, _⟩ := h
    rfl
  · obtain ⟨p, cp, m, rfl, hP, hm, hm2, q⟩ := h
    have nd := sc_draw.nd
    refine ⟨_, pss_cons (ps_cut (ps_if (PW.pt (pw_and (pt_cmpR op_eq (pe_ix ix_list (pv 0) pe_int (fun _ _ => rfl)) pe_int (nomark _)) (pw_and1 (pt_cmpR op_lt (pe_ix ix_list (pv 0) pe_int (fun _ _ => rfl)) (pe_callB call_len_seq (by rfl) (T.free _ fa_len) PySem.boot_len (pa_cons (pe_ix ix_list (pv 0) pe_int (fun _ _ => rfl)) pa_nil)) (nomark _)))))
        (pss_cons (ps_set (i := 2) nd rfl (.inl rfl) (pe_ix ix_list (pe_ix ix_list (pv 0) pe_int (fun _ _ => rfl)) (pe_ix ix_list (pv 0) pe_int (fun _ _ => rfl)) (fun _ _ => rfl)))
        (pss_cons (ps_asg (pe_op op_add (pe_ix ix_list (pv 0) pe_int (fun _ _ => rfl)) pe_int) (pg_sub (pv 0) pe_int set_list))
        (pss_cons (ps_asg (pe_op op_mod (pe_callTy call_int1 (by rfl) (T.free _ fa_int) (by decide +kernel) (pa_cons (pe_op op_add (pe_op op_add (pe_op op_mul (pe_ix ix_list (pv 0) pe_int (fun _ _ => rfl)) pe_int) (pv 2)) pe_int) pa_nil)) pe_int) (pg_sub (pv 0) pe_int set_list))
        (pss_one (ps_if (pt_cmpR op_ge (pv 2) (pe_op op_pow pe_int pe_int) (nomark _)) (pss_one (ps_asg (pv 2) (pg_sub (pv 0) pe_int set_list))) pss_nil))))) pss_nil))
      (pss_cons (ps_if (pt_cmpR op_gt (pe_ix ix_list (pv 0) pe_int (fun _ _ => rfl)) pe_int (nomark _))
        (pss_cons (ps_set (i := 3) nd rfl (.inl rfl) (pe_op op_mod (pe_callTy call_int1 (by rfl) (T.free _ fa_int) (by decide +kernel) (pa_cons (pe_ix ix_list (pv 0) pe_int (fun _ _ => rfl)) pa_nil)) (pv 1)))
        (pss_cons (ps_asg (pe_op op_fdiv (pe_ix ix_list (pv 0) pe_int (fun _ _ => rfl)) (pv 1)) (pg_sub (pv 0) pe_int set_list))
        (pss_one (ps_ret (pv 3))))) pss_nil)
      (pss_cons (ps_asg (pe_op op_add (pe_ix ix_list (pv 0) pe_int (fun _ _ => rfl)) pe_int) (pg_sub (pv 0) pe_int set_list))
      (pss_cons (ps_set (i := 4) nd rfl (.inl rfl) (pe_op op_mod (pe_callTy call_int1 (by rfl) (T.free _ fa_int) (by decide +kernel) (pa_cons (pe_op op_mul (pe_callTy call_int1 (by rfl) (T.free _ fa_int) (by decide +kernel) (pa_cons (pe_op op_add (pe_ix ix_list (pv 0) pe_int (fun _ _ => rfl)) (pe_op op_mul pe_int (pe_ix ix_list (pv 0) pe_int (fun _ _ => rfl)))) pa_nil)) pe_int) pa_nil)) pe_int))
      (pss_cons (ps_set (i := 4) nd rfl (.inl rfl) (pe_op op_mod (pe_callTy call_int1 (by rfl) (T.free _ fa_int) (by decide +kernel) (pa_cons (pe_op op_mul (pv 4) (pe_op op_add (pe_op op_fdiv (pv 4) pe_int) pe_int)) pa_nil)) pe_int))
      (pss_cons (ps_set (i := 4) nd rfl (.inl rfl) (pe_op op_mod (pe_callTy call_int1 (by rfl) (T.free _ fa_int) (by decide +kernel) (pa_cons (pe_op op_mul (pv 4) (pe_op op_add (pe_op op_fdiv (pv 4) pe_int) pe_int)) pa_nil)) pe_int))
      (pss_one (ps_ret (pe_op op_mod (pe_callTy call_int1 (by rfl) (T.free _ fa_int) (by decide +kernel) (pa_cons (pe_op op_fdiv (pv 4) pe_int) pa_nil)) (pv 1))))))))), ?_⟩
    refine ⟨fun σ H' => ∃ y2 y3 y4, σ = [some (.ref p), some (.int (m : Int)), y2, y3, y4] ∧ SB p H H' ∧ PotA H' p cp, ?_, ?_⟩
    · rintro σ H1 ⟨y2, y3, y4, rfl, sb, hP1⟩
      obtain ⟨cs, i, d, mm, t, h1, h2⟩ := hP1
      have hcp := pot_ne h1 h2
      refine ⟨_, rfl, p, _, _, _, rfl, rfl, SqL.of h1, atI_nat (j := 2) rfl, _, _, rfl, rfl, _, rfl, ite2 (fun e => ?_) (fun e => ?_)⟩
      · obtain ⟨r, er, hr2⟩ := mod_nat (x := d) hm
        refine ⟨_, rfl, p, _, _, _, rfl, rfl, SqL.of h1, atI_nat (j := 2) rfl, .inl ⟨d, rfl, _, rfl, d, (m : Int), rfl, rfl, by omega, ?_⟩⟩
        refine ⟨_, rfl, p, _, _, _, rfl, rfl, SqL.of h1, atI_nat (j := 2) rfl, _, rfl, d, (m : Int), rfl, rfl, ⟨by omega, by omega⟩, _, rfl, p, _, 2, 2, rfl, rfl, h1, rfl, _, rfl, ?_⟩
        have z := q _ r (sb.trans (sb_upd p H1 (.lst ([V.ref cp, .int (i : Int), .int d, .int mm, .int t].set 2 (.int (d / (m : Int))))))) ⟨cs, i, _, mm, t, upd_same, (upd_ne hcp).trans h2⟩ hr2
        rw [← er] at z
        exact z
      · refine ⟨_, rfl, p, _, _, _, rfl, rfl, SqL.of h1, atI_nat (j := 4) rfl, _, _, rfl, rfl, _, rfl, p, _, 4, 4, rfl, rfl, h1, rfl, ?_⟩
        have h3 : (upd H1 p (.lst ([V.ref cp, .int (i : Int), .int d, .int mm, .int t].set 4 (.int (t + 1))))) p = some (.lst [V.ref cp, .int (i : Int), .int d, .int mm, .int (t + 1)]) := upd_same
        have sb3 := sb.trans (sb_upd p H1 (.lst ([V.ref cp, .int (i : Int), .int d, .int mm, .int t].set 4 (.int (t + 1)))))
        have h4 := (upd_ne (o := .lst ([V.ref cp, .int (i : Int), .int d, .int mm, .int t].set 4 (.int (t + 1)))) (H := H1) hcp).trans h2
        refine ⟨_, rfl, p, _, _, _, rfl, rfl, SqL.of h3, atI_nat (j := 3) rfl, _, rfl, p, _, _, _, rfl, rfl, SqL.of h3, atI_nat (j := 4) rfl, _, _, rfl, rfl, .inl ⟨by decide, by decide⟩, _, _, rfl, rfl, .inl ⟨_, rfl, _, _, rfl, rfl, .inr ⟨by decide, by decide⟩, .inl ⟨_, rfl, _, _, rfl, rfl, show (0 : Int) < 2147483647 by decide, ?_⟩⟩⟩
        refine ⟨_, rfl, _, rfl, _, _, rfl, rfl, ⟨by decide, by decide⟩, _, _, rfl, rfl, _, _, rfl, rfl, .inl (emod_small (by decide) (by decide)), .inl ⟨_, rfl, _, _, rfl, rfl, show (0 : Int) < 2147483647 by decide, ?_⟩⟩
        refine ⟨_, rfl, _, rfl, _, _, rfl, rfl, ⟨by decide, by decide⟩, _, _, rfl, rfl, _, _, rfl, rfl, .inl (emod_small (by decide) (by decide)), .inl ⟨_, rfl, _, _, rfl, rfl, show (0 : Int) < 2147483399 by decide, ?_⟩⟩
        refine ⟨_, rfl, _, _, rfl, rfl, ⟨by decide, by decide⟩, .inl ⟨_, rfl, _, rfl, _, (m : Int), rfl, rfl, by omega, ?_⟩⟩
        obtain ⟨r, er, hr2⟩ := mod_nat (x := (mm + 7919 * (t + 1)) * 48271 % 2147483647 * ((mm + 7919 * (t + 1)) * 48271 % 2147483647 / 1009 + 69621) % 2147483647 * ((mm + 7919 * (t + 1)) * 48271 % 2147483647 * ((mm + 7919 * (t + 1)) * 48271 % 2147483647 / 1009 + 69621) % 2147483647 / 2003 + 40692) % 2147483399 / 16) hm
        have z := q _ r sb3 ⟨cs, i, d, mm, _, h3, h4⟩ hr2
        rw [← er] at z
        exact z
    · obtain ⟨cs, i, d, mm, t, h1, h2⟩ := hP
      have hcp := pot_ne h1 h2
      have stay : (fun σ H' => ∃ y2 y3 y4, σ = [some (.ref p), some (.int (m : Int)), y2, y3, y4] ∧ SB p H H' ∧ PotA H' p cp) [some (V.ref p), some (.int (m : Int)), none, none, none] H := ⟨_, _, _, rfl, SB.refl _ _, cs, i, d, mm, t, h1, h2⟩
      refine ⟨_, rfl, p, _, _, _, rfl, rfl, SqL.of h1, atI_nat (j := 2) rfl, rfl, ?_⟩
      refine ⟨_, rfl, ite2 (fun e => ?_) (fun e => iteF stay)⟩
      refine ⟨_, rfl, p, _, _, _, rfl, rfl, SqL.of h1, atI_nat (j := 1) rfl, _, rfl, p, _, _, _, rfl, rfl, SqL.of h1, atI_nat (j := 0) rfl, cp, _, rfl, .inl (SqL.of h2), _, _, rfl, rfl, _, rfl, ite2 (fun e2 => ?_) (fun e2 => stay)⟩
      have hi : i < cs.length := by
        have := of_decide_eq_true e2
        rw [List.length_map] at this
        omega
      have hz : (cs.map V.int)[i]? = some (.int cs[i]) := by rw [List.getElem?_map, List.getElem?_eq_getElem hi]; rfl
      generalize cs[i] = z at hz
      refine ⟨_, rfl, p, _, _, _, rfl, rfl, SqL.of h1, atI_nat (j := 0) rfl, _, rfl, p, _, _, _, rfl, rfl, SqL.of h1, atI_nat (j := 1) rfl, cp, _, _, _, rfl, rfl, SqL.of h2, atI_nat hz, ?_⟩
      refine ⟨_, rfl, p, _, _, _, rfl, rfl, SqL.of h1, atI_nat (j := 1) rfl, _, _, rfl, rfl, _, rfl, p, _, 1, 1, rfl, rfl, h1, rfl, ?_⟩
      have ha : (upd H p (.lst ([V.ref cp, .int (i : Int), .int d, .int mm, .int t].set 1 (.int ((i : Int) + 1))))) p = some (.lst [V.ref cp, .int ((i + 1 : Nat) : Int), .int d, .int mm, .int t]) := upd_same
      have sba := sb_upd p H (.lst ([V.ref cp, .int (i : Int), .int d, .int mm, .int t].set 1 (.int ((i : Int) + 1))))
      have h2a := sba _ _ hcp h2
      generalize upd H p (.lst ([V.ref cp, .int (i : Int), .int d, .int mm, .int t].set 1 (.int ((i : Int) + 1)))) = Ha at ha sba h2a
      refine ⟨_, rfl, p, _, _, _, rfl, rfl, SqL.of ha, atI_nat (j := 3) rfl, _, _, rfl, rfl, .inr ⟨by decide, by decide⟩, _, rfl, _, _, rfl, rfl, _, _, rfl, rfl, .inl ⟨_, rfl, _, _, rfl, rfl, show (0 : Int) < 2147483629 by decide, _, rfl, p, _, 3, 3, rfl, rfl, ha, rfl, ?_⟩⟩
      have hb : (upd Ha p (.lst ([V.ref cp, .int ((i + 1 : Nat) : Int), .int d, .int mm, .int t].set 3 (.int ((mm * 69621 + z + 11) % 2147483629))))) p = some (.lst [V.ref cp, .int ((i + 1 : Nat) : Int), .int d, .int ((mm * 69621 + z + 11) % 2147483629), .int t]) := upd_same
      have sbb := sba.trans (sb_upd p Ha (.lst ([V.ref cp, .int ((i + 1 : Nat) : Int), .int d, .int mm, .int t].set 3 (.int ((mm * 69621 + z + 11) % 2147483629)))))
      have h2b := sbb _ _ hcp h2
      generalize upd Ha p (.lst ([V.ref cp, .int ((i + 1 : Nat) : Int), .int d, .int mm, .int t].set 3 (.int ((mm * 69621 + z + 11) % 2147483629)))) = Hb at hb sbb h2b
      refine ⟨_, rfl, 10, 18, rfl, rfl, ⟨by decide, by decide, by decide⟩, _, _, rfl, rfl, _, rfl, ite2 (fun e3 => ?_) (fun e3 => ?_)⟩
      · refine ⟨_, rfl, _, rfl, p, _, 2, 2, rfl, rfl, hb, rfl, _, _, _, rfl, sbb.trans (sb_upd _ _ _), cs, i + 1, _, _, t, upd_same, (upd_ne hcp).trans h2b⟩
      · exact ⟨_, _, _, rfl, sbb, cs, i + 1, d, _, t, hb, h2b⟩
end
end K43
set_option Elab.async false
set_option linter.all false
set_option maxRecDepth 100000
set_option maxHeartbeats 1000000
namespace K43
open PySem PySem.Spec PyProof.Rows L2
/-- an object laid behind D's change is none of the old ones -/
theorem SB.new {p l : Addr} {H H1 H2 : Hp} (a : SB p H H1) (n : H l = none) (b : SB l H1 H2) : SB p H H2 := fun c o nc h => b c o (ne_of_none h n) (a c o nc h)
section
variable {P : Program} {w : World} {K : PySem.W.Frag} {mg : Str → Option Value} {base : Heap}
theorem sc_any : FnScope ["_law_pot_here", "_law_things"] ["_law_pot_here", "_law_things"] (defScope s__law_any) := ⟨rfl, rfl, rfl, by decide +kernel, rfl, by decide +kernel, by decide +kernel⟩
def spAny (K : PySem.W.Frag) : Sp := fun vs H Q _ => ∃ (p cp l : Addr) (xs : List V), vs = [.ref p, .ref l] ∧ PotA H p cp ∧ H l = some (.lst xs) ∧ l ≠ p ∧ 0 < xs.length ∧ xs.length < 1000 ∧ ∀ H' (r : Nat) x, SB p H H' → PotA H' p cp → xs[r]? = some x → Q x H'
theorem c_any (T : Tx K mg) : Cal P w K mg base 2 "_law_any" ["_law_pot_here", "_law_things"] (spAny K) := by
  refine cal_of (d := d__law_any) T in__law_any fa__law_any rfl rfl rfl (fun _ _ _ _ _ _ us hl => match us, hl with | [_, _], _ => rfl) sc_any (fun vs H Q E h => ?_) (fun f cdv A outer s H vs Q E hr h => ?_)
  · obtain ⟨_, _, _, _, rfl, _⟩ := h
    rfl
  · obtain ⟨p, cp, l, xs, rfl, hP, hl, hn, h0, h1, q⟩ := h
    refine ⟨_, pss_one (ps_ret (pe_ix ix_list (pv 1) (pe_cal (c_draw T) hr (pa_cons (pv 0) (pa_cons (pe_callB call_len_seq (by rfl) (T.free _ fa_len) PySem.boot_len (pa_cons (pv 1) pa_nil)) pa_nil))) (fun _ _ => rfl))), ?_⟩
    refine ⟨_, rfl, _, rfl, _, rfl, l, _, rfl, .inl (SqL.of hl), p, cp, xs.length, rfl, hP, h0, h1, fun H' r sb hP' hr2 => ?_⟩
    have e : xs[r]? = some xs[r] := List.getElem?_eq_getElem hr2
    exact ⟨l, xs, _, _, rfl, rfl, SqL.of (sb _ _ hn hl), atI_nat e, q H' r _ sb hP' e⟩
theorem sc_ladv : FnScope ["_law_pot_here", "_law_size", "_law_most", "_law_states", "_law_rules", "_law_state", "_law_letter"] ["_law_pot_here", "_law_size", "_law_most"] (defScope s__law_adviser) := ⟨rfl, rfl, rfl, by decide +kernel, rfl, by decide +kernel, by decide +kernel⟩
def spLAdv (K : PySem.W.Frag) : Sp := fun vs H Q _ => ∃ (p cp : Addr), vs = [.ref p, .int 2, .int 6] ∧ PotA H p cp ∧ ∀ H' v a, SB p H H' → PotA H' p cp → AdvA K H' v a → AdvOk a → Q v H'
theorem c_ladv (T : Tx K mg) : Cal P w K mg base 2 "_law_adviser" ["_law_pot_here", "_law_size", "_law_most"] (spLAdv K) := by
  refine cal_of (d := d__law_adviser) T in__law_adviser fa__law_adviser rfl rfl rfl (fun _ _ _ _ _ _ us hl => match us, hl with | [_, _, _], _ => rfl) sc_ladv (fun vs H Q E h => ?_) (fun f cdv A outer s H vs Q E hr h => ?_)
  · obtain ⟨_, _, rfl, _⟩ := h
    rfl
  · obtain ⟨p, cp, rfl, hP, q⟩ := h
    have nd := sc_ladv.nd
    refine ⟨_, pss_cons (ps_set (i := 3) nd rfl (.inr rfl) (pe_op op_add pe_int (pe_cal (c_draw T) hr (pa_cons (pv 0) (pa_cons (pv 2) pa_nil)))))
      (pss_cons (ps_set (i := 4) nd rfl (.inl rfl) (pe_lst pa_nil))
      (pss_cons (ps_for PassesOwn.never rfl (pi_range1 (by rfl) (T.free _ fa_range) (pa_cons (pv 3) pa_nil)) (pg_name (i := 5) nd rfl (.inl rfl))
        (pss_one (ps_expr (pe_bm PySem.F.plainAttrs_list PySem.F.slot_list_append PySem.F.type_list_append mt_append (pv 4) (pa_cons (pe_tup (pa_cons (pe_cal (c_draw T) hr (pa_cons (pv 0) (pa_cons (pv 1) pa_nil)))
          (pa_cons (pe_callTy call_tuple_of (by rfl) (T.free _ fa_tuple) (by decide +kernel) (pa_cons (pe_lc (own := [("_law_letter", 6)]) (g := gName 6) (tt := tYes) (te := tCall spDraw [] E0 (tCons (tVar 0) (tCons (tVar 3) tNil))) rfl nd (pi_range1 (by rfl) (T.free _ fa_range) (pa_cons (pv 1) pa_nil)) (blkOk_by (N := ["_law_pot_here", "_law_size", "_law_most", "_law_states", "_law_rules", "_law_state", "_law_letter"]) (sc := defScope s__law_adviser) (by decide +kernel))
            (fun _ _ _ _ _ => pg_name (i := 6) nd rfl (Or.inl rfl)) (fun _ _ _ _ _ => pts_nil) (fun _ _ _ _ _ => pe_cal (c_draw T) hr (pa_cons (pv 0) (pa_cons (pv 3) pa_nil)))) pa_nil)) pa_nil))) pa_nil)))))
      (pss_one (ps_ret (pe_tup (pa_cons (pv 1) (pa_cons (pe_callTy call_tuple_of (by rfl) (T.free _ fa_tuple) (by decide +kernel) (pa_cons (pv 4) pa_nil)) pa_nil))))))), ?_⟩
    refine ⟨_, rfl, _, rfl, p, cp, 6, rfl, hP, by decide, by decide, fun H1 r sb1 hP1 hr6 => ⟨_, _, rfl, rfl, Nat.zero_le _, fun l nl => ?_⟩⟩
    have est : (1 : Int) + (r : Int) = ((r + 1 : Nat) : Int) := by omega
    have sl := same_upd (o := .lst []) nl
    obtain ⟨pl, cl⟩ := hP1.ne nl
    have hl0 : (upd H1 l (.lst [])) l = some (.lst []) := upd_same
    refine ⟨_, rfl, (1 : Int) + (r : Int), rfl, by omega, by omega, ?_⟩
    refine for_range (lo := 0) (n := ((1 : Int) + (r : Int)).toNat) (fun i σ H2 => SB p H1 H2 ∧ PotA H2 p cp ∧ ∃ y5 acc a, σ = [some (.ref p), some (.int 2), some (.int 6), some (.int ((1 : Int) + (r : Int))), some (.ref l), y5, none] ∧ H2 l = some (.lst acc) ∧ Paired (RuleA K H2) acc a ∧ a.length = i ∧ ∀ q ∈ a, q.1 < 2 ∧ q.2.1 < r + 1 ∧ q.2.2 < r + 1)
      ⟨sl.sb p, hP1.same sl, none, [], [], rfl, hl0, .nil, rfl, fun q hq => (List.not_mem_nil hq).elim⟩ ?_ ?_
    · rintro i σ H2 hi ⟨sm, hP2, y5, acc, a, rfl, hl, hacc, hal, hak⟩
      refine ⟨.ref l, rfl, .inl ⟨rfl, _, SqL.of hl⟩, _, rfl, _, rfl, p, cp, 2, rfl, hP2, by decide, by decide, fun H3 r0 sb3 hP3 hr0 => ?_⟩
      refine ⟨_, rfl, 2, rfl, by decide, by decide, ?_⟩
      intro D nD
      obtain ⟨pD, cD⟩ := hP3.ne nD
      have sD := same_upd (o := .lst []) nD
      refine lc_range (lo := 0) (n := 2) (fun j H => SB p H3 H ∧ PotA H p cp ∧ ∃ ns : List Nat, H D = some (.lst (ns.map fun x : Nat => V.int (x : Int))) ∧ ns.length = j ∧ ∀ x ∈ ns, x < r + 1)
        ⟨sD.sb p, hP3.same sD, [], upd_same, rfl, fun x hx => (List.not_mem_nil hx).elim⟩ ?_ ?_
      · rintro j H4 hj ⟨sb4, hP4, ns, hD, hnl, hnk⟩
        refine ⟨rfl, _, rfl, _, rfl, p, cp, r + 1, by rw [← est]; rfl, hP4, by omega, by omega, fun H5 x sb5 hP5 hx => ⟨_, sb5 _ _ pD.symm hD, ?_, ?_⟩⟩
        · rw [List.length_map]
          exact Nat.lt_of_le_of_lt (show ns.length ≤ 2 by omega) (by decide)
        · have sb6 := sb_upd D H5 (.lst ((ns.map fun x : Nat => V.int (x : Int)) ++ [.int (x : Int)]))
          refine ⟨(sb4.trans sb5).new nD sb6, hP5.out sb6 pD cD, ns ++ [x], by rw [List.map_append]; exact upd_same, by rw [List.length_append, hnl]; rfl, fun y hy => ?_⟩
          rcases List.mem_append.mp hy with hy | hy
          · exact hnk y hy
          · rw [List.mem_singleton.mp hy]; exact hx
      · rintro H4 ⟨sb4, hP4, ns, hD, hnl, hnk⟩
        refine ⟨D, _, rfl, .inl ⟨SqL.of hD, fun tn ntn => ⟨by show 2 ≤ sizeLine; decide, fun t nt => ?_⟩⟩⟩
        match ns, hnl, hnk, hD, ntn, nt with
        | [r1, r2], _, hnk, hD, ntn, nt =>
          have s5 := same_upd (o := .tup ([r1, r2].map fun x : Nat => V.int (x : Int))) ntn
          have s6 := same_upd (o := .tup [.int (r0 : Int), .ref tn]) nt
          have s46 := s5.trans s6
          have hn6 := s6 _ _ (upd_same (H := H4) (a := tn) (o := .tup ([r1, r2].map fun x : Nat => V.int (x : Int))))
          have sb24 := sb3.trans sb4
          have hl6 := s46 _ _ (sb24 _ _ pl.symm hl)
          have t26 := (hP2.tk sb24).trans s46.tk
          have hP6 := hP4.same s46
          refine ⟨l, acc, _, rfl, rfl, hl6, ?_, ?_⟩
          · rw [Paired.length hacc, hal]
            exact Nat.lt_of_le_of_lt (show i ≤ 1000 by omega) (by decide)
          · generalize hgen : upd (upd H4 tn (.tup ([r1, r2].map fun x : Nat => V.int (x : Int)))) t (.tup [.int (r0 : Int), .ref tn]) = H6 at *
            have sb7 := sb_upd l H6 (.lst (acc ++ [.ref t]))
            have ht6 : H6 t = some (.tup [.int (r0 : Int), .ref tn]) := by rw [← hgen]; exact upd_same
            have tk7 := sb7.tk (NT.lst hl6)
            refine ⟨((sm.trans sb24).trans (s46.sb p)).new nl sb7, hP6.out sb7 pl cl, _, _, a ++ [(r0, (r1, r2))], rfl, upd_same, ?_, by rw [List.length_append, hal]; rfl, fun q hq => ?_⟩
            · exact Paired.app (Paired.mapP hacc fun v c h => (h.tk t26).tk tk7) (.cons ⟨t, tn, rfl, tk7.sqT (SqT.of ht6), tk7.sqT (SqT.of hn6)⟩ .nil)
            · rcases List.mem_append.mp hq with hq | hq
              · exact hak q hq
              · rw [List.mem_singleton.mp hq]
                exact ⟨hr0, hnk r1 (.head _), hnk r2 (.tail _ (.head _))⟩
    · rintro σ H2 ⟨sm, hP2, y5, acc, a, rfl, hl, hacc, hal, hak⟩
      refine ⟨_, rfl, _, rfl, l, acc, rfl, .inl ⟨SqL.of hl, fun tr ntr => ⟨by show 2 ≤ sizeLine; decide, fun t nt => ?_⟩⟩⟩
      have s5 := same_upd (o := .tup acc) ntr
      have s6 := same_upd (o := .tup [.int 2, .ref tr]) nt
      have s56 := s5.trans s6
      have hra := s6 _ _ (upd_same (H := H2) (a := tr) (o := .tup acc))
      refine q _ _ a (((sb1.trans sm).trans (s56.sb p))) (hP2.same s56) ⟨t, tr, acc, rfl, SqT.of upd_same, SqT.of hra, Paired.mapP hacc fun v c h => h.tk s56.tk⟩ ?_
      have e : a.length = r + 1 := by omega
      exact ⟨by omega, by omega, fun q hq => by rw [e]; exact hak q hq⟩
end
end K43
set_option Elab.async false
set_option linter.all false
set_option maxRecDepth 100000
set_option maxHeartbeats 1000000
namespace K43
open PySem PySem.Spec PyProof.Rows L2
/-- the adviser who tells the other letters -/
def agn (a : Adv) : Adv := a.map fun r => (1 - r.1, r.2)
theorem agn_at {a : Adv} {s : Nat} (hs : s < a.length) : (agn a).getD s (0, 0, 0) = (1 - (a.getD s (0, 0, 0)).1, (a.getD s (0, 0, 0)).2) := by
  unfold agn
  rw [List.getD_eq_getElem?_getD, List.getElem?_map, List.getD_eq_getElem?_getD, List.getElem?_eq_getElem hs]
  rfl
theorem agn_ok {a : Adv} (h : AdvOk a) : AdvOk (agn a) := by
  have e : (agn a).length = a.length := List.length_map ..
  refine ⟨by rw [e]; exact h.1, by rw [e]; exact h.2.1, fun r hr => ?_⟩
  obtain ⟨q, hq, rfl⟩ := List.mem_map.mp hr
  obtain ⟨h1, h2, h3⟩ := h.2.2 q hq
  rw [e]
  exact ⟨by show 1 - q.1 < 2; omega, h2, h3⟩
/-- b goes as a does, some states twice -/
def Cov (a b : Adv) : Prop := ∃ φ : Nat → Nat, φ 0 = 0 ∧ ∀ t, t < b.length → φ t < a.length ∧ told b t = told a (φ t) ∧ ∀ x, φ (nxt b t x) = nxt a (φ t) x
theorem Cov.refl (a : Adv) : Cov a a := ⟨id, rfl, fun t ht => ⟨ht, rfl, fun x => rfl⟩⟩
def DrN (m one n n' : Nat) : Prop := n' = n ∨ (n = one ∧ n' = m)
def DrR (m one : Nat) (r r' : Rule) : Prop := r'.1 = r.1 ∧ DrN m one r.2.1 r'.2.1 ∧ DrN m one r.2.2 r'.2.2
theorem dr_at {a b : Adv} {one : Nat} (h : Paired (DrR a.length one) (a ++ [a.getD one (0, 0, 0)]) b) {t : Nat} (ht : t < b.length) : DrR a.length one (a.getD (if t = a.length then one else t) (0, 0, 0)) (b.getD t (0, 0, 0)) := by
  have e : b[t]? = some b[t] := List.getElem?_eq_getElem ht
  obtain ⟨r, hr, d⟩ := paired_get' h e
  have e2 : b.getD t (0, 0, 0) = b[t] := by rw [List.getD_eq_getElem?_getD, e]; rfl
  rw [e2]
  have hl : (a ++ [a.getD one (0, 0, 0)]).length = b.length := Paired.length h
  rw [List.length_append, List.length_singleton] at hl
  by_cases q : t = a.length
  · rw [if_pos q]
    rw [List.getElem?_append_right (by omega), q, Nat.sub_self] at hr
    have z : a.getD one (0, 0, 0) = r := Option.some.inj hr
    rw [z]; exact d
  · rw [if_neg q]
    rw [List.getElem?_append_left (by omega)] at hr
    rw [List.getD_eq_getElem?_getD, hr]
    exact d
theorem dr_cov {a b : Adv} {one : Nat} (ha : AdvOk a) (h5 : a.length ≤ 5) (h1 : one < a.length) (h : Paired (DrR a.length one) (a ++ [a.getD one (0, 0, 0)]) b) : AdvOk b ∧ Cov a b := by
  have hl : (a ++ [a.getD one (0, 0, 0)]).length = b.length := Paired.length h
  rw [List.length_append, List.length_singleton] at hl
  have fl : ∀ t, t < b.length → (if t = a.length then one else t) < a.length := fun t ht => by split <;> omega
  have nn : ∀ n n', n < a.length → DrN a.length one n n' → n' < b.length ∧ (if n' = a.length then one else n') = n := by
    intro n n' hn d
    rcases d with e | ⟨e1, e2⟩
    · subst e
      rw [if_neg (by omega)]
      exact ⟨by omega, rfl⟩
    · subst e2
      rw [if_pos rfl]
      exact ⟨by omega, e1.symm⟩
  constructor
  · refine ⟨by omega, by omega, fun r hr => ?_⟩
    obtain ⟨t, ht, rfl⟩ := List.mem_iff_getElem.mp hr
    have d := dr_at h ht
    have e2 : b.getD t (0, 0, 0) = b[t] := by rw [List.getD_eq_getElem?_getD, List.getElem?_eq_getElem ht]; rfl
    rw [e2] at d
    obtain ⟨g1, g2, g3⟩ := ha.2.2 _ (ha.at (fl t ht)).2
    exact ⟨by rw [d.1]; exact g1, (nn _ _ g2 d.2.1).1, (nn _ _ g3 d.2.2).1⟩
  · refine ⟨fun t => if t = a.length then one else t, if_neg (by omega), fun t ht => ⟨fl t ht, (dr_at h ht).1, fun x => ?_⟩⟩
    have d := dr_at h ht
    obtain ⟨g1, g2, g3⟩ := ha.2.2 _ (ha.at (fl t ht)).2
    unfold nxt
    by_cases hx : x = 0
    · simp only [hx, if_true]
      exact (nn _ _ g2 d.2.1).2
    · simp only [hx, if_false]
      exact (nn _ _ g3 d.2.2).2
/-- the two always tell unlike letters -/
theorem cov_bis {a b : Adv} (ha : AdvOk a) (hb : AdvOk b) (h : Cov (agn a) b) : ∃ R : Nat → Nat → Prop, R 0 0 ∧ Bis a b R ∧ ∀ s t, R s t → s < a.length ∧ t < b.length := by
  obtain ⟨φ, h0, h1⟩ := h
  have e : (agn a).length = a.length := List.length_map ..
  refine ⟨fun s t => t < b.length ∧ s = φ t, ⟨hb.1, h0.symm⟩, ⟨?_, ?_⟩, ?_⟩
  · rintro s t ⟨ht, rfl⟩
    obtain ⟨g1, g2, _⟩ := h1 t ht
    rw [e] at g1
    have t2 : told (agn a) (φ t) = 1 - told a (φ t) := by unfold told; rw [agn_at g1]
    have := ha.told g1
    omega
  · rintro s t x ⟨ht, rfl⟩ hx
    obtain ⟨g1, g2, g3⟩ := h1 t ht
    rw [e] at g1
    refine ⟨hb.nxt ht x, ?_⟩
    rw [g3 x]
    unfold nxt
    rw [agn_at g1]
  · rintro s t ⟨ht, rfl⟩
    have := (h1 t ht).1
    exact ⟨by omega, ht⟩
section
variable {P : Program} {w : World} {K : PySem.W.Frag} {mg : Str → Option Value} {base : Heap}
theorem sc_agn : FnScope ["_law_adviser_here", "_law_told", "_law_nexts"] ["_law_adviser_here"] (defScope s__law_against) := ⟨rfl, rfl, rfl, by decide +kernel, rfl, by decide +kernel, by decide +kernel⟩
def spAgn (K : PySem.W.Frag) : Sp := fun vs H Q _ => ∃ (v : V) (a : Adv), vs = [v] ∧ AdvA K H v a ∧ AdvOk a ∧ ∀ H' v', Same H H' → AdvA K H' v' (agn a) → Q v' H'
theorem c_agn (T : Tx K mg) : Cal P w K mg base 1 "_law_against" ["_law_adviser_here"] (spAgn K) := by
  refine cal_of (d := d__law_against) T in__law_against fa__law_against rfl rfl rfl (fun _ _ _ _ _ _ us hl => match us, hl with | [_], _ => rfl) sc_agn (fun vs H Q E h => ?_) (fun f cdv A outer s H vs Q E hr h => ?_)
  · obtain ⟨_, _, rfl, _⟩ := h
    rfl
  · obtain ⟨_, a, rfl, ⟨p, r, us, rfl, h1, h2, h3⟩, ok, q⟩ := h
    have nd := sc_agn.nd
    have lu : us.length = a.length := Paired.length h3
    have o2 := ok.2.1
    refine ⟨_, pss_one (ps_ret (pe_tup (pa_cons pe_int (pa_cons (pe_callTy call_tuple_of (by rfl) (T.free _ fa_tuple) (by decide +kernel) (pa_cons (pe_lc (own := [("_law_told", 1), ("_law_nexts", 2)]) (g := gTup K 2 (gCons (gName 1) (gCons (gName 2) gNil))) (tt := tYes) rfl nd (pi_tup (pe_ix ix_tup (pv 0) pe_int (fun _ _ => rfl)))
        (blkOk_by (N := ["_law_adviser_here", "_law_told", "_law_nexts"]) (sc := defScope s__law_against) (by decide +kernel)) (fun _ _ _ _ _ => pg_tup rfl (pgs_cons (pg_name (i := 1) nd rfl (Or.inl rfl)) (pgs_cons (pg_name (i := 2) nd rfl (Or.inl rfl)) pgs_nil))) (fun _ _ _ _ _ => pts_nil)
        (fun _ _ _ _ _ => pe_tup (pa_cons (pe_op op_sub pe_int (pv 1)) (pa_cons (pv 2) pa_nil)))) pa_nil)) pa_nil)))), ?_⟩
    refine ⟨_, rfl, p, _, _, _, rfl, rfl, h1, atI_nat (j := 1) rfl, r, rfl, ⟨_, h2⟩, ?_⟩
    intro D nD
    refine lcT (fun j y H => ∃ q, a[j]? = some q ∧ RuleA K H y (1 - q.1, q.2)) nD h2 (Nat.le_of_lt (small1000 (by omega))) (fun i y H3 H4 ys e sb ⟨q, g1, g2⟩ => ⟨q, g1, g2.tk (sb.tk (NT.lst e))⟩) (fun i y H3 Qn hy sx k => ?_) (fun H3 acc sx e3 el hR => ?_)
    · obtain ⟨rq, hq, py, n, rfl, g1, g2⟩ := paired_get h3 hy
      have lt := (ok.2.2 rq (List.mem_of_getElem? hq)).1
      refine ⟨py, _, rfl, sx.sqT g1, rfl, _, _, rfl, _, _, rfl, rfl, rfl, _, rfl, _, _, rfl, rfl, _, rfl, by show 2 ≤ sizeLine; decide, fun t nt => k _ _ (same_upd nt) ⟨rq, hq, t, n, rfl, SqT.of ?_, (same_upd nt).sqT (sx.sqT g2)⟩⟩
      rw [upd_same]
      show some (HO.tup [V.int ((1 : Int) - (rq.1 : Int)), V.ref n]) = some (HO.tup [V.int ((1 - rq.1 : Nat) : Int), V.ref n])
      rw [show (1 : Int) - (rq.1 : Int) = ((1 - rq.1 : Nat) : Int) by omega]
    · refine ⟨D, acc, rfl, .inl ⟨SqL.of e3, fun tr ntr => ⟨by show 2 ≤ sizeLine; decide, fun t nt => ?_⟩⟩⟩
      have s5 := same_upd (o := .tup acc) ntr
      have s6 := same_upd (o := .tup [.int 2, .ref tr]) nt
      have hra := s6 _ _ (upd_same (H := H3) (a := tr) (o := .tup acc))
      refine q _ _ (sx.trans (s5.trans s6)) ⟨t, tr, acc, rfl, SqT.of upd_same, SqT.of hra, paired_of (by show acc.length = (agn a).length; unfold agn; rw [List.length_map]; omega) fun i y z e1 e2 => ?_⟩
      obtain ⟨q', g1, g2⟩ := hR i y e1
      have e4 : (agn a)[i]? = some z := e2
      unfold agn at e4
      rw [List.getElem?_map, g1] at e4
      rw [← Option.some.inj e4]
      exact g2.tk (s5.trans s6).tk
end
end K43
set_option Elab.async false
set_option linter.all false
set_option maxRecDepth 100000
set_option maxHeartbeats 1000000
namespace K43
open PySem PySem.Spec PyProof.Rows L2
section
variable {P : Program} {w : World} {K : PySem.W.Frag} {mg : Str → Option Value} {base : Heap}
theorem sc_dbl : FnScope ["_law_pot_here", "_law_adviser_here", "_law_many", "_law_one", "_law_rules", "_law_told", "_law_nexts", "_law_later"] ["_law_pot_here", "_law_adviser_here"] (defScope s__law_doubled) := ⟨rfl, rfl, rfl, by decide +kernel, rfl, by decide +kernel, by decide +kernel⟩
def spDbl (K : PySem.W.Frag) : Sp := fun vs H Q _ => ∃ (p cp : Addr) (v : V) (a : Adv), vs = [.ref p, v] ∧ PotA H p cp ∧ AdvA K H v a ∧ AdvOk a ∧ ∀ H' v' b, SB p H H' → PotA H' p cp → AdvA K H' v' b → AdvOk b → Cov a b → Q v' H'
theorem one_cut {us : List V} {one : Nat} {x : V} (h : us[one]? = some x) : cutV us (some (one : Int)) (some ((one : Int) + 1)) = [x] := by
  have hl := (List.getElem?_eq_some_iff.mp h).1
  unfold cutV
  rw [show (one : Int) + 1 = ((one + 1 : Nat) : Int) by omega, HT.sIx_nat, HT.sIx_nat, Nat.min_eq_left (by omega), Nat.min_eq_left (by omega), show one + 1 - one = 1 by omega]
  rw [List.drop_eq_getElem_cons hl]
  have e : us[one] = x := by
    rw [List.getElem?_eq_getElem hl] at h
    exact Option.some.inj h
  rw [e]
  rfl
theorem one_whole {us : List V} {one : Nat} {x : V} (h : us[one]? = some x) (w : HT.sIx us.length 0 (some (one : Int)) = 0 ∧ HT.sIx us.length us.length (some ((one : Int) + 1)) = us.length) : us = [x] := by
  have hl := (List.getElem?_eq_some_iff.mp h).1
  rw [show (one : Int) + 1 = ((one + 1 : Nat) : Int) by omega, HT.sIx_nat, HT.sIx_nat] at w
  obtain ⟨w1, w2⟩ := w
  have e0 : one = 0 := by omega
  subst e0
  match us, h, w2, hl with
  | [y], h, _, _ => rw [Option.some.inj h]
  | y :: z :: r, _, w2, _ =>
    simp at w2
theorem pe_weak {X : Cx} {e : Expr} {t t' : TE} (h : PE X e t) (i : ∀ σ H Q, t' σ H Q → t σ H Q) : PE X e t' := ⟨fun pins s σ H Q I q => h.run pins s σ H Q I (i σ H Q q)⟩
/-- us + us[one:one + 1], us what the adviser at slot 1 has, one in slot 3 -/
def tTwice (K : PySem.W.Frag) : TE := fun σ H Q => ∃ (ap r : Addr) (us : List V) (one : Nat) (x : V), tVar 1 σ H (fun v H' => v = .ref ap ∧ H' = H) ∧ tVar 3 σ H (fun v H' => v = .int (one : Int) ∧ H' = H) ∧ SqT K H ap [.int 2, .ref r] ∧ SqT K H r us ∧ us[one]? = some x ∧ us.length ≤ 900 ∧
  ∀ c H4, Same H H4 → SqT K H4 c (us ++ [x]) → Q (.ref c) H4
theorem twice_imp {σ : L2.St} {H : Hp} {Q : VK} (h : tTwice K σ H Q) : tOp (rCatA K) (tOp (rIxT K) (tVar 1) (tC (.int 1))) (tSl (rSlA K) (tOp (rIxT K) (tVar 1) (tC (.int 1))) (tPart (tVar 3)) (tPart (tOp (rI0 fun i j => .int (i + j)) (tVar 3) (tC (.int 1))))) σ H Q := by
  obtain ⟨ap, r, us, one, x, ⟨v, e1, rfl, _⟩, ⟨u, e2, rfl, _⟩, h1, h2, h3, h4, q⟩ := h
  have hz : us.length + 1 ≤ sizeLine := Nat.le_of_lt (small1000 (by omega))
  have ne : us ≠ [] := fun z => by
    rw [z] at h3
    simp at h3
  refine ⟨_, e1, ap, _, _, _, rfl, rfl, h1, atI_nat (j := 1) rfl, _, e1, ap, _, _, _, rfl, rfl, h1, atI_nat (j := 1) rfl, _, e2, _, rfl, _, e2, _, _, rfl, rfl, _, rfl, r, us, rfl, h2, fun w => ?_, fun nw y ny => ?_⟩
  · have e := one_whole h3 w
    refine ⟨r, r, us, [x], rfl, rfl, h2, by rw [← e]; exact h2, hz, fun z => absurd z ne, fun _ z => absurd z (List.cons_ne_nil _ _), fun _ _ c nc => q c _ (same_upd nc) (SqT.of upd_same)⟩
  · have s1 := same_upd (o := .tup (cutV us (some (one : Int)) (some ((one : Int) + 1)))) ny
    refine ⟨r, y, us, [x], rfl, rfl, s1.sqT h2, SqT.of (by rw [upd_same, one_cut h3]), hz, fun z => absurd z ne, fun _ z => absurd z (List.cons_ne_nil _ _), fun _ _ c nc => q c _ (s1.trans (same_upd nc)) (SqT.of upd_same)⟩
theorem c_dbl (T : Tx K mg) : Cal P w K mg base 2 "_law_doubled" ["_law_pot_here", "_law_adviser_here"] (spDbl K) := by
  refine cal_of (d := d__law_doubled) T in__law_doubled fa__law_doubled rfl rfl rfl (fun _ _ _ _ _ _ us hl => match us, hl with | [_, _], _ => rfl) sc_dbl (fun vs H Q E h => ?_) (fun f cdv A outer s H vs Q E hr h => ?_)
  · obtain ⟨_, _, _, _, rfl, _⟩ := h
    rfl
  · obtain ⟨p, cp, _, a, rfl, hP, hA, ok, q⟩ := h
    have hA' := hA
    obtain ⟨ap, r, us, rfl, h1, h2, h3⟩ := hA
    have nd := sc_dbl.nd
    have lu : us.length = a.length := Paired.length h3
    have o1 := ok.1
    have o2 := ok.2.1
    refine ⟨_, pss_cons (ps_asg (pe_tup (pa_cons (pe_callB call_len_seq (by rfl) (T.free _ fa_len) PySem.boot_len (pa_cons (pe_ix ix_tup (pv 1) pe_int (fun _ _ => rfl)) pa_nil)) (pa_cons (pe_cal (c_draw T) hr (pa_cons (pv 0) (pa_cons (pe_callB call_len_seq (by rfl) (T.free _ fa_len) PySem.boot_len (pa_cons (pe_ix ix_tup (pv 1) pe_int (fun _ _ => rfl)) pa_nil)) pa_nil))) pa_nil))) (pg_tup rfl (pgs_cons (pg_name (i := 2) nd rfl (.inr rfl)) (pgs_cons (pg_name (i := 3) nd rfl (.inr rfl)) pgs_nil))))
      (pss_cons (ps_if (pt_cmpR op_gt (pv 2) pe_int (nomark _)) (pss_one (ps_ret (pv 1))) pss_nil)
      (pss_cons (ps_set (i := 4) nd rfl (.inl rfl) (pe_lst pa_nil))
      (pss_cons (ps_for PassesOwn.never rfl (pi_tup (pe_weak (t' := tTwice K) (pe_op op_catA (pe_ix ix_tup (pv 1) pe_int (fun _ _ => rfl)) (pe_slice sl_tupA (pe_ix ix_tup (pv 1) pe_int (fun _ _ => rfl)) (po_some (pv 3)) (po_some (pe_op op_add (pv 3) pe_int)))) fun _ _ _ => twice_imp)) (pg_tup rfl (pgs_cons (pg_name (i := 5) nd rfl (.inl rfl)) (pgs_cons (pg_name (i := 6) nd rfl (.inl rfl)) pgs_nil)))
        (pss_one (ps_expr (pe_bm PySem.F.plainAttrs_list PySem.F.slot_list_append PySem.F.type_list_append mt_append (pv 4) (pa_cons (pe_tup (pa_cons (pv 5) (pa_cons (pe_callTy call_tuple_of (by rfl) (T.free _ fa_tuple) (by decide +kernel) (pa_cons (pe_lc (own := [("_law_later", 7)]) (g := gName 7) (tt := tYes) rfl nd (pi_tup (pv 6))
          (blkOk_by (N := ["_law_pot_here", "_law_adviser_here", "_law_many", "_law_one", "_law_rules", "_law_told", "_law_nexts", "_law_later"]) (sc := defScope s__law_doubled) (by decide +kernel)) (fun _ _ _ _ _ => pg_name (i := 7) nd rfl (Or.inl rfl)) (fun _ _ _ _ _ => pts_nil)
          (fun _ _ _ _ _ => pe_ifExp (PW.pt (pw_and (pt_cmpR op_eq (pv 7) (pv 3) (nomark _)) (pw_and1 (pt_cmpR op_eq (pe_cal (c_draw T) hr (pa_cons (pv 0) (pa_cons pe_int pa_nil))) pe_int (nomark _))))) (pv 2) (pv 7))) pa_nil)) pa_nil))) pa_nil)))))
      (pss_one (ps_ret (pe_tup (pa_cons pe_int (pa_cons (pe_callTy call_tuple_of (by rfl) (T.free _ fa_tuple) (by decide +kernel) (pa_cons (pv 4) pa_nil)) pa_nil)))))))), ?_⟩
    refine ⟨_, rfl, ap, _, _, _, rfl, rfl, h1, atI_nat (j := 1) rfl, r, us, rfl, .inr h2, _, rfl, _, rfl, ap, _, _, _, rfl, rfl, h1, atI_nat (j := 1) rfl, r, us, rfl, .inr h2, p, cp, us.length, rfl, hP, by omega, by omega, fun H1 one sb1 hP1 hone => ⟨by show 2 ≤ sizeLine; decide, fun z nz => ⟨z, _, rfl, SqT.of upd_same, rfl, _, _, rfl, _, _, rfl, rfl, ?_⟩⟩⟩
    have s2 := same_upd (o := .tup [.int (us.length : Int), .int (one : Int)]) nz
    have t02 := (hP.tk sb1).trans s2.tk
    have sb2 := sb1.trans (s2.sb p)
    have hP2 := hP1.same s2
    generalize upd H1 z (.tup [.int (us.length : Int), .int (one : Int)]) = H2 at s2 t02 sb2 hP2
    refine ⟨_, rfl, _, _, rfl, rfl, _, rfl, ite2 (fun e => ⟨_, rfl, q H2 _ a sb2 hP2 (hA'.tk t02) ok (Cov.refl a)⟩) (fun e => ⟨Nat.zero_le _, fun l nl => ?_⟩)⟩
    have h5 : us.length ≤ 5 := by
      have h : ¬ (5 : Int) < (us.length : Int) := fun h => e (decide_eq_true h)
      omega
    have s3 := same_upd (o := .lst []) nl
    have hl3 : (upd H2 l (.lst [])) l = some (.lst []) := upd_same
    have t03 := t02.trans s3.tk
    obtain ⟨pl, cl⟩ := hP2.ne nl
    have hP3 := hP2.same s3
    generalize upd H2 l (.lst []) = H3 at s3 hl3 t03 hP3
    have hx : us[one]? = some us[one] := List.getElem?_eq_getElem hone
    obtain ⟨r1, hr1, hra⟩ := paired_get h3 hx
    have hgd : a.getD one (0, 0, 0) = r1 := by rw [List.getD_eq_getElem?_getD, hr1]; rfl
    generalize us[one] = x at hx hra
    refine ⟨ap, r, us, one, x, ⟨_, rfl, rfl, rfl⟩, ⟨_, rfl, rfl, rfl⟩, t03.sqT h1, t03.sqT h2, hx, by omega, fun c H4 s4 hc => ⟨c, rfl, ⟨_, hc⟩, ?_⟩⟩
    have hl4 := s4 _ _ hl3
    have hP4 := hP3.same s4
    have t04 := t03.trans s4.tk
    have hus4 : Paired (RuleA K H4) (us ++ [x]) (a ++ [a.getD one (0, 0, 0)]) := by
      rw [hgd]
      exact Paired.app (Paired.mapP h3 fun v z h => h.tk t04) (.cons (hra.tk t04) .nil)
    refine for_tup (K := K) (a := c) (xs := us ++ [x]) (fun i σ H5 => SB p H2 H5 ∧ TupK H4 H5 ∧ PotA H5 p cp ∧ ∃ y5 y6 acc b, σ = [some (.ref p), some (.ref ap), some (.int (us.length : Int)), some (.int (one : Int)), some (.ref l), y5, y6, none] ∧ H5 l = some (.lst acc) ∧ Paired (RuleA K H5) acc b ∧ Paired (DrR a.length one) ((a ++ [a.getD one (0, 0, 0)]).take i) b)
      ⟨(s3.trans s4).sb p, TupK.refl _, hP4, none, none, [], [], rfl, hl4, .nil, .nil⟩ (fun i σ H5 _ w => w.2.1.sqT hc) ?_ ?_
    · rintro i y σ H5 hy ⟨sb5, tk5, hP5, y5, y6, acc, b, rfl, hl5, hacc, hdr⟩
      obtain ⟨ri, hri, hRA⟩ := paired_get hus4 hy
      obtain ⟨py, n, rfl, g1, g2⟩ := hRA.tk tk5
      have hil : i < us.length + 1 := by
        have := (List.getElem?_eq_some_iff.mp hy).1
        rw [List.length_append] at this
        exact this
      refine ⟨py, _, rfl, g1, rfl, _, _, rfl, _, _, rfl, rfl, .ref l, rfl, .inl ⟨rfl, _, SqL.of hl5⟩, _, rfl, _, rfl, n, rfl, ⟨_, g2⟩, ?_⟩
      intro D nD
      obtain ⟨pD, cD⟩ := hP5.ne nD
      have sD := same_upd (o := .lst []) nD
      refine lc_tup (K := K) (a := n) (xs := [.int (ri.2.1 : Int), .int (ri.2.2 : Int)]) (fun j H => SB p H5 H ∧ PotA H p cp ∧ ∃ ns : List Nat, H D = some (.lst (ns.map fun x : Nat => V.int (x : Int))) ∧ Paired (DrN a.length one) ([ri.2.1, ri.2.2].take j) ns)
        ⟨sD.sb p, hP5.same sD, [], upd_same, .nil⟩ (fun j H _ w => (hP5.tk w.1).sqT g2) ?_ ?_
      · rintro j y7 H6 hj ⟨sb6, hP6, ns, hD6, hns⟩
        have hj2 : j < 2 := (List.getElem?_eq_some_iff.mp hj).1
        obtain ⟨nj, hnj, rfl⟩ : ∃ nj, [ri.2.1, ri.2.2][j]? = some nj ∧ y7 = .int (nj : Int) := by
          match j, hj2, hj with
          | 0, _, hj => exact ⟨_, rfl, (Option.some.inj hj).symm⟩
          | 1, _, hj => exact ⟨_, rfl, (Option.some.inj hj).symm⟩
        have fin : ∀ H7 n', SB p H6 H7 → PotA H7 p cp → DrN a.length one nj n' → ∃ acc, H7 D = some (.lst acc) ∧ acc.length < sizeLine ∧ SB p H5 (upd H7 D (.lst (acc ++ [.int (n' : Int)]))) ∧ PotA (upd H7 D (.lst (acc ++ [.int (n' : Int)]))) p cp ∧
            ∃ ns : List Nat, (upd H7 D (.lst (acc ++ [.int (n' : Int)]))) D = some (.lst (ns.map fun x : Nat => V.int (x : Int))) ∧ Paired (DrN a.length one) ([ri.2.1, ri.2.2].take (j + 1)) ns := by
          intro H7 n' sb7 hP7 hd
          have sb8 := sb_upd D H7 (.lst ((ns.map fun x : Nat => V.int (x : Int)) ++ [.int (n' : Int)]))
          refine ⟨_, sb7 _ _ pD.symm hD6, ?_, (sb6.trans sb7).new nD sb8, hP7.out sb8 pD cD, ns ++ [n'], by rw [List.map_append]; exact upd_same, ?_⟩
          · rw [List.length_map, ← Paired.length hns, List.length_take]
            exact Nat.lt_of_le_of_lt (Nat.min_le_right _ _) (show 2 < sizeLine by decide)
          · rw [List.take_add_one, hnj]
            exact Paired.app hns (.cons hd .nil)
        refine ⟨rfl, _, rfl, _, rfl, rfl, _, rfl, ite2 (fun e1 => ?_) (fun e1 => ⟨_, rfl, fin H6 nj (SB.refl _ _) hP6 (.inl rfl)⟩)⟩
        have en : nj = one := by
          have e2 := of_decide_eq_true e1
          injection e2 with e2
          omega
        refine ⟨_, rfl, p, cp, 2, rfl, hP6, by decide, by decide, fun H7 rr sb7 hP7 hrr => ⟨rfl, _, rfl, ite2 (fun e3 => ?_) (fun e3 => ⟨_, rfl, fin H7 nj sb7 hP7 (.inl rfl)⟩)⟩⟩
        refine ⟨_, rfl, ?_⟩
        rw [lu]
        exact fin H7 a.length sb7 hP7 (.inr ⟨en, rfl⟩)
      · rintro H6 ⟨sb6, hP6, ns, hD6, hns⟩
        refine ⟨D, _, rfl, .inl ⟨SqL.of hD6, fun tn ntn => ⟨by show 2 ≤ sizeLine; decide, fun t nt => ?_⟩⟩⟩
        have hns' : Paired (DrN a.length one) [ri.2.1, ri.2.2] ns := hns
        match ns, hns', hD6, ntn, nt with
        | [r1, r2], .cons d1 (.cons d2 .nil), hD6, ntn, nt =>
          have s7 := same_upd (o := .tup ([r1, r2].map fun x : Nat => V.int (x : Int))) ntn
          have s8 := same_upd (o := .tup [.int (ri.1 : Int), .ref tn]) nt
          have s68 := s7.trans s8
          have hn8 := s8 _ _ (upd_same (H := H6) (a := tn) (o := .tup ([r1, r2].map fun x : Nat => V.int (x : Int))))
          have hl8 := s68 _ _ (sb6 _ _ pl.symm hl5)
          have t58 := (hP5.tk sb6).trans s68.tk
          have hP8 := hP6.same s68
          have ht8 : (upd (upd H6 tn (.tup ([r1, r2].map fun x : Nat => V.int (x : Int)))) t (.tup [.int (ri.1 : Int), .ref tn])) t = some (.tup [.int (ri.1 : Int), .ref tn]) := upd_same
          generalize upd (upd H6 tn (.tup ([r1, r2].map fun x : Nat => V.int (x : Int)))) t (.tup [.int (ri.1 : Int), .ref tn]) = H8 at s68 hn8 hl8 t58 hP8 ht8
          have sb9 := sb_upd l H8 (.lst (acc ++ [.ref t]))
          have tk9 := sb9.tk (NT.lst hl8)
          have nl4 : H2 l = none := nl
          refine ⟨l, acc, _, rfl, rfl, hl8, ?_, ?_⟩
          · rw [Paired.length hacc, ← Paired.length hdr, List.length_take]
            exact Nat.lt_of_le_of_lt (Nat.min_le_left _ _) (Nat.lt_of_le_of_lt (show i ≤ 900 by omega) (by decide))
          · refine ⟨((sb5.trans sb6).trans (s68.sb p)).new nl sb9, tk5.trans (t58.trans tk9), hP8.out sb9 pl cl, _, _, acc ++ [.ref t], b ++ [(ri.1, (r1, r2))], rfl, upd_same, ?_, ?_⟩
            · exact Paired.app (Paired.mapP hacc fun v c h => (h.tk t58).tk tk9) (.cons ⟨t, tn, rfl, tk9.sqT (SqT.of ht8), tk9.sqT (SqT.of hn8)⟩ .nil)
            · rw [List.take_add_one, hri]
              exact Paired.app hdr (.cons ⟨rfl, d1, d2⟩ .nil)
    · rintro σ H5 ⟨sb5, tk5, hP5, y5, y6, acc, b, rfl, hl5, hacc, hdr⟩
      rw [show (us ++ [x]).length = (a ++ [a.getD one (0, 0, 0)]).length by rw [List.length_append, List.length_append, lu]; rfl, List.take_length] at hdr
      refine ⟨_, rfl, l, acc, rfl, .inl ⟨SqL.of hl5, fun tr ntr => ⟨by show 2 ≤ sizeLine; decide, fun t nt => ?_⟩⟩⟩
      have s6 := same_upd (o := .tup acc) ntr
      have s7 := same_upd (o := .tup [.int 2, .ref tr]) nt
      have s67 := s6.trans s7
      have hra := s7 _ _ (upd_same (H := H5) (a := tr) (o := .tup acc))
      obtain ⟨okb, cov⟩ := dr_cov ok (by omega) (by omega) hdr
      exact q _ _ b (sb2.trans (sb5.trans (s67.sb p))) (hP5.same s67) ⟨t, tr, acc, rfl, SqT.of upd_same, SqT.of hra, Paired.mapP hacc fun v c h => h.tk s67.tk⟩ okb cov
end
end K43
set_option Elab.async false
set_option linter.all false
set_option maxRecDepth 100000
set_option maxHeartbeats 1000000
namespace K43
open PySem PySem.Spec PyProof.Rows L2
section
variable {P : Program} {w : World} {K : PySem.W.Frag} {mg : Str → Option Value} {base : Heap}
theorem all_range {lo : Int} {n : Nat} {g : TG} {te : TE} {vs : List Nat} {σ : L2.St} {H : Hp} {Q : VK} (hz : n ≤ sizeLine)
    (step : ∀ (i : Nat) H2 (Qn : V → Hp → Prop), i < n → Same H H2 → (∀ H4, Same H2 H4 → Qn (.bl true) H4) → g (.int (lo + i)) (wipe σ vs) H2 fun σ2 H3 => wipe σ2 vs = wipe σ vs ∧ te σ2 H3 Qn)
    (fin : ∀ H2, Same H H2 → Q (.bl true) H2) : tLc (fun _ H R => R (Itr lo n) H) g tYes te vs σ H fun x H2 => rAll K [x] H2 Q := by
  intro D hD
  refine lcR (fun _ y _ => y = .bl true) hD hz (fun j y H H' l _ _ h => h) (fun i H2 Qn hi s k => step i H2 Qn hi s (fun H4 s4 => k _ _ s4 rfl)) (fun H2 acc s e l r => ?_)
  have ea : acc = (List.replicate acc.length true).map V.bl := by
    refine List.ext_getElem? fun j => ?_
    rw [List.map_replicate]
    cases q : acc[j]? with
    | none => rw [List.getElem?_eq_none (by rw [List.length_replicate]; exact List.getElem?_eq_none_iff.mp q)]
    | some y => rw [r j y q, List.getElem?_replicate, if_pos (List.getElem?_eq_some_iff.mp q).1]
  refine ⟨D, List.replicate acc.length true, rfl, SqL.of (by rw [e]; exact congrArg (fun z => some (HO.lst z)) ea), ?_⟩
  have e2 : (List.replicate acc.length true).all id = true := by simp
  rw [e2]
  exact fin H2 s
theorem tup_of {H : Hp} {t : Addr} {xs : List V} (h : H t = none) : (upd H t (.tup xs)) t = some (.tup xs) := upd_same
theorem sc_lis : FnScope ["_law_told", "_law_due", "_law_k"] ["_law_told", "_law_due"] (defScope s__law_is) := ⟨rfl, rfl, rfl, by decide +kernel, rfl, by decide +kernel, by decide +kernel⟩
def spIs1 : Sp := fun vs H Q _ => ∃ x : Int, vs = [.int x, .int x] ∧ ∀ H', Same H H' → Q (.bl true) H'
theorem c_lis1 (T : Tx K mg) : Cal P w K mg base 1 "_law_is" ["_law_told", "_law_due"] spIs1 := by
  refine cal_of (d := d__law_is) T in__law_is fa__law_is rfl rfl rfl (fun _ _ _ _ _ _ us hl => match us, hl with | [_, _], _ => rfl) sc_lis (fun vs H Q E h => ?_) (fun f cdv A outer s H vs Q E hr h => ?_)
  · obtain ⟨_, rfl, _⟩ := h
    rfl
  · obtain ⟨x, rfl, q⟩ := h
    refine ⟨_, pss_cons (ps_if (pt_val (pe_callB call_isiT (by rfl) (T.free _ fa_isinstance) (by decide +kernel) (pa_cons (pv 1) (pa_cons (pe_tup (pa_cons (pe_bltn (v := .ty "tuple") (u := .type "tuple") (by rfl) (T.free _ fa_tuple) (by decide +kernel) rfl) (pa_cons (pe_bltn (v := .ty "list") (u := .type "list") (by rfl) (T.free _ fa_list) (by decide +kernel) rfl) pa_nil))) pa_nil)))) (pss_cons ps_never (pss_one ps_never)) pss_nil)
      (pss_one (ps_ret (pe_and (pe_cmpR op_eq (pe_callB call_isi (by rfl) (T.free _ fa_isinstance) (by decide +kernel) (pa_cons (pv 0) (pa_cons (pe_bltn (v := .ty "bool") (u := .type "bool") (by rfl) (T.free _ fa_bool) (by decide +kernel) rfl) pa_nil))) (pe_callB call_isi (by rfl) (T.free _ fa_isinstance) (by decide +kernel) (pa_cons (pv 1) (pa_cons (pe_bltn (v := .ty "bool") (u := .type "bool") (by rfl) (T.free _ fa_bool) (by decide +kernel) rfl) pa_nil))) (nomark _))
        (pe_one (pe_cmpR op_eq (pv 0) (pv 1) (nomark _)))))), ?_⟩
    refine ⟨_, rfl, by show 2 ≤ sizeLine; decide, fun t nt => ⟨_, t, _, .type "int", [.type "tuple", .type "list"], false, rfl, tup_of nt, .cons (.ty "tuple") (.cons (.ty "list") .nil), .base (.int x), ?_, false, rfl, iteF ?_⟩⟩
    · exact kitAny_cons (b := false) (kit_ty (by decide +kernel)) (fun _ => kitAny_cons (b := false) (kit_ty (by decide +kernel)) (fun _ => kitAny_nil) (fun z => by cases z)) (fun z => by cases z)
    · refine ⟨_, rfl, _, _, _, _, false, rfl, .ty "bool", .base (.int x), kit_ty (by decide +kernel), _, rfl, _, _, _, _, false, rfl, .ty "bool", .base (.int x), kit_ty (by decide +kernel), rfl, ?_⟩
      refine ⟨_, rfl, iteT ⟨_, rfl, _, rfl, rfl, ?_⟩⟩
      have z := q _ (same_upd (o := .tup [.ty "tuple", .ty "list"]) nt)
      show Q (.bl (decide (V.int x = V.int x))) _
      rw [decide_eq_true rfl]
      exact z
def spIs2 (K : PySem.W.Frag) : Sp := fun vs H Q _ => ∃ (p r : Addr) (x y : Int), vs = [.ref p, .ref r] ∧ SqT K H p [.int x, .int y] ∧ SqT K H r [.int x, .int y] ∧ ∀ H', Same H H' → Q (.bl true) H'
theorem c_lis2 (T : Tx K mg) : Cal P w K mg base 2 "_law_is" ["_law_told", "_law_due"] (spIs2 K) := by
  refine cal_of (d := d__law_is) T in__law_is fa__law_is rfl rfl rfl (fun _ _ _ _ _ _ us hl => match us, hl with | [_, _], _ => rfl) sc_lis (fun vs H Q E h => ?_) (fun f cdv A outer s H vs Q E hr h => ?_)
  · obtain ⟨_, _, _, _, rfl, _⟩ := h
    rfl
  · obtain ⟨p, r, x, y, rfl, hp, hre, q⟩ := h
    have nd := sc_lis.nd
    refine ⟨_, pss_cons (ps_if (pt_val (pe_callB call_isiT (by rfl) (T.free _ fa_isinstance) (by decide +kernel) (pa_cons (pv 1) (pa_cons (pe_tup (pa_cons (pe_bltn (v := .ty "tuple") (u := .type "tuple") (by rfl) (T.free _ fa_tuple) (by decide +kernel) rfl) (pa_cons (pe_bltn (v := .ty "list") (u := .type "list") (by rfl) (T.free _ fa_list) (by decide +kernel) rfl) pa_nil))) pa_nil))))
        (pss_cons (ps_if (PW.pt (pw_or (pt_cmpR op_ne (pe_callB call_isi (by rfl) (T.free _ fa_isinstance) (by decide +kernel) (pa_cons (pv 0) (pa_cons (pe_bltn (v := .ty "tuple") (u := .type "tuple") (by rfl) (T.free _ fa_tuple) (by decide +kernel) rfl) pa_nil))) (pe_callB call_isi (by rfl) (T.free _ fa_isinstance) (by decide +kernel) (pa_cons (pv 1) (pa_cons (pe_bltn (v := .ty "tuple") (u := .type "tuple") (by rfl) (T.free _ fa_tuple) (by decide +kernel) rfl) pa_nil))) (nomark _))
            (pw_or1 (pt_cmpR op_ne (pe_callB call_isi (by rfl) (T.free _ fa_isinstance) (by decide +kernel) (pa_cons (pv 0) (pa_cons (pe_bltn (v := .ty "list") (u := .type "list") (by rfl) (T.free _ fa_list) (by decide +kernel) rfl) pa_nil))) (pe_callB call_isi (by rfl) (T.free _ fa_isinstance) (by decide +kernel) (pa_cons (pv 1) (pa_cons (pe_bltn (v := .ty "list") (u := .type "list") (by rfl) (T.free _ fa_list) (by decide +kernel) rfl) pa_nil))) (nomark _))))) (pss_one ps_never) pss_nil)
        (pss_one (ps_ret (pe_and (pe_cmpR op_eq (pe_callB call_len_seq (by rfl) (T.free _ fa_len) PySem.boot_len (pa_cons (pv 0) pa_nil)) (pe_callB call_len_seq (by rfl) (T.free _ fa_len) PySem.boot_len (pa_cons (pv 1) pa_nil)) (nomark _))
          (pe_one (pe_callB (cr_all rfl) (by rfl) (T.free _ fa_all) (by decide +kernel) (pa_cons (pe_lc (own := [("_law_k", 2)]) (g := gName 2) (tt := tYes) (te := tCall spIs1 [] E0 (tCons (tOp (rIxT K) (tVar 0) (tVar 2)) (tCons (tOp (rIxT K) (tVar 1) (tVar 2)) tNil))) rfl nd (pi_range1 (by rfl) (T.free _ fa_range) (pa_cons (pe_callB call_len_seq (by rfl) (T.free _ fa_len) PySem.boot_len (pa_cons (pv 1) pa_nil)) pa_nil)) (blkOk_by (N := ["_law_told", "_law_due", "_law_k"]) (sc := defScope s__law_is) (by decide +kernel))
            (fun _ _ _ _ _ => pg_name (i := 2) nd rfl (Or.inl rfl)) (fun _ _ _ _ _ => pts_nil) (fun _ _ _ _ _ => pe_cal (c_lis1 T) hr (pa_cons (pe_ix ix_tup (pv 0) (pv 2) (fun _ _ => rfl)) (pa_cons (pe_ix ix_tup (pv 1) (pv 2) (fun _ _ => rfl)) pa_nil)))) pa_nil))))))) pss_nil)
      (pss_one ps_never), ?_⟩
    refine ⟨_, rfl, by show 2 ≤ sizeLine; decide, fun t nt => ⟨_, t, _, .type "tuple", [.type "tuple", .type "list"], true, rfl, tup_of nt, .cons (.ty "tuple") (.cons (.ty "list") .nil), ?_, ?_, true, rfl, iteT ?_⟩⟩
    · exact tyT_of ((same_upd nt).sqT hre)
    · exact kitAny_cons (b := true) (kit_ty (by decide +kernel)) (fun z => by cases z) (fun _ => rfl)
    have s1 := same_upd (o := .tup [.ty "tuple", .ty "list"]) nt
    have hp1 := s1.sqT hp
    have hr1 := s1.sqT hre
    refine ⟨_, rfl, _, _, _, _, true, rfl, .ty "tuple", tyT_of hp1, kit_ty (by decide +kernel), _, rfl, _, _, _, _, true, rfl, .ty "tuple", tyT_of hr1, kit_ty (by decide +kernel), rfl, _, rfl, iteF ?_⟩
    refine ⟨_, rfl, _, _, _, _, false, rfl, .ty "list", tyT_of hp1, kit_ty (by decide +kernel), _, rfl, _, _, _, _, false, rfl, .ty "list", tyT_of hr1, kit_ty (by decide +kernel), rfl, _, rfl, iteF ?_⟩
    refine ⟨_, rfl, p, _, rfl, .inr hp1, _, rfl, r, _, rfl, .inr hr1, rfl, ?_⟩
    refine ⟨_, rfl, iteT ⟨_, rfl, r, _, rfl, .inr hr1, 2, rfl, by decide, by decide, all_range (n := 2) (by show 2 ≤ sizeLine; decide) (fun i H2 Qn hi s2 k => ?_) (fun H2 s2 => q H2 (s1.trans s2))⟩⟩
    rw [Int.zero_add]
    match i, hi with
    | 0, _ => exact ⟨rfl, _, rfl, _, rfl, p, _, _, _, rfl, rfl, s2.sqT hp1, atI_nat (j := 0) rfl, _, rfl, _, rfl, r, _, _, _, rfl, rfl, s2.sqT hr1, atI_nat (j := 0) rfl, x, rfl, fun H' s' => k _ s'⟩
    | 1, _ => exact ⟨rfl, _, rfl, _, rfl, p, _, _, _, rfl, rfl, s2.sqT hp1, atI_nat (j := 1) rfl, _, rfl, _, rfl, r, _, _, _, rfl, rfl, s2.sqT hr1, atI_nat (j := 1) rfl, y, rfl, fun H' s' => k _ s'⟩
end
end K43
set_option Elab.async false
set_option linter.all false
set_option maxRecDepth 100000
set_option maxHeartbeats 1000000
namespace K43
open PySem PySem.Spec PyProof.Rows L2
theorem mids_at : ∀ {l : List Nat} {j a b : Nat}, l[j]? = some a → l[j + 1]? = some b → (mids l)[j]? = some (a + b)
  | [], j, a, b, h, _ => by simp at h
  | [x], j, a, b, _, h => by simp at h
  | x :: y :: r, 0, a, b, h1, h2 => by
    have e1 : x = a := Option.some.inj h1
    have e2 : y = b := Option.some.inj h2
    rw [← e1, ← e2]
    rfl
  | x :: y :: r, j + 1, a, b, h1, h2 => mids_at (l := y :: r) (j := j) (by simpa using h1) (by simpa using h2)
/-- the summands -/
def wl (f : Nat → Nat) : Nat → List Nat → List Nat
  | _, [] => []
  | j, a :: r => a * f j :: wl f (j + 1) r
theorem wl_sum (f : Nat → Nat) : ∀ (l : List Nat) (j : Nat), (wl f j l).sum = wsum f j l
  | [], _ => rfl
  | a :: r, j => by
    show a * f j + (wl f (j + 1) r).sum = _
    rw [wl_sum f r (j + 1)]
    rfl
theorem wl_len (f : Nat → Nat) : ∀ (l : List Nat) (j : Nat), (wl f j l).length = l.length
  | [], _ => rfl
  | a :: r, j => by
    show (wl f (j + 1) r).length + 1 = _
    rw [wl_len f r (j + 1)]
    rfl
theorem wl_at (f : Nat → Nat) : ∀ {l : List Nat} {i j a : Nat}, l[i]? = some a → (wl f j l)[i]? = some (a * f (j + i))
  | [], i, j, a, h => by simp at h
  | x :: r, 0, j, a, h => by
    have e : x = a := Option.some.inj h
    rw [← e]
    rfl
  | x :: r, i + 1, j, a, h => by
    have ih := wl_at f (l := r) (i := i) (j := j + 1) (by simpa using h)
    rw [show j + (i + 1) = j + 1 + i by omega]
    exact ih
def W (l : List Nat) : List V := l.map fun x : Nat => V.int (x : Int)
theorem W_at {l : List Nat} {i a : Nat} (h : l[i]? = some a) : (W l)[i]? = some (.int (a : Int)) := by
  unfold W
  rw [List.getElem?_map, h]
  rfl
theorem W_len (l : List Nat) : (W l).length = l.length := List.length_map ..
theorem W_ints (l : List Nat) : W l = (l.map fun x : Nat => (x : Int)).map V.int := by
  unfold W
  rw [List.map_map]
  rfl
theorem sum_ints : ∀ l : List Nat, (l.map fun x : Nat => (x : Int)).sum = ((l.sum : Nat) : Int)
  | [] => rfl
  | a :: r => by
    rw [List.map_cons, List.sum_cons, List.sum_cons, sum_ints r]
    omega
theorem W_of {acc : List V} {l : List Nat} (hl : acc.length = l.length) (h : ∀ (j : Nat) y, acc[j]? = some y → ∃ z : Nat, l[j]? = some z ∧ y = .int (z : Int)) : acc = W l := by
  refine List.ext_getElem? fun i => ?_
  unfold W
  rw [List.getElem?_map]
  cases e : acc[i]? with
  | none =>
    have h1 : l[i]? = none := List.getElem?_eq_none (by have := List.getElem?_eq_none_iff.mp e; omega)
    rw [h1]
    rfl
  | some y =>
    obtain ⟨z, hz, hy⟩ := h i y e
    rw [hz, hy]
    rfl
section
variable {P : Program} {w : World} {K : PySem.W.Frag} {mg : Str → Option Value} {base : Heap}
theorem sc_halved : FnScope ["_law_n", "_law_ways", "_law_turn", "_law_total", "_law_rows_here", "_law_k"] ["_law_n"] (defScope s__law_halved) := ⟨rfl, rfl, rfl, by decide +kernel, rfl, by decide +kernel, by decide +kernel⟩
def spHalved : Sp := fun vs H Q _ => ∃ n : Nat, vs = [.int (n : Int)] ∧ n ≤ 10 ∧ ∀ H' p, Same H H' → H' p = some (.tup (rep (am n 0))) → Q (.ref p) H'
theorem c_halved (T : Tx K mg) : Cal P w K mg base 3 "_law_halved" ["_law_n"] spHalved := by
  refine cal_of (d := d__law_halved) T in__law_halved fa__law_halved rfl rfl rfl (fun _ _ _ _ _ _ us hl => match us, hl with | [_], _ => rfl) sc_halved (fun vs H Q E h => ?_) (fun f cdv A outer s H vs Q E hr h => ?_)
  · obtain ⟨_, rfl, _⟩ := h
    rfl
  · obtain ⟨n, rfl, hn, q⟩ := h
    have nd := sc_halved.nd
    refine ⟨_, pss_cons (ps_set (i := 1) nd rfl (.inr rfl) (pe_lst (pa_cons pe_int pa_nil)))
      (pss_cons (ps_for PassesOwn.never rfl (pi_range1 (by rfl) (T.free _ fa_range) (pa_cons (pv 0) pa_nil)) (pg_name (i := 2) nd rfl (.inl rfl))
        (pss_one (ps_set (i := 1) nd rfl (.inr rfl) (pe_op op_cat (pe_op op_cat (pe_lst (pa_cons pe_int pa_nil)) (pe_lc (own := [("_law_k", 5)]) (g := gName 5) (tt := tYes) (te := tOp (rI0 fun i j => .int (i + j)) (tOp (rIxL K) (tVar 1) (tVar 5)) (tOp (rIxL K) (tVar 1) (tOp (rI0 fun i j => .int (i + j)) (tVar 5) (tC (.int 1))))) rfl nd
            (pi_range1 (by rfl) (T.free _ fa_range) (pa_cons (pe_op op_sub (pe_callB call_len_seq (by rfl) (T.free _ fa_len) PySem.boot_len (pa_cons (pv 1) pa_nil)) pe_int) pa_nil)) (blkOk_by (N := ["_law_n", "_law_ways", "_law_turn", "_law_total", "_law_rows_here", "_law_k"]) (sc := defScope s__law_halved) (by decide +kernel))
            (fun _ _ _ _ _ => pg_name (i := 5) nd rfl (Or.inl rfl)) (fun _ _ _ _ _ => pts_nil) (fun _ _ _ _ _ => pe_op op_add (pe_ix ix_list (pv 1) (pv 5) (fun _ _ => rfl)) (pe_ix ix_list (pv 1) (pe_op op_add (pv 5) pe_int) (fun _ _ => rfl))))) (pe_lst (pa_cons pe_int pa_nil))))))
      (pss_cons (ps_par (i := 3) (j := 4) rfl nd rfl rfl (by decide) rfl rfl (pa_cons (pe_callB (cr_sum rfl) (by rfl) (T.free _ fa_sum) (by decide +kernel) (pa_cons (pe_lc (own := [("_law_k", 5)]) (g := gName 5) (tt := tYes) (te := tOp (rI CMul fun i j => .int (i * j)) (tOp (rIxL K) (tVar 1) (tVar 5)) (tCB (fun xs H Q => ∃ i, xs = [.int i] ∧ Q (.int (if i < 0 then -i else i)) H) (tCons (tOp (rI0 fun i j => .int (i - j)) (tVar 0) (tOp (rI CMul fun i j => .int (i * j)) (tC (.int 2)) (tVar 5))) tNil))) rfl nd
            (pi_range1 (by rfl) (T.free _ fa_range) (pa_cons (pe_op op_add (pv 0) pe_int) pa_nil)) (blkOk_by (N := ["_law_n", "_law_ways", "_law_turn", "_law_total", "_law_rows_here", "_law_k"]) (sc := defScope s__law_halved) (by decide +kernel))
            (fun _ _ _ _ _ => pg_name (i := 5) nd rfl (Or.inl rfl)) (fun _ _ _ _ _ => pts_nil) (fun _ _ _ _ _ => pe_op op_mul (pe_ix ix_list (pv 1) (pv 5) (fun _ _ => rfl)) (pe_callB call_abs (by rfl) (T.free _ fa_abs) (by decide +kernel) (pa_cons (pe_op op_sub (pv 0) (pe_op op_mul pe_int (pv 5))) pa_nil)))) pa_nil))
          (pa_cons (pe_callB (cr_sum rfl) (by rfl) (T.free _ fa_sum) (by decide +kernel) (pa_cons (pv 1) pa_nil)) pa_nil)) (by rfl))
      (pss_one (ps_ret (pe_cal (c_lfraction T) hr (pa_cons (pv 3) (pa_cons (pe_op op_mul pe_int (pv 4)) pa_nil))))))), ?_⟩
    refine ⟨by show 1 ≤ sizeLine; decide, fun l0 nl0 => ?_⟩
    have s1 := same_upd (o := .lst [.int 1]) nl0
    refine ⟨_, rfl, (n : Int), rfl, by omega, by omega, ?_⟩
    refine for_range (lo := 0) (n := (n : Int).toNat) (fun i σ H2 => Same H H2 ∧ ∃ l y2, σ = [some (.int (n : Int)), some (.ref l), y2, none, none, none] ∧ H2 l = some (.lst (W (ways i))))
      ⟨s1, l0, none, rfl, upd_same⟩ ?_ ?_
    · rintro i σ H2 hi ⟨sm, l, y2, rfl, hl⟩
      have hw := ways_len i
      refine ⟨by show 1 ≤ sizeLine; decide, fun a na => ?_⟩
      have sa := same_upd (o := .lst [.int 1]) na
      have hla := sa _ _ hl
      have haa : (upd H2 a (.lst [.int 1])) a = some (.lst (W [1])) := upd_same
      generalize upd H2 a (.lst [.int 1]) = Ha at sa hla haa
      refine ⟨_, rfl, l, _, rfl, .inl (SqL.of hla), _, _, rfl, rfl, _, rfl, by rw [W_len]; omega, by rw [W_len]; omega, ?_⟩
      have en : (((W (ways i)).length : Nat) : Int) - 1 = (i : Int) := by rw [W_len, hw]; omega
      rw [en]
      intro D nD
      refine lcR (lo := 0) (n := (i : Int).toNat) (fun j y _ => ∃ z : Nat, (mids (ways i))[j]? = some z ∧ y = .int (z : Int)) nD (Nat.le_of_lt (small1000 (by omega))) (fun j y H3 H4 ys e sb h => h) (fun j H3 Qn hj sx k => ?_) (fun H3 acc sx e3 el hR => ?_)
      · rw [Int.zero_add]
        have e1 : (ways i)[j]? = some (ways i)[j] := List.getElem?_eq_getElem (by omega)
        have e2 : (ways i)[j + 1]? = some (ways i)[j + 1] := List.getElem?_eq_getElem (by omega)
        have hl3 := sx _ _ hla
        refine ⟨rfl, _, rfl, _, rfl, l, _, _, _, rfl, rfl, SqL.of hl3, atI_nat (W_at e1), _, rfl, _, rfl, _, _, rfl, rfl, l, _, ((j + 1 : Nat) : Int), _, rfl, rfl, SqL.of hl3, atI_nat (W_at e2), _, _, rfl, rfl, k _ _ (Same.refl _) ⟨_, mids_at e1 e2, ?_⟩⟩
        exact congrArg V.int (Int.natCast_add _ _).symm
      · have ea : acc = W (mids (ways i)) := W_of (by rw [mids_len, hw, el]; omega) hR
        subst ea
        have hml : (mids (ways i)).length = i := by rw [mids_len, hw]; rfl
        refine ⟨a, D, _, _, rfl, rfl, sx _ _ haa, e3, ?_, fun b nb => ?_⟩
        · rw [W_len, W_len, hml]
          exact Nat.le_of_lt (small1000 (by simp; omega))
        · have sb := same_upd (o := .lst (W [1] ++ W (mids (ways i)))) nb
          refine ⟨by show 1 ≤ sizeLine; decide, fun c nc => ?_⟩
          have sc := same_upd (o := .lst [.int 1]) nc
          refine ⟨b, c, _, _, rfl, rfl, sc _ _ upd_same, upd_same, ?_, fun d nd' => ?_⟩
          · rw [List.length_append, W_len, W_len, hml]
            exact Nat.le_of_lt (small1000 (by simp; omega))
          · refine ⟨(sm.trans sa).trans (sx.trans (sb.trans (sc.trans (same_upd nd')))), d, _, rfl, ?_⟩
            rw [upd_same]
            show some (HO.lst (W [1] ++ W (mids (ways i)) ++ W [1])) = some (HO.lst (W (ways (i + 1))))
            rw [show ways (i + 1) = 1 :: mids (ways i) ++ [1] from rfl]
            generalize mids (ways i) = m
            unfold W
            rw [List.map_append, List.map_cons]
            rfl
    · rintro σ H2 ⟨sm, l, y2, rfl, hl⟩
      rw [Int.toNat_natCast] at hl
      have hw := ways_len n
      refine ⟨_, rfl, _, _, rfl, rfl, _, rfl, by omega, by omega, ?_⟩
      intro D nD
      refine lcR (lo := 0) (n := ((n : Int) + 1).toNat) (fun j y _ => ∃ z : Nat, (wl (fun k => ((n : Int) - 2 * k).natAbs) 0 (ways n))[j]? = some z ∧ y = .int (z : Int)) nD (Nat.le_of_lt (small1000 (by omega))) (fun j y H3 H4 ys e sb h => h) (fun j H3 Qn hj sx k => ?_) (fun H3 acc sx e3 el hR => ?_)
      · rw [Int.zero_add]
        have e1 : (ways n)[j]? = some (ways n)[j] := List.getElem?_eq_getElem (by omega)
        have hl3 := sx _ _ hl
        refine ⟨rfl, _, rfl, _, rfl, l, _, _, _, rfl, rfl, SqL.of hl3, atI_nat (W_at e1), _, rfl, _, rfl, _, _, rfl, rfl, .inl ⟨by decide, by decide⟩, _, _, rfl, rfl, _, rfl, _, _, rfl, rfl, .inr ?_, k _ _ (Same.refl _) ⟨_, wl_at _ e1, ?_⟩⟩
        · constructor <;> split <;> omega
        · have e2 : (if (n : Int) - 2 * (j : Int) < 0 then -((n : Int) - 2 * (j : Int)) else (n : Int) - 2 * (j : Int)) = ((((n : Int) - 2 * (j : Int)).natAbs : Nat) : Int) := by split <;> omega
          show V.int (((ways n)[j] : Int) * (if (n : Int) - 2 * (j : Int) < 0 then -((n : Int) - 2 * (j : Int)) else (n : Int) - 2 * (j : Int))) = _
          rw [e2, Nat.zero_add, Int.natCast_mul]
      · have ea := W_of (acc := acc) (by rw [wl_len, hw, el]; omega) hR
        subst ea
        have hl3 := sx _ _ hl
        refine ⟨D, _, rfl, SqL.of (by rw [← W_ints]; exact e3), _, rfl, l, _, rfl, SqL.of (by rw [← W_ints]; exact hl3), _, _, rfl, _, rfl, _, rfl, _, _, rfl, rfl, .inl ⟨by decide, by decide⟩, ?_⟩
        have p2 : 0 < 2 * 2 ^ n := Nat.mul_pos (by decide) (Nat.pow_pos (by decide))
        have p3 := pow_le10 hn
        refine ⟨(htop n : Int), 2 * 2 ^ n, ?_, p2, by omega, fun H' p s' hp => q H' p ((sm.trans sx).trans s') ?_⟩
        · rw [sum_ints, sum_ints, wl_sum, ← wsum_one _ 0, ways_sum]
          show [V.int (htop n : Int), V.int (2 * ((2 ^ n : Nat) : Int))] = [V.int (htop n : Int), V.int ((2 * 2 ^ n : Nat) : Int)]
          rw [Int.natCast_mul]
          rfl
        · rw [hp, ← halved n]
end
end K43
set_option Elab.async false
set_option linter.all false
set_option maxRecDepth 100000
set_option maxHeartbeats 1000000
/-! the plain law -/
namespace K43
theorem begin_cir (P : List Bool) (A B : Adv) : beginK (cir P A B) = kk P 0 0 0 0 := by
  unfold beginK cir kk
  rw [List.map_map]
  refine List.map_congr_left fun b _ => ?_
  cases b <;> rfl
theorem cir_ok {P : List Bool} {A B : Adv} (h1 : 1 ≤ P.length) (h4 : P.length ≤ 4) (hA : AdvOk A) (hB : AdvOk B) : CirOk (cir P A B) := by
  unfold cir
  refine ⟨by rw [List.length_map]; exact h1, by rw [List.length_map]; exact h4, fun a ha => ?_⟩
  obtain ⟨b, _, rfl⟩ := List.mem_map.mp ha
  cases b
  · exact hB
  · exact hA
theorem lag_pair {P : List Bool} (hP : Both P) {A B : Adv} {R : Nat → Nat → Prop} (hR : Bis A B R) (h0 : R 0 0) (n : Nat) : Lv (cir P A B) n (beginK (cir P A B)) = am n 0 := by
  rw [begin_cir, Lv_pair hP hR n 0 0 0 0 h0 rfl]
  show am n 0 - ((0 : Nat) : Rat) / 2 = am n 0
  generalize am n 0 = z
  grind
theorem lag_one {P : List Bool} (hP : ∀ s t g1 g2, least (kk P s t g1 g2) = g1) {A : Adv} (hA : AdvOk A) (n : Nat) : Lv (cir P A A) n (beginK (cir P A A)) = 0 := by
  rw [begin_cir]
  exact Lv_one hP (G := fun s => s < A.length) (fun s hs => hA.told hs) (fun s x hs _ => hA.nxt hs x) n 0 hA.1
theorem lag_t : ∀ s t g1 g2, least (kk [true] s t g1 g2) = g1 := fun s t g1 g2 => by simp [kk, least]
theorem mrun_app (a : Adv) (row : List Nat) (x : Nat) : mrun a (row ++ [x]) = step1 a (mrun a row) x := by
  unfold mrun
  rw [List.foldl_append]
  rfl
theorem Sm.unit {n : Nat} {q : Rat} (h : Sm n q) (h0 : 0 ≤ q) (h1 : q ≤ 1) : Sm 4096 q := by
  obtain ⟨i, e, _⟩ := h
  refine ⟨i, e, ?_⟩
  have a : (0 : Rat) ≤ (i : Rat) := by rw [← e]; grind
  have b : (i : Rat) ≤ ((4096 : Int) : Rat) := by
    rw [← e]
    have : ((4096 : Int) : Rat) = 4096 := by push_cast; rfl
    rw [this]
    grind
  have a' : (0 : Int) ≤ i := by exact_mod_cast a
  have b' := Rat.intCast_le_intCast.mp b
  omega
/-- behind some letters: the key, the counts, what was missed -/
structure LR (P : List Bool) (A B : Adv) (R : Nat → Nat → Prop) (n : Nat) (row : List Nat) (q : Rat) : Prop where
  key : keyAt (cir P A B) row = kk P (mrun A row).1 (mrun B row).1 ((mrun A row).2 - min (mrun A row).2 (mrun B row).2) ((mrun B row).2 - min (mrun A row).2 (mrun B row).2)
  rel : R (mrun A row).1 (mrun B row).1
  cnt : (mrun A row).2 + (mrun B row).2 = row.length
  lt : ∀ x ∈ row, x < 2
  len : row.length ≤ n
  val : q ≤ Lv (cir P A B) n (beginK (cir P A B)) - Lv (cir P A B) (n - row.length) (keyAt (cir P A B) row) + ((min (mrun A row).2 (mrun B row).2 : Nat) : Rat)
  sz : Sm (4096 * row.length) q
theorem LR.zero {P : List Bool} {A B : Adv} {R : Nat → Nat → Prop} (h0 : R 0 0) (n : Nat) : LR P A B R n [] 0 := by
  refine ⟨begin_cir P A B, h0, rfl, fun x hx => (List.not_mem_nil hx).elim, Nat.zero_le _, ?_, Sm.zero⟩
  show (0 : Rat) ≤ Lv (cir P A B) n (beginK (cir P A B)) - Lv (cir P A B) n (beginK (cir P A B)) + ((0 : Nat) : Rat)
  generalize Lv (cir P A B) n (beginK (cir P A B)) = z
  grind
/-- the chance's own bounds -/
theorem cha_unit {c : List Adv} (hc : CirOk c) {m : Nat} (hm : m ≤ 9) {k : Key} (hk : KeyOk c k) {x : Nat} (hx : x < 2) : Sm 4096 (1 - cha (wr c m k x) (Lv c (m + 1) k)) ∧ Sm 300000 (cha (wr c m k x) (Lv c (m + 1) k)) := by
  have h1 := (wr_sh hc (by omega) hk x (m := m)).sm
  have h2 := (Lv_sh hc (m := m + 1) (by omega) hk).sm
  have h3 : wr c m k x ≤ Lv c (m + 1) k := by
    rw [Lv_succ]
    match x, hx with
    | 0, _ => exact lev_ge0 _ _
    | 1, _ => exact lev_ge1 _ _
  have h4 : Sm 300000 (cha (wr c m k x) (Lv c (m + 1) k)) := by
    unfold cha
    split
    · exact Sm.zero.mono (by decide)
    · exact ((h1.add one_sm).sub h2).mono (by decide)
  refine ⟨((one_sm.sub h4)).unit ?_ ?_, h4⟩
  · have := cha_le1 h3
    generalize cha (wr c m k x) (Lv c (m + 1) k) = z at this
    grind
  · have := cha_nonneg (w := wr c m k x) (l := Lv c (m + 1) k)
    generalize cha (wr c m k x) (Lv c (m + 1) k) = z at this
    grind
theorem LR.step {P : List Bool} (hP : Both P) {A B : Adv} {R : Nat → Nat → Prop} (hR : Bis A B R) (hR2 : ∀ s t, R s t → s < A.length ∧ t < B.length) (hA : AdvOk A) (hB : AdvOk B) (h1 : 1 ≤ P.length) (h4 : P.length ≤ 4) {n : Nat} (hn : n ≤ 10) {row : List Nat} {q : Rat} (h : LR P A B R n row q) (hl : row.length < n) {x : Nat} (hx : x < 2) :
    LR P A B R n (row ++ [x]) (q + (1 - cha (wr (cir P A B) (n - (row.length + 1)) (keyAt (cir P A B) row) x) (Lv (cir P A B) (n - row.length) (keyAt (cir P A B) row)))) := by
  have ok := cir_ok h1 h4 hA hB
  have kok : KeyOk (cir P A B) (keyAt (cir P A B) row) := by
    have r := rea_row (c := cir P A B) row.length row (Nat.le_refl _) h.lt
    rw [List.take_length] at r
    exact r.ok ok
  obtain ⟨rs, rt⟩ := hR2 _ _ h.rel
  have tel := hR.one _ _ h.rel
  have el : (row ++ [x]).length = row.length + 1 := by rw [List.length_append]; rfl
  have em : n - row.length = n - (row.length + 1) + 1 := by omega
  have hst := stp_kk hP A B (mrun A row).1 (mrun B row).1 ((mrun A row).2 - min (mrun A row).2 (mrun B row).2) ((mrun B row).2 - min (mrun A row).2 (mrun B row).2) x
  rw [← h.key] at hst
  have hcnt := h.cnt
  generalize hs : (mrun A row).1 = s at *
  generalize ht : (mrun B row).1 = t at *
  generalize hM1 : (mrun A row).2 = M1 at *
  generalize hM2 : (mrun B row).2 = M2 at *
  have r1 : (mrun A (row ++ [x])).1 = nxt A s x := by rw [mrun_app]; show nxt A (mrun A row).1 x = _; rw [hs]
  have r2 : (mrun B (row ++ [x])).1 = nxt B t x := by rw [mrun_app]; show nxt B (mrun B row).1 x = _; rw [ht]
  have r3 : (mrun A (row ++ [x])).2 = if told A s = x then M1 else M1 + 1 := by rw [mrun_app]; show (if told A (mrun A row).1 = x then (mrun A row).2 else (mrun A row).2 + 1) = _; rw [hs, hM1]
  have r4 : (mrun B (row ++ [x])).2 = if told B t = x then M2 else M2 + 1 := by rw [mrun_app]; show (if told B (mrun B row).1 = x then (mrun B row).2 else (mrun B row).2 + 1) = _; rw [ht, hM2]
  have e5 : (stp (cir P A B) (keyAt (cir P A B) row) x).1 = kk P (nxt A s x) (nxt B t x) ((if told A s = x then M1 else M1 + 1) - min (if told A s = x then M1 else M1 + 1) (if told B t = x then M2 else M2 + 1)) ((if told B t = x then M2 else M2 + 1) - min (if told A s = x then M1 else M1 + 1) (if told B t = x then M2 else M2 + 1)) := by
    rw [hst]
    show kk P _ _ _ _ = _
    congr 1 <;> split <;> split <;> omega
  have e6 : (stp (cir P A B) (keyAt (cir P A B) row) x).2 + min M1 M2 = min (if told A s = x then M1 else M1 + 1) (if told B t = x then M2 else M2 + 1) := by
    rw [hst]
    show min _ _ + min M1 M2 = _
    split <;> split <;> omega
  obtain ⟨cu, _⟩ := cha_unit ok (m := n - (row.length + 1)) (by omega) kok hx
  rw [← em] at cu
  refine ⟨?_, ?_, ?_, ?_, by omega, ?_, ?_⟩
  · rw [keyAt_snoc, r1, r2, r3, r4]
    exact e5
  · rw [r1, r2]
    exact hR.nx s t x (by rw [← hs, ← ht]; exact h.rel) hx
  · rw [r3, r4, el]
    split <;> split <;> omega
  · intro y hy
    rcases List.mem_append.mp hy with hy | hy
    · exact h.lt y hy
    · rw [List.mem_singleton.mp hy]; exact hx
  · rw [r3, r4, el, ← e6, keyAt_snoc]
    have hv := h.val
    rw [hM1, hM2] at hv
    have hc := cha_miss (w := wr (cir P A B) (n - (row.length + 1)) (keyAt (cir P A B) row) x) (l := Lv (cir P A B) (n - row.length) (keyAt (cir P A B) row))
    have hw : wr (cir P A B) (n - (row.length + 1)) (keyAt (cir P A B) row) x = Lv (cir P A B) (n - (row.length + 1)) (stp (cir P A B) (keyAt (cir P A B) row) x).1 - ((stp (cir P A B) (keyAt (cir P A B) row) x).2 : Rat) := rfl
    have hcast : (((stp (cir P A B) (keyAt (cir P A B) row) x).2 + min M1 M2 : Nat) : Rat) = ((stp (cir P A B) (keyAt (cir P A B) row) x).2 : Rat) + ((min M1 M2 : Nat) : Rat) := Rat.natCast_add _ _
    rw [hcast]
    generalize cha (wr (cir P A B) (n - (row.length + 1)) (keyAt (cir P A B) row) x) (Lv (cir P A B) (n - row.length) (keyAt (cir P A B) row)) = z1 at hc ⊢
    generalize wr (cir P A B) (n - (row.length + 1)) (keyAt (cir P A B) row) x = z2 at hc hw
    generalize Lv (cir P A B) (n - row.length) (keyAt (cir P A B) row) = z3 at hc hv
    generalize Lv (cir P A B) (n - (row.length + 1)) (stp (cir P A B) (keyAt (cir P A B) row) x).1 = z4 at hw ⊢
    generalize Lv (cir P A B) n (beginK (cir P A B)) = z5 at hv ⊢
    generalize ((stp (cir P A B) (keyAt (cir P A B) row) x).2 : Rat) = z6 at hw ⊢
    generalize ((min M1 M2 : Nat) : Rat) = z7 at hv ⊢
    clear hcast cu e5 e6 hst em el r1 r2 r3 r4 tel rs rt kok ok h
    grind
  · rw [el]
    have := h.sz.add cu
    exact this.mono (by omega)
end K43
set_option Elab.async false
set_option linter.all false
set_option maxRecDepth 100000
set_option maxHeartbeats 800000
/-! the law's own def, walked -/
namespace K43
open PySem PySem.Spec PyProof.Rows L2
/-- row + (letter,), the row at slot 8, the letter at slot 12 -/
def tSnoc (K : PySem.W.Frag) : TE := fun σ H Q => ∃ (rr : Addr) (row : List Nat) (x : Nat), tVar 8 σ H (fun v H' => v = .ref rr ∧ H' = H) ∧ (∀ H2, tVar 12 σ H2 (fun v H' => v = .int (x : Int) ∧ H' = H2)) ∧ SqT K H rr (W row) ∧ row.length ≤ 900 ∧
  ∀ c H4, Same H H4 → SqT K H4 c (W (row ++ [x])) → Q (.ref c) H4
theorem snoc_imp {K : PySem.W.Frag} {σ : L2.St} {H : Hp} {Q : VK} (h : tSnoc K σ H Q) : tOp (rCatA K) (tVar 8) (tTup (tCons (tVar 12) tNil)) σ H Q := by
  obtain ⟨rr, row, x, ⟨v, e1, rfl, _⟩, h2, h3, h4, q⟩ := h
  obtain ⟨u, e2, rfl, _⟩ := h2 H
  have hz : (W row).length + 1 ≤ sizeLine := by
    rw [W_len]
    exact Nat.le_of_lt (small1000 (by omega))
  refine ⟨_, e1, _, e2, by show 1 ≤ sizeLine; decide, fun t nt => ?_⟩
  have s1 := same_upd (o := .tup [.int (x : Int)]) nt
  have eW : W (row ++ [x]) = W row ++ [.int (x : Int)] := by
    unfold W
    rw [List.map_append]
    rfl
  refine ⟨rr, t, W row, [.int (x : Int)], rfl, rfl, s1.sqT h3, SqT.of upd_same, hz, fun z => ?_, fun _ z => absurd z (List.cons_ne_nil _ _), fun _ _ c nc => q c _ (s1.trans (same_upd nc)) (SqT.of (by rw [upd_same, eW]))⟩
  refine q t _ s1 (SqT.of ?_)
  rw [upd_same, eW, z]
  rfl
theorem wo_at {K : PySem.W.Frag} {H : Hp} {u0 u1 : V} {g : Nat → Rat} (f0 : FrA K H u0 (g 0)) (f1 : FrA K H u1 (g 1)) {x : Nat} (hx : x < 2) : ∃ u, [u0, u1][x]? = some u ∧ FrA K H u (g x) := by
  match x, hx with
  | 0, _ => exact ⟨u0, rfl, f0⟩
  | 1, _ => exact ⟨u1, rfl, f1⟩
theorem neq01 : (!PyData.eqv (.tuple [.int 0, .int 1]) (.tuple [.int 0, .int 1])) = false := by decide +kernel
theorem lag_tt : ∀ s t g1 g2, least (kk [true, true] s t g1 g2) = g1 := fun s t g1 g2 => by simp [kk, least]
section
variable {P : Program} {w : World} {K : PySem.W.Frag} {mg : Str → Option Value} {base : Heap}
theorem sc_law : FnScope ["_law_script", "_law_pot_here", "_law_turn", "_law_one", "_law_n", "_law_other", "_law_circle_here", "_law_due", "_law_row", "_law_missed_here", "_law_at", "_law_told", "_law_letter", "_law_both"] ["_law_script"] (defScope s_law) := ⟨rfl, rfl, rfl, by decide +kernel, rfl, by decide +kernel, by decide +kernel⟩
def spLaw (K : PySem.W.Frag) : Sp := fun vs H Q _ => ∃ (a : Addr) (ns : List Int), vs = [.ref a] ∧ SqL K H a (ns.map V.int) ∧ ns.length ≤ 63 ∧ Tb K H ∧ ∀ H', Q (.bl true) H'
theorem law_ok (T : Tx K mg) (B : TBs K mg base) {fd : FuncData} (F : FunD K d_law.name d_law.qual d_law.params d_law.body d_law.scope (d_law.dvs K) (d_law.kws K) (He.fAd K d_law.at_) fd) : FnOk P w K mg base CX0 12 (He.ga K "law") fd ["_law_script"] (spLaw K) := by
  have e1 : d_law.dvs K = [] := rfl
  rw [e1] at F
  have ef : He.fAd K d_law.at_ = He.ga K "law" := rfl
  rw [ef] at F
  refine F.ok sc_law (fun vs H Q E h => ?_) (fun cdv A outer s H vs Q E hr h => ?_)
  · obtain ⟨_, _, rfl, _⟩ := h
    rfl
  · obtain ⟨a, ns, rfl, hS, hln, htb, q⟩ := h
    have nd := sc_law.nd
    have hu := hr.units
    suffices hh : ∃ t, PSs (cxOf CX0 P w K mg base ["_law_script", "_law_pot_here", "_law_turn", "_law_one", "_law_n", "_law_other", "_law_circle_here", "_law_due", "_law_row", "_law_missed_here", "_law_at", "_law_told", "_law_letter", "_law_both"] d_law.qual d_law.scope (He.ga K "law") cdv A outer s H E).nox d_law.body t ∧ t { nx := fun _ H' => Q .non H', rt := Q } (start ["_law_script", "_law_pot_here", "_law_turn", "_law_one", "_law_n", "_law_other", "_law_circle_here", "_law_due", "_law_row", "_law_missed_here", "_law_at", "_law_told", "_law_letter", "_law_both"] [.ref a]) H by
      obtain ⟨t, p, z⟩ := hh
      exact ⟨t, p.nox, z⟩
    refine ⟨_, pss_cons (ps_set (i := 1) nd rfl (.inl rfl) (pe_cal (c_pot T) (hr.mono (by decide)) (pa_cons (pv 0) pa_nil)))
      (pss_cons (ps_for PassesOwn.never rfl (pi_range1 (by rfl) (T.free _ fa_range) (pa_cons pe_int pa_nil)) (pg_name (i := 2) nd rfl (.inl rfl))
        (pss_cons (ps_par (i := 3) (j := 4) rfl nd rfl rfl (by decide) rfl rfl (pa_cons (pe_cal (c_ladv T) (hr.mono (by decide)) (pa_cons (pv 1) (pa_cons pe_int (pa_cons pe_int pa_nil)))) (pa_cons (pe_cal (c_draw T) (hr.mono (by decide)) (pa_cons (pv 1) (pa_cons pe_int pa_nil))) pa_nil)) (by rfl))
        (pss_cons (ps_set (i := 5) nd rfl (.inl rfl) (pe_cal (c_dbl T) (hr.mono (by decide)) (pa_cons (pv 1) (pa_cons (pe_cal (c_agn T) (hr.mono (by decide)) (pa_cons (pv 3) pa_nil)) pa_nil))))
        (pss_cons (ps_set (i := 6) nd rfl (.inl rfl) (pe_cal (c_any T) (hr.mono (by decide)) (pa_cons (pv 1) (pa_cons (pe_lst (pa_cons (pe_tup (pa_cons (pv 3) (pa_cons (pv 5) pa_nil))) (pa_cons (pe_tup (pa_cons (pv 5) (pa_cons (pv 3) pa_nil))) (pa_cons (pe_tup (pa_cons (pv 3) (pa_cons (pv 5) (pa_cons (pv 3) pa_nil)))) (pa_cons (pe_tup (pa_cons (pv 3) (pa_cons (pv 5) (pa_cons (pv 5) pa_nil)))) pa_nil))))) pa_nil))))
        (pss_cons (ps_set (i := 7) nd rfl (.inl rfl) (pe_cal (c_halved T) (hr.mono (by decide)) (pa_cons (pv 4) pa_nil)))
        (pss_cons (ps_if (PW.pt (pw_or (pt_not (pt_val (pe_cal (c_lis2 T) (hr.mono (by decide)) (pa_cons (pe_cal (c_lag T B) hr (pa_cons (pv 6) (pa_cons (pv 4) pa_nil))) (pa_cons (pv 7) pa_nil)))))
            (pw_or (pt_cmpR (op_neD hu) (pe_cal (c_lag T B) hr (pa_cons (pe_tup (pa_cons (pv 3) pa_nil)) (pa_cons (pv 4) pa_nil))) (pe_tup (pa_cons pe_int (pa_cons pe_int pa_nil))) (nomark _))
            (pw_or1 (pt_cmpR (op_neD hu) (pe_cal (c_lag T B) hr (pa_cons (pe_tup (pa_cons (pv 5) (pa_cons (pv 5) pa_nil))) (pa_cons (pv 4) pa_nil))) (pe_tup (pa_cons pe_int (pa_cons pe_int pa_nil))) (nomark _)))))) (pss_one ps_never) pss_nil)
        (pss_cons (ps_asg (pe_tup (pa_cons (pe_tup pa_nil) (pa_cons (pe_tup (pa_cons pe_int (pa_cons pe_int pa_nil))) pa_nil))) (pg_tup rfl (pgs_cons (pg_name (i := 8) nd rfl (.inl rfl)) (pgs_cons (pg_name (i := 9) nd rfl (.inl rfl)) pgs_nil))))
        (pss_cons (ps_for PassesOwn.never rfl (pi_range1 (by rfl) (T.free _ fa_range) (pa_cons (pv 4) pa_nil)) (pg_name (i := 10) nd rfl (.inl rfl))
          (pss_cons (ps_set (i := 11) nd rfl (.inl rfl) (pe_cal (c_followed T B) (hr.mono (by decide)) (pa_cons (pv 6) (pa_cons (pv 4) (pa_cons (pv 8) pa_nil)))))
          (pss_cons (ps_set (i := 12) nd rfl (.inl rfl) (pe_cal (c_draw T) (hr.mono (by decide)) (pa_cons (pv 1) (pa_cons pe_int pa_nil))))
          (pss_one (ps_par (i := 8) (j := 9) rfl nd rfl rfl (by decide) rfl rfl (pa_cons (pe_weak (t' := tSnoc K) (pe_op op_catA (pv 8) (pe_tup (pa_cons (pv 12) pa_nil))) fun _ _ _ => snoc_imp)
            (pa_cons (pe_cal (c_lplus T) (hr.mono (by decide)) (pa_cons (pv 9) (pa_cons (pe_cal (c_lminus T) (hr.mono (by decide)) (pa_cons (pe_tup (pa_cons pe_int (pa_cons pe_int pa_nil))) (pa_cons (pe_ix ix_tup (pv 11) (pv 12) (fun _ _ => rfl)) pa_nil))) pa_nil))) pa_nil)) (by rfl))))))
        (pss_cons (ps_set (i := 13) nd rfl (.inl rfl) (pe_cal (c_adviser_misses T) (hr.mono (by decide)) (pa_cons (pe_tup (pa_cons (pv 3) (pa_cons (pv 5) pa_nil))) (pa_cons (pv 8) pa_nil))))
        (pss_one (ps_if (PW.pt (pw_or (pt_cmpR op_ne (pe_callB (cr_sumP rfl) (by rfl) (T.free _ fa_sum) (by decide +kernel) (pa_cons (pv 13) pa_nil)) (pv 4) (nomark _))
            (pw_or1 (pt_val (pe_cal (c_lless T) (hr.mono (by decide)) (pa_cons (pe_cal (c_lplus T) (hr.mono (by decide)) (pa_cons (pe_tup (pa_cons (pe_callB (cr_minP rfl) (by rfl) (T.free _ fa_min) (by decide +kernel) (pa_cons (pv 13) pa_nil)) (pa_cons pe_int pa_nil))) (pa_cons (pv 7) pa_nil))) (pa_cons (pv 9) pa_nil))))))) (pss_one ps_never) pss_nil)))))))))))
      (pss_one (ps_ret pe_bl))), ?_⟩
    refine ⟨_, rfl, a, ns, rfl, hS, hln, fun H1 p cp s1 hP1 => ⟨3, rfl, by decide, by decide, ?_⟩⟩
    refine for_range (lo := 0) (n := 3) (fun i σ H => PotA H p cp ∧ Tb K H ∧ ∃ y2 y3 y4 y5 y6 y7 y8 y9 y10 y11 y12 y13, σ = [some (.ref a), some (.ref p), y2, y3, y4, y5, y6, y7, y8, y9, y10, y11, y12, y13])
      ⟨hP1, htb.same s1, none, none, none, none, none, none, none, none, none, none, none, none, rfl⟩ ?_ (fun σ H' _ => q H')
    rintro i σ Hh hi ⟨hP, tb, y2, y3, y4, y5, y6, y7, y8, y9, y10, y11, y12, y13, rfl⟩
    -- the two advisers
    refine ⟨_, rfl, p, cp, rfl, hP, fun H2 v1 A' sb2 hP2 hA okA => ⟨_, rfl, p, cp, 11, rfl, hP2, by decide, by decide, fun H3 n sb3 hP3 hn => ⟨_, _, rfl, ?_⟩⟩⟩
    have tb3 := hP2.tb sb3 (hP.tb sb2 tb)
    have hA3 := hA.tk (hP2.tk sb3)
    refine ⟨_, rfl, _, rfl, v1, A', rfl, hA3, okA, fun H4 v2 s4 hG4 => ⟨p, cp, v2, agn A', rfl, hP3.same s4, hG4, agn_ok okA, fun H5 v3 B' sb5 hP5 hB okB cov => ?_⟩⟩
    obtain ⟨R, hR0, hR, hR2⟩ := cov_bis okA okB cov
    have tb5 := (hP3.same s4).tb sb5 (tb3.same s4)
    have hA5 := hA3.tk (s4.tk.trans ((hP3.same s4).tk sb5))
    clear hA3 hG4 tb3 hA sb2 sb3
    -- the circle
    refine ⟨_, rfl, _, rfl, _, rfl, by show 2 ≤ sizeLine; decide, fun t1 nt1 => ?_⟩
    have s1' := same_upd (o := .tup [v1, v3]) nt1
    have k1 : (upd H5 t1 (.tup [v1, v3])) t1 = some (.tup [v1, v3]) := upd_same
    generalize upd H5 t1 (.tup [v1, v3]) = G1 at s1' k1
    refine ⟨_, rfl, _, rfl, by show 2 ≤ sizeLine; decide, fun t2 nt2 => ?_⟩
    have s2' := same_upd (o := .tup [v3, v1]) nt2
    have k2 : (upd G1 t2 (.tup [v3, v1])) t2 = some (.tup [v3, v1]) := upd_same
    generalize upd G1 t2 (.tup [v3, v1]) = G2 at s2' k2
    refine ⟨_, rfl, _, rfl, _, rfl, by show 3 ≤ sizeLine; decide, fun t3 nt3 => ?_⟩
    have s3' := same_upd (o := .tup [v1, v3, v1]) nt3
    have k3 : (upd G2 t3 (.tup [v1, v3, v1])) t3 = some (.tup [v1, v3, v1]) := upd_same
    generalize upd G2 t3 (.tup [v1, v3, v1]) = G3 at s3' k3
    refine ⟨_, rfl, _, rfl, _, rfl, by show 3 ≤ sizeLine; decide, fun t4 nt4 => ?_⟩
    have s4' := same_upd (o := .tup [v1, v3, v3]) nt4
    have k4 : (upd G3 t4 (.tup [v1, v3, v3])) t4 = some (.tup [v1, v3, v3]) := upd_same
    generalize upd G3 t4 (.tup [v1, v3, v3]) = G4 at s4' k4
    refine ⟨by show 4 ≤ sizeLine; decide, fun L nL => ?_⟩
    have s5' := same_upd (o := .lst [.ref t1, .ref t2, .ref t3, .ref t4]) nL
    have k5 : (upd G4 L (.lst [.ref t1, .ref t2, .ref t3, .ref t4])) L = some (.lst [.ref t1, .ref t2, .ref t3, .ref t4]) := upd_same
    have hP6 := hP5.same (s1'.trans (s2'.trans (s3'.trans s4')))
    have pL := (hP6.ne nL).1.symm
    generalize upd G4 L (.lst [.ref t1, .ref t2, .ref t3, .ref t4]) = G5 at s5' k5
    have hP7 := hP6.same s5'
    refine ⟨p, cp, L, _, rfl, hP7, k5, pL, by show 0 < 4; decide, by show 4 < 1000; decide, fun H8 r x sb8 hP8 hx => ?_⟩
    have tk8 := hP7.tk sb8
    have sa := s1'.trans (s2'.trans (s3'.trans (s4'.trans s5')))
    have tb8 := hP7.tb sb8 (tb5.same sa)
    have hA8 := hA5.tk (sa.tk.trans tk8)
    have hB8 := hB.tk (sa.tk.trans tk8)
    obtain ⟨Pt, hPt, hl1, hl4, hC8⟩ : ∃ Pt : List Bool, Both Pt ∧ 1 ≤ Pt.length ∧ Pt.length ≤ 4 ∧ CirA K H8 x (cir Pt A' B') := by
      match r, hx with
      | 0, hx =>
        rw [← Option.some.inj hx]
        exact ⟨[true, false], both_tf, by decide, by decide, t1, _, rfl, tk8.sqT (SqT.of ((s2'.trans (s3'.trans (s4'.trans s5'))) _ _ k1)), .cons hA8 (.cons hB8 .nil)⟩
      | 1, hx =>
        rw [← Option.some.inj hx]
        exact ⟨[false, true], both_ft, by decide, by decide, t2, _, rfl, tk8.sqT (SqT.of ((s3'.trans (s4'.trans s5')) _ _ k2)), .cons hB8 (.cons hA8 .nil)⟩
      | 2, hx =>
        rw [← Option.some.inj hx]
        exact ⟨[true, false, true], both_tft, by decide, by decide, t3, _, rfl, tk8.sqT (SqT.of ((s4'.trans s5') _ _ k3)), .cons hA8 (.cons hB8 (.cons hA8 .nil))⟩
      | 3, hx =>
        rw [← Option.some.inj hx]
        exact ⟨[true, false, false], both_tff, by decide, by decide, t4, _, rfl, tk8.sqT (SqT.of (s5' _ _ k4)), .cons hA8 (.cons hB8 (.cons hB8 .nil))⟩
      | r + 4, hx => cases hx
    clear k1 k2 k3 k4 k5 s1' s2' s3' s4' s5' sa hP6 hP7 pL tk8 hA5 hB tb5 hx sb8 nt1 nt2 nt3 nt4 nL
    have okC := cir_ok hl1 hl4 okA okB
    have hlag := lag_pair hPt hR hR0 n
    have hn10 : n ≤ 10 := by omega
    -- what is due
    refine ⟨_, rfl, n, rfl, hn10, fun H9 due s9 hdue => ?_⟩
    have hC9 := hC8.tk s9.tk
    have hP9 := hP8.same s9
    have tb9 := tb8.same s9
    have hA9 := hA8.tk s9.tk
    have hB9 := hB8.tk s9.tk
    have hd9 : FrA K H9 (.ref due) (am n 0) := FrA.of hdue
    clear hdue hC8 hP8 tb8 hA8 hB8
    -- lag of the circle
    refine ⟨_, rfl, _, rfl, x, cir Pt A' B', n, rfl, hC9, okC, hn10, tb9, fun H10 vl e10 tb10 hfl => ?_⟩
    rw [hlag] at hfl
    obtain ⟨pl, rfl, hpl⟩ := hfl
    have hd10 := hd9.tk e10.tk
    obtain ⟨_, ed, hdd⟩ := hd10
    cases ed
    refine ⟨_, rfl, pl, due, _, _, rfl, hpl, hdd, fun H11 s11 => ⟨true, rfl, iteF ?_⟩⟩
    have e11 := e10.trans s11.ext
    have tb11 := tb10.same s11
    have hP11 := hP9.ext e11
    have hA11 := hA9.tk e11.tk
    have hB11 := hB9.tk e11.tk
    have hC11 := hC9.tk e11.tk
    have hd11 := hd9.tk e11.tk
    clear hpl hdd hA9 hB9 hC9 hP9 hd9 tb9 tb10 e10 s11
    -- lag of the one
    refine ⟨_, rfl, by show 1 ≤ sizeLine; decide, fun t5 nt5 => ?_⟩
    have s12 := same_upd (o := .tup [v1]) nt5
    have k12 : (upd H11 t5 (.tup [v1])) t5 = some (.tup [v1]) := upd_same
    generalize upd H11 t5 (.tup [v1]) = H12 at s12 k12
    refine ⟨_, rfl, .ref t5, cir [true] A' A', n, rfl, ⟨t5, _, rfl, SqT.of k12, .cons (hA11.tk s12.tk) .nil⟩, cir_ok (by decide) (by decide) okA okA, hn10, tb11.same s12, fun H13 v5 e13 tb13 hf13 => ⟨by show 2 ≤ sizeLine; decide, fun t6 nt6 => ?_⟩⟩
    rw [lag_one lag_t okA n] at hf13
    obtain ⟨p5, rfl, hp5⟩ := hf13
    rw [rep_zero] at hp5
    have s14 := same_upd (o := .tup [.int 0, .int 1]) nt6
    have k14 : (upd H13 t6 (.tup [.int 0, .int 1])) t6 = some (.tup [.int 0, .int 1]) := upd_same
    generalize upd H13 t6 (.tup [.int 0, .int 1]) = H14 at s14 k14
    refine ⟨.tuple [.int 0, .int 1], .tuple [.int 0, .int 1], .tup (s14.sqT hp5) (.cons (.int 0) (.cons (.int 1) .nil)), .tup (SqT.of k14) (.cons (.int 0) (.cons (.int 1) .nil)), by decide +kernel, by decide +kernel, _, rfl, ?_⟩
    rw [neq01]
    refine iteF ?_
    have e14 := s12.ext.trans (e13.trans s14.ext)
    have tb14 := tb13.same s14
    have hB14 := hB11.tk e14.tk
    -- lag of the other
    refine ⟨_, rfl, _, rfl, by show 2 ≤ sizeLine; decide, fun t7 nt7 => ?_⟩
    have s15 := same_upd (o := .tup [v3, v3]) nt7
    have k15 : (upd H14 t7 (.tup [v3, v3])) t7 = some (.tup [v3, v3]) := upd_same
    generalize upd H14 t7 (.tup [v3, v3]) = H15 at s15 k15
    refine ⟨_, rfl, .ref t7, cir [true, true] B' B', n, rfl, ⟨t7, _, rfl, SqT.of k15, .cons (hB14.tk s15.tk) (.cons (hB14.tk s15.tk) .nil)⟩, cir_ok (by decide) (by decide) okB okB, hn10, tb14.same s15, fun H16 v7 e16 tb16 hf16 => ⟨by show 2 ≤ sizeLine; decide, fun t8 nt8 => ?_⟩⟩
    rw [lag_one lag_tt okB n] at hf16
    obtain ⟨p7, rfl, hp7⟩ := hf16
    rw [rep_zero] at hp7
    have s17 := same_upd (o := .tup [.int 0, .int 1]) nt8
    have k17 : (upd H16 t8 (.tup [.int 0, .int 1])) t8 = some (.tup [.int 0, .int 1]) := upd_same
    generalize upd H16 t8 (.tup [.int 0, .int 1]) = H17 at s17 k17
    refine ⟨.tuple [.int 0, .int 1], .tuple [.int 0, .int 1], .tup (s17.sqT hp7) (.cons (.int 0) (.cons (.int 1) .nil)), .tup (SqT.of k17) (.cons (.int 0) (.cons (.int 1) .nil)), by decide +kernel, by decide +kernel, _, rfl, ?_⟩
    rw [neq01]
    refine iteF ?_
    have e17 := e14.trans (s15.ext.trans (e16.trans s17.ext))
    have tb17 := tb16.same s17
    have hP17 := hP11.ext e17
    have hA17 := hA11.tk e17.tk
    have hB17 := hB11.tk e17.tk
    have hC17 := hC11.tk e17.tk
    have hd17 := hd11.tk e17.tk
    clear hp5 hp7 k12 k14 k15 k17 s12 s14 s15 s17 e13 e16 e14 tb13 tb14 tb16 hB14 hA11 hB11 hC11 hd11 hP11 tb11 e11 e17
    -- row, missed
    refine ⟨Nat.zero_le _, fun r0 nr0 => ⟨by show 2 ≤ sizeLine; decide, fun m0 nm0 => ⟨by show 2 ≤ sizeLine; decide, fun z0 nz0 => ?_⟩⟩⟩
    have s18 := same_upd (o := .tup []) nr0
    have s19 := same_upd (o := .tup [.int 0, .int 1]) nm0
    have s20 := same_upd (o := .tup [.ref r0, .ref m0]) nz0
    have k18 := (s19.trans s20) _ _ (upd_same (H := H17) (a := r0) (o := .tup []))
    have k19 := s20 _ _ (upd_same (H := upd H17 r0 (.tup [])) (a := m0) (o := .tup [.int 0, .int 1]))
    have k20 : (upd (upd (upd H17 r0 (.tup [])) m0 (.tup [.int 0, .int 1])) z0 (.tup [.ref r0, .ref m0])) z0 = some (.tup [.ref r0, .ref m0]) := upd_same
    have s1720 := s18.trans (s19.trans s20)
    generalize upd (upd (upd H17 r0 (.tup [])) m0 (.tup [.int 0, .int 1])) z0 (.tup [.ref r0, .ref m0]) = H20 at k18 k19 k20 s1720
    refine ⟨z0, _, rfl, SqT.of k20, rfl, _, _, rfl, _, _, rfl, rfl, ?_⟩
    have hP20 := hP17.same s1720
    have tb20 := tb17.same s1720
    have hA20 := hA17.tk s1720.tk
    have hB20 := hB17.tk s1720.tk
    have hC20 := hC17.tk s1720.tk
    have hd20 := hd17.tk s1720.tk
    have hm20 : FrA K H20 (.ref m0) 0 := ⟨m0, rfl, SqT.of (by rw [rep_zero]; exact k19)⟩
    clear s18 s19 s20 k19 k20 s1720 hP17 tb17 hA17 hB17 hC17 hd17
    refine ⟨_, rfl, (n : Int), rfl, by omega, by omega, ?_⟩
    refine for_range (lo := 0) (n := (n : Int).toNat) (fun i σ Hx => PotA Hx p cp ∧ Tb K Hx ∧ TupK H20 Hx ∧ ∃ (rr : Addr) (mm : V) (row : List Nat) (q : Rat) (w2 w10 w11 w12 w13 : Option V), σ = [some (.ref a), some (.ref p), w2, some v1, some (.int (n : Int)), some v3, some x, some (.ref due), some (.ref rr), some mm, w10, w11, w12, w13] ∧
        SqT K Hx rr (W row) ∧ row.length = i ∧ FrA K Hx mm q ∧ LR Pt A' B' R n row q)
      ⟨hP20, tb20, TupK.refl _, r0, .ref m0, [], 0, _, _, _, _, _, rfl, SqT.of k18, rfl, hm20, LR.zero hR0 n⟩ ?_ ?_
    · rintro j σ Hx hj ⟨hPx, tbx, tkx, rr, mm, row, qq, w2, w10, w11, w12, w13, rfl, hrr, hrl, hmm, lr⟩
      have hjn : row.length < n := by omega
      have hCx := hC20.tk tkx
      refine ⟨_, rfl, _, rfl, _, rfl, x, .ref rr, cir Pt A' B', n, row, rfl, hCx, okC, hn10, ⟨rr, rfl, hrr⟩, lr.lt, hjn, tbx, fun Hy wv ey tby ⟨wa, u0, u1, ewa, hwa, f0, f1⟩ => ?_⟩
      subst ewa
      have hPy := hPx.ext ey
      refine ⟨_, rfl, p, cp, 2, rfl, hPy, by decide, by decide, fun Hz xl sbz hPz hxl => ?_⟩
      have tkyz := hPy.tk sbz
      have tbz := hPy.tb sbz tby
      have tkxz := ey.tk.trans tkyz
      refine ⟨rr, row, xl, ⟨_, rfl, rfl, rfl⟩, fun _ => ⟨_, rfl, rfl, rfl⟩, tkxz.sqT hrr, by omega, fun cc H21 s21 hcc => ?_⟩
      refine ⟨_, rfl, by show 2 ≤ sizeLine; decide, fun t9 nt9 => ?_⟩
      have s22 := same_upd (o := .tup [.int 1, .int 1]) nt9
      have k22 : (upd H21 t9 (.tup [.int 1, .int 1])) t9 = some (.tup [.int 1, .int 1]) := upd_same
      generalize upd H21 t9 (.tup [.int 1, .int 1]) = H22 at s22 k22
      have s2122 := s21.trans s22
      have em : n - row.length = n - (row.length + 1) + 1 := by omega
      have kok : KeyOk (cir Pt A' B') (keyAt (cir Pt A' B') row) := by
        have r := rea_row (c := cir Pt A' B') row.length row (Nat.le_refl _) lr.lt
        rw [List.take_length] at r
        exact r.ok okC
      obtain ⟨cu1, cu2⟩ := cha_unit okC (m := n - (row.length + 1)) (by omega) kok hxl
      have hst := lr.step hPt hR hR2 okA okB hl1 hl4 hn10 hjn hxl
      rw [← em] at cu1 cu2
      obtain ⟨u, hu1, hu2⟩ := wo_at (g := fun z => cha (wr (cir Pt A' B') (n - (row.length + 1)) (keyAt (cir Pt A' B') row) z) (Lv (cir Pt A' B') (n - row.length) (keyAt (cir Pt A' B') row))) f0 f1 hxl
      have tk22 := tkyz.trans s2122.tk
      refine ⟨_, rfl, _, rfl, wa, _, _, u, rfl, rfl, tk22.sqT hwa, atI_nat hu1, .ref t9, u, 1, _, rfl, ⟨t9, rfl, SqT.of (by rw [rep_one]; exact k22)⟩, hu2.tk tk22, one_sm.bd (by decide), cu2.bd (by decide), fun H23 p23 s23 hp23 => ?_⟩
      have s2123 := s2122.trans s23
      refine ⟨mm, .ref p23, qq, _, rfl, hmm.tk (tkxz.trans s2123.tk), FrA.of hp23, lr.sz.bd (by omega), cu1.bd (by decide), fun H24 p24 s24 hp24 => ?_⟩
      have s2124 := s2123.trans s24
      refine ⟨_, _, rfl, hPz.same s2124, tbz.same s2124, tkx.trans (tkxz.trans s2124.tk), cc, .ref p24, row ++ [xl], _, _, _, _, _, _, rfl, (s22.trans (s23.trans s24)).sqT hcc, by rw [List.length_append, hrl]; rfl, FrA.of hp24, hst⟩
    · rintro σ Hx ⟨hPx, tbx, tkx, rr, mm, row, qq, w2, w10, w11, w12, w13, rfl, hrr, hrl, hmm, lr⟩
      rw [Int.toNat_natCast] at hrl
      have hAx := hA20.tk tkx
      have hBx := hB20.tk tkx
      have hdx := hd20.tk tkx
      refine ⟨_, rfl, _, rfl, by show 2 ≤ sizeLine; decide, fun tt ntt => ?_⟩
      have s25 := same_upd (o := .tup [v1, v3]) ntt
      have k25 : (upd Hx tt (.tup [v1, v3])) tt = some (.tup [v1, v3]) := upd_same
      generalize upd Hx tt (.tup [v1, v3]) = H25 at s25 k25
      refine ⟨_, rfl, .ref tt, .ref rr, cir [true, false] A' B', row, rfl, ⟨tt, _, rfl, SqT.of k25, .cons (hAx.tk s25.tk) (.cons (hBx.tk s25.tk) .nil)⟩, cir_ok (by decide) (by decide) okA okB, ⟨rr, rfl, s25.sqT hrr⟩, lr.lt, by omega, fun H26 pb s26 hpb => ?_⟩
      have s56 := s25.trans s26
      have hcnt := lr.cnt
      have hval := lr.val
      generalize hM1 : (mrun A' row).2 = M1 at hcnt hval
      generalize hM2 : (mrun B' row).2 = M2 at hcnt hval
      have hpb2 : H26 pb = some (.tup [.int (M1 : Int), .int (M2 : Int)]) := by rw [← hM1, ← hM2]; exact hpb
      refine ⟨_, rfl, pb, M1, M2, rfl, SqT.of hpb2, by omega, by omega, _, rfl, rfl, _, rfl, ?_⟩
      have ne : (!decide (V.int ((M1 + M2 : Nat) : Int) = V.int (n : Int))) = false := by rw [hcnt, hrl, decide_eq_true rfl]; rfl
      rw [ne]
      refine iteF ⟨_, rfl, pb, M1, M2, rfl, SqT.of hpb2, by omega, by omega, by show 2 ≤ sizeLine; decide, fun t10 nt10 => ?_⟩
      have s27 := same_upd (o := .tup [.int ((min M1 M2 : Nat) : Int), .int 1]) nt10
      have k27 : (upd H26 t10 (.tup [.int ((min M1 M2 : Nat) : Int), .int 1])) t10 = some (.tup [.int ((min M1 M2 : Nat) : Int), .int 1]) := upd_same
      generalize upd H26 t10 (.tup [.int ((min M1 M2 : Nat) : Int), .int 1]) = H27 at s27 k27
      have s57 := s56.trans s27
      have smA : Sm 81920 (am n 0) := by
        have h := (Lv_sh okC hn10 (Rea.zero.ok okC)).sm
        rw [hlag] at h
        exact h
      have smM : Sm 40960 ((min M1 M2 : Nat) : Rat) := (Sm.nat (min M1 M2)).mono (by omega)
      refine ⟨_, rfl, .ref t10, .ref due, ((min M1 M2 : Nat) : Rat), am n 0, rfl, ⟨t10, rfl, SqT.of (by rw [nat_rep]; exact k27)⟩, hdx.same s57, smM.bd (by decide), smA.bd (by decide), fun H28 p28 s28 hp28 => ?_⟩
      have s58 := s57.trans s28
      have fin : ¬ ((min M1 M2 : Nat) : Rat) + am n 0 < qq := by
        rw [hrl, Nat.sub_self, hlag] at hval
        have h0 : Lv (cir Pt A' B') 0 (keyAt (cir Pt A' B') row) = 0 := rfl
        rw [h0] at hval
        clear smA smM ne hlag h0
        generalize am n 0 = z at hval ⊢
        generalize ((min M1 M2 : Nat) : Rat) = y at hval ⊢
        grind
      refine ⟨_, rfl, .ref p28, mm, _, qq, rfl, FrA.of hp28, hmm.same s58, (smM.add smA).bd (by decide), lr.sz.bd (by omega), _, rfl, ?_⟩
      rw [decide_eq_false fin]
      exact iteF ⟨hPx.same s58, tbx.same s58, _, _, _, _, _, _, _, _, _, _, _, _, rfl⟩
end
end K43
set_option Elab.async false
set_option linter.all false
set_option maxRecDepth 100000
set_option maxHeartbeats 0
namespace K43
open PySem PySem.Spec PyProof.Rows L2
abbrev R : PySem.W.OpenRow := PySem.W.OpenLaw.row PySem.Challenge.rw_keptmisses_k43_whole_advisers_who_always
/-- the two constants are written as refs, too -/
def ex2 (K : PySem.W.Frag) : Bool := ex K && ((He.Fa.glo "NOUGHT").ok K && (He.Fa.glo "ONE").ok K)
abbrev hk : PySem.W.Hook := He.hookX 5 fa fn [] tf ex2
def ob (s : PySem.W.SharedT) : He.AlX := He.obsX 5 fa fn [] tf ex2 (HandSHeadRun.getT s)
theorem ob_eq (s : PySem.W.SharedT) : ob s = hk.obs s.abs := He.obsX_eq (HandSHeadRun.getT_eq s)
theorem run (w : World) : HandSHeadRun.RunEqI R (PySem.W.view R.prog [0, 74]) hk ob 12000 loose w := by
  unfold HandSHeadRun.RunEqI
  kernel_rfl
end K43
set_option Elab.async false
set_option linter.all false
set_option maxRecDepth 100000
set_option maxHeartbeats 2000000
namespace K43
open PySem PySem.Spec PyProof.Rows L2
theorem tx_of {K : PySem.W.Frag} {w : World} {h : Heap} {mg : Str → Option Value} (X : K.In h) (G : h.Ns mainGlobals mg) (c : He.SaysX fa fn [] tf ex2 w h K) : Tx K mg := by
  obtain ⟨x1, x2⟩ := He.ba c.more
  obtain ⟨x3, x4⟩ := He.ba x2
  obtain ⟨b1, b2⟩ := He.ba x1
  obtain ⟨b3, b4⟩ := He.ba b2
  have f : ∀ {z : He.Fa}, z ∈ fa → z.ok K = true := fun hz => c.t.d.facts hz
  refine ⟨fun x hx => He.glo_ok X G (f hx), fun x hx => He.free_ok X G (f hx), fun x i hx => He.int_ok X G (f hx), fun d hd => c.t.d.defs hd, ?_, He.glo_ok X G x3, He.glo_ok X G x4,
    fun H => He.tupB_ok b3 H, fun H => He.tupB_ok b4 H, He.cls_ok (f fa_cls_Lags), He.mkr_ok (f fa_mkr_Lags), He.meth_ok (f fa_meth_Lags_behind), He.meth_ok (f fa_meth_Lags_worths), He.noat_ok (f fa_noat_Lags_circle), He.noat_ok (f fa_noat_Lags_begin), He.noat_ok (f fa_noat_Lags_lags)⟩
  have b1' : (match PySem.W.nsIn K mainGlobals "gcd" with
    | some (some (.builtin i)) => decide (i = "math.gcd")
    | _ => false) = true := b1
  cases e : PySem.W.nsIn K mainGlobals "gcd" with
  | none => rw [e] at b1'; cases b1'
  | some o =>
    cases o with
    | none => rw [e] at b1'; cases b1'
    | some v =>
      rw [e] at b1'
      cases v with
      | builtin i =>
        have ei : i = "math.gcd" := of_decide_eq_true b1'
        rw [ei] at e
        exact PySem.W.mg_of X G e
      | _ => cases b1'
theorem law_at {w : World} {mg : Str → Option Value} {fa' : Addr} {h : Heap} (Y : hk.says w h) (G : h.Ns mainGlobals mg) (hm : mg ("law" : Str) = some (.ref fa')) :
    ∃ K : PySem.W.Frag, K.In h ∧ LamX.LawAtS PySem.Challenge.rw_keptmisses_k43_whole_advisers_who_always w K CX0 12 63 "_law_script" mg fa' h := by
  obtain ⟨K, KX, c⟩ := Y
  have T := tx_of KX G c
  have e := hm.symm.trans (T.glo "law" fa_law)
  cases e
  have hd := c.hd lotsAt (List.mem_singleton.mpr rfl)
  obtain ⟨fd, F⟩ := T.fn d_law in_law
  refine ⟨K, KX, fd, [He.cT K lotsAt], spLaw K, fun p hp => ?_, fun p hp => ?_, fun p hp => ?_, fun s u => ?_, fun H a ns hl _ ht hS => ?_, fun base KB GB TB => ?_⟩
  · rw [List.mem_singleton.mp hp]
    exact c.empty lotsAt (List.mem_singleton.mpr rfl)
  · rw [List.mem_singleton.mp hp]
    exact c.out lotsAt (List.mem_singleton.mpr rfl)
  · rw [List.mem_singleton.mp hp]
    exact PySem.W.codeHd_of_K KX hd
  · exact FunD.bindsA (ps := ["_law_script"]) F (fun _ _ _ _ _ _ us hl => match us, hl with | [_], _ => rfl) s [u] rfl
  · refine ⟨a, ns, rfl, hS, hl, fun p hp => ?_, fun _ => rfl⟩
    rw [List.mem_singleton.mp hp]
    exact LamX.TabS.nil (ht (He.cT K lotsAt) (List.mem_singleton.mpr rfl))
  · exact law_ok T (TB (He.cT K lotsAt) (List.mem_singleton.mpr rfl)) F
end K43
open PySem PySem.W PySem.Calls PyProof.Rows
theorem PySem.Challenge.cw_keptmisses_k43_whole_advisers_who_always_holds : PySem.Challenge.rw_keptmisses_k43_whole_advisers_who_always.Holds := by
  w_on; o_law
  refine HandSHeadRun.head_imp (r := OpenLaw.row PySem.Challenge.rw_keptmisses_k43_whole_advisers_who_always) (q := view (OpenLaw.row PySem.Challenge.rw_keptmisses_k43_whole_advisers_who_always).prog [0, 74]) (H := K43.hk) (ob := K43.ob) (M := 12000) (loose := K43.loose) (d := HandSHeadRun.topDef (OpenLaw.row PySem.Challenge.rw_keptmisses_k43_whole_advisers_who_always).prog 74) (kwd := []) K43.ob_eq
    K43.run (by kernel_rfl) (by kernel_rfl) (by kernel_rfl) (by rfl) (by first | assumption | decide +kernel) (by decide +kernel) ⟨rfl, rfl, rfl, rfl, rfl, by decide +kernel⟩ ?hw ?hc
  case hw => w_witness2
  case hc =>
    refine LamX.walk_ofTsE (l := PySem.Challenge.rw_keptmisses_k43_whole_advisers_who_always) (n := 63) (k := 12) (x := "_law_script") (CX := fun _ => L2.CX0) rfl (by decide) (by kernel_rfl) ⟨rfl, by decide, by decide⟩ ?F (fun _ _ _ _ _ z => z)
    intro w mg fa h Y G hmg0
    have hmg : mg ("law" : PySem.Str) = some (.ref fa) := by
      have e : (HandSHeadRun.topDef (OpenLaw.row PySem.Challenge.rw_keptmisses_k43_whole_advisers_who_always).prog 74).name = ("law" : PySem.Str) := by kernel_rfl
      rw [← e]
      exact hmg0
    exact K43.law_at Y G hmg
