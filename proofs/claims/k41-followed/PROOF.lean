import PyProof.Rows.All
import Wide.All
import OpenK.AllK
import Wide.FinOn
import HandS.ForMost
import HandS.Lambda
import HandS.Wide
import HandS.Gcd
import HandS.TupAny
import HandS.Zip
import HandS.Style
import HandS.IsInst
import HandS.Flow
import HandS.Defaults
import KE.SortKeyHeap
import KE.SortData
import HandS.SortKw
import KE.KDictKeyed
import KE.KeyNested
import KE.KDictDisplayH
import HandS.TupLen
import PyProof.LayNew
import HandS.DictComp
import HandS.More
import KE.KRevSl
import KE.KStateDown
import HandS.Ends
import HandS.Words
import HandS.WordsExc
import HandS.Head0
import HandS.Head1
import HandS.Head2
import HandS.Head3
import HandS.HeadEnd
import HandS.HeadHook1
import HandS.HeadHook2
import HandS.HeadHook3
import HandS.HeadHook4
import HandS.EndTab
import HandS.HeadWalk
import PySem.Challenge.RW_keptmisses_k41_whole_advisers_followed
set_option Elab.async false
set_option linter.all false
set_option maxRecDepth 100000
section
set_option autoImplicit false
/-! Kt, the mathematics, first part: sums of fractions, lots, the level of worths, the chances that fill it. -/
namespace Kt
/-- the sum in the program's order -/
def totalL (ps : List Rat) : Rat := ps.foldl (· + ·) 0
theorem foldl_add (ps : List Rat) (a : Rat) : ps.foldl (· + ·) a = a + totalL ps := by
  induction ps generalizing a with
  | nil => simp [totalL, Rat.add_zero]
  | cons p ps ih =>
    show List.foldl (· + ·) (a + p) ps = a + List.foldl (· + ·) (0 + p) ps
    rw [ih, ih (0 + p), Rat.zero_add, Rat.add_assoc]
theorem totalL_nil : totalL [] = 0 := rfl
theorem totalL_cons (p : Rat) (ps : List Rat) : totalL (p :: ps) = p + totalL ps := by
  show List.foldl (· + ·) (0 + p) ps = _
  rw [foldl_add, Rat.zero_add]
theorem totalL_app (ps qs : List Rat) : totalL (ps ++ qs) = totalL ps + totalL qs := by
  unfold totalL
  rw [List.foldl_append, foldl_add]
  rfl
theorem totalL_snoc (ps : List Rat) (q : Rat) : totalL (ps ++ [q]) = totalL ps + q := by
  rw [totalL_app, totalL_cons, totalL_nil, Rat.add_zero]
theorem total_le {α : Type} (f g : α → Rat) (l : List α) (h : ∀ x ∈ l, f x ≤ g x) : totalL (l.map f) ≤ totalL (l.map g) := by
  induction l with
  | nil => exact Rat.le_refl
  | cons a l ih =>
    rw [List.map_cons, List.map_cons, totalL_cons, totalL_cons]
    have h1 := h a List.mem_cons_self
    have h2 := ih fun x hx => h x (List.mem_cons_of_mem _ hx)
    grind
theorem total_nonneg {α : Type} (f : α → Rat) (l : List α) (h : ∀ x ∈ l, 0 ≤ f x) : 0 ≤ totalL (l.map f) := by
  induction l with
  | nil => exact Rat.le_refl
  | cons a l ih =>
    rw [List.map_cons, totalL_cons]
    have h1 := h a List.mem_cons_self
    have h2 := ih fun x hx => h x (List.mem_cons_of_mem _ hx)
    grind
theorem total_add_const {α : Type} (f : α → Rat) (c : Rat) (l : List α) : totalL (l.map fun x => f x + c) = totalL (l.map f) + (l.length : Rat) * c := by
  induction l with
  | nil => simp [totalL, Rat.zero_mul, Rat.add_zero]
  | cons a l ih =>
    rw [List.map_cons, List.map_cons, totalL_cons, totalL_cons, ih, List.length_cons]
    have e : ((l.length + 1 : Nat) : Rat) = (l.length : Rat) + 1 := by simp
    rw [e]
    grind
/-! ### lots -/
def lotsA : Nat → List (List Nat)
  | 0 => [[]]
  | n + 1 => lotsA n ++ (lotsA n).map (· ++ [n])
def lotsL (n : Nat) : List (List Nat) := (lotsA n).tail
theorem lotsA_head (n : Nat) : ∃ r, lotsA n = [] :: r := by
  induction n with
  | zero => exact ⟨[], rfl⟩
  | succ n ih =>
    obtain ⟨r, e⟩ := ih
    exact ⟨r ++ (lotsA n).map (· ++ [n]), by show lotsA n ++ _ = _; rw [e]; rfl⟩
theorem lotsA_eq (n : Nat) : lotsA n = [] :: lotsL n := by
  obtain ⟨r, e⟩ := lotsA_head n
  unfold lotsL
  rw [e]
  rfl
/-- the lots but the empty one -/
theorem lotsL_ne (n : Nat) : ∀ l ∈ lotsL n, l ≠ [] := by
  induction n with
  | zero => simp [lotsL, lotsA]
  | succ n ih =>
    intro l hl
    have e : lotsL (n + 1) = lotsL n ++ (lotsA n).map (· ++ [n]) := by
      unfold lotsL
      show (lotsA n ++ (lotsA n).map (· ++ [n])).tail = _
      rw [lotsA_eq n]
      rfl
    rw [e] at hl
    rcases List.mem_append.mp hl with h | h
    · exact ih l h
    · obtain ⟨k, _, rfl⟩ := List.mem_map.mp h
      simp
theorem lots_lt (n : Nat) : ∀ l ∈ lotsA n, (∀ x ∈ l, x < n) ∧ l.length ≤ n := by
  induction n with
  | zero =>
    intro l hl
    have e : l = [] := by simpa [lotsA] using hl
    subst e
    simp
  | succ n ih =>
    intro l hl
    rcases List.mem_append.mp hl with h | h
    · obtain ⟨a, b⟩ := ih l h
      exact ⟨fun x hx => Nat.lt_succ_of_lt (a x hx), Nat.le_succ_of_le b⟩
    · obtain ⟨k, hk, rfl⟩ := List.mem_map.mp h
      obtain ⟨a, b⟩ := ih k hk
      refine ⟨fun x hx => ?_, ?_⟩
      · rcases List.mem_append.mp hx with z | z
        · exact Nat.lt_succ_of_lt (a x z)
        · have : x = n := by simpa using z
          omega
      · rw [List.length_append, List.length_singleton]
        omega
theorem mem_lotsL {n : Nat} {l : List Nat} (h : l ∈ lotsA n) (hne : l ≠ []) : l ∈ lotsL n := by
  rw [lotsA_eq] at h
  rcases List.mem_cons.mp h with z | z
  · exact absurd z hne
  · exact z
theorem lotsL_sub {n : Nat} {l : List Nat} (h : l ∈ lotsL n) : l ∈ lotsA n := by
  rw [lotsA_eq]
  exact List.mem_cons_of_mem _ h
theorem filter_lot (p : Nat → Bool) (n : Nat) : (List.range n).filter p ∈ lotsA n := by
  induction n with
  | zero => simp [lotsA]
  | succ n ih =>
    rw [List.range_succ, List.filter_append]
    by_cases h : p n = true
    · refine List.mem_append.mpr (.inr (List.mem_map.mpr ⟨_, ih, ?_⟩))
      simp [h]
    · refine List.mem_append.mpr (.inl ?_)
      have : p n = false := by simpa using h
      simp [this, ih]
/-- a lot's sum of what is not negative is at most the sum of all -/
theorem lot_total_le (f : Nat → Rat) (h : ∀ x, 0 ≤ f x) (n : Nat) : ∀ l ∈ lotsA n, totalL (l.map f) ≤ totalL ((List.range n).map f) := by
  induction n with
  | zero =>
    intro l hl
    have e : l = [] := by simpa [lotsA] using hl
    subst e
    exact Rat.le_refl
  | succ n ih =>
    intro l hl
    rw [List.range_succ, List.map_append, totalL_app]
    show _ ≤ _ + totalL [f n]
    rw [totalL_cons, totalL_nil]
    have hn := h n
    rcases List.mem_append.mp hl with z | z
    · have := ih l z
      grind
    · obtain ⟨k, hk, rfl⟩ := List.mem_map.mp z
      have := ih k hk
      rw [List.map_append, totalL_app]
      show _ + totalL [f n] ≤ _
      rw [totalL_cons, totalL_nil]
      grind
theorem total_filter (f : Nat → Rat) (p : Nat → Bool) (l : List Nat) : totalL ((l.filter p).map f) = totalL (l.map fun x => if p x = true then f x else 0) := by
  induction l with
  | nil => rfl
  | cons a l ih =>
    by_cases h : p a = true
    · rw [List.filter_cons_of_pos h, List.map_cons, List.map_cons, totalL_cons, totalL_cons, ih, if_pos h]
    · rw [List.filter_cons_of_neg h, List.map_cons, totalL_cons, ih, if_neg h, Rat.zero_add]
/-! ### the level -/
def meanL (ps : List Rat) : Rat := totalL ps * mkRat 1 ps.length
def ew (ws : List Rat) (lot : List Nat) : Rat := meanL (lot.map fun x => ws.getD x 0) + mkRat ((lot.length : Int) - 1) lot.length
/-- the greatest of some -/
def maxR : List Rat → Rat
  | [] => 0
  | [a] => a
  | a :: r => if a ≤ maxR r then maxR r else a
theorem maxR_spec : ∀ {l : List Rat}, l ≠ [] → maxR l ∈ l ∧ ∀ y ∈ l, y ≤ maxR l
  | [], h => absurd rfl h
  | [a], _ => by simp [maxR]
  | a :: b :: r, _ => by
    obtain ⟨h1, h2⟩ := maxR_spec (l := b :: r) (by simp)
    show (if a ≤ maxR (b :: r) then maxR (b :: r) else a) ∈ a :: b :: r ∧ ∀ y ∈ a :: b :: r, y ≤ (if a ≤ maxR (b :: r) then maxR (b :: r) else a)
    by_cases q : a ≤ maxR (b :: r)
    · rw [if_pos q]
      refine ⟨List.mem_cons_of_mem _ h1, fun y hy => ?_⟩
      rcases List.mem_cons.mp hy with z | z
      · rw [z]; exact q
      · exact h2 y z
    · rw [if_neg q]
      refine ⟨List.mem_cons_self, fun y hy => ?_⟩
      have q' : maxR (b :: r) ≤ a := by grind
      rcases List.mem_cons.mp hy with z | z
      · rw [z]; exact Rat.le_refl
      · exact Rat.le_trans (h2 y z) q'
def level (ws : List Rat) : Rat := maxR ((lotsL ws.length).map (ew ws))
theorem lotsL_pos {n : Nat} (h : 0 < n) : lotsL n ≠ [] := by
  cases n with
  | zero => omega
  | succ n =>
    intro e
    have h1 := filter_lot (fun _ => true) (n + 1)
    have h2 : (List.range (n + 1)).filter (fun _ => true) ≠ [] := by
      simp
      exact ⟨0, by omega⟩
    have h3 := mem_lotsL h1 h2
    rw [e] at h3
    cases h3
theorem level_spec {ws : List Rat} (h : 0 < ws.length) : (∃ l ∈ lotsL ws.length, ew ws l = level ws) ∧ ∀ l ∈ lotsL ws.length, ew ws l ≤ level ws := by
  obtain ⟨h1, h2⟩ := maxR_spec (l := (lotsL ws.length).map (ew ws)) (by simpa using lotsL_pos h)
  refine ⟨?_, fun l hl => h2 _ (List.mem_map.mpr ⟨l, hl, rfl⟩)⟩
  obtain ⟨l, hl, e⟩ := List.mem_map.mp h1
  exact ⟨l, hl, e⟩
theorem level_of {ws : List Rat} {l : List Nat} (hl : l ∈ lotsL ws.length) (h : ∀ k ∈ lotsL ws.length, ew ws k ≤ ew ws l) : ew ws l = level ws := by
  have hp : 0 < ws.length := by
    cases e : ws.length with
    | zero => rw [e] at hl; simp [lotsL, lotsA] at hl
    | succ n => omega
  obtain ⟨⟨m, hm, e⟩, h2⟩ := level_spec hp
  exact Rat.le_antisymm (h2 l hl) (e ▸ h m hm)
/-- the letter's worth and one, less the level -/
def over (ws : List Rat) (v : Rat) (x : Nat) : Rat := ws.getD x 0 + 1 - v
theorem natR_pos {n : Nat} (h : 0 < n) : (0 : Rat) < (n : Rat) := Rat.natCast_pos.mpr h
theorem over_sum (ws : List Rat) (v : Rat) {l : List Nat} (hl : l ≠ []) : totalL (l.map (over ws v)) = (ew ws l - v) * (l.length : Rat) + 1 := by
  have hlen : 0 < l.length := List.length_pos_iff.mpr hl
  have hp := natR_pos hlen
  have hne : (l.length : Rat) ≠ 0 := by grind
  have e1 : l.map (over ws v) = l.map fun x => ws.getD x 0 + (1 - v) := List.map_congr_left fun x _ => by unfold over; grind
  rw [e1, total_add_const]
  unfold ew meanL
  rw [List.length_map, Rat.mkRat_eq_div, Rat.mkRat_eq_div]
  have a1 : ((1 : Int) : Rat) / (l.length : Rat) * (l.length : Rat) = 1 := Rat.div_mul_cancel hne
  have a2 : (((l.length : Int) - 1 : Int) : Rat) / (l.length : Rat) * (l.length : Rat) = (((l.length : Int) - 1 : Int) : Rat) := Rat.div_mul_cancel hne
  have a3 : (((l.length : Int) - 1 : Int) : Rat) = (l.length : Rat) - 1 := by
    rw [Rat.intCast_sub]
    rfl
  rw [a3] at a2 ⊢
  grind
theorem over_le (ws : List Rat) {l : List Nat} (hl : l ∈ lotsL ws.length) : totalL (l.map (over ws (level ws))) ≤ 1 := by
  have hne := lotsL_ne _ l hl
  have hp : 0 < ws.length := by
    cases e : ws.length with
    | zero => rw [e] at hl; simp [lotsL, lotsA] at hl
    | succ n => omega
  rw [over_sum _ _ hne]
  have h1 := (level_spec hp).2 l hl
  have h2 : (0 : Rat) ≤ (l.length : Rat) := Rat.natCast_nonneg
  have h3 : (ew ws l - level ws) * (l.length : Rat) ≤ 0 * (l.length : Rat) := Rat.mul_le_mul_of_nonneg_right (by grind) h2
  grind
/-- the chances by which worths come to their level -/
def chance (ws : List Rat) (v : Rat) (x : Nat) : Rat := if over ws v x < 0 then 0 else over ws v x
def filled (ws : List Rat) : List Rat := (List.range ws.length).map (chance ws (level ws))
theorem chance_nonneg (ws : List Rat) (v : Rat) (x : Nat) : 0 ≤ chance ws v x := by
  unfold chance
  split <;> grind
theorem chance_ge (ws : List Rat) (v : Rat) (x : Nat) : over ws v x ≤ chance ws v x := by
  unfold chance
  split <;> grind
theorem filled_sum {ws : List Rat} (hp : 0 < ws.length) : totalL (filled ws) = 1 := by
  unfold filled
  obtain ⟨⟨b, hb, eb⟩, _⟩ := level_spec hp
  have hbne := lotsL_ne _ b hb
  have hsum : totalL (b.map (over ws (level ws))) = 1 := by
    rw [over_sum _ _ hbne, eb]
    grind
  have h1 : totalL (b.map (over ws (level ws))) ≤ totalL (b.map (chance ws (level ws))) := total_le _ _ _ fun x _ => chance_ge ws _ x
  have h2 := lot_total_le (chance ws (level ws)) (fun x => chance_nonneg ws _ x) ws.length b (lotsL_sub hb)
  -- the letters that get something are a lot
  have h3 : totalL ((List.range ws.length).map (chance ws (level ws))) = totalL (((List.range ws.length).filter fun x => decide (0 < over ws (level ws) x)).map (over ws (level ws))) := by
    rw [total_filter]
    congr 1
    refine List.map_congr_left fun x _ => ?_
    unfold chance
    by_cases q : 0 < over ws (level ws) x
    · rw [if_neg (by grind), if_pos (decide_eq_true q)]
    · rw [if_neg (show ¬ decide (0 < over ws (level ws) x) = true by simpa using q)]
      split
      · rfl
      · grind
  have h4 : totalL (((List.range ws.length).filter fun x => decide (0 < over ws (level ws) x)).map (over ws (level ws))) ≤ 1 := by
    by_cases q : (List.range ws.length).filter (fun x => decide (0 < over ws (level ws) x)) = []
    · rw [q]
      show (0 : Rat) ≤ 1
      decide
    · exact over_le ws (mem_lotsL (filter_lot _ _) q)
  grind
theorem filled_length (ws : List Rat) : (filled ws).length = ws.length := by simp [filled]
theorem filled_get {ws : List Rat} {x : Nat} (h : x < ws.length) : (filled ws).getD x 0 = chance ws (level ws) x := by
  simp [filled, h]
/-- nothing misses more than the level -/
theorem filled_le {ws : List Rat} {x : Nat} (h : x < ws.length) : 1 - (filled ws).getD x 0 + ws.getD x 0 ≤ level ws := by
  rw [filled_get h]
  have := chance_ge ws (level ws) x
  unfold over at this
  grind
/-- some letter misses just the level -/
theorem filled_eq {ws : List Rat} (hp : 0 < ws.length) : ∃ x, x < ws.length ∧ 1 - (filled ws).getD x 0 + ws.getD x 0 = level ws := by
  by_cases q : ∃ x, x < ws.length ∧ 0 < chance ws (level ws) x
  · obtain ⟨x, hx, h⟩ := q
    refine ⟨x, hx, ?_⟩
    rw [filled_get hx]
    unfold chance at h ⊢
    split at h
    · grind
    · rename_i z
      rw [if_neg z]
      unfold over
      grind
  · exfalso
    have h1 := filled_sum hp
    have h2 : totalL (filled ws) ≤ totalL ((List.range ws.length).map fun _ => (0 : Rat)) := total_le _ _ _ fun x hx => by
      have hx := List.mem_range.mp hx
      have : ¬ 0 < chance ws (level ws) x := fun z => q ⟨x, hx, z⟩
      grind
    have h3 : ∀ l : List Nat, totalL (l.map fun _ => (0 : Rat)) = 0 := fun l => by
      induction l with
      | nil => rfl
      | cons a l ih => rw [List.map_cons, totalL_cons, ih, Rat.add_zero]
    rw [h3] at h2
    grind
end Kt
end
section
set_option autoImplicit false
/-! Kt, the mathematics, second part: fractions whose bottoms are small, keys, lags, misses. -/
namespace Kt
/-! ### small fractions -/
/-- a multiple of 1 / 12 ^ m -/
def Dy (m : Nat) (q : Rat) : Prop := ∃ a : Int, q * (12 : Rat) ^ m = (a : Rat)
def Sm (q : Rat) : Prop := q.num.natAbs < 2 ^ 1000 ∧ q.den < 2 ^ 1000
theorem Dy.add {m : Nat} {p q : Rat} (hp : Dy m p) (hq : Dy m q) : Dy m (p + q) := by
  obtain ⟨a, ha⟩ := hp
  obtain ⟨b, hb⟩ := hq
  exact ⟨a + b, by rw [Rat.add_mul, ha, hb, Rat.intCast_add]⟩
theorem Dy.neg {m : Nat} {p : Rat} (hp : Dy m p) : Dy m (-p) := by
  obtain ⟨a, ha⟩ := hp
  exact ⟨-a, by rw [Rat.neg_mul, ha, Rat.intCast_neg]⟩
theorem Dy.sub {m : Nat} {p q : Rat} (hp : Dy m p) (hq : Dy m q) : Dy m (p - q) := by
  rw [Rat.sub_eq_add_neg]
  exact hp.add hq.neg
theorem Dy.up {m : Nat} {p : Rat} (hp : Dy m p) : Dy (m + 1) p := by
  obtain ⟨a, ha⟩ := hp
  refine ⟨a * 12, ?_⟩
  rw [Rat.pow_succ, ← Rat.mul_assoc, ha, Rat.intCast_mul]
  rfl
theorem Dy.le {m n : Nat} {p : Rat} (h : m ≤ n) (hp : Dy m p) : Dy n p := by
  induction h with
  | refl => exact hp
  | step _ ih => exact ih.up
theorem Dy.int (m : Nat) (a : Int) : Dy m (a : Rat) := by
  induction m with
  | zero => exact ⟨a, by grind⟩
  | succ m ih => exact ih.up
theorem Dy.total {m : Nat} : ∀ {ps : List Rat}, (∀ p ∈ ps, Dy m p) → Dy m (totalL ps)
  | [], _ => Dy.int m 0
  | p :: ps, h => by
    rw [totalL_cons]
    exact (h p List.mem_cons_self).add (Dy.total fun q hq => h q (List.mem_cons_of_mem _ hq))
theorem Dy.part {m k : Nat} {p : Rat} (hp : Dy m p) (h1 : 1 ≤ k) (h4 : k ≤ 4) : Dy (m + 1) (p * mkRat 1 k) := by
  obtain ⟨a, ha⟩ := hp
  have hk : k = 1 ∨ k = 2 ∨ k = 3 ∨ k = 4 := by omega
  have key : ∀ c : Int, mkRat 1 k * 12 = (c : Rat) → Dy (m + 1) (p * mkRat 1 k) := fun c hc => by
    refine ⟨a * c, ?_⟩
    rw [Rat.pow_succ, Rat.intCast_mul, ← ha, ← hc]
    grind
  rcases hk with rfl | rfl | rfl | rfl
  · exact key 12 (by decide +kernel)
  · exact key 6 (by decide +kernel)
  · exact key 4 (by decide +kernel)
  · exact key 3 (by decide +kernel)
theorem dy_lessOne {k : Nat} (h1 : 1 ≤ k) (h4 : k ≤ 4) (m : Nat) : Dy (m + 1) (mkRat ((k : Int) - 1) k) := by
  have hk : k = 1 ∨ k = 2 ∨ k = 3 ∨ k = 4 := by omega
  refine Dy.le (m := 1) (by omega) ?_
  rcases hk with rfl | rfl | rfl | rfl
  · exact ⟨0, by decide +kernel⟩
  · exact ⟨6, by decide +kernel⟩
  · exact ⟨8, by decide +kernel⟩
  · exact ⟨9, by decide +kernel⟩
theorem lessOne_range {k : Nat} (h1 : 1 ≤ k) (h4 : k ≤ 4) : 0 ≤ mkRat ((k : Int) - 1) k ∧ mkRat ((k : Int) - 1) k ≤ 1 := by
  have hk : k = 1 ∨ k = 2 ∨ k = 3 ∨ k = 4 := by omega
  rcases hk with rfl | rfl | rfl | rfl <;> decide +kernel
theorem pow12_pos (m : Nat) : (0 : Rat) < (12 : Rat) ^ m := Rat.pow_pos (by decide +kernel)
theorem pow12_cast (m : Nat) : (12 : Rat) ^ m = ((12 ^ m : Nat) : Rat) := by
  induction m with
  | zero => rfl
  | succ m ih =>
    rw [Rat.pow_succ, ih, Nat.pow_succ, Rat.natCast_mul]
    rfl
theorem Dy.den {m : Nat} {q : Rat} (h : Dy m q) : q.den ≤ 12 ^ m := by
  obtain ⟨a, ha⟩ := h
  have hp := pow12_pos m
  have hne : (12 : Rat) ^ m ≠ 0 := by grind
  have e : q = mkRat a (12 ^ m) := by
    rw [Rat.mkRat_eq_div, ← pow12_cast, ← ha, Rat.mul_div_cancel hne]
  have hz : (12 ^ m : Nat) ≠ 0 := by
    have : 0 < 12 ^ m := Nat.pow_pos (by decide +kernel)
    omega
  rw [e, Rat.den_mkRat, if_neg hz]
  exact Nat.div_le_self _ _
theorem num_le {q : Rat} {B : Nat} (h1 : -(B : Rat) ≤ q) (h2 : q ≤ (B : Rat)) : q.num.natAbs ≤ B * q.den := by
  have a := (Rat.le_iff _ _).mp h2
  have b := (Rat.le_iff _ _).mp h1
  rw [Rat.num_natCast, Rat.den_natCast] at a
  rw [Rat.neg_num, Rat.neg_den, Rat.num_natCast, Rat.den_natCast] at b
  have c : ((B * q.den : Nat) : Int) = (B : Int) * (q.den : Int) := by push_cast; rfl
  have e : -(B : Int) * (q.den : Int) = -((B : Int) * (q.den : Int)) := by rw [Int.neg_mul]
  omega
/-- within bounds -/
def Bd (B : Nat) (q : Rat) : Prop := -(B : Rat) ≤ q ∧ q ≤ (B : Rat)
theorem Dy.sm {m B : Nat} {q : Rat} (h : Dy m q) (hb : Bd B q) (hm : m ≤ 20) (hB : B ≤ 100000) : Sm q := by
  have h1 := h.den
  have h2 := num_le hb.1 hb.2
  have h3 : 12 ^ m ≤ 12 ^ 20 := Nat.pow_le_pow_right (by decide) hm
  have h4 : B * q.den ≤ 100000 * 12 ^ 20 := Nat.mul_le_mul hB (Nat.le_trans h1 h3)
  refine ⟨?_, ?_⟩
  · exact Nat.lt_of_le_of_lt (Nat.le_trans h2 h4) (by decide +kernel)
  · exact Nat.lt_of_le_of_lt (Nat.le_trans h1 h3) (by decide +kernel)
theorem Bd.add {a b : Nat} {p q : Rat} (hp : Bd a p) (hq : Bd b q) : Bd (a + b) (p + q) := by
  obtain ⟨h1, h2⟩ := hp
  obtain ⟨h3, h4⟩ := hq
  have e : ((a + b : Nat) : Rat) = (a : Rat) + (b : Rat) := Rat.natCast_add a b
  unfold Bd
  rw [e]
  constructor <;> grind
theorem Bd.sub {a b : Nat} {p q : Rat} (hp : Bd a p) (hq : Bd b q) : Bd (a + b) (p - q) := by
  obtain ⟨h1, h2⟩ := hp
  obtain ⟨h3, h4⟩ := hq
  have e : ((a + b : Nat) : Rat) = (a : Rat) + (b : Rat) := Rat.natCast_add a b
  unfold Bd
  rw [e]
  constructor <;> grind
theorem Bd.le {a b : Nat} {p : Rat} (h : a ≤ b) (hp : Bd a p) : Bd b p := by
  obtain ⟨h1, h2⟩ := hp
  have e : (a : Rat) ≤ (b : Rat) := Rat.natCast_le_natCast.mpr h
  constructor <;> grind
theorem Bd.int {a : Nat} {i : Int} (h : i.natAbs ≤ a) : Bd a (i : Rat) := by
  have e : ((a : Int) : Rat) = (a : Rat) := rfl
  unfold Bd
  rw [← e, ← Rat.intCast_neg]
  exact ⟨Rat.intCast_le_intCast.mpr (by omega), Rat.intCast_le_intCast.mpr (by omega)⟩
theorem Bd.total {b : Nat} : ∀ {ps : List Rat}, (∀ p ∈ ps, Bd b p) → Bd (ps.length * b) (totalL ps)
  | [], _ => by
    rw [totalL_nil]
    exact Bd.int (i := 0) (by simp)
  | p :: ps, h => by
    rw [totalL_cons, List.length_cons, Nat.add_mul, Nat.one_mul, Nat.add_comm]
    exact (h p List.mem_cons_self).add (Bd.total fun q hq => h q (List.mem_cons_of_mem _ hq))
theorem mean_bd {b : Nat} {ps : List Rat} (hne : ps ≠ []) (h : ∀ p ∈ ps, Bd b p) : Bd b (meanL ps) := by
  have hlen : 0 < ps.length := List.length_pos_iff.mpr hne
  have hp := natR_pos hlen
  have hz : (ps.length : Rat) ≠ 0 := by grind
  obtain ⟨h1, h2⟩ := Bd.total h
  have e : ((ps.length * b : Nat) : Rat) = (b : Rat) * (ps.length : Rat) := by rw [Rat.natCast_mul, Rat.mul_comm]
  rw [e] at h1 h2
  have em : meanL ps * (ps.length : Rat) = totalL ps := by
    unfold meanL
    rw [Rat.mkRat_eq_div]
    have a1 : ((1 : Int) : Rat) / (ps.length : Rat) * (ps.length : Rat) = 1 := Rat.div_mul_cancel hz
    grind
  constructor
  · refine Rat.le_of_mul_le_mul_right (c := (ps.length : Rat)) ?_ hp
    rw [em]
    grind
  · refine Rat.le_of_mul_le_mul_right (c := (ps.length : Rat)) ?_ hp
    rw [em]
    exact h2
/-- worths that can be handled -/
structure Wok (m B : Nat) (ws : List Rat) : Prop where
  n2 : 2 ≤ ws.length
  n4 : ws.length ≤ 4
  dy : ∀ w ∈ ws, Dy m w
  bd : ∀ w ∈ ws, Bd B w
theorem getD_mem {ws : List Rat} {x : Nat} (h : x < ws.length) : ws.getD x 0 ∈ ws := by
  rw [List.getD_eq_getElem?_getD, List.getElem?_eq_getElem h]
  exact List.getElem_mem h
section
variable {m B : Nat} {ws : List Rat}
theorem Wok.lot (h : Wok m B ws) {l : List Nat} (hl : l ∈ lotsL ws.length) : 1 ≤ l.length ∧ l.length ≤ 4 ∧ (∀ x ∈ l, x < ws.length) := by
  obtain ⟨a, b⟩ := lots_lt _ l (lotsL_sub hl)
  have := h.n4
  exact ⟨List.length_pos_iff.mpr (lotsL_ne _ l hl), by omega, a⟩
theorem Wok.parts (h : Wok m B ws) {l : List Nat} (hl : l ∈ lotsL ws.length) : ∀ p ∈ l.map (fun x => ws.getD x 0), Dy m p ∧ Bd B p := fun p hp => by
  obtain ⟨x, hx, rfl⟩ := List.mem_map.mp hp
  have := (h.lot hl).2.2 x hx
  exact ⟨h.dy _ (getD_mem this), h.bd _ (getD_mem this)⟩
theorem Wok.ew (h : Wok m B ws) {l : List Nat} (hl : l ∈ lotsL ws.length) : Dy (m + 1) (ew ws l) ∧ Bd (B + 1) (Kt.ew ws l) := by
  obtain ⟨h1, h4, _⟩ := h.lot hl
  have hp := h.parts hl
  have hne : l.map (fun x => ws.getD x 0) ≠ [] := by
    intro z
    have := congrArg List.length z
    simp at this
    subst this
    simp at h1
  refine ⟨?_, ?_⟩
  · refine Dy.add ?_ (dy_lessOne h1 h4 m)
    unfold meanL
    rw [List.length_map]
    exact (Dy.total fun p q => (hp p q).1).part h1 h4
  · refine (mean_bd hne fun p q => (hp p q).2).add ?_
    obtain ⟨a, b⟩ := lessOne_range h1 h4
    constructor
    · refine Rat.le_trans ?_ a
      decide
    · exact b
theorem Wok.pos (h : Wok m B ws) : 0 < ws.length := Nat.lt_of_lt_of_le (by decide) h.n2
theorem Wok.level (h : Wok m B ws) : Dy (m + 1) (level ws) ∧ Bd (B + 1) (Kt.level ws) := by
  obtain ⟨⟨l, hl, e⟩, _⟩ := level_spec h.pos
  rw [← e]
  exact h.ew hl
end
/-! ### advisers -/
abbrev Adv : Type := List (Int × List Int)
abbrev Key : Type := List (Int × Int)
def rule (a : Adv) (s : Int) : Int × List Int := a.getD s.toNat (0, [])
def step1 (x : Nat) (a : Adv) (sg : Int × Int) : Int × Int := ((rule a sg.1).2.getD x 0, if (rule a sg.1).1 = (x : Int) then sg.2 else sg.2 + 1)
def minI : List Int → Int
  | [] => 0
  | [a] => a
  | a :: r => min a (minI r)
theorem minI_spec : ∀ {l : List Int}, l ≠ [] → minI l ∈ l ∧ ∀ y ∈ l, minI l ≤ y
  | [], h => absurd rfl h
  | [a], _ => by simp [minI]
  | a :: b :: r, _ => by
    obtain ⟨h1, h2⟩ := minI_spec (l := b :: r) (by simp)
    have e : minI (a :: b :: r) = min a (minI (b :: r)) := rfl
    rw [e]
    refine ⟨?_, fun y hy => ?_⟩
    · by_cases q : a ≤ minI (b :: r)
      · rw [Int.min_eq_left q]
        exact List.mem_cons_self
      · rw [Int.min_eq_right (by omega)]
        exact List.mem_cons_of_mem _ h1
    · rcases List.mem_cons.mp hy with z | z
      · omega
      · have := h2 y z
        omega
theorem minI_of {l : List Int} {m : Int} (h1 : m ∈ l) (h2 : ∀ y ∈ l, m ≤ y) : m = minI l := by
  have hl : l ≠ [] := fun z => by rw [z] at h1; cases h1
  obtain ⟨a, b⟩ := minI_spec hl
  have := b m h1
  have := h2 _ a
  omega
theorem minI_add (c : Int) {l : List Int} (h : l ≠ []) : minI (l.map (· + c)) = minI l + c := by
  obtain ⟨a, b⟩ := minI_spec h
  refine (minI_of (List.mem_map.mpr ⟨_, a, rfl⟩) fun y hy => ?_).symm
  obtain ⟨z, hz, rfl⟩ := List.mem_map.mp hy
  have := b z hz
  omega
def found (cs : List Adv) (k : Key) (x : Nat) : Key := List.zipWith (step1 x) cs k
def rise (cs : List Adv) (k : Key) (x : Nat) : Int := minI ((found cs k x).map (·.2))
def next (cs : List Adv) (k : Key) (x : Nat) : Key := (found cs k x).map fun sg => (sg.1, sg.2 - rise cs k x)
def start0 (cs : List Adv) : Key := cs.map fun _ => (0, 0)
def after (cs : List Adv) (k : Key) (r : List Nat) : Key := r.foldl (next cs) k
def rsum (cs : List Adv) : Key → List Nat → Int
  | _, [] => 0
  | k, x :: r => rise cs k x + rsum cs (next cs k x) r
/-- how many letters an adviser misses from a state on -/
def missA (a : Adv) : Int → List Nat → Int
  | _, [] => 0
  | s, x :: r => (if (rule a s).1 = (x : Int) then 0 else 1) + missA a ((rule a s).2.getD x 0) r
def best (cs : List Adv) (r : List Nat) : Int := minI (cs.map fun a => missA a 0 r)
theorem found_length {cs : List Adv} {k : Key} {x : Nat} (h : k.length = cs.length) : (found cs k x).length = cs.length := by
  simp [found, h]
theorem next_length {cs : List Adv} {k : Key} {x : Nat} (h : k.length = cs.length) : (next cs k x).length = cs.length := by
  simp [next, found_length h]
theorem after_length {cs : List Adv} {r : List Nat} : ∀ {k : Key}, k.length = cs.length → (after cs k r).length = cs.length := by
  induction r with
  | nil => exact fun h => h
  | cons x r ih => exact fun h => ih (next_length h)
theorem start0_length (cs : List Adv) : (start0 cs).length = cs.length := by simp [start0]
theorem after_snoc (cs : List Adv) (k : Key) (r : List Nat) (x : Nat) : after cs k (r ++ [x]) = next cs (after cs k r) x := by
  unfold after
  rw [List.foldl_append]
  rfl
theorem zip_shift (f h : Adv → Int × Int → Int) (g : Adv → Int × Int → Int × Int) (c : Int) (e : ∀ a sg, h a (g a sg) + c = f a sg) : ∀ (cs : List Adv) (k : Key), (List.zipWith h cs (List.zipWith g cs k)).map (· + c) = List.zipWith f cs k
  | [], _ => by simp
  | _ :: _, [] => by simp
  | a :: cs, sg :: k => by
    simp only [List.zipWith_cons_cons, List.map_cons]
    rw [e, zip_shift f h g c e cs k]
theorem next_zip (cs : List Adv) (k : Key) (x : Nat) : next cs k x = List.zipWith (fun a sg => ((step1 x a sg).1, (step1 x a sg).2 - rise cs k x)) cs k := by
  unfold next
  generalize rise cs k x = c
  unfold found
  rw [List.map_zipWith]
theorem gaps_eq (cs : List Adv) (r : List Nat) : ∀ {k : Key}, k.length = cs.length → (after cs k r).map (fun sg => sg.2 + rsum cs k r) = List.zipWith (fun a sg => sg.2 + missA a sg.1 r) cs k := by
  induction r with
  | nil =>
    intro k h
    show k.map (fun sg => sg.2 + 0) = List.zipWith (fun a sg => sg.2 + 0) cs k
    have : ∀ (cs : List Adv) (k : Key), k.length = cs.length → k.map (fun sg => sg.2 + 0) = List.zipWith (fun (a : Adv) (sg : Int × Int) => sg.2 + 0) cs k := by
      intro cs
      induction cs with
      | nil => intro k h; cases k <;> simp_all
      | cons a cs ih =>
        intro k h
        cases k with
        | nil => simp at h
        | cons s k => simp only [List.map_cons, List.zipWith_cons_cons, ih k (by simpa using h)]
    exact this cs k h
  | cons x r ih =>
    intro k h
    have q := ih (next_length (x := x) h)
    have e1 : (after cs k (x :: r)).map (fun sg => sg.2 + rsum cs k (x :: r)) = ((after cs (next cs k x) r).map (fun sg => sg.2 + rsum cs (next cs k x) r)).map (· + rise cs k x) := by
      rw [List.map_map]
      refine List.map_congr_left fun sg _ => ?_
      show sg.2 + (rise cs k x + rsum cs (next cs k x) r) = sg.2 + rsum cs (next cs k x) r + rise cs k x
      omega
    rw [e1, q, next_zip]
    refine zip_shift _ _ _ _ (fun a sg => ?_) cs k
    show (step1 x a sg).2 - rise cs k x + missA a (step1 x a sg).1 r + rise cs k x = sg.2 + missA a sg.1 (x :: r)
    unfold step1
    show (if (rule a sg.1).1 = (x : Int) then sg.2 else sg.2 + 1) - rise cs k x + missA a ((rule a sg.1).2.getD x 0) r + rise cs k x = sg.2 + ((if (rule a sg.1).1 = (x : Int) then 0 else 1) + missA a ((rule a sg.1).2.getD x 0) r)
    split <;> omega
/-- the least gap is 0 behind each step -/
theorem next_min {cs : List Adv} {k : Key} {x : Nat} (h : k.length = cs.length) (hc : cs ≠ []) : minI ((next cs k x).map (·.2)) = 0 := by
  have hf : (found cs k x).map (·.2) ≠ [] := by
    intro z
    have := congrArg List.length z
    simp [found_length h] at this
    exact hc (by simpa using this)
  unfold next
  rw [List.map_map]
  have e : (found cs k x).map ((fun sg : Int × Int => sg.2) ∘ fun sg => (sg.1, sg.2 - rise cs k x)) = ((found cs k x).map (·.2)).map (· + -rise cs k x) := by
    rw [List.map_map]
    refine List.map_congr_left fun sg _ => ?_
    show sg.2 - rise cs k x = sg.2 + -rise cs k x
    omega
  rw [e, minI_add _ hf]
  unfold rise
  omega
theorem after_min {cs : List Adv} (hc : cs ≠ []) {r : List Nat} : ∀ {k : Key}, k.length = cs.length → minI (k.map (·.2)) = 0 → minI ((after cs k r).map (·.2)) = 0 := by
  induction r with
  | nil => exact fun _ h => h
  | cons x r ih => exact fun h _ => ih (next_length h) (next_min h hc)
theorem start0_min (cs : List Adv) : minI ((start0 cs).map (·.2)) = 0 := by
  induction cs with
  | nil => rfl
  | cons a cs ih =>
    cases cs with
    | nil => rfl
    | cons b cs =>
      show min 0 (minI ((start0 (b :: cs)).map (·.2))) = 0
      rw [ih]
      rfl
/-- what rises is what the best adviser misses -/
theorem rsum_best {cs : List Adv} (hc : cs ≠ []) (r : List Nat) : rsum cs (start0 cs) r = best cs r := by
  have h := gaps_eq cs r (start0_length cs)
  have hm := after_min (r := r) hc (start0_length cs) (start0_min cs)
  have hl := after_length (r := r) (start0_length cs)
  have e1 : (after cs (start0 cs) r).map (fun sg => sg.2 + rsum cs (start0 cs) r) = ((after cs (start0 cs) r).map (·.2)).map (· + rsum cs (start0 cs) r) := by
    rw [List.map_map]
    rfl
  have hne : (after cs (start0 cs) r).map (·.2) ≠ [] := by
    intro z
    have := congrArg List.length z
    simp [hl] at this
    exact hc (by simpa using this)
  have e2 : List.zipWith (fun a sg => sg.2 + missA a sg.1 r) cs (start0 cs) = cs.map fun a => missA a 0 r := by
    unfold start0
    clear h hm hl e1 hne hc
    induction cs with
    | nil => rfl
    | cons a cs ih =>
      rw [List.map_cons, List.zipWith_cons_cons, List.map_cons, ih]
      show ((0 : Int) + missA a 0 r) :: _ = _
      rw [Int.zero_add]
  rw [e1, e2] at h
  have q := minI_add (rsum cs (start0 cs) r) hne
  rw [h, hm, Int.zero_add] at q
  exact q.symm
/-! ### the lags that are still to come -/
def lagV (size : Nat) (cs : List Adv) : Nat → Key → Rat
  | 0, _ => 0
  | m + 1, k => level ((List.range size).map fun x => lagV size cs m (next cs k x) - ((rise cs k x : Int) : Rat))
def worthsV (size : Nat) (cs : List Adv) (m : Nat) (k : Key) : List Rat := (List.range size).map fun x => lagV size cs m (next cs k x) - ((rise cs k x : Int) : Rat)
theorem lagV_succ (size : Nat) (cs : List Adv) (m : Nat) (k : Key) : lagV size cs (m + 1) k = level (worthsV size cs m k) := rfl
theorem worthsV_length (size : Nat) (cs : List Adv) (m : Nat) (k : Key) : (worthsV size cs m k).length = size := by simp [worthsV]
theorem worthsV_get {size : Nat} {cs : List Adv} {m : Nat} {k : Key} {x : Nat} (h : x < size) : (worthsV size cs m k).getD x 0 = lagV size cs m (next cs k x) - ((rise cs k x : Int) : Rat) := by
  simp [worthsV, h]
/-- a row's misses by the chances, less what rises, from a key on -/
def cost (size : Nat) (cs : List Adv) : Key → List Nat → Rat
  | _, [] => 0
  | k, x :: r => 1 - (filled (worthsV size cs r.length k)).getD x 0 - ((rise cs k x : Int) : Rat) + cost size cs (next cs k x) r
theorem cost_le {size : Nat} (cs : List Adv) : ∀ (r : List Nat) (k : Key), (∀ x ∈ r, x < size) → cost size cs k r ≤ lagV size cs r.length k
  | [], _, _ => Rat.le_refl
  | x :: r, k, h => by
    have h1 := cost_le cs r (next cs k x) fun y hy => h y (List.mem_cons_of_mem _ hy)
    have hx := h x List.mem_cons_self
    have h2 := filled_le (ws := worthsV size cs r.length k) (x := x) (by rw [worthsV_length]; exact hx)
    rw [worthsV_get hx] at h2
    show 1 - (filled (worthsV size cs r.length k)).getD x 0 - ((rise cs k x : Int) : Rat) + cost size cs (next cs k x) r ≤ level (worthsV size cs r.length k)
    grind
theorem cost_eq {size : Nat} (hs : 0 < size) (cs : List Adv) : ∀ (m : Nat) (k : Key), ∃ r : List Nat, r.length = m ∧ (∀ x ∈ r, x < size) ∧ cost size cs k r = lagV size cs m k
  | 0, k => ⟨[], rfl, by simp, rfl⟩
  | m + 1, k => by
    obtain ⟨x, hx, e⟩ := filled_eq (ws := worthsV size cs m k) (by rw [worthsV_length]; exact hs)
    rw [worthsV_length] at hx
    obtain ⟨r, hr, hl, ec⟩ := cost_eq hs cs m (next cs k x)
    refine ⟨x :: r, by rw [List.length_cons, hr], fun y hy => ?_, ?_⟩
    · rcases List.mem_cons.mp hy with z | z
      · omega
      · exact hl y z
    · rw [worthsV_get hx] at e
      show 1 - (filled (worthsV size cs r.length k)).getD x 0 - ((rise cs k x : Int) : Rat) + cost size cs (next cs k x) r = level (worthsV size cs m k)
      rw [hr, ec]
      grind
/-- the chances told behind a row, of rows of n letters -/
def told (size : Nat) (cs : List Adv) (n : Nat) (p : List Nat) : List Rat := filled (worthsV size cs (n - p.length - 1) (after cs (start0 cs) p))
/-- what is missed by the chances told, up to a place -/
def missT (size : Nat) (cs : List Adv) (n : Nat) (r : List Nat) (i : Nat) : Rat := totalL ((List.range i).map fun j => 1 - (told size cs n (r.take j)).getD (r.getD j 0) 0)
theorem missT_succ (size : Nat) (cs : List Adv) (n : Nat) (r : List Nat) (i : Nat) : missT size cs n r (i + 1) = missT size cs n r i + (1 - (told size cs n (r.take i)).getD (r.getD i 0) 0) := by
  unfold missT
  rw [List.range_succ, List.map_append, totalL_app]
  show _ + totalL [_] = _
  rw [totalL_cons, totalL_nil, Rat.add_zero]
theorem total_shift (f : Nat → Rat) (n : Nat) : totalL ((List.range (n + 1)).map f) = f 0 + totalL ((List.range n).map fun j => f (j + 1)) := by
  rw [List.range_succ_eq_map, List.map_cons, totalL_cons, List.map_map]
  rfl
theorem cost_sum (size : Nat) (cs : List Adv) : ∀ (r : List Nat) (k : Key), cost size cs k r = totalL ((List.range r.length).map fun j => 1 - (filled (worthsV size cs (r.length - j - 1) (after cs k (r.take j)))).getD (r.getD j 0) 0) - ((rsum cs k r : Int) : Rat)
  | [], k => by
    show (0 : Rat) = totalL [] - ((0 : Int) : Rat)
    rw [totalL_nil]
    decide +kernel
  | x :: r, k => by
    have ih := cost_sum size cs r (next cs k x)
    rw [List.length_cons, total_shift]
    show 1 - (filled (worthsV size cs r.length k)).getD x 0 - ((rise cs k x : Int) : Rat) + cost size cs (next cs k x) r = _ - ((rise cs k x + rsum cs (next cs k x) r : Int) : Rat)
    rw [ih, Rat.intCast_add]
    have e : ((List.range r.length).map fun j => 1 - (filled (worthsV size cs (r.length + 1 - (j + 1) - 1) (after cs k ((x :: r).take (j + 1))))).getD ((x :: r).getD (j + 1) 0) 0) =
        (List.range r.length).map fun j => 1 - (filled (worthsV size cs (r.length - j - 1) (after cs (next cs k x) (r.take j)))).getD (r.getD j 0) 0 := by
      refine List.map_congr_left fun j _ => ?_
      rw [show r.length + 1 - (j + 1) - 1 = r.length - j - 1 from by omega]
      rfl
    rw [e]
    show _ = 1 - (filled (worthsV size cs (r.length + 1 - 0 - 1) (after cs k []))).getD x 0 + _ - _
    rw [show r.length + 1 - 0 - 1 = r.length from by omega]
    show _ = 1 - (filled (worthsV size cs r.length k)).getD x 0 + _ - _
    grind
/-- behind: the misses less the best adviser's -/
theorem cost_behind {size : Nat} {cs : List Adv} (hc : cs ≠ []) (r : List Nat) : missT size cs r.length r r.length - ((best cs r : Int) : Rat) = cost size cs (start0 cs) r := by
  rw [cost_sum, rsum_best hc]
  unfold missT told
  congr 2
  refine List.map_congr_left fun j hj => ?_
  have hj := List.mem_range.mp hj
  rw [List.length_take, Nat.min_eq_left (by omega)]
/-! ### how small the lags are -/
theorem mem_of_getElem {α : Type} {l : List α} {i : Nat} {a : α} (h : l[i]? = some a) : a ∈ l := List.mem_of_getElem? h
/-- rises are 0 or 1 at keys whose least gap is 0 -/
theorem rise_range {cs : List Adv} {k : Key} {x : Nat} (h : k.length = cs.length) (hc : cs ≠ []) (hm : minI (k.map (·.2)) = 0) : 0 ≤ rise cs k x ∧ rise cs k x ≤ 1 := by
  have hf : (found cs k x).map (·.2) ≠ [] := by
    intro z
    have := congrArg List.length z
    simp [found_length h] at this
    exact hc (by simpa using this)
  have hk : k.map (·.2) ≠ [] := by
    intro z
    have := congrArg List.length z
    simp [h] at this
    exact hc (by simpa using this)
  obtain ⟨a, b⟩ := minI_spec hf
  obtain ⟨c, d⟩ := minI_spec hk
  have e : ∀ i, ((found cs k x).map (·.2))[i]? = (match cs[i]?, k[i]? with | some a, some sg => some (step1 x a sg).2 | _, _ => none) := fun i => by
    unfold found
    rw [List.getElem?_map, List.getElem?_zipWith]
    cases cs[i]? <;> cases k[i]? <;> rfl
  constructor
  · obtain ⟨i, hi⟩ := List.getElem?_of_mem a
    rw [e] at hi
    cases q1 : cs[i]? with
    | none => rw [q1] at hi; cases hi
    | some ad =>
      cases q2 : k[i]? with
      | none => rw [q1, q2] at hi; cases hi
      | some sg =>
        rw [q1, q2] at hi
        have hi : some (step1 x ad sg).2 = some (minI ((found cs k x).map (·.2))) := hi
        have h3 := d sg.2 (List.mem_map.mpr ⟨sg, List.mem_of_getElem? q2, rfl⟩)
        have h4 : (step1 x ad sg).2 = rise cs k x := Option.some.inj hi
        rw [← h4]
        show 0 ≤ (if (rule ad sg.1).1 = (x : Int) then sg.2 else sg.2 + 1)
        split <;> omega
  · obtain ⟨i, hi⟩ := List.getElem?_of_mem c
    rw [List.getElem?_map] at hi
    cases q2 : k[i]? with
    | none => rw [q2] at hi; cases hi
    | some sg =>
      rw [q2] at hi
      have h5 : sg.2 = minI (k.map (·.2)) := Option.some.inj hi
      have hlt : i < cs.length := by
        rw [← h]
        exact (List.getElem?_eq_some_iff.mp q2).1
      have q1 : cs[i]? = some cs[i] := List.getElem?_eq_getElem hlt
      have h6 := e i
      rw [q1, q2] at h6
      have h6 : ((found cs k x).map (·.2))[i]? = some (step1 x cs[i] sg).2 := h6
      have h7 := b _ (List.mem_of_getElem? h6)
      have h8 : (step1 x cs[i] sg).2 = (if (rule cs[i] sg.1).1 = (x : Int) then sg.2 else sg.2 + 1) := rfl
      unfold rise
      rw [h8] at h7
      split at h7 <;> omega
/-- a key of a circle -/
structure KeyOk (cs : List Adv) (k : Key) : Prop where
  len : k.length = cs.length
  min0 : minI (k.map (·.2)) = 0
theorem KeyOk.next {cs : List Adv} {k : Key} (hc : cs ≠ []) (h : KeyOk cs k) (x : Nat) : KeyOk cs (next cs k x) := ⟨next_length h.len, next_min h.len hc⟩
theorem KeyOk.start {cs : List Adv} : KeyOk cs (start0 cs) := ⟨start0_length cs, start0_min cs⟩
theorem KeyOk.after {cs : List Adv} (hc : cs ≠ []) {r : List Nat} : ∀ {k : Key}, KeyOk cs k → KeyOk cs (after cs k r) := by
  induction r with
  | nil => exact fun h => h
  | cons x r ih => exact fun h => ih (h.next hc x)
theorem lag_small {size : Nat} {cs : List Adv} (h2 : 2 ≤ size) (h4 : size ≤ 4) (hc : cs ≠ []) : ∀ (m : Nat) {k : Key}, KeyOk cs k → Dy m (lagV size cs m k) ∧ Bd (2 * m) (lagV size cs m k)
  | 0, k, _ => ⟨Dy.int 0 0, Bd.int (i := 0) (by simp)⟩
  | m + 1, k, hk => by
    have W : Wok m (2 * m + 1) (worthsV size cs m k) := by
      refine ⟨by rw [worthsV_length]; exact h2, by rw [worthsV_length]; exact h4, fun w hw => ?_, fun w hw => ?_⟩
      · obtain ⟨x, _, rfl⟩ := List.mem_map.mp hw
        exact (lag_small h2 h4 hc m (hk.next hc x)).1.sub (Dy.int m _)
      · obtain ⟨x, _, rfl⟩ := List.mem_map.mp hw
        obtain ⟨a, b⟩ := rise_range (x := x) hk.len hc hk.min0
        exact (lag_small h2 h4 hc m (hk.next hc x)).2.sub (Bd.int (a := 1) (by omega))
    obtain ⟨a, b⟩ := W.level
    exact ⟨a, b⟩
theorem worths_ok {size : Nat} {cs : List Adv} (h2 : 2 ≤ size) (h4 : size ≤ 4) (hc : cs ≠ []) (m : Nat) {k : Key} (hk : KeyOk cs k) : Wok m (2 * m + 1) (worthsV size cs m k) := by
  refine ⟨by rw [worthsV_length]; exact h2, by rw [worthsV_length]; exact h4, fun w hw => ?_, fun w hw => ?_⟩
  · obtain ⟨x, _, rfl⟩ := List.mem_map.mp hw
    exact (lag_small h2 h4 hc m (hk.next hc x)).1.sub (Dy.int m _)
  · obtain ⟨x, _, rfl⟩ := List.mem_map.mp hw
    obtain ⟨a, b⟩ := rise_range (x := x) hk.len hc hk.min0
    exact (lag_small h2 h4 hc m (hk.next hc x)).2.sub (Bd.int (a := 1) (by omega))
end Kt
end
section
set_option autoImplicit false
/-! Kt, the mathematics, third part: rows, keys that come up, how many they are. -/
namespace Kt
/-! ### rows -/
def rowsL (size : Nat) : Nat → List (List Nat)
  | 0 => [[]]
  | n + 1 => (rowsL size n).flatMap fun r => (List.range size).map fun x => r ++ [x]
theorem mem_rowsL {size : Nat} : ∀ {n : Nat} {r : List Nat}, r ∈ rowsL size n ↔ r.length = n ∧ ∀ x ∈ r, x < size
  | 0, r => by
    constructor
    · intro h
      have : r = [] := by simpa [rowsL] using h
      subst this
      simp
    · rintro ⟨h, _⟩
      have : r = [] := List.length_eq_zero_iff.mp h
      simp [rowsL, this]
  | n + 1, r => by
    constructor
    · intro h
      obtain ⟨p, hp, h2⟩ := List.mem_flatMap.mp h
      obtain ⟨x, hx, rfl⟩ := List.mem_map.mp h2
      obtain ⟨a, b⟩ := mem_rowsL.mp hp
      refine ⟨by rw [List.length_append, a]; rfl, fun y hy => ?_⟩
      rcases List.mem_append.mp hy with z | z
      · exact b y z
      · have : y = x := by simpa using z
        rw [this]
        exact List.mem_range.mp hx
    · rintro ⟨h, hb⟩
      have hne : r ≠ [] := fun z => by rw [z] at h; cases h
      refine List.mem_flatMap.mpr ⟨r.dropLast, mem_rowsL.mpr ⟨by rw [List.length_dropLast, h]; rfl, fun x hx => hb x (List.dropLast_subset _ hx)⟩, ?_⟩
      exact List.mem_map.mpr ⟨r.getLast hne, List.mem_range.mpr (hb _ (List.getLast_mem hne)), List.dropLast_concat_getLast hne⟩
theorem flatMap_len {α β : Type} (f : α → List β) (c : Nat) (h : ∀ a, (f a).length = c) : ∀ l : List α, (l.flatMap f).length = l.length * c
  | [] => by simp
  | a :: l => by rw [List.flatMap_cons, List.length_append, h, flatMap_len f c h l, List.length_cons, Nat.add_mul, Nat.one_mul, Nat.add_comm]
theorem rowsL_length (size n : Nat) : (rowsL size n).length = size ^ n := by
  induction n with
  | zero => rfl
  | succ n ih =>
    show ((rowsL size n).flatMap _).length = _
    rw [flatMap_len _ size (fun a => by simp), ih, Nat.pow_succ]
theorem nodup_le {α : Type} [DecidableEq α] : ∀ {l m : List α}, l.Nodup → (∀ a ∈ l, a ∈ m) → l.length ≤ m.length
  | [], _, _, _ => Nat.zero_le _
  | a :: l, m, h, s => by
    have ha := s a List.mem_cons_self
    have hn := List.nodup_cons.mp h
    have q := nodup_le (m := m.erase a) hn.2 fun b hb => by
      refine (List.mem_erase_of_ne ?_).mpr (s b (List.mem_cons_of_mem _ hb))
      intro e
      rw [e] at hb
      exact hn.1 hb
    rw [List.length_erase_of_mem ha] at q
    have := List.length_pos_of_mem ha
    rw [List.length_cons]
    omega
/-! ### keys that come up -/
def Reach (size : Nat) (cs : List Adv) (j : Nat) (k : Key) : Prop := ∃ r : List Nat, r.length = j ∧ (∀ x ∈ r, x < size) ∧ after cs (start0 cs) r = k
theorem Reach.next {size : Nat} {cs : List Adv} {j : Nat} {k : Key} (h : Reach size cs j k) {x : Nat} (hx : x < size) : Reach size cs (j + 1) (next cs k x) := by
  obtain ⟨r, h1, h2, rfl⟩ := h
  refine ⟨r ++ [x], by rw [List.length_append, h1]; rfl, fun y hy => ?_, after_snoc _ _ _ _⟩
  rcases List.mem_append.mp hy with z | z
  · exact h2 y z
  · have : y = x := by simpa using z
    rw [this]
    exact hx
theorem Reach.zero {size : Nat} {cs : List Adv} : Reach size cs 0 (start0 cs) := ⟨[], rfl, by simp, rfl⟩
theorem Reach.ok {size : Nat} {cs : List Adv} (hc : cs ≠ []) {j : Nat} {k : Key} (h : Reach size cs j k) : KeyOk cs k := by
  obtain ⟨r, _, _, rfl⟩ := h
  exact KeyOk.after hc .start
/-- never more than so many keys -/
def Fits (size : Nat) (cs : List Adv) (n : Nat) : Prop := ∀ j, j ≤ n → ∀ l : List Key, l.Nodup → (∀ k ∈ l, Reach size cs j k) → l.length ≤ 3000
theorem fits_pow {size : Nat} (hs : 0 < size) (cs : List Adv) {n : Nat} (h : size ^ n ≤ 3000) : Fits size cs n := fun j hj l hn hl => by
  have q := nodup_le (m := (rowsL size j).map (after cs (start0 cs))) hn fun k hk => by
    obtain ⟨r, h1, h2, e⟩ := hl k hk
    exact List.mem_map.mpr ⟨r, mem_rowsL.mpr ⟨h1, h2⟩, e⟩
  rw [List.length_map, rowsL_length] at q
  exact Nat.le_trans q (Nat.le_trans (Nat.pow_le_pow_right hs hj) h)
/-- an adviser as the law draws it -/
structure AdvOk (size most : Nat) (a : Adv) : Prop where
  pos : 1 ≤ a.length
  most : a.length ≤ most
  letter : ∀ r ∈ a, 0 ≤ r.1 ∧ r.1 < (size : Int)
  len : ∀ r ∈ a, r.2.length = size
  st : ∀ r ∈ a, ∀ s ∈ r.2, 0 ≤ s ∧ s < (a.length : Int)
/-- states stand, gaps are bounded -/
def KeyV (G : Int) (cs : List Adv) (k : Key) : Prop := ∀ (i : Nat) (a : Adv) (sg : Int × Int), cs[i]? = some a → k[i]? = some sg → 0 ≤ sg.1 ∧ sg.1 < (a.length : Int) ∧ 0 ≤ sg.2 ∧ sg.2 ≤ G
theorem rule_mem {a : Adv} {s : Int} (h0 : 0 ≤ s) (h1 : s < (a.length : Int)) : rule a s ∈ a ∧ a[s.toNat]? = some (rule a s) := by
  have h : s.toNat < a.length := by omega
  unfold rule
  rw [List.getD_eq_getElem?_getD, List.getElem?_eq_getElem h]
  exact ⟨List.getElem_mem h, rfl⟩
theorem getD_mem' {l : List Int} {x : Nat} (h : x < l.length) : l.getD x 0 ∈ l := by
  rw [List.getD_eq_getElem?_getD, List.getElem?_eq_getElem h]
  exact List.getElem_mem h
theorem KeyV.start {size most : Nat} {cs : List Adv} (h : ∀ a ∈ cs, AdvOk size most a) : KeyV 0 cs (start0 cs) := fun i a sg ha hs => by
  unfold start0 at hs
  rw [List.getElem?_map, ha] at hs
  cases hs
  have := (h a (List.mem_of_getElem? ha)).pos
  exact ⟨Int.le_refl _, (by show (0 : Int) < (a.length : Int); omega), Int.le_refl _, Int.le_refl _⟩
theorem KeyV.next {size most : Nat} {cs : List Adv} {k : Key} {G : Int} (hc : cs ≠ []) (h : ∀ a ∈ cs, AdvOk size most a) (hk : KeyOk cs k) (hv : KeyV G cs k) {x : Nat} (hx : x < size) : KeyV (G + 1) cs (next cs k x) := fun i a sg ha hs => by
  obtain ⟨r0, r1⟩ := rise_range (x := x) hk.len hc hk.min0
  unfold Kt.next found at hs
  rw [List.getElem?_map, List.getElem?_zipWith, ha] at hs
  cases q : k[i]? with
  | none => rw [q] at hs; cases hs
  | some tg =>
    rw [q] at hs
    obtain ⟨v1, v2, v3, v4⟩ := hv i a tg ha q
    have A := h a (List.mem_of_getElem? ha)
    obtain ⟨m, _⟩ := rule_mem v1 v2
    have hs : some ((step1 x a tg).1, (step1 x a tg).2 - rise cs k x) = some sg := hs
    have e := Option.some.inj hs
    have hl := A.len _ m
    obtain ⟨s0, s1⟩ := A.st _ m _ (getD_mem' (x := x) (by omega))
    -- the least of all is at most this one
    have hle : rise cs k x ≤ (step1 x a tg).2 := by
      have hf : (found cs k x).map (·.2) ≠ [] := by
        intro z
        have := congrArg List.length z
        simp [found_length hk.len] at this
        exact hc (by simpa using this)
      refine (minI_spec hf).2 _ (List.mem_map.mpr ⟨step1 x a tg, ?_, rfl⟩)
      refine List.mem_of_getElem? (i := i) ?_
      unfold found
      rw [List.getElem?_zipWith, ha, q]
    have e2 : (step1 x a tg).2 = (if (rule a tg.1).1 = (x : Int) then tg.2 else tg.2 + 1) := rfl
    rw [← e]
    refine ⟨s0, s1, ?_, ?_⟩
    · show 0 ≤ (step1 x a tg).2 - rise cs k x
      omega
    · show (step1 x a tg).2 - rise cs k x ≤ G + 1
      rw [e2]
      split <;> omega
theorem Reach.v {size most : Nat} {cs : List Adv} (hc : cs ≠ []) (h : ∀ a ∈ cs, AdvOk size most a) : ∀ {j : Nat} {k : Key}, Reach size cs j k → KeyV (j : Int) cs k := fun {j k} ⟨r, h1, h2, e⟩ => by
  subst h1 e
  have key : ∀ (r : List Nat) (k : Key) (G : Int), (∀ x ∈ r, x < size) → KeyOk cs k → KeyV G cs k → KeyV (G + (r.length : Int)) cs (after cs k r) := by
    intro r
    induction r with
    | nil => intro k G _ _ hv; rw [show G + ((([] : List Nat).length : Nat) : Int) = G from by simp]; exact hv
    | cons x r ih =>
      intro k G hx hk hv
      have q := ih (Kt.next cs k x) (G + 1) (fun y hy => hx y (List.mem_cons_of_mem _ hy)) (hk.next hc x) (hv.next hc h hk (hx x List.mem_cons_self))
      rw [List.length_cons, show G + ((r.length + 1 : Nat) : Int) = G + 1 + (r.length : Int) from by omega]
      exact q
  have q := key r (start0 cs) 0 h2 .start (.start h)
  rw [Int.zero_add] at q
  exact q
/-! ### at most 2,904 keys -/
def pairsL : List (Int × Int) := (List.range 2).flatMap fun (s : Nat) => (List.range 11).map fun (g : Nat) => ((s : Int), (g : Int))
def zerosL : List (Int × Int) := [(0, 0), (1, 0)]
def cand : Nat → List Key
  | 1 => zerosL.map fun a => [a]
  | 2 => (zerosL.flatMap fun a => pairsL.map fun b => [a, b]) ++ (pairsL.flatMap fun a => zerosL.map fun b => [a, b])
  | 3 => (zerosL.flatMap fun a => pairsL.flatMap fun b => pairsL.map fun c => [a, b, c]) ++ (pairsL.flatMap fun a => zerosL.flatMap fun b => pairsL.map fun c => [a, b, c]) ++ (pairsL.flatMap fun a => pairsL.flatMap fun b => zerosL.map fun c => [a, b, c])
  | _ => []
theorem cand_le (c : Nat) : (cand c).length ≤ 3000 := by
  match c with
  | 0 => decide +kernel
  | 1 => decide +kernel
  | 2 => decide +kernel
  | 3 => decide +kernel
  | n + 4 => exact Nat.zero_le _
theorem mem_pairs {p : Int × Int} (h : 0 ≤ p.1 ∧ p.1 < 2 ∧ 0 ≤ p.2 ∧ p.2 ≤ 10) : p ∈ pairsL := by
  obtain ⟨s, g⟩ := p
  obtain ⟨h1, h2, h3, h4⟩ := h
  have h1 : 0 ≤ s := h1
  have h2 : s < 2 := h2
  have h3 : 0 ≤ g := h3
  have h4 : g ≤ 10 := h4
  refine List.mem_flatMap.mpr ⟨s.toNat, List.mem_range.mpr (by omega), List.mem_map.mpr ⟨g.toNat, List.mem_range.mpr (by omega), ?_⟩⟩
  rw [Int.toNat_of_nonneg h1, Int.toNat_of_nonneg h3]
theorem mem_zeros {p : Int × Int} (h : 0 ≤ p.1 ∧ p.1 < 2) (hz : p.2 = 0) : p ∈ zerosL := by
  obtain ⟨s, g⟩ := p
  have h1 : 0 ≤ s := h.1
  have h2 : s < 2 := h.2
  have h3 : g = 0 := hz
  have hs : s = 0 ∨ s = 1 := by omega
  subst h3
  rcases hs with rfl | rfl <;> simp [zerosL]
theorem fits_two {size : Nat} {cs : List Adv} (hc : cs ≠ []) (h : ∀ a ∈ cs, AdvOk size 2 a) (h3 : cs.length ≤ 3) {n : Nat} (hn : n ≤ 10) : Fits size cs n := fun j hj l nd hl => by
  refine Nat.le_trans (nodup_le (m := cand cs.length) nd fun k hk => ?_) (cand_le _)
  have R := hl k hk
  have V := R.v hc h
  have O := R.ok hc
  have hlen := O.len
  have b : ∀ i (sg : Int × Int), k[i]? = some sg → 0 ≤ sg.1 ∧ sg.1 < 2 ∧ 0 ≤ sg.2 ∧ sg.2 ≤ 10 := fun i sg hs => by
    have hlt : i < cs.length := by
      rw [← hlen]
      exact (List.getElem?_eq_some_iff.mp hs).1
    have ha : cs[i]? = some cs[i] := List.getElem?_eq_getElem hlt
    obtain ⟨v1, v2, v3, v4⟩ := V i cs[i] sg ha hs
    have := (h cs[i] (List.getElem_mem hlt)).most
    refine ⟨v1, by omega, v3, by omega⟩
  have hpos : 0 < cs.length := List.length_pos_iff.mpr hc
  have z : ∃ sg ∈ k, sg.2 = 0 := by
    have hk : k.map (·.2) ≠ [] := by
      intro z
      have := congrArg List.length z
      simp [hlen] at this
      exact hc (by simpa using this)
    obtain ⟨a, _⟩ := minI_spec hk
    rw [O.min0] at a
    obtain ⟨sg, hs, e⟩ := List.mem_map.mp a
    exact ⟨sg, hs, e⟩
  obtain ⟨zg, hz, ez⟩ := z
  match k, hlen, b, hz with
  | [], hlen, _, _ => exact absurd hlen (by simp; omega)
  | [p], hlen, b, hz =>
    have bp := b 0 p rfl
    have e : cs.length = 1 := hlen.symm
    have hp : zg = p := by
      rcases List.mem_cons.mp hz with r | r
      · exact r
      · cases r
    rw [e]
    exact List.mem_map.mpr ⟨p, mem_zeros ⟨bp.1, bp.2.1⟩ (by rw [← hp]; exact ez), rfl⟩
  | [p, q], hlen, b, hz =>
    have bp := b 0 p rfl
    have bq := b 1 q rfl
    have e : cs.length = 2 := hlen.symm
    rw [e]
    show [p, q] ∈ (zerosL.flatMap fun a => pairsL.map fun b => [a, b]) ++ (pairsL.flatMap fun a => zerosL.map fun b => [a, b])
    rcases List.mem_cons.mp hz with r | r
    · exact List.mem_append_left _ (List.mem_flatMap.mpr ⟨p, mem_zeros ⟨bp.1, bp.2.1⟩ (by rw [← r]; exact ez), List.mem_map.mpr ⟨q, mem_pairs bq, rfl⟩⟩)
    · have r : zg = q := by
        rcases List.mem_cons.mp r with r | r
        · exact r
        · cases r
      exact List.mem_append_right _ (List.mem_flatMap.mpr ⟨p, mem_pairs bp, List.mem_map.mpr ⟨q, mem_zeros ⟨bq.1, bq.2.1⟩ (by rw [← r]; exact ez), rfl⟩⟩)
  | [p, q, t], hlen, b, hz =>
    have bp := b 0 p rfl
    have bq := b 1 q rfl
    have bt := b 2 t rfl
    have e : cs.length = 3 := hlen.symm
    rw [e]
    show [p, q, t] ∈ (zerosL.flatMap fun a => pairsL.flatMap fun b => pairsL.map fun c => [a, b, c]) ++ (pairsL.flatMap fun a => zerosL.flatMap fun b => pairsL.map fun c => [a, b, c]) ++ (pairsL.flatMap fun a => pairsL.flatMap fun b => zerosL.map fun c => [a, b, c])
    rcases List.mem_cons.mp hz with r | r
    · exact List.mem_append_left _ (List.mem_append_left _ (List.mem_flatMap.mpr ⟨p, mem_zeros ⟨bp.1, bp.2.1⟩ (by rw [← r]; exact ez), List.mem_flatMap.mpr ⟨q, mem_pairs bq, List.mem_map.mpr ⟨t, mem_pairs bt, rfl⟩⟩⟩))
    · rcases List.mem_cons.mp r with r | r
      · exact List.mem_append_left _ (List.mem_append_right _ (List.mem_flatMap.mpr ⟨p, mem_pairs bp, List.mem_flatMap.mpr ⟨q, mem_zeros ⟨bq.1, bq.2.1⟩ (by rw [← r]; exact ez), List.mem_map.mpr ⟨t, mem_pairs bt, rfl⟩⟩⟩))
      · have r : zg = t := by
          rcases List.mem_cons.mp r with r | r
          · exact r
          · cases r
        exact List.mem_append_right _ (List.mem_flatMap.mpr ⟨p, mem_pairs bp, List.mem_flatMap.mpr ⟨q, mem_pairs bq, List.mem_map.mpr ⟨t, mem_zeros ⟨bt.1, bt.2.1⟩ (by rw [← r]; exact ez), rfl⟩⟩⟩)
  | _ :: _ :: _ :: _ :: _, hlen, _, _ => exact absurd hlen (by simp; omega)
end Kt
end
section
set_option maxHeartbeats 4000000
/-! Kt: a small walker over the hand layer: growth of the heap (Gr), frozen data (Dt), expressions that give data (EO), statements run forward (RS). -/
namespace Kt
open PySem PySem.Spec PyProof.Rows L2

/-- no code object -/
def LocO (o : HO) : Prop := ∀ c q, o ≠ LamX.CodeO c q
theorem loc_lst {xs : List V} : LocO (.lst xs) := fun c q z => by unfold LamX.CodeO at z; cases z
theorem loc_tup {xs : List V} : LocO (.tup xs) := fun c q z => by unfold LamX.CodeO at z; cases z
theorem loc_ins {C dx : Addr} {fs} : LocO (.ins C dx fs) := fun c q z => by unfold LamX.CodeO at z; cases z
theorem loc_dT {kvs} : LocO (.dT kvs) := fun c q z => by unfold LamX.CodeO at z; cases z
theorem loc_frz {od u} : LocO (.frz od u) := fun c q z => by unfold LamX.CodeO at z; cases z

/-- no table -/
def NT (o : HO) : Prop := ∀ ps, o ≠ .tbl ps
/-- what moves behind a call, and what holds of it -/
structure Mov where
  at_ : Addr → Prop
  ok : Hp → Prop
  here : ∀ H b, ok H → at_ b → (∀ xs, H b ≠ some (.tup xs)) ∧ (∀ o u, H b ≠ some (.frz o u)) ∧ H b ≠ none
  ext : ∀ H H', (∀ b o, H b = some o → H' b = some o) → (∀ b ps, H' b = some (.tbl ps) → ∃ qs, H b = some (.tbl qs)) → ok H → ok H'
  loc : ∀ H l o1 o2, ok H → H l = some o1 → LocO o1 → NT o2 → ¬ at_ l → ok (upd H l o2)

structure Gr (M : Mov) (H H' : Hp) : Prop where
  l : M.ok H
  r : M.ok H'
  keep : ∀ b o, H b = some o → ¬ M.at_ b → H' b = some o
  tb : ∀ b ps, H' b = some (.tbl ps) → ∃ qs, H b = some (.tbl qs)

section
variable {M : Mov} {K : PySem.W.Frag} {H H1 H2 H' : Hp} {a p l : Addr} {xs : List V} {o o1 o2 : HO}
theorem Gr.refl (h : M.ok H) : Gr M H H := ⟨h, h, fun _ _ e _ => e, fun _ ps e => ⟨ps, e⟩⟩
theorem Gr.trans (a : Gr M H H1) (b : Gr M H1 H2) : Gr M H H2 := ⟨a.l, b.r, fun c o e n => b.keep c o (a.keep c o e n) n, fun c ps e => let ⟨qs, e1⟩ := b.tb c ps e; a.tb c qs e1⟩
theorem Gr.same (h : M.ok H) (s : ∀ b o, H b = some o → H' b = some o) (t : ∀ b ps, H' b = some (.tbl ps) → ∃ qs, H b = some (.tbl qs)) : Gr M H H' := ⟨h, M.ext H H' s t h, fun b o e _ => s b o e, t⟩
theorem same_upd (hp : H p = none) : ∀ b u, H b = some u → upd H p o b = some u := fun b u e => by
  rw [upd_ne (ne_of_none e hp)]
  exact e
theorem tb_upd (n : NT o) : ∀ b ps, upd H p o b = some (.tbl ps) → ∃ qs, H b = some (.tbl qs) := fun b ps e => by
  by_cases z : b = p
  · rw [z, upd_same] at e
    exact absurd (Option.some.inj e) (n ps)
  · rw [upd_ne z] at e
    exact ⟨ps, e⟩
theorem Gr.new (h : M.ok H) (hp : H p = none) (n : NT o := by intro _ z; cases z) : Gr M H (upd H p o) := .same h (same_upd hp) (tb_upd n)
theorem Gr.at_tup (g : Gr M H H') (e : H a = some (.tup xs)) : H' a = some (.tup xs) := g.keep a _ e fun z => (M.here H a g.l z).1 xs e
theorem Gr.at_frz {od : Obj} {u : HO} (g : Gr M H H') (e : H a = some (.frz od u)) : H' a = some (.frz od u) := g.keep a _ e fun z => (M.here H a g.l z).2.1 od u e
theorem Gr.sqT (g : Gr M H H') (h : SqT K H a xs) : SqT K H' a xs := by
  rcases h with (h | ⟨o, h⟩) | h
  · exact .inl (.inl (g.at_tup h))
  · exact .inl (.inr ⟨o, g.at_frz h⟩)
  · exact .inr h
theorem Gr.fresh (g : Gr M H H') (h : H' p = none) : H p = none ∧ ¬ M.at_ p := by
  have n : ¬ M.at_ p := fun z => (M.here H' p g.r z).2.2 h
  refine ⟨?_, n⟩
  cases q : H p with
  | none => rfl
  | some o =>
    rw [g.keep p o q n] at h
    cases h
theorem not_at (h : M.ok H) (hl : H l = none) : ¬ M.at_ l := fun z => (M.here H l h z).2.2 hl
/-- a thing that is new since H is changed -/
theorem Gr.upd (g : Gr M H H1) (hl : H l = none) (h1 : H1 l = some o1) (lo : LocO o1) (nt : NT o2 := by intro _ z; cases z) : Gr M H (upd H1 l o2) :=
  ⟨g.l, M.loc H1 l o1 o2 g.r h1 lo nt (not_at g.l hl), fun b u e n => by
    rw [upd_ne (ne_of_none e hl)]
    exact g.keep b u e n, fun b ps e => let ⟨qs, e1⟩ := tb_upd nt b ps e; g.tb b qs e1⟩
end

/-! ### frozen data -/
mutual
inductive Dt (K : PySem.W.Frag) (H : Hp) : V → PyData → Prop
  | non : Dt K H .non .none
  | bl (b : Bool) : Dt K H (.bl b) (.bool b)
  | int (i : Int) : Dt K H (.int i) (.int i)
  | tup {a : Addr} {xs : List V} {ds : List PyData} : SqT K H a xs → DtAll K H xs ds → Dt K H (.ref a) (.tuple ds)
inductive DtAll (K : PySem.W.Frag) (H : Hp) : List V → List PyData → Prop
  | nil : DtAll K H [] []
  | cons {v : V} {vs : List V} {d : PyData} {ds : List PyData} : Dt K H v d → DtAll K H vs ds → DtAll K H (v :: vs) (d :: ds)
end
section
variable {K : PySem.W.Frag} {H H' : Hp}
mutual
theorem Dt.mono (m : ∀ a xs, SqT K H a xs → SqT K H' a xs) : ∀ {v : V} {d : PyData}, Dt K H v d → Dt K H' v d
  | _, _, .non => .non
  | _, _, .bl b => .bl b
  | _, _, .int i => .int i
  | _, _, .tup h t => .tup (m _ _ h) (DtAll.mono m t)
theorem DtAll.mono (m : ∀ a xs, SqT K H a xs → SqT K H' a xs) : ∀ {v : List V} {d : List PyData}, DtAll K H v d → DtAll K H' v d
  | _, _, .nil => .nil
  | _, _, .cons h t => .cons (Dt.mono m h) (DtAll.mono m t)
end
mutual
theorem Dt.dp : ∀ {v : V} {d : PyData}, Dt K H v d → Dp K H v d
  | _, _, .non => .non
  | _, _, .bl b => .bl b
  | _, _, .int i => .int i
  | _, _, .tup h t => .tup h (DtAll.dp t)
theorem DtAll.dp : ∀ {v : List V} {d : List PyData}, DtAll K H v d → DpAll K H v d
  | _, _, .nil => .nil
  | _, _, .cons h t => .cons (Dt.dp h) (DtAll.dp t)
end
theorem Gr.dt {M : Mov} {v : V} {d : PyData} (g : Gr M H H') (h : Dt K H v d) : Dt K H' v d := h.mono fun _ _ q => g.sqT q
theorem Gr.dts {M : Mov} {v : List V} {d : List PyData} (g : Gr M H H') (h : DtAll K H v d) : DtAll K H' v d := h.mono fun _ _ q => g.sqT q
theorem same_sqT (s : ∀ b o, H b = some o → H' b = some o) {a : Addr} {xs : List V} (h : SqT K H a xs) : SqT K H' a xs := by
  rcases h with (h | ⟨o, h⟩) | h
  · exact .inl (.inl (s _ _ h))
  · exact .inl (.inr ⟨o, s _ _ h⟩)
  · exact .inr h
theorem DtAll.length : ∀ {v : List V} {d : List PyData}, DtAll K H v d → v.length = d.length
  | _, _, .nil => rfl
  | _, _, .cons _ t => congrArg (· + 1) (DtAll.length t)
theorem DtAll.get : ∀ {vs : List V} {ds : List PyData} {i : Nat} {d : PyData}, DtAll K H vs ds → ds[i]? = some d → ∃ v, vs[i]? = some v ∧ Dt K H v d
  | _, _, _, _, .nil, e => by cases e
  | _, _, 0, _, .cons h _, e => by
    cases e
    exact ⟨_, rfl, h⟩
  | _, _, i + 1, d, .cons _ t, e => DtAll.get (i := i) (d := d) t e
theorem DtAll.get' : ∀ {vs : List V} {ds : List PyData} {i : Nat} {v : V}, DtAll K H vs ds → vs[i]? = some v → ∃ d, ds[i]? = some d ∧ Dt K H v d
  | _, _, _, _, .nil, e => by cases e
  | _, _, 0, _, .cons h _, e => by
    cases e
    exact ⟨_, rfl, h⟩
  | _, _, i + 1, v, .cons _ t, e => DtAll.get' (i := i) (v := v) t e
theorem DtAll.app : ∀ {vs ws : List V} {ds es : List PyData}, DtAll K H vs ds → DtAll K H ws es → DtAll K H (vs ++ ws) (ds ++ es)
  | _, _, _, _, .nil, h => h
  | _, _, _, _, .cons h t, q => .cons h (DtAll.app t q)
theorem DtAll.drop : ∀ {vs : List V} {ds : List PyData} (n : Nat), DtAll K H vs ds → DtAll K H (vs.drop n) (ds.drop n)
  | _, _, 0, h => h
  | _, _, _ + 1, .nil => .nil
  | _, _, n + 1, .cons _ t => DtAll.drop n t
theorem DtAll.take : ∀ {vs : List V} {ds : List PyData} (n : Nat), DtAll K H vs ds → DtAll K H (vs.take n) (ds.take n)
  | _, _, 0, _ => .nil
  | _, _, _ + 1, .nil => .nil
  | _, _, n + 1, .cons h t => .cons h (DtAll.take n t)
theorem DtAll.set : ∀ {vs : List V} {ds : List PyData} {v : V} {d : PyData} (n : Nat), DtAll K H vs ds → Dt K H v d → DtAll K H (vs.set n v) (ds.set n d)
  | _, _, _, _, _, .nil, _ => .nil
  | _, _, _, _, 0, .cons _ t, h => .cons h t
  | _, _, _, _, n + 1, .cons h t, q => .cons h (DtAll.set n t q)
theorem DtAll.one {v : V} {d : PyData} (h : Dt K H v d) : DtAll K H [v] [d] := .cons h .nil
theorem DtAll.ints : ∀ ns : List Int, DtAll K H (ns.map V.int) (ns.map PyData.int)
  | [] => .nil
  | n :: ns => .cons (.int n) (DtAll.ints ns)
theorem DtAll.ofInts : ∀ {vs : List V} {ns : List Int}, DtAll K H vs (ns.map PyData.int) → vs = ns.map V.int
  | _, [], .nil => rfl
  | _, n :: ns, .cons (.int _) t => congrArg (List.cons (V.int n)) (DtAll.ofInts t)
theorem DtAll.ofBools : ∀ {vs : List V} {ns : List Bool}, DtAll K H vs (ns.map PyData.bool) → vs = ns.map V.bl
  | _, [], .nil => rfl
  | _, n :: ns, .cons (.bl _) t => congrArg (List.cons (V.bl n)) (DtAll.ofBools t)
end
/-- an item of data by its index -/
theorem atI_dt {K : PySem.W.Frag} {H : Hp} {vs : List V} {ds : List PyData} {i : Int} {d : PyData} (h : DtAll K H vs ds) (e : atI ds i = some d) : ∃ v, atI vs i = some v ∧ Dt K H v d := by
  unfold atI at e ⊢
  rw [h.length]
  cases q : ixN ds.length i with
  | none => rw [q] at e; cases e
  | some j =>
    rw [q] at e
    exact h.get (i := j) e

/-! ### expressions that give something -/
section
variable {ι : Type} (X : ι → Cx) (M : Mov) (K : PySem.W.Frag)
/-- e gives a v with R, the heap grows -/
def EO (σ : L2.St) (H : Hp) (e : Expr) (R : V → Hp → Prop) : Prop :=
  ∃ te : TE, (∀ j, PE (X j) e te) ∧ ∀ H1, Gr M H H1 → ∀ Q : VK, (∀ v H2, Gr M H1 H2 → R v H2 → Q v H2) → te σ H1 Q
def ED (σ : L2.St) (H : Hp) (e : Expr) (d : PyData) : Prop := EO X M σ H e fun v H' => Dt K H' v d
def TO (σ : L2.St) (H : Hp) (e : Expr) (b : Bool) : Prop :=
  ∃ tt : TT, (∀ j, PT (X j) e tt) ∧ ∀ H1, Gr M H H1 → ∀ Q : Bool → Hp → Prop, (∀ H2, Gr M H1 H2 → Q b H2) → tt σ H1 Q
def WO (σ : L2.St) (H : Hp) (e : Expr) (b : Bool) : Prop :=
  ∃ tt : TT, (∀ j, PW (X j) e tt) ∧ ∀ H1, Gr M H H1 → ∀ Q : Bool → Hp → Prop, (∀ H2, Gr M H1 H2 → Q b H2) → tt σ H1 Q
def AO (σ : L2.St) (H : Hp) (es : List Expr) (R : List V → Hp → Prop) : Prop :=
  ∃ ta : TA, (∀ j, PA (X j) es ta) ∧ ∀ H1, Gr M H H1 → ∀ Q : List V → Hp → Prop, (∀ vs H2, Gr M H1 H2 → R vs H2 → Q vs H2) → ta σ H1 Q
abbrev AD (σ : L2.St) (H : Hp) (es : List Expr) (ds : List PyData) : Prop := AO X M σ H es fun vs H' => DtAll K H' vs ds
end
/-- R stays while the heap grows -/
def Mono (M : Mov) (R : V → Hp → Prop) : Prop := ∀ v H H', Gr M H H' → R v H → R v H'
def AR : List (V → Hp → Prop) → List V → Hp → Prop
  | [], vs, _ => vs = []
  | R :: Rs, vs, H => ∃ v r, vs = v :: r ∧ R v H ∧ AR Rs r H
theorem mono_dt {M : Mov} {K : PySem.W.Frag} {d : PyData} : Mono M (fun v H => Dt K H v d) := fun _ _ _ g h => g.dt h
theorem mono_eq {M : Mov} {u : V} : Mono M (fun v _ => v = u) := fun _ _ _ _ h => h

section
variable {ι : Type} {X : ι → Cx} {M : Mov} {K : PySem.W.Frag} {σ : L2.St} {H H0 : Hp} {a b c e : Expr} {es : List Expr} {R R' : V → Hp → Prop} {pos : Pos} {d d1 d2 : PyData} {ds : List PyData}
theorem EO.of {te : TE} (p : ∀ j, PE (X j) e te) (h : ∀ H1, Gr M H H1 → ∀ Q : VK, (∀ v H2, Gr M H1 H2 → R v H2 → Q v H2) → te σ H1 Q) : EO X M σ H e R := ⟨te, p, h⟩
theorem EO.imp (h : EO X M σ H e R) (k : ∀ v H1, Gr M H H1 → R v H1 → R' v H1) : EO X M σ H e R' :=
  let ⟨te, p, q⟩ := h
  ⟨te, p, fun H1 g Q w => q H1 g Q fun v H2 g2 r => w v H2 g2 (k v H2 (g.trans g2) r)⟩
theorem EO.up (h : EO X M σ H e R) (g : Gr M H0 H) : EO X M σ H e R := h
theorem EO.mono (h : EO X M σ H0 e R) (g : Gr M H0 H) : EO X M σ H e R :=
  let ⟨te, p, q⟩ := h
  ⟨te, p, fun H1 g1 Q w => q H1 (g.trans g1) Q w⟩
theorem ED.mono (h : ED X M K σ H0 e d) (g : Gr M H0 H) : ED X M K σ H e d := EO.mono h g
theorem ED.cast (h : ED X M K σ H e d1) (q : d1 = d2) : ED X M K σ H e d2 := q ▸ h
theorem eo_var (i : Nat) {x : Str} {v : V} (hN : ∀ j, (X j).N[i]? = some x := by intro _; rfl) (hv : ∀ j, Vis (X j).env.scope x := by intro _; first | exact Or.inl rfl | exact Or.inr (Or.inl rfl) | exact Or.inr (Or.inr rfl))
    (hs : σ[i]? = some (some v)) (hR : ∀ H1, Gr M H H1 → R v H1) (hd : (x == ("__debug__" : Str)) = false := by decide) (hcd : (x == ("__classdict__" : Str)) = false := by decide) : EO X M σ H (.Name x pos) R :=
  ⟨tVar i, fun j => pe_var (hN j) (hv j) hd hcd, fun H1 g Q k => ⟨v, hs, k v H1 (.refl g.r) (hR H1 g)⟩⟩
theorem ed_var (i : Nat) {x : Str} {v : V} (hs : σ[i]? = some (some v)) (h : Dt K H v d) (hN : ∀ j, (X j).N[i]? = some x := by intro _; rfl) (hv : ∀ j, Vis (X j).env.scope x := by intro _; first | exact Or.inl rfl | exact Or.inr (Or.inl rfl) | exact Or.inr (Or.inr rfl))
    (hd : (x == ("__debug__" : Str)) = false := by decide) (hcd : (x == ("__classdict__" : Str)) = false := by decide) : ED X M K σ H (.Name x pos) d :=
  eo_var i hN hv hs (fun H1 g => g.dt h) hd hcd
theorem ed_int {i : Int} {k : Nat} : ED X M K σ H (.Constant (.int i) k pos) (.int i) := ⟨_, fun _ => pe_int, fun H1 g Q k => k _ H1 (.refl g.r) (.int i)⟩
theorem ed_bl {i : Bool} {k : Nat} : ED X M K σ H (.Constant (.bool i) k pos) (.bool i) := ⟨_, fun _ => pe_bl, fun H1 g Q k => k _ H1 (.refl g.r) (.bl i)⟩
theorem ed_non {k : Nat} : ED X M K σ H (.Constant .none k pos) .none := ⟨_, fun _ => pe_non, fun H1 g Q k => k _ H1 (.refl g.r) .non⟩
theorem ed_glob {x : Str} {v : V} {u : Value} (hg : ∀ j, Gl (X j) x) (hm : ∀ j, (X j).mg x = some u) (r : RelV v u) (h : ∀ H, Dt K H v d) (hd : (x == ("__debug__" : Str)) = false := by decide) : ED X M K σ H (.Name x pos) d :=
  ⟨tC v, fun j => pe_glob (hg j) (hm j) r hd, fun H1 g Q k => k v H1 (.refl g.r) (h H1)⟩

/-- two operands, one after the other -/
theorem eo_op2 {r : R2} {op : Operator} {R1 R2' : V → Hp → Prop} (ho : ∀ j, OpR (X j) (binaryOp op) r) (ha : EO X M σ H a R1) (hb : EO X M σ H b R2') (m : Mono M R1)
    (hr : ∀ x y H1, Gr M H H1 → R1 x H1 → R2' y H1 → ∀ Q : VK, (∀ v H2, Gr M H1 H2 → R v H2 → Q v H2) → r x y H1 Q) : EO X M σ H (.BinOp a op b pos) R := by
  obtain ⟨ta, pa, qa⟩ := ha
  obtain ⟨tb, pb, qb⟩ := hb
  refine ⟨_, fun j => pe_op (ho j) (pa j) (pb j), fun H1 g Q k => ?_⟩
  refine qa H1 g _ fun x H2 g2 r1 => ?_
  refine qb H2 (g.trans g2) _ fun y H3 g3 r2 => ?_
  exact hr x y H3 ((g.trans g2).trans g3) (m _ _ _ g3 r1) r2 Q fun v H4 g4 r4 => k v H4 ((g2.trans g3).trans g4) r4
theorem eo_cmp2 {r : R2} {op : CmpOp} {R1 R2' : V → Hp → Prop} (ho : ∀ j, OpR (X j) (compareOp op) r) (hm : behindInMarks op b = false) (ha : EO X M σ H a R1) (hb : EO X M σ H b R2') (m : Mono M R1)
    (hr : ∀ x y H1, Gr M H H1 → R1 x H1 → R2' y H1 → ∀ Q : VK, (∀ v H2, Gr M H1 H2 → R v H2 → Q v H2) → r x y H1 Q) : EO X M σ H (.Compare a [op] [b] pos) R := by
  obtain ⟨ta, pa, qa⟩ := ha
  obtain ⟨tb, pb, qb⟩ := hb
  refine ⟨_, fun j => pe_cmpR (ho j) (pa j) (pb j) hm, fun H1 g Q k => ?_⟩
  refine qa H1 g _ fun x H2 g2 r1 => ?_
  refine qb H2 (g.trans g2) _ fun y H3 g3 r2 => ?_
  exact hr x y H3 ((g.trans g2).trans g3) (m _ _ _ g3 r1) r2 Q fun v H4 g4 r4 => k v H4 ((g2.trans g3).trans g4) r4
theorem to_cmp2 {r : R2} {op : CmpOp} {R1 R2' : V → Hp → Prop} {t : Bool} (ho : ∀ j, OpR (X j) (compareOp op) r) (hm : behindInMarks op b = false) (ha : EO X M σ H a R1) (hb : EO X M σ H b R2') (m : Mono M R1)
    (hr : ∀ x y H1, Gr M H H1 → R1 x H1 → R2' y H1 → ∀ Q : VK, (∀ H2, Gr M H1 H2 → Q (.bl t) H2) → r x y H1 Q) : TO X M σ H (.Compare a [op] [b] pos) t := by
  obtain ⟨ta, pa, qa⟩ := ha
  obtain ⟨tb, pb, qb⟩ := hb
  refine ⟨_, fun j => pt_cmpR (ho j) (pa j) (pb j) hm, fun H1 g Q k => ?_⟩
  refine qa H1 g _ fun x H2 g2 r1 => ?_
  refine qb H2 (g.trans g2) _ fun y H3 g3 r2 => ?_
  exact hr x y H3 ((g.trans g2).trans g3) (m _ _ _ g3 r1) r2 _ fun H4 g4 => ⟨t, rfl, k H4 ((g2.trans g3).trans g4)⟩
theorem dt_int {v : V} {i : Int} (h : Dt K H v (.int i)) : v = .int i := by
  cases h
  rfl
theorem dt_bl {v : V} {i : Bool} (h : Dt K H v (.bool i)) : v = .bl i := by
  cases h
  rfl
theorem dt_non {v : V} (h : Dt K H v .none) : v = .non := by
  cases h
  rfl
theorem dt_tup {v : V} (h : Dt K H v (.tuple ds)) : ∃ a xs, v = .ref a ∧ SqT K H a xs ∧ DtAll K H xs ds := by
  cases h with
  | tup h t => exact ⟨_, _, rfl, h, t⟩

section
variable {i j : Int}
theorem ed_add (ha : ED X M K σ H a (.int i)) (hb : ED X M K σ H b (.int j)) : ED X M K σ H (.BinOp a .Add b pos) (.int (i + j)) :=
  eo_op2 (fun _ => op_add) ha hb mono_dt fun x y H1 g hx hy Q k => ⟨i, j, dt_int hx, dt_int hy, k _ H1 (.refl g.r) (.int _)⟩
theorem ed_sub (ha : ED X M K σ H a (.int i)) (hb : ED X M K σ H b (.int j)) : ED X M K σ H (.BinOp a .Sub b pos) (.int (i - j)) :=
  eo_op2 (fun _ => op_sub) ha hb mono_dt fun x y H1 g hx hy Q k => ⟨i, j, dt_int hx, dt_int hy, k _ H1 (.refl g.r) (.int _)⟩
theorem ed_mul (ha : ED X M K σ H a (.int i)) (hb : ED X M K σ H b (.int j)) (hc : CMulW i j) : ED X M K σ H (.BinOp a .Mult b pos) (.int (i * j)) :=
  eo_op2 (fun _ => op_mulW) ha hb mono_dt fun x y H1 g hx hy Q k => ⟨i, j, dt_int hx, dt_int hy, hc, k _ H1 (.refl g.r) (.int _)⟩
theorem ed_fdiv (ha : ED X M K σ H a (.int i)) (hb : ED X M K σ H b (.int j)) (hc : CDivW i j) : ED X M K σ H (.BinOp a .FloorDiv b pos) (.int (i / j)) :=
  eo_op2 (fun _ => op_fdivW) ha hb mono_dt fun x y H1 g hx hy Q k => ⟨i, j, dt_int hx, dt_int hy, hc, k _ H1 (.refl g.r) (.int _)⟩
theorem ed_mod (ha : ED X M K σ H a (.int i)) (hb : ED X M K σ H b (.int j)) (hc : 0 < j) : ED X M K σ H (.BinOp a .Mod b pos) (.int (i % j)) :=
  eo_op2 (fun _ => op_mod) ha hb mono_dt fun x y H1 g hx hy Q k => ⟨i, j, dt_int hx, dt_int hy, hc, k _ H1 (.refl g.r) (.int _)⟩
theorem ed_pow (ha : ED X M K σ H a (.int i)) (hb : ED X M K σ H b (.int j)) (hc : CPow i j) : ED X M K σ H (.BinOp a .Pow b pos) (.int (i ^ j.toNat)) :=
  eo_op2 (fun _ => op_pow) ha hb mono_dt fun x y H1 g hx hy Q k => ⟨i, j, dt_int hx, dt_int hy, hc, k _ H1 (.refl g.r) (.int _)⟩
theorem ed_lt (ha : ED X M K σ H a (.int i)) (hb : ED X M K σ H b (.int j)) : ED X M K σ H (.Compare a [.Lt] [b] pos) (.bool (decide (i < j))) :=
  eo_cmp2 (fun _ => op_lt) (nomark _) ha hb mono_dt fun x y H1 g hx hy Q k => ⟨i, j, dt_int hx, dt_int hy, k _ H1 (.refl g.r) (.bl _)⟩
theorem to_lt (ha : ED X M K σ H a (.int i)) (hb : ED X M K σ H b (.int j)) : TO X M σ H (.Compare a [.Lt] [b] pos) (decide (i < j)) :=
  to_cmp2 (fun _ => op_lt) (nomark _) ha hb mono_dt fun x y H1 g hx hy Q k => ⟨i, j, dt_int hx, dt_int hy, k H1 (.refl g.r)⟩
theorem to_gt (ha : ED X M K σ H a (.int i)) (hb : ED X M K σ H b (.int j)) : TO X M σ H (.Compare a [.Gt] [b] pos) (decide (j < i)) :=
  to_cmp2 (fun _ => op_gt) (nomark _) ha hb mono_dt fun x y H1 g hx hy Q k => ⟨i, j, dt_int hx, dt_int hy, k H1 (.refl g.r)⟩
theorem to_ge (ha : ED X M K σ H a (.int i)) (hb : ED X M K σ H b (.int j)) : TO X M σ H (.Compare a [.GtE] [b] pos) (decide (j ≤ i)) :=
  to_cmp2 (fun _ => op_ge) (nomark _) ha hb mono_dt fun x y H1 g hx hy Q k => ⟨i, j, dt_int hx, dt_int hy, k H1 (.refl g.r)⟩
theorem to_eq (ha : ED X M K σ H a (.int i)) (hb : ED X M K σ H b (.int j)) : TO X M σ H (.Compare a [.Eq] [b] pos) (decide (i = j)) :=
  to_cmp2 (fun _ => op_eq) (nomark _) ha hb mono_dt fun x y H1 g hx hy Q k => by
    rw [dt_int hx, dt_int hy]
    refine ⟨rfl, ?_⟩
    rw [dec_int, Bool.beq_eq_decide_eq]
    exact k H1 (.refl g.r)
theorem to_ne (ha : ED X M K σ H a (.int i)) (hb : ED X M K σ H b (.int j)) : TO X M σ H (.Compare a [.NotEq] [b] pos) (!decide (i = j)) :=
  to_cmp2 (fun _ => op_ne) (nomark _) ha hb mono_dt fun x y H1 g hx hy Q k => by
    rw [dt_int hx, dt_int hy]
    refine ⟨rfl, ?_⟩
    rw [dec_int, Bool.beq_eq_decide_eq]
    exact k H1 (.refl g.r)
theorem ed_ge (ha : ED X M K σ H a (.int i)) (hb : ED X M K σ H b (.int j)) : ED X M K σ H (.Compare a [.GtE] [b] pos) (.bool (decide (j ≤ i))) :=
  eo_cmp2 (fun _ => op_ge) (nomark _) ha hb mono_dt fun x y H1 g hx hy Q k => ⟨i, j, dt_int hx, dt_int hy, k _ H1 (.refl g.r) (.bl _)⟩
theorem ed_eqI (ha : ED X M K σ H a (.int i)) (hb : ED X M K σ H b (.int j)) : ED X M K σ H (.Compare a [.Eq] [b] pos) (.bool (decide (i = j))) :=
  eo_cmp2 (fun _ => op_eq) (nomark _) ha hb mono_dt fun x y H1 g hx hy Q k => by
    rw [dt_int hx, dt_int hy]
    refine ⟨rfl, ?_⟩
    rw [dec_int, Bool.beq_eq_decide_eq]
    exact k _ H1 (.refl g.r) (.bl _)
theorem ed_neI (ha : ED X M K σ H a (.int i)) (hb : ED X M K σ H b (.int j)) : ED X M K σ H (.Compare a [.NotEq] [b] pos) (.bool (!decide (i = j))) :=
  eo_cmp2 (fun _ => op_ne) (nomark _) ha hb mono_dt fun x y H1 g hx hy Q k => by
    rw [dt_int hx, dt_int hy]
    refine ⟨rfl, ?_⟩
    rw [dec_int, Bool.beq_eq_decide_eq]
    exact k _ H1 (.refl g.r) (.bl _)
end
theorem to_val {t : Bool} (h : ED X M K σ H e (.bool t)) (he : ∀ j whole, isTrue e (X j).env whole = (do let v ← whole; standAt e.pos; holding [v] (truthy v)) := by intro _ _; rfl) : TO X M σ H e t := by
  obtain ⟨te, p, q⟩ := h
  refine ⟨_, fun j => pt_val (p j) (he j), fun H1 g Q k => q H1 g _ fun v H2 g2 hv => ⟨t, dt_bl hv, k H2 g2⟩⟩
theorem to_not {t : Bool} (h : TO X M σ H e t) : TO X M σ H (.UnaryOp .Not e pos) (!t) := by
  obtain ⟨te, p, q⟩ := h
  exact ⟨_, fun j => pt_not (p j), fun H1 g Q k => q H1 g _ fun H2 g2 => k H2 g2⟩
theorem to_w {t : Bool} (h : WO X M σ H e t) : TO X M σ H e t := by
  obtain ⟨te, p, q⟩ := h
  exact ⟨_, fun j => (p j).pt, q⟩
theorem wo_and1 {t : Bool} (h : TO X M σ H e t) : WO X M σ H (.BoolOp .And [e] pos) t := by
  obtain ⟨te, p, q⟩ := h
  exact ⟨_, fun j => pw_and1 (p j), q⟩
theorem wo_or1 {t : Bool} (h : TO X M σ H e t) : WO X M σ H (.BoolOp .Or [e] pos) t := by
  obtain ⟨te, p, q⟩ := h
  exact ⟨_, fun j => pw_or1 (p j), q⟩
theorem TO.mono {t : Bool} (h : TO X M σ H0 e t) (g : Gr M H0 H) : TO X M σ H e t :=
  let ⟨te, p, q⟩ := h
  ⟨te, p, fun H1 g1 Q w => q H1 (g.trans g1) Q w⟩
theorem wo_and {t u : Bool} (h : TO X M σ H a t) (h2 : WO X M σ H (.BoolOp .And (b :: es) pos) u) : WO X M σ H (.BoolOp .And (a :: b :: es) pos) (t && u) := by
  obtain ⟨te, p, q⟩ := h
  obtain ⟨te2, p2, q2⟩ := h2
  refine ⟨_, fun j => pw_and (p j) (p2 j), fun H1 g Q k => q H1 g _ fun H2 g2 => ?_⟩
  cases t with
  | false => exact k H2 g2
  | true => exact q2 H2 (g.trans g2) Q fun H3 g3 => k H3 (g2.trans g3)
theorem wo_or {t u : Bool} (h : TO X M σ H a t) (h2 : WO X M σ H (.BoolOp .Or (b :: es) pos) u) : WO X M σ H (.BoolOp .Or (a :: b :: es) pos) (t || u) := by
  obtain ⟨te, p, q⟩ := h
  obtain ⟨te2, p2, q2⟩ := h2
  refine ⟨_, fun j => pw_or (p j) (p2 j), fun H1 g Q k => q H1 g _ fun H2 g2 => ?_⟩
  cases t with
  | true => exact k H2 g2
  | false => exact q2 H2 (g.trans g2) Q fun H3 g3 => k H3 (g2.trans g3)
/-- the second part is asked only where the first lets it -/
theorem wo_andS {t u : Bool} (h : TO X M σ H a t) (h2 : ∃ t2 : TT, (∀ j, PW (X j) (.BoolOp .And (b :: es) pos) t2) ∧ (t = true → ∀ H1, Gr M H H1 → ∀ Q : Bool → Hp → Prop, (∀ H2, Gr M H1 H2 → Q u H2) → t2 σ H1 Q)) : WO X M σ H (.BoolOp .And (a :: b :: es) pos) (t && u) := by
  obtain ⟨te, p, q⟩ := h
  obtain ⟨te2, p2, q2⟩ := h2
  refine ⟨_, fun j => pw_and (p j) (p2 j), fun H1 g Q k => q H1 g _ fun H2 g2 => ?_⟩
  cases t with
  | false => exact k H2 g2
  | true => exact q2 rfl H2 (g.trans g2) Q fun H3 g3 => k H3 (g2.trans g3)
/-- bools as values -/
theorem ed_one {op : BoolOp} (h : ED X M K σ H e d) : ED X M K σ H (.BoolOp op [e] pos) d := by
  obtain ⟨te, p, q⟩ := h
  exact ⟨_, fun j => pe_one (p j), q⟩
theorem ed_and {t u : Bool} (h : ED X M K σ H a (.bool t)) (h2 : ED X M K σ H (.BoolOp .And (b :: es) pos) (.bool u)) : ED X M K σ H (.BoolOp .And (a :: b :: es) pos) (.bool (t && u)) := by
  obtain ⟨te, p, q⟩ := h
  obtain ⟨te2, p2, q2⟩ := h2
  refine ⟨_, fun j => pe_and (p j) (p2 j), fun H1 g Q k => q H1 g _ fun v H2 g2 hv => ⟨t, dt_bl hv, ?_⟩⟩
  cases t with
  | false => exact k _ H2 g2 (.bl _)
  | true => exact q2 H2 (g.trans g2) Q fun v H3 g3 r => k v H3 (g2.trans g3) r
theorem ed_or {t u : Bool} (h : ED X M K σ H a (.bool t)) (h2 : ED X M K σ H (.BoolOp .Or (b :: es) pos) (.bool u)) : ED X M K σ H (.BoolOp .Or (a :: b :: es) pos) (.bool (t || u)) := by
  obtain ⟨te, p, q⟩ := h
  obtain ⟨te2, p2, q2⟩ := h2
  refine ⟨_, fun j => pe_or (p j) (p2 j), fun H1 g Q k => q H1 g _ fun v H2 g2 hv => ⟨t, dt_bl hv, ?_⟩⟩
  cases t with
  | true => exact k _ H2 g2 (.bl _)
  | false => exact q2 H2 (g.trans g2) Q fun v H3 g3 r => k v H3 (g2.trans g3) r
theorem ed_not {t : Bool} (h : ED X M K σ H e (.bool t)) : ED X M K σ H (.UnaryOp .Not e pos) (.bool (!t)) := by
  obtain ⟨te, p, q⟩ := h
  exact ⟨_, fun j => pe_not (p j), fun H1 g Q k => q H1 g _ fun v H2 g2 hv => ⟨t, dt_bl hv, k _ H2 g2 (.bl _)⟩⟩
/-- a if t else b -/
theorem eo_if {t : Bool} (ht : TO X M σ H c t) (ha : ∃ ta : TE, (∀ j, PE (X j) a ta) ∧ (t = true → ∀ H1, Gr M H H1 → ∀ Q : VK, (∀ v H2, Gr M H1 H2 → R v H2 → Q v H2) → ta σ H1 Q))
    (hb : ∃ ta : TE, (∀ j, PE (X j) b ta) ∧ (t = false → ∀ H1, Gr M H H1 → ∀ Q : VK, (∀ v H2, Gr M H1 H2 → R v H2 → Q v H2) → ta σ H1 Q)) : EO X M σ H (.IfExp c a b pos) R := by
  obtain ⟨tc, pc, qc⟩ := ht
  obtain ⟨ta, pa, qa⟩ := ha
  obtain ⟨tb, pb, qb⟩ := hb
  refine ⟨_, fun j => pe_ifExp (pc j) (pa j) (pb j), fun H1 g Q k => qc H1 g _ fun H2 g2 => ?_⟩
  cases t with
  | true => exact qa rfl H2 (g.trans g2) Q fun v H3 g3 r => k v H3 (g2.trans g3) r
  | false => exact qb rfl H2 (g.trans g2) Q fun v H3 g3 r => k v H3 (g2.trans g3) r
theorem ed_if {t : Bool} (ht : TO X M σ H c t) (ha : ED X M K σ H a d1) (hb : ED X M K σ H b d2) : ED X M K σ H (.IfExp c a b pos) (if t = true then d1 else d2) := by
  obtain ⟨ta, pa, qa⟩ := ha
  obtain ⟨tb, pb, qb⟩ := hb
  refine eo_if ht ⟨ta, pa, fun e H1 g Q k => ?_⟩ ⟨tb, pb, fun e H1 g Q k => ?_⟩
  · exact qa H1 g Q fun v H2 g2 r => k v H2 g2 (by rw [if_pos e]; exact r)
  · exact qb H1 g Q fun v H2 g2 r => k v H2 g2 (by rw [e, if_neg Bool.false_ne_true]; exact r)

/-! ### subscripts, displays, arguments -/
variable (hK : ∀ j, (X j).K = K)
include hK
theorem ed_ix {i : Int} (ha : ED X M K σ H a (.tuple ds)) (hb : ED X M K σ H b (.int i)) (hi : atI ds i = some d) (hs : PlainIx b := by intro _ _; rfl) : ED X M K σ H (.Subscript a b pos) d := by
  obtain ⟨ta, pa, qa⟩ := ha
  obtain ⟨tb, pb, qb⟩ := hb
  refine ⟨tOp (rIxT K) ta tb, fun j => by rw [← hK j]; exact pe_ix ix_tup (pa j) (pb j) hs, fun H1 g Q k => ?_⟩
  refine qa H1 g _ fun x H2 g2 r1 => ?_
  refine qb H2 (g.trans g2) _ fun y H3 g3 r2 => ?_
  obtain ⟨p, xs, rfl, hq, hd⟩ := dt_tup (g3.dt r1)
  obtain ⟨v, e, hv⟩ := atI_dt hd hi
  exact ⟨p, xs, i, v, rfl, dt_int r2, hq, e, k v H3 (g2.trans g3) hv⟩
/-- an item of a list of data -/
def LsD (K : PySem.W.Frag) (ds : List PyData) : V → Hp → Prop := fun v H => ∃ a xs, v = .ref a ∧ SqL K H a xs ∧ DtAll K H xs ds
theorem eo_ixL {i : Int} {xs : List V} {p : Addr} {u : V} (ha : EO X M σ H a fun v H' => v = .ref p ∧ SqL K H' p xs) (hb : ED X M K σ H b (.int i)) (hi : atI xs i = some u) (hk : ∀ H1, Gr M H H1 → SqL K H1 p xs) (hR : ∀ H1, Gr M H H1 → R u H1) (hs : PlainIx b := by intro _ _; rfl) : EO X M σ H (.Subscript a b pos) R := by
  obtain ⟨ta, pa, qa⟩ := ha
  obtain ⟨tb, pb, qb⟩ := hb
  refine ⟨tOp (rIxL K) ta tb, fun j => by rw [← hK j]; exact pe_ix ix_list (pa j) (pb j) hs, fun H1 g Q k => ?_⟩
  refine qa H1 g _ fun x H2 g2 r1 => ?_
  obtain ⟨rfl, r1⟩ := r1
  refine qb H2 (g.trans g2) _ fun y H3 g3 r2 => ?_
  exact ⟨p, xs, i, u, rfl, dt_int r2, hk H3 ((g.trans g2).trans g3), hi, k u H3 (g2.trans g3) (hR H3 ((g.trans g2).trans g3))⟩
omit hK
theorem ad_nil : AD X M K σ H [] [] := ⟨_, fun _ => pa_nil, fun H1 g Q k => k [] H1 (.refl g.r) .nil⟩
theorem ad_cons (ha : ED X M K σ H e d) (hr : AD X M K σ H es ds) (hs : ∀ j, starEach (e :: es) (X j).env = (false, eval e (X j).env) :: starEach es (X j).env := by intro _; rfl) : AD X M K σ H (e :: es) (d :: ds) := by
  obtain ⟨ta, pa, qa⟩ := ha
  obtain ⟨tb, pb, qb⟩ := hr
  refine ⟨_, fun j => pa_cons (pa j) (pb j) (hs j), fun H1 g Q k => qa H1 g _ fun x H2 g2 r1 => qb H2 (g.trans g2) _ fun xs H3 g3 r2 => k (x :: xs) H3 (g2.trans g3) (.cons (g3.dt r1) r2)⟩
theorem ao_nil : AO X M σ H [] (AR []) := ⟨_, fun _ => pa_nil, fun H1 g Q k => k [] H1 (.refl g.r) rfl⟩
theorem ao_cons {Rs : List (V → Hp → Prop)} (ha : EO X M σ H e R) (m : Mono M R) (hr : AO X M σ H es (AR Rs)) (hs : ∀ j, starEach (e :: es) (X j).env = (false, eval e (X j).env) :: starEach es (X j).env := by intro _; rfl) : AO X M σ H (e :: es) (AR (R :: Rs)) := by
  obtain ⟨ta, pa, qa⟩ := ha
  obtain ⟨tb, pb, qb⟩ := hr
  refine ⟨_, fun j => pa_cons (pa j) (pb j) (hs j), fun H1 g Q k => qa H1 g _ fun x H2 g2 r1 => qb H2 (g.trans g2) _ fun xs H3 g3 r2 => k (x :: xs) H3 (g2.trans g3) ⟨x, xs, rfl, m _ _ _ g3 r1, r2⟩⟩
theorem ed_tup {x1 : Nat} (h : AD X M K σ H es ds) (hl : ds.length ≤ 1000 := by exact Nat.le_of_ble_eq_true rfl) : ED X M K σ H (.Tuple es x1 pos) (.tuple ds) := by
  obtain ⟨ta, pa, qa⟩ := h
  refine ⟨_, fun j => pe_tup (pa j), fun H1 g Q k => qa H1 g _ fun vs H2 g2 r => ⟨?_, fun p hp => ?_⟩⟩
  · rw [r.length]
    exact Nat.le_of_lt (small1000 hl)
  · exact k _ _ (g2.trans (.new g2.r hp)) (.tup (.of upd_same) ((Gr.new g2.r hp).dts r))
/-- a new list of data -/
def NwD (K : PySem.W.Frag) (M : Mov) (H0 : Hp) (ds : List PyData) : V → Hp → Prop := fun v H => ∃ a xs, v = .ref a ∧ H0 a = none ∧ H a = some (.lst xs) ∧ DtAll K H xs ds
theorem NwD.mono (ok : M.ok H0) : Mono M (NwD K M H0 ds) := fun v H H' g ⟨a, xs, e, n, h, r⟩ => ⟨a, xs, e, n, g.keep a _ h (not_at ok n), g.dts r⟩
theorem eo_lst (h : AD X M K σ H es ds) (hl : ds.length ≤ 1000 := by exact Nat.le_of_ble_eq_true rfl) : EO X M σ H (.List es pos) (NwD K M H ds) := by
  obtain ⟨ta, pa, qa⟩ := h
  refine ⟨_, fun j => pe_lst (pa j), fun H1 g Q k => qa H1 g _ fun vs H2 g2 r => ⟨?_, fun p hp => ?_⟩⟩
  · rw [r.length]
    exact Nat.le_of_lt (small1000 hl)
  · exact k _ _ (g2.trans (.new g2.r hp)) ⟨p, vs, rfl, ((g.trans g2).fresh hp).1, upd_same, (Gr.new g2.r hp).dts r⟩
end
end Kt
end
section
set_option maxHeartbeats 4000000
/-! Kt, second part: calls of defs and of built-ins, comprehensions, statements run forward. -/
namespace Kt
open PySem PySem.Spec PyProof.Rows L2

/-! ### what moves nothing -/
def Mov.no : Mov := ⟨fun _ => False, fun _ => True, fun _ _ _ z => z.elim, fun _ _ _ _ h => h, fun _ _ _ _ h _ _ _ _ => h⟩
/-- a callee's growth is the caller's too -/
structure Sub (M0 M : Mov) : Prop where
  ok : ∀ H, M.ok H → M0.ok H
  gr : ∀ H H', M.ok H → Gr M0 H H' → Gr M H H'
theorem Sub.refl (M : Mov) : Sub M M := ⟨fun _ h => h, fun _ _ _ g => g⟩
theorem Sub.no (M : Mov) : Sub .no M := ⟨fun _ _ => trivial, fun _ _ h g => .same h (fun b o e => g.keep b o e fun z => z.elim) g.tb⟩

/-! ### the defs of the text -/
/-- a def of the module, its promise -/
structure Cal (P : Program) (w : World) (K : PySem.W.Frag) (mg : Str → Option Value) (base : Heap) (k : Nat) (x : Str) (ps : List Str) (sp : Sp) : Prop where
  ex : ∃ f fd, FnOk P w K mg base CX0 k f fd ps sp ∧ mg x = some (.ref f) ∧ PySem.W.keepIn K (.ref f) = true ∧ Binds K fd ps []
/-- the contexts at hand -/
structure CxIs {ι : Type} (X : ι → Cx) (P : Program) (w : World) (K : PySem.W.Frag) (mg : Str → Option Value) (base : Heap) (n : Nat) : Prop where
  P : ∀ j, (X j).prog = P
  w : ∀ j, (X j).w = w
  K : ∀ j, (X j).K = K
  mg : ∀ j, (X j).mg = mg
  base : ∀ j, (X j).base = base
  room : ∀ j, Room n (X j).A
  calm : ∀ j, (X j).calm = true
/-- a promise about data: the graph of what the def computes -/
def DS (K : PySem.W.Frag) (M0 : Mov) (R : List PyData → PyData → Prop) : Sp := fun vs H Q _ => M0.ok H ∧ ∃ ds d, DtAll K H vs ds ∧ R ds d ∧ ∀ v H', Gr M0 H H' → Dt K H' v d → Q v H'

section
variable {ι : Type} {X : ι → Cx} {M M0 : Mov} {P : Program} {w : World} {K : PySem.W.Frag} {mg : Str → Option Value} {base : Heap} {n k : Nat} {x : Str} {ps : List Str} {sp : Sp}
variable {σ : L2.St} {H H0 : Hp} {a b c e : Expr} {es : List Expr} {R R' : V → Hp → Prop} {p pos : Pos} {d d1 d2 : PyData} {ds : List PyData}
theorem pe_cal (C : Cal P w K mg base k x ps sp) (cx : CxIs X P w K mg base n) (hk : k ≤ n) {t : TA} (j : ι) (hg : Gl (X j) x) (ha : PA (X j) (e :: es) t) (hdb : (x == ("__debug__" : Str)) = false := by decide)
    (he : starEach (e :: es) (X j).env = (false, eval e (X j).env) :: starEach es (X j).env := by rfl) (hpl : (backTo pos (starEach es (X j).env)).any (·.1) = false := by rfl) : PE (X j) (.Call (.Name x p) (e :: es) [] pos) (tCall sp [] E0 t) := by
  obtain ⟨f, fd, F, m, kp, b⟩ := C.ex
  have F' : FnOk (X j).prog (X j).w (X j).K (X j).mg (X j).base CX0 k f fd ps sp := by
    rw [cx.P, cx.w, cx.K, cx.mg, cx.base]
    exact F
  exact pe_call F' ((cx.room j).mono hk) hg (by rw [cx.mg]; exact m) (by rw [cx.K]; exact kp) (by rw [cx.K]; exact b) .nil pass0 ha hdb he hpl
theorem eo_call {RA : List V → Hp → Prop} (C : Cal P w K mg base k x ps sp) (cx : CxIs X P w K mg base n) (hk : k ≤ n) (ha : AO X M σ H (e :: es) RA)
    (hsp : ∀ vs H1, Gr M H H1 → RA vs H1 → ∀ Q : VK, (∀ v H2, Gr M H1 H2 → R v H2 → Q v H2) → sp vs H1 Q E0) (hg : ∀ j, Gl (X j) x := by intro _; rfl) (hdb : (x == ("__debug__" : Str)) = false := by decide)
    (he : ∀ j, starEach (e :: es) (X j).env = (false, eval e (X j).env) :: starEach es (X j).env := by intro _; rfl) (hpl : ∀ j, (backTo pos (starEach es (X j).env)).any (·.1) = false := by intro _; rfl) : EO X M σ H (.Call (.Name x p) (e :: es) [] pos) R := by
  obtain ⟨ta, pa, qa⟩ := ha
  refine ⟨_, fun j => pe_cal C cx hk j (hg j) (pa j) hdb (he j) (hpl j), fun H1 g Q q => qa H1 g _ fun vs H2 g2 r => ?_⟩
  rw [List.append_nil]
  exact hsp vs H2 (g.trans g2) r Q fun v H3 g3 r3 => q v H3 (g2.trans g3) r3
theorem ed_call {Rl : List PyData → PyData → Prop} (C : Cal P w K mg base k x ps (DS K M0 Rl)) (cx : CxIs X P w K mg base n) (hk : k ≤ n) (s : Sub M0 M) (ha : AD X M K σ H (e :: es) ds) (hr : Rl ds d)
    (hg : ∀ j, Gl (X j) x := by intro _; rfl) (hdb : (x == ("__debug__" : Str)) = false := by decide)
    (he : ∀ j, starEach (e :: es) (X j).env = (false, eval e (X j).env) :: starEach es (X j).env := by intro _; rfl) (hpl : ∀ j, (backTo pos (starEach es (X j).env)).any (·.1) = false := by intro _; rfl) : ED X M K σ H (.Call (.Name x p) (e :: es) [] pos) d :=
  eo_call C cx hk ha (fun vs H1 g r Q q => ⟨s.ok _ g.r, ds, d, r, hr, fun v H' g' hv => q v H' (s.gr _ _ g.r g') hv⟩) hg hdb he hpl

/-! ### built-ins -/
theorem eo_callB {id : String} {r : List V → Hp → VK → Prop} {RA : List V → Hp → Prop} (hc : ∀ j, CallR (X j) (.builtin id) r) (hm : ∀ j, (X j).mg x = none) (hv : bootBuiltins x = some (.builtin id)) (ha : AO X M σ H (e :: es) RA)
    (hr : ∀ vs H1, Gr M H H1 → RA vs H1 → ∀ Q : VK, (∀ v H2, Gr M H1 H2 → R v H2 → Q v H2) → r vs H1 Q) (hg : ∀ j, Gl (X j) x := by intro _; rfl) (hn : x ≠ "__name__" := by decide) (hdb : (x == ("__debug__" : Str)) = false := by decide)
    (he : ∀ j, starEach (e :: es) (X j).env = (false, eval e (X j).env) :: starEach es (X j).env := by intro _; rfl) (hpl : ∀ j, (backTo pos (starEach es (X j).env)).any (·.1) = false := by intro _; rfl) : EO X M σ H (.Call (.Name x p) (e :: es) [] pos) R := by
  obtain ⟨ta, pa, qa⟩ := ha
  refine ⟨_, fun j => pe_callB (hc j) (hg j) (hm j) hv (pa j) hn hdb (he j) (hpl j), fun H1 g Q q => qa H1 g _ fun vs H2 g2 r => ?_⟩
  exact hr vs H2 (g.trans g2) r Q fun v H3 g3 r3 => q v H3 (g2.trans g3) r3
theorem eo_callTy {id : String} {r : List V → Hp → VK → Prop} {RA : List V → Hp → Prop} (hc : ∀ j, CallR (X j) (.type id) r) (hm : ∀ j, (X j).mg x = none) (hv : bootBuiltins x = some (.type id)) (ha : AO X M σ H (e :: es) RA)
    (hr : ∀ vs H1, Gr M H H1 → RA vs H1 → ∀ Q : VK, (∀ v H2, Gr M H1 H2 → R v H2 → Q v H2) → r vs H1 Q) (hg : ∀ j, Gl (X j) x := by intro _; rfl) (hn : x ≠ "__name__" := by decide) (hdb : (x == ("__debug__" : Str)) = false := by decide)
    (he : ∀ j, starEach (e :: es) (X j).env = (false, eval e (X j).env) :: starEach es (X j).env := by intro _; rfl) (hpl : ∀ j, (backTo pos (starEach es (X j).env)).any (·.1) = false := by intro _; rfl) : EO X M σ H (.Call (.Name x p) (e :: es) [] pos) R := by
  obtain ⟨ta, pa, qa⟩ := ha
  refine ⟨_, fun j => pe_callTy (hc j) (hg j) (hm j) hv (pa j) hn hdb (he j) (hpl j), fun H1 g Q q => qa H1 g _ fun vs H2 g2 r => ?_⟩
  exact hr vs H2 (g.trans g2) r Q fun v H3 g3 r3 => q v H3 (g2.trans g3) r3
theorem ao_one (h : EO X M σ H e R) (hs : ∀ j, starEach (e :: []) (X j).env = (false, eval e (X j).env) :: starEach [] (X j).env := by intro _; rfl) : AO X M σ H [e] (fun vs H' => ∃ v, vs = [v] ∧ R v H') := by
  obtain ⟨ta, pa, qa⟩ := h
  exact ⟨_, fun j => pa_cons (pa j) pa_nil (hs j), fun H1 g Q k => qa H1 g _ fun x H2 g2 r1 => k [x] H2 g2 ⟨x, rfl, r1⟩⟩
theorem ed_len (hK : ∀ j, (X j).K = K) (hm : ∀ j, (X j).mg "len" = none) (h : ED X M K σ H e (.tuple ds)) (hg : ∀ j, Gl (X j) "len" := by intro _; rfl)
    (hs : ∀ j, starEach (e :: []) (X j).env = (false, eval e (X j).env) :: starEach [] (X j).env := by intro _; rfl) (hpl : ∀ j, (backTo pos (starEach [] (X j).env)).any (·.1) = false := by intro _; rfl) : ED X M K σ H (.Call (.Name "len" p) [e] [] pos) (.int ds.length) := by
  refine eo_callB (r := fun xs H Q => ∃ p ys, xs = [.ref p] ∧ (SqL K H p ys ∨ SqT K H p ys) ∧ Q (.int ys.length) H) (fun j => by rw [← hK j]; exact call_len_seq) hm PySem.boot_len (ao_one h hs) (fun vs H1 g r Q q => ?_) hg (by decide) (by decide) hs hpl
  obtain ⟨v, rfl, hv⟩ := r
  obtain ⟨a, xs, rfl, hq, hd⟩ := dt_tup hv
  refine ⟨a, xs, rfl, .inr hq, q _ H1 (.refl g.r) ?_⟩
  rw [hd.length]
  exact .int _
theorem ed_lenL (hK : ∀ j, (X j).K = K) (hm : ∀ j, (X j).mg "len" = none) {m : Nat} (h : EO X M σ H e (fun v H' => ∃ a xs, v = .ref a ∧ SqL K H' a xs ∧ xs.length = m)) (hg : ∀ j, Gl (X j) "len" := by intro _; rfl)
    (hs : ∀ j, starEach (e :: []) (X j).env = (false, eval e (X j).env) :: starEach [] (X j).env := by intro _; rfl) (hpl : ∀ j, (backTo pos (starEach [] (X j).env)).any (·.1) = false := by intro _; rfl) : ED X M K σ H (.Call (.Name "len" p) [e] [] pos) (.int m) := by
  refine eo_callB (r := fun xs H Q => ∃ p ys, xs = [.ref p] ∧ (SqL K H p ys ∨ SqT K H p ys) ∧ Q (.int ys.length) H) (fun j => by rw [← hK j]; exact call_len_seq) hm PySem.boot_len (ao_one h hs) (fun vs H1 g r Q q => ?_) hg (by decide) (by decide) hs hpl
  obtain ⟨v, rfl, a, xs, rfl, hq, hl⟩ := r
  refine ⟨a, xs, rfl, .inl hq, q _ H1 (.refl g.r) ?_⟩
  rw [hl]
  exact .int _
theorem ed_abs (hm : ∀ j, (X j).mg "abs" = none) {i : Int} (h : ED X M K σ H e (.int i)) (hg : ∀ j, Gl (X j) "abs" := by intro _; rfl)
    (hs : ∀ j, starEach (e :: []) (X j).env = (false, eval e (X j).env) :: starEach [] (X j).env := by intro _; rfl) (hpl : ∀ j, (backTo pos (starEach [] (X j).env)).any (·.1) = false := by intro _; rfl) : ED X M K σ H (.Call (.Name "abs" p) [e] [] pos) (.int (i.natAbs : Int)) := by
  refine eo_callB (fun _ => call_abs) hm (by decide +kernel) (ao_one h hs) (fun vs H1 g r Q q => ?_) hg (by decide) (by decide) hs hpl
  obtain ⟨v, rfl, hv⟩ := r
  refine ⟨i, by rw [dt_int hv], q _ H1 (.refl g.r) ?_⟩
  have e : (if i < 0 then -i else i) = (i.natAbs : Int) := by split <;> omega
  rw [e]
  exact .int _
theorem ed_int1 (hm : ∀ j, (X j).mg "int" = none) {i : Int} (h : ED X M K σ H e (.int i)) (hg : ∀ j, Gl (X j) "int" := by intro _; rfl)
    (hs : ∀ j, starEach (e :: []) (X j).env = (false, eval e (X j).env) :: starEach [] (X j).env := by intro _; rfl) (hpl : ∀ j, (backTo pos (starEach [] (X j).env)).any (·.1) = false := by intro _; rfl) : ED X M K σ H (.Call (.Name "int" p) [e] [] pos) (.int i) := by
  refine eo_callTy (fun _ => call_int1) hm (by decide +kernel) (ao_one h hs) (fun vs H1 g r Q q => ?_) hg (by decide) (by decide) hs hpl
  obtain ⟨v, rfl, hv⟩ := r
  exact .inl ⟨i, by rw [dt_int hv], q _ H1 (.refl g.r) (.int _)⟩
theorem ed_intB (hm : ∀ j, (X j).mg "int" = none) {t : Bool} (h : ED X M K σ H e (.bool t)) (hg : ∀ j, Gl (X j) "int" := by intro _; rfl)
    (hs : ∀ j, starEach (e :: []) (X j).env = (false, eval e (X j).env) :: starEach [] (X j).env := by intro _; rfl) (hpl : ∀ j, (backTo pos (starEach [] (X j).env)).any (·.1) = false := by intro _; rfl) : ED X M K σ H (.Call (.Name "int" p) [e] [] pos) (.int (if t then 1 else 0)) := by
  refine eo_callTy (fun _ => call_int1) hm (by decide +kernel) (ao_one h hs) (fun vs H1 g r Q q => ?_) hg (by decide) (by decide) hs hpl
  obtain ⟨v, rfl, hv⟩ := r
  exact .inr ⟨t, by rw [dt_bl hv], q _ H1 (.refl g.r) (.int _)⟩
/-- a list of data at some address -/
theorem ed_tupleL (hK : ∀ j, (X j).K = K) (hm : ∀ j, (X j).mg "tuple" = none) (h : EO X M σ H e (fun v H' => ∃ a xs, v = .ref a ∧ SqL K H' a xs ∧ DtAll K H' xs ds)) (hg : ∀ j, Gl (X j) "tuple" := by intro _; rfl)
    (hs : ∀ j, starEach (e :: []) (X j).env = (false, eval e (X j).env) :: starEach [] (X j).env := by intro _; rfl) (hpl : ∀ j, (backTo pos (starEach [] (X j).env)).any (·.1) = false := by intro _; rfl) : ED X M K σ H (.Call (.Name "tuple" p) [e] [] pos) (.tuple ds) := by
  refine eo_callTy (r := fun xs H Q => ∃ p ys, xs = [.ref p] ∧ ((SqL K H p ys ∧ ∀ l, H l = none → Q (.ref l) (upd H l (.tup ys))) ∨ (SqT K H p ys ∧ Q (.ref p) H))) (fun j => by rw [← hK j]; exact call_tuple_of) hm (by decide +kernel) (ao_one h hs) (fun vs H1 g r Q q => ?_) hg (by decide) (by decide) hs hpl
  obtain ⟨v, rfl, a, xs, rfl, hq, hd⟩ := r
  exact ⟨a, xs, rfl, .inl ⟨hq, fun l hl => q _ _ (.new g.r hl) (.tup (.of upd_same) ((Gr.new g.r hl).dts hd))⟩⟩
theorem ed_all (hc : ∀ j, (X j).calm = true) (hK : ∀ j, (X j).K = K) (hm : ∀ j, (X j).mg "all" = none) {bs : List Bool} (h : EO X M σ H e (fun v H' => ∃ a xs, v = .ref a ∧ SqL K H' a xs ∧ DtAll K H' xs (bs.map PyData.bool))) (hg : ∀ j, Gl (X j) "all" := by intro _; rfl)
    (hs : ∀ j, starEach (e :: []) (X j).env = (false, eval e (X j).env) :: starEach [] (X j).env := by intro _; rfl) (hpl : ∀ j, (backTo pos (starEach [] (X j).env)).any (·.1) = false := by intro _; rfl) : ED X M K σ H (.Call (.Name "all" p) [e] [] pos) (.bool (bs.all id)) := by
  refine eo_callB (r := rAll K) (fun j => by rw [← hK j]; exact cr_all (hc j)) hm (by decide +kernel) (ao_one h hs) (fun vs H1 g r Q q => ?_) hg (by decide) (by decide) hs hpl
  obtain ⟨v, rfl, a, xs, rfl, hq, hd⟩ := r
  rw [hd.ofBools] at hq
  exact ⟨a, bs, rfl, hq, q _ H1 (.refl g.r) (.bl _)⟩
theorem ed_min (hc : ∀ j, (X j).calm = true) (hK : ∀ j, (X j).K = K) (hm : ∀ j, (X j).mg "min" = none) {ns : List Int} (hne : 0 < ns.length) (h : EO X M σ H e (fun v H' => ∃ a xs, v = .ref a ∧ SqL K H' a xs ∧ DtAll K H' xs (ns.map PyData.int))) (hg : ∀ j, Gl (X j) "min" := by intro _; rfl)
    (hs : ∀ j, starEach (e :: []) (X j).env = (false, eval e (X j).env) :: starEach [] (X j).env := by intro _; rfl) (hpl : ∀ j, (backTo pos (starEach [] (X j).env)).any (·.1) = false := by intro _; rfl) : ED X M K σ H (.Call (.Name "min" p) [e] [] pos) (.int (minI ns)) := by
  refine eo_callB (r := rMin K) (fun j => by rw [← hK j]; exact cr_min (hc j)) hm (by decide +kernel) (ao_one h hs) (fun vs H1 g r Q q => ?_) hg (by decide) (by decide) hs hpl
  obtain ⟨v, rfl, a, xs, rfl, hq, hd⟩ := r
  rw [hd.ofInts] at hq
  refine ⟨a, ns, rfl, hq, hne, fun m h1 h2 => q _ H1 (.refl g.r) ?_⟩
  rw [minI_of h1 h2]
  exact .int _
/-- the type's name of a datum -/
def tyN : PyData → String
  | .int _ => "int"
  | .bool _ => "bool"
  | .none => "NoneType"
  | _ => "tuple"
theorem dt_ty {v : V} (h : Dt K H v d) : TyX K H v (.type (tyN d)) := by
  cases h with
  | non => exact .base .non
  | bl b => exact .base (.bl b)
  | int i => exact .base (.int i)
  | tup h _ =>
    rcases h with (h | ⟨o, h⟩) | ⟨o, its, n, h1, h2, _⟩
    · exact .base (.tup h)
    · exact .fTuple h
    · exact .kTuple h1 h2
theorem ed_isi (hK : ∀ j, (X j).K = K) (hm : ∀ j, (X j).mg "isinstance" = none) {T : Str} {tn : String} {pT : Pos} {t : Bool} (hmT : ∀ j, (X j).mg T = none) (hT : bootBuiltins T = some (.type tn)) (h : ED X M K σ H e d) (ht : kitB (tyN d) tn = some t)
    (hg : ∀ j, Gl (X j) "isinstance" := by intro _; rfl) (hgT : ∀ j, Gl (X j) T := by intro _; rfl) (hTn : T ≠ "__name__" := by decide) (hTd : (T == ("__debug__" : Str)) = false := by decide)
    (hs : ∀ j, starEach (e :: [Expr.Name T pT]) (X j).env = (false, eval e (X j).env) :: starEach [Expr.Name T pT] (X j).env := by intro _; rfl)
    (hs2 : ∀ j, starEach (Expr.Name T pT :: []) (X j).env = (false, eval (Expr.Name T pT) (X j).env) :: starEach [] (X j).env := by intro _; rfl) (hpl : ∀ j, (backTo pos (starEach [Expr.Name T pT] (X j).env)).any (·.1) = false := by intro _; rfl) :
    ED X M K σ H (.Call (.Name "isinstance" p) [e, .Name T pT] [] pos) (.bool t) := by
  have hT2 : EO X M σ H (.Name T pT) (fun v _ => v = .ty tn) := ⟨tC (.ty tn), fun j => pe_bltn (hgT j) (hmT j) hT rfl hTn hTd, fun H1 g Q k => k _ H1 (.refl g.r) rfl⟩
  refine eo_callB (r := rIsi K) (fun j => by rw [← hK j]; exact call_isi) hm (by decide +kernel) (ao_cons h mono_dt (ao_cons hT2 mono_eq ao_nil hs2) hs) (fun vs H1 g r Q q => ?_) hg (by decide) (by decide) hs hpl
  obtain ⟨v, r1, rfl, hv, u, r2, rfl, rfl, rfl⟩ := r
  exact ⟨v, .ty tn, .type (tyN d), .type tn, t, rfl, .ty tn, dt_ty hv, kit_ty ht, q _ H1 (.refl g.r) (.bl _)⟩
end
theorem kb_int_int : kitB "int" "int" = some true := by decide +kernel
theorem kb_int_bool : kitB "int" "bool" = some false := by decide +kernel
theorem kb_int_tuple : kitB "int" "tuple" = some false := by decide +kernel
theorem kb_int_list : kitB "int" "list" = some false := by decide +kernel
theorem kb_tuple_tuple : kitB "tuple" "tuple" = some true := by decide +kernel
theorem kb_tuple_list : kitB "tuple" "list" = some false := by decide +kernel
theorem kb_tuple_bool : kitB "tuple" "bool" = some false := by decide +kernel
theorem kb_tuple_int : kitB "tuple" "int" = some false := by decide +kernel
end Kt
end
section
set_option maxHeartbeats 4000000
/-! Kt, third part: readings alone (QO), comprehensions, statements run forward (RS). -/
namespace Kt
open PySem PySem.Spec PyProof.Rows L2

/-! ### readings alone -/
def QO (M : Mov) (te : TE) (σ : L2.St) (H : Hp) (R : V → Hp → Prop) : Prop := ∀ H1, Gr M H H1 → ∀ Q : VK, (∀ v H2, Gr M H1 H2 → R v H2 → Q v H2) → te σ H1 Q
abbrev QD (K : PySem.W.Frag) (M : Mov) (te : TE) (σ : L2.St) (H : Hp) (d : PyData) : Prop := QO M te σ H fun v H' => Dt K H' v d
def QA (K : PySem.W.Frag) (M : Mov) (ta : TA) (σ : L2.St) (H : Hp) (ds : List PyData) : Prop := ∀ H1, Gr M H H1 → ∀ Q : List V → Hp → Prop, (∀ vs H2, Gr M H1 H2 → DtAll K H2 vs ds → Q vs H2) → ta σ H1 Q
section
variable {M M0 : Mov} {K : PySem.W.Frag} {σ : L2.St} {H H0 : Hp} {te ta tb : TE} {t : TA} {v : V} {d : PyData} {ds : List PyData} {R : V → Hp → Prop}
theorem qd_var {i : Nat} (hs : σ[i]? = some (some v)) (h : Dt K H v d) : QD K M (tVar i) σ H d := fun H1 g Q k => ⟨v, hs, k v H1 (.refl g.r) (g.dt h)⟩
theorem qd_int {i : Int} : QD K M (tC (.int i)) σ H (.int i) := fun H1 g Q k => k _ H1 (.refl g.r) (.int i)
theorem qd_ix {i : Int} (ha : QD K M ta σ H (.tuple ds)) (hb : QD K M tb σ H (.int i)) (hi : atI ds i = some d) : QD K M (tOp (rIxT K) ta tb) σ H d := fun H1 g Q k => by
  refine ha H1 g _ fun x H2 g2 r1 => ?_
  refine hb H2 (g.trans g2) _ fun y H3 g3 r2 => ?_
  obtain ⟨p, xs, rfl, hq, hd⟩ := dt_tup (g3.dt r1)
  obtain ⟨v, e, hv⟩ := atI_dt hd hi
  exact ⟨p, xs, i, v, rfl, dt_int r2, hq, e, k v H3 (g2.trans g3) hv⟩
theorem qd_sub {i j : Int} (ha : QD K M ta σ H (.int i)) (hb : QD K M tb σ H (.int j)) : QD K M (tOp (rI0 fun i j => .int (i - j)) ta tb) σ H (.int (i - j)) := fun H1 g Q k => by
  refine ha H1 g _ fun x H2 g2 r1 => ?_
  refine hb H2 (g.trans g2) _ fun y H3 g3 r2 => ?_
  exact ⟨i, j, dt_int r1, dt_int r2, k _ H3 (g2.trans g3) (.int _)⟩
theorem qa_nil : QA K M tNil σ H [] := fun H1 g Q k => k [] H1 (.refl g.r) .nil
theorem qa_cons (ha : QD K M ta σ H d) (hr : QA K M t σ H ds) : QA K M (tCons ta t) σ H (d :: ds) := fun H1 g Q k =>
  ha H1 g _ fun x H2 g2 r1 => hr H2 (g.trans g2) _ fun xs H3 g3 r2 => k (x :: xs) H3 (g2.trans g3) (.cons (g3.dt r1) r2)
theorem qd_tup (h : QA K M t σ H ds) (hl : ds.length ≤ 1000 := by exact Nat.le_of_ble_eq_true rfl) : QD K M (tTup t) σ H (.tuple ds) := fun H1 g Q k =>
  h H1 g _ fun vs H2 g2 r => ⟨by rw [r.length]; exact Nat.le_of_lt (small1000 hl), fun p hp => k _ _ (g2.trans (.new g2.r hp)) (.tup (.of upd_same) ((Gr.new g2.r hp).dts r))⟩
theorem qd_cal {Rl : List PyData → PyData → Prop} (s : Sub M0 M) (ha : QA K M t σ H ds) (hr : Rl ds d) : QD K M (tCall (DS K M0 Rl) [] E0 t) σ H d := fun H1 g Q k =>
  ha H1 g _ fun vs H2 g2 r => by
    rw [List.append_nil]
    exact ⟨s.ok _ g2.r, ds, d, r, hr, fun v H' g' hv => k v H' (g2.trans (s.gr _ _ g2.r g')) hv⟩
end

/-! ### comprehensions over frozen data, over a list, over a range; the target a name -/
section
variable {ι : Type} {X : ι → Cx} {M M0 : Mov} {P : Program} {w : World} {K : PySem.W.Frag} {mg : Str → Option Value} {base : Heap} {n : Nat}
variable {σ : L2.St} {H H0 : Hp} {elt tg iter : Expr} {scope : Scope} {own : List (Str × Nat)} {g : TG} {te : TE} {p pos : Pos} {d : PyData} {ds fs : List PyData}
/-- what the list at D holds so far -/
def LcInv (K : PySem.W.Frag) (M : Mov) (H : Hp) (D : Addr) (fs : List PyData) (i : Nat) (H' : Hp) : Prop := Gr M H H' ∧ ∃ acc, H' D = some (.lst acc) ∧ DtAll K H' acc (fs.take i)
theorem lcInv_start {D : Addr} {H1 : Hp} (g : Gr M H H1) (hD : H1 D = none) : LcInv K M H D fs 0 (upd H1 D (.lst [])) :=
  ⟨g.trans (.new g.r hD), [], upd_same, by rw [List.take_zero]; exact .nil⟩
theorem lcInv_step {D : Addr} {H1 H3 : Hp} {i : Nat} {u : V} {f : PyData} (hD : H D = none) (hl : fs.length ≤ 100000) (h : LcInv K M H D fs i H1) (g : Gr M H1 H3) (hf : fs[i]? = some f) (hu : Dt K H3 u f) :
    ∃ acc, H3 D = some (.lst acc) ∧ acc.length < sizeLine ∧ LcInv K M H D fs (i + 1) (upd H3 D (.lst (acc ++ [u]))) := by
  obtain ⟨g1, acc, h1, h2⟩ := h
  have hn : ¬ M.at_ D := not_at g1.l hD
  have h3 := g.keep D _ h1 hn
  have hlt := (List.getElem?_eq_some_iff.mp hf).1
  refine ⟨acc, h3, ?_, (g1.trans g).upd hD h3 loc_lst, acc ++ [u], upd_same, ?_⟩
  · rw [h2.length, List.length_take]
    exact Nat.lt_of_le_of_lt (Nat.le_trans (Nat.min_le_left _ _) (Nat.le_trans (Nat.le_of_lt hlt) hl)) (by decide)
  · have e : fs.take (i + 1) = fs.take i ++ [f] := by
      rw [List.take_add_one, hf]
      rfl
    rw [e]
    have g4 : Gr M H3 H3 := .refl g.r
    have m : ∀ a xs, SqT K H3 a xs → SqT K (upd H3 D (.lst (acc ++ [u]))) a xs := fun a xs q => by
      rcases q with (q | ⟨o, q⟩) | q
      · exact .inl (.inl (by rw [upd_ne (ne_of q h3 (by intro z; cases z))]; exact q))
      · exact .inl (.inr ⟨o, by rw [upd_ne (ne_of q h3 (by intro z; cases z))]; exact q⟩)
      · exact .inr q
    exact ((g.dts h2).mono m).app (.one (hu.mono m))
theorem lcInv_end {D : Addr} {H1 : Hp} (hD : H D = none) (h : LcInv K M H D fs fs.length H1) : NwD K M H fs (.ref D) H1 := by
  obtain ⟨g1, acc, h1, h2⟩ := h
  rw [List.take_length] at h2
  exact ⟨D, acc, rfl, hD, h1, h2⟩
theorem wipe1 {i : Nat} {v : V} : wipe ((wipe σ [i]).set i (some v)) [i] = wipe σ [i] := by
  show ((σ.set i none).set i (some v)).set i none = σ.set i none
  rw [List.set_set, List.set_set]
theorem eo_lcT {x : Str} {ix : Nat} {px : Pos} (cx : CxIs X P w K mg base n) (hN : ∀ j, (X j).N.Nodup) (hi : ED X M K σ H iter (.tuple ds)) (ok : ∀ j, BlkOk (X j).N (X j).env.scope scope [(x, ix)])
    (hg : ∀ j (s : Shared) (H : Hp) (C : Addr) (cl : List (Str × Addr)) (fp : List Addr), PG ((X j).blk s H scope (compEnvC scope cl C (X j).env) fp) (.Name x px) (gName ix))
    (he : ∀ j (s : Shared) (H : Hp) (C : Addr) (cl : List (Str × Addr)) (fp : List Addr), PE ((X j).blk s H scope (compEnvC scope cl C (X j).env) fp) elt te)
    (hl : fs.length = ds.length) (hz : ds.length ≤ 100000)
    (q : ∀ (i : Nat) (v : V) (d f : PyData) (H1 : Hp), ds[i]? = some d → fs[i]? = some f → Gr M H H1 → Dt K H1 v d → QD K M te ((wipe σ [ix]).set ix (some v)) H1 f)
    (hs : ∀ j x, foldedSetIterable iter (X j).env x = pure x := by intro _ _; rfl) : EO X M σ H (.ListComp elt [⟨.Name x px, iter, [], 0⟩] scope pos) (NwD K M H fs) := by
  obtain ⟨ti, pi, qi⟩ := hi
  refine ⟨tLc (iTup K ti) (gName ix) tYes te [ix], fun j => ?_, fun H1 g1 Q k => ?_⟩
  · have hp : PI (X j) (.Name x px) iter (iTup K ti) := by
      rw [← cx.K j]
      exact pi_tup (pi j)
    exact pe_lc (cx.calm j) (hN j) hp (ok j) (hg j) (fun _ _ _ _ _ => pts_nil) (he j) (hs j)
  · refine qi H1 g1 _ fun v H2 g2 hv => ?_
    obtain ⟨a, xs, rfl, hq, hd⟩ := dt_tup hv
    refine ⟨a, rfl, ⟨xs, hq⟩, fun D hD => ?_⟩
    have g12 := g1.trans g2
    have hDH := (g12.fresh hD).1
    refine lc_tup (K := K) (a := a) (xs := xs) (LcInv K M H2 D fs) (lcInv_start (.refl g2.r) hD) (fun i H' _ h => h.1.sqT hq) (fun i y H' hy h => ?_) fun H' h => ?_
    · obtain ⟨d, hdi, hyd⟩ := hd.get' hy
      have hlt : i < fs.length := by
        rw [hl]
        exact (List.getElem?_eq_some_iff.mp hdi).1
      refine ⟨wipe1, ?_⟩
      refine (q i y d fs[i] H' hdi (List.getElem?_eq_getElem hlt) (g12.trans h.1) (h.1.dt hyd)) H' (.refl h.1.r) _ fun u H3 g3 hu => ?_
      exact lcInv_step hD (by rw [hl]; exact hz) h g3 (List.getElem?_eq_getElem hlt) hu
    · have e : xs.length = fs.length := by rw [hl]; exact hd.length
      rw [e] at h
      obtain ⟨D', acc, e1, e2, e3, e4⟩ := lcInv_end hD h
      exact k _ _ (g2.trans h.1) ⟨D', acc, e1, by cases e1; exact hDH, e3, e4⟩
/-- over a list of data that stands -/
theorem eo_lcL {x : Str} {ix : Nat} {px : Pos} (cx : CxIs X P w K mg base n) (hN : ∀ j, (X j).N.Nodup) {a : Addr} {xs : List V} (hi : EO X M σ H iter (fun v H' => v = .ref a)) (hq : ∀ H', Gr M H H' → SqL K H' a xs) (hd : DtAll K H xs ds) (ok : ∀ j, BlkOk (X j).N (X j).env.scope scope [(x, ix)])
    (hg : ∀ j (s : Shared) (H : Hp) (C : Addr) (cl : List (Str × Addr)) (fp : List Addr), PG ((X j).blk s H scope (compEnvC scope cl C (X j).env) fp) (.Name x px) (gName ix))
    (he : ∀ j (s : Shared) (H : Hp) (C : Addr) (cl : List (Str × Addr)) (fp : List Addr), PE ((X j).blk s H scope (compEnvC scope cl C (X j).env) fp) elt te)
    (hl : fs.length = ds.length) (hz : ds.length ≤ 100000)
    (q : ∀ (i : Nat) (v : V) (d f : PyData) (H1 : Hp), ds[i]? = some d → fs[i]? = some f → Gr M H H1 → Dt K H1 v d → QD K M te ((wipe σ [ix]).set ix (some v)) H1 f)
    (hs : ∀ j x, foldedSetIterable iter (X j).env x = pure x := by intro _ _; rfl) : EO X M σ H (.ListComp elt [⟨.Name x px, iter, [], 0⟩] scope pos) (NwD K M H fs) := by
  obtain ⟨ti, pi, qi⟩ := hi
  refine ⟨tLc (iList K ti) (gName ix) tYes te [ix], fun j => ?_, fun H1 g1 Q k => ?_⟩
  · have hp : PI (X j) (.Name x px) iter (iList K ti) := by
      rw [← cx.K j]
      exact pi_list (pi j)
    exact pe_lc (cx.calm j) (hN j) hp (ok j) (hg j) (fun _ _ _ _ _ => pts_nil) (he j) (hs j)
  · refine qi H1 g1 _ fun v H2 g2 hv => ?_
    subst hv
    have g12 := g1.trans g2
    refine ⟨a, rfl, ⟨xs, hq H2 g12⟩, fun D hD => ?_⟩
    have hDH := (g12.fresh hD).1
    refine lc_list (K := K) (a := a) (xs := xs) (LcInv K M H2 D fs) (lcInv_start (.refl g2.r) hD) (fun i H' _ h => hq H' (g12.trans h.1)) (fun i y H' hy h => ?_) fun H' h => ?_
    · obtain ⟨d, hdi, hyd⟩ := hd.get' hy
      have hlt : i < fs.length := by
        rw [hl]
        exact (List.getElem?_eq_some_iff.mp hdi).1
      refine ⟨wipe1, ?_⟩
      refine (q i y d fs[i] H' hdi (List.getElem?_eq_getElem hlt) (g12.trans h.1) ((g12.trans h.1).dt hyd)) H' (.refl h.1.r) _ fun u H3 g3 hu => ?_
      exact lcInv_step hD (by rw [hl]; exact hz) h g3 (List.getElem?_eq_getElem hlt) hu
    · have e : xs.length = fs.length := by rw [hl]; exact hd.length
      rw [e] at h
      obtain ⟨D', acc, e1, e2, e3, e4⟩ := lcInv_end hD h
      exact k _ _ (g2.trans h.1) ⟨D', acc, e1, by cases e1; exact hDH, e3, e4⟩
/-- over a range: what the turns give may be any data with a property -/
theorem eo_lcR {x : Str} {ix : Nat} {px pr : Pos} {m : Int} {a : Expr} (cx : CxIs X P w K mg base n) (hN : ∀ j, (X j).N.Nodup) (hmr : ∀ j, (X j).mg "range" = none) (hi : ED X M K σ H a (.int m)) (hm0 : 0 ≤ m) (hm1 : m ≤ 100000) (ok : ∀ j, BlkOk (X j).N (X j).env.scope scope [(x, ix)])
    (hg : ∀ j (s : Shared) (H : Hp) (C : Addr) (cl : List (Str × Addr)) (fp : List Addr), PG ((X j).blk s H scope (compEnvC scope cl C (X j).env) fp) (.Name x px) (gName ix))
    (he : ∀ j (s : Shared) (H : Hp) (C : Addr) (cl : List (Str × Addr)) (fp : List Addr), PE ((X j).blk s H scope (compEnvC scope cl C (X j).env) fp) elt te)
    (Pd : Nat → PyData → Prop)
    (q : ∀ (i : Nat) H1, (i : Int) < m → Gr M H H1 → QO M te ((wipe σ [ix]).set ix (some (.int i))) H1 fun v H' => ∃ f, Pd i f ∧ Dt K H' v f)
    (hgr : ∀ j, Gl (X j) "range" := by intro _; rfl) (hs1 : ∀ j, starEach [a] (X j).env = [(false, eval a (X j).env)] := by intro _; rfl)
    (hs : ∀ j x, foldedSetIterable (.Call (.Name "range" pr) [a] [] p) (X j).env x = pure x := by intro _ _; rfl) :
    EO X M σ H (.ListComp elt [⟨.Name x px, .Call (.Name "range" pr) [a] [] p, [], 0⟩] scope pos) (fun v H' => ∃ fs, NwD K M H fs v H' ∧ fs.length = m.toNat ∧ ∀ i f, fs[i]? = some f → Pd i f) := by
  obtain ⟨ti, pi, qi⟩ := ao_one hi fun j => hs1 j
  refine ⟨tLc (iRng1 ti) (gName ix) tYes te [ix], fun j => ?_, fun H1 g1 Q k => ?_⟩
  · exact pe_lc (cx.calm j) (hN j) (pi_range1 (hgr j) (hmr j) (pi j) (hs1 j)) (ok j) (hg j) (fun _ _ _ _ _ => pts_nil) (he j) (hs j)
  · refine qi H1 g1 _ fun vs H2 g2 hv => ?_
    obtain ⟨v, rfl, hv⟩ := hv
    rw [dt_int hv]
    have g12 := g1.trans g2
    refine ⟨m, rfl, by omega, by omega, fun D hD => ?_⟩
    have hDH := (g12.fresh hD).1
    refine lc_range (lo := 0) (n := m.toNat) (fun i H' => ∃ fs, LcInv K M H2 D fs i H' ∧ fs.length = i ∧ ∀ t f, fs[t]? = some f → Pd t f) ⟨[], lcInv_start (.refl g2.r) hD, rfl, fun t f e => by simp at e⟩ (fun i H' hi' h => ?_) fun H' h => ?_
    · obtain ⟨fs, h, hlen, hp⟩ := h
      refine ⟨wipe1, ?_⟩
      rw [show (0 : Int) + (i : Int) = (i : Int) from by omega]
      refine (q i H' (by omega) (g12.trans h.1)) H' (.refl h.1.r) _ fun u H3 g3 hu => ?_
      obtain ⟨f, hf, hu⟩ := hu
      have h' : LcInv K M H2 D (fs ++ [f]) i H' := by
        obtain ⟨h1, acc, h2, h3⟩ := h
        refine ⟨h1, acc, h2, ?_⟩
        rw [← hlen, List.take_length] at h3
        rw [← hlen, List.take_left']
        · exact h3
        · rfl
      have hfi : (fs ++ [f])[i]? = some f := by
        rw [← hlen, List.getElem?_append_right (Nat.le_refl _), Nat.sub_self]
        rfl
      obtain ⟨acc, e1, e2, e3⟩ := lcInv_step hD (by rw [List.length_append, hlen]; show i + 1 ≤ 100000; omega) h' g3 hfi hu
      refine ⟨acc, e1, e2, fs ++ [f], e3, by rw [List.length_append, hlen]; rfl, fun t f' e => ?_⟩
      by_cases ht : t < fs.length
      · rw [List.getElem?_append_left ht] at e
        exact hp t f' e
      · rw [List.getElem?_append_right (by omega)] at e
        have et : t = i := by
          have := (List.getElem?_eq_some_iff.mp e).1
          simp at this
          omega
        subst et
        rw [hlen, Nat.sub_self] at e
        cases e
        exact hf
    · obtain ⟨fs, h, hlen, hp⟩ := h
      rw [← hlen] at h
      obtain ⟨D', acc, e1, e2, e3, e4⟩ := lcInv_end hD h
      exact k _ _ (g2.trans h.1) ⟨fs, ⟨D', acc, e1, by cases e1; exact hDH, e3, e4⟩, hlen, hp⟩
end

/-! ### statements -/
def RS (X : Cx) (sts : List Stmt) (D : Ends) (σ : L2.St) (H : Hp) : Prop :=
  ∀ (pins : List (Addr × Obj)) (s : Shared), Inv X pins σ H s → wpAny (model X.prog X.w) X.A (execs sts X.env) (SP X pins D) X.xe s
theorem pss_rs (X : Cx) (sts : List Stmt) : PSs X sts (fun D σ H => RS X sts D σ H) := ⟨fun pins s _ _ _ I h => h pins s I⟩
section
variable {X : Cx} {M M0 : Mov} {P : Program} {w : World} {K : PySem.W.Frag} {mg : Str → Option Value} {base : Heap} {n : Nat}
variable {σ : L2.St} {H H0 : Hp} {st : Stmt} {rest body : List Stmt} {D : Ends} {t : TS} {e c iter tg : Expr} {g : TG} {te : TE} {p pos : Pos} {d : PyData} {ds fs : List PyData} {R : V → Hp → Prop}
theorem rs_nil (h : D.nx σ H) : RS X [] D σ H := fun pins s I => pss_nil.run pins s σ H D I h
theorem rs_cons (hp : PS X st t) (h : t { D with nx := fun σ' H' => RS X rest D σ' H' } σ H) : RS X (st :: rest) D σ H := fun pins s I => (pss_cons hp (pss_rs X rest)).run pins s σ H D I h
theorem rs_set (i : Nat) {x : Str} {pos' : Pos} (ok : M.ok H) (he : EO (fun _ : Unit => X) M σ H e R) (k : ∀ v H1, Gr M H H1 → R v H1 → RS X rest D (σ.set i (some v)) H1) (hN : X.N.Nodup) (hi : X.N[i]? = some x := by rfl) (hx : Loc X.env.scope x := by first | exact Or.inl rfl | exact Or.inr rfl)
    (hs : swapsWith e (some (.Name x pos')) pos.line X.env = pure false := by rfl) (hf : X.fn x = true ∨ X.env.scope.names.lookup x = some .local := by first | exact .inl rfl | exact .inr rfl) : RS X (.Assign [.Name x pos'] e pos :: rest) D σ H := by
  obtain ⟨te, pe, q⟩ := he
  exact rs_cons (ps_set (i := i) hN hi hx (pe ()) hs hf) (q H (.refl ok) _ fun v H1 g r => k v H1 g r)
theorem rs_ret (ok : M.ok H) (he : EO (fun _ : Unit => X) M σ H e R) (k : ∀ v H1, Gr M H H1 → R v H1 → D.rt v H1) : RS X (.Return (some e) pos :: rest) D σ H := by
  obtain ⟨te, pe, q⟩ := he
  exact rs_cons (ps_ret (pe ())) (q H (.refl ok) _ fun v H1 g r => k v H1 g r)
theorem rs_expr (ok : M.ok H) (he : EO (fun _ : Unit => X) M σ H e R) (k : ∀ v H1, Gr M H H1 → R v H1 → RS X rest D σ H1) (hs : swapsWith e none pos.line X.env = pure false := by rfl) : RS X (.Expr e pos :: rest) D σ H := by
  obtain ⟨te, pe, q⟩ := he
  exact rs_cons (ps_expr (pe ()) hs) (q H (.refl ok) _ fun v H1 g r => k v H1 g r)
theorem rs_if {a b : List Stmt} {u : Bool} (ok : M.ok H) (hc : TO (fun _ : Unit => X) M σ H c u) (ht : u = true → ∀ H1, Gr M H H1 → RS X a { D with nx := fun σ' H' => RS X rest D σ' H' } σ H1) (hf : u = false → ∀ H1, Gr M H H1 → RS X b { D with nx := fun σ' H' => RS X rest D σ' H' } σ H1) :
    RS X (.If c a b pos :: rest) D σ H := by
  obtain ⟨tc, pc, qc⟩ := hc
  refine rs_cons (ps_if (pc ()) (pss_rs X a) (pss_rs X b)) (qc H (.refl ok) _ fun H1 g => ?_)
  cases u with
  | true => exact ht rfl H1 g
  | false => exact hf rfl H1 g
theorem rs_for {wi : TI} (hp : PassesOwn (model X.prog X.w) X.A X.env X.xe) (hc : X.calm = true) (hi : PI X tg iter wi) (hg : PG X tg g) (h : tFor wi g (fun D σ H => RS X body D σ H) { D with nx := fun σ' H' => RS X rest D σ' H' } σ H)
    (hs : ∀ x, foldedSetIterable iter X.env x = pure x := by intro _; rfl) : RS X (.For tg iter body [] pos :: rest) D σ H := rs_cons (ps_for hp hc hi hg (pss_rs X body) hs) h
/-- what stands behind a turn, an end -/
abbrev Ends.turn (D : Ends) (N : L2.St → Hp → Prop) (B : L2.St → Hp → Prop) : Ends := { nx := N, rt := D.rt, bk := B, ct := N }
theorem rs_forT (hp : PassesOwn (model X.prog X.w) X.A X.env X.xe) (hc : X.calm = true) (hK : X.K = K) (ok : M.ok H) (hi : ED (fun _ : Unit => X) M K σ H iter (.tuple ds)) (hg : PG X tg g)
    (h : ∀ H1, Gr M H H1 → ∃ Pv : Nat → L2.St → Hp → Prop, Pv 0 σ H1 ∧ (∀ i σ' H', Pv i σ' H' → Gr M H1 H') ∧
      (∀ (i : Nat) (v : V) (d : PyData) σ' H', ds[i]? = some d → Pv i σ' H' → Dt K H' v d → g v σ' H' fun σ2 H2 => RS X body (Ends.turn D (Pv (i + 1)) fun σ3 H3 => RS X rest D σ3 H3) σ2 H2) ∧
      (∀ σ' H', Pv ds.length σ' H' → RS X rest D σ' H')) (hf : ∀ x, foldedSetIterable iter X.env x = pure x := by intro _; rfl) : RS X (.For tg iter body [] pos :: rest) D σ H := by
  obtain ⟨ti, pi, qi⟩ := hi
  have pI : PI X tg iter (iTup K ti) := by
    rw [← hK]
    exact pi_tup (pi ())
  refine rs_for hp hc pI hg ?_ hf
  refine qi H (.refl ok) _ fun v H1 g1 hv => ?_
  obtain ⟨a, xs, rfl, hq, hds⟩ := dt_tup hv
  obtain ⟨Pv, h0, gr, hs, hd⟩ := h H1 g1
  refine ⟨a, rfl, ⟨xs, hq⟩, for_tup (K := K) (a := a) (xs := xs) Pv h0 (fun i σ' H' _ h => (gr _ _ _ h).sqT hq) (fun i y σ' H' hy h => ?_) fun σ' H' h => ?_⟩
  · obtain ⟨d, hdi, hyd⟩ := hds.get' hy
    exact hs i y d σ' H' hdi h ((gr _ _ _ h).dt hyd)
  · have e : xs.length = ds.length := hds.length
    rw [e] at h
    exact hd σ' H' h
/-- over a list that stands through the loop -/
theorem rs_forL (hp : PassesOwn (model X.prog X.w) X.A X.env X.xe) (hc : X.calm = true) (hK : X.K = K) (ok : M.ok H) {a : Addr} {xs : List V} (hi : EO (fun _ : Unit => X) M σ H iter (fun v H' => v = .ref a ∧ SqL K H' a xs)) (hg : PG X tg g)
    (h : ∀ H1, Gr M H H1 → ∃ Pv : Nat → L2.St → Hp → Prop, Pv 0 σ H1 ∧ (∀ i σ' H', i ≤ xs.length → Pv i σ' H' → SqL K H' a xs) ∧
      (∀ (i : Nat) (v : V) σ' H', xs[i]? = some v → Pv i σ' H' → g v σ' H' fun σ2 H2 => RS X body (Ends.turn D (Pv (i + 1)) fun σ3 H3 => RS X rest D σ3 H3) σ2 H2) ∧
      (∀ σ' H', Pv xs.length σ' H' → RS X rest D σ' H')) (hf : ∀ x, foldedSetIterable iter X.env x = pure x := by intro _; rfl) : RS X (.For tg iter body [] pos :: rest) D σ H := by
  obtain ⟨ti, pi, qi⟩ := hi
  have pI : PI X tg iter (iList K ti) := by
    rw [← hK]
    exact pi_list (pi ())
  refine rs_for hp hc pI hg ?_ hf
  refine qi H (.refl ok) _ fun v H1 g1 hv => ?_
  obtain ⟨rfl, hv⟩ := hv
  obtain ⟨Pv, h0, gr, hs, hd⟩ := h H1 g1
  exact ⟨a, rfl, ⟨xs, hv⟩, for_list (K := K) (a := a) (xs := xs) Pv h0 gr (fun i y σ' H' hy h => hs i y σ' H' hy h) fun σ' H' h => hd σ' H' h⟩
/-- over range(a) -/
theorem rs_forR {a : Expr} {pr : Pos} {m : Int} (hp : PassesOwn (model X.prog X.w) X.A X.env X.xe) (hc : X.calm = true) (ok : M.ok H) (hm : X.mg "range" = none) (hi : ED (fun _ : Unit => X) M K σ H a (.int m)) (hm0 : 0 ≤ m) (hm1 : m ≤ 100000) (hg : PG X tg g)
    (h : ∀ H1, Gr M H H1 → ∃ Pv : Nat → L2.St → Hp → Prop, Pv 0 σ H1 ∧
      (∀ (i : Nat) σ' H', (i : Int) < m → Pv i σ' H' → g (.int i) σ' H' fun σ2 H2 => RS X body (Ends.turn D (Pv (i + 1)) fun σ3 H3 => RS X rest D σ3 H3) σ2 H2) ∧
      (∀ σ' H', Pv m.toNat σ' H' → RS X rest D σ' H')) (hgr : Gl X "range" := by rfl) (hs1 : starEach [a] X.env = [(false, eval a X.env)] := by rfl)
    (hf : ∀ x, foldedSetIterable (.Call (.Name "range" pr) [a] [] p) X.env x = pure x := by intro _; rfl) : RS X (.For tg (.Call (.Name "range" pr) [a] [] p) body [] pos :: rest) D σ H := by
  obtain ⟨ti, pi, qi⟩ := ao_one hi fun _ => hs1
  refine rs_for hp hc (pi_range1 hgr hm (pi ()) hs1) hg ?_ hf
  refine qi H (.refl ok) _ fun vs H1 g1 hv => ?_
  obtain ⟨v, rfl, hv⟩ := hv
  rw [dt_int hv]
  obtain ⟨Pv, h0, hs, hd⟩ := h H1 g1
  refine ⟨m, rfl, by omega, by omega, for_range (lo := 0) (n := m.toNat) Pv h0 (fun i σ' H' hi' h => ?_) fun σ' H' h => hd σ' H' h⟩
  rw [show (0 : Int) + (i : Int) = (i : Int) from by omega]
  exact hs i σ' H' (by omega) h
/-- a, b = e, e a pair of data -/
theorem rs_asg {tg : Expr} (ok : M.ok H) (he : EO (fun _ : Unit => X) M σ H e R) (hg : PG X tg g) (k : ∀ v H1, Gr M H H1 → R v H1 → g v σ H1 fun σ2 H2 => RS X rest D σ2 H2)
    (hs : swapsWithSole [tg] e pos.line X.env = pure false := by rfl) (hw : swappedStores [tg] e X.env = pure none := by rfl) (h1 : (assignEach [tg] X.env).map (·.2) = [assign tg X.env] := by rfl) : RS X (.Assign [tg] e pos :: rest) D σ H := by
  obtain ⟨te, pe, q⟩ := he
  exact rs_cons (ps_asg (pe ()) hg hs hw h1) (q H (.refl ok) _ fun v H1 g1 r => k v H1 g1 r)
/-- a, b = x, y -/
theorem rs_par (i j : Nat) {x y : Str} {a b : Expr} {px py pt : Pos} {kt k2 pt2} {RA : List V → Hp → Prop} (hc : X.calm = true) (ok : M.ok H) (ha : AO (fun _ : Unit => X) M σ H [a, b] RA)
    (k : ∀ vs H1, Gr M H H1 → RA vs H1 → ∃ v u, vs = [v, u] ∧ RS X rest D ((σ.set i (some v)).set j (some u)) H1) (hN : X.N.Nodup) (hi : X.N[i]? = some x := by rfl) (hj : X.N[j]? = some y := by rfl) (hij : i ≠ j := by decide)
    (hx : X.env.scope.names.lookup x = some .local := by rfl) (hy : X.env.scope.names.lookup y = some .local := by rfl)
    (hw : swappedStores [.Tuple [.Name x px, .Name y py] kt pt] (.Tuple [a, b] k2 pt2) X.env = pure (some [x, y]) := by rfl)
    (hs : swapsWithSole [.Tuple [.Name x px, .Name y py] kt pt] (.Tuple [a, b] k2 pt2) pos.line X.env = pure false := by rfl) :
    RS X (.Assign [.Tuple [.Name x px, .Name y py] kt pt] (.Tuple [a, b] k2 pt2) pos :: rest) D σ H := by
  obtain ⟨ta, pa, q⟩ := ha
  exact rs_cons (ps_par (i := i) (j := j) hc hN hi hj hij hx hy (pa ()) hw hs) (q H (.refl ok) _ fun vs H1 g r => k vs H1 g r)
theorem ad_ao {ι : Type} {X : ι → Cx} {es : List Expr} (h : AD X M K σ H es ds) : AO X M σ H es (fun vs H' => DtAll K H' vs ds) := h
theorem dts2 {vs : List V} {d1 d2 : PyData} (h : DtAll K H vs [d1, d2]) : ∃ v u, vs = [v, u] ∧ Dt K H v d1 ∧ Dt K H u d2 := by
  cases h with
  | cons h t =>
    cases t with
    | cons h2 t =>
      cases t
      exact ⟨_, _, rfl, h, h2⟩
/-- the target (a, b) of two names, at a pair of data -/
theorem g_pair {i j : Nat} {v : V} {d1 d2 : PyData} {Q : L2.St → Hp → Prop} (h : Dt K H v (.tuple [d1, d2])) (q : ∀ x y, Dt K H x d1 → Dt K H y d2 → Q ((σ.set i (some x)).set j (some y)) H) : gTup K 2 (gCons (gName i) (gCons (gName j) gNil)) v σ H Q := by
  obtain ⟨a, xs, rfl, hq, hd⟩ := dt_tup h
  obtain ⟨x, y, rfl, hx, hy⟩ := dts2 hd
  exact ⟨a, _, rfl, hq, rfl, x, [y], rfl, y, [], rfl, rfl, q x y hx hy⟩
/-- l.append(e), l a list of the body's own -/
theorem rs_append {o : Expr} {l : Addr} {xs : List V} {p1 p2 : Pos} (ok : M.ok H) (hO : EO (fun _ : Unit => X) M σ H o (fun v _ => v = .ref l)) (hl : H l = some (.lst xs)) (hna : ¬ M.at_ l) (hz : xs.length ≤ 100000) (he : EO (fun _ : Unit => X) M σ H e R)
    (k : ∀ v H1, Gr M H H1 → H1 l = some (.lst xs) → R v H1 → RS X rest D σ (upd H1 l (.lst (xs ++ [v]))))
    (hs : swapsWith (.Call (.Attribute o "append" p1) [e] [] p2) none pos.line X.env = pure false := by rfl)
    (hbase : attributeBase o "append" X.env (eval o X.env) = eval o X.env := by rfl)
    (hfew : ((backTo p2 (starEach (e :: []) X.env)).all (fun x => !x.1) && (backToKw p2 (keywordEach [] X.env)).all (fun x => x.1.isSome)
      && decide ((e :: ([] : List Expr)).length + ([] : List Keyword).length + (if ([] : List Keyword).isEmpty then 0 else 1) < 30)) = true := by rfl)
    (hline : (p1.endLine == p2.line) = true := by rfl) (hst : starEach (e :: []) X.env = (false, eval e X.env) :: starEach [] X.env := by rfl) (hpl : (backTo p2 (starEach [] X.env)).any (·.1) = false := by rfl) :
    RS X (.Expr (.Call (.Attribute o "append" p1) [e] [] p2) pos :: rest) D σ H := by
  obtain ⟨to, po, qo⟩ := hO
  obtain ⟨te, pe, qe⟩ := he
  refine rs_cons (ps_expr (pe_bm PySem.F.plainAttrs_list PySem.F.slot_list_append PySem.F.type_list_append mt_append (po ()) (pa_cons (pe ()) pa_nil hst) hbase hfew hline hst hpl) hs) ?_
  refine qo H (.refl ok) _ fun v H1 g1 hv => ?_
  subst hv
  have h1 := g1.keep l _ hl hna
  refine ⟨.inl ⟨rfl, _, SqL.of h1⟩, ?_⟩
  refine qe H1 g1 _ fun u H2 g2 hu => ?_
  have h2 := g2.keep l _ h1 hna
  exact ⟨l, xs, u, rfl, rfl, h2, Nat.lt_of_le_of_lt hz (by decide), k u H2 (g1.trans g2) h2 hu⟩
end
end Kt
end
section
set_option maxHeartbeats 4000000
/-! Kt: the text by places, how a def's promise is shown. -/
namespace Kt
open PySem PySem.Spec PyProof.Rows L2
def top (i : Nat) : Stmt := PySem.Challenge.pw_keptmisses_k41_whole_advisers_followed.main.body.getD i (.Pass ⟨0, 0, 0, 0⟩)
abbrev FnP (K : PySem.W.Frag) (x : Str) (st : Stmt) (f : Addr) (fd : FuncData) : Prop := FunD K x x (defArgs st) (defBody st) (defScope st) [] [] f fd
/-- the module's name x is the def st -/
structure Has (K : PySem.W.Frag) (mg : Str → Option Value) (x : Str) (st : Stmt) : Prop where
  ex : ∃ f fd, FnP K x st f fd ∧ mg x = some (.ref f)
/-- the built-ins' names are free in the module -/
structure Blt (mg : Str → Option Value) : Prop where
  isi : mg "isinstance" = none
  len : mg "len" = none
  tuple : mg "tuple" = none
  all : mg "all" = none
  min : mg "min" = none
  abs : mg "abs" = none
  int : mg "int" = none
  bool : mg "bool" = none
  list : mg "list" = none
  range : mg "range" = none
  zip : mg "zip" = none
  sorted : mg "sorted" = none
  gcd : mg "gcd" = some (.builtin "math.gcd")
abbrev bX (P : Program) (w : World) (K : PySem.W.Frag) (mg : Str → Option Value) (base : Heap) (N : List Str) (x : Str) (sc : Scope) (f : Addr) (cdv : Value) (A : Around) (outer : List Env) (s : Shared) (H : Hp) (E : XK) : Cx :=
  (cxOf CX0 P w K mg base N x sc f cdv A outer s H E).nox
section
variable {P : Program} {w : World} {K : PySem.W.Frag} {mg : Str → Option Value} {base : Heap}
theorem cal_of {x : Str} {st : Stmt} {N ps : List Str} {k : Nat} {sp : Sp} (F : Has K mg x st) (S : FnScope N ps (defScope st)) (len : ∀ vs H Q E, sp vs H Q E → vs.length = ps.length)
    (hb : ∀ (kV doc pm : Value) (an : Option Addr) (cdv ct : Value) (us : List Value), us.length = ps.length → bindArgs (PySem.W.fnOf x x (defArgs st) (defBody st) (defScope st) .none kV doc pm an cdv ct) ⟨us, []⟩ = pure (ps.zip us))
    (body : ∀ (f : Addr) (cdv : Value) (A : Around) (outer : List Env) (s : Shared) (H : Hp) (vs : List V) (Q : VK) (E : XK), CxIs (fun _ : Unit => bX P w K mg base N x (defScope st) f cdv A outer s H E) P w K mg base k → sp vs H Q E →
      RS (bX P w K mg base N x (defScope st) f cdv A outer s H E) (defBody st) { nx := fun _ H' => Q .non H', rt := Q } (start N vs) H) : Cal P w K mg base (k + 1) x ps sp := by
  obtain ⟨f, fd, F, m⟩ := F.ex
  refine ⟨f, fd, ?_, m, F.kp, F.bindsN hb⟩
  refine FunD.ok F S len fun cdv A outer s H vs Q E hr h => ⟨_, (pss_rs _ _).nox, ?_⟩
  exact body f cdv A outer s H vs Q E ⟨fun _ => rfl, fun _ => rfl, fun _ => rfl, fun _ => rfl, fun _ => rfl, fun _ => hr, fun _ => rfl⟩ h
theorem ds_len {M : Mov} {R : List PyData → PyData → Prop} {n : Nat} (h : ∀ ds d, R ds d → ds.length = n) : ∀ vs H Q E, DS K M R vs H Q E → vs.length = n := fun vs H Q E ⟨_, ds, d, a, b, _⟩ => a.length.trans (h ds d b)
theorem dts1 {H : Hp} {vs : List V} {d1 : PyData} (h : DtAll K H vs [d1]) : ∃ v, vs = [v] ∧ Dt K H v d1 := by
  cases h with
  | cons h t =>
    cases t
    exact ⟨_, rfl, h⟩
theorem dts3 {H : Hp} {vs : List V} {d1 d2 d3 : PyData} (h : DtAll K H vs [d1, d2, d3]) : ∃ v u x, vs = [v, u, x] ∧ Dt K H v d1 ∧ Dt K H u d2 ∧ Dt K H x d3 := by
  cases h with
  | cons h t =>
    obtain ⟨v, u, rfl, h1, h2⟩ := dts2 t
    exact ⟨_, _, _, rfl, h, h1, h2⟩
end
section
variable {ι : Type} {X : ι → Cx} {M : Mov} {K : PySem.W.Frag} {σ : L2.St} {H : Hp} {a b c : Expr} {pos : Pos} {i j k : Int}
theorem ed_chain (ha : ED X M K σ H a (.int i)) (hb : ED X M K σ H b (.int j)) (hc : ED X M K σ H c (.int k)) (hm : lastMarks [.LtE, .LtE] [b, c] = false := by with_unfolding_all rfl) : ED X M K σ H (.Compare a [.LtE, .LtE] [b, c] pos) (.bool (decide (i ≤ j) && decide (j ≤ k))) := by
  obtain ⟨ta, pa, qa⟩ := ha
  obtain ⟨tb, pb, qb⟩ := hb
  obtain ⟨tc, pc, qc⟩ := hc
  refine ⟨_, fun m => pe_chain op_le op_le (pa m) (pb m) (pc m) hm, fun H1 g Q q => ?_⟩
  refine qa H1 g _ fun x H2 g2 r1 => ?_
  refine qb H2 (g.trans g2) _ fun y H3 g3 r2 => ?_
  refine ⟨i, j, dt_int r1, dt_int r2, decide (i ≤ j), rfl, ?_⟩
  by_cases h : i ≤ j
  · rw [decide_eq_true h, Bool.true_and] at *
    rw [if_pos rfl]
    refine qc H3 ((g.trans g2).trans g3) _ fun z H4 g4 r3 => ?_
    exact ⟨j, k, dt_int r2, dt_int r3, q _ H4 ((g2.trans g3).trans g4) (.bl _)⟩
  · rw [decide_eq_false h, Bool.false_and] at *
    rw [if_neg Bool.false_ne_true]
    exact q _ H3 (g2.trans g3) (.bl _)
end

/-! ### simple expressions by themselves -/
local macro_rules | `(tactic| walk_at "ed") => `(tactic| first
  | exact ed_int
  | exact ed_bl
  | exact ed_non
  | exact ed_var 0 rfl (by assumption)
  | exact ed_var 1 rfl (by assumption)
  | exact ed_var 2 rfl (by assumption)
  | exact ed_var 3 rfl (by assumption)
  | exact ed_var 4 rfl (by assumption)
  | exact ed_var 5 rfl (by assumption)
  | exact ed_var 6 rfl (by assumption)
  | exact ed_var 7 rfl (by assumption)
  | exact ed_glob (v := .int _) (fun _ => rfl) (fun _ => by assumption) ⟨_, rfl⟩ (fun _ => .int _)
  | (refine' ed_add ?ha ?hb; (case ha => walk_at "ed"); (case hb => walk_at "ed"))
  | (refine' ed_sub ?ha ?hb; (case ha => walk_at "ed"); (case hb => walk_at "ed"))
  | (refine' ed_ix (fun _ => rfl) ?ha ?hb ?hi; (case ha => walk_at "ed"); (case hb => walk_at "ed"); (case hi => rfl))
  | (refine' ed_len (fun _ => rfl) (fun _ => Blt.len (by assumption)) ?ha; (case ha => walk_at "ed")))
/-! ### checks -/
section
variable {P : Program} {w : World} {K : PySem.W.Frag} {mg : Str → Option Value} {base : Heap}
def RIsInteger (ds : List PyData) (d : PyData) : Prop := ∃ i, ds = [.int i] ∧ d = .bool true
theorem c_is_integer (F : Has K mg "is_integer" (top 8)) (T : Blt mg) : Cal P w K mg base 1 "is_integer" ["thing"] (DS K .no RIsInteger) := by
  have sc : FnScope ["thing"] ["thing"] (defScope (top 8)) := ⟨rfl, rfl, rfl, by decide +kernel, rfl, by decide +kernel, by decide +kernel⟩
  refine cal_of F sc (ds_len fun ds d ⟨i, e, _⟩ => by rw [e]; rfl) (fun _ _ _ _ _ _ us hl => match us, hl with | [_], _ => rfl) (fun f cdv A outer s H vs Q E cx h => ?_)
  obtain ⟨ok, ds, d, hd, ⟨i, rfl, rfl⟩, q⟩ := h
  obtain ⟨v, rfl, hv⟩ := dts1 hd
  refine rs_ret ok (R := fun v H' => Dt K H' v (.bool true)) (ed_and (ed_isi cx.K (fun _ => T.isi) (fun _ => T.int) (by decide +kernel) (ed_var 0 rfl hv) kb_int_int) (ed_one (ed_not (ed_isi cx.K (fun _ => T.isi) (fun _ => T.bool) (by decide +kernel) (ed_var 0 rfl hv) kb_int_bool)))) fun v H1 g r => q v H1 g r
def RIsBetween (ds : List PyData) (d : PyData) : Prop := ∃ i a b, ds = [.int i, .int a, .int b] ∧ d = .bool (decide (a ≤ i) && decide (i ≤ b))
theorem c_is_between (F : Has K mg "is_between" (top 9)) (C : Cal P w K mg base 1 "is_integer" ["thing"] (DS K .no RIsInteger)) : Cal P w K mg base 2 "is_between" ["thing", "least", "most"] (DS K .no RIsBetween) := by
  have sc : FnScope ["thing", "least", "most"] ["thing", "least", "most"] (defScope (top 9)) := ⟨rfl, rfl, rfl, by decide +kernel, rfl, by decide +kernel, by decide +kernel⟩
  refine cal_of F sc (ds_len fun ds d ⟨i, a, b, e, _⟩ => by rw [e]; rfl) (fun _ _ _ _ _ _ us hl => match us, hl with | [_, _, _], _ => rfl) (fun f cdv A outer s H vs Q E cx h => ?_)
  obtain ⟨ok, ds, d, hd, ⟨i, a, b, rfl, rfl⟩, q⟩ := h
  obtain ⟨v, u, t, rfl, hv, hu, ht⟩ := dts3 hd
  refine rs_ret ok (R := fun v H' => Dt K H' v (.bool (true && (decide (a ≤ i) && decide (i ≤ b))))) (ed_and (ed_call C cx (by decide) (.refl _) (ad_cons (by walk_at "ed") ad_nil) ⟨i, rfl, rfl⟩) (ed_one (ed_chain (by walk_at "ed") (by walk_at "ed") (by walk_at "ed")))) fun v H1 g r => q v H1 g r
def RIsIndex (ds : List PyData) (d : PyData) : Prop := ∃ i m, ds = [.int i, .int m] ∧ d = .bool (decide (0 ≤ i) && decide (i ≤ m - 1))
theorem c_is_index (F : Has K mg "is_index" (top 10)) (C : Cal P w K mg base 2 "is_between" ["thing", "least", "most"] (DS K .no RIsBetween)) : Cal P w K mg base 3 "is_index" ["thing", "many"] (DS K .no RIsIndex) := by
  have sc : FnScope ["thing", "many"] ["thing", "many"] (defScope (top 10)) := ⟨rfl, rfl, rfl, by decide +kernel, rfl, by decide +kernel, by decide +kernel⟩
  refine cal_of F sc (ds_len fun ds d ⟨i, a, e, _⟩ => by rw [e]; rfl) (fun _ _ _ _ _ _ us hl => match us, hl with | [_, _], _ => rfl) (fun f cdv A outer s H vs Q E cx h => ?_)
  obtain ⟨ok, ds, d, hd, ⟨i, m, rfl, rfl⟩, q⟩ := h
  obtain ⟨v, u, rfl, hv, hu⟩ := dts2 hd
  refine rs_ret ok (ed_call C cx (by decide) (.refl _) (ad_cons (by walk_at "ed") (ad_cons (by walk_at "ed") (ad_cons (by walk_at "ed") ad_nil))) ⟨i, 0, m - 1, rfl, rfl⟩) fun v H1 g r => q v H1 g r
def RIsTupleOf (ds : List PyData) (d : PyData) : Prop := ∃ xs m, ds = [.tuple xs, .int m] ∧ d = .bool (decide ((xs.length : Int) = m))
theorem c_is_tuple_of (F : Has K mg "is_tuple_of" (top 11)) (T : Blt mg) : Cal P w K mg base 1 "is_tuple_of" ["thing", "many"] (DS K .no RIsTupleOf) := by
  have sc : FnScope ["thing", "many"] ["thing", "many"] (defScope (top 11)) := ⟨rfl, rfl, rfl, by decide +kernel, rfl, by decide +kernel, by decide +kernel⟩
  refine cal_of F sc (ds_len fun ds d ⟨i, a, e, _⟩ => by rw [e]; rfl) (fun _ _ _ _ _ _ us hl => match us, hl with | [_, _], _ => rfl) (fun f cdv A outer s H vs Q E cx h => ?_)
  obtain ⟨ok, ds, d, hd, ⟨xs, m, rfl, rfl⟩, q⟩ := h
  obtain ⟨v, u, rfl, hv, hu⟩ := dts2 hd
  refine rs_ret ok (R := fun v H' => Dt K H' v (.bool (true && decide ((xs.length : Int) = m)))) (ed_and (ed_isi (d := .tuple xs) (tn := "tuple") cx.K (fun _ => T.isi) (fun _ => T.tuple) (by decide +kernel) (by walk_at "ed") kb_tuple_tuple) (ed_one (ed_eqI (by walk_at "ed") (by walk_at "ed")))) fun v H1 g r => q v H1 g r
def RCheckNumber (ds : List PyData) (d : PyData) : Prop := ∃ i a b, ds = [.int i, .int a, .int b] ∧ a ≤ i ∧ i ≤ b ∧ d = .none
theorem c_check_number (F : Has K mg "check_number" (top 12)) (C : Cal P w K mg base 2 "is_between" ["thing", "least", "most"] (DS K .no RIsBetween)) : Cal P w K mg base 3 "check_number" ["thing", "least", "most"] (DS K .no RCheckNumber) := by
  have sc : FnScope ["thing", "least", "most"] ["thing", "least", "most"] (defScope (top 12)) := ⟨rfl, rfl, rfl, by decide +kernel, rfl, by decide +kernel, by decide +kernel⟩
  refine cal_of F sc (ds_len fun ds d ⟨i, a, b, e, _⟩ => by rw [e]; rfl) (fun _ _ _ _ _ _ us hl => match us, hl with | [_, _, _], _ => rfl) (fun f cdv A outer s H vs Q E cx h => ?_)
  obtain ⟨ok, ds, d, hd, ⟨i, a, b, rfl, h1, h2, rfl⟩, q⟩ := h
  obtain ⟨v, u, t, rfl, hv, hu, ht⟩ := dts3 hd
  refine rs_if ok (to_not (to_val (ed_call C cx (by decide) (.refl _) (ad_cons (by walk_at "ed") (ad_cons (by walk_at "ed") (ad_cons (by walk_at "ed") ad_nil))) ⟨i, a, b, rfl, rfl⟩))) (fun e => ?_) fun _ H1 g => rs_nil (rs_nil (q _ _ g .non))
  rw [decide_eq_true h1, decide_eq_true h2] at e
  cases e
end
end Kt
end
section
set_option maxHeartbeats 4000000
/-! Kt: fractions, the program's and the law's. -/
namespace Kt
open PySem PySem.Spec PyProof.Rows L2
local macro_rules | `(tactic| walk_at "ed") => `(tactic| first
  | exact ed_int
  | exact ed_bl
  | exact ed_non
  | exact ed_var 0 rfl (by assumption)
  | exact ed_var 1 rfl (by assumption)
  | exact ed_var 2 rfl (by assumption)
  | exact ed_var 3 rfl (by assumption)
  | exact ed_var 4 rfl (by assumption)
  | exact ed_var 5 rfl (by assumption)
  | exact ed_var 6 rfl (by assumption)
  | exact ed_var 7 rfl (by assumption)
  | exact ed_glob (v := .int _) (fun _ => rfl) (fun _ => by assumption) ⟨_, rfl⟩ (fun _ => .int _)
  | (refine' ed_add ?ha ?hb; (case ha => walk_at "ed"); (case hb => walk_at "ed"))
  | (refine' ed_sub ?ha ?hb; (case ha => walk_at "ed"); (case hb => walk_at "ed"))
  | (refine' ed_ix (fun _ => rfl) ?ha ?hb ?hi; (case ha => walk_at "ed"); (case hb => walk_at "ed"); (case hi => rfl))
  | (refine' ed_len (fun _ => rfl) (fun _ => Blt.len (by assumption)) ?ha; (case ha => walk_at "ed")))
def fr (q : Rat) : PyData := .tuple [.int q.num, .int (q.den : Int)]
theorem mulW {i j : Int} {a b : Nat} (hi : i.natAbs < 2 ^ a) (hj : j.natAbs < 2 ^ b) (h0 : 0 < a) (h1 : 0 < b) (h : a + b ≤ 1000000) : CMulW i j := wide_mul hi hj h0 h1 h
set_option exponentiation.threshold 5000
theorem Sm.n {q : Rat} (h : Sm q) : q.num.natAbs < 2 ^ 1000 := h.1
theorem Sm.d {q : Rat} (h : Sm q) : ((q.den : Nat) : Int).natAbs < 2 ^ 1000 := by
  rw [Int.natAbs_natCast]
  exact h.2
theorem Sm.mul {p q : Rat} (hp : Sm p) (hq : Sm q) : CMulW p.num (q.den : Int) := mulW hp.n hq.d (by decide) (by decide) (by decide)
theorem Sm.mulD {p q : Rat} (hp : Sm p) (hq : Sm q) : CMulW (p.den : Int) (q.den : Int) := mulW hp.d hq.d (by decide) (by decide) (by decide)
theorem Sm.mulN {p q : Rat} (hp : Sm p) (hq : Sm q) : CMulW p.num q.num := mulW hp.n hq.n (by decide) (by decide) (by decide)
theorem den_bound {p q : Rat} (hp : Sm p) (hq : Sm q) : p.den * q.den < 2 ^ 4000 := by
  have h1 : p.den * q.den < 2 ^ 1000 * 2 ^ 1000 := Nat.mul_lt_mul'' hp.2 hq.2
  refine Nat.lt_of_lt_of_le h1 ?_
  rw [← Nat.pow_add]
  exact Nat.pow_le_pow_right (by decide) (by decide)
theorem den_pos' (q : Rat) : 0 < q.den := q.den_pos
section
variable {ι : Type} {X : ι → Cx} {M : Mov} {K : PySem.W.Frag} {σ : L2.St} {H : Hp} {a b e : Expr} {es : List Expr} {p pos : Pos} {i j : Int}
theorem ed_gcd (hm : ∀ j, (X j).mg "gcd" = some (.builtin "math.gcd")) (ha : AD X M K σ H (e :: es) [.int i, .int j]) (hg : ∀ j, Gl (X j) "gcd" := by intro _; rfl)
    (he : ∀ j, starEach (e :: es) (X j).env = (false, eval e (X j).env) :: starEach es (X j).env := by intro _; rfl) (hpl : ∀ j, (backTo pos (starEach es (X j).env)).any (·.1) = false := by intro _; rfl) : ED X M K σ H (.Call (.Name "gcd" p) (e :: es) [] pos) (.int ((Nat.gcd i.natAbs j.natAbs : Nat) : Int)) := by
  obtain ⟨ta, pa, qa⟩ := ha
  refine ⟨_, fun m => pe_callBfun cr_gcd (hg m) (hm m) (pa m) (by decide) (he m) (hpl m), fun H1 g Q k => qa H1 g _ fun vs H2 g2 r => ?_⟩
  obtain ⟨v, u, rfl, hv, hu⟩ := dts2 r
  rw [dt_int hv, dt_int hu]
  exact ⟨i, j, rfl, k _ H2 g2 (.int _)⟩
end
section
variable {X : Cx} {M : Mov} {K : PySem.W.Frag} {σ : L2.St} {H : Hp} {D : Ends} {c : Expr} {body rest : List Stmt} {pos : Pos} {tc : TT}
theorem rs_while (hp : PassesOwn (model X.prog X.w) X.A X.env X.xe) (hc : PT X c tc) (h : tWhile tc (fun D σ H => RS X body D σ H) { D with nx := fun σ' H' => RS X rest D σ' H' } σ H) : RS X (.While c body [] pos :: rest) D σ H :=
  rs_cons (ps_while hp hc (pss_rs X body)) h
end
theorem fr_mk (t : Int) {n : Nat} (h : 0 < n) : fr (mkRat t n) = .tuple [.int (t / ((Nat.gcd t.natAbs n : Nat) : Int)), .int ((n : Int) / ((Nat.gcd t.natAbs n : Nat) : Int))] := by
  unfold fr
  rw [Rat.num_mkRat, Rat.den_mkRat, if_neg (by omega), if_neg (by omega), Nat.gcd_comm]
  rfl
theorem gcd_ok (t : Int) {n : Nat} (h : 0 < n) (hb : n < 2 ^ 4000) : CDivW t ((Nat.gcd t.natAbs n : Nat) : Int) := by
  have h1 : Nat.gcd t.natAbs n ≤ n := Nat.gcd_le_right _ h
  have h0 : 0 < Nat.gcd t.natAbs n := Nat.gcd_pos_of_pos_right _ h
  refine wide_div (b := 4000) (by omega) ?_ (by decide) (by decide)
  rw [Int.natAbs_natCast]
  exact Nat.lt_of_le_of_lt h1 hb
theorem gcd_ok' (t : Int) (m : Int) {n : Nat} (h : 0 < n) (hb : n < 2 ^ 4000) : CDivW m ((Nat.gcd t.natAbs n : Nat) : Int) := ⟨(gcd_ok t h hb).1, (gcd_ok t h hb).2⟩
section
variable {P : Program} {w : World} {K : PySem.W.Frag} {mg : Str → Option Value} {base : Heap}
def RFraction (ds : List PyData) (d : PyData) : Prop := ∃ (t : Int) (n : Nat), ds = [.int t, .int (n : Int)] ∧ 0 < n ∧ n < 2 ^ 4000 ∧ d = fr (mkRat t n)
theorem c_fraction (F : Has K mg "fraction" (top 16)) (T : Blt mg) : Cal P w K mg base 1 "fraction" ["top", "bottom"] (DS K .no RFraction) := by
  have sc : FnScope ["top", "bottom", "shared"] ["top", "bottom"] (defScope (top 16)) := ⟨rfl, rfl, rfl, by decide +kernel, rfl, by decide +kernel, by decide +kernel⟩
  refine cal_of F sc (ds_len fun ds d ⟨i, a, e, _⟩ => by rw [e]; rfl) (fun _ _ _ _ _ _ us hl => match us, hl with | [_, _], _ => rfl) (fun f cdv A outer s H vs Q E cx h => ?_)
  obtain ⟨ok, ds, d, hd, ⟨t, n, rfl, h0, hb, rfl⟩, q⟩ := h
  obtain ⟨v, u, rfl, hv, hu⟩ := dts2 hd
  refine rs_set 2 ok (ed_gcd (fun _ => T.gcd) (ad_cons (by walk_at "ed") (ad_cons (by walk_at "ed") ad_nil))) (fun z H1 g hz => ?_) sc.nd
  rw [Int.natAbs_natCast] at hz
  replace hv := g.dt hv
  replace hu := g.dt hu
  refine rs_if g.r (to_lt (by walk_at "ed") (by walk_at "ed")) (fun e => absurd (of_decide_eq_true e) (by omega)) fun _ H2 g2 => rs_nil ?_
  replace hv := g2.dt hv
  replace hu := g2.dt hu
  replace hz := g2.dt hz
  refine rs_ret g2.r (ed_tup (ad_cons (ed_fdiv (by walk_at "ed") (by walk_at "ed") (gcd_ok' _ _ h0 hb)) (ad_cons (ed_fdiv (by walk_at "ed") (by walk_at "ed") (gcd_ok' _ _ h0 hb)) ad_nil))) fun x H3 g3 hx => ?_
  refine q x H3 (g.trans (g2.trans g3)) ?_
  rw [fr_mk t h0]
  exact hx
def RLess (ds : List PyData) (d : PyData) : Prop := ∃ p q : Rat, ds = [fr p, fr q] ∧ Sm p ∧ Sm q ∧ d = .bool (decide (p < q))
theorem less_dec (p q : Rat) : decide (p.num * (q.den : Int) < q.num * (p.den : Int)) = decide (p < q) := by
  rw [decide_eq_decide]
  exact (Rat.lt_iff p q).symm
theorem c_is_less (F : Has K mg "is_less" (top 17)) : Cal P w K mg base 1 "is_less" ["one", "other"] (DS K .no RLess) := by
  have sc : FnScope ["one", "other"] ["one", "other"] (defScope (top 17)) := ⟨rfl, rfl, rfl, by decide +kernel, rfl, by decide +kernel, by decide +kernel⟩
  refine cal_of F sc (ds_len fun ds d ⟨i, a, e, _⟩ => by rw [e]; rfl) (fun _ _ _ _ _ _ us hl => match us, hl with | [_, _], _ => rfl) (fun f cdv A outer s H vs Q E cx h => ?_)
  obtain ⟨ok, ds, d, hd, ⟨p, r, rfl, sp, sr, rfl⟩, q⟩ := h
  obtain ⟨v, u, rfl, hv, hu⟩ := dts2 hd
  unfold fr at hv hu
  refine rs_ret ok (ed_lt (ed_mul (by walk_at "ed") (by walk_at "ed") (sp.mul sr)) (ed_mul (by walk_at "ed") (by walk_at "ed") (sr.mul sp))) fun x H3 g3 hx => q x H3 g3 ?_
  rw [← less_dec]
  exact hx
theorem plus_fr (p q : Rat) : p + q = mkRat (p.num * (q.den : Int) + q.num * (p.den : Int)) (p.den * q.den) := Rat.add_def' p q
theorem minus_fr (p q : Rat) : p - q = mkRat (p.num * (q.den : Int) - q.num * (p.den : Int)) (p.den * q.den) := Rat.sub_def' p q
theorem times_fr (p q : Rat) : p * q = mkRat (p.num * q.num) (p.den * q.den) := Rat.mul_def' p q
theorem den_cast (p q : Rat) : (p.den : Int) * (q.den : Int) = ((p.den * q.den : Nat) : Int) := by push_cast; rfl
def RPlus (ds : List PyData) (d : PyData) : Prop := ∃ p q : Rat, ds = [fr p, fr q] ∧ Sm p ∧ Sm q ∧ d = fr (p + q)
def RMinus (ds : List PyData) (d : PyData) : Prop := ∃ p q : Rat, ds = [fr p, fr q] ∧ Sm p ∧ Sm q ∧ d = fr (p - q)
def RTimes (ds : List PyData) (d : PyData) : Prop := ∃ p q : Rat, ds = [fr p, fr q] ∧ Sm p ∧ Sm q ∧ d = fr (p * q)
theorem c_plus (F : Has K mg "plus" (top 18)) (C : Cal P w K mg base 1 "fraction" ["top", "bottom"] (DS K .no RFraction)) : Cal P w K mg base 2 "plus" ["one", "other"] (DS K .no RPlus) := by
  have sc : FnScope ["one", "other"] ["one", "other"] (defScope (top 18)) := ⟨rfl, rfl, rfl, by decide +kernel, rfl, by decide +kernel, by decide +kernel⟩
  refine cal_of F sc (ds_len fun ds d ⟨i, a, e, _⟩ => by rw [e]; rfl) (fun _ _ _ _ _ _ us hl => match us, hl with | [_, _], _ => rfl) (fun f cdv A outer s H vs Q E cx h => ?_)
  obtain ⟨ok, ds, d, hd, ⟨p, r, rfl, sp, sr, rfl⟩, q⟩ := h
  obtain ⟨v, u, rfl, hv, hu⟩ := dts2 hd
  unfold fr at hv hu
  refine rs_ret ok (ed_call C cx (by decide) (.refl _) (ad_cons (ed_add (ed_mul (by walk_at "ed") (by walk_at "ed") (sp.mul sr)) (ed_mul (by walk_at "ed") (by walk_at "ed") (sr.mul sp))) (ad_cons (ED.cast (ed_mul (by walk_at "ed") (by walk_at "ed") (sp.mulD sr)) (congrArg PyData.int (den_cast p r))) ad_nil)) ⟨_, _, rfl, Nat.mul_pos p.den_pos r.den_pos, den_bound sp sr, rfl⟩) fun x H3 g3 hx => q x H3 g3 ?_
  rw [plus_fr]
  exact hx
theorem c_minus (F : Has K mg "minus" (top 19)) (C : Cal P w K mg base 1 "fraction" ["top", "bottom"] (DS K .no RFraction)) : Cal P w K mg base 2 "minus" ["one", "other"] (DS K .no RMinus) := by
  have sc : FnScope ["one", "other"] ["one", "other"] (defScope (top 19)) := ⟨rfl, rfl, rfl, by decide +kernel, rfl, by decide +kernel, by decide +kernel⟩
  refine cal_of F sc (ds_len fun ds d ⟨i, a, e, _⟩ => by rw [e]; rfl) (fun _ _ _ _ _ _ us hl => match us, hl with | [_, _], _ => rfl) (fun f cdv A outer s H vs Q E cx h => ?_)
  obtain ⟨ok, ds, d, hd, ⟨p, r, rfl, sp, sr, rfl⟩, q⟩ := h
  obtain ⟨v, u, rfl, hv, hu⟩ := dts2 hd
  unfold fr at hv hu
  refine rs_ret ok (ed_call C cx (by decide) (.refl _) (ad_cons (ed_sub (ed_mul (by walk_at "ed") (by walk_at "ed") (sp.mul sr)) (ed_mul (by walk_at "ed") (by walk_at "ed") (sr.mul sp))) (ad_cons (ED.cast (ed_mul (by walk_at "ed") (by walk_at "ed") (sp.mulD sr)) (congrArg PyData.int (den_cast p r))) ad_nil)) ⟨_, _, rfl, Nat.mul_pos p.den_pos r.den_pos, den_bound sp sr, rfl⟩) fun x H3 g3 hx => q x H3 g3 ?_
  rw [minus_fr]
  exact hx
theorem c_times (F : Has K mg "times" (top 20)) (C : Cal P w K mg base 1 "fraction" ["top", "bottom"] (DS K .no RFraction)) : Cal P w K mg base 2 "times" ["one", "other"] (DS K .no RTimes) := by
  have sc : FnScope ["one", "other"] ["one", "other"] (defScope (top 20)) := ⟨rfl, rfl, rfl, by decide +kernel, rfl, by decide +kernel, by decide +kernel⟩
  refine cal_of F sc (ds_len fun ds d ⟨i, a, e, _⟩ => by rw [e]; rfl) (fun _ _ _ _ _ _ us hl => match us, hl with | [_, _], _ => rfl) (fun f cdv A outer s H vs Q E cx h => ?_)
  obtain ⟨ok, ds, d, hd, ⟨p, r, rfl, sp, sr, rfl⟩, q⟩ := h
  obtain ⟨v, u, rfl, hv, hu⟩ := dts2 hd
  unfold fr at hv hu
  refine rs_ret ok (ed_call C cx (by decide) (.refl _) (ad_cons (ed_mul (by walk_at "ed") (by walk_at "ed") (sp.mulN sr)) (ad_cons (ED.cast (ed_mul (by walk_at "ed") (by walk_at "ed") (sp.mulD sr)) (congrArg PyData.int (den_cast p r))) ad_nil)) ⟨_, _, rfl, Nat.mul_pos p.den_pos r.den_pos, den_bound sp sr, rfl⟩) fun x H3 g3 hx => q x H3 g3 ?_
  rw [times_fr]
  exact hx

/-! ### the law's own -/
def RGcd (ds : List PyData) (d : PyData) : Prop := ∃ (t : Int) (n : Nat), ds = [.int t, .int (n : Int)] ∧ d = .int ((Nat.gcd t.natAbs n : Nat) : Int)
theorem gcd_step (a b : Nat) : Nat.gcd b (a % b) = Nat.gcd a b := by
  rw [Nat.gcd_comm b, ← Nat.gcd_rec, Nat.gcd_comm]
theorem c_law_gcd (F : Has K mg "_law_gcd" (top 59)) (T : Blt mg) : Cal P w K mg base 1 "_law_gcd" ["_law_one", "_law_other"] (DS K .no RGcd) := by
  have sc : FnScope ["_law_one", "_law_other"] ["_law_one", "_law_other"] (defScope (top 59)) := ⟨rfl, rfl, rfl, by decide +kernel, rfl, by decide +kernel, by decide +kernel⟩
  refine cal_of F sc (ds_len fun ds d ⟨i, a, e, _⟩ => by rw [e]; rfl) (fun _ _ _ _ _ _ us hl => match us, hl with | [_, _], _ => rfl) (fun f cdv A outer s H vs Q E cx h => ?_)
  obtain ⟨ok, ds, d, hd, ⟨t, n, rfl, rfl⟩, q⟩ := h
  obtain ⟨v, u, rfl, hv, hu⟩ := dts2 hd
  refine rs_set 0 ok (ed_abs (fun _ => T.abs) (by walk_at "ed")) (fun z H1 g hz => ?_) sc.nd
  obtain rfl := dt_int hz
  obtain rfl := dt_int hu
  refine rs_while PassesOwn.never (pt_cmpR op_gt (pv 1) pe_int (nomark _)) ?_
  refine ⟨fun m σ H' => Gr Mov.no H H' ∧ ∃ a : Nat, σ = [some (.int (a : Int)), some (.int (m : Int))] ∧ Nat.gcd a m = Nat.gcd t.natAbs n, ⟨n, g, t.natAbs, rfl, rfl⟩, ?_⟩
  rintro m σ H2 ⟨g2, a, rfl, ha⟩
  refine ⟨_, rfl, _, _, rfl, rfl, _, rfl, ?_⟩
  by_cases hm : m = 0
  · rw [show decide ((0 : Int) < (m : Int)) = false from decide_eq_false (by omega)]
    refine iteF ?_
    rw [hm, Nat.gcd_zero_right] at ha
    refine rs_ret g2.r (ed_var (K := K) 0 rfl (.int _)) fun x H3 g3 hx => q x H3 (g2.trans g3) ?_
    rw [← ha]
    exact hx
  · rw [show decide ((0 : Int) < (m : Int)) = true from decide_eq_true (by omega)]
    refine iteT ?_
    refine ⟨fun σ' H' => Gr Mov.no H H' ∧ ∃ a2 : Nat, σ' = [some (.int (m : Int)), some (.int ((a % m : Nat) : Int))] , fun σ' H' ⟨g', a2, e⟩ => ⟨a % m, Nat.mod_lt _ (by omega), g', m, e, by rw [gcd_step]; exact ha⟩, ?_⟩
    refine rs_par 0 1 rfl g2.r (ad_cons (ed_var (K := K) 1 rfl (.int (m : Int))) (ad_cons (ed_mod (ed_int1 (fun _ => T.int) (ed_var 0 rfl (.int (a : Int)))) (ed_var 1 rfl (.int (m : Int))) (by omega)) ad_nil)) (fun vs H3 g3 hd => ?_) sc.nd
    obtain ⟨x, y, rfl, hx, hy⟩ := dts2 hd
    refine ⟨x, y, rfl, rs_nil ⟨g2.trans g3, 0, ?_⟩⟩
    rw [dt_int hx, dt_int hy, Int.natCast_emod]
    rfl
theorem c_law_fraction (F : Has K mg "_law_fraction" (top 60)) (C : Cal P w K mg base 1 "_law_gcd" ["_law_one", "_law_other"] (DS K .no RGcd)) : Cal P w K mg base 2 "_law_fraction" ["_law_top", "_law_bottom"] (DS K .no RFraction) := by
  have sc : FnScope ["_law_top", "_law_bottom", "_law_shared"] ["_law_top", "_law_bottom"] (defScope (top 60)) := ⟨rfl, rfl, rfl, by decide +kernel, rfl, by decide +kernel, by decide +kernel⟩
  refine cal_of F sc (ds_len fun ds d ⟨i, a, e, _⟩ => by rw [e]; rfl) (fun _ _ _ _ _ _ us hl => match us, hl with | [_, _], _ => rfl) (fun f cdv A outer s H vs Q E cx h => ?_)
  obtain ⟨ok, ds, d, hd, ⟨t, n, rfl, h0, hb, rfl⟩, q⟩ := h
  obtain ⟨v, u, rfl, hv, hu⟩ := dts2 hd
  refine rs_set 2 ok (ed_call C cx (by decide) (.refl _) (ad_cons (by walk_at "ed") (ad_cons (by walk_at "ed") ad_nil)) ⟨t, n, rfl, rfl⟩) (fun z H1 g hz => ?_) sc.nd
  replace hv := g.dt hv
  replace hu := g.dt hu
  refine rs_ret g.r (ed_tup (ad_cons (ed_fdiv (by walk_at "ed") (by walk_at "ed") (gcd_ok' _ _ h0 hb)) (ad_cons (ed_fdiv (by walk_at "ed") (by walk_at "ed") (gcd_ok' _ _ h0 hb)) ad_nil))) fun x H3 g3 hx => ?_
  refine q x H3 (g.trans g3) ?_
  rw [fr_mk t h0]
  exact hx
theorem c_law_plus (F : Has K mg "_law_plus" (top 61)) (C : Cal P w K mg base 2 "_law_fraction" ["_law_top", "_law_bottom"] (DS K .no RFraction)) : Cal P w K mg base 3 "_law_plus" ["_law_one", "_law_other"] (DS K .no RPlus) := by
  have sc : FnScope ["_law_one", "_law_other"] ["_law_one", "_law_other"] (defScope (top 61)) := ⟨rfl, rfl, rfl, by decide +kernel, rfl, by decide +kernel, by decide +kernel⟩
  refine cal_of F sc (ds_len fun ds d ⟨i, a, e, _⟩ => by rw [e]; rfl) (fun _ _ _ _ _ _ us hl => match us, hl with | [_, _], _ => rfl) (fun f cdv A outer s H vs Q E cx h => ?_)
  obtain ⟨ok, ds, d, hd, ⟨p, r, rfl, sp, sr, rfl⟩, q⟩ := h
  obtain ⟨v, u, rfl, hv, hu⟩ := dts2 hd
  unfold fr at hv hu
  refine rs_ret ok (ed_call C cx (by decide) (.refl _) (ad_cons (ed_add (ed_mul (by walk_at "ed") (by walk_at "ed") (sp.mul sr)) (ed_mul (by walk_at "ed") (by walk_at "ed") (sr.mul sp))) (ad_cons (ED.cast (ed_mul (by walk_at "ed") (by walk_at "ed") (sp.mulD sr)) (congrArg PyData.int (den_cast p r))) ad_nil)) ⟨_, _, rfl, Nat.mul_pos p.den_pos r.den_pos, den_bound sp sr, rfl⟩) fun x H3 g3 hx => q x H3 g3 ?_
  rw [plus_fr]
  exact hx
theorem c_law_minus (F : Has K mg "_law_minus" (top 62)) (C : Cal P w K mg base 2 "_law_fraction" ["_law_top", "_law_bottom"] (DS K .no RFraction)) : Cal P w K mg base 3 "_law_minus" ["_law_one", "_law_other"] (DS K .no RMinus) := by
  have sc : FnScope ["_law_one", "_law_other"] ["_law_one", "_law_other"] (defScope (top 62)) := ⟨rfl, rfl, rfl, by decide +kernel, rfl, by decide +kernel, by decide +kernel⟩
  refine cal_of F sc (ds_len fun ds d ⟨i, a, e, _⟩ => by rw [e]; rfl) (fun _ _ _ _ _ _ us hl => match us, hl with | [_, _], _ => rfl) (fun f cdv A outer s H vs Q E cx h => ?_)
  obtain ⟨ok, ds, d, hd, ⟨p, r, rfl, sp, sr, rfl⟩, q⟩ := h
  obtain ⟨v, u, rfl, hv, hu⟩ := dts2 hd
  unfold fr at hv hu
  refine rs_ret ok (ed_call C cx (by decide) (.refl _) (ad_cons (ed_sub (ed_mul (by walk_at "ed") (by walk_at "ed") (sp.mul sr)) (ed_mul (by walk_at "ed") (by walk_at "ed") (sr.mul sp))) (ad_cons (ED.cast (ed_mul (by walk_at "ed") (by walk_at "ed") (sp.mulD sr)) (congrArg PyData.int (den_cast p r))) ad_nil)) ⟨_, _, rfl, Nat.mul_pos p.den_pos r.den_pos, den_bound sp sr, rfl⟩) fun x H3 g3 hx => q x H3 g3 ?_
  rw [minus_fr]
  exact hx
theorem c_law_less (F : Has K mg "_law_less" (top 63)) : Cal P w K mg base 1 "_law_less" ["_law_one", "_law_other"] (DS K .no RLess) := by
  have sc : FnScope ["_law_one", "_law_other"] ["_law_one", "_law_other"] (defScope (top 63)) := ⟨rfl, rfl, rfl, by decide +kernel, rfl, by decide +kernel, by decide +kernel⟩
  refine cal_of F sc (ds_len fun ds d ⟨i, a, e, _⟩ => by rw [e]; rfl) (fun _ _ _ _ _ _ us hl => match us, hl with | [_, _], _ => rfl) (fun f cdv A outer s H vs Q E cx h => ?_)
  obtain ⟨ok, ds, d, hd, ⟨p, r, rfl, sp, sr, rfl⟩, q⟩ := h
  obtain ⟨v, u, rfl, hv, hu⟩ := dts2 hd
  unfold fr at hv hu
  refine rs_ret ok (ed_lt (ed_mul (by walk_at "ed") (by walk_at "ed") (sp.mul sr)) (ed_mul (by walk_at "ed") (by walk_at "ed") (sr.mul sp))) fun x H3 g3 hx => q x H3 g3 ?_
  rw [← less_dec]
  exact hx
end
end Kt
end
section
set_option maxHeartbeats 4000000
/-! Kt: the lambda of lots, the sort by it. -/
namespace Kt
open PySem PySem.Spec PyProof.Rows L2

/-! ### the lambda called -/
def lamParams : Arguments := { posonlyargs := [], args := [{ arg := "lot", annotation := none, pos := ⟨49, 40, 49, 43⟩ }], vararg := none, kwonlyargs := [], kw_defaults := [], kwarg := none, defaults := [] }
def lamScope : Scope := { kind := .function, names := [(Str.ofString "lot", .local), (Str.ofString "len", .globalImplicit)], isGenerator := false, isCoroutine := false, more := [] }
def lamBody : Expr := .Tuple [.Call (.Name "len" ⟨49, 46, 49, 49⟩) [.Name "lot" ⟨49, 50, 49, 53⟩] [] ⟨49, 46, 49, 54⟩, .Name "lot" ⟨49, 56, 49, 59⟩] 0 ⟨49, 45, 49, 60⟩
theorem reads_ints {h : Heap} : ∀ {vs : List Value} {ns : List Int}, IntsAre vs ns → ReadsAll h vs (ns.map PyData.int) []
  | _, _, .nil => .nil
  | _, _, .cons n t r => ReadsAll.cons (as := []) (bs := []) (Reads.int n t) (reads_ints r)
theorem lam_call {P : Program} {w : World} {A : Around} {st : Shared} {f c' a : Addr} {q : Str} {pm ctv : Value} {mg mb : Str → Option Value} {its : List Value} {ns : List Int}
    (hf : st.heap.get? f = some (PySem.W.kla_obj "<lambda>" q lamParams lamBody lamScope [] pm c' ctv)) (hcd : st.heap.CodeRec (.ref c') q) (hg : st.heap.Ns mainGlobals mg) (hm : mg "len" = none) (hb : st.heap.Ns builtinsNs mb) (hbl : mb "len" = some (.builtin "len"))
    (hlim : st.heap.NoLimit) (hv : IsTup st.heap a its.toArray) (hi : IntsAre its ns) (hl : ns.length ≤ 1000) (hroom : A.depth < recursionLimit) :
    wpAny (model P w) A (call (.ref f) [.ref a]) (PySem.W.KeyPure (.tuple [.int (ns.length : Int), .tuple (ns.map PyData.int)]) st) (fun _ _ => False) st := by
  refine wpAny_call (PySem.W.kla_callFunE hroom hf rfl rfl rfl rfl hcd ?_)
  have hbind : bindArgs (PySem.W.kla_fn "<lambda>" q lamParams lamBody lamScope [] pm (.ref c') ctv) ⟨[.ref a], []⟩ = pure [(Str.ofString "lot", .ref a)] := rfl
  rw [hbind]
  refine wpAny_pure (wpAny_newFunctionEnv (show ∀ x ∈ lamScope.names, x.2 ≠ .cell by decide +kernel) (fun y hy => ?_) (fun h₁ hns hsb => ⟨hlim.fresh _ hsb, ?_⟩) rfl)
  · have e : y = (Str.ofString "lot", Value.ref a) := by simpa using hy
    rw [e]
    rfl
  have kp : ∀ b o, st.heap.get? b = some o → h₁.get? b = some o := fun b o e => hsb.extBut b o (Nat.ne_of_lt (Heap.lt_size e)) (Heap.get?_push_of_some _ e)
  refine PySem.W.kla_codeExpr ?_
  show wpAny (model P w) _ (eval lamBody (newEnv lamScope st.heap.objs.size mainGlobals [] (q ++ ".<locals>.") (some f) (.ref c') none builtinsNs)) _ _ _
  have hlot : ∀ (A' : Around) (E : Value → Shared → Prop) (tk : Nat) (p : Pos) (Q : Value → Shared → Prop), Q (.ref a) { st with heap := h₁, toks := tk } →
      wpAny (model P w) A' (eval (.Name "lot" p) (newEnv lamScope st.heap.objs.size mainGlobals [] (q ++ ".<locals>.") (some f) (.ref c') none builtinsNs)) Q E { st with heap := h₁, toks := tk } := fun A' E tk p Q hq =>
    wpAny_Name (wpAny_loadName_local rfl rfl hns rfl hq) (by decide)
  refine wpAny_Tuple_spliced ?_
  refine Calls.spliced_cons ?_
  refine wpAny_Call_Name_kw (Calls.Name_function_global rfl rfl (Calls.loadGlobal_builtin (hg.keeps kp) hm (hb.keeps kp) hbl ?_) (by decide))
  refine PyProof.Rows.callWith_builtin1 (Calls.spliced_cons (hlot _ _ _ _ _ (Calls.spliced_nil ?_))) rfl rfl
  have hv1 : IsTup h₁ a its.toArray := let ⟨o, e, c⟩ := hv; ⟨o, kp _ _ e, c⟩
  have hsz : its.length = ns.length := hi.length
  have h63 : (its.toArray.size : Int) < 2 ^ 63 := by
    rw [List.size_toArray, hsz]
    omega
  refine len_tuple (s := { st with heap := h₁, toks := _ }) hv1 h63 ?_
  refine Calls.spliced_cons (hlot _ _ _ _ _ (Calls.spliced_nil ?_))
  refine ⟨by show 2 ≤ sizeLine; decide, ?_⟩
  refine ⟨_, _, rfl, fun b o e => Heap.get?_push_of_some _ (kp b o e), ?_⟩
  obtain ⟨o, eo, ec, n, ed⟩ := hv1
  refine Reads.tuple (as := []) (Heap.get?_push_size _ rfl) rfl rfl ?_
  refine ReadsAll.cons (as := []) (bs := []) ?_ (ReadsAll.cons (as := []) (bs := []) (Reads.tuple (as := []) (Heap.get?_push_of_some _ eo) ec ed ?_) .nil)
  · rw [show ((ns.length : Nat) : Int) = ((its.toArray.size : Nat) : Int) from by rw [List.size_toArray, hsz]]
    exact Reads.int _ _
  · simpa using reads_ints hi
end Kt
end
section
set_option maxHeartbeats 4000000
/-! Kt: the lambda of lots is made; sorted by it. -/
namespace Kt
open PySem PySem.Spec PyProof.Rows L2
theorem codeO_nt {c : Addr} {q : Str} : NT (LamX.CodeO c q) := fun ps z => LamX.codeO_ne ps z
section
variable {X : Cx} {pins : List (Addr × Obj)} {σ : L2.St} {H : Hp} {s : Shared}
/-- what is new behind a table's growth -/
structure TabGr (P : Addr) (q : Str) (H H1 : Hp) : Prop where
  tab : LamX.TabS H1 P q
  keep : ∀ b o, b ≠ P → H b = some o → H1 b = some o
  tb : ∀ b ps, H1 b = some (.tbl ps) → ∃ qs, H b = some (.tbl qs)
theorem lam_at {P c : Addr} {q : Str} {lpos : Pos} {E : Value → Shared → Prop} {Q : Value → Shared → Prop} (I : Inv X pins σ H s) (TB : LamX.TabB X.base X.mg c P) (hcode : X.env.code = .ref c) (hq : X.env.qual ++ "<lambda>" = q) (hT : LamX.TabS H P q)
    (h : ∀ (f c' : Addr) (pm ctv : Value) (H1 : Hp) (s' : Shared), Inv X pins σ H1 s' → TabGr P q H H1 → s'.heap.get? f = some (PySem.W.kla_obj "<lambda>" q lamParams lamBody lamScope [] pm c' ctv) → s'.heap.CodeRec (.ref c') q → Q (.ref f) s') :
    wpAny (model X.prog X.w) X.A (eval (.Lambda lamParams lamBody lamScope lpos) X.env) Q E s := by
  subst hq
  obtain ⟨ps, tabAt, triples, known⟩ := hT
  have noFree : ∀ y ∈ lamScope.names, y.2 = .free → ∃ c, X.env.cells.lookup y.1 = some c := fun y hy e => absurd e ((show ∀ z ∈ lamScope.names, z.2 ≠ .free by decide +kernel) y hy)
  have clo : closureFor lamScope X.env = pure [] := closure_ok noFree
  have tabObj : s.heap.get? P = some { cls := .none, data := .fields ps } := I.hok P _ tabAt
  have globs : s.heap.Ns mainGlobals X.mg := I.mod.glob.keeps I.bk
  have cHd := TB.code.keeps I.bk
  have bts := TB.bm.keeps I.bk
  refine PySem.W.kla_eval rfl ?_
  cases hit : codeAmong lpos ps.toList with
  | some cv =>
    obtain ⟨c', rfl, hco⟩ := known lpos cv hit
    refine PySem.W.kla_makeFunctionHit clo I.ok.glob globs hcode cHd tabObj triples hit bts fun ctv g tk hk _ => ?_
    have J : Inv X pins σ H { s with heap := g.push (PySem.W.kla_obj "<lambda>" (X.env.qual ++ "<lambda>") lamParams lamBody lamScope [] ((X.mg "__name__").getD .none) c' ctv), toks := tk } := I.kept fun b o e => Heap.get?_push_of_some _ (hk b o e)
    obtain ⟨⟨oc, us, t, a1, a2, a3⟩, _, _⟩ := J.hok c' _ hco
    exact h g.objs.size c' _ ctv H _ J ⟨⟨ps, tabAt, triples, known⟩, fun _ _ _ e => e, fun _ qs e => ⟨qs, e⟩⟩ (Heap.get?_push_size _ rfl) ⟨c', oc, us, t, rfl, a1, a2, a3⟩
  | none =>
    refine PySem.W.kla_makeFunction clo I.ok.glob globs hcode cHd tabObj triples hit TB.gP bts fun c' ctv g tk hx big small rec tabG => ?_
    obtain ⟨c2, oc, us, t, e2, a1, a2, a3⟩ := rec
    obtain rfl : c' = c2 := Value.ref.inj e2
    have cNew : H c' = none := I.hok.fresh big
    have PneC : P ≠ c' := ne_of_none tabAt cNew
    have J := LamX.inv_table (t' := tk) (q := X.env.qual ++ "<lambda>") (more := #[rawInt lpos.line, rawInt lpos.col, .ref c']) (h' := g.push (PySem.W.kla_obj "<lambda>" (X.env.qual ++ "<lambda>") lamParams lamBody lamScope [] ((X.mg "__name__").getD .none) c' ctv)) I tabAt
      (fun b o hb e => Heap.get?_push_of_some _ (hx b o hb e)) (Heap.get?_push_of_some _ tabG) big ⟨oc, us, t, Heap.get?_push_of_some _ a1, a2, a3⟩
    have kept : ∀ b o, b ≠ P → H b = some o → upd (upd H P (.tbl (ps ++ #[rawInt lpos.line, rawInt lpos.col, .ref c']))) c' (LamX.CodeO c' (X.env.qual ++ "<lambda>")) b = some o := fun b o hb e => by
      rw [upd_ne (ne_of_none e cNew), upd_ne hb]
      exact e
    have appT : (ps ++ #[rawInt lpos.line, rawInt lpos.col, Value.ref c']).toList = ps.toList ++ [rawInt lpos.line, rawInt lpos.col, .ref c'] := Array.toList_append
    refine h g.objs.size c' _ ctv _ _ J ⟨⟨ps ++ #[rawInt lpos.line, rawInt lpos.col, .ref c'], ?_, ?_, fun p cv hcv => ?_⟩, kept, ?_⟩ (Heap.get?_push_size _ rfl) ⟨c', oc, us, t, rfl, Heap.get?_push_of_some _ a1, a2, a3⟩
    · rw [upd_ne PneC, upd_same]
    · rw [appT]
      exact TriplesOk_snoc _ _ _ _ triples
    · rw [appT] at hcv
      rcases LamX.among_app _ triples hcv with z | z
      · obtain ⟨c0, e1, e3⟩ := known p cv z
        exact ⟨c0, e1, kept _ _ (fun y => by rw [y, tabAt] at e3; exact codeO_nt _ (Option.some.inj e3).symm) e3⟩
      · exact ⟨c', z, upd_same⟩
    · intro b qs e
      by_cases z : b = c'
      · rw [z, upd_same] at e
        exact absurd (Option.some.inj e) (codeO_nt qs)
      · rw [upd_ne z] at e
        by_cases y : b = P
        · exact ⟨ps, by rw [y]; exact tabAt⟩
        · rw [upd_ne y] at e
          exact ⟨qs, e⟩
end
/-! ### sorted by it -/
def lotD (l : List Nat) : PyData := .tuple (l.map fun (x : Nat) => PyData.int (x : Int))
def lotKey (b : V × List Nat) : PyData := .tuple [.int ((b.2.map fun (x : Nat) => (x : Int)).length : Int), .tuple ((b.2.map fun (x : Nat) => (x : Int)).map PyData.int)]
theorem lotD_eq (l : List Nat) : lotD l = .tuple ((l.map fun (x : Nat) => (x : Int)).map PyData.int) := by
  unfold lotD
  rw [List.map_map]
  rfl
theorem alike_ints : ∀ ns ms : List Int, PySem.W.alikeAll (ns.map PyData.int) (ms.map PyData.int) = true
  | [], _ => by rw [List.map_nil, PySem.W.alikeAll]
  | _ :: _, [] => by rw [List.map_nil, List.map_cons, PySem.W.alikeAll]
  | n :: ns, m :: ms => by
    rw [List.map_cons, List.map_cons, PySem.W.alikeAll, alike_ints ns ms, PySem.W.alike]
    rfl
theorem lot_alike (b b' : V × List Nat) : PySem.W.alike (lotKey b) (lotKey b') = true := by
  unfold lotKey
  rw [PySem.W.alike, PySem.W.alikeAll, PySem.W.alikeAll, PySem.W.alike, PySem.W.alike, alike_ints, PySem.W.alikeAll]
  rfl
theorem depth_ints (ns : List Int) : PyData.depthAll (ns.map PyData.int) ≤ 1 := by
  induction ns with
  | nil => simp [PyData.depthAll]
  | cons n ns ih =>
    rw [List.map_cons]
    simp only [PyData.depthAll, PyData.depth]
    omega
theorem lot_depth (b : V × List Nat) : (lotKey b).depth ≤ 8 := by
  have := depth_ints (b.2.map fun (x : Nat) => (x : Int))
  unfold lotKey
  simp only [PyData.depth, PyData.depthAll]
  omega
section
variable {K : PySem.W.Frag} {H : Hp}
theorem dts_zip : ∀ {xs : List V} {ls : List (List Nat)}, DtAll K H xs (ls.map lotD) → ∀ b ∈ xs.zip ls, Dt K H b.1 (lotD b.2)
  | _, [], .nil, b, hb => by cases hb
  | _, l :: ls, .cons h t, b, hb => by
    rcases List.mem_cons.mp hb with z | z
    · rw [z]
      exact h
    · exact dts_zip t b z
theorem dts_unzip : ∀ {bs : List (V × List Nat)}, (∀ b ∈ bs, Dt K H b.1 (lotD b.2)) → DtAll K H (bs.map (·.1)) ((bs.map (·.2)).map lotD)
  | [], _ => .nil
  | b :: bs, h => .cons (h b List.mem_cons_self) (dts_unzip fun c hc => h c (List.mem_cons_of_mem _ hc))
end
section
variable {X : Cx} {pins : List (Addr × Obj)} {σ : L2.St} {H : Hp} {s : Shared}
/-- a value of the list, what it is -/
def LotV (h : Heap) (v : Value) (b : V × List Nat) : Prop := RelV b.1 v ∧ ∃ t us, v = .ref t ∧ IsTup h t us.toArray ∧ IntsAre us (b.2.map fun (x : Nat) => (x : Int))
theorem lotV_of (I : Inv X pins σ H s) {x : V} {u : Value} {l : List Nat} (r : RelV x u) (h : Dt X.K H x (lotD l)) : LotV s.heap u (x, l) := by
  refine ⟨r, ?_⟩
  rw [lotD_eq] at h
  obtain ⟨a, xs, rfl, hq, hd⟩ := dt_tup h
  rw [hd.ofInts] at hq
  obtain ⟨its, rv, ht, _⟩ := I.tuple hq
  cases r
  exact ⟨a, its, rfl, ht, intsAre_of rv⟩
theorem each_lots (I : Inv X pins σ H s) : ∀ {xs : List V} {ls : List (List Nat)} {us : List Value}, Vals xs us → DtAll X.K H xs (ls.map lotD) → PySem.W.EachIs (LotV s.heap) us (xs.zip ls)
  | _, [], _, .nil, .nil => .nil
  | _, l :: ls, _, .cons r t, .cons h q => .cons (lotV_of I r h) (each_lots I t q)
theorem vals_each {h : Heap} : ∀ {out : List Value} {bs : List (V × List Nat)}, PySem.W.EachIs (LotV h) out bs → Vals (bs.map (·.1)) out
  | _, _, .nil => .nil
  | _, _, .cons r t => .cons r.1 (vals_each t)
/-- what the sort asks of its list -/
def SortAsk (K : PySem.W.Frag) (P : Addr) (q : Str) (Q : VK) (x : V) (H1 : Hp) : Prop := LamX.TabS H1 P q ∧ ∃ (a : Addr) (xs : List V) (ls : List (List Nat)), x = .ref a ∧ a ≠ P ∧ H1 a = some (.lst xs) ∧ DtAll K H1 xs (ls.map lotD) ∧ (∀ l ∈ ls, l.length ≤ 1000) ∧ ls.length ≤ 1000 ∧
  ∀ H2, TabGr P q H1 H2 → ∀ (p : Addr) (xs' : List V) (ls' : List (List Nat)), H2 p = none → ls'.Perm ls → DtAll K H2 xs' (ls'.map lotD) → Q (.ref p) (upd H2 p (.lst xs'))
def tSortLam (K : PySem.W.Frag) (P : Addr) (q : Str) (te : TE) : TE := fun σ H Q => te σ H (SortAsk K P q Q)
def oneOf (R : V → Hp → Prop) : List V → Hp → Prop
  | [x], H => R x H
  | _, _ => False
theorem TabGr.sqT {K : PySem.W.Frag} {P : Addr} {q : Str} {H H1 : Hp} {ps : Array Value} (g : TabGr P q H H1) (hP : H P = some (.tbl ps)) {a : Addr} {xs : List V} (h : SqT K H a xs) : SqT K H1 a xs := by
  rcases h with (h | ⟨o, h⟩) | h
  · exact .inl (.inl (g.keep a _ (fun z => by rw [z, hP] at h; cases h) h))
  · exact .inl (.inr ⟨o, g.keep a _ (fun z => by rw [z, hP] at h; cases h) h⟩)
  · exact .inr h
theorem pe_sortLam {e : Expr} {te : TE} {P c : Addr} {q : Str} {p pos kpos lpos : Pos} (he : PE X e te) (hg : Gl X "sorted") (hm : X.mg "sorted" = none) (hml : X.mg "len" = none) (TB : LamX.TabB X.base X.mg c P) (hcode : X.env.code = .ref c) (hq : X.env.qual ++ "<lambda>" = q) (hr : Room 0 X.A)
    (hst : starEach (e :: []) X.env = (false, eval e X.env) :: starEach [] X.env := by rfl)
    (h1 : backTo pos (starEach (e :: []) X.env) = (false, eval e X.env) :: backTo pos (starEach [] X.env) := by rfl) (h2 : (backTo pos (starEach (e :: []) X.env)).any (·.1) = false := by rfl) :
    PE X (.Call (.Name "sorted" p) [e] [⟨some "key", .Lambda lamParams lamBody lamScope lpos, kpos⟩] pos) (tSortLam X.K P q te) := by
  refine ⟨fun pins s σ H Q I h => ?_⟩
  refine wpAny_Call_Name_kw (ld_blt I hg hm boot_sorted ?_)
  have pa : PA X [e] (tCons te tNil) := pa_cons he pa_nil hst
  refine PyProof.Rows.callWith_kw (thn (pa.run pos pins s σ H (oneOf (SortAsk X.K P q Q)) I h) fun us s1 ⟨vs, H1, I1, r1, q1⟩ => ?_) h1 h2 (by rfl) (by rfl)
  match vs, r1, q1 with
  | [x], r1, q1 =>
    obtain ⟨tabS, a, xs, ls, rfl, aP, hA, hD, small, few, k⟩ := q1
    obtain ⟨u, rfl, ru⟩ := vals1 r1
    cases ru
    show wpAny _ _ (evalAll ((do let v ← eval (.Lambda lamParams lamBody lamScope lpos) X.env; standAt pos; pure v) :: [])) _ _ s1
    refine wpAny_evalAll_cons (wpAny_bind (lam_at I1 TB hcode hq tabS fun f c' pm ctv H2 s2 I2 tg hf hcd => wpAny_bind (wpAny_standAt (wpAny_pure (wpAny_evalAll_nil ?_)))))
    obtain ⟨ps, hP, _⟩ := id tabS
    have hA2 : H2 a = some (.lst xs) := tg.keep a _ aP hA
    have hD2 : DtAll X.K H2 xs (ls.map lotD) := hD.mono fun b ys w => tg.sqT hP w
    obtain ⟨its, rv, pl, hz⟩ := I2.list (SqL.of (K := X.K) hA2)
    have hlen : xs.length = ls.length := by rw [hD2.length, List.length_map]
    have hbl : (xs.zip ls).length = ls.length := by rw [List.length_zip, hlen, Nat.min_self]
    obtain ⟨mb, nb, hbb⟩ := I2.mod.blt
    show wpAny _ _ (call (.builtin "sorted") [.ref a] [(Str.ofString "key", .ref f)]) _ _ s2
    refine PySem.W.sorted_key_data (β := V × List Nat) (R := LotV s2.heap) (bs := xs.zip ls) (b := false) lotKey pl.isList (each_lots I2 rv hD2) (PySem.W.AllAlike.of lot_alike) (PySem.W.Sortable.tuples fun b => ⟨_, _, rfl⟩)
      (by rw [hbl]; exact Nat.le_of_lt (small1000 few)) (fun b _ => ?_) (PyProof.Rows.ksk_s1 _ _) (fun _ => PyProof.Rows.ksk_l1 _ _) (fun y => PyProof.Rows.ksk_t1 f y) (fun v b hv hb h tk hk => ?_) fun out cc h' tk hk hn hnew ho hE => ?_
    · have := lot_depth b
      have := hr.units
      omega
    · obtain ⟨_, t, us, rfl, ht, hi⟩ := hv
      have ht' : IsTup h t us.toArray := let ⟨o, e, c⟩ := ht; ⟨o, hk _ _ e, c⟩
      have hmem : b.2 ∈ ls := (List.of_mem_zip (show (b.1, b.2) ∈ xs.zip ls from hb)).2
      refine lam_call (st := { s2 with heap := h, toks := tk }) (hk _ _ hf) (hcd.keeps hk) ((I2.mod.glob.keeps I2.bk).keeps hk) hml ((nb.keeps I2.bk).keeps hk) ((hbb _ (by decide)).trans boot_len) (I2.nolimit.keeps hk) ht' hi ?_ hr.depth
      rw [List.length_map]
      exact small _ hmem
    · have perm : ((xs.zip ls).mergeSort (PySem.W.dataLe false lotKey)).Perm (xs.zip ls) := List.mergeSort_perm _ _
      have all : ∀ b ∈ (xs.zip ls).mergeSort (PySem.W.dataLe false lotKey), Dt X.K H2 b.1 (lotD b.2) := fun b hb => dts_zip hD2 b (perm.mem_iff.mp hb)
      have p2 : (((xs.zip ls).mergeSort (PySem.W.dataLe false lotKey)).map (·.2)).Perm ls := by
        have z := perm.map (·.2)
        rw [List.map_snd_zip (by omega)] at z
        exact z
      have lz : (((xs.zip ls).mergeSort (PySem.W.dataLe false lotKey)).map (·.1)).length ≤ sizeLine := by
        rw [List.length_map, perm.length_eq, hbl]
        exact Nat.le_of_lt (small1000 few)
      have fresh : H2 (s2.heap.objs.size + 1) = none := I2.hok.fresh (Nat.le_succ _)
      exact ⟨.ref _, _, I2.laid (a := s2.heap.objs.size + 1) (o := .lst (((xs.zip ls).mergeSort (PySem.W.dataLe false lotKey)).map (·.1))) (t' := tk) hk (Nat.le_succ _) ⟨lz, out, cc, vals_each hE, hnew⟩, rfl, k H2 tg _ _ _ fresh p2 (dts_unzip all)⟩
end
end Kt
end
section
set_option maxHeartbeats 4000000
/-! Kt: the table that moves; loops and comprehensions over new lists; extend. -/
namespace Kt
open PySem PySem.Spec PyProof.Rows L2
def Mov.tab (P : Addr) (q : Str) : Mov where
  at_ := fun b => b = P
  ok := fun H => LamX.TabS H P q ∧ True
  here := fun H b ⟨⟨ps, h, _⟩, _⟩ e => by
    subst e
    exact ⟨fun xs z => (by rw [h] at z; cases z), fun o u z => (by rw [h] at z; cases z), fun z => (by rw [h] at z; cases z)⟩
  ext := fun H H' e t ⟨h, n⟩ => ⟨h.ext e, trivial⟩
  loc := fun H l o1 o2 ⟨⟨ps, h, t, k⟩, n⟩ hl lo nt na => by
    refine ⟨⟨ps, by rw [upd_ne (fun z => na z.symm)]; exact h, t, fun pos cv hc => ?_⟩, trivial⟩
    obtain ⟨c, e1, e2⟩ := k pos cv hc
    refine ⟨c, e1, ?_⟩
    rw [upd_ne (fun z => by rw [z, hl] at e2; exact lo _ _ (Option.some.inj e2))]
    exact e2
theorem TabGr.gr {P : Addr} {q : Str} {H H1 : Hp} (ok : (Mov.tab P q).ok H) (g : TabGr P q H H1) : Gr (Mov.tab P q) H H1 :=
  ⟨ok, ⟨g.tab, trivial⟩, fun b o e n => g.keep b o n e, g.tb⟩
section
variable {ι : Type} {X : ι → Cx} {M M0 : Mov} {P : Program} {w : World} {K : PySem.W.Frag} {mg : Str → Option Value} {base : Heap} {n : Nat}
variable {σ : L2.St} {H H0 : Hp} {elt tg iter e : Expr} {scope : Scope} {own : List (Str × Nat)} {te ta tb : TE} {p pos : Pos} {d : PyData} {ds fs : List PyData}
theorem qd_cat {as bs : List PyData} (ha : QD K M ta σ H (.tuple as)) (hb : QD K M tb σ H (.tuple bs)) (hl : as.length + bs.length ≤ 1000) : QD K M (tOp (rCatA K) ta tb) σ H (.tuple (as ++ bs)) := fun H1 g Q k => by
  refine ha H1 g _ fun x H2 g2 r1 => ?_
  refine hb H2 (g.trans g2) _ fun y H3 g3 r2 => ?_
  obtain ⟨a, xs, rfl, hq, hd⟩ := dt_tup (g3.dt r1)
  obtain ⟨b, ys, rfl, hq2, hd2⟩ := dt_tup r2
  refine ⟨a, b, xs, ys, rfl, rfl, hq, hq2, ?_, fun z => ?_, fun _ z => ?_, fun _ _ p hp => ?_⟩
  · rw [hd.length, hd2.length]
    exact Nat.le_of_lt (small1000 hl)
  · subst z
    cases hd
    exact k _ H3 (g2.trans g3) (.tup hq2 hd2)
  · subst z
    cases hd2
    rw [List.append_nil] at *
    exact k _ H3 (g2.trans g3) (.tup hq hd)
  · exact k _ _ ((g2.trans g3).trans (.new g3.r hp)) (.tup (.of upd_same) ((Gr.new g3.r hp).dts (hd.app hd2)))
/-- over a list that is new -/
theorem eo_lcN {x : Str} {ix : Nat} {px : Pos} (cx : CxIs X P w K mg base n) (hN : ∀ j, (X j).N.Nodup) (hi : EO X M σ H iter (NwD K M H ds)) (ok : ∀ j, BlkOk (X j).N (X j).env.scope scope [(x, ix)])
    (hg : ∀ j (s : Shared) (H : Hp) (C : Addr) (cl : List (Str × Addr)) (fp : List Addr), PG ((X j).blk s H scope (compEnvC scope cl C (X j).env) fp) (.Name x px) (gName ix))
    (he : ∀ j (s : Shared) (H : Hp) (C : Addr) (cl : List (Str × Addr)) (fp : List Addr), PE ((X j).blk s H scope (compEnvC scope cl C (X j).env) fp) elt te)
    (hl : fs.length = ds.length) (hz : ds.length ≤ 100000)
    (q : ∀ (i : Nat) (v : V) (d f : PyData) (H1 : Hp), ds[i]? = some d → fs[i]? = some f → Gr M H H1 → Dt K H1 v d → QD K M te ((wipe σ [ix]).set ix (some v)) H1 f)
    (hs : ∀ j x, foldedSetIterable iter (X j).env x = pure x := by intro _ _; rfl) : EO X M σ H (.ListComp elt [⟨.Name x px, iter, [], 0⟩] scope pos) (NwD K M H fs) := by
  obtain ⟨ti, pi, qi⟩ := hi
  refine ⟨tLc (iList K ti) (gName ix) tYes te [ix], fun j => ?_, fun H1 g1 Q k => ?_⟩
  · have hp : PI (X j) (.Name x px) iter (iList K ti) := by
      rw [← cx.K j]
      exact pi_list (pi j)
    exact pe_lc (cx.calm j) (hN j) hp (ok j) (hg j) (fun _ _ _ _ _ => pts_nil) (he j) (hs j)
  · refine qi H1 g1 _ fun v H2 g2 hv => ?_
    obtain ⟨a, xs, rfl, hn, hq, hd⟩ := hv
    have g12 := g1.trans g2
    have na : ¬ M.at_ a := not_at g12.l hn
    refine ⟨a, rfl, ⟨xs, .of hq⟩, fun D hD => ?_⟩
    have hDH := (g12.fresh hD).1
    refine lc_list (K := K) (a := a) (xs := xs) (LcInv K M H2 D fs) (lcInv_start (.refl g2.r) hD) (fun i H' _ h => .of (h.1.keep a _ hq na)) (fun i y H' hy h => ?_) fun H' h => ?_
    · obtain ⟨d, hdi, hyd⟩ := hd.get' hy
      have hlt : i < fs.length := by
        rw [hl]
        exact (List.getElem?_eq_some_iff.mp hdi).1
      refine ⟨wipe1, ?_⟩
      refine (q i y d fs[i] H' hdi (List.getElem?_eq_getElem hlt) (g12.trans h.1) (h.1.dt hyd)) H' (.refl h.1.r) _ fun u H3 g3 hu => ?_
      exact lcInv_step hD (by rw [hl]; exact hz) h g3 (List.getElem?_eq_getElem hlt) hu
    · have e : xs.length = fs.length := by rw [hl]; exact hd.length
      rw [e] at h
      obtain ⟨D', acc, e1, e2, e3, e4⟩ := lcInv_end hD h
      exact k _ _ (g2.trans h.1) ⟨D', acc, e1, by cases e1; exact hDH, e3, e4⟩
/-- list(l): a new list -/
theorem eo_listOf {a : Addr} {xs : List V} (hK : ∀ j, (X j).K = K) (hm : ∀ j, (X j).mg "list" = none) (h : EO X M σ H e (fun v _ => v = .ref a)) (hq : ∀ H', Gr M H H' → SqL K H' a xs) (hd : DtAll K H xs ds) (hg : ∀ j, Gl (X j) "list" := by intro _; rfl)
    (hs : ∀ j, starEach (e :: []) (X j).env = (false, eval e (X j).env) :: starEach [] (X j).env := by intro _; rfl) (hpl : ∀ j, (backTo pos (starEach [] (X j).env)).any (·.1) = false := by intro _; rfl) : EO X M σ H (.Call (.Name "list" p) [e] [] pos) (NwD K M H ds) := by
  refine eo_callTy (r := fun xs H Q => ∃ p ys, xs = [.ref p] ∧ (SqL K H p ys ∨ SqT K H p ys) ∧ ∀ l, H l = none → Q (.ref l) (upd H l (.lst ys))) (fun j => by rw [← hK j]; exact call_list_of) hm (by decide +kernel) (ao_one h hs) (fun vs H1 g r Q q => ?_) hg (by decide) (by decide) hs hpl
  obtain ⟨v, rfl, rfl⟩ := r
  exact ⟨a, xs, rfl, .inl (hq H1 g), fun l hl => q _ _ (.new g.r hl) ⟨l, xs, rfl, (g.fresh hl).1, upd_same, (Gr.new g.r hl).dts (g.dts hd)⟩⟩
/-- l[i:], a new list -/
theorem eo_from {a : Addr} {xs : List V} {i : Nat} {o lo : Expr} {p2 : Pos} (hK : ∀ j, (X j).K = K) (h : EO X M σ H o (fun v _ => v = .ref a)) (hq : ∀ H', Gr M H H' → SqL K H' a xs) (hd : DtAll K H xs ds) (hlo : ED X M K σ H lo (.int (i : Int))) (hi : i ≤ xs.length) :
    EO X M σ H (.Subscript o (.Slice (some lo) none none p2) pos) (NwD K M H (ds.drop i)) := by
  obtain ⟨to, po, qo⟩ := h
  obtain ⟨tl, pl, ql⟩ := hlo
  refine ⟨tSl (rSlL K) to (tPart tl) tNoPart, fun j => by rw [← hK j]; exact pe_slice sl_list (po j) (po_some (pl j)) po_none, fun H1 g Q k => ?_⟩
  refine qo H1 g _ fun v H2 g2 hv => ?_
  subst hv
  refine ql H2 (g.trans g2) _ fun u H3 g3 hu => ?_
  have g13 := (g.trans g2).trans g3
  refine ⟨(i : Int), dt_int hu, a, xs, rfl, hq H3 g13, fun p hp => ?_⟩
  have ec : cutV xs (some (i : Int)) none = xs.drop i := by
    unfold cutV
    rw [HT.sIx_nat, HT.sIx_none, Nat.min_eq_left hi, List.take_of_length_le (by rw [List.length_drop]; omega)]
  rw [ec]
  exact k _ _ ((g2.trans g3).trans (.new g3.r hp)) ⟨p, _, rfl, (g13.fresh hp).1, upd_same, (Gr.new g3.r hp).dts ((g13.dts hd).drop i)⟩
end
section
variable {X : Cx} {M M0 : Mov} {K : PySem.W.Frag} {σ : L2.St} {H H0 : Hp} {rest body : List Stmt} {D : Ends} {e iter tg : Expr} {g : TG} {pos : Pos} {R : V → Hp → Prop}
/-- over a list that the iterable makes -/
theorem rs_forN (hp : PassesOwn (model X.prog X.w) X.A X.env X.xe) (hc : X.calm = true) (hK : X.K = K) (ok : M.ok H) (hi : EO (fun _ : Unit => X) M σ H iter R) (hg : PG X tg g)
    (h : ∀ v H1, Gr M H H1 → R v H1 → ∃ (a : Addr) (xs : List V), v = .ref a ∧ SqL K H1 a xs ∧ ∃ Pv : Nat → L2.St → Hp → Prop, Pv 0 σ H1 ∧ (∀ i σ' H', i ≤ xs.length → Pv i σ' H' → SqL K H' a xs) ∧
      (∀ (i : Nat) (v : V) σ' H', xs[i]? = some v → Pv i σ' H' → g v σ' H' fun σ2 H2 => RS X body (Ends.turn D (Pv (i + 1)) fun σ3 H3 => RS X rest D σ3 H3) σ2 H2) ∧
      (∀ σ' H', Pv xs.length σ' H' → RS X rest D σ' H')) (hf : ∀ x, foldedSetIterable iter X.env x = pure x := by intro _; rfl) : RS X (.For tg iter body [] pos :: rest) D σ H := by
  obtain ⟨ti, pi, qi⟩ := hi
  have pI : PI X tg iter (iList K ti) := by
    rw [← hK]
    exact pi_list (pi ())
  refine rs_for hp hc pI hg ?_ hf
  refine qi H (.refl ok) _ fun v H1 g1 hv => ?_
  obtain ⟨a, xs, rfl, hq, Pv, h0, gr, hs, hd⟩ := h v H1 g1 hv
  exact ⟨a, rfl, ⟨xs, hq⟩, for_list (K := K) (a := a) (xs := xs) Pv h0 gr (fun i y σ' H' hy h => hs i y σ' H' hy h) fun σ' H' h => hd σ' H' h⟩
/-- l.extend(e), l a list of the body's own, e a new list -/
theorem rs_extend {o : Expr} {l : Addr} {xs : List V} {ds : List PyData} {p1 p2 : Pos} (ok : M.ok H) (hO : EO (fun _ : Unit => X) M σ H o (fun v _ => v = .ref l)) (hl : H l = some (.lst xs)) (hna : ¬ M.at_ l) (hz : xs.length ≤ 100000) (hd : ds.length ≤ 100000) (he : EO (fun _ : Unit => X) M σ H e (NwD K M H ds))
    (k : ∀ ys H1, Gr M H H1 → H1 l = some (.lst xs) → DtAll K H1 ys ds → RS X rest D σ (upd H1 l (.lst (xs ++ ys))))
    (hs : swapsWith (.Call (.Attribute o "extend" p1) [e] [] p2) none pos.line X.env = pure false := by rfl)
    (hbase : attributeBase o "extend" X.env (eval o X.env) = eval o X.env := by rfl)
    (hfew : ((backTo p2 (starEach (e :: []) X.env)).all (fun x => !x.1) && (backToKw p2 (keywordEach [] X.env)).all (fun x => x.1.isSome)
      && decide ((e :: ([] : List Expr)).length + ([] : List Keyword).length + (if ([] : List Keyword).isEmpty then 0 else 1) < 30)) = true := by rfl)
    (hline : (p1.endLine == p2.line) = true := by rfl) (hst : starEach (e :: []) X.env = (false, eval e X.env) :: starEach [] X.env := by rfl) (hpl : (backTo p2 (starEach [] X.env)).any (·.1) = false := by rfl) :
    RS X (.Expr (.Call (.Attribute o "extend" p1) [e] [] p2) pos :: rest) D σ H := by
  obtain ⟨to, po, qo⟩ := hO
  obtain ⟨te, pe, qe⟩ := he
  refine rs_cons (ps_expr (pe_bm PySem.F.plainAttrs_list PySem.F.slot_list_extend PySem.F.type_list_extend mt_extend (po ()) (pa_cons (pe ()) pa_nil hst) hbase hfew hline hst hpl) hs) ?_
  refine qo H (.refl ok) _ fun v H1 g1 hv => ?_
  subst hv
  have h1 := g1.keep l _ hl hna
  refine ⟨.inl ⟨rfl, _, SqL.of h1⟩, ?_⟩
  refine qe H1 g1 _ fun u H2 g2 hu => ?_
  obtain ⟨b, ys, rfl, hn, hb, hy⟩ := hu
  have h2 := g2.keep l _ h1 hna
  refine ⟨l, b, xs, ys, rfl, rfl, h2, hb, ?_, k ys H2 (g1.trans g2) h2 hy⟩
  rw [hy.length]
  exact Nat.le_trans (Nat.add_le_add hz hd) (by decide)
end
end Kt
end
section
set_option maxHeartbeats 4000000
/-! Kt: lots. -/
namespace Kt
open PySem PySem.Spec PyProof.Rows L2
/-- lots, its code object at c, its table at P -/
structure HasC (K : PySem.W.Frag) (mg : Str → Option Value) (base : Heap) (x : Str) (st : Stmt) (c P : Addr) : Prop where
  ex : ∃ (f : Addr) (oc : Value) (od : Option Addr) (kV doc pm : Value) (an : Option Addr) (ct : Value) (osl : Array (Option Value)), mg x = some (.ref f) ∧ PySem.W.keepIn K (.ref f) = true ∧
    K.lookup f = some ⟨oc, od, .func (PySem.W.fnOf x x (defArgs st) (defBody st) (defScope st) .none kV doc pm an (.ref c) ct), osl⟩ ∧ PySem.W.codeIn K (.ref c) x = true
  tab : LamX.TabB base mg c P
def lamQ : Str := "lots.<locals>.<lambda>"
def spLots (K : PySem.W.Frag) (M : Mov) : Sp := fun vs H Q _ => M.ok H ∧ ∃ n : Nat, vs = [.int (n : Int)] ∧ 1 ≤ n ∧ n ≤ 4 ∧ ∀ v H' (ls : List (List Nat)), Gr M H H' → ls.Perm (lotsL n) → NwD K M H (ls.map lotD) v H' → Q v H'
theorem lotsA_len : ∀ n : Nat, (lotsA n).length = 2 ^ n
  | 0 => rfl
  | n + 1 => by
    show (lotsA n ++ (lotsA n).map (· ++ [n])).length = _
    rw [List.length_append, List.length_map, lotsA_len n, Nat.pow_succ]
    omega
theorem lots_small {n i : Nat} (h : i ≤ n) (h4 : n ≤ 4) : (lotsA i).length ≤ 16 := by
  rw [lotsA_len]
  exact Nat.le_trans (Nat.pow_le_pow_right (by decide) (show i ≤ 4 by omega)) (by decide)
theorem lotD_app (l : List Nat) (x : Nat) : lotD (l ++ [x]) = .tuple (l.map (fun (x : Nat) => PyData.int (x : Int)) ++ [.int (x : Int)]) := by
  unfold lotD
  rw [List.map_append]
  rfl
section
variable {P : Program} {w : World} {K : PySem.W.Frag} {mg : Str → Option Value} {base : Heap}
theorem c_lots {c T : Addr} (F : HasC K mg base "lots" (top 22) c T) (B : Blt mg) : Cal P w K mg base 1 "lots" ["size"] (spLots K (Mov.tab T lamQ)) := by
  obtain ⟨f, oc, od, kV, doc, pm, an, ct, osl, hm, hk, lk, hc⟩ := F.ex
  have sc : FnScope ["size", "found", "letter", "lot"] ["size"] (defScope (top 22)) := ⟨rfl, rfl, rfl, by decide +kernel, rfl, by decide +kernel, by decide +kernel⟩
  refine ⟨f, _, fn_of (sp := spLots K (Mov.tab T lamQ)) lk hc sc (fun vs H Q E ⟨_, n, e, _⟩ => by rw [e]; rfl) (fun A outer s H vs Q E hr h => ⟨_, (pss_rs _ _).nox, ?_⟩), hm, hk, .all fun us hl => match us, hl with | [_], _ => rfl⟩
  have cx : CxIs (fun _ : Unit => bX P w K mg base ["size", "found", "letter", "lot"] "lots" (defScope (top 22)) f (.ref c) A outer s H E) P w K mg base 0 := ⟨fun _ => rfl, fun _ => rfl, fun _ => rfl, fun _ => rfl, fun _ => rfl, fun _ => hr, fun _ => rfl⟩
  obtain ⟨ok, n, rfl, h1, h4, q⟩ := h
  -- found = [()]
  refine rs_set 1 ok (eo_lst (K := K) (ad_cons (ed_tup ad_nil) ad_nil)) (fun v H1 g1 hv => ?_) sc.nd
  obtain ⟨l, xs0, rfl, hl0, hl1, hd1⟩ := hv
  have na : ¬ (Mov.tab T lamQ).at_ l := not_at ok hl0
  -- for letter in range(size)
  refine rs_forR (K := K) PassesOwn.never rfl g1.r B.range (ed_var 0 rfl (.int (n : Int))) (by omega) (by omega) (pg_name (i := 2) sc.nd rfl (Or.inr rfl)) fun H2 g2 => ?_
  refine ⟨fun i σ' H' => Gr (Mov.tab T lamQ) H H' ∧ ∃ x y, σ' = [some (.int (n : Int)), some (.ref l), x, y] ∧ ∃ xs, H' l = some (.lst xs) ∧ DtAll K H' xs ((lotsA i).map lotD),
    ⟨g1.trans g2, none, none, rfl, xs0, g2.keep l _ hl1 na, g2.dts hd1⟩, ?_, ?_⟩
  · rintro i σ' H3 hi ⟨g3, x, y, rfl, xs, hl3, hd3⟩
    have hlen : (lotsA i).length ≤ 16 := lots_small (n := n) (by omega) h4
    have hxl : xs.length ≤ 16 := by
      rw [hd3.length, List.length_map]
      exact hlen
    refine rs_extend (K := K) (ds := (lotsA i).map fun k => lotD (k ++ [i])) g3.r (eo_var 1 (hs := rfl) (hR := fun _ _ => rfl)) hl3 na (by omega) (by rw [List.length_map]; omega)
      (eo_lcN (n := 0) (te := tOp (rCatA K) (tVar 3) (tTup (tCons (tVar 2) tNil))) cx (fun _ => sc.nd) (eo_listOf (fun _ => rfl) (fun _ => B.list) (eo_var 1 (hs := rfl) (hR := fun _ _ => rfl)) (fun H' g => .of (g.keep l _ hl3 na)) hd3) (fun _ => blkOk_by (own := [("lot", 3)]) (N := ["size", "found", "letter", "lot"]) (sc := defScope (top 22)) (by decide +kernel))
        (fun _ _ _ _ _ _ => pg_name (i := 3) sc.nd rfl (Or.inl rfl)) (fun _ _ _ _ _ _ => pe_op op_catA (pv 3) (pe_tup (pa_cons (pv 2) pa_nil))) (by rw [List.length_map, List.length_map]) (by rw [List.length_map]; omega) ?_) ?_
    · intro j v d f H4 hd hf g4 hv
      rw [List.getElem?_map] at hd hf
      cases hj : (lotsA i)[j]? with
      | none => rw [hj] at hd; cases hd
      | some k =>
        rw [hj] at hd hf
        cases hd
        cases hf
        show QD K (Mov.tab T lamQ) _ _ H4 (lotD (k ++ [i]))
        rw [lotD_app]
        have hk := (lots_lt i k (List.mem_of_getElem? hj)).2
        exact qd_cat (qd_var rfl hv) (qd_tup (qa_cons (qd_var rfl (.int (i : Int))) qa_nil)) (by rw [List.length_map]; show k.length + 1 ≤ 1000; omega)
    · intro ys H4 g4 hl4 hy
      refine rs_nil ⟨(g3.trans g4).upd hl0 hl4 loc_lst, some (.int (i : Int)), y, rfl, xs ++ ys, upd_same, ?_⟩
      have e : (lotsA (i + 1)).map lotD = (lotsA i).map lotD ++ (lotsA i).map fun k => lotD (k ++ [i]) := by
        show (lotsA i ++ (lotsA i).map (· ++ [i])).map lotD = _
        rw [List.map_append, List.map_map]
        rfl
      rw [e]
      have m : ∀ a zs, SqT K H4 a zs → SqT K (upd H4 l (.lst (xs ++ ys))) a zs := fun a zs z => by
        rcases z with (z | ⟨o, z⟩) | z
        · exact .inl (.inl (by rw [upd_ne (ne_of z hl4 (by intro y; cases y))]; exact z))
        · exact .inl (.inr ⟨o, by rw [upd_ne (ne_of z hl4 (by intro y; cases y))]; exact z⟩)
        · exact .inr z
      exact ((g4.dts hd3).app hy).mono m
  · rintro σ' H3 ⟨g3, x, y, rfl, xs, hl3, hd3⟩
    rw [Int.toNat_natCast] at hd3
    -- return sorted(found[1:], key=..)
    have hpos : 1 ≤ xs.length := by
      rw [hd3.length, List.length_map, lotsA_eq, List.length_cons]
      omega
    have few : (lotsL n).length ≤ 16 := by
      have := lots_small (n := n) (i := n) (Nat.le_refl _) h4
      rw [lotsA_eq, List.length_cons] at this
      omega
    obtain ⟨te, pe, qe⟩ := eo_from (X := fun _ : Unit => bX P w K mg base ["size", "found", "letter", "lot"] "lots" (defScope (top 22)) f (.ref c) A outer s H E) (K := K) (M := Mov.tab T lamQ) (σ := [some (.int (n : Int)), some (.ref l), x, y]) (H := H3) (i := 1) (o := .Name "found" ⟨49, 18, 49, 23⟩) (lo := .Constant (.int 1) 0 ⟨49, 24, 49, 25⟩) (p2 := ⟨49, 24, 49, 26⟩) (pos := ⟨49, 18, 49, 27⟩) (fun _ => rfl) (eo_var 1 (hs := rfl) (hR := fun _ _ => rfl)) (fun H' g => .of (g.keep l _ hl3 na)) hd3 ed_int hpos
    refine rs_cons (ps_ret (pe_sortLam (P := T) (c := c) (q := lamQ) (pe ()) rfl B.sorted B.len F.tab rfl rfl (hr.mono (Nat.zero_le _)))) ?_
    refine qe H3 (.refl g3.r) _ fun v H4 g4 hv => ?_
    obtain ⟨a, ys, rfl, ha0, ha, hd4⟩ := hv
    have g04 := g3.trans g4
    refine ⟨g04.r.1, a, ys, lotsL n, rfl, not_at g3.r ha0, ha, ?_, fun k hk => ?_, by omega, fun H5 tg p xs' ls' hp hperm hd5 => ?_⟩
    · rw [← List.map_drop, lotsA_eq] at hd4
      exact hd4
    · have := (lots_lt n k (lotsL_sub hk)).2
      omega
    · have g5 := tg.gr g04.r
      have g05 := g04.trans g5
      exact q _ _ ls' (g05.trans (.new g05.r hp)) hperm ⟨p, xs', rfl, (g05.fresh hp).1, upd_same, (Gr.new g05.r hp).dts hd5⟩
end
end Kt
end
section
set_option maxHeartbeats 4000000
/-! Kt: total, mean, even_worth, raw_even_lot, raw_level, raw_filled. -/
set_option exponentiation.threshold 5000
namespace Kt
open PySem PySem.Spec PyProof.Rows L2
local macro_rules | `(tactic| walk_at "ed") => `(tactic| first
  | exact ed_int
  | exact ed_bl
  | exact ed_non
  | exact ed_var 0 rfl (by assumption)
  | exact ed_var 1 rfl (by assumption)
  | exact ed_var 2 rfl (by assumption)
  | exact ed_var 3 rfl (by assumption)
  | exact ed_var 4 rfl (by assumption)
  | exact ed_var 5 rfl (by assumption)
  | exact ed_var 6 rfl (by assumption)
  | exact ed_var 7 rfl (by assumption)
  | exact ed_glob (v := .int _) (fun _ => rfl) (fun _ => by assumption) ⟨_, rfl⟩ (fun _ => .int _)
  | (refine' ed_add ?ha ?hb; (case ha => walk_at "ed"); (case hb => walk_at "ed"))
  | (refine' ed_sub ?ha ?hb; (case ha => walk_at "ed"); (case hb => walk_at "ed"))
  | (refine' ed_ix (fun _ => rfl) ?ha ?hb ?hi; (case ha => walk_at "ed"); (case hb => walk_at "ed"); (case hi => rfl))
  | (refine' ed_len (fun _ => rfl) (fun _ => Blt.len (by assumption)) ?ha; (case ha => walk_at "ed")))
/-- the module's nought and one -/
def FrC (K : PySem.W.Frag) (mg : Str → Option Value) (x : Str) (q : Rat) : Prop := ∃ v u, mg x = some u ∧ RelV v u ∧ ∀ H, Dt K H v (fr q)
section
variable {ι : Type} {X : ι → Cx} {M : Mov} {K : PySem.W.Frag} {mg : Str → Option Value} {σ : L2.St} {H : Hp} {pos : Pos} {x : Str} {q : Rat}
theorem ed_frc (h : FrC K mg x q) (hm : ∀ j, (X j).mg = mg) (hg : ∀ j, Gl (X j) x := by intro _; rfl) (hd : (x == ("__debug__" : Str)) = false := by decide) : ED X M K σ H (.Name x pos) (fr q) := by
  obtain ⟨v, u, a, r, d⟩ := h
  exact ed_glob hg (fun j => by rw [hm]; exact a) r d hd
end
theorem take_getD {ps : List Rat} {i : Nat} {p : Rat} (h : ps[i]? = some p) : totalL (ps.take (i + 1)) = totalL (ps.take i) + p := by
  rw [List.take_add_one, h]
  exact totalL_snoc _ _
theorem dts_frs {K : PySem.W.Frag} {H : Hp} {xs : List V} {ps : List Rat} {i : Nat} {v : V} (h : DtAll K H xs (ps.map fr)) (e : xs[i]? = some v) : ∃ p, ps[i]? = some p ∧ Dt K H v (fr p) := by
  obtain ⟨d, hd, hv⟩ := h.get' e
  rw [List.getElem?_map] at hd
  cases hp : ps[i]? with
  | none => rw [hp] at hd; cases hd
  | some p =>
    rw [hp] at hd
    cases hd
    exact ⟨p, rfl, hv⟩
theorem bd_take {b : Nat} {ps : List Rat} (h : ∀ p ∈ ps, Bd b p) (hl : ps.length ≤ 10) (i : Nat) : Bd (10 * b) (totalL (ps.take i)) := by
  refine (Bd.total fun p hp => h p (List.mem_of_mem_take hp)).le ?_
  exact Nat.mul_le_mul_right _ (by rw [List.length_take]; omega)
theorem dy_take {m : Nat} {ps : List Rat} (h : ∀ p ∈ ps, Dy m p) (i : Nat) : Dy m (totalL (ps.take i)) := Dy.total fun p hp => h p (List.mem_of_mem_take hp)
/-- parts that can be added -/
structure Pok (m b : Nat) (ps : List Rat) : Prop where
  dy : ∀ p ∈ ps, Dy m p
  bd : ∀ p ∈ ps, Bd b p
  len : ps.length ≤ 10
  m : m ≤ 18
  b : b ≤ 1000
theorem Pok.smT {m b : Nat} {ps : List Rat} (h : Pok m b ps) (i : Nat) : Sm (totalL (ps.take i)) := (dy_take h.dy i).sm (bd_take h.bd h.len i) (by have := h.m; omega) (by have := h.b; omega)
theorem Pok.sm {m b : Nat} {ps : List Rat} (h : Pok m b ps) {p : Rat} (hp : p ∈ ps) : Sm p := (h.dy p hp).sm (h.bd p hp) (by have := h.m; omega) (by have := h.b; omega)
def spTotal (K : PySem.W.Frag) (R : List Rat → Rat) : Sp := fun vs H Q _ => ∃ (a : Addr) (xs : List V) (ps : List Rat) (m b : Nat), vs = [.ref a] ∧ H a = some (.lst xs) ∧ DtAll K H xs (ps.map fr) ∧ 0 < ps.length ∧ Pok m b ps ∧ ∀ v H', Gr .no H H' → Dt K H' v (fr (R ps)) → Q v H'
theorem sm_zero : Sm 0 := by unfold Sm; decide +kernel
section
variable {P : Program} {w : World} {K : PySem.W.Frag} {mg : Str → Option Value} {base : Heap}
theorem c_total (F : Has K mg "total" (top 23)) (N0 : FrC K mg "NOUGHT" 0) (C : Cal P w K mg base 2 "plus" ["one", "other"] (DS K .no RPlus)) : Cal P w K mg base 3 "total" ["parts"] (spTotal K totalL) := by
  have sc : FnScope ["parts", "found", "part"] ["parts"] (defScope (top 23)) := ⟨rfl, rfl, rfl, by decide +kernel, rfl, by decide +kernel, by decide +kernel⟩
  refine cal_of F sc (fun vs H Q E ⟨a, xs, ps, m, b, e, _⟩ => by rw [e]; rfl) (fun _ _ _ _ _ _ us hl => match us, hl with | [_], _ => rfl) (fun f cdv A outer s H vs Q E cx h => ?_)
  obtain ⟨a, xs, ps, m, b, rfl, ha, hd, _, hp, q⟩ := h
  refine rs_set (M := .no) 1 trivial (ed_frc N0 cx.mg) (fun v H1 g1 hv => ?_) sc.nd
  have na : ¬ Mov.no.at_ a := fun z => z.elim
  refine rs_forL (K := K) (M := .no) PassesOwn.never rfl rfl g1.r (eo_var 0 (hs := rfl) (hR := fun H' g => ⟨rfl, .of (g.keep a _ (g1.keep a _ ha na) na)⟩)) (pg_name (i := 2) sc.nd rfl (Or.inl rfl)) fun H2 g2 => ?_
  have g12 := g1.trans g2
  refine ⟨fun i σ' H' => Gr Mov.no H H' ∧ ∃ v y, σ' = [some (.ref a), some v, y] ∧ Dt K H' v (fr (totalL (ps.take i))), ⟨g12, v, none, rfl, g2.dt hv⟩, fun i σ' H' _ h => .of (h.1.keep a _ ha na), ?_, ?_⟩
  · rintro i u σ' H3 hi ⟨g3, v, y, rfl, hv⟩
    obtain ⟨p, hpi, hu⟩ := dts_frs (g3.dts hd) hi
    refine rs_set 1 g3.r (ed_call C cx (by decide) (.refl _) (ad_cons (ed_var 1 rfl hv) (ad_cons (ed_var 2 rfl hu) ad_nil)) ⟨_, _, rfl, hp.smT i, hp.sm (List.mem_of_getElem? hpi), rfl⟩) (fun z H4 g4 hz => ?_) sc.nd
    rw [← take_getD hpi] at hz
    exact rs_nil ⟨g3.trans g4, z, some u, rfl, hz⟩
  · rintro σ' H3 ⟨g3, v, y, rfl, hv⟩
    refine rs_ret g3.r (ed_var 1 rfl hv) fun z H4 g4 hz => q z H4 (g3.trans g4) ?_
    rw [hd.length, List.length_map, List.take_length] at hz
    exact hz
theorem fr_one_n {n : Nat} (h : 0 < n) : fr (mkRat 1 n) = .tuple [.int 1, .int (n : Int)] := by
  rw [fr_mk 1 h]
  have e : Nat.gcd (1 : Int).natAbs n = 1 := Nat.gcd_one_left n
  rw [e]
  simp
theorem dy_part1 {k : Nat} (h1 : 1 ≤ k) (h4 : k ≤ 4) : Dy 1 (mkRat 1 k) := by
  have := (Dy.int 0 1).part h1 h4
  rw [show ((1 : Int) : Rat) = 1 from rfl, Rat.one_mul] at this
  exact this
theorem sm_part1 {k : Nat} (h1 : 1 ≤ k) (h4 : k ≤ 4) : Sm (mkRat 1 k) := by
  have hk : k = 1 ∨ k = 2 ∨ k = 3 ∨ k = 4 := by omega
  rcases hk with rfl | rfl | rfl | rfl <;> (unfold Sm; decide +kernel)
def spMean (K : PySem.W.Frag) : Sp := fun vs H Q _ => ∃ (a : Addr) (xs : List V) (ps : List Rat) (m b : Nat), vs = [.ref a] ∧ H a = some (.lst xs) ∧ DtAll K H xs (ps.map fr) ∧ 0 < ps.length ∧ ps.length ≤ 4 ∧ Pok m b ps ∧ ∀ v H', Gr .no H H' → Dt K H' v (fr (meanL ps)) → Q v H'
theorem c_mean (F : Has K mg "mean" (top 24)) (B : Blt mg) (C : Cal P w K mg base 2 "times" ["one", "other"] (DS K .no RTimes)) (C2 : Cal P w K mg base 3 "total" ["parts"] (spTotal K totalL)) : Cal P w K mg base 4 "mean" ["parts"] (spMean K) := by
  have sc : FnScope ["parts"] ["parts"] (defScope (top 24)) := ⟨rfl, rfl, rfl, by decide +kernel, rfl, by decide +kernel, by decide +kernel⟩
  refine cal_of F sc (fun vs H Q E ⟨a, xs, ps, m, b, e, _⟩ => by rw [e]; rfl) (fun _ _ _ _ _ _ us hl => match us, hl with | [_], _ => rfl) (fun f cdv A outer s H vs Q E cx h => ?_)
  obtain ⟨a, xs, ps, m, b, rfl, ha, hd, h0, h4, hp, q⟩ := h
  have na : ¬ Mov.no.at_ a := fun z => z.elim
  have hxs : xs.length = ps.length := by rw [hd.length, List.length_map]
  have hT := hp.smT ps.length
  rw [List.take_length] at hT
  refine rs_ret (M := .no) trivial (R := fun v H' => Dt K H' v (fr (meanL ps))) (ed_call (d := fr (meanL ps)) C cx (by decide) (.refl _) (ad_cons (d := fr (totalL ps)) (eo_call C2 cx (by decide) (ao_one (R := fun v H' => v = .ref a) (eo_var 0 (hs := rfl) (hR := fun H' g => rfl))) (fun vs H1 g hv Q' k => ?_)) (ad_cons (d := fr (mkRat 1 ps.length)) ?_ ad_nil)) ⟨_, _, rfl, hT, sm_part1 h0 h4, rfl⟩) fun z H4 g4 hz => q z H4 g4 hz
  · obtain ⟨v, rfl, rfl⟩ := hv
    exact ⟨a, xs, ps, m, b, rfl, g.keep a _ ha na, g.dts hd, h0, hp, k⟩
  · rw [fr_one_n h0]
    refine ed_tup (ad_cons ed_int (ad_cons (ed_lenL (m := ps.length) (fun _ => rfl) (fun _ => B.len) (eo_var 0 (hs := rfl) (hR := fun H' g => ⟨a, xs, rfl, .of (g.keep a _ ha na), hxs⟩))) ad_nil))

def REvenWorth (ds : List PyData) (d : PyData) : Prop := ∃ (m B : Nat) (ws : List Rat) (l : List Nat), ds = [.tuple (ws.map fr), lotD l] ∧ Wok m B ws ∧ m ≤ 15 ∧ B ≤ 900 ∧ l ∈ lotsL ws.length ∧ d = fr (ew ws l)
theorem lotD_len (l : List Nat) : (l.map fun (x : Nat) => PyData.int (x : Int)).length = l.length := List.length_map _
theorem atI_nat {α : Type} {l : List α} {i : Nat} {x : α} (h : l[i]? = some x) : atI l (i : Int) = some x := by
  have hl := (List.getElem?_eq_some_iff.mp h).1
  unfold atI
  have e : ixN l.length (i : Int) = some i := by
    unfold ixN
    simp
    omega
  rw [e]
  exact h
theorem c_even_worth (F : Has K mg "even_worth" (top 25)) (B : Blt mg) (C : Cal P w K mg base 2 "plus" ["one", "other"] (DS K .no RPlus)) (C2 : Cal P w K mg base 4 "mean" ["parts"] (spMean K)) (C3 : Cal P w K mg base 1 "fraction" ["top", "bottom"] (DS K .no RFraction)) : Cal P w K mg base 5 "even_worth" ["worths", "lot"] (DS K .no REvenWorth) := by
  have sc : FnScope ["worths", "lot", "letter"] ["worths", "lot"] (defScope (top 25)) := ⟨rfl, rfl, rfl, by decide +kernel, rfl, by decide +kernel, by decide +kernel⟩
  refine cal_of F sc (ds_len fun ds d ⟨_, _, _, _, e, _⟩ => by rw [e]; rfl) (fun _ _ _ _ _ _ us hl => match us, hl with | [_, _], _ => rfl) (fun f cdv A outer s H vs Q E cx h => ?_)
  obtain ⟨ok, ds, d, hd, ⟨m, b, ws, l, rfl, hw, hm, hb, hl, rfl⟩, q⟩ := h
  obtain ⟨v, u, rfl, hv, hu⟩ := dts2 hd
  obtain ⟨l1, l4, lx⟩ := hw.lot hl
  have pk : Pok m b (l.map fun x => ws.getD x 0) := ⟨fun p hp => (hw.parts hl p hp).1, fun p hp => (hw.parts hl p hp).2, by rw [List.length_map]; omega, by omega, by omega⟩
  have hml : (l.map fun x => ws.getD x 0).length = l.length := List.length_map _
  have sm1 : Sm (meanL (l.map fun x => ws.getD x 0)) := by
    refine Dy.sm (m := m + 1) (B := b) ?_ (mean_bd ?_ pk.bd) (by omega) (by omega)
    · unfold meanL
      rw [hml]
      exact (Dy.total pk.dy).part l1 l4
    · intro z
      rw [z] at hml
      simp at hml
      omega
  have sm2 : Sm (mkRat ((l.length : Int) - 1) l.length) := by
    obtain ⟨r1, r2⟩ := lessOne_range l1 l4
    exact (dy_lessOne l1 l4 0).sm (B := 1) ⟨Rat.le_trans (by decide) r1, r2⟩ (by decide) (by decide)
  refine rs_ret (M := .no) trivial (R := fun v H' => Dt K H' v (fr (ew ws l))) (ed_call C cx (by decide) (.refl _) (ad_cons (d := fr (meanL (l.map fun x => ws.getD x 0))) (eo_call C2 cx (by decide) (ao_one (R := NwD K .no H ((l.map fun x => ws.getD x 0).map fr)) (eo_lcT (te := tOp (rIxT K) (tVar 0) (tVar 2)) (ix := 2) cx (fun _ => sc.nd) (ed_var 1 rfl hu) (fun _ => blkOk_by (own := [("letter", 2)]) (N := ["worths", "lot", "letter"]) (sc := defScope (top 25)) (by decide +kernel)) (fun _ _ _ _ _ _ => pg_name (i := 2) sc.nd rfl (Or.inl rfl)) (fun _ _ _ _ _ _ => pe_ix ix_tup (pv 0) (pv 2) (fun _ _ => rfl)) ?_ ?_ ?_)) ?_) (ad_cons (d := fr (mkRat ((l.length : Int) - 1) l.length)) (ed_call C3 cx (by decide) (.refl _) (ad_cons (ed_sub (ed_len (fun _ => rfl) (fun _ => B.len) (ed_var 1 rfl hu)) ed_int) (ad_cons (ed_len (fun _ => rfl) (fun _ => B.len) (ed_var 1 rfl hu)) ad_nil)) ⟨(l.length : Int) - 1, l.length, by rw [lotD_len], by omega, Nat.lt_of_le_of_lt (show l.length ≤ 4 by omega) (by decide), rfl⟩) ad_nil)) ⟨_, _, rfl, sm1, sm2, rfl⟩) fun z H4 g4 hz => q z H4 g4 hz
  · rw [List.length_map, List.length_map, List.length_map]
  · rw [List.length_map]
    omega
  · intro i x d f H1 hd hf g hx
    rw [List.getElem?_map] at hd
    rw [List.map_map, List.getElem?_map] at hf
    cases hi : l[i]? with
    | none => rw [hi] at hd; cases hd
    | some k =>
      rw [hi] at hd hf
      cases hd
      cases hf
      have hk := lx k (List.mem_of_getElem? hi)
      refine qd_ix (qd_var rfl (g.dt hv)) (qd_var rfl hx) (atI_nat ?_)
      rw [List.getElem?_map, List.getElem?_eq_getElem hk]
      show some (fr ws[k]) = some (fr (ws.getD k 0))
      rw [List.getD_eq_getElem?_getD, List.getElem?_eq_getElem hk]
      rfl
  · rintro vs H1 g ⟨x, rfl, a, xs, rfl, ha0, ha, hxs⟩ Q' k
    exact ⟨a, xs, _, m, b, rfl, ha, hxs, by rw [hml]; omega, by rw [hml]; omega, pk, k⟩
end
end Kt
end
section
set_option maxHeartbeats 4000000
/-! Kt: raw_even_lot, raw_level, raw_filled. -/
namespace Kt
open PySem PySem.Spec PyProof.Rows L2
section
variable {ι : Type} {X : ι → Cx} {M : Mov} {K : PySem.W.Frag} {σ : L2.St} {H : Hp} {a b : Expr} {es : List Expr} {pos p : Pos} {k : Nat}
theorem to_isN {t : Bool} (h : EO X M σ H a fun v _ => decide (v = .non) = t) : TO X M σ H (.Compare a [.Is] [.Constant .none k p] pos) t :=
  to_cmp2 (fun _ => op_isN) (nomark _) h (R2' := fun v _ => v = .non) ⟨_, fun _ => pe_non, fun H1 g Q k => k _ H1 (.refl g.r) rfl⟩ (fun _ _ _ _ h => h) fun x y H1 g hx hy Q q => ⟨hy, by rw [hx]; exact q H1 (.refl g.r)⟩
theorem wo_orS {t u : Bool} (h : TO X M σ H a t) (h2 : ∃ t2 : TT, (∀ j, PW (X j) (.BoolOp .Or (b :: es) pos) t2) ∧ (t = false → ∀ H1, Gr M H H1 → ∀ Q : Bool → Hp → Prop, (∀ H2, Gr M H1 H2 → Q u H2) → t2 σ H1 Q)) : WO X M σ H (.BoolOp .Or (a :: b :: es) pos) (t || u) := by
  obtain ⟨te, p, q⟩ := h
  obtain ⟨te2, p2, q2⟩ := h2
  refine ⟨_, fun j => pw_or (p j) (p2 j), fun H1 g Q k => q H1 g _ fun H2 g2 => ?_⟩
  cases t with
  | true => exact k H2 g2
  | false => exact q2 rfl H2 (g.trans g2) Q fun H3 g3 => k H3 (g2.trans g3)
theorem sqT_updL {H : Hp} {l : Addr} {xs : List V} {o : HO} (h : H l = some (.lst xs)) : ∀ a zs, SqT K H a zs → SqT K (upd H l o) a zs := fun a zs z => by
  rcases z with (z | ⟨o, z⟩) | z
  · exact .inl (.inl (by rw [upd_ne (ne_of z h (by intro y; cases y))]; exact z))
  · exact .inl (.inr ⟨o, by rw [upd_ne (ne_of z h (by intro y; cases y))]; exact z⟩)
  · exact .inr z
theorem dt_ref_ne {H : Hp} {v : V} {ds : List PyData} (h : Dt K H v (.tuple ds)) : decide (v = .non) = false := by
  obtain ⟨a, xs, rfl, _⟩ := dt_tup h
  rfl
end
def spEvenLot (K : PySem.W.Frag) (M : Mov) : Sp := fun vs H Q _ => M.ok H ∧ ∃ (m B : Nat) (ws : List Rat), DtAll K H vs [.tuple (ws.map fr)] ∧ Wok m B ws ∧ m ≤ 15 ∧ B ≤ 900 ∧ ∀ v H' l, Gr M H H' → l ∈ lotsL ws.length → (∀ k ∈ lotsL ws.length, ew ws k ≤ ew ws l) → Dt K H' v (lotD l) → Q v H'
theorem Wok.ewSm {m B : Nat} {ws : List Rat} (h : Wok m B ws) (hm : m ≤ 15) (hb : B ≤ 900) {l : List Nat} (hl : l ∈ lotsL ws.length) : Sm (Kt.ew ws l) := (h.ew hl).1.sm (h.ew hl).2 (by omega) (by omega)
section
variable {P : Program} {w : World} {K : PySem.W.Frag} {mg : Str → Option Value} {base : Heap} {T : Addr}
theorem c_raw_even_lot (F : Has K mg "raw_even_lot" (top 26)) (B : Blt mg) (C : Cal P w K mg base 1 "lots" ["size"] (spLots K (Mov.tab T lamQ))) (C2 : Cal P w K mg base 5 "even_worth" ["worths", "lot"] (DS K .no REvenWorth)) (C3 : Cal P w K mg base 1 "is_less" ["one", "other"] (DS K .no RLess)) : Cal P w K mg base 6 "raw_even_lot" ["worths"] (spEvenLot K (Mov.tab T lamQ)) := by
  have sc : FnScope ["worths", "best", "told", "lot", "worth"] ["worths"] (defScope (top 26)) := ⟨rfl, rfl, rfl, by decide +kernel, rfl, by decide +kernel, by decide +kernel⟩
  refine cal_of F sc (fun vs H Q E ⟨_, m, b, ws, e, _⟩ => e.length) (fun _ _ _ _ _ _ us hl => match us, hl with | [_], _ => rfl) (fun f cdv A outer s H vs Q E cx h => ?_)
  obtain ⟨ok, m, b, ws, hd, hw, hm, hb, q⟩ := h
  obtain ⟨v, rfl, hv⟩ := dts1 hd
  have sub : Sub .no (Mov.tab T lamQ) := Sub.no _
  refine rs_asg ok (ed_tup (K := K) (ad_cons ed_non (ad_cons ed_non ad_nil))) (pg_tup rfl (pgs_cons (pg_name (i := 1) sc.nd rfl (Or.inl rfl)) (pgs_cons (pg_name (i := 2) sc.nd rfl (Or.inl rfl)) pgs_nil))) (fun z H1 g1 hz => ?_)
  refine g_pair hz fun x y hx hy => ?_
  obtain rfl := dt_non hx
  obtain rfl := dt_non hy
  have hl4 : ws.length ≤ 4 := hw.n4
  refine rs_forN (K := K) (R := fun v H2 => ∃ ls : List (List Nat), ls.Perm (lotsL ws.length) ∧ NwD K (Mov.tab T lamQ) H1 (ls.map lotD) v H2) PassesOwn.never rfl rfl g1.r
    (eo_call C cx (by decide) (ao_one (ed_len (K := K) (ds := ws.map fr) (fun _ => rfl) (fun _ => B.len) (ed_var 0 rfl (g1.dt hv)))) fun vs H2 g2 ⟨u, e, hu⟩ Q' k => ?_) (pg_name (i := 3) sc.nd rfl (Or.inl rfl)) fun v2 H2 g2 hv2 => ?_
  · obtain rfl := e
    obtain rfl := dt_int hu
    refine ⟨g2.r, ws.length, by rw [List.length_map], hw.pos, hl4, fun v' H' ls g' hp ⟨a, xs, e, hn, ha, hd'⟩ => k v' H' g' ⟨ls, hp, a, xs, e, (g2.fresh hn).1, ha, hd'⟩⟩
  · obtain ⟨ls, hp, a, xs, rfl, hn, ha, hxs⟩ := hv2
    have g12 := g1.trans g2
    have na : ¬ (Mov.tab T lamQ).at_ a := not_at g2.l hn
    have mem : ∀ k, k ∈ ls ↔ k ∈ lotsL ws.length := fun k => hp.mem_iff
    refine ⟨a, xs, rfl, .of ha, fun i σ' H' => Gr (Mov.tab T lamQ) H H' ∧ Gr (Mov.tab T lamQ) H2 H' ∧ ∃ x y z t, σ' = [some v, some x, some y, z, t] ∧ ((i = 0 ∧ x = .non) ∨ ∃ l, l ∈ lotsL ws.length ∧ (∀ k ∈ ls.take i, ew ws k ≤ ew ws l) ∧ Dt K H' x (lotD l) ∧ Dt K H' y (fr (ew ws l))),
      ⟨g12, .refl g2.r, .non, .non, none, none, rfl, .inl ⟨rfl, rfl⟩⟩, fun i σ' H' _ h => .of (h.2.1.keep a _ ha na), ?_, ?_⟩
    · rintro i u σ' H3 hi ⟨g3, g23, x, y, z, t, rfl, hinv⟩
      obtain ⟨d, hdi, hu⟩ := (g23.dts hxs).get' hi
      rw [List.getElem?_map] at hdi
      cases hli : ls[i]? with
      | none => rw [hli] at hdi; cases hdi
      | some k =>
        rw [hli] at hdi
        cases hdi
        have hk : k ∈ lotsL ws.length := (mem k).mp (List.mem_of_getElem? hli)
        have htk : ls.take (i + 1) = ls.take i ++ [k] := by
          rw [List.take_add_one, hli]
          rfl
        refine rs_set (M := Mov.tab T lamQ) 4 g3.r (R := fun v H' => Dt K H' v (fr (ew ws k))) (ed_call C2 cx (by decide) sub (ad_cons (ed_var 0 rfl (g3.dt hv)) (ad_cons (ed_var 3 rfl hu) ad_nil)) ⟨m, b, ws, k, rfl, hw, hm, hb, hk, rfl⟩) (fun nw H4 g4 hnw => ?_) sc.nd
        replace hu := g4.dt hu
        have pel : ∀ j : Unit, PE (bX P w K mg base ["worths", "best", "told", "lot", "worth"] "raw_even_lot" (defScope (top 26)) f cdv A outer s H E) (.Call (.Name "is_less" ⟨63, 27, 63, 34⟩) [.Name "told" ⟨63, 35, 63, 39⟩, .Name "worth" ⟨63, 41, 63, 46⟩] [] ⟨63, 27, 63, 47⟩) (tCall (DS K .no RLess) [] E0 (tCons (tVar 2) (tCons (tVar 4) tNil))) := fun j => pe_cal C3 cx (by decide) j rfl (pa_cons (pv 2) (pa_cons (pv 4) pa_nil))
        have hif : ∃ c : Bool, (c = false → ∃ l, l ∈ lotsL ws.length ∧ (∀ k' ∈ ls.take (i + 1), ew ws k' ≤ ew ws l) ∧ Dt K H4 x (lotD l) ∧ Dt K H4 y (fr (ew ws l))) ∧ (c = true → ∀ k' ∈ ls.take (i + 1), ew ws k' ≤ ew ws k) ∧
            TO (fun _ : Unit => bX P w K mg base ["worths", "best", "told", "lot", "worth"] "raw_even_lot" (defScope (top 26)) f cdv A outer s H E) (Mov.tab T lamQ) [some v, some x, some y, some u, some nw] H4 (.BoolOp .Or [.Compare (.Name "best" ⟨63, 11, 63, 15⟩) [.Is] [.Constant .none 0 ⟨63, 19, 63, 23⟩] ⟨63, 11, 63, 23⟩, .Call (.Name "is_less" ⟨63, 27, 63, 34⟩) [.Name "told" ⟨63, 35, 63, 39⟩, .Name "worth" ⟨63, 41, 63, 46⟩] [] ⟨63, 27, 63, 47⟩] ⟨63, 11, 63, 47⟩) c := by
          rcases hinv with ⟨rfl, rfl⟩ | ⟨l, hl, hmax, hx, hy⟩
          · refine ⟨true || true, fun e => (by cases e), fun _ k' hk' => ?_, to_w (wo_orS (to_isN (t := true) (eo_var 1 (hs := rfl) (hR := fun _ _ => rfl))) ⟨_, fun j => pw_or1 (pt_val (pel j) (by intro _; rfl)), fun e => by cases e⟩)⟩
            rw [htk] at hk'
            simp at hk'
            rw [hk']
            exact Rat.le_refl
          · refine ⟨false || decide (ew ws l < ew ws k), fun e => ⟨l, hl, fun k' hk' => ?_, g4.dt hx, g4.dt hy⟩, fun e k' hk' => ?_, to_w (wo_orS (to_isN (t := false) (eo_var 1 (hs := rfl) (hR := fun H' g => dt_ref_ne hx))) ⟨_, fun j => pw_or1 (pt_val (pel j) (by intro _; rfl)), fun _ H5 g5 Q' k5 => ?_⟩)⟩
            · rw [htk] at hk'
              have e2 : ¬ ew ws l < ew ws k := of_decide_eq_false e
              rcases List.mem_append.mp hk' with z | z
              · exact hmax k' z
              · rw [List.mem_singleton.mp z]
                exact Rat.not_lt.mp e2
            · have e2 : ew ws l < ew ws k := of_decide_eq_true e
              rw [htk] at hk'
              rcases List.mem_append.mp hk' with z | z
              · exact Rat.le_trans (hmax k' z) (Rat.le_of_lt e2)
              · rw [List.mem_singleton.mp z]
                exact Rat.le_refl
            · refine qd_cal (K := K) sub (qa_cons (qd_var rfl (g4.dt hy)) (qa_cons (qd_var rfl hnw) qa_nil)) ⟨_, _, rfl, hw.ewSm hm hb hl, hw.ewSm hm hb hk, rfl⟩ H5 g5 _ fun r H6 g6 hr => ?_
              exact ⟨_, dt_bl hr, k5 H6 g6⟩
        obtain ⟨c, c0, c1, hto⟩ := hif
        refine rs_if g4.r hto (fun e H5 g5 => ?_) fun e H5 g5 => rs_nil (rs_nil ⟨g3.trans (g4.trans g5), g23.trans (g4.trans g5), x, y, some u, some nw, rfl, ?_⟩)
        · refine rs_par 1 2 rfl g5.r (ad_ao (K := K) (ad_cons (ed_var 3 rfl (g5.dt hu)) (ad_cons (ed_var 4 rfl (g5.dt hnw)) ad_nil))) (fun vs H6 g6 h => ?_) sc.nd
          obtain ⟨x2, y2, rfl, hx2, hy2⟩ := dts2 h
          refine ⟨x2, y2, rfl, rs_nil (rs_nil ⟨g3.trans (g4.trans (g5.trans g6)), g23.trans (g4.trans (g5.trans g6)), x2, y2, some u, some nw, rfl, .inr ⟨k, hk, c1 e, hx2, hy2⟩⟩)⟩
        · obtain ⟨l, a1, a2, a3, a4⟩ := c0 e
          exact .inr ⟨l, a1, a2, g5.dt a3, g5.dt a4⟩
    · rintro σ' H3 ⟨g3, g23, x, y, z, t, rfl, hinv⟩
      have hlen : xs.length = ls.length := by rw [hxs.length, List.length_map]
      rcases hinv with ⟨e, _⟩ | ⟨l, hl, hmax, hx, hy⟩
      · exfalso
        have h0 : lotsL ws.length ≠ [] := lotsL_pos hw.pos
        have := hp.length_eq
        have : (lotsL ws.length).length ≠ 0 := fun z => h0 (List.eq_nil_of_length_eq_zero z)
        omega
      · rw [hlen, List.take_length] at hmax
        exact rs_ret g3.r (ed_var 1 rfl hx) fun z H4 g4 hz => q z H4 l (g3.trans g4) hl (fun k hk => hmax k ((mem k).mpr hk)) hz
end
end Kt
end
section
set_option maxHeartbeats 4000000
/-! Kt: raw_level, raw_filled. -/
namespace Kt
open PySem PySem.Spec PyProof.Rows L2
/-- tuples stay -/
def SK (K : PySem.W.Frag) (H H' : Hp) : Prop := ∀ a xs, SqT K H a xs → SqT K H' a xs
theorem SK.refl {K : PySem.W.Frag} {H : Hp} : SK K H H := fun _ _ h => h
theorem SK.trans {K : PySem.W.Frag} {H H1 H2 : Hp} (a : SK K H H1) (b : SK K H1 H2) : SK K H H2 := fun _ _ h => b _ _ (a _ _ h)
theorem Gr.sk {K : PySem.W.Frag} {M : Mov} {H H' : Hp} (g : Gr M H H') : SK K H H' := fun _ _ h => g.sqT h
theorem SK.updL {K : PySem.W.Frag} {H H1 : Hp} {l : Addr} {xs : List V} {o : HO} (s : SK K H H1) (h : H1 l = some (.lst xs)) : SK K H (upd H1 l o) := s.trans (sqT_updL h)
section
variable {X : Cx} {M : Mov} {K : PySem.W.Frag} {σ : L2.St} {H H0 : Hp} {rest body : List Stmt} {D : Ends} {iter tg : Expr} {g : TG} {pos : Pos} {ds : List PyData}
theorem rs_forS (hp : PassesOwn (model X.prog X.w) X.A X.env X.xe) (hc : X.calm = true) (hK : X.K = K) (ok : M.ok H) (hi : ED (fun _ : Unit => X) M K σ H iter (.tuple ds)) (hg : PG X tg g)
    (h : ∀ H1, Gr M H H1 → ∃ Pv : Nat → L2.St → Hp → Prop, Pv 0 σ H1 ∧ (∀ i σ' H', Pv i σ' H' → SK K H1 H') ∧
      (∀ (i : Nat) (v : V) (d : PyData) σ' H', ds[i]? = some d → Pv i σ' H' → Dt K H' v d → g v σ' H' fun σ2 H2 => RS X body (Ends.turn D (Pv (i + 1)) fun σ3 H3 => RS X rest D σ3 H3) σ2 H2) ∧
      (∀ σ' H', Pv ds.length σ' H' → RS X rest D σ' H')) (hf : ∀ x, foldedSetIterable iter X.env x = pure x := by intro _; rfl) : RS X (.For tg iter body [] pos :: rest) D σ H := by
  obtain ⟨ti, pi, qi⟩ := hi
  have pI : PI X tg iter (iTup K ti) := by
    rw [← hK]
    exact pi_tup (pi ())
  refine rs_for hp hc pI hg ?_ hf
  refine qi H (.refl ok) _ fun v H1 g1 hv => ?_
  obtain ⟨a, xs, rfl, hq, hds⟩ := dt_tup hv
  obtain ⟨Pv, h0, gr, hs, hd⟩ := h H1 g1
  refine ⟨a, rfl, ⟨xs, hq⟩, for_tup (K := K) (a := a) (xs := xs) Pv h0 (fun i σ' H' _ h => gr _ _ _ h _ _ hq) (fun i y σ' H' hy h => ?_) fun σ' H' h => ?_⟩
  · obtain ⟨d, hdi, hyd⟩ := hds.get' hy
    exact hs i y d σ' H' hdi h (hyd.mono (gr _ _ _ h))
  · have e : xs.length = ds.length := hds.length
    rw [e] at h
    exact hd σ' H' h
end
def RLevel (ds : List PyData) (d : PyData) : Prop := ∃ (m B : Nat) (ws : List Rat), ds = [.tuple (ws.map fr)] ∧ Wok m B ws ∧ m ≤ 15 ∧ B ≤ 900 ∧ d = fr (level ws)
def RFilled (ds : List PyData) (d : PyData) : Prop := ∃ (m B : Nat) (ws : List Rat), ds = [.tuple (ws.map fr)] ∧ Wok m B ws ∧ m ≤ 15 ∧ B ≤ 900 ∧ d = .tuple ((filled ws).map fr)
section
variable {P : Program} {w : World} {K : PySem.W.Frag} {mg : Str → Option Value} {base : Heap} {T : Addr}
theorem c_raw_level (F : Has K mg "raw_level" (top 27)) (C : Cal P w K mg base 6 "raw_even_lot" ["worths"] (spEvenLot K (Mov.tab T lamQ))) (C2 : Cal P w K mg base 5 "even_worth" ["worths", "lot"] (DS K .no REvenWorth)) : Cal P w K mg base 7 "raw_level" ["worths"] (DS K (Mov.tab T lamQ) RLevel) := by
  have sc : FnScope ["worths"] ["worths"] (defScope (top 27)) := ⟨rfl, rfl, rfl, by decide +kernel, rfl, by decide +kernel, by decide +kernel⟩
  refine cal_of F sc (ds_len fun ds d ⟨_, _, _, e, _⟩ => by rw [e]; rfl) (fun _ _ _ _ _ _ us hl => match us, hl with | [_], _ => rfl) (fun f cdv A outer s H vs Q E cx h => ?_)
  obtain ⟨ok, ds, d, hd, ⟨m, b, ws, rfl, hw, hm, hb, rfl⟩, q⟩ := h
  obtain ⟨v, rfl, hv⟩ := dts1 hd
  refine rs_ret ok (R := fun v H' => Dt K H' v (fr (level ws))) (eo_call C2 cx (by decide) (ao_cons (R := fun v H' => Dt K H' v (.tuple (ws.map fr))) (ed_var 0 rfl hv) mono_dt (ao_cons (R := fun v H' => ∃ l, l ∈ lotsL ws.length ∧ (∀ k ∈ lotsL ws.length, ew ws k ≤ ew ws l) ∧ Dt K H' v (lotD l))
    (eo_call C cx (by decide) (ad_ao (K := K) (ad_cons (ed_var 0 rfl hv) ad_nil)) (fun vs H1 g hvs Q' k => ?_)) (fun v H1 H2 g ⟨l, a, b, c⟩ => ⟨l, a, b, g.dt c⟩) ao_nil)) (fun vs H1 g hvs Q' k => ?_)) fun z H1 g hz => q z H1 g hz
  · exact ⟨g.r, m, b, ws, hvs, hw, hm, hb, fun v H' l g' hl hmax hv' => k v H' g' ⟨l, hl, hmax, hv'⟩⟩
  · obtain ⟨x, _, rfl, hx, y, _, rfl, ⟨l, hl, hmax, hy⟩, rfl⟩ := hvs
    refine ⟨trivial, _, _, .cons hx (.cons hy .nil), ⟨m, b, ws, l, rfl, hw, hm, hb, hl, rfl⟩, fun v H' g' hv' => k v H' ((Sub.no _).gr _ _ g.r g') ?_⟩
    rw [level_of hl hmax] at hv'
    exact hv'
theorem c_raw_filled (F : Has K mg "raw_filled" (top 28)) (B : Blt mg) (N0 : FrC K mg "NOUGHT" 0) (N1 : FrC K mg "ONE" 1) (C : Cal P w K mg base 7 "raw_level" ["worths"] (DS K (Mov.tab T lamQ) RLevel)) (C2 : Cal P w K mg base 2 "plus" ["one", "other"] (DS K .no RPlus)) (C3 : Cal P w K mg base 2 "minus" ["one", "other"] (DS K .no RMinus)) (C4 : Cal P w K mg base 1 "is_less" ["one", "other"] (DS K .no RLess)) : Cal P w K mg base 8 "raw_filled" ["worths"] (DS K (Mov.tab T lamQ) RFilled) := by
  have sc : FnScope ["worths", "told", "found", "worth", "chance"] ["worths"] (defScope (top 28)) := ⟨rfl, rfl, rfl, by decide +kernel, rfl, by decide +kernel, by decide +kernel⟩
  refine cal_of F sc (ds_len fun ds d ⟨_, _, _, e, _⟩ => by rw [e]; rfl) (fun _ _ _ _ _ _ us hl => match us, hl with | [_], _ => rfl) (fun f cdv A outer s H vs Q E cx h => ?_)
  obtain ⟨ok, ds, d, hd, ⟨m, b, ws, rfl, hw, hm, hb, rfl⟩, q⟩ := h
  obtain ⟨v, rfl, hv⟩ := dts1 hd
  have sub : Sub .no (Mov.tab T lamQ) := Sub.no _
  have hlv := hw.level
  have bd1 : Bd 1 (1 : Rat) := Bd.int (i := 1) (by decide)
  have sm1 : Sm (1 : Rat) := (Dy.int 0 1).sm bd1 (by decide) (by decide)
  have dyW : ∀ x ∈ ws, Dy (m + 1) (x + 1) ∧ Bd (b + 1) (x + 1) := fun x hx => ⟨((hw.dy x hx).le (by omega)).add (Dy.int (m + 1) 1), (hw.bd x hx).add bd1⟩
  have dyC : ∀ x ∈ ws, Dy (m + 1) (x + 1 - level ws) ∧ Bd (b + 1 + (b + 1)) (x + 1 - level ws) := fun x hx => ⟨(dyW x hx).1.sub hlv.1, (dyW x hx).2.sub hlv.2⟩
  refine rs_set 1 ok (ed_call C cx (by decide) (.refl _) (ad_cons (ed_var 0 rfl hv) ad_nil) ⟨m, b, ws, rfl, hw, hm, hb, rfl⟩) (fun t H1 g1 ht => ?_) sc.nd
  refine rs_set 2 g1.r (eo_lst (K := K) ad_nil) (fun u H2 g2 hu => ?_) sc.nd
  obtain ⟨l, xs0, rfl, hl1, hl2, hd0⟩ := hu
  cases hd0
  have na : ¬ (Mov.tab T lamQ).at_ l := not_at g1.r hl1
  have hl0 : H l = none := (g1.fresh hl1).1
  have g12 := g1.trans g2
  refine rs_forS (K := K) PassesOwn.never rfl rfl g2.r (ed_var 0 rfl (g12.dt hv)) (pg_name (i := 3) sc.nd rfl (Or.inl rfl)) fun H3 g3 => ?_
  have g13 := g12.trans g3
  refine ⟨fun i σ' H' => SK K H3 H' ∧ Gr (Mov.tab T lamQ) H1 H' ∧ ∃ x y xs, σ' = [some v, some t, some (.ref l), x, y] ∧ H' l = some (.lst xs) ∧ DtAll K H' xs (((filled ws).take i).map fr), ⟨.refl, g2.trans g3, none, none, [], rfl, g3.keep l _ hl2 na, .nil⟩, fun i σ' H' h => h.1, ?_, ?_⟩
  · rintro i u d σ' H4 hdi ⟨sk, g14, x, y, xs, rfl, hl4, hxs⟩ hu
    rw [List.getElem?_map] at hdi
    cases hi : ws[i]? with
    | none => rw [hi] at hdi; cases hdi
    | some p =>
      rw [hi] at hdi
      cases hdi
      have hp := List.mem_of_getElem? hi
      have hil : i < ws.length := (List.getElem?_eq_some_iff.mp hi).1
      have hov : over ws (level ws) i = p + 1 - level ws := by
        unfold over
        rw [List.getD_eq_getElem?_getD, hi]
        rfl
      have hfi : (filled ws)[i]? = some (if p + 1 - level ws < 0 then 0 else p + 1 - level ws) := by
        unfold filled
        rw [List.getElem?_map, List.getElem?_range hil]
        show some (chance ws (level ws) i) = _
        unfold chance
        rw [hov]
      have smp : Sm p := (hw.dy p hp).sm (hw.bd p hp) (by omega) (by omega)
      have smp1 : Sm (p + 1) := (dyW p hp).1.sm (dyW p hp).2 (by omega) (by omega)
      have sml : Sm (level ws) := hlv.1.sm hlv.2 (by omega) (by omega)
      have smc : Sm (p + 1 - level ws) := (dyC p hp).1.sm (dyC p hp).2 (by omega) (by omega)
      refine rs_set 4 g14.r (R := fun v H' => Dt K H' v (fr (p + 1 - level ws))) (ed_call C3 cx (by decide) sub (ad_cons (d := fr (p + 1)) (ed_call C2 cx (by decide) sub (ad_cons (ed_var 3 rfl hu) (ad_cons (ed_frc N1 cx.mg) ad_nil)) ⟨_, _, rfl, smp, sm1, rfl⟩) (ad_cons (ed_var 1 rfl (g14.dt ht)) ad_nil)) ⟨_, _, rfl, smp1, sml, rfl⟩) (fun z H5 g5 hz => ?_) sc.nd
      have hl5 := g5.keep l _ hl4 na
      refine rs_append (R := fun v H' => Dt K H' v (if decide (p + 1 - level ws < 0) = true then fr 0 else fr (p + 1 - level ws))) g5.r (eo_var 2 (hs := rfl) (hR := fun _ _ => rfl)) hl5 na (by rw [hxs.length, List.length_map, List.length_take]; have := hw.n4; omega)
        (ed_if (to_val (ed_call C4 cx (by decide) sub (ad_cons (ed_var 4 rfl hz) (ad_cons (ed_frc N0 cx.mg) ad_nil)) ⟨_, _, rfl, smc, sm_zero, rfl⟩)) (ed_frc N0 cx.mg) (ed_var 4 rfl hz)) fun y2 H6 g6 hl6 hy2 => ?_
      refine rs_nil ⟨((sk.trans g5.sk).trans g6.sk).updL hl6, (g14.trans (g5.trans g6)).upd hl1 hl6 loc_lst, some u, some z, xs ++ [y2], rfl, upd_same, ?_⟩
      have e2 : ((filled ws).take (i + 1)).map fr = ((filled ws).take i).map fr ++ [if decide (p + 1 - level ws < 0) = true then fr 0 else fr (p + 1 - level ws)] := by
        rw [List.take_add_one, hfi, List.map_append]
        congr 1
        show [fr (if p + 1 - level ws < 0 then 0 else p + 1 - level ws)] = _
        by_cases hc : p + 1 - level ws < 0
        · rw [if_pos hc, decide_eq_true hc, if_pos rfl]
        · rw [if_neg hc, decide_eq_false hc, if_neg Bool.false_ne_true]
      rw [e2]
      exact (((g5.trans g6).dts hxs).mono (sqT_updL hl6)).app (.one (hy2.mono (sqT_updL hl6)))
  · rintro σ' H4 ⟨sk, g14, x, y, xs, rfl, hl4, hxs⟩
    rw [List.length_map, ← filled_length, List.take_length] at hxs
    exact rs_ret g14.r (ed_tupleL (K := K) (fun _ => rfl) (fun _ => B.tuple) (eo_var 2 (hs := rfl) (hR := fun H' g => ⟨l, xs, rfl, .of (g.keep l _ hl4 na), g.dts hxs⟩))) fun z H5 g5 hz => q z H5 (g1.trans (g14.trans g5)) hz
end
end Kt
end
section
set_option maxHeartbeats 4000000
set_option exponentiation.threshold 5000
/-! Kt: checks of machines and advisers, misses. -/
namespace Kt
open PySem PySem.Spec PyProof.Rows L2
local macro_rules | `(tactic| walk_at "ed") => `(tactic| first
  | exact ed_int
  | exact ed_bl
  | exact ed_non
  | exact ed_var 0 rfl (by assumption)
  | exact ed_var 1 rfl (by assumption)
  | exact ed_var 2 rfl (by assumption)
  | exact ed_var 3 rfl (by assumption)
  | exact ed_var 4 rfl (by assumption)
  | exact ed_var 5 rfl (by assumption)
  | exact ed_var 6 rfl (by assumption)
  | exact ed_var 7 rfl (by assumption)
  | exact ed_glob (v := .int _) (fun _ => rfl) (fun _ => by assumption) ⟨_, rfl⟩ (fun _ => .int _)
  | (refine' ed_add ?ha ?hb; (case ha => walk_at "ed"); (case hb => walk_at "ed"))
  | (refine' ed_sub ?ha ?hb; (case ha => walk_at "ed"); (case hb => walk_at "ed"))
  | (refine' ed_ix (fun _ => rfl) ?ha ?hb ?hi; (case ha => walk_at "ed"); (case hb => walk_at "ed"); (case hi => rfl))
  | (refine' ed_len (fun _ => rfl) (fun _ => Blt.len (by assumption)) ?ha; (case ha => walk_at "ed")))
/-- a constant of the module -/
def IsK (mg : Str → Option Value) (x : Str) (i : Int) : Prop := ∃ t, mg x = some (.int i t)
structure Cst (mg : Str → Option Value) : Prop where
  size : IsK mg "SIZE" 0
  rules : IsK mg "RULES" 1
  mostSize : IsK mg "MOST_SIZE" 4
  mostLettersM : IsK mg "MOST_LETTERS_machines" 400
  mostAdv : IsK mg "MOST_ADVISERS" 4
  mostSt : IsK mg "MOST_ADVISER_STATES" 6
  mostLettersA : IsK mg "MOST_LETTERS_advisers" 10
  mostKeys : IsK mg "MOST_KEYS" 3000
section
variable {ι : Type} {X : ι → Cx} {M : Mov} {P : Program} {w : World} {K : PySem.W.Frag} {mg : Str → Option Value} {base : Heap} {σ : L2.St} {H : Hp} {pos : Pos} {x : Str} {i : Int} {n : Nat} {ta tb : TE}
theorem ed_k (h : IsK mg x i) (hm : ∀ j, (X j).mg = mg) (hg : ∀ j, Gl (X j) x := by intro _; rfl) (hd : (x == ("__debug__" : Str)) = false := by decide) : ED X M K σ H (.Name x pos) (.int i) :=
  let ⟨t, e⟩ := h
  ed_glob (v := .int i) hg (fun j => by rw [hm]; exact e) ⟨t, rfl⟩ (fun _ => .int i) hd
theorem pe_k {X : Cx} (h : IsK mg x i) (hm : X.mg = mg) (hg : Gl X x := by rfl) (hd : (x == ("__debug__" : Str)) = false := by decide) : PE X (.Name x pos) (tC (.int i)) :=
  let ⟨t, e⟩ := h
  pe_glob hg (by rw [hm]; exact e) ⟨t, rfl⟩ hd
theorem TO.cast {e : Expr} {t u : Bool} (h : TO X M σ H e t) (q : t = u) : TO X M σ H e u := q ▸ h
theorem CxIs.blk (cx : CxIs X P w K mg base n) (j : ι) (s : Shared) (H : Hp) (sc : Scope) (env : Env) (fp : List Addr) : CxIs (fun _ : Unit => (X j).blk s H sc env fp) P w K mg base n := ⟨fun _ => cx.P j, fun _ => cx.w j, fun _ => cx.K j, fun _ => cx.mg j, fun _ => cx.base j, fun _ => cx.room j, fun _ => cx.calm j⟩
theorem nwL {ds : List PyData} {v : V} {H0 H : Hp} (h : NwD K M H0 ds v H) : ∃ a xs, v = .ref a ∧ SqL K H a xs ∧ DtAll K H xs ds := let ⟨a, xs, e, _, h1, h2⟩ := h; ⟨a, xs, e, .of h1, h2⟩
theorem qd_eqI {i j : Int} (ha : QD K M ta σ H (.int i)) (hb : QD K M tb σ H (.int j)) : QD K M (tOp rEq ta tb) σ H (.bool (decide (i = j))) := fun H1 g Q k => by
  refine ha H1 g _ fun x H2 g2 r1 => ?_
  refine hb H2 (g.trans g2) _ fun y H3 g3 r2 => ?_
  rw [dt_int r1, dt_int r2]
  refine ⟨rfl, ?_⟩
  rw [dec_int, Bool.beq_eq_decide_eq]
  exact k _ H3 (g2.trans g3) (.bl _)
theorem rep_all (n : Nat) : (List.replicate n true).all id = true := by
  induction n with
  | zero => rfl
  | succ n ih => rw [List.replicate_succ, List.all_cons, ih]; rfl
theorem rep_get {n i : Nat} {f : PyData} (h : ((List.replicate n true).map PyData.bool)[i]? = some f) : f = .bool true := by
  rw [List.map_replicate, List.getElem?_replicate] at h
  split at h
  · exact (Option.some.inj h).symm
  · cases h
/-- all([.. for x in a tuple]), each true -/
theorem ed_allT {p : Pos} {elt iter : Expr} {scope : Scope} {ds : List PyData} {te : TE} {y : Str} {ix : Nat} {px p2 : Pos} (cx : CxIs X P w K mg base n) (B : Blt mg) (hN : ∀ j, (X j).N.Nodup) (hi : ED X M K σ H iter (.tuple ds)) (ok : ∀ j, BlkOk (X j).N (X j).env.scope scope [(y, ix)])
    (hg : ∀ j (s : Shared) (H : Hp) (C : Addr) (cl : List (Str × Addr)) (fp : List Addr), PG ((X j).blk s H scope (compEnvC scope cl C (X j).env) fp) (.Name y px) (gName ix))
    (he : ∀ j (s : Shared) (H : Hp) (C : Addr) (cl : List (Str × Addr)) (fp : List Addr), PE ((X j).blk s H scope (compEnvC scope cl C (X j).env) fp) elt te) (hz : ds.length ≤ 100000)
    (q : ∀ (i : Nat) (v : V) (d : PyData) (H1 : Hp), ds[i]? = some d → Gr M H H1 → Dt K H1 v d → QD K M te ((wipe σ [ix]).set ix (some v)) H1 (.bool true))
    (hgl : ∀ j, Gl (X j) "all" := by intro _; rfl) (hs : ∀ j x, foldedSetIterable iter (X j).env x = pure x := by intro _ _; rfl)
    (hst : ∀ j, starEach (Expr.ListComp elt [⟨.Name y px, iter, [], 0⟩] scope p2 :: []) (X j).env = (false, eval (Expr.ListComp elt [⟨.Name y px, iter, [], 0⟩] scope p2) (X j).env) :: starEach [] (X j).env := by intro _; rfl) (hpl : ∀ j, (backTo pos (starEach [] (X j).env)).any (·.1) = false := by intro _; rfl) :
    ED X M K σ H (.Call (.Name "all" p) [.ListComp elt [⟨.Name y px, iter, [], 0⟩] scope p2] [] pos) (.bool true) := by
  have h : ED X M K σ H (.Call (.Name "all" p) [.ListComp elt [⟨.Name y px, iter, [], 0⟩] scope p2] [] pos) (.bool ((List.replicate ds.length true).all id)) :=
    ed_all cx.calm cx.K (fun j => by rw [cx.mg]; exact B.all) (EO.imp (eo_lcT (fs := (List.replicate ds.length true).map PyData.bool) cx hN hi ok hg he (by rw [List.length_map, List.length_replicate]) hz (fun i v d f H1 hd hf g hv => by rw [rep_get hf]; exact q i v d H1 hd g hv) hs) fun v H1 _ h => nwL h) hgl hst hpl
  rw [rep_all] at h
  exact h
/-- all([.. for x in a tuple]), the bools told -/
theorem ed_allB {p : Pos} {elt iter : Expr} {scope : Scope} {ds : List PyData} {te : TE} {y : Str} {ix : Nat} {px p2 : Pos} {bs : List Bool} (cx : CxIs X P w K mg base n) (B : Blt mg) (hN : ∀ j, (X j).N.Nodup) (hi : ED X M K σ H iter (.tuple ds)) (ok : ∀ j, BlkOk (X j).N (X j).env.scope scope [(y, ix)])
    (hg : ∀ j (s : Shared) (H : Hp) (C : Addr) (cl : List (Str × Addr)) (fp : List Addr), PG ((X j).blk s H scope (compEnvC scope cl C (X j).env) fp) (.Name y px) (gName ix))
    (he : ∀ j (s : Shared) (H : Hp) (C : Addr) (cl : List (Str × Addr)) (fp : List Addr), PE ((X j).blk s H scope (compEnvC scope cl C (X j).env) fp) elt te) (hl : bs.length = ds.length) (hz : ds.length ≤ 100000)
    (q : ∀ (i : Nat) (v : V) (d : PyData) (b : Bool) (H1 : Hp), ds[i]? = some d → bs[i]? = some b → Gr M H H1 → Dt K H1 v d → QD K M te ((wipe σ [ix]).set ix (some v)) H1 (.bool b))
    (hgl : ∀ j, Gl (X j) "all" := by intro _; rfl) (hs : ∀ j x, foldedSetIterable iter (X j).env x = pure x := by intro _ _; rfl)
    (hst : ∀ j, starEach (Expr.ListComp elt [⟨.Name y px, iter, [], 0⟩] scope p2 :: []) (X j).env = (false, eval (Expr.ListComp elt [⟨.Name y px, iter, [], 0⟩] scope p2) (X j).env) :: starEach [] (X j).env := by intro _; rfl) (hpl : ∀ j, (backTo pos (starEach [] (X j).env)).any (·.1) = false := by intro _; rfl) :
    ED X M K σ H (.Call (.Name "all" p) [.ListComp elt [⟨.Name y px, iter, [], 0⟩] scope p2] [] pos) (.bool (bs.all id)) :=
  ed_all cx.calm cx.K (fun j => by rw [cx.mg]; exact B.all) (EO.imp (eo_lcT (fs := bs.map PyData.bool) cx hN hi ok hg he (by rw [List.length_map, hl]) hz (fun i v d f H1 hd hf g hv => by
    rw [List.getElem?_map] at hf
    cases hb : bs[i]? with
    | none => rw [hb] at hf; cases hf
    | some b =>
      rw [hb] at hf
      cases hf
      exact q i v d b H1 hd hb g hv) hs) fun v H1 _ h => nwL h) hgl hst hpl
end
section
variable {X : Cx} {M : Mov} {σ : L2.St} {H : Hp} {D : Ends} {c : Expr} {a rest : List Stmt} {pos : Pos}
/-- an if that is not taken -/
theorem rs_ifF (ok : M.ok H) (hc : TO (fun _ : Unit => X) M σ H c false) (k : ∀ H1, Gr M H H1 → RS X rest D σ H1) : RS X (.If c a [] pos :: rest) D σ H :=
  rs_if ok hc (fun e => by cases e) fun _ H1 g => rs_nil (k H1 g)
end
/-! ### data of advisers -/
def ruleD (r : Int × List Int) : PyData := .tuple [.int r.1, .tuple (r.2.map PyData.int)]
def advD (size : Nat) (a : Adv) : PyData := .tuple [.int (size : Int), .tuple (a.map ruleD)]
def circD (size : Nat) (cs : List Adv) : PyData := .tuple (cs.map (advD size))
def sgD (sg : Int × Int) : PyData := .tuple [.int sg.1, .int sg.2]
def keyD (k : Key) : PyData := .tuple (k.map sgD)
structure CircOk (size : Nat) (cs : List Adv) : Prop where
  s2 : 2 ≤ size
  s4 : size ≤ 4
  ne : cs ≠ []
  few : cs.length ≤ 4
  adv : ∀ a ∈ cs, AdvOk size 6 a
section
variable {P : Program} {w : World} {K : PySem.W.Frag} {mg : Str → Option Value} {base : Heap}
def RIsSize (ds : List PyData) (d : PyData) : Prop := ∃ n : Nat, ds = [.int (n : Int)] ∧ 2 ≤ n ∧ n ≤ 4 ∧ d = .bool true
theorem c_is_size (F : Has K mg "is_size" (top 34)) (U : Cst mg) (C : Cal P w K mg base 2 "is_between" ["thing", "least", "most"] (DS K .no RIsBetween)) : Cal P w K mg base 3 "is_size" ["thing"] (DS K .no RIsSize) := by
  have sc : FnScope ["thing"] ["thing"] (defScope (top 34)) := ⟨rfl, rfl, rfl, by decide +kernel, rfl, by decide +kernel, by decide +kernel⟩
  refine cal_of F sc (ds_len fun ds d ⟨_, e, _⟩ => by rw [e]; rfl) (fun _ _ _ _ _ _ us hl => match us, hl with | [_], _ => rfl) (fun f cdv A outer s H vs Q E cx h => ?_)
  obtain ⟨ok, ds, d, hd, ⟨n, rfl, h2, h4, rfl⟩, q⟩ := h
  obtain ⟨v, rfl, hv⟩ := dts1 hd
  exact rs_ret (M := .no) trivial (R := fun v H' => Dt K H' v (.bool true)) (ed_call C cx (by decide) (.refl _) (ad_cons (by walk_at "ed") (ad_cons ed_int (ad_cons (ed_k U.mostSize cx.mg) ad_nil))) ⟨_, _, _, rfl, by rw [decide_eq_true (show (2 : Int) ≤ n by omega), decide_eq_true (show (n : Int) ≤ 4 by omega)]; rfl⟩) fun x H1 g hx => q x H1 g hx
def RRawIsRow (ds : List PyData) (d : PyData) : Prop := ∃ (size : Nat) (r : List Nat), ds = [.int (size : Int), lotD r] ∧ r.length ≤ 400 ∧ (∀ x ∈ r, x < size) ∧ d = .bool true
theorem c_raw_is_row (F : Has K mg "raw_is_row" (top 35)) (B : Blt mg) (U : Cst mg) (C : Cal P w K mg base 3 "is_index" ["thing", "many"] (DS K .no RIsIndex)) : Cal P w K mg base 4 "raw_is_row" ["size", "thing"] (DS K .no RRawIsRow) := by
  have sc : FnScope ["size", "thing", "letter"] ["size", "thing"] (defScope (top 35)) := ⟨rfl, rfl, rfl, by decide +kernel, rfl, by decide +kernel, by decide +kernel⟩
  refine cal_of F sc (ds_len fun ds d ⟨_, _, e, _⟩ => by rw [e]; rfl) (fun _ _ _ _ _ _ us hl => match us, hl with | [_, _], _ => rfl) (fun f cdv A outer s H vs Q E cx h => ?_)
  obtain ⟨ok, ds, d, hd, ⟨size, r, rfl, hr, hx, rfl⟩, q⟩ := h
  obtain ⟨v, u, rfl, hv, hu⟩ := dts2 hd
  refine rs_ifF (M := .no) trivial (to_w (wo_or (t := false) (u := false) (to_not (t := true) (to_val (ed_isi (d := lotD r) (tn := "tuple") cx.K (fun _ => B.isi) (fun _ => B.tuple) (by decide +kernel) (ed_var 1 rfl hu) kb_tuple_tuple))) (wo_or1 (TO.cast (to_gt (ed_len (K := K) (ds := r.map fun (x : Nat) => PyData.int (x : Int)) (fun _ => rfl) (fun _ => B.len) (ed_var 1 rfl hu)) (ed_k U.mostLettersM cx.mg)) (by rw [lotD_len, decide_eq_false (by omega)]))))) fun H1 g => ?_
  refine rs_ret (M := .no) trivial (R := fun v H' => Dt K H' v (.bool true)) (ed_allT (te := tCall (DS K .no RIsIndex) [] E0 (tCons (tVar 2) (tCons (tVar 0) tNil))) (ix := 2) cx B (fun _ => sc.nd) (ed_var 1 rfl (g.dt hu)) (fun _ => blkOk_by (own := [("letter", 2)]) (N := ["size", "thing", "letter"]) (sc := defScope (top 35)) (by decide +kernel)) (fun _ _ _ _ _ _ => pg_name (i := 2) sc.nd rfl (Or.inl rfl)) (fun j s H C' cl fp => pe_cal C (cx.blk j s H _ _ fp) (by decide) () rfl (pa_cons (pv 2) (pa_cons (pv 0) pa_nil))) (by rw [lotD_len]; omega) fun i x d H2 hdi g2 hv2 => ?_) fun x H2 g2 hx => q x H2 (g.trans g2) hx
  rw [List.getElem?_map] at hdi
  cases hi : r[i]? with
  | none => rw [hi] at hdi; cases hdi
  | some k =>
    rw [hi] at hdi
    cases hdi
    have hk := hx k (List.mem_of_getElem? hi)
    exact qd_cal (.refl _) (qa_cons (qd_var rfl hv2) (qa_cons (qd_var rfl ((g.trans g2).dt hv)) qa_nil)) ⟨_, _, rfl, by rw [decide_eq_true (show (0 : Int) ≤ k by omega), decide_eq_true (show (k : Int) ≤ (size : Int) - 1 by omega)]; rfl⟩
def RCheckRow (ds : List PyData) (d : PyData) : Prop := ∃ (size : Nat) (r : List Nat), ds = [.int (size : Int), lotD r] ∧ r.length ≤ 400 ∧ (∀ x ∈ r, x < size) ∧ d = .none
theorem c_check_row (F : Has K mg "check_row" (top 36)) (C : Cal P w K mg base 4 "raw_is_row" ["size", "thing"] (DS K .no RRawIsRow)) : Cal P w K mg base 5 "check_row" ["size", "thing"] (DS K .no RCheckRow) := by
  have sc : FnScope ["size", "thing"] ["size", "thing"] (defScope (top 36)) := ⟨rfl, rfl, rfl, by decide +kernel, rfl, by decide +kernel, by decide +kernel⟩
  refine cal_of F sc (ds_len fun ds d ⟨_, _, e, _⟩ => by rw [e]; rfl) (fun _ _ _ _ _ _ us hl => match us, hl with | [_, _], _ => rfl) (fun f cdv A outer s H vs Q E cx h => ?_)
  obtain ⟨ok, ds, d, hd, ⟨size, r, rfl, hr, hx, rfl⟩, q⟩ := h
  obtain ⟨v, u, rfl, hv, hu⟩ := dts2 hd
  refine rs_ifF (M := .no) trivial (to_not (t := true) (to_val (ed_call C cx (by decide) (.refl _) (ad_cons (by walk_at "ed") (ad_cons (by walk_at "ed") ad_nil)) ⟨size, r, rfl, hr, hx, rfl⟩))) fun H1 g => rs_nil (q _ _ g .non)
end
end Kt
end
section
set_option maxHeartbeats 4000000
set_option exponentiation.threshold 5000
/-! Kt: rules, advisers, circles; misses. -/
namespace Kt
open PySem PySem.Spec PyProof.Rows L2
local macro_rules | `(tactic| walk_at "ed") => `(tactic| first
  | exact ed_int
  | exact ed_bl
  | exact ed_non
  | exact ed_var 0 rfl (by assumption)
  | exact ed_var 1 rfl (by assumption)
  | exact ed_var 2 rfl (by assumption)
  | exact ed_var 3 rfl (by assumption)
  | exact ed_var 4 rfl (by assumption)
  | exact ed_var 5 rfl (by assumption)
  | exact ed_var 6 rfl (by assumption)
  | exact ed_var 7 rfl (by assumption)
  | exact ed_glob (v := .int _) (fun _ => rfl) (fun _ => by assumption) ⟨_, rfl⟩ (fun _ => .int _)
  | (refine' ed_add ?ha ?hb; (case ha => walk_at "ed"); (case hb => walk_at "ed"))
  | (refine' ed_sub ?ha ?hb; (case ha => walk_at "ed"); (case hb => walk_at "ed"))
  | (refine' ed_ix (fun _ => rfl) ?ha ?hb ?hi; (case ha => walk_at "ed"); (case hb => walk_at "ed"); (case hi => rfl))
  | (refine' ed_len (fun _ => rfl) (fun _ => Blt.len (by assumption)) ?ha; (case ha => walk_at "ed")))
theorem to_chain {ι : Type} {X : ι → Cx} {M : Mov} {K : PySem.W.Frag} {σ : L2.St} {H : Hp} {a b c : Expr} {pos : Pos} {i j k : Int} (ha : ED X M K σ H a (.int i)) (hb : ED X M K σ H b (.int j)) (hc : ED X M K σ H c (.int k)) (hm : lastMarks [.LtE, .LtE] [b, c] = false := by with_unfolding_all rfl) : TO X M σ H (.Compare a [.LtE, .LtE] [b, c] pos) (decide (i ≤ j) && decide (j ≤ k)) := by
  obtain ⟨ta, pa, qa⟩ := ha
  obtain ⟨tb, pb, qb⟩ := hb
  obtain ⟨tc, pc, qc⟩ := hc
  refine ⟨_, fun m => pt_chain op_le op_le (pa m) (pb m) (pc m) hm, fun H1 g Q q => ?_⟩
  refine qa H1 g _ fun x H2 g2 r1 => ?_
  refine qb H2 (g.trans g2) _ fun y H3 g3 r2 => ?_
  refine ⟨i, j, dt_int r1, dt_int r2, decide (i ≤ j), rfl, ?_⟩
  by_cases h : i ≤ j
  · rw [decide_eq_true h, Bool.true_and] at *
    rw [if_pos rfl]
    refine qc H3 ((g.trans g2).trans g3) _ fun z H4 g4 r3 => ?_
    exact ⟨j, k, dt_int r2, dt_int r3, _, rfl, q H4 ((g2.trans g3).trans g4)⟩
  · rw [decide_eq_false h, Bool.false_and] at *
    rw [if_neg Bool.false_ne_true]
    exact ⟨_, rfl, q H3 (g2.trans g3)⟩
theorem atI_int {α : Type} {l : List α} {i : Int} {x : α} (h0 : 0 ≤ i) (h : l[i.toNat]? = some x) : atI l i = some x := by
  have := atI_nat h
  rw [Int.toNat_of_nonneg h0] at this
  exact this
section
variable {X : Cx} {M : Mov} {K : PySem.W.Frag} {σ : L2.St} {H : Hp} {D : Ends} {e : Expr} {rest : List Stmt} {pos : Pos}
theorem rs_augI (i : Nat) {x : Str} {pos' : Pos} {a b : Int} (ok : M.ok H) (hs : σ[i]? = some (some (.int a))) (he : ED (fun _ : Unit => X) M K σ H e (.int b)) (k : ∀ H1, Gr M H H1 → RS X rest D (σ.set i (some (.int (a + b)))) H1) (hN : X.N.Nodup) (hi : X.N[i]? = some x := by rfl) (hx : Loc X.env.scope x := by first | exact Or.inl rfl | exact Or.inr rfl)
    (hf : X.fn x = true ∨ X.env.scope.names.lookup x = some .local := by first | exact .inl rfl | exact .inr rfl) : RS X (.AugAssign (.Name x pos') .Add e pos :: rest) D σ H := by
  obtain ⟨te, pe, q⟩ := he
  refine rs_cons (ps_aug (i := i) hN hi hx (pe ()) ip_add hf) ⟨_, hs, q H (.refl ok) _ fun v H1 g hv => ⟨a, b, rfl, dt_int hv, k H1 g⟩⟩
end
section
variable {P : Program} {w : World} {K : PySem.W.Frag} {mg : Str → Option Value} {base : Heap}
def RIsRule (ds : List PyData) (d : PyData) : Prop := ∃ (size states : Nat) (r : Int × List Int), ds = [ruleD r, .int (size : Int), .int (states : Int)] ∧ 0 ≤ r.1 ∧ r.1 < (size : Int) ∧ r.2.length = size ∧ size ≤ 4 ∧ (∀ s ∈ r.2, 0 ≤ s ∧ s < (states : Int)) ∧ d = .bool true
theorem idx_true {i : Int} {m : Int} (h0 : 0 ≤ i) (h1 : i < m) : (decide (0 ≤ i) && decide (i ≤ m - 1)) = true := by
  rw [decide_eq_true h0, decide_eq_true (by omega)]
  rfl
theorem c_is_rule (F : Has K mg "is_rule" (top 42)) (B : Blt mg) (C : Cal P w K mg base 3 "is_index" ["thing", "many"] (DS K .no RIsIndex)) (C2 : Cal P w K mg base 1 "is_tuple_of" ["thing", "many"] (DS K .no RIsTupleOf)) : Cal P w K mg base 4 "is_rule" ["thing", "size", "states"] (DS K .no RIsRule) := by
  have sc : FnScope ["thing", "size", "states", "later"] ["thing", "size", "states"] (defScope (top 42)) := ⟨rfl, rfl, rfl, by decide +kernel, rfl, by decide +kernel, by decide +kernel⟩
  refine cal_of F sc (ds_len fun ds d ⟨_, _, _, e, _⟩ => by rw [e]; rfl) (fun _ _ _ _ _ _ us hl => match us, hl with | [_, _, _], _ => rfl) (fun f cdv A outer s H vs Q E cx h => ?_)
  obtain ⟨ok, ds, d, hd, ⟨size, states, r, rfl, h0, h1, hl, h4, hs, rfl⟩, q⟩ := h
  obtain ⟨v, u, z, rfl, hv, hu, hz⟩ := dts3 hd
  have hv' := hv
  unfold ruleD at hv
  refine rs_ifF (M := .no) trivial (to_w (wo_or (t := false) (u := false) (to_not (t := true) (to_val (ed_call C2 cx (by decide) (.refl _) (ad_cons (by walk_at "ed") (ad_cons ed_int ad_nil)) ⟨_, _, rfl, rfl⟩)))
    (wo_or (t := false) (u := false) (to_not (t := true) (to_val (ed_call C cx (by decide) (.refl _) (ad_cons (by walk_at "ed") (ad_cons (by walk_at "ed") ad_nil)) ⟨_, _, rfl, by rw [idx_true h0 h1]⟩)))
      (wo_or1 (to_not (t := true) (to_val (ed_call C2 cx (by decide) (.refl _) (ad_cons (ed_ix (d := .tuple (r.2.map PyData.int)) (fun _ => rfl) (by walk_at "ed") ed_int rfl) (ad_cons (by walk_at "ed") ad_nil)) ⟨_, _, rfl, by rw [List.length_map, hl, decide_eq_true rfl]⟩))))))) fun H1 g => ?_
  refine rs_ret (M := .no) trivial (R := fun v H' => Dt K H' v (.bool true)) (ed_allT (te := tCall (DS K .no RIsIndex) [] E0 (tCons (tVar 3) (tCons (tVar 2) tNil))) (ix := 3) cx B (fun _ => sc.nd) (ed_ix (d := .tuple (r.2.map PyData.int)) (fun _ => rfl) (ed_var 0 rfl (g.dt hv)) ed_int rfl) (fun _ => blkOk_by (own := [("later", 3)]) (N := ["thing", "size", "states", "later"]) (sc := defScope (top 42)) (by decide +kernel)) (fun _ _ _ _ _ _ => pg_name (i := 3) sc.nd rfl (Or.inl rfl)) (fun j s H C' cl fp => pe_cal C (cx.blk j s H _ _ fp) (by decide) () rfl (pa_cons (pv 3) (pa_cons (pv 2) pa_nil))) (by rw [List.length_map]; omega) fun i x d H2 hdi g2 hv2 => ?_) fun x H2 g2 hx => q x H2 (g.trans g2) hx
  rw [List.getElem?_map] at hdi
  cases hi : r.2[i]? with
  | none => rw [hi] at hdi; cases hdi
  | some k =>
    rw [hi] at hdi
    cases hdi
    obtain ⟨a, b⟩ := hs k (List.mem_of_getElem? hi)
    exact qd_cal (.refl _) (qa_cons (qd_var rfl hv2) (qa_cons (qd_var rfl ((g.trans g2).dt hz)) qa_nil)) ⟨_, _, rfl, by rw [idx_true a b]⟩
def RIsAdviser (ds : List PyData) (d : PyData) : Prop := ∃ (size : Nat) (a : Adv), ds = [advD size a] ∧ AdvOk size 6 a ∧ 2 ≤ size ∧ size ≤ 4 ∧ d = .bool true
theorem c_is_adviser (F : Has K mg "is_adviser" (top 43)) (B : Blt mg) (U : Cst mg) (C : Cal P w K mg base 1 "is_tuple_of" ["thing", "many"] (DS K .no RIsTupleOf)) (C2 : Cal P w K mg base 3 "is_size" ["thing"] (DS K .no RIsSize)) (C3 : Cal P w K mg base 4 "is_rule" ["thing", "size", "states"] (DS K .no RIsRule)) : Cal P w K mg base 5 "is_adviser" ["thing"] (DS K .no RIsAdviser) := by
  have sc : FnScope ["thing", "states", "rule"] ["thing"] (defScope (top 43)) := ⟨rfl, rfl, rfl, by decide +kernel, rfl, by decide +kernel, by decide +kernel⟩
  refine cal_of F sc (ds_len fun ds d ⟨_, _, e, _⟩ => by rw [e]; rfl) (fun _ _ _ _ _ _ us hl => match us, hl with | [_], _ => rfl) (fun f cdv A outer s H vs Q E cx h => ?_)
  obtain ⟨ok, ds, d, hd, ⟨size, a, rfl, ha, h2, h4, rfl⟩, q⟩ := h
  obtain ⟨v, rfl, hv⟩ := dts1 hd
  unfold advD at hv
  refine rs_ifF (M := .no) trivial (to_w (wo_or (t := false) (u := false) (to_not (t := true) (to_val (ed_call C cx (by decide) (.refl _) (ad_cons (by walk_at "ed") (ad_cons ed_int ad_nil)) ⟨_, _, rfl, rfl⟩)))
    (wo_or (t := false) (u := false) (to_not (t := true) (to_val (ed_call C2 cx (by decide) (.refl _) (ad_cons (ed_ix (fun _ => rfl) (by walk_at "ed") (ed_k U.size cx.mg) rfl) ad_nil) ⟨size, rfl, h2, h4, rfl⟩)))
      (wo_or1 (to_not (t := true) (to_val (ed_isi (d := .tuple (a.map ruleD)) (tn := "tuple") cx.K (fun _ => B.isi) (fun _ => B.tuple) (by decide +kernel) (ed_ix (fun _ => rfl) (by walk_at "ed") (ed_k U.rules cx.mg) rfl) kb_tuple_tuple)))))) ) fun H1 g => ?_
  refine rs_set 1 g.r (ed_len (K := K) (ds := a.map ruleD) (fun _ => rfl) (fun _ => B.len) (ed_ix (fun _ => rfl) (ed_var 0 rfl (g.dt hv)) (ed_k U.rules cx.mg) rfl)) (fun n H2 g2 hn => ?_) sc.nd
  rw [List.length_map] at hn
  have g12 := g.trans g2
  have hv2 := g12.dt hv
  have hm := ha.most
  have hp := ha.pos
  refine rs_ret g2.r (R := fun v H' => Dt K H' v (.bool true)) (ED.cast (ed_and (ed_chain ed_int (ed_var 1 rfl hn) (ed_k U.mostSt cx.mg)) (ed_one (ed_allT (te := tCall (DS K .no RIsRule) [] E0 (tCons (tVar 2) (tCons (tOp (rIxT K) (tVar 0) (tC (.int 0))) (tCons (tVar 1) tNil)))) (ix := 2) cx B (fun _ => sc.nd) (ed_ix (fun _ => rfl) (ed_var 0 rfl hv2) (ed_k U.rules cx.mg) rfl) (fun _ => blkOk_by (own := [("rule", 2)]) (N := ["thing", "states", "rule"]) (sc := defScope (top 43)) (by decide +kernel)) (fun _ _ _ _ _ _ => pg_name (i := 2) sc.nd rfl (Or.inl rfl)) (fun j s H C' cl fp => pe_cal C3 (cx.blk j s H _ _ fp) (by decide) () rfl (pa_cons (pv 2) (pa_cons (pe_ix ix_tup (pv 0) (pe_k U.size rfl) (fun _ _ => rfl)) (pa_cons (pv 1) pa_nil)))) (by rw [List.length_map]; omega) fun i x d H3 hdi g3 hv3 => ?_))) ?_) fun x H3 g3 hx => q x H3 (g12.trans g3) hx
  · rw [List.getElem?_map] at hdi
    cases hi : a[i]? with
    | none => rw [hi] at hdi; cases hdi
    | some r =>
      rw [hi] at hdi
      cases hdi
      have hr := List.mem_of_getElem? hi
      obtain ⟨l0, l1⟩ := ha.letter r hr
      exact qd_cal (.refl _) (qa_cons (qd_var rfl hv3) (qa_cons (qd_ix (qd_var rfl (g3.dt hv2)) qd_int rfl) (qa_cons (qd_var rfl (g3.dt hn)) qa_nil))) ⟨size, a.length, r, rfl, l0, l1, ha.len r hr, h4, ha.st r hr, rfl⟩
  · rw [decide_eq_true (show (1 : Int) ≤ a.length by omega), decide_eq_true (show (a.length : Int) ≤ 6 by omega)]
    rfl
def RIsCircle (ds : List PyData) (d : PyData) : Prop := ∃ (size : Nat) (cs : List Adv), ds = [circD size cs] ∧ CircOk size cs ∧ d = .bool true
theorem circ0 {size : Nat} {cs : List Adv} (h : CircOk size cs) : ∃ a, a ∈ cs ∧ cs[0]? = some a := by
  cases e : cs with
  | nil => exact absurd e h.ne
  | cons a r => exact ⟨a, List.mem_cons_self, rfl⟩
theorem c_is_circle (F : Has K mg "is_circle" (top 44)) (B : Blt mg) (U : Cst mg) (C : Cal P w K mg base 5 "is_adviser" ["thing"] (DS K .no RIsAdviser)) : Cal P w K mg base 6 "is_circle" ["thing"] (DS K .no RIsCircle) := by
  have sc : FnScope ["thing", "one"] ["thing"] (defScope (top 44)) := ⟨rfl, rfl, rfl, by decide +kernel, rfl, by decide +kernel, by decide +kernel⟩
  refine cal_of F sc (ds_len fun ds d ⟨_, _, e, _⟩ => by rw [e]; rfl) (fun _ _ _ _ _ _ us hl => match us, hl with | [_], _ => rfl) (fun f cdv A outer s H vs Q E cx h => ?_)
  obtain ⟨ok, ds, d, hd, ⟨size, cs, rfl, hc, rfl⟩, q⟩ := h
  obtain ⟨v, rfl, hv⟩ := dts1 hd
  unfold circD at hv
  have hlen : 1 ≤ cs.length := List.length_pos_iff.mpr hc.ne
  have hf := hc.few
  refine rs_ifF (M := .no) trivial (to_w (wo_or (t := false) (u := false) (to_not (t := true) (to_val (ed_isi (d := .tuple (cs.map (advD size))) (tn := "tuple") cx.K (fun _ => B.isi) (fun _ => B.tuple) (by decide +kernel) (ed_var 0 rfl hv) kb_tuple_tuple)))
    (wo_or1 (to_not (t := true) (TO.cast (to_chain ed_int (ed_len (ds := cs.map (advD size)) (fun _ => rfl) (fun _ => B.len) (ed_var 0 rfl hv)) (ed_k U.mostAdv cx.mg)) (by
      rw [List.length_map, decide_eq_true (show (1 : Int) ≤ cs.length by omega), decide_eq_true (show (cs.length : Int) ≤ 4 by omega)]
      rfl)))))) fun H1 g => ?_
  have hv1 := g.dt hv
  obtain ⟨a0, ha0, hi0⟩ := circ0 hc
  refine rs_ret g.r (R := fun v H' => Dt K H' v (.bool true)) (ed_and (t := true) (u := true) (ed_allT (te := tCall (DS K .no RIsAdviser) [] E0 (tCons (tVar 1) tNil)) (ix := 1) cx B (fun _ => sc.nd) (ed_var 0 rfl hv1) (fun _ => blkOk_by (own := [("one", 1)]) (N := ["thing", "one"]) (sc := defScope (top 44)) (by decide +kernel)) (fun _ _ _ _ _ _ => pg_name (i := 1) sc.nd rfl (Or.inl rfl)) (fun j s H C' cl fp => pe_cal C (cx.blk j s H _ _ fp) (by decide) () rfl (pa_cons (pv 1) pa_nil)) (by rw [List.length_map]; omega) fun i x d H3 hdi g3 hv3 => ?_)
    (ed_one (ed_allT (te := tOp rEq (tOp (rIxT K) (tVar 1) (tC (.int 0))) (tOp (rIxT K) (tOp (rIxT K) (tVar 0) (tC (.int 0))) (tC (.int 0)))) (ix := 1) cx B (fun _ => sc.nd) (ed_var 0 rfl hv1) (fun _ => blkOk_by (own := [("one", 1)]) (N := ["thing", "one"]) (sc := defScope (top 44)) (by decide +kernel)) (fun _ _ _ _ _ _ => pg_name (i := 1) sc.nd rfl (Or.inl rfl)) (fun j s H C' cl fp => pe_cmpR op_eq (pe_ix ix_tup (pv 1) (pe_k U.size rfl) (fun _ _ => rfl)) (pe_ix ix_tup (pe_ix ix_tup (pv 0) pe_int (fun _ _ => rfl)) (pe_k U.size rfl) (fun _ _ => rfl)) (nomark _)) (by rw [List.length_map]; omega) fun i x d H3 hdi g3 hv3 => ?_))) fun x H3 g3 hx => q x H3 (g.trans g3) hx
  all_goals
    rw [List.getElem?_map] at hdi
    cases hi : cs[i]? with
    | none => rw [hi] at hdi; cases hdi
    | some a => ?_
    rw [hi] at hdi
    cases hdi
    have hr := List.mem_of_getElem? hi
  · exact qd_cal (.refl _) (qa_cons (qd_var rfl hv3) qa_nil) ⟨size, a, rfl, hc.adv a hr, hc.s2, hc.s4, rfl⟩
  · have := qd_eqI (K := K) (M := .no) (σ := (wipe [some v, none] [1]).set 1 (some x)) (H := H3) (i := (size : Int)) (j := (size : Int)) (qd_ix (ds := [.int (size : Int), .tuple (a.map ruleD)]) (qd_var (i := 1) rfl hv3) (qd_int (i := 0)) rfl) (qd_ix (ds := [.int (size : Int), .tuple (a0.map ruleD)]) (qd_ix (ds := cs.map (advD size)) (qd_var (i := 0) rfl (g3.dt hv1)) (qd_int (i := 0)) (atI_nat (i := 0) (by rw [List.getElem?_map, hi0]; rfl))) (qd_int (i := 0)) rfl)
    rw [decide_eq_true rfl] at this
    exact this
def RCheckCircle (ds : List PyData) (d : PyData) : Prop := ∃ (size : Nat) (cs : List Adv), ds = [circD size cs] ∧ CircOk size cs ∧ d = .none
theorem c_check_circle (F : Has K mg "check_circle" (top 45)) (C : Cal P w K mg base 6 "is_circle" ["thing"] (DS K .no RIsCircle)) : Cal P w K mg base 7 "check_circle" ["thing"] (DS K .no RCheckCircle) := by
  have sc : FnScope ["thing"] ["thing"] (defScope (top 45)) := ⟨rfl, rfl, rfl, by decide +kernel, rfl, by decide +kernel, by decide +kernel⟩
  refine cal_of F sc (ds_len fun ds d ⟨_, _, e, _⟩ => by rw [e]; rfl) (fun _ _ _ _ _ _ us hl => match us, hl with | [_], _ => rfl) (fun f cdv A outer s H vs Q E cx h => ?_)
  obtain ⟨ok, ds, d, hd, ⟨size, cs, rfl, hc, rfl⟩, q⟩ := h
  obtain ⟨v, rfl, hv⟩ := dts1 hd
  exact rs_ifF (M := .no) trivial (to_not (t := true) (to_val (ed_call C cx (by decide) (.refl _) (ad_cons (by walk_at "ed") ad_nil) ⟨size, cs, rfl, hc, rfl⟩))) fun H1 g => rs_nil (q _ _ g .non)
end
end Kt
end
section
set_option maxHeartbeats 4000000
set_option exponentiation.threshold 5000
/-! Kt: misses, stepped. -/
namespace Kt
open PySem PySem.Spec PyProof.Rows L2
local macro_rules | `(tactic| walk_at "ed") => `(tactic| first
  | exact ed_int
  | exact ed_bl
  | exact ed_non
  | exact ed_var 0 rfl (by assumption)
  | exact ed_var 1 rfl (by assumption)
  | exact ed_var 2 rfl (by assumption)
  | exact ed_var 3 rfl (by assumption)
  | exact ed_var 4 rfl (by assumption)
  | exact ed_var 5 rfl (by assumption)
  | exact ed_var 6 rfl (by assumption)
  | exact ed_var 7 rfl (by assumption)
  | exact ed_glob (v := .int _) (fun _ => rfl) (fun _ => by assumption) ⟨_, rfl⟩ (fun _ => .int _)
  | (refine' ed_add ?ha ?hb; (case ha => walk_at "ed"); (case hb => walk_at "ed"))
  | (refine' ed_sub ?ha ?hb; (case ha => walk_at "ed"); (case hb => walk_at "ed"))
  | (refine' ed_ix (fun _ => rfl) ?ha ?hb ?hi; (case ha => walk_at "ed"); (case hb => walk_at "ed"); (case hi => rfl))
  | (refine' ed_len (fun _ => rfl) (fun _ => Blt.len (by assumption)) ?ha; (case ha => walk_at "ed")))
section
variable {ι : Type} {X : ι → Cx} {M M0 : Mov} {P : Program} {w : World} {K : PySem.W.Frag} {mg : Str → Option Value} {base : Heap} {n : Nat}
variable {σ : L2.St} {H H0 : Hp} {elt tg iter : Expr} {scope : Scope} {own : List (Str × Nat)} {g : TG} {te : TE} {p pos : Pos} {d : PyData} {ds fs : List PyData}
/-- over a list of data that stands; any target -/
theorem eo_lcG (cx : CxIs X P w K mg base n) (hN : ∀ j, (X j).N.Nodup) {a : Addr} {xs : List V} (hi : EO X M σ H iter (fun v H' => v = .ref a)) (hq : ∀ H', Gr M H H' → SqL K H' a xs) (hd : DtAll K H xs ds) (ok : ∀ j, BlkOk (X j).N (X j).env.scope scope own)
    (hg : ∀ j (s : Shared) (H : Hp) (C : Addr) (cl : List (Str × Addr)) (fp : List Addr), PG ((X j).blk s H scope (compEnvC scope cl C (X j).env) fp) tg g)
    (he : ∀ j (s : Shared) (H : Hp) (C : Addr) (cl : List (Str × Addr)) (fp : List Addr), PE ((X j).blk s H scope (compEnvC scope cl C (X j).env) fp) elt te)
    (hl : fs.length = ds.length) (hz : ds.length ≤ 100000)
    (q : ∀ (i : Nat) (v : V) (d f : PyData) (H1 : Hp), ds[i]? = some d → fs[i]? = some f → Gr M H H1 → Dt K H1 v d → ∃ σ2, wipe σ2 (own.map (·.2)) = wipe σ (own.map (·.2)) ∧ (∀ Qg : L2.St → Hp → Prop, Qg σ2 H1 → g v (wipe σ (own.map (·.2))) H1 Qg) ∧ QD K M te σ2 H1 f)
    (hs : ∀ j x, foldedSetIterable iter (X j).env x = pure x := by intro _ _; rfl) : EO X M σ H (.ListComp elt [⟨tg, iter, [], 0⟩] scope pos) (NwD K M H fs) := by
  obtain ⟨ti, pi, qi⟩ := hi
  refine ⟨tLc (iList K ti) g tYes te (own.map (·.2)), fun j => ?_, fun H1 g1 Q k => ?_⟩
  · have hp : PI (X j) tg iter (iList K ti) := by
      rw [← cx.K j]
      exact pi_list (pi j)
    exact pe_lc (cx.calm j) (hN j) hp (ok j) (hg j) (fun _ _ _ _ _ => pts_nil) (he j) (hs j)
  · refine qi H1 g1 _ fun v H2 g2 hv => ?_
    subst hv
    have g12 := g1.trans g2
    refine ⟨a, rfl, ⟨xs, hq H2 g12⟩, fun D hD => ?_⟩
    have hDH := (g12.fresh hD).1
    refine lc_list (K := K) (a := a) (xs := xs) (LcInv K M H2 D fs) (lcInv_start (.refl g2.r) hD) (fun i H' _ h => hq H' (g12.trans h.1)) (fun i y H' hy h => ?_) fun H' h => ?_
    · obtain ⟨d, hdi, hyd⟩ := hd.get' hy
      have hlt : i < fs.length := by
        rw [hl]
        exact (List.getElem?_eq_some_iff.mp hdi).1
      obtain ⟨σ2, w2, hgg, hqd⟩ := q i y d fs[i] H' hdi (List.getElem?_eq_getElem hlt) (g12.trans h.1) ((g12.trans h.1).dt hyd)
      refine hgg _ ⟨w2, ?_⟩
      refine hqd H' (.refl h.1.r) _ fun u H3 g3 hu => ?_
      exact lcInv_step hD (by rw [hl]; exact hz) h g3 (List.getElem?_eq_getElem hlt) hu
    · have e : xs.length = fs.length := by rw [hl]; exact hd.length
      rw [e] at h
      obtain ⟨D', acc, e1, e2, e3, e4⟩ := lcInv_end hD h
      exact k _ _ (g2.trans h.1) ⟨D', acc, e1, by cases e1; exact hDH, e3, e4⟩
end
section
variable {X : Cx} {M : Mov} {K : PySem.W.Frag} {σ : L2.St} {H : Hp} {rest body : List Stmt} {D : Ends} {a b : Expr} {g : TG} {pos p pz ptg : Pos} {ds es : List PyData} {elts : List Expr} {kk : Nat}
theorem rs_zipT (hp : PassesOwn (model X.prog X.w) X.A X.env X.xe) (hc : X.calm = true) (hK : X.K = K) (ok : M.ok H) (hm : X.mg "zip" = none) (hi : AD (fun _ : Unit => X) M K σ H [a, b] [.tuple ds, .tuple es]) (hl : ds.length = es.length) (hg : PG X (.Tuple elts kk ptg) g)
    (h : ∀ H1, Gr M H H1 → ∃ Pv : Nat → L2.St → Hp → Prop, Pv 0 σ H1 ∧ (∀ i σ' H', Pv i σ' H' → SK K H1 H') ∧
      (∀ (i : Nat) (T : Addr) (x y : V) (d e : PyData) σ' H', ds[i]? = some d → es[i]? = some e → Pv i σ' H' → H' T = none → Dt K (upd H' T (.tup [x, y])) (.ref T) (.tuple [d, e]) → g (.ref T) σ' (upd H' T (.tup [x, y])) fun σ2 H2 => RS X body (Ends.turn D (Pv (i + 1)) fun σ3 H3 => RS X rest D σ3 H3) σ2 H2) ∧
      (∀ σ' H', Pv ds.length σ' H' → RS X rest D σ' H')) (hgz : Gl X "zip" := by rfl) (hs : starEach [a, b] X.env = (false, eval a X.env) :: starEach [b] X.env := by rfl) (hpl : (backTo p (starEach [b] X.env)).any (·.1) = false := by rfl)
    (hf : ∀ x, foldedSetIterable (.Call (.Name "zip" pz) [a, b] [] p) X.env x = pure x := by intro _; rfl) : RS X (.For (.Tuple elts kk ptg) (.Call (.Name "zip" pz) [a, b] [] p) body [] pos :: rest) D σ H := by
  obtain ⟨ta, pa, qa⟩ := hi
  have pI : PI X (.Tuple elts kk ptg) (.Call (.Name "zip" pz) [a, b] [] p) (RZ.iZipA K ta) := by
    rw [← hK]
    exact RZ.pi_zipA hgz hm (pa ()) hs hpl
  refine rs_for hp hc pI hg ?_ hf
  refine qa H (.refl ok) _ fun vs H1 g1 hv => ?_
  obtain ⟨v, u, rfl, hv, hu⟩ := dts2 hv
  obtain ⟨c1, xs, rfl, hqx, hdx⟩ := dt_tup hv
  obtain ⟨c2, ys, rfl, hqy, hdy⟩ := dt_tup hu
  obtain ⟨Pv, h0, gr, hs, hd⟩ := h H1 g1
  have e1 : xs.length = ds.length := hdx.length
  have e2 : ys.length = es.length := hdy.length
  refine ⟨c1, c2, xs, ys, rfl, .inr ⟨hqx, hqy, ?_⟩⟩
  refine RZ.for_zipT (K := K) (a := c1) (b := c2) (xs := xs) (ys := ys) (by omega) Pv h0 (fun i σ' H' h => ⟨gr _ _ _ h _ _ hqx, gr _ _ _ h _ _ hqy⟩) (fun i x y T σ' H' hx hy h hT => ?_) fun σ' H' h => ?_
  · obtain ⟨d, hdi, hxd⟩ := hdx.get' hx
    obtain ⟨e, hei, hye⟩ := hdy.get' hy
    have m : ∀ a zs, SqT K H' a zs → SqT K (upd H' T (.tup [x, y])) a zs := fun _ _ z => same_sqT (same_upd hT) z
    exact hs i T x y d e σ' H' hdi hei h hT (.tup (.of upd_same) (.cons ((hxd.mono (gr _ _ _ h)).mono m) (.cons ((hye.mono (gr _ _ _ h)).mono m) .nil)))
  · rw [e1] at h
    exact hd σ' H' h
end
section
variable {P : Program} {w : World} {K : PySem.W.Frag} {mg : Str → Option Value} {base : Heap}
def RMisses (ds : List PyData) (d : PyData) : Prop := ∃ (size : Nat) (a : Adv) (r : List Nat), ds = [advD size a, lotD r] ∧ AdvOk size 6 a ∧ (∀ x ∈ r, x < size) ∧ d = .int (missA a 0 r)
theorem rule_at {a : Adv} {s : Int} (h0 : 0 ≤ s) (h1 : s < (a.length : Int)) : atI (a.map ruleD) s = some (ruleD (rule a s)) := atI_int h0 (by rw [List.getElem?_map, (rule_mem h0 h1).2]; rfl)
theorem next_at {l : List Int} {x : Nat} (h : x < l.length) : atI (l.map PyData.int) (x : Int) = some (.int (l.getD x 0)) := atI_nat (by rw [List.getElem?_map, List.getElem?_eq_getElem h, List.getD_eq_getElem?_getD, List.getElem?_eq_getElem h]; rfl)
theorem c_raw_misses (F : Has K mg "raw_misses" (top 46)) (U : Cst mg) : Cal P w K mg base 1 "raw_misses" ["adviser", "row"] (DS K .no RMisses) := by
  have sc : FnScope ["adviser", "row", "state", "found", "letter", "told", "nexts"] ["adviser", "row"] (defScope (top 46)) := ⟨rfl, rfl, rfl, by decide +kernel, rfl, by decide +kernel, by decide +kernel⟩
  refine cal_of F sc (ds_len fun ds d ⟨_, _, _, e, _⟩ => by rw [e]; rfl) (fun _ _ _ _ _ _ us hl => match us, hl with | [_, _], _ => rfl) (fun f cdv A outer s H vs Q E cx h => ?_)
  obtain ⟨ok, ds, d, hd, ⟨size, a, r, rfl, ha, hr, rfl⟩, q⟩ := h
  obtain ⟨v, u, rfl, hv, hu⟩ := dts2 hd
  unfold advD at hv
  refine rs_asg ok (ed_tup (K := K) (ad_cons ed_int (ad_cons ed_int ad_nil))) (pg_tup rfl (pgs_cons (pg_name (i := 2) sc.nd rfl (Or.inl rfl)) (pgs_cons (pg_name (i := 3) sc.nd rfl (Or.inl rfl)) pgs_nil))) (fun z H1 g1 hz => ?_)
  refine g_pair hz fun x y hx hy => ?_
  obtain rfl := dt_int hx
  obtain rfl := dt_int hy
  refine rs_forS (K := K) PassesOwn.never rfl rfl g1.r (ed_var 1 rfl (g1.dt hu)) (pg_name (i := 4) sc.nd rfl (Or.inl rfl)) fun H2 g2 => ?_
  refine ⟨fun i σ' H' => Gr Mov.no H2 H' ∧ Gr Mov.no H H' ∧ ∃ (st c : Int) (x y z : Option V), σ' = [some v, some u, some (.int st), some (.int c), x, y, z] ∧ 0 ≤ st ∧ st < (a.length : Int) ∧ c + missA a st (r.drop i) = missA a 0 r,
    ⟨.refl g2.r, g1.trans g2, 0, 0, none, none, none, rfl, by omega, by have := ha.pos; omega, by rw [List.drop_zero]; omega⟩, fun i σ' H' h => h.1.sk, ?_, ?_⟩
  · rintro i lv d σ' H3 hdi ⟨g23, g3, st, c, x, y, z, rfl, h0, h1, hc⟩ hlv
    rw [List.getElem?_map] at hdi
    cases hi : r[i]? with
    | none => rw [hi] at hdi; cases hdi
    | some k =>
      rw [hi] at hdi
      cases hdi
      have hk := hr k (List.mem_of_getElem? hi)
      obtain rfl := dt_int hlv
      have hrm := rule_mem h0 h1
      have hlen := ha.len _ hrm.1
      refine rs_asg g3.r (ed_ix (d := ruleD (rule a st)) (fun _ => rfl) (ed_ix (fun _ => rfl) (ed_var 0 rfl (g3.dt hv)) (ed_k U.rules cx.mg) rfl) (ed_var (K := K) 2 rfl (.int st)) (rule_at h0 h1)) (pg_tup rfl (pgs_cons (pg_name (i := 5) sc.nd rfl (Or.inl rfl)) (pgs_cons (pg_name (i := 6) sc.nd rfl (Or.inl rfl)) pgs_nil))) (fun z2 H4 g4 hz2 => ?_)
      refine g_pair hz2 fun tv nv htv hnv => ?_
      obtain rfl := dt_int htv
      refine rs_augI (K := K) 3 g4.r (a := c) (b := if (rule a st).1 = (k : Int) then 0 else 1) rfl (ED.cast (ed_if (to_eq (K := K) (ed_var 5 rfl (.int (rule a st).1)) (ed_var 4 rfl (.int (k : Int)))) ed_int ed_int) ?_) (fun H5 g5 => ?_) sc.nd
      · by_cases hcc : (rule a st).1 = (k : Int)
        · rw [decide_eq_true hcc, if_pos rfl, if_pos hcc]
        · rw [decide_eq_false hcc, if_neg Bool.false_ne_true, if_neg hcc]
      refine rs_set 2 g5.r (ed_ix (K := K) (fun _ => rfl) (ed_var 6 rfl (g5.dt hnv)) (ed_var 4 rfl (.int (k : Int))) (next_at (by rw [hlen]; exact hk))) (fun nv2 H6 g6 hn2 => ?_) sc.nd
      obtain rfl := dt_int hn2
      have hst := ha.st _ hrm.1 _ (getD_mem' (show k < (rule a st).2.length by rw [hlen]; exact hk))
      refine rs_nil ⟨g23.trans (g4.trans (g5.trans g6)), g3.trans (g4.trans (g5.trans g6)), _, _, _, _, _, rfl, hst.1, hst.2, ?_⟩
      have ed : r.drop i = k :: r.drop (i + 1) := by
        have hlt := (List.getElem?_eq_some_iff.mp hi)
        rw [List.drop_eq_getElem_cons hlt.1, hlt.2]
      rw [← hc, ed]
      show _ = c + ((if (rule a st).1 = (k : Int) then 0 else 1) + missA a ((rule a st).2.getD k 0) (r.drop (i + 1)))
      omega
  · rintro σ' H3 ⟨g23, g3, st, c, x, y, z, rfl, h0, h1, hc⟩
    rw [lotD_len, List.drop_length] at hc
    refine rs_ret g3.r (ed_var (K := K) 3 rfl (.int c)) fun z H4 g4 hz => q z H4 (g3.trans g4) ?_
    have e : c = missA a 0 r := by
      rw [← hc]
      show c = c + 0
      omega
    rw [← e]
    exact hz
def RAdvMisses (ds : List PyData) (d : PyData) : Prop := ∃ (size : Nat) (cs : List Adv) (r : List Nat), ds = [circD size cs, lotD r] ∧ CircOk size cs ∧ r.length ≤ 400 ∧ (∀ x ∈ r, x < size) ∧ d = .tuple (cs.map fun a => .int (missA a 0 r))
theorem c_adviser_misses (F : Has K mg "adviser_misses" (top 47)) (B : Blt mg) (U : Cst mg) (C : Cal P w K mg base 7 "check_circle" ["thing"] (DS K .no RCheckCircle)) (C2 : Cal P w K mg base 5 "check_row" ["size", "thing"] (DS K .no RCheckRow)) (C3 : Cal P w K mg base 1 "raw_misses" ["adviser", "row"] (DS K .no RMisses)) : Cal P w K mg base 8 "adviser_misses" ["circle", "row"] (DS K .no RAdvMisses) := by
  have sc : FnScope ["circle", "row", "adviser"] ["circle", "row"] (defScope (top 47)) := ⟨rfl, rfl, rfl, by decide +kernel, rfl, by decide +kernel, by decide +kernel⟩
  refine cal_of F sc (ds_len fun ds d ⟨_, _, _, e, _⟩ => by rw [e]; rfl) (fun _ _ _ _ _ _ us hl => match us, hl with | [_, _], _ => rfl) (fun f cdv A outer s H vs Q E cx h => ?_)
  obtain ⟨ok, ds, d, hd, ⟨size, cs, r, rfl, hc, h400, hr, rfl⟩, q⟩ := h
  obtain ⟨v, u, rfl, hv, hu⟩ := dts2 hd
  obtain ⟨a0, ha0, hi0⟩ := circ0 hc
  refine rs_expr ok (ed_call C cx (by decide) (.refl _) (ad_cons (ed_var 0 rfl hv) ad_nil) ⟨size, cs, rfl, hc, rfl⟩) fun _ H1 g1 _ => ?_
  have hv1 := g1.dt hv
  unfold circD at hv1
  refine rs_expr g1.r (ed_call C2 cx (by decide) (.refl _) (ad_cons (ed_ix (ds := [.int (size : Int), .tuple (a0.map ruleD)]) (fun _ => rfl) (ed_ix (fun _ => rfl) (ed_var 0 rfl hv1) (ed_int (i := 0)) (atI_nat (i := 0) (by rw [List.getElem?_map, hi0]; rfl))) (ed_k U.size cx.mg) rfl) (ad_cons (ed_var 1 rfl (g1.dt hu)) ad_nil)) ⟨size, r, rfl, h400, hr, rfl⟩) fun _ H2 g2 _ => ?_
  have g12 := g1.trans g2
  have hv2 := g2.dt hv1
  have hu2 := g12.dt hu
  refine rs_ret g2.r (ed_tupleL (K := K) (ds := cs.map fun a => .int (missA a 0 r)) (fun _ => rfl) (fun _ => B.tuple) (EO.imp (eo_lcT (fs := cs.map fun a => .int (missA a 0 r)) (te := tCall (DS K .no RMisses) [] E0 (tCons (tVar 2) (tCons (tVar 1) tNil))) (ix := 2) cx (fun _ => sc.nd) (ed_var 0 rfl hv2) (fun _ => blkOk_by (own := [("adviser", 2)]) (N := ["circle", "row", "adviser"]) (sc := defScope (top 47)) (by decide +kernel)) (fun _ _ _ _ _ _ => pg_name (i := 2) sc.nd rfl (Or.inl rfl)) (fun j s H C' cl fp => pe_cal C3 (cx.blk j s H _ _ fp) (by decide) () rfl (pa_cons (pv 2) (pa_cons (pv 1) pa_nil))) (by rw [List.length_map, List.length_map]) (by rw [List.length_map]; have := hc.few; omega) fun i x d f H3 hdi hf g3 hx => ?_) fun v H1 _ h => nwL h)) fun z H3 g3 hz => q z H3 (g12.trans g3) hz
  rw [List.getElem?_map] at hdi hf
  cases hi : cs[i]? with
  | none => rw [hi] at hdi; cases hdi
  | some a =>
    rw [hi] at hdi hf
    cases hdi
    cases hf
    exact qd_cal (.refl _) (qa_cons (qd_var rfl hx) (qa_cons (qd_var rfl (g3.dt hu2)) qa_nil)) ⟨size, a, r, rfl, hc.adv a (List.mem_of_getElem? hi), hr, rfl⟩
end
end Kt
end
section
set_option maxHeartbeats 4000000
set_option exponentiation.threshold 5000
/-! Kt: stepped. -/
namespace Kt
open PySem PySem.Spec PyProof.Rows L2
local macro_rules | `(tactic| walk_at "ed") => `(tactic| first
  | exact ed_int
  | exact ed_bl
  | exact ed_non
  | exact ed_var 0 rfl (by assumption)
  | exact ed_var 1 rfl (by assumption)
  | exact ed_var 2 rfl (by assumption)
  | exact ed_var 3 rfl (by assumption)
  | exact ed_var 4 rfl (by assumption)
  | exact ed_var 5 rfl (by assumption)
  | exact ed_var 6 rfl (by assumption)
  | exact ed_var 7 rfl (by assumption)
  | exact ed_glob (v := .int _) (fun _ => rfl) (fun _ => by assumption) ⟨_, rfl⟩ (fun _ => .int _)
  | (refine' ed_add ?ha ?hb; (case ha => walk_at "ed"); (case hb => walk_at "ed"))
  | (refine' ed_sub ?ha ?hb; (case ha => walk_at "ed"); (case hb => walk_at "ed"))
  | (refine' ed_ix (fun _ => rfl) ?ha ?hb ?hi; (case ha => walk_at "ed"); (case hb => walk_at "ed"); (case hi => rfl))
  | (refine' ed_len (fun _ => rfl) (fun _ => Blt.len (by assumption)) ?ha; (case ha => walk_at "ed")))
def RStepped (ds : List PyData) (d : PyData) : Prop := ∃ (size : Nat) (cs : List Adv) (k : Key) (x : Nat) (G : Int), ds = [circD size cs, keyD k, .int (x : Int)] ∧ CircOk size cs ∧ k.length = cs.length ∧ KeyV G cs k ∧ x < size ∧ d = .tuple [keyD (next cs k x), .int (rise cs k x)]
theorem found_get {cs : List Adv} {k : Key} {x i : Nat} {a : Adv} {sg : Int × Int} (ha : cs[i]? = some a) (hk : k[i]? = some sg) : (found cs k x)[i]? = some (step1 x a sg) := by
  unfold found
  rw [List.getElem?_zipWith, ha, hk]
section
variable {P : Program} {w : World} {K : PySem.W.Frag} {mg : Str → Option Value} {base : Heap}
theorem c_stepped (F : Has K mg "stepped" (top 48)) (B : Blt mg) (U : Cst mg) : Cal P w K mg base 1 "stepped" ["circle", "key", "letter"] (DS K .no RStepped) := by
  have sc : FnScope ["circle", "key", "letter", "found", "adviser", "state", "gap", "told", "nexts", "least"] ["circle", "key", "letter"] (defScope (top 48)) := ⟨rfl, rfl, rfl, by decide +kernel, rfl, by decide +kernel, by decide +kernel⟩
  refine cal_of F sc (ds_len fun ds d ⟨_, _, _, _, _, e, _⟩ => by rw [e]; rfl) (fun _ _ _ _ _ _ us hl => match us, hl with | [_, _, _], _ => rfl) (fun f cdv A outer s H vs Q E cx h => ?_)
  obtain ⟨ok, ds, d, hd, ⟨size, cs, k, lt, G, rfl, hc, hkl, hkv, hlt, rfl⟩, q⟩ := h
  obtain ⟨v, u, z, rfl, hv, hu, hz⟩ := dts3 hd
  obtain rfl := dt_int hz
  unfold circD at hv
  unfold keyD at hu
  have hf4 := hc.few
  have hfl : (found cs k lt).length = cs.length := found_length hkl
  have na : ∀ l, ¬ Mov.no.at_ l := fun _ z => z.elim
  refine rs_set 3 ok (eo_lst (K := K) ad_nil) (fun u1 H1 g1 hu1 => ?_) sc.nd
  obtain ⟨l, xs0, rfl, hl0, hl1, hd0⟩ := hu1
  cases hd0
  refine rs_zipT (K := K) PassesOwn.never rfl rfl g1.r B.zip (ad_cons (ed_var 0 rfl (g1.dt hv)) (ad_cons (ed_var 1 rfl (g1.dt hu)) ad_nil)) (by rw [List.length_map, List.length_map, hkl])
    (pg_tup rfl (pgs_cons (pg_name (i := 4) sc.nd rfl (Or.inl rfl)) (pgs_cons (pg_tup rfl (pgs_cons (pg_name (i := 5) sc.nd rfl (Or.inl rfl)) (pgs_cons (pg_name (i := 6) sc.nd rfl (Or.inl rfl)) pgs_nil))) pgs_nil))) fun H2 g2 => ?_
  refine ⟨fun i σ' H' => SK K H2 H' ∧ Gr Mov.no H H' ∧ ∃ (o4 o5 o6 o7 o8 o9 : Option V) (xs : List V), σ' = [some v, some u, some (.int (lt : Int)), some (.ref l), o4, o5, o6, o7, o8, o9] ∧ H' l = some (.lst xs) ∧ DtAll K H' xs (((found cs k lt).take i).map sgD),
    ⟨.refl, g1.trans g2, none, none, none, none, none, none, [], rfl, g2.keep l _ hl1 (na l), .nil⟩, fun i σ' H' h => h.1, ?_, ?_⟩
  · rintro i T px py d e σ' H3 hdi hei ⟨sk, g3, o4, o5, o6, o7, o8, o9, xs, rfl, hl3, hxs⟩ hT hpair
    rw [List.getElem?_map] at hdi hei
    cases hai : cs[i]? with
    | none => rw [hai] at hdi; cases hdi
    | some a =>
      cases hki : k[i]? with
      | none => rw [hki] at hei; cases hei
      | some sg =>
        rw [hai] at hdi
        rw [hki] at hei
        cases hdi
        cases hei
        have gT : Gr Mov.no H3 (upd H3 T (.tup [px, py])) := .new trivial hT
        have g4 := g3.trans gT
        obtain ⟨k0, k1, _, _⟩ := hkv i a sg hai hki
        have hA := hc.adv a (List.mem_of_getElem? hai)
        have hrm := rule_mem k0 k1
        have hlen := hA.len _ hrm.1
        have hl4 := gT.keep l _ hl3 (na l)
        obtain ⟨pa, pxs, e1, hq, hd2⟩ := dt_tup hpair
        obtain ⟨av, sv, rfl, hav, hsv⟩ := dts2 hd2
        refine ⟨pa, _, e1, hq, rfl, av, [sv], rfl, sv, [], rfl, ?_⟩
        refine g_pair hsv fun st gp hst hgp => ⟨rfl, ?_⟩
        obtain rfl := dt_int hst
        obtain rfl := dt_int hgp
        unfold advD at hav
        refine rs_asg g4.r (ed_ix (d := ruleD (rule a sg.1)) (fun _ => rfl) (ed_ix (fun _ => rfl) (ed_var 4 rfl hav) (ed_k U.rules cx.mg) rfl) (ed_var (K := K) 5 rfl (.int sg.1)) (rule_at k0 k1)) (pg_tup rfl (pgs_cons (pg_name (i := 7) sc.nd rfl (Or.inl rfl)) (pgs_cons (pg_name (i := 8) sc.nd rfl (Or.inl rfl)) pgs_nil))) (fun z2 H4 g5 hz2 => ?_)
        refine g_pair hz2 fun tv nv htv hnv => ?_
        obtain rfl := dt_int htv
        have hl5 := g5.keep l _ hl4 (na l)
        refine rs_append (R := fun v H' => Dt K H' v (sgD (step1 lt a sg))) g5.r (eo_var 3 (hs := rfl) (hR := fun _ _ => rfl)) hl5 (na l) (by rw [hxs.length, List.length_map, List.length_take]; omega)
          (ED.cast (ed_tup (ad_cons (ed_ix (K := K) (fun _ => rfl) (ed_var 8 rfl hnv) (ed_var 2 rfl (.int (lt : Int))) (next_at (by rw [hlen]; exact hlt))) (ad_cons (ED.cast (d2 := .int (if (rule a sg.1).1 = (lt : Int) then sg.2 else sg.2 + 1)) (ed_if (to_eq (K := K) (ed_var 7 rfl (.int (rule a sg.1).1)) (ed_var 2 rfl (.int (lt : Int)))) (ed_var 6 rfl (.int sg.2)) (ed_add (ed_var 6 rfl (.int sg.2)) ed_int)) ?_) ad_nil))) rfl) fun y2 H6 g6 hl6 hy2 => ?_
        · by_cases hcc : (rule a sg.1).1 = (lt : Int)
          · rw [decide_eq_true hcc, if_pos rfl, if_pos hcc]
          · rw [decide_eq_false hcc, if_neg Bool.false_ne_true, if_neg hcc]
        have g36 := gT.trans (g5.trans g6)
        refine rs_nil ⟨(sk.trans g36.sk).updL hl6, (g3.trans g36).upd hl0 hl6 loc_lst, _, _, _, _, _, _, xs ++ [y2], rfl, upd_same, ?_⟩
        have e2 : ((found cs k lt).take (i + 1)).map sgD = ((found cs k lt).take i).map sgD ++ [sgD (step1 lt a sg)] := by
          rw [List.take_add_one, found_get hai hki, List.map_append]
          rfl
        rw [e2]
        exact ((g36.dts hxs).mono (sqT_updL hl6)).app (.one (hy2.mono (sqT_updL hl6)))
  · rintro σ' H3 ⟨sk, g3, o4, o5, o6, o7, o8, o9, xs, rfl, hl3, hxs⟩
    rw [List.length_map, ← hfl, List.take_length] at hxs
    have nodup := sc.nd
    have gPair : ∀ j : Unit, ∀ (s' : Shared) (H' : Hp) (sc' : Scope) (C : Addr) (cl : List (Str × Addr)) (fp : List Addr), True := fun _ _ _ _ _ _ _ => trivial
    refine rs_set 9 g3.r (ed_min (K := K) (ns := (found cs k lt).map (·.2)) (fun _ => rfl) (fun _ => rfl) (fun _ => B.min) (by rw [List.length_map, hfl]; exact List.length_pos_iff.mpr hc.ne) (EO.imp (eo_lcG (fs := ((found cs k lt).map (·.2)).map PyData.int) (te := tVar 6) (own := [("state", 5), ("gap", 6)]) (g := gTup K 2 (gCons (gName 5) (gCons (gName 6) gNil))) cx (fun _ => sc.nd) (eo_var 3 (hs := rfl) (hR := fun _ _ => rfl)) (fun H' g => .of (g.keep l _ hl3 (na l))) hxs
      (fun _ => blkOk_by (own := [("state", 5), ("gap", 6)]) (N := ["circle", "key", "letter", "found", "adviser", "state", "gap", "told", "nexts", "least"]) (sc := defScope (top 48)) (by decide +kernel))
      (fun _ _ _ _ _ _ => pg_tup rfl (pgs_cons (pg_name (i := 5) sc.nd rfl (Or.inl rfl)) (pgs_cons (pg_name (i := 6) sc.nd rfl (Or.inl rfl)) pgs_nil))) (fun _ _ _ _ _ _ => pv 6) (by rw [List.length_map, List.length_map, List.length_map]) (by rw [List.length_map, hfl]; omega) fun i x d f H4 hdi hfi g4 hx => ?_) fun v H1 _ h => nwL h)) (fun lv H4 g4 hlv => ?_) sc.nd
    · rw [List.getElem?_map] at hdi
      rw [List.map_map, List.getElem?_map] at hfi
      cases hi : (found cs k lt)[i]? with
      | none => rw [hi] at hdi; cases hdi
      | some sg =>
        rw [hi] at hdi hfi
        cases hdi
        cases hfi
        refine ⟨[some v, some u, some (.int (lt : Int)), some (.ref l), o4, some (.int sg.1), some (.int sg.2), o7, o8, o9], rfl, fun Qg hq => ?_, qd_var (v := .int sg.2) rfl (.int sg.2)⟩
        refine g_pair hx fun a b ha hb => ?_
        obtain rfl := dt_int ha
        obtain rfl := dt_int hb
        exact hq
    have hlr : lv = .int (rise cs k lt) := dt_int hlv
    subst hlr
    have hl4 := g4.keep l _ hl3 (na l)
    refine rs_ret g4.r (ed_tup (K := K) (ad_cons (d := keyD (next cs k lt)) (ed_tupleL (ds := (next cs k lt).map sgD) (fun _ => rfl) (fun _ => B.tuple) (EO.imp (eo_lcG (fs := (next cs k lt).map sgD) (te := tTup (tCons (tVar 5) (tCons (tOp (rI0 fun i j => .int (i - j)) (tVar 6) (tVar 9)) tNil))) (own := [("state", 5), ("gap", 6)]) (g := gTup K 2 (gCons (gName 5) (gCons (gName 6) gNil))) cx (fun _ => sc.nd) (eo_var 3 (hs := rfl) (hR := fun _ _ => rfl)) (fun H' g => .of (g.keep l _ hl4 (na l))) (g4.dts hxs)
      (fun _ => blkOk_by (own := [("state", 5), ("gap", 6)]) (N := ["circle", "key", "letter", "found", "adviser", "state", "gap", "told", "nexts", "least"]) (sc := defScope (top 48)) (by decide +kernel))
      (fun _ _ _ _ _ _ => pg_tup rfl (pgs_cons (pg_name (i := 5) sc.nd rfl (Or.inl rfl)) (pgs_cons (pg_name (i := 6) sc.nd rfl (Or.inl rfl)) pgs_nil))) (fun _ _ _ _ _ _ => pe_tup (pa_cons (pv 5) (pa_cons (pe_op op_sub (pv 6) (pv 9)) pa_nil))) (by rw [List.length_map, List.length_map, next_length hkl, hfl]) (by rw [List.length_map, hfl]; omega) fun i x d f H5 hdi hfi g5 hx => ?_) fun v H1 _ h => nwL h)) (ad_cons (ed_var 9 rfl (.int (rise cs k lt))) ad_nil))) fun z H5 g5 hz => q z H5 (g3.trans (g4.trans g5)) hz
    rw [List.getElem?_map] at hdi
    unfold next at hfi
    rw [List.map_map, List.getElem?_map] at hfi
    cases hi : (found cs k lt)[i]? with
    | none => rw [hi] at hdi; cases hdi
    | some sg =>
      rw [hi] at hdi hfi
      cases hdi
      cases hfi
      refine ⟨[some v, some u, some (.int (lt : Int)), some (.ref l), o4, some (.int sg.1), some (.int sg.2), o7, o8, some (.int (rise cs k lt))], rfl, fun Qg hq => ?_, ?_⟩
      · refine g_pair hx fun a b ha hb => ?_
        obtain rfl := dt_int ha
        obtain rfl := dt_int hb
        exact hq
      · exact qd_tup (qa_cons (qd_var rfl (.int sg.1)) (qa_cons (qd_sub (qd_var rfl (.int sg.2)) (qd_var rfl (.int (rise cs k lt)))) qa_nil))
end
end Kt
end
section
set_option maxHeartbeats 4000000
/-! Kt: dicts whose keys are tuples of pairs of ints, told by their object. -/
namespace Kt
open PySem PySem.Spec PyProof.Rows L2
def nkS (sg : Int × Int) : NestedKey := .tup [.num sg.1, .num sg.2]
def nk (k : Key) : NestedKey := .tup (k.map nkS)
theorem nkS_inj {a b : Int × Int} (h : nkS a = nkS b) : a = b := by
  unfold nkS at h
  injection h with h
  injection h with h1 h2
  injection h1 with h1
  injection h2 with h2
  injection h2 with h2
  exact Prod.ext h1 h2
theorem nk_inj {a b : Key} (h : nk a = nk b) : a = b := by
  unfold nk at h
  injection h with h
  induction a generalizing b with
  | nil =>
    cases b with
    | nil => rfl
    | cons y ys => simp at h
  | cons x xs ih =>
    cases b with
    | nil => simp at h
    | cons y ys =>
      rw [List.map_cons, List.map_cons] at h
      injection h with h1 h2
      rw [nkS_inj h1, ih h2]
theorem nk_depth (k : Key) : (nk k).depth ≤ 8 := by
  unfold nk
  have : ∀ k : Key, NestedKey.depthAll (k.map nkS) ≤ 1 := fun k => by
    induction k with
    | nil => simp [NestedKey.depthAll]
    | cons x xs ih =>
      rw [List.map_cons]
      simp only [NestedKey.depthAll, NestedKey.depth, nkS]
      omega
  have := this k
  simp only [NestedKey.depth]
  omega
abbrev NE : Type := NestedKey × Addr × Value
/-- what holds of the object of such a dict -/
def NDc (P : Program) (w : World) (a : Addr) (o : Obj) (xs : List NE) : Prop := xs.length ≤ sizeLine ∧ (a == sysModules) = false ∧ o.ExactDict ∧ ∃ es ep, o.data = .dict es ep ∧ es.toList = xs.map (entryOfKey (nestedKind P w)) ∧ (xs.map (·.1)).Nodup
def NDo (P : Program) (w : World) (a : Addr) (o : Obj) (xs : List NE) : HO := .ext fun h => h.get? a = some o ∧ NDc P w a o xs
theorem ndo_nt {P : Program} {w : World} {a : Addr} {o : Obj} {xs : List NE} : NT (NDo P w a o xs) := fun ps z => by unfold NDo at z; cases z
/-- a heap of code objects alone -/
def codeHp (q : Str) : Nat → Heap
  | 0 => {}
  | n + 1 => (codeHp q n).push { cls := .none, data := .fields #[.none, .str q 0] }
theorem codeHp_size (q : Str) : ∀ n, (codeHp q n).objs.size = n
  | 0 => rfl
  | n + 1 => by
    show ((codeHp q n).push _).objs.size = n + 1
    rw [Heap.size_push, codeHp_size q n]
theorem codeHp_get (q : Str) : ∀ n a o, (codeHp q n).get? a = some o → o = { cls := .none, data := .fields #[.none, .str q 0] }
  | 0, a, o, h => by
    have := Heap.lt_size h
    rw [codeHp_size] at this
    exact absurd this (Nat.not_lt_zero _)
  | n + 1, a, o, h => by
    have h3 : ((codeHp q n).push { cls := .none, data := .fields #[.none, .str q 0] }).get? a = some o := h
    rcases Heap.get?_push_cases h3 with ⟨_, e⟩ | e
    · exact e
    · exact codeHp_get q n a o e
theorem ndo_loc {P : Program} {w : World} {a : Addr} {o : Obj} {xs : List NE} : LocO (NDo P w a o xs) := fun c q z => by
  unfold NDo LamX.CodeO at z
  injection z with z
  have h := congrFun z (codeHp q (c + 1))
  have hc : (codeHp q (c + 1)).get? c = some { cls := .none, data := .fields #[.none, .str q 0] } := by
    have h2 : ((codeHp q c).push { cls := .none, data := .fields #[.none, .str q 0] }).get? (codeHp q c).objs.size = some { cls := .none, data := .fields #[.none, .str q 0] } := Heap.get?_push_size _ rfl
    rw [codeHp_size] at h2
    exact h2
  have h2 : (codeHp q (c + 1)).get? a = some o ∧ NDc P w a o xs := by
    rw [h]
    exact ⟨_, _, _, hc, rfl, rfl⟩
  obtain ⟨e, _, _, _, es, ep, hd, _⟩ := h2
  rw [codeHp_get q _ _ _ e] at hd
  cases hd

/-- the entries, what they are -/
def NDx (K : PySem.W.Frag) (H : Hp) : List (Key × PyData) → List NE → Prop := Paired fun p q => q.1 = nk p.1 ∧ Dt K H (.ref q.2.1) (keyD p.1) ∧ ∃ v, RelV v q.2.2 ∧ Dt K H v p.2
section
variable {K : PySem.W.Frag} {H H' : Hp} {es : List (Key × PyData)} {xs : List NE}
theorem NDx.mono (m : SK K H H') (h : NDx K H es xs) : NDx K H' es xs := Paired.mapP h fun _ _ ⟨a, b, v, r, d⟩ => ⟨a, b.mono m, v, r, d.mono m⟩
theorem NDx.len (h : NDx K H es xs) : es.length = xs.length := Paired.length h
theorem NDx.keys (h : NDx K H es xs) : xs.map (·.1) = es.map fun p => nk p.1 := by
  unfold NDx at h
  induction h with
  | nil => rfl
  | cons r _ ih => rw [List.map_cons, List.map_cons, ih, r.1]
theorem NDx.get (h : NDx K H es xs) {i : Nat} {p : Key × PyData} (e : es[i]? = some p) : ∃ q, xs[i]? = some q ∧ q.1 = nk p.1 ∧ Dt K H (.ref q.2.1) (keyD p.1) ∧ ∃ v, RelV v q.2.2 ∧ Dt K H v p.2 := paired_get h e
theorem NDx.get' (h : NDx K H es xs) {i : Nat} {q : NE} (e : xs[i]? = some q) : ∃ p, es[i]? = some p ∧ q.1 = nk p.1 ∧ Dt K H (.ref q.2.1) (keyD p.1) ∧ ∃ v, RelV v q.2.2 ∧ Dt K H v p.2 := by
  unfold NDx at h
  induction h generalizing i with
  | nil => simp at e
  | @cons a b l1 l2 r t ih =>
    cases i with
    | zero =>
      simp only [List.getElem?_cons_zero, Option.some.injEq] at e
      subst e
      exact ⟨a, rfl, r⟩
    | succ j =>
      simp only [List.getElem?_cons_succ] at e ⊢
      exact ih e
theorem NDx.nodup (h : NDx K H es xs) (n : (xs.map (·.1)).Nodup) : (es.map (·.1)).Nodup := by
  rw [h.keys] at n
  have : es.map (fun p => nk p.1) = (es.map (·.1)).map nk := by rw [List.map_map]; rfl
  rw [this] at n
  exact List.Pairwise.of_map nk (fun a b h e => h (congrArg nk e)) n
end
def putE (es : List (Key × PyData)) (k : Key) (d : PyData) : List (Key × PyData) := if k ∈ es.map (·.1) then es.map (fun p => if p.1 = k then (p.1, d) else p) else es ++ [(k, d)]
theorem putE_mem {es : List (Key × PyData)} {k k' : Key} {d : PyData} : k' ∈ (putE es k d).map (·.1) ↔ k' ∈ es.map (·.1) ∨ k' = k := by
  unfold putE
  by_cases h : k ∈ es.map (·.1)
  · rw [if_pos h]
    have e : (es.map fun p => if p.1 = k then (p.1, d) else p).map (·.1) = es.map (·.1) := by
      rw [List.map_map]
      refine List.map_congr_left fun p _ => ?_
      show (if p.1 = k then (p.1, d) else p).1 = p.1
      split <;> rfl
    rw [e]
    constructor
    · exact .inl
    · rintro (z | z)
      · exact z
      · rw [z]; exact h
  · rw [if_neg h, List.map_append, List.mem_append]
    simp
theorem putE_new {es : List (Key × PyData)} {k : Key} {d : PyData} (h : k ∉ es.map (·.1)) : putE es k d = es ++ [(k, d)] := if_neg h
theorem putE_all {es : List (Key × PyData)} {k : Key} {d : PyData} {Pr : PyData → Prop} (h : ∀ p ∈ es, Pr p.2) (hd : Pr d) : ∀ p ∈ putE es k d, Pr p.2 := fun p hp => by
  unfold putE at hp
  split at hp
  · obtain ⟨q, hq, rfl⟩ := List.mem_map.mp hp
    split
    · exact hd
    · exact h q hq
  · rcases List.mem_append.mp hp with z | z
    · exact h p z
    · rw [List.mem_singleton.mp z]; exact hd
section
variable {K : PySem.W.Frag} {H H' : Hp} {es : List (Key × PyData)} {xs : List NE} {k : Key} {d : PyData} {b : Addr} {u : Value} {v : V}
theorem NDx.at_none (h : NDx K H es xs) (n : k ∉ es.map (·.1)) : atKey xs (nk k) = none := by
  refine atKey_none_of_get fun j p e => ?_
  obtain ⟨q, hq, e1, _⟩ := h.get' e
  exact n (List.mem_map.mpr ⟨q, List.mem_of_getElem? hq, (nk_inj e1).symm⟩)
theorem NDx.at_some (h : NDx K H es xs) (nd : (xs.map (·.1)).Nodup) {p : Key × PyData} (hp : p ∈ es) : ∃ c u v, atKey xs (nk p.1) = some (c, u) ∧ RelV v u ∧ Dt K H v p.2 := by
  obtain ⟨i, hi⟩ := List.mem_iff_getElem?.mp hp
  obtain ⟨q, hq, e1, e2, v, r, hd⟩ := h.get hi
  refine ⟨q.2.1, q.2.2, v, ?_, r, hd⟩
  rw [← e1]
  exact atKey_of_get nd hq
theorem NDx.put (h : NDx K H es xs) (hb : Dt K H (.ref b) (keyD k)) (r : RelV v u) (hd : Dt K H v d) : NDx K H (putE es k d) (storedH xs (nk k) b u) := by
  unfold putE storedH
  by_cases n : k ∈ es.map (·.1)
  · rw [if_pos n]
    have : (atKey xs (nk k)).isSome = true := by
      obtain ⟨p, hp, e⟩ := List.mem_map.mp n
      obtain ⟨i, hi⟩ := List.mem_iff_getElem?.mp hp
      obtain ⟨q, hq, e1, _⟩ := h.get hi
      unfold atKey
      rw [Option.isSome_map, List.find?_isSome]
      exact ⟨q, List.mem_of_getElem? hq, by rw [e1, e]; exact decide_eq_true rfl⟩
    rw [if_pos this]
    unfold NDx at h ⊢
    induction h with
    | nil => exact .nil
    | @cons p q ps qs hq t ih =>
      have rest : Paired (fun (p : Key × PyData) (q : NE) => q.1 = nk p.1 ∧ Dt K H (.ref q.2.1) (keyD p.1) ∧ ∃ v, RelV v q.2.2 ∧ Dt K H v p.2) (ps.map fun p => if p.1 = k then (p.1, d) else p) (qs.map (putAt (nk k) u)) := by
        clear ih n this
        induction t with
        | nil => exact .nil
        | @cons p q ps qs hq t ih =>
          rw [List.map_cons, List.map_cons]
          refine .cons ?_ ih
          unfold putAt
          by_cases e : p.1 = k
          · rw [if_pos e, if_pos (by rw [hq.1, e])]
            exact ⟨hq.1, hq.2.1, v, r, hd⟩
          · rw [if_neg e, if_neg (fun z => e (nk_inj (hq.1.symm.trans z)))]
            exact hq
      rw [List.map_cons, List.map_cons]
      refine .cons ?_ rest
      unfold putAt
      by_cases e : p.1 = k
      · rw [if_pos e, if_pos (by rw [hq.1, e])]
        exact ⟨hq.1, hq.2.1, v, r, hd⟩
      · rw [if_neg e, if_neg (fun z => e (nk_inj (hq.1.symm.trans z)))]
        exact hq
  · rw [if_neg n, h.at_none n, if_neg (by simp)]
    exact Paired.snoc h ⟨rfl, hb, v, r, hd⟩
end
/-- the dict at a holds es -/
def DN (K : PySem.W.Frag) (P : Program) (w : World) (H : Hp) (a : Addr) (es : List (Key × PyData)) : Prop := ∃ o xs, H a = some (NDo P w a o xs) ∧ NDx K H es xs

/-! ### against the heap -/
section
variable {X : Cx} {pins : List (Addr × Obj)} {σ : L2.St} {H : Hp} {s : Shared} {a b : Addr} {o : Obj} {xs : List NE} {es : List (Key × PyData)} {k : Key} {A : Around} {E : Value → Shared → Prop}
theorem pair_of (I : Inv X pins σ H s) {v : V} {u : Value} {sg : Int × Int} (r : RelV v u) (h : Dt X.K H v (sgD sg)) : NestedIs s.heap (nkS sg) u := by
  unfold sgD at h
  obtain ⟨c, ys, rfl, hq, hd⟩ := dt_tup h
  obtain rfl : u = .ref c := r
  obtain ⟨x, y, rfl, hx, hy⟩ := dts2 hd
  obtain rfl := dt_int hx
  obtain rfl := dt_int hy
  obtain ⟨its, rv, ⟨o, h1, h2, n, h3⟩, _⟩ := I.tuple hq
  cases rv with
  | cons r1 t =>
    cases t with
    | cons r2 t =>
      cases t
      obtain ⟨t1, rfl⟩ := r1
      obtain ⟨t2, rfl⟩ := r2
      exact .tup h1 h2 h3 (.cons (.int _ _) (.cons (.int _ _) .nil))
theorem key_of' (I : Inv X pins σ H s) (h : Dt X.K H (.ref b) (keyD k)) : NestedIs s.heap (nk k) (.ref b) := by
  unfold keyD at h
  obtain ⟨c, ys, e, hq, hd⟩ := dt_tup h
  cases e
  obtain ⟨its, rv, ⟨o, h1, h2, n, h3⟩, _⟩ := I.tuple hq
  refine .tup h1 h2 h3 ?_
  have : ∀ {k : Key} {ys : List V} {its : List Value}, Vals ys its → DtAll X.K H ys (k.map sgD) → NestedAll s.heap (k.map nkS) its := by
    intro k
    induction k with
    | nil =>
      intro ys its rv hd
      cases hd
      cases rv
      exact .nil
    | cons sg k ih =>
      intro ys its rv hd
      cases hd with
      | cons h t =>
        cases rv with
        | cons r rr => exact .cons (pair_of I r h) (ih rr t)
  exact this rv hd
theorem key_is (I : Inv X pins σ H s) (h : Dt X.K H (.ref b) (keyD k)) : (nestedKind X.prog X.w).is s.heap (nk k) b := ⟨key_of' I h, nk_depth k⟩
theorem nd_at (I : Inv X pins σ H s) (h : H a = some (NDo X.prog X.w a o xs)) : s.heap.get? a = some o ∧ NDc X.prog X.w a o xs := (show ObjOk X.prog X.w H s.heap a (NDo X.prog X.w a o xs) from I.hok a _ h).1
theorem nd_dict (I : Inv X pins σ H s) (h : H a = some (NDo X.prog X.w a o xs)) (nx : NDx X.K H es xs) : s.heap.DictOfH (nestedKind X.prog X.w) a xs := by
  obtain ⟨e, _, _, hx, ar, ep, hd, he, hn⟩ := nd_at I h
  refine ⟨o, ar, ep, e, hx, hd, he, fun x hx => ?_, hn⟩
  obtain ⟨i, hi⟩ := List.mem_iff_getElem?.mp hx
  obtain ⟨p, _, e1, e2, _⟩ := nx.get' hi
  rw [e1]
  exact key_is I e2
theorem nd_room (hu : A.units + 9 < cLine) : (nestedKind X.prog X.w).room A.in1 := by show A.units + 1 + 8 < cLine; omega
theorem nd_room0 (hu : A.units + 9 < cLine) : (nestedKind X.prog X.w).room A := by show A.units + 8 < cLine; omega
theorem nd_obj {P : Program} {w : World} {H' : Hp} {h' : Heap} (e : h'.get? a = some o) (c : NDc P w a o xs) : ObjOk P w H' h' a (NDo P w a o xs) := ⟨⟨e, c⟩, ⟨o, e⟩, fun _ _ p k => ⟨k _ p.1, p.2⟩⟩
theorem nd_wrote {h' : Heap} {t' : Nat} {xs' : List NE} (I : Inv X pins σ H s) (h : H a = some (NDo X.prog X.w a o xs)) (hz : xs'.length ≤ sizeLine) (dd : h'.DictOfH (nestedKind X.prog X.w) a xs') (hs : Heap.SameBut a s.heap h') :
    ∃ o', Inv X pins σ (upd H a (NDo X.prog X.w a o' xs')) { s with heap := h', toks := t' } := by
  obtain ⟨_, _, hsys, _⟩ := nd_at I h
  obtain ⟨o', ar, ep, e, hx, hd, he, _, hn⟩ := dd
  exact ⟨o', d_write I (by rw [h]; exact True.intro) hs ⟨o', e⟩ (nd_obj e ⟨hz, hsys, hx, ar, ep, hd, he, hn⟩)⟩
theorem stored_len (xs : List NE) (k : NestedKey) (b : Addr) (u : Value) : (storedH xs k b u).length ≤ xs.length + 1 := by
  unfold storedH
  split <;> simp
theorem nd_set {u : Value} {Q : Unit → Shared → Prop} (hu : A.units + 9 < cLine) (I : Inv X pins σ H s) (h : H a = some (NDo X.prog X.w a o xs)) (nx : NDx X.K H es xs) (hz : xs.length < sizeLine) (hb : Dt X.K H (.ref b) (keyD k))
    (q : ∀ o' s', Inv X pins σ (upd H a (NDo X.prog X.w a o' (storedH xs (nk k) b u))) s' → Q () s') : wpAny (model X.prog X.w) A (setItem (.ref a) (.ref b) u) Q E s := by
  refine wpAny_setItem_heap (hsz := by omega) (nd_room hu) (key_is I hb) (nd_dict I h nx) fun h' dd hs => ?_
  obtain ⟨o', I'⟩ := nd_wrote (t' := s.toks + (nestedKind X.prog X.w).draws (nk k)) I h (Nat.le_trans (stored_len _ _ _ _) hz) dd hs
  exact q o' _ I'
theorem nd_dset {u : Value} {Q : Unit → Shared → Prop} (hu : A.units + 9 < cLine) (I : Inv X pins σ H s) (h : H a = some (NDo X.prog X.w a o xs)) (nx : NDx X.K H es xs) (hz : xs.length < sizeLine) (hb : Dt X.K H (.ref b) (keyD k))
    (q : ∀ o' s', Inv X pins σ (upd H a (NDo X.prog X.w a o' (storedH xs (nk k) b u))) s' → Q () s') : wpAny (model X.prog X.w) A (dictSet a (.ref b) u) Q E s := by
  refine wpAny_dictSet_heap (hsz := by omega) (nd_room0 hu) (key_is I hb) (nd_dict I h nx) fun h' dd hs => ?_
  obtain ⟨o', I'⟩ := nd_wrote (t' := s.toks + (nestedKind X.prog X.w).draws (nk k)) I h (Nat.le_trans (stored_len _ _ _ _) hz) dd hs
  exact q o' _ I'
theorem nd_get {Q : Value → Shared → Prop} {p : Key × PyData} (hu : A.units + 9 < cLine) (I : Inv X pins σ H s) (h : H a = some (NDo X.prog X.w a o xs)) (nx : NDx X.K H es xs) (hb : Dt X.K H (.ref b) (keyD p.1)) (hp : p ∈ es)
    (q : ∀ v u s', RelV v u → Dt X.K H v p.2 → Inv X pins σ H s' → Q u s') : wpAny (model X.prog X.w) A (getItem (.ref a) (.ref b)) Q E s := by
  obtain ⟨_, _, _, _, _, _, _, _, hn⟩ := nd_at I h
  obtain ⟨c, u, v, e, r, hd⟩ := nx.at_some hn hp
  exact wpAny_getItem_heap (nd_room hu) (key_is I hb) (nd_dict I h nx) e (q v u _ r hd (I.tok _))
theorem nd_len {Q : Value → Shared → Prop} (I : Inv X pins σ H s) (h : H a = some (NDo X.prog X.w a o xs)) (nx : NDx X.K H es xs) (q : ∀ t s', Inv X pins σ H s' → Q (.int es.length t) s') : wpAny (model X.prog X.w) A (call (.builtin "len") [.ref a]) Q E s := by
  obtain ⟨_, hz, hsys, _⟩ := nd_at I h
  refine call_len_dictH hsys (nd_dict I h nx) (by rw [sizeLine_eq] at hz; omega) ?_
  rw [← nx.len]
  exact q _ _ (I.tok _)
end
end Kt
end
section
set_option maxHeartbeats 4000000
/-! Kt: those dicts in expressions, statements, loops. -/
namespace Kt
open PySem PySem.Spec PyProof.Rows L2
section
variable {X : Cx} {pos : Pos}
/-- {} -/
def tNewN (P : Program) (w : World) : TE := fun _ H Q => ∀ p o, H p = none → Q (.ref p) (upd H p (NDo P w p o []))
theorem nd_empty {P : Program} {w : World} {H : Hp} (h : Heap) (hb : sysModules < h.objs.size) : ObjOk P w H (h.push { cls := .type "dict", data := .dict #[] }) h.objs.size (NDo P w h.objs.size { cls := .type "dict", data := .dict #[] } []) :=
  nd_obj (Heap.get?_push_size _ rfl) ⟨Nat.zero_le _, beq_eq_false_iff_ne.mpr (Ne.symm (Nat.ne_of_lt hb)), ⟨rfl, rfl, rfl⟩, #[], 0, rfl, rfl, List.nodup_nil⟩
theorem pe_newN : PE X (.Dict [] [] pos) (tNewN X.prog X.w) := ⟨fun pins s σ H Q I h =>
  wpAny_Dict_empty ⟨.ref s.heap.objs.size, _, I.laid (a := s.heap.objs.size) (o := NDo X.prog X.w s.heap.objs.size _ []) (t' := s.toks) (fun _ _ q => Heap.get?_push_of_some _ q) (Nat.le_refl _) (nd_empty s.heap I.big), rfl, h _ _ (I.hok.fresh (Nat.le_refl _))⟩⟩
/-- {k: v} -/
def tOneN (K : PySem.W.Frag) (P : Program) (w : World) (tk tv : TE) : TE := fun σ H Q => ∀ p o0, H p = none → tk σ (upd H p (NDo P w p o0 [])) fun x H1 => tv σ H1 fun y H2 => H2 p = some (NDo P w p o0 []) ∧ ∃ b k, x = .ref b ∧ Dt K H2 (.ref b) (keyD k) ∧
  ∀ u o, RelV y u → Q (.ref p) (upd H2 p (NDo P w p o [(nk k, b, u)]))
theorem pe_oneN {ke ve : Expr} {tk tv : TE} (hu : X.A.units + 9 < cLine) (hk : PE X ke tk) (hv : PE X ve tv) : PE X (.Dict [some ke] [ve] pos) (tOneN X.K X.prog X.w tk tv) := by
  refine ⟨fun pins s σ H Q I q => ?_⟩
  have hn := I.hok.fresh (Nat.le_refl s.heap.objs.size)
  have I1 := I.laid (a := s.heap.objs.size) (o := NDo X.prog X.w s.heap.objs.size { cls := .type "dict", data := .dict #[] } []) (h' := s.heap.push { cls := .type "dict", data := .dict #[] }) (t' := s.toks) (fun _ _ q => Heap.get?_push_of_some _ q) (Nat.le_refl _) (nd_empty s.heap I.big)
  rw [arm_eval_Dict, zip_pairTrees [some ke] [ve] X.env pos rfl rfl, dictDisplay_pairs (pairTrees [some ke] [ve] X.env pos) (by intro z; cases z) (by show 1 < 17; decide)]
  refine wpAny_bind (wpAny_standAt (wpAny_bind (wpAny_subDictH (knd := nestedKind X.prog X.w) (Q := fun d s' => wpAny (model X.prog X.w) X.A (pure (Value.ref d)) (EP X pins σ Q) X.xe s') (nd_room0 hu) (by show 1 ≤ 15; decide) ?_)))
  refine pairTrees_cons_walk (thn (hk.run pins _ σ _ _ I1 (q _ _ hn)) fun u s1 ⟨x, H1, I1', rx, q1⟩ => thn (hv.run pins s1 σ H1 _ I1' q1) fun uv s2 ⟨y, H2, I2, ry, e, b, k, ex, hd, q2⟩ => pairTrees_nil_walk ?_)
  subst ex
  obtain rfl : u = .ref b := rx
  refine ⟨[(nk k, b, uv)], ⟨rfl, rfl, key_is I2 hd, trivial⟩, nd_dict I2 e .nil, fun h' tk' dd hs => wpAny_pure ?_⟩
  have dd' : h'.DictOfH (nestedKind X.prog X.w) s.heap.objs.size [(nk k, b, uv)] := dd
  obtain ⟨o', I'⟩ := nd_wrote (t' := tk') I2 e (by show 1 ≤ sizeLine; decide) dd' hs
  exact ⟨.ref s.heap.objs.size, _, I', rfl, q2 uv o' ry⟩
/-- d[k] -/
def tGetN (K : PySem.W.Frag) (P : Program) (w : World) (td tk : TE) : TE := fun σ H Q => td σ H fun x H1 => tk σ H1 fun y H2 => ∃ a b o xs es p, x = .ref a ∧ y = .ref b ∧ H2 a = some (NDo P w a o xs) ∧ NDx K H2 es xs ∧ p ∈ es ∧ Dt K H2 (.ref b) (keyD p.1) ∧ ∀ v, Dt K H2 v p.2 → Q v H2
theorem pe_getN {oe ie : Expr} {td tk : TE} (hu : X.A.units + 10 < cLine) (ho : PE X oe td) (hi : PE X ie tk) (hs : NoSl ie := by intro _ _; rfl) : PE X (.Subscript oe ie pos) (tGetN X.K X.prog X.w td tk) := by
  refine ⟨fun pins s σ H Q I h => ?_⟩
  refine subD_of PySem.F.slot_dict_getitem.lookup hs (thn (ho.run pins s σ H _ I h) fun u s1 ⟨x, H1, I1, rx, q1⟩ => thn (hi.run pins s1 σ H1 _ I1 q1) fun iv s2 ⟨y, H2, I2, ry, a, b, o, xs, es, p, ex, ey, e, nx, hp, hb, q2⟩ => ?_)
  subst ex
  subst ey
  obtain rfl : u = Value.ref a := rx
  obtain rfl : iv = Value.ref b := ry
  exact ⟨(nd_dict I2 e nx).typeIs, nd_get (by omega) I2 e nx hb hp fun v u s3 r hd I3 => ⟨v, H2, I3, r, q2 v hd⟩⟩
/-- d[k] = v -/
def tSetN (K : PySem.W.Frag) (P : Program) (w : World) : TSet := fun x i v H Q => ∃ a b k o xs es, x = .ref a ∧ i = .ref b ∧ H a = some (NDo P w a o xs) ∧ NDx K H es xs ∧ xs.length < sizeLine ∧ Dt K H (.ref b) (keyD k) ∧ ∀ u o', RelV v u → Q (upd H a (NDo P w a o' (storedH xs (nk k) b u)))
theorem pset_nd (hu : X.A.units + 10 < cLine) : PSet X (tSetN X.K X.prog X.w) := by
  intro pins s σ H x i v ov iv u Q I rx ri rv h
  obtain ⟨a, b, k, o, xs, es, rfl, rfl, e, nx, hz, hb, q⟩ := h
  obtain rfl : ov = Value.ref a := rx
  obtain rfl : iv = Value.ref b := ri
  exact nd_set (by omega) I e nx hz hb fun o' s' I' => ⟨_, I', q u o' rv⟩
/-- len(d) -/
theorem call_len_nd : CallR X (.builtin "len") (fun vs H Q => ∃ a o xs es, vs = [.ref a] ∧ H a = some (NDo X.prog X.w a o xs) ∧ NDx X.K H es xs ∧ Q (.int (es.length : Int)) H) := by
  intro pins s σ H vs us Q I r h
  obtain ⟨a, o, xs, es, rfl, e, nx, q⟩ := h
  obtain ⟨u, rfl, rx⟩ := vals1 r
  obtain rfl : u = .ref a := rx
  exact nd_len I e nx fun t s' I' => ⟨.int (es.length : Int), H, I', ⟨_, rfl⟩, q⟩
end
/-! ### its keys -/
def Itn (P : Program) (w : World) (d : Addr) (o : Obj) (xs : List NE) : It :=
  ⟨fun i H => H d = some (NDo P w d o xs) ∧ i < xs.length, fun i H x H' => H' = H ∧ ∃ q, xs[i]? = some q ∧ x = .ref q.2.1, fun i H => H d = some (NDo P w d o xs) ∧ xs.length ≤ i⟩
section
variable {P : Program} {w : World} {K : PySem.W.Frag} {tg : Expr} {d : Addr} {o : Obj} {es : Array DictEntry} {ep : Nat} {xs : List NE}
theorem turn_nd (it : Addr) (hod : o.data = .dict es ep) : Turn P w K tg (Itn P w d o xs) [it] it (fun i h => h.IsKeyIter it d i xs.length ep) where
  mem := by simp
  obj := fun i h st b hb => by
    have e : b = it := by simpa using hb
    subst e
    obtain ⟨oi, e, c, dd⟩ := st
    exact ⟨oi, e, fun v z => by rw [dd] at z; cases z⟩
  keep := fun i h h' st k => st.at fun oi e => k it (by simp) oi e
  item := by
    intro X hP hw hK hc i pins s σ H E I hf st hg
    subst hP hw hK
    obtain ⟨hd, hi⟩ := hg
    obtain ⟨f0, f1, f2, f3, f4, f5⟩ := hf it (by simp)
    obtain ⟨hgd, _, hs, hx, es', ep', hdt, he, _⟩ := nd_at I hd
    obtain ⟨rfl, rfl⟩ := dict_ep hod hdt
    have hen : es'[i]? = some (entryOfKey (nestedKind X.prog X.w) xs[i]) := by rw [entry_at he i, List.getElem?_eq_getElem hi]; rfl
    refine next_key_item st hgd hdt (size_of_entries he) hen fun h' st' sb => ?_
    have I1 : Inv X pins σ H { s with heap := h' } := I.turned (t' := s.toks) (fun b ob hb e => (sb.2 b hb).trans e) f0 f1 f3 f4 f5
    obtain ⟨oi, e, c, dd⟩ := id st'
    exact ⟨_, rfl, go_of (s := { s with heap := h' }) e c dd (by decide) ⟨.ref xs[i].2.1, H, I1, rfl, ⟨rfl, xs[i], List.getElem?_eq_getElem hi, rfl⟩, st', fun b hb => (hf b hb).1⟩⟩
  done := by
    intro X hP hw hK hc i pins s σ H E I hf st hg
    subst hP hw hK
    obtain ⟨hd, hi⟩ := hg
    obtain ⟨f0, f1, f2, f3, f4, f5⟩ := hf it (by simp)
    obtain ⟨hgd, _, hs, hx, es', ep', hdt, he, _⟩ := nd_at I hd
    obtain ⟨rfl, rfl⟩ := dict_ep hod hdt
    exact next_key_end (I.ok.hd hc) st hgd hdt (size_of_entries he) hi fun h' eb => ⟨rfl, I.turned (t' := s.toks) (fun b ob hb e => eb b ob hb e) f0 f1 f3 f4 f5⟩
  self := fun A i s Q E st h => wpAny_pyIter_keyiter st h
end
def iKeysN (P : Program) (w : World) (td : TE) : TI := fun σ H R => td σ H fun x H1 => ∃ d o xs, x = .ref d ∧ H1 d = some (NDo P w d o xs) ∧ R (Itn P w d o xs) H1
section
variable {X : Cx} {tg e : Expr} {td : TE}
theorem pi_nd (he : PE X e td) : PI X tg e (iKeysN X.prog X.w td) := by
  refine ⟨fun pins s σ H R I h => ?_⟩
  refine thn (he.run pins s σ H _ I h) fun u s1 ⟨x, H1, I1, rx, d, o, xs, ex, hd, q⟩ => ?_
  subst ex
  obtain rfl : u = Value.ref d := rx
  obtain ⟨hgd, _, hs, hx, es, ep, hdt, hee, _⟩ := nd_at I1 hd
  refine iter_keys hs hgd hx hdt (pi_one (tk := s1.toks) I1 _ (turn_nd _ hdt) ⟨_, Heap.get?_push_size _ rfl, rfl, ?_⟩ q)
  rw [size_of_entries hee] <;> rfl
end
section
variable {P : Program} {w : World} {d : Addr} {o : Obj} {xs : List NE} {g : TG} {tb : TS} {D : Ends} {σ : L2.St} {H : Hp}
theorem for_nd (Pv : Nat → L2.St → Hp → Prop) (h0 : Pv 0 σ H) (hq : ∀ i σ H, Pv i σ H → H d = some (NDo P w d o xs))
    (hs : ∀ (i : Nat) (q : NE) (σ : L2.St) (H : Hp), xs[i]? = some q → Pv i σ H → g (.ref q.2.1) σ H fun σ2 H2 => tb { D with nx := Pv (i + 1), ct := Pv (i + 1), bk := D.nx } σ2 H2) (hd : ∀ σ H, Pv xs.length σ H → D.nx σ H) :
    ∃ W : Nat → Nat → L2.St → Hp → Prop, (∃ m, W 0 m σ H) ∧ ∀ i m σ H, W i m σ H →
      ((Itn P w d o xs).stop i H ∧ D.nx σ H) ∨ ((Itn P w d o xs).go i H ∧ ∃ N : L2.St → Hp → Prop, (∀ σ' H', N σ' H' → ∃ m', m' < m ∧ W (i + 1) m' σ' H') ∧ ∀ v H', (Itn P w d o xs).yld i H v H' → g v σ H' fun σ2 H2 => tb { D with nx := N, ct := N, bk := D.nx } σ2 H2) := by
  refine ⟨fun i m σ H => m = xs.length - i ∧ i ≤ xs.length ∧ Pv i σ H, ⟨xs.length, rfl, Nat.zero_le _, h0⟩, ?_⟩
  rintro i m σ H ⟨rfl, hi, p⟩
  by_cases hlt : i < xs.length
  · refine .inr ⟨⟨hq i σ H p, hlt⟩, Pv (i + 1), fun σ' H' p' => ⟨xs.length - (i + 1), by omega, rfl, hlt, p'⟩, fun v H' y => ?_⟩
    obtain ⟨e, q, hqi, rfl⟩ := y
    subst e
    exact hs i q σ _ hqi p
  · have e : i = xs.length := by omega
    subst e
    exact .inl ⟨⟨hq _ σ H p, Nat.le_refl _⟩, hd σ H p⟩
end
end Kt
end
section
set_option maxHeartbeats 4000000
/-! Kt: comprehensions that make those dicts. -/
namespace Kt
open PySem PySem.Spec PyProof.Rows L2
section
variable {X : Cx}
/-- {k: v for target in iter}; D the new dict -/
def tDcN (K : PySem.W.Frag) (P : Program) (w : World) (wi : TI) (g : TG) (tk tv : TE) (vs : List Nat) : TE := fun σ H Q => wi σ H fun J H1 => ∀ D o0, H1 D = none → ∃ W : Nat → Nat → Hp → Prop, (∃ m, W 0 m (upd H1 D (NDo P w D o0 []))) ∧ ∀ i m H, W i m H →
  (J.stop i H ∧ Q (.ref D) H) ∨ (J.go i H ∧ ∃ Nx : Hp → Prop, (∀ H', Nx H' → ∃ m', m' < m ∧ W (i + 1) m' H') ∧ ∀ x H', J.yld i H x H' → g x (wipe σ vs) H' fun σ2 H2 => wipe σ2 vs = wipe σ vs ∧
    tk σ2 H2 fun y H4 => tv σ2 H4 fun z H5 => ∃ b k o xs es, y = .ref b ∧ H5 D = some (NDo P w D o xs) ∧ NDx K H5 es xs ∧ xs.length < sizeLine ∧ Dt K H5 (.ref b) (keyD k) ∧ ∀ u o', RelV z u → Nx (upd H5 D (NDo P w D o' (storedH xs (nk k) b u))))
theorem pe_dcN {kx vx tg iter : Expr} {scope : Scope} {own : List (Str × Nat)} {pos : Pos} {wi : TI} {g : TG} {tk tv : TE} (hu : X.A.units + 10 < cLine) (hc : X.calm = true) (hN : X.N.Nodup) (hi : PI X tg iter wi) (ok : BlkOk X.N X.env.scope scope own)
    (hg : ∀ (s : Shared) (H : Hp) (C : Addr) (cl : List (Str × Addr)) (fp : List Addr), PG (X.blk s H scope (compEnvC scope cl C X.env) fp) tg g)
    (hk : ∀ (s : Shared) (H : Hp) (C : Addr) (cl : List (Str × Addr)) (fp : List Addr), PE (X.blk s H scope (compEnvC scope cl C X.env) fp) kx tk)
    (he : ∀ (s : Shared) (H : Hp) (C : Addr) (cl : List (Str × Addr)) (fp : List Addr), PE (X.blk s H scope (compEnvC scope cl C X.env) fp) vx tv) (hs : ∀ x, foldedSetIterable iter X.env x = pure x := by intro _; rfl) :
    PE X (.DictComp kx vx [⟨tg, iter, [], 0⟩] scope pos) (tDcN X.K X.prog X.w wi g tk tv (own.map (·.2))) := by
  refine ⟨fun pins s σ H Q I h => ?_⟩
  rw [arm_eval_DictComp]
  have hfree : ∀ y ∈ scope.names, y.2 = .free → ∃ c, X.env.cells.lookup y.1 = some c := fun y hy e => by
    rcases ok.free y hy e with k | k
    · exact I.ok.has _ (.inl k)
    · exact I.ok.has _ (.inr k)
  refine wpAny_comprehension_free (use := none) rfl hs (closure_ok hfree) ok.kind (fun y hy e => by rw [ok.uniq y hy, e]) (thn (hi.run pins s σ H _ I h) fun xv s1 hx => thn hx fun itv s2 h2 => ?_)
  obtain ⟨it, fp, tn, J, H2, e, I2, T, st2, f2, q⟩ := h2
  subst e
  refine wpAny_newObj_type (newEnv_comp ?_)
  generalize hD : s2.heap.objs.size = D
  have hDn : H2 D = none := I2.hok.fresh (Nat.le_of_eq hD)
  obtain ⟨W, ⟨m0, w0⟩, turn⟩ := q D { cls := .type "dict", data := .dict #[] } hDn
  generalize hs3 : ({ s2 with heap := s2.heap.push { cls := .type "dict", data := .dict #[] } } : Shared) = s3
  have I3 : Inv X pins σ (upd H2 D (NDo X.prog X.w D { cls := .type "dict", data := .dict #[] } [])) s3 := by
    rw [← hs3]
    refine I2.laid (t' := s2.toks) (fun b o e => Heap.get?_push_of_some _ e) (Nat.le_of_eq hD) ?_
    rw [← hD]
    exact nd_empty s2.heap I2.big
  have h3 : s3.heap = s2.heap.push { cls := .type "dict", data := .dict #[] } := by rw [← hs3]
  have sz : ∀ b ∈ fp, b < s2.heap.objs.size := fun b hb => by
    obtain ⟨o, e, _⟩ := T.obj _ _ st2 b hb
    exact Heap.lt_size e
  generalize hH3 : upd H2 D (NDo X.prog X.w D { cls := .type "dict", data := .dict #[] } []) = H3 at I3 w0
  have f3 : ∀ b ∈ fp, FpOk X pins H3 b ∧ b < s3.heap.objs.size := fun b hb => by
    have hlt := sz b hb
    refine ⟨⟨?_, (f2 b hb).2⟩, by rw [h3, Heap.size_push]; exact Nat.lt_succ_of_lt hlt⟩
    rw [← hH3, upd_ne (by rw [← hD]; exact Nat.ne_of_lt hlt)]
    exact (f2 b hb).1
  have st3 : tn 0 s3.heap := T.keep _ _ _ st2 fun b _ o e => by rw [h3]; exact Heap.get?_push_of_some _ e
  have I4 := block_start I3 ok hN f3
  have pg := hg s3 H3 s3.heap.objs.size (cellsFrom (s3.heap.objs.size + 1) scope.names (cloFrom X.env.cells scope.names [])) fp
  have pk := hk s3 H3 s3.heap.objs.size (cellsFrom (s3.heap.objs.size + 1) scope.names (cloFrom X.env.cells scope.names [])) fp
  have pe := he s3 H3 s3.heap.objs.size (cellsFrom (s3.heap.objs.size + 1) scope.names (cloFrom X.env.cells scope.names [])) fp
  show codeAny _ _ (.compStart (.DictComp kx vx [⟨tg, iter, [], 0⟩] scope pos) 0 (.ref it) (.ref D) (compEnvC scope (cellsFrom (s3.heap.objs.size + 1) scope.names (cloFrom X.env.cells scope.names [])) s3.heap.objs.size X.env)) (compPost (model X.prog X.w) X.A X.xe none _ (.ref D) s3.heap.objs.size) { s3 with heap := pushCells (s3.heap.push { cls := .type "dict", data := .dict #[] }) scope.names }
  have nfp : ∀ b ∈ fp, H3 b = none := fun b hb => (f3 b hb).1.1
  generalize hce : compEnvC scope (cellsFrom (s3.heap.objs.size + 1) scope.names (cloFrom X.env.cells scope.names [])) s3.heap.objs.size X.env = ce at I4 pg pk pe ⊢
  have cL : ce.locals = s3.heap.objs.size := by subst hce; rfl
  generalize hs4 : ({ s3 with heap := pushCells (s3.heap.push { cls := .type "dict", data := .dict #[] }) scope.names } : Shared) = s4 at I4 ⊢
  have st4 : tn 0 s4.heap := T.keep _ _ _ st3 fun b _ o e => by rw [← hs4]; exact pushCells_keeps _ _ _ _ (Heap.get?_push_of_some _ e)
  have stat : ∀ {σ' : L2.St} {H' : Hp} {s' : Shared}, Inv (X.blk s3 H3 scope ce fp) [] σ' H' s' → (∀ b ∈ fp, H' b = none) → ∀ b ∈ fp, FpOk (X.blk s3 H3 scope ce fp) [] H' b := fun {σ' H' s'} I' hn b hb =>
    ⟨hn b hb, (I'.ok.exf b hb).1, I'.ok.exfs b hb, .inl hb, fun x c e => (I'.ok.exf b hb).2 x c e, fun p hp => absurd (show p ∈ ([] : List (Addr × Obj)) ++ [] from hp) (by simp)⟩
  have loop : codeAny (model X.prog X.w) X.A (.compLoop (.DictComp kx vx [⟨tg, iter, [], 0⟩] scope pos) 0 (.ref it) (.ref D) ce) (compPost (model X.prog X.w) X.A X.xe none (EP X pins σ Q) (.ref D) s3.heap.objs.size) s4 := by
    refine compLoop_anyD (fun n s' => ∃ i H', Inv (X.blk s3 H3 scope ce fp) [] (wipe σ (own.map (·.2))) H' s' ∧ tn i s'.heap ∧ (∀ b ∈ fp, H' b = none) ∧ W i n H') ?_ m0 ⟨0, H3, I4, st4, nfp, w0⟩
    rintro n s5 ⟨i, H5, I5, st5, n5, w5⟩
    rcases turn i n H5 w5 with ⟨stop, qq⟩ | ⟨go, Nx, hNx, step⟩
    · refine thnF (T.done (X.blk s3 H3 scope ce fp) rfl rfl rfl hc i [] s5 _ H5 (fun _ _ => False) I5 (stat I5 n5) st5 stop) fun r s6 ⟨hr, I6⟩ => ?_
      subst hr
      have I7 : Inv X pins σ H5 s6 := I3.call' (ch := fp) I6.os I6.base I6.hok I6.bare fun b hb => ⟨(f3 b hb).1.2.2.2.1, (f3 b hb).1.2.1, (f3 b hb).1.2.2.2.2.1, (f3 b hb).1.2.2.2.2.2⟩
      have nC : H5 s3.heap.objs.size = none := by
        have z : H5 ce.locals = none := I6.free
        rw [cL] at z
        exact z
      obtain ⟨m, hn, _⟩ := I6.loc
      have hn : s6.heap.Ns ce.locals m := hn
      rw [cL] at hn
      refine ⟨m, hn, fun h'' sb => ?_⟩
      obtain ⟨f0, f1, f2, f3, f4, f5⟩ := I3.fpOk (Nat.le_refl _) nC
      exact ⟨.ref D, H5, I7.turned (t' := s6.toks) (fun b o hb e => (sb.2 b hb).trans e) f0 f1 f3 f4 f5, rfl, qq⟩
    · refine thnF (T.item (X.blk s3 H3 scope ce fp) rfl rfl rfl hc i [] s5 _ H5 (fun _ _ => False) I5 (stat I5 n5) st5 go) fun r s6 ⟨u, hr, h6⟩ => ?_
      subst hr
      refine thnF h6 fun _ s7 ⟨x, H7, I7, r7, y7, st7, n7⟩ => ?_
      have I7' := I7.pinned (stat I7 n7) (T.obj _ _ st7)
      refine thnF (pg.run _ s7 _ H7 x u _ I7' r7 (step x H7 y7)) fun _ s8 ⟨σ8, H8, I8, hw8, q8⟩ => ?_
      show wpAny _ _ (forIn ([] : List Expr) true _) _ _ s8
      rw [List.forIn_nil]
      refine wpAny_pure ?_
      simp only [if_true]
      have fin : ∀ {s' : Shared} {H' : Hp}, Inv (X.blk s3 H3 scope ce fp) ([] ++ pinsAt fp s7.heap) σ8 H' s' → Nx H' → ∃ m, m < n ∧ ∃ i H', Inv (X.blk s3 H3 scope ce fp) [] (wipe σ (own.map (·.2))) H' s' ∧ tn i s'.heap ∧ (∀ b ∈ fp, H' b = none) ∧ W i m H' := fun {s' H'} I' nx => by
        obtain ⟨m', hm, w'⟩ := hNx H' nx
        have pin' : ∀ b ∈ fp, ∀ o, s7.heap.get? b = some o → s'.heap.get? b = some o ∧ H' b = none := fun b hb o e =>
          let z := I'.pin (b, o) (List.mem_append_right _ (List.mem_append_right _ (mem_pinsAt hb e)))
          ⟨z.1, z.2.1⟩
        have hl : (wipe σ (own.map (·.2))).length = σ8.length := by rw [← hw8, wipe_length]
        refine ⟨m', hm, i + 1, H', (I'.unpinned (pins := [])).weak hl (fun j v e => ?_), T.keep _ _ _ st7 fun b hb o e => (pin' b hb o e).1, fun b hb => ?_, w'⟩
        · rw [← hw8] at e
          exact (wipe_some e).1
        · obtain ⟨o, e, _⟩ := T.obj _ _ st7 b hb
          exact (pin' b hb o e).2
      refine thnF (pk.run _ s8 σ8 H8 _ I8 q8) fun z s10 ⟨yk, H10, I10, r10, q10⟩ => ?_
      refine thnF (pe.run _ s10 σ8 H10 _ I10 q10) fun z2 s11 ⟨yv, H11, I11, r11, b, k, o, xs, es, eb, hD11, nx11, hz11, hb11, nx⟩ => ?_
      subst eb
      obtain rfl : z = .ref b := r10
      exact nd_dset (X := X.blk s3 H3 scope ce fp) (by show X.A.units + 9 < cLine; omega) I11 hD11 nx11 hz11 hb11 fun o' s12 I12 => fin I12 (nx z2 o' r11)
  exact codeAny_compStart_dict loop (T.self X.A 0 _ _ _ st4 loop)
end
section
variable {P : Program} {w : World} {K : PySem.W.Frag} {d : Addr} {o : Obj} {xs : List NE} {g : TG} {tk tv : TE} {vs : List Nat} {σ : L2.St} {H1 : Hp} {D : Addr} {o0 : Obj} {Qd : Hp → Prop}
/-- over such a dict's keys -/
theorem dcn_nd (Pv : Nat → Hp → Prop) (h0 : Pv 0 (upd H1 D (NDo P w D o0 []))) (hl : ∀ i H, Pv i H → H d = some (NDo P w d o xs))
    (hs : ∀ i q H, xs[i]? = some q → Pv i H → g (.ref q.2.1) (wipe σ vs) H fun σ2 H2 => wipe σ2 vs = wipe σ vs ∧
      tk σ2 H2 fun y H4 => tv σ2 H4 fun z H5 => ∃ b k o' ys es, y = .ref b ∧ H5 D = some (NDo P w D o' ys) ∧ NDx K H5 es ys ∧ ys.length < sizeLine ∧ Dt K H5 (.ref b) (keyD k) ∧ ∀ u o', RelV z u → Pv (i + 1) (upd H5 D (NDo P w D o' (storedH ys (nk k) b u)))) (hd : ∀ H, Pv xs.length H → Qd H) :
    ∃ W : Nat → Nat → Hp → Prop, (∃ m, W 0 m (upd H1 D (NDo P w D o0 []))) ∧ ∀ i m H, W i m H →
      ((Itn P w d o xs).stop i H ∧ Qd H) ∨ ((Itn P w d o xs).go i H ∧ ∃ Nx : Hp → Prop, (∀ H', Nx H' → ∃ m', m' < m ∧ W (i + 1) m' H') ∧ ∀ x H', (Itn P w d o xs).yld i H x H' → g x (wipe σ vs) H' fun σ2 H2 => wipe σ2 vs = wipe σ vs ∧
        tk σ2 H2 fun y H4 => tv σ2 H4 fun z H5 => ∃ b k o' ys es, y = .ref b ∧ H5 D = some (NDo P w D o' ys) ∧ NDx K H5 es ys ∧ ys.length < sizeLine ∧ Dt K H5 (.ref b) (keyD k) ∧ ∀ u o', RelV z u → Nx (upd H5 D (NDo P w D o' (storedH ys (nk k) b u)))) := by
  refine ⟨fun i m H => m = xs.length - i ∧ i ≤ xs.length ∧ Pv i H, ⟨xs.length, by simp, Nat.zero_le _, h0⟩, ?_⟩
  rintro i m H ⟨rfl, hi, p⟩
  by_cases hlt : i < xs.length
  · refine .inr ⟨⟨hl i H p, hlt⟩, Pv (i + 1), fun H' p' => ⟨xs.length - (i + 1), by omega, rfl, hlt, p'⟩, fun x H' y => ?_⟩
    obtain ⟨e, q, hqi, rfl⟩ := y
    subst e
    exact hs i q _ hqi p
  · have e : i = xs.length := by omega
    subst e
    exact .inl ⟨⟨hl _ H p, Nat.le_refl _⟩, hd H p⟩
end
end Kt
end
section
set_option maxHeartbeats 4000000
/-! Kt: instances; lists cut backwards; dicts among the walker's words. -/
namespace Kt
open PySem PySem.Spec PyProof.Rows L2
/-! ### l[-2::-1] -/
theorem pick_back (items : Array Value) : slicePick items (some (-2)) none (some (-1)) = (items.toList.take (items.size - 1)).reverse.toArray := by
  unfold slicePick
  have hb : sliceBounds (some (-2)) none (some (-1)) items.size = (((items.size - 1 : Nat) : Int) - 1, -1, -1) := by
    unfold sliceBounds
    simp
    omega
  rw [hb]
  show ((sliceRange (((items.size - 1 : Nat) : Int) - 1) (-1) (-1)).filterMap (items[·]?)).toArray = _
  have h := pick_run items 0 (items.size - 1)
  have e : (List.range (items.size - 1)).map (0 + ·) = List.range (items.size - 1) := by
    rw [show ((0 + ·) : Nat → Nat) = id from funext fun k => Nat.zero_add k, List.map_id]
  rw [e, List.drop_zero] at h
  rw [PySem.W.krv_sliceRange, PySem.W.krv_range, List.filterMap_reverse, h]
def tBack (K : PySem.W.Frag) (te : TE) : TE := fun σ H Q => te σ H fun x H1 => ∃ a xs, x = .ref a ∧ SqL K H1 a xs ∧ ∀ p, H1 p = none → Q (.ref p) (upd H1 p (.lst (xs.take (xs.length - 1)).reverse))
theorem pe_back {X : Cx} {e : Expr} {te : TE} {k k' : Nat} {p1 p2 p3 p4 p5 pos : Pos} (he : PE X e te) : PE X (.Subscript e (.Slice (some (.UnaryOp .USub (.Constant (.int 2) k' p4) p5)) none (some (.UnaryOp .USub (.Constant (.int 1) k p1) p2)) p3) pos) (tBack X.K te) := by
  refine ⟨fun pins s σ H Q I h => ?_⟩
  refine Subscript_ (thn (he.run pins s σ H _ I h) fun v s1 ⟨x, H1, I1, r1, q1⟩ => ?_)
  obtain ⟨a, xs, ex, hx, q⟩ := q1
  subst ex
  cases r1
  have hst : PO X (some (.UnaryOp .USub (.Constant (.int 1) k p1) p2)) (tPart (tUn (rU fun i => .int (-i)) (tC (.int 1)))) := po_some (pe_un un_neg pe_int)
  have hlo : PO X (some (.UnaryOp .USub (.Constant (.int 2) k' p4) p5)) (tPart (tUn (rU fun i => .int (-i)) (tC (.int 2)))) := po_some (pe_un un_neg pe_int)
  refine wpAny_Slice (thn (hlo.run pins s1 σ H1 (fun o H2 => o = some (-2) ∧ H2 = H1) I1 ⟨2, rfl, -2, rfl, rfl, rfl⟩) fun vl s2 ⟨l, H2, I2, pl, el, e2⟩ => ?_)
  subst el e2
  refine thn (po_none.run pins s2 σ H2 (fun o H3 => o = none ∧ H3 = H2) I2 ⟨rfl, rfl⟩) fun vu s3 ⟨u, H3, I3, pu, eu, e3⟩ => ?_
  subst eu e3
  refine thn (hst.run pins s3 σ H3 (fun o H4 => o = some (-1) ∧ H4 = H3) I3 ⟨1, rfl, -1, rfl, rfl, rfl⟩) fun vs s4 ⟨o, H4, I4, ps, eo, e4⟩ => ?_
  subst eo e4
  have I5 : Inv X pins σ H4 { s4 with heap := s4.heap.push { cls := .type "slice", data := .fields #[vl, vu, vs] } } := I4.kept (t' := s4.toks) fun b ob q => Heap.get?_push_of_some _ q
  obtain ⟨its, r, ht, hz⟩ := I5.list hx
  have hlen := r.length
  show wpAny (model X.prog X.w) X.A (subscriptTail e (.Slice (some (.UnaryOp .USub (.Constant (.int 2) k' p4) p5)) none (some (.UnaryOp .USub (.Constant (.int 1) k p1) p2)) p3) (.ref a) (.ref s4.heap.objs.size)) (EP X pins σ Q) X.xe { s4 with heap := s4.heap.push { cls := .type "slice", data := .fields #[vl, vu, vs] } }
  refine tail_any (ops := [.ref a, .ref s4.heap.objs.size]) ht.isList.typeIs (PySem.slot_list_getitem.lookup) ?_ (by with_unfolding_all rfl)
  refine wpAny_getItem_list_slice ht.isList (Heap.IsSliceOf.new _ vl vu vs) pl pu ps (by decide) ?_ (by rw [List.size_toArray]; omega)
  rw [pick_back]
  refine ⟨.ref _, _, I5.laid (t' := s4.toks) (o := .lst (xs.take (xs.length - 1)).reverse) (fun b ob q => Heap.get?_push_of_some _ q) (Nat.le_refl _) ?_, rfl, q _ (I5.hok.fresh (Nat.le_refl _))⟩
  refine ⟨by rw [List.length_reverse, List.length_take]; omega, _, 0, ?_, Heap.get?_push_size _ rfl⟩
  rw [List.size_toArray, ← hlen]
  exact (r.take _).reverse
/-! ### a heap's growth -/
section
variable {K : PySem.W.Frag} {P : Program} {w : World} {M : Mov} {H H' : Hp} {a : Addr} {es : List (Key × PyData)} {o : Obj} {xs : List NE}
theorem sqT_upd {H : Hp} {l : Addr} {o o' : HO} (h : H l = some o') (nt : ∀ ys, o' ≠ .tup ys) (nf : ∀ ob u, o' ≠ .frz ob u) : ∀ a zs, SqT K H a zs → SqT K (upd H l o) a zs := fun a zs z => by
  rcases z with (z | ⟨ob, z⟩) | z
  · exact .inl (.inl (by rw [upd_ne (ne_of z h (fun y => nt _ y.symm))]; exact z))
  · exact .inl (.inr ⟨ob, by rw [upd_ne (ne_of z h (fun y => nf _ _ y.symm))]; exact z⟩)
  · exact .inr z
theorem sk_nd {o2 : HO} (h : H a = some (NDo P w a o xs)) : SK K H (upd H a o2) := sqT_upd h (fun ys z => by unfold NDo at z; cases z) (fun ob u z => by unfold NDo at z; cases z)
theorem DN.gr (g : Gr M H H') (na : ¬ M.at_ a) (h : DN K P w H a es) : DN K P w H' a es :=
  let ⟨o, xs, e, nx⟩ := h
  ⟨o, xs, g.keep a _ e na, nx.mono g.sk⟩
end
/-! ### words -/
section
variable {ι : Type} {X : ι → Cx} {M M0 : Mov} {P : Program} {w : World} {K : PySem.W.Frag} {mg : Str → Option Value} {base : Heap} {n k : Nat}
variable {σ : L2.St} {H H0 : Hp} {a b e o : Expr} {es : List Expr} {R R' : V → Hp → Prop} {p pos : Pos} {d : PyData} {ds : List PyData} {f : Str} {v : V} {C dx x : Addr} {fs : List (Str × V)}
theorem ed_neg {i : Int} (h : ED X M K σ H a (.int i)) : ED X M K σ H (.UnaryOp .USub a pos) (.int (-i)) := by
  obtain ⟨ta, pa, qa⟩ := h
  exact ⟨_, fun j => pe_un un_neg (pa j), fun H1 g Q q => qa H1 g _ fun v H2 g2 hv => ⟨i, dt_int hv, q _ H2 g2 (.int _)⟩⟩
/-- o.f, o the instance at x -/
theorem eo_fld (hK : ∀ j, (X j).K = K) (he : EO X M σ H o fun u _ => u = .ref x) (c : Cls K C) (n : NoAttr K C f) (l : fs.lookup f = some v) (hk : ∀ H', Gr M H H' → H' x = some (.ins C dx fs)) (hR : ∀ H', Gr M H H' → R v H')
    (hb : ∀ j, attributeBase o f (X j).env (eval o (X j).env) = eval o (X j).env := by intro _; rfl) : EO X M σ H (.Attribute o f pos) R := by
  obtain ⟨ta, pa, qa⟩ := he
  refine ⟨tFld K ta f, fun j => by rw [← hK j]; exact pe_fld (pa j) (hb j), fun H1 g Q q => qa H1 g _ fun u H2 g2 hu => ?_⟩
  have g12 := g.trans g2
  exact ⟨x, C, dx, fs, v, hu, hk H2 g12, c, n, l, q v H2 g2 (hR H2 g12)⟩
/-- d[k] -/
theorem eo_getN (cx : CxIs X P w K mg base n) {da : Addr} {ents : List (Key × PyData)} {q : Key × PyData} (ho : EO X M σ H o fun u _ => u = .ref da) (hi : ED X M K σ H e (keyD q.1)) (hd : ∀ H', Gr M H H' → DN K P w H' da ents) (hq : q ∈ ents)
    (hs : NoSl e := by intro _ _; rfl) : ED X M K σ H (.Subscript o e pos) q.2 := by
  obtain ⟨to, po, qo⟩ := ho
  obtain ⟨ti, pi, qi⟩ := hi
  refine ⟨tGetN K P w to ti, fun j => ?_, fun H1 g Q k => qo H1 g _ fun u H2 g2 hu => qi H2 (g.trans g2) _ fun y H3 g3 hy => ?_⟩
  · have := pe_getN (X := X j) (pos := pos) (by have := (cx.room j).units; omega) (po j) (pi j) hs
    rw [cx.K, cx.P, cx.w] at this
    exact this
  · obtain ⟨ob, xs, e1, nx⟩ := hd H3 ((g.trans g2).trans g3)
    obtain ⟨c, ys, rfl, hc, hd2⟩ := dt_tup hy
    exact ⟨da, c, ob, xs, ents, q, hu, rfl, e1, nx, hq, hy, fun v hv => k v H3 (g2.trans g3) hv⟩
/-- {} -/
theorem eo_newN (cx : CxIs X P w K mg base n) : EO X M σ H (.Dict [] [] pos) fun v H' => ∃ a, v = .ref a ∧ H a = none ∧ DN K P w H' a [] := by
  refine ⟨tNewN P w, fun j => by have := pe_newN (X := X j) (pos := pos); rw [cx.P, cx.w] at this; exact this, fun H1 g Q k p o hp => ?_⟩
  exact k _ _ (.new g.r hp ndo_nt) ⟨p, rfl, (g.fresh hp).1, o, [], upd_same, .nil⟩
/-- {k: v} -/
theorem eo_oneN (cx : CxIs X P w K mg base n) {key : Key} (hk : ED X M K σ H a (keyD key)) (hv : ED X M K σ H b d) : EO X M σ H (.Dict [some a] [b] pos) fun v H' => ∃ c, v = .ref c ∧ H c = none ∧ DN K P w H' c [(key, d)] := by
  obtain ⟨ta, pa, qa⟩ := hk
  obtain ⟨tb, pb, qb⟩ := hv
  refine ⟨tOneN K P w ta tb, fun j => ?_, fun H1 g Q q p o0 hp => ?_⟩
  · have := pe_oneN (X := X j) (pos := pos) (by have := (cx.room j).units; omega) (pa j) (pb j)
    rw [cx.K, cx.P, cx.w] at this
    exact this
  · have gn : Gr M H1 (upd H1 p (NDo P w p o0 [])) := .new g.r hp ndo_nt
    have na : ¬ M.at_ p := not_at g.r hp
    refine qa _ (g.trans gn) _ fun x H2 g2 hx => ?_
    refine qb H2 ((g.trans gn).trans g2) _ fun y H3 g3 hy => ?_
    have e3 : H3 p = some (NDo P w p o0 []) := g3.keep p _ (g2.keep p _ upd_same na) na
    obtain ⟨c, ys, rfl, hc, hd2⟩ := dt_tup (g3.dt hx)
    refine ⟨e3, c, key, rfl, g3.dt hx, fun u o r => ?_⟩
    have s : SK K H3 (upd H3 p (NDo P w p o [(nk key, c, u)])) := sk_nd e3
    refine q _ _ ((gn.trans (g2.trans g3)).upd hp e3 ndo_loc ndo_nt) ⟨p, rfl, (g.fresh hp).1, o, _, upd_same, .cons ⟨rfl, (g3.dt hx).mono s, y, r, hy.mono s⟩ .nil⟩
/-- len(d) -/
theorem ed_lenN (cx : CxIs X P w K mg base n) (hm : mg "len" = none) {da : Addr} {ents : List (Key × PyData)} (h : EO X M σ H e fun u H' => u = .ref da ∧ DN K P w H' da ents) (hg : ∀ j, Gl (X j) "len" := by intro _; rfl)
    (hs : ∀ j, starEach (e :: []) (X j).env = (false, eval e (X j).env) :: starEach [] (X j).env := by intro _; rfl) (hpl : ∀ j, (backTo pos (starEach [] (X j).env)).any (·.1) = false := by intro _; rfl) : ED X M K σ H (.Call (.Name "len" p) [e] [] pos) (.int (ents.length : Int)) := by
  refine eo_callB (r := fun vs H Q => ∃ a o xs es, vs = [.ref a] ∧ H a = some (NDo P w a o xs) ∧ NDx K H es xs ∧ Q (.int (es.length : Int)) H) (fun j => by have := call_len_nd (X := X j); rw [cx.K, cx.P, cx.w] at this; exact this) (fun j => by rw [cx.mg]; exact hm) PySem.boot_len (ao_one h hs) (fun vs H1 g r Q q => ?_) hg (by decide) (by decide) hs hpl
  obtain ⟨v, rfl, rfl, o, xs, e1, nx⟩ := r
  exact ⟨da, o, xs, ents, rfl, e1, nx, q _ H1 (.refl g.r) (.int _)⟩
/-! ### methods -/
structure CalM (P : Program) (w : World) (K : PySem.W.Frag) (mg : Str → Option Value) (base : Heap) (C : Addr) (k : Nat) (m : Str) (ps : List Str) (sp : Sp) : Prop where
  ex : ∃ f fd, FnOk P w K mg base CX0 k f fd ps sp ∧ Meth K C m f ∧ Binds K fd ps []
theorem pe_calM {pl : Sem Bool} {apos : Pos} {sp : Sp} {ps : List Str} {m : Str} {to : TE} {t : TA} (Cm : CalM P w K mg base C k m ps sp) (c : Cls K C) (cx : CxIs X P w K mg base n) (hk : k ≤ n) (j : ι) (he : PE (X j) o to) (ha : PA (X j) (e :: es) t)
    (hst : starEach (e :: es) (X j).env = (false, eval e (X j).env) :: starEach es (X j).env := by rfl) (hpl : (backTo pos (starEach es (X j).env)).any (·.1) = false := by rfl)
    (ht : eval (.Call (.Attribute o m apos) (e :: es) [] pos) (X j).env = (do
      let ov ← eval o (X j).env
      standAt apos.atName
      let (f, first) ← holding [ov] (getMethod ov m pl)
      callWith pos f first (backTo pos (starEach (e :: es) (X j).env)) (backToKw pos (keywordEach [] (X j).env))) := by rfl) : PE (X j) (.Call (.Attribute o m apos) (e :: es) [] pos) (tMeth C m sp [] E0 to t) := by
  obtain ⟨f, fd, F, mt, b⟩ := Cm.ex
  have F' : FnOk (X j).prog (X j).w (X j).K (X j).mg (X j).base CX0 k f fd ps sp := by
    rw [cx.P, cx.w, cx.K, cx.mg, cx.base]
    exact F
  exact pe_meth (pl := pl) he (by rw [cx.K]; exact c) (by rw [cx.K]; exact mt) F' ((cx.room j).mono hk) (by rw [cx.K]; exact b) .nil pass0 ha hst hpl ht
end
section
variable {X : Cx} {M : Mov} {K : PySem.W.Frag} {σ : L2.St} {H : Hp} {rest body : List Stmt} {D : Ends} {e o tg iter : Expr} {g : TG} {pos pos' : Pos} {R : V → Hp → Prop} {C dx x : Addr} {fs : List (Str × V)} {f : Str} {P : Program} {w : World} {mg : Str → Option Value} {base : Heap} {n : Nat}
/-- o.f = e, o the instance at x -/
theorem rs_fld (hK : X.K = K) (ok : M.ok H) (he : EO (fun _ : Unit => X) M σ H e R) (m : Mono M R) (ho : ∀ H1, Gr M H H1 → EO (fun _ : Unit => X) M σ H o fun u _ => u = .ref x) (c : Cls K C) (na : NoAttr K C f) (hx : H x = some (.ins C dx fs)) (hna : ¬ M.at_ x) (hl : fs.length < 1000)
    (k : ∀ v H1, Gr M H H1 → R v H1 → H1 x = some (.ins C dx fs) → RS X rest D σ (upd H1 x (.ins C dx (putF f v fs)))) (hs : swapsWith e (some (.Attribute o f pos')) pos.line X.env = pure false := by rfl) : RS X (.Assign [.Attribute o f pos'] e pos :: rest) D σ H := by
  obtain ⟨te, pe, q⟩ := he
  obtain ⟨to, po, qo⟩ := ho H (.refl ok)
  have := ps_fld (f := f) (pos := pos) (pos' := pos') (po ()) (pe ()) hs
  rw [hK] at this
  exact rs_cons this (q H (.refl ok) _ fun v H1 g1 r => qo H1 g1 _ fun u H2 g2 hu => ⟨x, C, dx, fs, hu, (g1.trans g2).keep x _ hx hna, c, na, hl, k v H2 (g1.trans g2) (m _ _ _ g2 r) ((g1.trans g2).keep x _ hx hna)⟩)
end
end Kt
end
section
set_option maxHeartbeats 4000000
set_option exponentiation.threshold 5000
/-! Kt: behind, worths. -/
namespace Kt
open PySem PySem.Spec PyProof.Rows L2
theorem putE_nodup {es : List (Key × PyData)} {k : Key} {d : PyData} (h : (es.map (·.1)).Nodup) : ((putE es k d).map (·.1)).Nodup := by
  unfold putE
  by_cases hk : k ∈ es.map (·.1)
  · rw [if_pos hk]
    have e : (es.map fun p => if p.1 = k then (p.1, d) else p).map (·.1) = es.map (·.1) := by
      rw [List.map_map]
      refine List.map_congr_left fun p _ => ?_
      show (if p.1 = k then (p.1, d) else p).1 = p.1
      split <;> rfl
    rw [e]
    exact h
  · rw [if_neg hk, List.map_append, List.nodup_append]
    refine ⟨h, by simp, fun a ha b hb => ?_⟩
    simp at hb
    intro z
    rw [z, hb] at ha
    exact hk ha
structure HasL (K : PySem.W.Frag) (mg : Str → Option Value) (C : Addr) : Prop where
  glo : mg "Lags" = some (.ref C)
  cls : Cls K C
  na1 : NoAttr K C "circle"
  na2 : NoAttr K C "begin"
  na3 : NoAttr K C "lags"
/-- the method m of the class at C is the def st -/
structure HasM (K : PySem.W.Frag) (C : Addr) (m q : Str) (st : Stmt) : Prop where
  ex : ∃ f fd, FunD K m q (defArgs st) (defBody st) (defScope st) [] [] f fd ∧ Meth K C m f
abbrev inL (j : Nat) : Stmt := inClass (top 49) j
section
variable {P : Program} {w : World} {K : PySem.W.Frag} {mg : Str → Option Value} {base : Heap} {C : Addr}
theorem calM_of {m q : Str} {st : Stmt} {N ps : List Str} {k : Nat} {sp : Sp} (F : HasM K C m q st) (S : FnScope N ps (defScope st)) (len : ∀ vs H Q E, sp vs H Q E → vs.length = ps.length)
    (hb : ∀ (kV doc pm : Value) (an : Option Addr) (cdv ct : Value) (us : List Value), us.length = ps.length → bindArgs (PySem.W.fnOf m q (defArgs st) (defBody st) (defScope st) .none kV doc pm an cdv ct) ⟨us, []⟩ = pure (ps.zip us))
    (body : ∀ (f : Addr) (cdv : Value) (A : Around) (outer : List Env) (s : Shared) (H : Hp) (vs : List V) (Q : VK) (E : XK), CxIs (fun _ : Unit => bX P w K mg base N q (defScope st) f cdv A outer s H E) P w K mg base k → sp vs H Q E →
      RS (bX P w K mg base N q (defScope st) f cdv A outer s H E) (defBody st) { nx := fun _ H' => Q .non H', rt := Q } (start N vs) H) : CalM P w K mg base C (k + 1) m ps sp := by
  obtain ⟨f, fd, F, m⟩ := F.ex
  refine ⟨f, fd, ?_, m, F.bindsN hb⟩
  refine FunD.ok F S len fun cdv A outer s H vs Q E hr h => ⟨_, (pss_rs _ _).nox, ?_⟩
  exact body f cdv A outer s H vs Q E ⟨fun _ => rfl, fun _ => rfl, fun _ => rfl, fun _ => rfl, fun _ => rfl, fun _ => hr, fun _ => rfl⟩ h
end
section
variable {X : Cx} {M : Mov} {P : Program} {w : World} {K : PySem.W.Frag} {mg : Str → Option Value} {base : Heap} {n : Nat} {σ : L2.St} {H : Hp} {rest body : List Stmt} {D : Ends} {iter tg : Expr} {g : TG} {pos : Pos} {a : Addr} {o : Obj} {xs : List NE}
theorem rs_forNd (hp : PassesOwn (model X.prog X.w) X.A X.env X.xe) (hc : X.calm = true) (cx : CxIs (fun _ : Unit => X) P w K mg base n) (ok : M.ok H) (hi : EO (fun _ : Unit => X) M σ H iter fun u _ => u = .ref a) (ha : ∀ H1, Gr M H H1 → H1 a = some (NDo P w a o xs)) (hg : PG X tg g)
    (h : ∀ H1, Gr M H H1 → ∃ Pv : Nat → L2.St → Hp → Prop, Pv 0 σ H1 ∧ (∀ i σ' H', Pv i σ' H' → H' a = some (NDo P w a o xs)) ∧
      (∀ (i : Nat) (q : NE) σ' H', xs[i]? = some q → Pv i σ' H' → g (.ref q.2.1) σ' H' fun σ2 H2 => RS X body (Ends.turn D (Pv (i + 1)) fun σ3 H3 => RS X rest D σ3 H3) σ2 H2) ∧
      (∀ σ' H', Pv xs.length σ' H' → RS X rest D σ' H')) (hf : ∀ x, foldedSetIterable iter X.env x = pure x := by intro _; rfl) : RS X (.For tg iter body [] pos :: rest) D σ H := by
  obtain ⟨ti, pi, qi⟩ := hi
  have pI : PI X tg iter (iKeysN P w ti) := by
    have := pi_nd (tg := tg) (pi ())
    rw [cx.P (), cx.w ()] at this
    exact this
  refine rs_for hp hc pI hg ?_ hf
  refine qi H (.refl ok) _ fun v H1 g1 hv => ?_
  obtain ⟨Pv, h0, gr, hs, hd⟩ := h H1 g1
  exact ⟨a, o, xs, hv, ha H1 g1, for_nd Pv h0 (fun i σ' H' h => gr i σ' H' h) (fun i q σ' H' hq h => hs i q σ' H' hq h) fun σ' H' h => hd σ' H' h⟩
end
section
variable {X : Cx} {M : Mov} {P : Program} {w : World} {K : PySem.W.Frag} {mg : Str → Option Value} {base : Heap} {n : Nat} {σ : L2.St} {H : Hp} {rest : List Stmt} {D : Ends} {oe ie ve : Expr} {pos pt : Pos} {l : Addr} {ef : List (Key × PyData)} {key : Key} {d : PyData}
/-- d[k] = v -/
theorem rs_setN (cx : CxIs (fun _ : Unit => X) P w K mg base n) (ok : M.ok H) (hv : ED (fun _ : Unit => X) M K σ H ve d) (ho : EO (fun _ : Unit => X) M σ H oe fun u _ => u = .ref l) (hi : ED (fun _ : Unit => X) M K σ H ie (keyD key)) (hd : DN K P w H l ef) (hna : ¬ M.at_ l) (hz : ef.length < sizeLine)
    (k : ∀ H3 o1 o2 xs1 xs2, Gr M H H3 → H3 l = some (NDo P w l o1 xs1) → DN K P w (upd H3 l (NDo P w l o2 xs2)) l (putE ef key d) → RS X rest D σ (upd H3 l (NDo P w l o2 xs2)))
    (hs : swapsWithSole [.Subscript oe ie pt] ve pos.line X.env = pure false := by rfl) (hw : swappedStores [.Subscript oe ie pt] ve X.env = pure none := by rfl) (h1 : (assignEach [.Subscript oe ie pt] X.env).map (·.2) = [assign (.Subscript oe ie pt) X.env] := by rfl)
    (hsub : ∀ v, assign (.Subscript oe ie pt) X.env v = (do
      let ov ← holding [v] (eval oe X.env)
      let iv ← holding [v, ov] (eval ie X.env)
      standAt pt
      holding [v, ov, iv] (setItem ov iv v)
      release [v, ov, iv] []) := by intro _; rfl) : RS X (.Assign [.Subscript oe ie pt] ve pos :: rest) D σ H := by
  obtain ⟨to, po, qo⟩ := ho
  obtain ⟨ti, pi, qi⟩ := hi
  have ps := pset_nd (X := X) (by have := (cx.room ()).units; omega)
  rw [cx.K (), cx.P (), cx.w ()] at ps
  refine rs_asg ok hv (pg_sub (po ()) (pi ()) ps hsub) (fun v H1 g1 hv1 => ?_) hs hw h1
  refine qo H1 g1 _ fun u H2 g2 hu => qi H2 (g1.trans g2) _ fun y H3 g3 hy => ?_
  have g13 := (g1.trans g2).trans g3
  obtain ⟨o1, xs1, e1, nx⟩ := hd.gr g13 hna
  obtain ⟨c, ys, rfl, hc, hd2⟩ := dt_tup hy
  refine ⟨l, c, key, o1, xs1, ef, hu, rfl, e1, nx, by rw [← nx.len]; exact hz, hy, fun u' o' r => ?_⟩
  exact k H3 o1 o' xs1 _ g13 e1 ⟨o', _, upd_same, (nx.put hy r ((g2.trans g3).dt hv1)).mono (sk_nd e1)⟩
end
theorem sizeBig : 3000 < sizeLine := by rw [sizeLine_eq]; omega
/-- the keys of a layer -/
def LayK (size : Nat) (cs : List Adv) (j : Nat) (es : List (Key × PyData)) : Prop := (es.map (·.1)).Nodup ∧ ∀ k, k ∈ es.map (·.1) ↔ Reach size cs j k
theorem Reach.pred {size : Nat} {cs : List Adv} {j : Nat} {k : Key} (h : Reach size cs (j + 1) k) : ∃ k0 x, Reach size cs j k0 ∧ x < size ∧ k = Kt.next cs k0 x := by
  obtain ⟨r, hl, hr, e⟩ := h
  have hne : r ≠ [] := by
    intro z
    rw [z] at hl
    simp at hl
  have e2 := List.dropLast_concat_getLast hne
  refine ⟨after cs (start0 cs) r.dropLast, r.getLast hne, ⟨r.dropLast, by rw [List.length_dropLast]; omega, fun x hx => hr x (by rw [← e2]; exact List.mem_append_left _ hx), rfl⟩, hr _ (List.getLast_mem hne), ?_⟩
  rw [← e]
  conv => lhs; rw [← e2]
  rw [after_snoc]
def spBehind (K : PySem.W.Frag) (P : Program) (w : World) (C : Addr) : Sp := fun vs H Q _ => ∃ (x dx : Addr) (fs : List (Str × V)) (cv : V) (size : Nat) (cs : List Adv) (a : Addr) (es : List (Key × PyData)) (j : Nat),
  vs = [.ref x, .ref a] ∧ H x = some (.ins C dx fs) ∧ fs.lookup ("circle" : Str) = some cv ∧ Dt K H cv (circD size cs) ∧ CircOk size cs ∧ DN K P w H a es ∧ LayK size cs j es ∧ (∀ l : List Key, l.Nodup → (∀ k ∈ l, Reach size cs (j + 1) k) → l.length ≤ 3000) ∧
  ∀ b H' es', Gr .no H H' → H b = none → DN K P w H' b es' → LayK size cs (j + 1) es' → Q (.ref b) H'
theorem lt_size {size : Nat} {cs : List Adv} (h : CircOk size cs) : atI (cs.map (advD size)) 0 = some (advD size (cs.getD 0 [])) := by
  obtain ⟨a, ha, e⟩ := circ0 h
  have e2 : cs.getD 0 [] = a := by rw [List.getD_eq_getElem?_getD, e]; rfl
  rw [e2]
  exact atI_nat (i := 0) (by rw [List.getElem?_map, e]; rfl)
section
variable {ι : Type} {X : ι → Cx} {M : Mov} {P : Program} {w : World} {K : PySem.W.Frag} {mg : Str → Option Value} {base : Heap} {n : Nat} {σ : L2.St} {H : Hp} {a : Expr} {p p2 p3 pos : Pos} {size : Nat} {cs : List Adv} {k0 : Nat}
/-- circle[0][SIZE] -/
theorem ed_size (cx : CxIs X P w K mg base n) (U : Cst mg) (hc : CircOk size cs) (h : ED X M K σ H a (circD size cs)) (hg : ∀ j, Gl (X j) "SIZE" := by intro _; rfl) : ED X M K σ H (.Subscript (.Subscript a (.Constant (.int 0) k0 p) p2) (.Name "SIZE" p3) pos) (.int (size : Int)) :=
  ed_ix (ds := [.int (size : Int), .tuple ((cs.getD 0 []).map ruleD)]) cx.K (ed_ix (ds := cs.map (advD size)) cx.K h (ed_int (i := 0)) (lt_size hc)) (ed_k U.size cx.mg hg) rfl
end
section
variable {P : Program} {w : World} {K : PySem.W.Frag} {mg : Str → Option Value} {base : Heap} {C : Addr}
theorem c_behind (F : HasM K C "behind" "Lags.behind" (inL 1)) (L : HasL K mg C) (B : Blt mg) (U : Cst mg) (CS : Cal P w K mg base 1 "stepped" ["circle", "key", "letter"] (DS K .no RStepped)) : CalM P w K mg base C 2 "behind" ["self", "layer"] (spBehind K P w C) := by
  have sc : FnScope ["self", "layer", "found", "key", "letter"] ["self", "layer"] (defScope (inL 1)) := ⟨rfl, rfl, rfl, by decide +kernel, rfl, by decide +kernel, by decide +kernel⟩
  refine calM_of F sc (fun vs H Q E ⟨x, dx, fs, cv, size, cs, a, es, j, e, _⟩ => by rw [e]; rfl) (fun _ _ _ _ _ _ us hl => match us, hl with | [_, _], _ => rfl) (fun f cdv A outer s H vs Q E cx h => ?_)
  obtain ⟨x, dx, fs, cv, size, cs, a, es, j, rfl, hx, hlk, hcv, hc, hda, hlay, hfit, q⟩ := h
  have na : ∀ l, ¬ Mov.no.at_ l := fun _ z => z.elim
  obtain ⟨ob, xs, hxa, nx⟩ := id hda
  refine rs_set (M := .no) 2 trivial (eo_newN (K := K) cx) (fun u1 H1 g1 hu1 => ?_) sc.nd
  obtain ⟨l, rfl, hl0, hdl⟩ := hu1
  refine rs_forNd (M := .no) (K := K) PassesOwn.never rfl cx g1.r (eo_var 1 (hs := rfl) (hR := fun _ _ => rfl)) (fun H2 g2 => (g1.trans g2).keep a _ hxa (na a)) (pg_name (i := 3) sc.nd rfl (Or.inl rfl)) fun H2 g2 => ?_
  refine ⟨fun i σ' H' => Gr .no H H' ∧ ∃ (y z : Option V) (ef : List (Key × PyData)), σ' = [some (.ref x), some (.ref a), some (.ref l), y, z] ∧ DN K P w H' l ef ∧ (ef.map (·.1)).Nodup ∧ (∀ k ∈ ef.map (·.1), Reach size cs (j + 1) k) ∧ (∀ i' p x, i' < i → es[i']? = some p → x < size → Kt.next cs p.1 x ∈ ef.map (·.1)),
    ⟨g1.trans g2, none, none, [], rfl, hdl.gr g2 (na l), List.nodup_nil, (fun k hk => by cases hk), fun i' p x hi => absurd hi (Nat.not_lt_zero _)⟩, fun i σ' H' h => h.1.keep a _ hxa (na a), ?_, ?_⟩
  · rintro i qe σ' H3 hqi ⟨g3, y, z, ef, rfl, hdl3, hnd, hre, hall⟩
    obtain ⟨p, hpi, _, hkd, _⟩ := (nx.mono g3.sk).get' hqi
    have hpr : Reach size cs j p.1 := (hlay.2 p.1).mp (List.mem_map.mpr ⟨p, List.mem_of_getElem? hpi, rfl⟩)
    have hpl : p.1.length = cs.length := (hpr.ok hc.ne).len
    have hpv := hpr.v hc.ne hc.adv
    refine rs_forR (M := .no) (K := K) PassesOwn.never rfl g3.r B.range (ed_size cx U hc (eo_fld (v := cv) cx.K (eo_var 0 (hs := rfl) (hR := fun _ _ => rfl)) L.cls L.na1 hlk (fun H' g => g.keep x _ (g3.keep x _ hx (na x)) (na x)) (fun H' g => g.dt (g3.dt hcv)))) (by omega) (by have := hc.s4; omega) (pg_name (i := 4) sc.nd rfl (Or.inl rfl)) fun H4 g4 => ?_
    refine ⟨fun i2 σ' H' => Gr .no H H' ∧ Gr .no H H ∧ ∃ (z : Option V) (ef : List (Key × PyData)), σ' = [some (.ref x), some (.ref a), some (.ref l), some (.ref qe.2.1), z] ∧ DN K P w H' l ef ∧ (ef.map (·.1)).Nodup ∧ (∀ k ∈ ef.map (·.1), Reach size cs (j + 1) k) ∧ (∀ i' p x, i' < i → es[i']? = some p → x < size → Kt.next cs p.1 x ∈ ef.map (·.1)) ∧ (∀ x, x < i2 → Kt.next cs p.1 x ∈ ef.map (·.1)) ∧ Dt K H' (.ref qe.2.1) (keyD p.1),
      ⟨g3.trans g4, .refl trivial, z, ef, rfl, hdl3.gr g4 (na l), hnd, hre, hall, fun x hx => absurd hx (Nat.not_lt_zero _), g4.dt hkd⟩, ?_, ?_⟩
    · rintro i2 σ' H5 hi2 ⟨g5, _, z, ef, rfl, hdl5, hnd, hre, hall, hcur, hkd5⟩
      have hi2' : i2 < size := by omega
      have hlen : ef.length ≤ 3000 := by
        have := hfit _ hnd hre
        rw [List.length_map] at this
        exact this
      refine rs_setN (M := .no) (K := K) cx g5.r ed_bl (eo_var 2 (hs := rfl) (hR := fun _ _ => rfl)) (ed_ix (fun _ => rfl) (ed_call CS cx (by decide) (.refl _) (ad_cons (eo_fld (v := cv) cx.K (eo_var 0 (hs := rfl) (hR := fun _ _ => rfl)) L.cls L.na1 hlk (fun H' g => g.keep x _ (g5.keep x _ hx (na x)) (na x)) (fun H' g => g.dt (g5.dt hcv))) (ad_cons (ed_var 3 rfl hkd5) (ad_cons (ed_var 4 rfl (.int (i2 : Int))) ad_nil))) ⟨size, cs, p.1, i2, (j : Int), rfl, hc, hpl, hpv, hi2', rfl⟩) ed_int rfl)
        hdl5 (na l) (Nat.lt_of_le_of_lt hlen sizeBig) fun H6 o1 o2 xs1 xs2 g6 e6 hdl6 => ?_
      have hput : ∀ k ∈ (putE ef (Kt.next cs p.1 i2) (.bool true)).map (·.1), Reach size cs (j + 1) k := fun k hk => by
        rcases putE_mem.mp hk with z | z
        · exact hre k z
        · rw [z]
          exact hpr.next hi2'
      refine rs_nil ⟨(g5.trans g6).upd hl0 e6 ndo_loc ndo_nt, .refl trivial, some (.int (i2 : Int)), _, rfl, hdl6, putE_nodup hnd, hput, fun i' p' x hi' hp' hx' => putE_mem.mpr (.inl (hall i' p' x hi' hp' hx')), fun x hx' => ?_, (g6.dt hkd5).mono (sk_nd e6)⟩
      rcases Nat.lt_succ_iff_lt_or_eq.mp hx' with h | h
      · exact putE_mem.mpr (.inl (hcur x h))
      · exact putE_mem.mpr (.inr (by rw [h]))
    · rintro σ' H5 ⟨g5, _, z, ef, rfl, hdl5, hnd, hre, hall, hcur, hkd5⟩
      refine rs_ifF (M := .no) g5.r (TO.cast (to_gt (ed_lenN (K := K) cx B.len (eo_var 2 (hs := rfl) (hR := fun H' g => ⟨rfl, hdl5.gr g (na l)⟩))) (ed_k U.mostKeys cx.mg)) ?_) fun H6 g6 => rs_nil ⟨g5.trans g6, some (.ref qe.2.1), z, ef, rfl, hdl5.gr g6 (na l), hnd, hre, fun i' p' x hi' hp' hx' => ?_⟩
      · have := hfit _ hnd hre
        rw [List.length_map] at this
        exact decide_eq_false (by omega)
      · rcases Nat.lt_succ_iff_lt_or_eq.mp hi' with h | h
        · exact hall i' p' x h hp' hx'
        · rw [h, hpi] at hp'
          cases hp'
          exact hcur x (by omega)
  · rintro σ' H3 ⟨g3, y, z, ef, rfl, hdl3, hnd, hre, hall⟩
    refine rs_ret g3.r (R := fun v _ => v = .ref l) (eo_var 2 (hs := rfl) (hR := fun _ _ => rfl)) fun v H4 g4 hv => ?_
    subst hv
    refine q l H4 ef (g3.trans g4) hl0 (hdl3.gr g4 (na l)) ⟨hnd, fun k => ⟨hre k, fun hk => ?_⟩⟩
    obtain ⟨k0, x0, hk0, hx0, rfl⟩ := Reach.pred hk
    obtain ⟨p, hp, e⟩ := List.mem_map.mp ((hlay.2 k0).mpr hk0)
    obtain ⟨i, hi⟩ := List.mem_iff_getElem?.mp hp
    have := hall i p x0 (by rw [← nx.len]; exact (List.getElem?_eq_some_iff.mp hi).1) hi hx0
    rw [e] at this
    exact this
end
end Kt
end
section
set_option maxHeartbeats 4000000
set_option exponentiation.threshold 5000
/-! Kt: worths. -/
namespace Kt
open PySem PySem.Spec PyProof.Rows L2
theorem fr_int (i : Int) : fr (i : Rat) = .tuple [.int i, .int 1] := by
  unfold fr
  rw [Rat.num_intCast, Rat.den_intCast]
  rfl
def spWorths (K : PySem.W.Frag) (P : Program) (w : World) (C : Addr) : Sp := fun vs H Q _ => ∃ (x dx : Addr) (fs : List (Str × V)) (cv kv : V) (size : Nat) (cs : List Adv) (k : Key) (a : Addr) (es : List (Key × PyData)) (m : Nat) (G : Int),
  vs = [.ref x, kv, .ref a] ∧ H x = some (.ins C dx fs) ∧ fs.lookup ("circle" : Str) = some cv ∧ Dt K H cv (circD size cs) ∧ CircOk size cs ∧ Dt K H kv (keyD k) ∧ KeyOk cs k ∧ KeyV G cs k ∧ DN K P w H a es ∧ (∀ x, x < size → (Kt.next cs k x, fr (lagV size cs m (Kt.next cs k x))) ∈ es) ∧ m ≤ 10 ∧
  ∀ v H', Gr .no H H' → Dt K H' v (.tuple ((worthsV size cs m k).map fr)) → Q v H'
section
variable {P : Program} {w : World} {K : PySem.W.Frag} {mg : Str → Option Value} {base : Heap} {C : Addr}
theorem c_worths (F : HasM K C "worths" "Lags.worths" (inL 2)) (L : HasL K mg C) (B : Blt mg) (U : Cst mg) (CS : Cal P w K mg base 1 "stepped" ["circle", "key", "letter"] (DS K .no RStepped)) (CMi : Cal P w K mg base 2 "minus" ["one", "other"] (DS K .no RMinus)) : CalM P w K mg base C 3 "worths" ["self", "key", "later"] (spWorths K P w C) := by
  have sc : FnScope ["self", "key", "later", "found", "letter", "there", "rise"] ["self", "key", "later"] (defScope (inL 2)) := ⟨rfl, rfl, rfl, by decide +kernel, rfl, by decide +kernel, by decide +kernel⟩
  refine calM_of F sc (fun vs H Q E ⟨x, dx, fs, cv, kv, size, cs, k, a, es, m, G, e, _⟩ => by rw [e]; rfl) (fun _ _ _ _ _ _ us hl => match us, hl with | [_, _, _], _ => rfl) (fun f cdv A outer s H vs Q E cx h => ?_)
  obtain ⟨x, dx, fs, cv, kv, size, cs, k, a, es, m, G, rfl, hx, hlk, hcv, hc, hkv, hok, hkG, hda, hes, hm, q⟩ := h
  have na : ∀ l, ¬ Mov.no.at_ l := fun _ z => z.elim
  have hs4 := hc.s4
  refine rs_set (M := .no) 3 trivial (eo_lst (K := K) ad_nil) (fun u1 H1 g1 hu1 => ?_) sc.nd
  obtain ⟨l, xs0, rfl, hl0, hl1, hd0⟩ := hu1
  cases hd0
  refine rs_forR (M := .no) (K := K) PassesOwn.never rfl g1.r B.range (ed_size cx U hc (eo_fld (v := cv) cx.K (eo_var 0 (hs := rfl) (hR := fun _ _ => rfl)) L.cls L.na1 hlk (fun H' g => g.keep x _ (g1.keep x _ hx (na x)) (na x)) (fun H' g => g.dt (g1.dt hcv)))) (by omega) (by omega) (pg_name (i := 4) sc.nd rfl (Or.inl rfl)) fun H2 g2 => ?_
  refine ⟨fun i σ' H' => Gr .no H H' ∧ ∃ (y z t : Option V) (xs : List V), σ' = [some (.ref x), some kv, some (.ref a), some (.ref l), y, z, t] ∧ H' l = some (.lst xs) ∧ DtAll K H' xs (((worthsV size cs m k).take i).map fr), ⟨g1.trans g2, none, none, none, [], rfl, g2.keep l _ hl1 (na l), .nil⟩, ?_, ?_⟩
  · rintro i σ' H3 hi ⟨g3, y, z, t, xs, rfl, hl3, hxs⟩
    have hi' : i < size := by omega
    have hlg := lag_small hc.s2 hc.s4 hc.ne m (hok.next hc.ne i)
    have smL : Sm (lagV size cs m (Kt.next cs k i)) := hlg.1.sm hlg.2 (by omega) (by omega)
    have hrr := rise_range (x := i) hok.len hc.ne hok.min0
    have smR : Sm ((rise cs k i : Int) : Rat) := (Dy.int 0 _).sm (Bd.int (a := 1) (by omega)) (by decide) (by decide)
    have hwi : (worthsV size cs m k)[i]? = some (lagV size cs m (Kt.next cs k i) - ((rise cs k i : Int) : Rat)) := by
      unfold worthsV
      rw [List.getElem?_map, List.getElem?_range hi']
      rfl
    refine rs_asg (M := .no) g3.r (ed_call CS cx (by decide) (.refl _) (ad_cons (eo_fld (v := cv) cx.K (eo_var 0 (hs := rfl) (hR := fun _ _ => rfl)) L.cls L.na1 hlk (fun H' g => g.keep x _ (g3.keep x _ hx (na x)) (na x)) (fun H' g => g.dt (g3.dt hcv))) (ad_cons (ed_var 1 rfl (g3.dt hkv)) (ad_cons (ed_var 4 rfl (.int (i : Int))) ad_nil))) ⟨size, cs, k, i, G, rfl, hc, hok.len, hkG, hi', rfl⟩)
      (pg_tup rfl (pgs_cons (pg_name (i := 5) sc.nd rfl (Or.inl rfl)) (pgs_cons (pg_name (i := 6) sc.nd rfl (Or.inl rfl)) pgs_nil))) (fun z2 H4 g4 hz2 => ?_)
    refine g_pair hz2 fun tv rv htv hrv => ?_
    have g04 := g3.trans g4
    have hl4 := g4.keep l _ hl3 (na l)
    refine rs_append (M := .no) (R := fun v H' => Dt K H' v (fr (lagV size cs m (Kt.next cs k i) - ((rise cs k i : Int) : Rat)))) g4.r (eo_var 3 (hs := rfl) (hR := fun _ _ => rfl)) hl4 (na l) (by rw [hxs.length, List.length_map, List.length_take, worthsV_length]; omega)
      (ed_call CMi cx (by decide) (.refl _) (ad_cons (eo_getN (q := (Kt.next cs k i, fr (lagV size cs m (Kt.next cs k i)))) cx (eo_var 2 (hs := rfl) (hR := fun _ _ => rfl)) (ed_var 5 rfl htv) (fun H' g => (hda.gr g04 (na a)).gr g (na a)) (hes i hi')) (ad_cons (ED.cast (ed_tup (ad_cons (ed_var 6 rfl hrv) (ad_cons ed_int ad_nil))) (fr_int _).symm) ad_nil)) ⟨_, _, rfl, smL, smR, rfl⟩) fun y2 H6 g6 hl6 hy2 => ?_
    refine rs_nil ⟨(g04.trans g6).upd hl0 hl6 loc_lst, _, _, _, xs ++ [y2], rfl, upd_same, ?_⟩
    rw [List.take_add_one, hwi, List.map_append]
    exact (((g4.trans g6).dts hxs).mono (sqT_updL hl6)).app (.one (hy2.mono (sqT_updL hl6)))
  · rintro σ' H3 ⟨g3, y, z, t, xs, rfl, hl3, hxs⟩
    rw [Int.toNat_natCast, List.take_of_length_le (by rw [worthsV_length]; exact Nat.le_refl _)] at hxs
    exact rs_ret g3.r (ed_tupleL (K := K) (fun _ => rfl) (fun _ => B.tuple) (eo_var 3 (hs := rfl) (hR := fun H' g => ⟨l, xs, rfl, .of (g.keep l _ hl3 (na l)), g.dts hxs⟩))) fun z H5 g5 hz => q z H5 (g3.trans g5) hz
end
end Kt
end
section
set_option maxHeartbeats 4000000
set_option exponentiation.threshold 5000
/-! Kt: what the constructor needs: lists of dicts, method calls, comprehensions of dicts, insert. -/
namespace Kt
open PySem PySem.Spec PyProof.Rows L2
theorem tab_na {T : Addr} {q : Str} {H : Hp} {b : Addr} {o : HO} (ok : (Mov.tab T q).ok H) (h : H b = some o) (n : NT o) : ¬ (Mov.tab T q).at_ b := fun z => by
  obtain ⟨⟨ps, e, _⟩, _⟩ := ok
  have z' : b = T := z
  rw [z', e] at h
  exact n ps (Option.some.inj h).symm
theorem DN.na {T : Addr} {q : Str} {K : PySem.W.Frag} {P : Program} {w : World} {H : Hp} {a : Addr} {es : List (Key × PyData)} (ok : (Mov.tab T q).ok H) (h : DN K P w H a es) : ¬ (Mov.tab T q).at_ a :=
  let ⟨_, _, e, _⟩ := h
  tab_na ok e ndo_nt
theorem DN.grT {T : Addr} {q : Str} {K : PySem.W.Frag} {P : Program} {w : World} {H H' : Hp} {a : Addr} {es : List (Key × PyData)} (g : Gr (Mov.tab T q) H H') (h : DN K P w H a es) : DN K P w H' a es := h.gr g (h.na g.l)
/-- another thing is changed -/
theorem DN.upd {K : PySem.W.Frag} {P : Program} {w : World} {H : Hp} {a l : Addr} {es : List (Key × PyData)} {o : HO} (h : DN K P w H a es) (hne : a ≠ l) (s : SK K H (L2.upd H l o)) : DN K P w (L2.upd H l o) a es :=
  let ⟨ob, xs, e, nx⟩ := h
  ⟨ob, xs, by rw [upd_ne hne]; exact e, nx.mono s⟩
theorem DN.ne {K : PySem.W.Frag} {P : Program} {w : World} {H : Hp} {a l : Addr} {es : List (Key × PyData)} {o : HO} (h : DN K P w H a es) (hl : H l = some o) (n : ∀ φ, o ≠ .ext φ) : a ≠ l := fun z => by
  obtain ⟨ob, xs, e, _⟩ := h
  rw [z, hl] at e
  exact n _ (Option.some.inj e)
theorem sk_ins {K : PySem.W.Frag} {H : Hp} {l C dx : Addr} {fs : List (Str × V)} {o : HO} (h : H l = some (.ins C dx fs)) : SK K H (upd H l o) := sqT_upd h (fun ys z => by cases z) (fun ob u z => by cases z)
theorem sk_lst {K : PySem.W.Frag} {H : Hp} {l : Addr} {xs : List V} {o : HO} (h : H l = some (.lst xs)) : SK K H (upd H l o) := sqT_updL h
section
variable {ι : Type} {X : ι → Cx} {M M0 : Mov} {P : Program} {w : World} {K : PySem.W.Frag} {mg : Str → Option Value} {base : Heap} {n k : Nat}
variable {σ : L2.St} {H H0 : Hp} {a b e o : Expr} {es : List Expr} {R R' : V → Hp → Prop} {p pos : Pos} {d : PyData} {ds : List PyData} {f : Str} {v : V} {C dx x : Addr} {fs : List (Str × V)}
/-- [e] -/
theorem eo_lst1 (h : EO X M σ H e R) (m : Mono M R) (hs : ∀ j, starEach (e :: []) (X j).env = (false, eval e (X j).env) :: starEach [] (X j).env := by intro _; rfl) : EO X M σ H (.List [e] pos) fun v H' => ∃ a u, v = .ref a ∧ H a = none ∧ H' a = some (.lst [u]) ∧ R u H' := by
  obtain ⟨ta, pa, qa⟩ := h
  refine ⟨_, fun j => pe_lst (pa_cons (pa j) pa_nil (hs j)), fun H1 g Q k => qa H1 g _ fun u H2 g2 hu => ⟨by show 1 ≤ sizeLine; decide, fun p hp => ?_⟩⟩
  have gn : Gr M H2 (upd H2 p (.lst [u])) := .new g2.r hp
  exact k _ _ (g2.trans gn) ⟨p, u, rfl, ((g.trans g2).fresh hp).1, upd_same, m _ _ _ gn hu⟩
theorem eo_calM {pl : Sem Bool} {apos : Pos} {sp : Sp} {ps : List Str} {m : Str} {RA : List V → Hp → Prop} (Cm : CalM P w K mg base C k m ps sp) (c : Cls K C) (cx : CxIs X P w K mg base n) (hk : k ≤ n) (ho : EO X M σ H o fun u _ => u = .ref x)
    (hx : ∀ H', Gr M H H' → H' x = some (.ins C dx fs)) (hl : fs.lookup m = none) (ha : AO X M σ H (e :: es) RA) (hsp : ∀ vs H1, Gr M H H1 → RA vs H1 → ∀ Q : VK, (∀ v H2, Gr M H1 H2 → R v H2 → Q v H2) → sp (.ref x :: vs) H1 Q E0)
    (hst : ∀ j, starEach (e :: es) (X j).env = (false, eval e (X j).env) :: starEach es (X j).env := by intro _; rfl) (hpl : ∀ j, (backTo pos (starEach es (X j).env)).any (·.1) = false := by intro _; rfl)
    (ht : ∀ j, eval (.Call (.Attribute o m apos) (e :: es) [] pos) (X j).env = (do
      let ov ← eval o (X j).env
      standAt apos.atName
      let (f, first) ← holding [ov] (getMethod ov m pl)
      callWith pos f first (backTo pos (starEach (e :: es) (X j).env)) (backToKw pos (keywordEach [] (X j).env))) := by intro _; rfl) : EO X M σ H (.Call (.Attribute o m apos) (e :: es) [] pos) R := by
  obtain ⟨to, po, qo⟩ := ho
  obtain ⟨ta, pa, qa⟩ := ha
  refine ⟨_, fun j => pe_calM (pl := pl) Cm c cx hk j (po j) (pa j) (hst j) (hpl j) (ht j), fun H1 g Q q => qo H1 g _ fun u H2 g2 hu => ?_⟩
  refine ⟨x, dx, fs, hu, hx H2 (g.trans g2), hl, qa H2 (g.trans g2) _ fun vs H3 g3 r => ?_⟩
  rw [hu, List.append_nil]
  exact hsp vs H3 ((g.trans g2).trans g3) r Q fun v H4 g4 r4 => q v H4 ((g2.trans g3).trans g4) r4
/-- l[-2::-1] -/
theorem eo_back {k1 k2 : Nat} {p1 p2 p3 p4 p5 : Pos} {l : Addr} {xs : List V} (hK : ∀ j, (X j).K = K) (ho : EO X M σ H o fun u _ => u = .ref l) (hl : ∀ H', Gr M H H' → H' l = some (.lst xs)) :
    EO X M σ H (.Subscript o (.Slice (some (.UnaryOp .USub (.Constant (.int 2) k1 p4) p5)) none (some (.UnaryOp .USub (.Constant (.int 1) k2 p1) p2)) p3) pos) fun v H' => ∃ b, v = .ref b ∧ H b = none ∧ H' b = some (.lst (xs.take (xs.length - 1)).reverse) := by
  obtain ⟨to, po, qo⟩ := ho
  refine ⟨tBack K to, fun j => by rw [← hK j]; exact pe_back (po j), fun H1 g Q k => qo H1 g _ fun u H2 g2 hu => ⟨l, xs, hu, .of (hl H2 (g.trans g2)), fun p hp => ?_⟩⟩
  exact k _ _ (g2.trans (.new g2.r hp)) ⟨p, rfl, ((g.trans g2).fresh hp).1, upd_same⟩
end
section
variable {ι : Type} {X : ι → Cx} {P : Program} {w : World} {K : PySem.W.Frag} {mg : Str → Option Value} {base : Heap} {n : Nat} {M : Mov}
variable {σ : L2.St} {H H0 : Hp} {vx iter : Expr} {scope : Scope} {te : TE} {pos px pk : Pos} {a : Addr} {es : List (Key × PyData)} {x : Str} {ix : Nat}
/-- {x: v for x in d} -/
theorem eo_dcN (F : Key → PyData) (cx : CxIs X P w K mg base n) (hN : ∀ j, (X j).N.Nodup) (hi : EO X M σ H iter fun u _ => u = .ref a) (hd : DN K P w H a es) (hna : ¬ M.at_ a) (hnd : (es.map (·.1)).Nodup) (hlen : es.length ≤ 3000) (ok : ∀ j, BlkOk (X j).N (X j).env.scope scope [(x, ix)])
    (hix : ix < σ.length) (hg : ∀ j (s : Shared) (H : Hp) (C : Addr) (cl : List (Str × Addr)) (fp : List Addr), PG ((X j).blk s H scope (compEnvC scope cl C (X j).env) fp) (.Name x px) (gName ix))
    (hk : ∀ j (s : Shared) (H : Hp) (C : Addr) (cl : List (Str × Addr)) (fp : List Addr), PE ((X j).blk s H scope (compEnvC scope cl C (X j).env) fp) (.Name x pk) (tVar ix))
    (he : ∀ j (s : Shared) (H : Hp) (C : Addr) (cl : List (Str × Addr)) (fp : List Addr), PE ((X j).blk s H scope (compEnvC scope cl C (X j).env) fp) vx te)
    (q : ∀ (p : Key × PyData) (v : V) (H1 : Hp), p ∈ es → Gr M H H1 → Dt K H1 v (keyD p.1) → QD K M te ((wipe σ [ix]).set ix (some v)) H1 (F p.1))
    (hs : ∀ j x, foldedSetIterable iter (X j).env x = pure x := by intro _ _; rfl) : EO X M σ H (.DictComp (.Name x pk) vx [⟨.Name x px, iter, [], 0⟩] scope pos) fun v H' => ∃ c, v = .ref c ∧ H c = none ∧ DN K P w H' c (es.map fun p => (p.1, F p.1)) := by
  obtain ⟨ti, pi, qi⟩ := hi
  obtain ⟨ob, xs, ea, nx⟩ := hd
  refine ⟨tDcN K P w (iKeysN P w ti) (gName ix) (tVar ix) te [ix], fun j => ?_, fun H1 g1 Q k => ?_⟩
  · have pI := pi_nd (tg := .Name x px) (pi j)
    have := pe_dcN (X := X j) (pos := pos) (own := [(x, ix)]) (by have := (cx.room j).units; omega) (cx.calm j) (hN j) pI (ok j) (hg j) (hk j) (he j) (hs j)
    rw [cx.K, cx.P, cx.w] at this
    exact this
  · refine qi H1 g1 _ fun v H2 g2 hv => ?_
    have g12 := g1.trans g2
    refine ⟨a, ob, xs, hv, g12.keep a _ ea hna, fun D o0 hD => ?_⟩
    have hDH := (g12.fresh hD).1
    have gn : Gr M H2 (upd H2 D (NDo P w D o0 [])) := .new g2.r hD ndo_nt
    have nD : ¬ M.at_ D := not_at g2.r hD
    refine dcn_nd (K := K) (d := a) (o := ob) (xs := xs) (fun i H' => Gr M H2 H' ∧ DN K P w H' D ((es.take i).map fun p => (p.1, F p.1))) ⟨gn, o0, [], upd_same, .nil⟩ (fun i H' h => (g12.trans h.1).keep a _ ea hna) (fun i qe H' hqi h => ?_) fun H' h => ?_
    · obtain ⟨p, hpi, _, hkd, _⟩ := (nx.mono (g12.trans h.1).sk).get' hqi
      refine ⟨wipe1, ?_⟩
      have hv0 : ((wipe σ [ix]).set ix (some (.ref qe.2.1)))[ix]? = some (some (.ref qe.2.1)) := by
        rw [List.getElem?_set_self (by rw [wipe_length]; exact hix)]
      refine ⟨.ref qe.2.1, hv0, ?_⟩
      refine q p (.ref qe.2.1) H' (List.mem_of_getElem? hpi) (g12.trans h.1) hkd H' (.refl h.1.r) _ fun u H3 g3 hu => ?_
      obtain ⟨o3, ys, e3, ny⟩ := h.2.gr g3 nD
      have hil := (List.getElem?_eq_some_iff.mp hpi).1
      have hnew : p.1 ∉ ((es.take i).map fun p => (p.1, F p.1)).map (·.1) := by
        rw [List.map_map]
        intro z
        obtain ⟨p', hp', e'⟩ := List.mem_map.mp z
        obtain ⟨i', hi'⟩ := List.mem_iff_getElem?.mp hp'
        rw [List.getElem?_take] at hi'
        split at hi'
        · rename_i hlt
          have e1 : (es.map (·.1))[i']? = some p.1 := by rw [List.getElem?_map, hi']; exact congrArg some e'
          have e2 : (es.map (·.1))[i]? = some p.1 := by rw [List.getElem?_map, hpi]; rfl
          have := (List.getElem?_inj (by rw [List.length_map]; omega) hnd).mp (e1.trans e2.symm)
          omega
        · cases hi'
      refine ⟨qe.2.1, p.1, o3, ys, _, rfl, e3, ny, ?_, g3.dt hkd, fun u' o' r => ⟨(h.1.trans g3).upd hD e3 ndo_loc ndo_nt, o', _, upd_same, ?_⟩⟩
      · rw [← ny.len, List.length_map, List.length_take]
        exact Nat.lt_of_le_of_lt (Nat.le_trans (Nat.min_le_right _ _) hlen) sizeBig
      · have := (ny.put (g3.dt hkd) r hu).mono (sk_nd (o2 := NDo P w D o' (storedH ys (nk p.1) qe.2.1 u')) e3)
        rw [putE_new hnew] at this
        rw [List.take_add_one, hpi, List.map_append]
        exact this
    · rw [← nx.len, List.take_length] at h
      exact k _ _ (g2.trans h.1) ⟨D, rfl, hDH, h.2⟩
end
section
variable {X : Cx} {M : Mov} {K : PySem.W.Frag} {σ : L2.St} {H : Hp} {rest : List Stmt} {D : Ends} {o e : Expr} {pos : Pos} {R : V → Hp → Prop} {k0 : Nat} {pk : Pos}
/-- l.insert(0, e) -/
theorem rs_insert0 {l : Addr} {xs : List V} {p1 p2 : Pos} (ok : M.ok H) (hO : EO (fun _ : Unit => X) M σ H o (fun v _ => v = .ref l)) (hl : H l = some (.lst xs)) (hna : ¬ M.at_ l) (hz : xs.length ≤ 100000) (he : EO (fun _ : Unit => X) M σ H e R)
    (k : ∀ v H1, Gr M H H1 → H1 l = some (.lst xs) → R v H1 → RS X rest D σ (upd H1 l (.lst (v :: xs))))
    (hs : swapsWith (.Call (.Attribute o "insert" p1) [.Constant (.int 0) k0 pk, e] [] p2) none pos.line X.env = pure false := by rfl)
    (hbase : attributeBase o "insert" X.env (eval o X.env) = eval o X.env := by rfl)
    (hfew : ((backTo p2 (starEach (.Constant (.int 0) k0 pk :: [e]) X.env)).all (fun x => !x.1) && (backToKw p2 (keywordEach [] X.env)).all (fun x => x.1.isSome)
      && decide ((Expr.Constant (.int 0) k0 pk :: [e]).length + ([] : List Keyword).length + (if ([] : List Keyword).isEmpty then 0 else 1) < 30)) = true := by rfl)
    (hline : (p1.endLine == p2.line) = true := by rfl) (hst : starEach (.Constant (.int 0) k0 pk :: [e]) X.env = (false, eval (.Constant (.int 0) k0 pk) X.env) :: starEach [e] X.env := by rfl) (hst2 : starEach (e :: []) X.env = (false, eval e X.env) :: starEach [] X.env := by rfl) (hpl : (backTo p2 (starEach [e] X.env)).any (·.1) = false := by rfl) :
    RS X (.Expr (.Call (.Attribute o "insert" p1) [.Constant (.int 0) k0 pk, e] [] p2) pos :: rest) D σ H := by
  obtain ⟨to, po, qo⟩ := hO
  obtain ⟨te, pe, qe⟩ := he
  refine rs_cons (ps_expr (pe_bm PySem.F.plainAttrs_list PySem.F.slot_list_insert PySem.F.type_list_insert mt_insert (po ()) (pa_cons pe_int (pa_cons (pe ()) pa_nil hst2) hst) hbase hfew hline hst hpl) hs) ?_
  refine qo H (.refl ok) _ fun v H1 g1 hv => ?_
  subst hv
  have h1 := g1.keep l _ hl hna
  refine ⟨.inl ⟨rfl, _, SqL.of h1⟩, ?_⟩
  refine qe H1 g1 _ fun u H2 g2 hu => ?_
  have h2 := g2.keep l _ h1 hna
  refine ⟨l, xs, 0, u, rfl, rfl, h2, Nat.lt_of_le_of_lt hz (by decide), by omega, by decide, ?_⟩
  exact k u H2 (g1.trans g2) h2 hu
end
end Kt
end
section
set_option maxHeartbeats 4000000
set_option exponentiation.threshold 5000
/-! Kt: the constructor of Lags. -/
namespace Kt
open PySem PySem.Spec PyProof.Rows L2
/-- dicts stay -/
def KN (K : PySem.W.Frag) (P : Program) (w : World) (H H' : Hp) : Prop := ∀ a es, DN K P w H a es → DN K P w H' a es
section
variable {K : PySem.W.Frag} {P : Program} {w : World} {H H1 H2 : Hp} {T : Addr} {q : Str} {l C dx : Addr} {xs : List V} {fs : List (Str × V)} {o : HO}
theorem KN.trans (a : KN K P w H H1) (b : KN K P w H1 H2) : KN K P w H H2 := fun c es h => b c es (a c es h)
theorem kn_gr (g : Gr (Mov.tab T q) H H1) : KN K P w H H1 := fun _ _ h => h.grT g
theorem kn_lst (h : H l = some (.lst xs)) : KN K P w H (upd H l o) := fun _ _ d => d.upd (d.ne h fun φ z => by cases z) (sk_lst h)
theorem kn_ins (h : H l = some (.ins C dx fs)) : KN K P w H (upd H l o) := fun _ _ d => d.upd (d.ne h fun φ z => by cases z) (sk_ins h)
end
/-- the layers 0 to m -/
def Lays (K : PySem.W.Frag) (P : Program) (w : World) (size : Nat) (cs : List Adv) (H : Hp) (xs : List V) (m : Nat) : Prop := xs.length = m + 1 ∧ ∀ j, j ≤ m → ∃ a es, xs[j]? = some (.ref a) ∧ DN K P w H a es ∧ LayK size cs j es
theorem Lays.keep {K : PySem.W.Frag} {P : Program} {w : World} {size : Nat} {cs : List Adv} {H H' : Hp} {xs : List V} {m : Nat} (h : Lays K P w size cs H xs m) (k : KN K P w H H') : Lays K P w size cs H' xs m :=
  ⟨h.1, fun j hj => let ⟨a, es, e, d, y⟩ := h.2 j hj; ⟨a, es, e, k a es d, y⟩⟩
/-- what a lag's dict holds -/
def LagE (size : Nat) (cs : List Adv) (n j : Nat) (es : List (Key × PyData)) : Prop := ∀ k, Reach size cs j k → (k, fr (lagV size cs (n - j) k)) ∈ es
/-- the lags from level b on -/
def Lagl (K : PySem.W.Frag) (P : Program) (w : World) (size : Nat) (cs : List Adv) (n : Nat) (H : Hp) (zs : List V) (b : Nat) : Prop := zs.length = n - b + 1 ∧ ∀ j, b ≤ j → j ≤ n → ∃ a es, zs[j - b]? = some (.ref a) ∧ DN K P w H a es ∧ LagE size cs n j es
theorem Lagl.keep {K : PySem.W.Frag} {P : Program} {w : World} {size : Nat} {cs : List Adv} {n : Nat} {H H' : Hp} {xs : List V} {m : Nat} (h : Lagl K P w size cs n H xs m) (k : KN K P w H H') : Lagl K P w size cs n H' xs m :=
  ⟨h.1, fun j hb hj => let ⟨a, es, e, d, y⟩ := h.2 j hb hj; ⟨a, es, e, k a es d, y⟩⟩
def fsL (cv bv : V) (L : Addr) : List (Str × V) := [(("circle" : Str), cv), (("begin" : Str), bv), (("lags" : Str), .ref L)]
/-- the instance at x is the lags of the circle for n letters -/
def LagsAt (K : PySem.W.Frag) (P : Program) (w : World) (C : Addr) (size : Nat) (cs : List Adv) (n : Nat) (H : Hp) (x : Addr) : Prop :=
  ∃ dx cv bv L zs, H x = some (.ins C dx (fsL cv bv L)) ∧ Dt K H cv (circD size cs) ∧ Dt K H bv (keyD (start0 cs)) ∧ H L = some (.lst zs) ∧ Lagl K P w size cs n H zs 0
theorem LagsAt.gr {K : PySem.W.Frag} {P : Program} {w : World} {C : Addr} {size : Nat} {cs : List Adv} {n : Nat} {H H' : Hp} {x T : Addr} {q : Str} (g : Gr (Mov.tab T q) H H') (h : LagsAt K P w C size cs n H x) : LagsAt K P w C size cs n H' x :=
  let ⟨dx, cv, bv, L, zs, h1, h2, h3, h4, h5⟩ := h
  ⟨dx, cv, bv, L, zs, g.keep x _ h1 (tab_na g.l h1 fun ps z => by cases z), g.dt h2, g.dt h3, g.keep L _ h4 (tab_na g.l h4 fun ps z => by cases z), h5.keep (kn_gr g)⟩
structure CalI (P : Program) (w : World) (K : PySem.W.Frag) (mg : Str → Option Value) (base : Heap) (C : Addr) (k : Nat) (ps : List Str) (sp : Sp) : Prop where
  ex : ∃ f fd, FnOk P w K mg base CX0 k f fd ps sp ∧ Mk K C f ∧ Binds K fd ps []
structure HasI (K : PySem.W.Frag) (C : Addr) (q : Str) (st : Stmt) : Prop where
  ex : ∃ f fd, FunD K "__init__" q (defArgs st) (defBody st) (defScope st) [] [] f fd ∧ Mk K C f
section
variable {P : Program} {w : World} {K : PySem.W.Frag} {mg : Str → Option Value} {base : Heap} {C : Addr}
theorem calI_of {q : Str} {st : Stmt} {N ps : List Str} {k : Nat} {sp : Sp} (F : HasI K C q st) (S : FnScope N ps (defScope st)) (len : ∀ vs H Q E, sp vs H Q E → vs.length = ps.length)
    (hb : ∀ (kV doc pm : Value) (an : Option Addr) (cdv ct : Value) (us : List Value), us.length = ps.length → bindArgs (PySem.W.fnOf "__init__" q (defArgs st) (defBody st) (defScope st) .none kV doc pm an cdv ct) ⟨us, []⟩ = pure (ps.zip us))
    (body : ∀ (f : Addr) (cdv : Value) (A : Around) (outer : List Env) (s : Shared) (H : Hp) (vs : List V) (Q : VK) (E : XK), CxIs (fun _ : Unit => bX P w K mg base N q (defScope st) f cdv A outer s H E) P w K mg base k → sp vs H Q E →
      RS (bX P w K mg base N q (defScope st) f cdv A outer s H E) (defBody st) { nx := fun _ H' => Q .non H', rt := Q } (start N vs) H) : CalI P w K mg base C (k + 1) ps sp := by
  obtain ⟨f, fd, F, m⟩ := F.ex
  refine ⟨f, fd, ?_, m, F.bindsN hb⟩
  refine FunD.ok F S len fun cdv A outer s H vs Q E hr h => ⟨_, (pss_rs _ _).nox, ?_⟩
  exact body f cdv A outer s H vs Q E ⟨fun _ => rfl, fun _ => rfl, fun _ => rfl, fun _ => rfl, fun _ => rfl, fun _ => hr, fun _ => rfl⟩ h
end
def spInit (K : PySem.W.Frag) (P : Program) (w : World) (C T : Addr) : Sp := fun vs H Q _ => ∃ (H0 : Hp) (x dx : Addr) (cv : V) (size : Nat) (cs : List Adv) (n : Nat), vs = [.ref x, cv, .int (n : Int)] ∧ Gr (Mov.tab T lamQ) H0 H ∧ H0 x = none ∧ H x = some (.ins C dx []) ∧ Dt K H cv (circD size cs) ∧ CircOk size cs ∧ Fits size cs n ∧ n ≤ 10 ∧
  ∀ H', Gr (Mov.tab T lamQ) H0 H' → LagsAt K P w C size cs n H' x → Q .non H'
theorem putF2 {cv bv : V} : putF ("begin" : Str) bv [(("circle" : Str), cv)] = [(("circle" : Str), cv), (("begin" : Str), bv)] := rfl
theorem putF3 {cv bv : V} {L : Addr} : putF ("lags" : Str) (.ref L) [(("circle" : Str), cv), (("begin" : Str), bv)] = fsL cv bv L := rfl
section
variable {P : Program} {w : World} {K : PySem.W.Frag} {mg : Str → Option Value} {base : Heap} {C T : Addr}
theorem c_init (F : HasI K C "Lags.__init__" (inL 0)) (L : HasL K mg C) (B : Blt mg) (U : Cst mg) (N0 : FrC K mg "NOUGHT" 0) (CB : CalM P w K mg base C 2 "behind" ["self", "layer"] (spBehind K P w C)) (CW : CalM P w K mg base C 3 "worths" ["self", "key", "later"] (spWorths K P w C))
    (CR : Cal P w K mg base 7 "raw_level" ["worths"] (DS K (Mov.tab T lamQ) RLevel)) : CalI P w K mg base C 8 ["self", "circle", "many"] (spInit K P w C T) := by
  have sc : FnScope ["self", "circle", "many", "layers", "_", "layer", "later", "adviser", "key"] ["self", "circle", "many"] (defScope (inL 0)) := ⟨rfl, rfl, rfl, by decide +kernel, rfl, by decide +kernel, by decide +kernel⟩
  refine calI_of F sc (fun vs H Q E ⟨H0, x, dx, cv, size, cs, n, e, _⟩ => by rw [e]; rfl) (fun _ _ _ _ _ _ us hl => match us, hl with | [_, _, _], _ => rfl) (fun f cdv A outer s H vs Q E cx h => ?_)
  obtain ⟨H0, x, dx, cv, size, cs, n, rfl, g0, hx0, hx, hcv, hc, hfit, hn, q⟩ := h
  have nax : ¬ (Mov.tab T lamQ).at_ x := not_at g0.l hx0
  have hf4 := hc.few
  -- self.circle
  refine rs_fld (M := Mov.tab T lamQ) (R := fun v _ => v = cv) rfl g0.r (eo_var 1 (hs := rfl) (hR := fun _ _ => rfl)) mono_eq (fun H1 g => eo_var 0 (hs := rfl) (hR := fun _ _ => rfl)) L.cls L.na1 hx nax (by decide) fun v H1 g1 hv hx1 => ?_
  subst hv
  have ga : Gr (Mov.tab T lamQ) H0 (upd H1 x (.ins C dx [("circle", v)])) := (g0.trans g1).upd hx0 hx1 loc_ins
  have hxa : upd H1 x (.ins C dx [("circle", v)]) x = some (.ins C dx [("circle", v)]) := upd_same
  have hcva : Dt K (upd H1 x (.ins C dx [("circle", v)])) v (circD size cs) := (g1.dt hcv).mono (sk_ins hx1)
  show RS _ _ _ _ (upd H1 x (.ins C dx [("circle", v)]))
  generalize upd H1 x (.ins C dx [("circle", v)]) = Ha at ga hxa hcva ⊢
  clear hx1 hcv g1 hx g0
  -- self.begin
  unfold circD at hcva
  refine rs_fld (M := Mov.tab T lamQ) (R := fun u H' => Dt K H' u (keyD (start0 cs))) rfl ga.r (ed_tupleL (K := K) (ds := (start0 cs).map sgD) (fun _ => rfl) (fun _ => B.tuple) (EO.imp (eo_lcT (fs := (start0 cs).map sgD) (te := tTup (tCons (tC (.int 0)) (tCons (tC (.int 0)) tNil))) (ix := 7) cx (fun _ => sc.nd) (ed_var 1 rfl hcva)
      (fun _ => blkOk_by (own := [("adviser", 7)]) (N := ["self", "circle", "many", "layers", "_", "layer", "later", "adviser", "key"]) (sc := defScope (inL 0)) (by decide +kernel)) (fun _ _ _ _ _ _ => pg_name (i := 7) sc.nd rfl (Or.inl rfl)) (fun _ _ _ _ _ _ => pe_tup (pa_cons pe_int (pa_cons pe_int pa_nil))) (by rw [List.length_map, List.length_map, start0_length]) (by rw [List.length_map]; omega) fun i y d f H2 hdi hfi g2 hy => ?_) fun v H1 _ h => nwL h)) mono_dt
    (fun H1 g => eo_var 0 (hs := rfl) (hR := fun _ _ => rfl)) L.cls L.na2 hxa nax (by show 1 < 1000; omega) fun bv H1 g1 hbv hx1 => ?_
  · unfold start0 at hfi
    rw [List.map_map, List.getElem?_map] at hfi
    cases hi : cs[i]? with
    | none => rw [hi] at hfi; cases hfi
    | some a =>
      rw [hi] at hfi
      cases hfi
      exact qd_tup (qa_cons qd_int (qa_cons qd_int qa_nil))
  rw [putF2]
  have gb : Gr (Mov.tab T lamQ) H0 (upd H1 x (.ins C dx [("circle", v), ("begin", bv)])) := (ga.trans g1).upd hx0 hx1 loc_ins
  have hxb : upd H1 x (.ins C dx [("circle", v), ("begin", bv)]) x = some (.ins C dx [("circle", v), ("begin", bv)]) := upd_same
  have hcvb : Dt K (upd H1 x (.ins C dx [("circle", v), ("begin", bv)])) v (circD size cs) := (g1.dt hcva).mono (sk_ins hx1)
  have hbvb : Dt K (upd H1 x (.ins C dx [("circle", v), ("begin", bv)])) bv (keyD (start0 cs)) := hbv.mono (sk_ins hx1)
  generalize upd H1 x (.ins C dx [("circle", v), ("begin", bv)]) = Hb at gb hxb hcvb hbvb ⊢
  clear hx1 hbv hcva hxa g1
  -- layers
  refine rs_set 3 gb.r (eo_lst1 (eo_oneN (K := K) (d := .bool true) (key := start0 cs) cx (eo_fld (v := bv) cx.K (eo_var 0 (hs := rfl) (hR := fun _ _ => rfl)) L.cls L.na2 rfl (fun H' g => g.keep x _ hxb nax) (fun H' g => g.dt hbvb)) ed_bl) (fun v H H' g ⟨c, e, n, d⟩ => ⟨c, e, n, d.grT g⟩)) (fun u H1 g1 hu => ?_) sc.nd
  obtain ⟨l, u0, rfl, hlb, hl1, c0, rfl, _, hdc⟩ := hu
  have nal : ¬ (Mov.tab T lamQ).at_ l := not_at gb.r hlb
  have hl0 : H0 l = none := (gb.fresh hlb).1
  have gc := gb.trans g1
  have hlays : Lays K P w size cs H1 [.ref c0] 0 := ⟨rfl, fun j hj => by
    obtain rfl : j = 0 := by omega
    refine ⟨c0, _, rfl, hdc, by simp, fun k => ⟨fun hk => ?_, fun hk => ?_⟩⟩
    · simp at hk
      rw [hk]
      exact Reach.zero
    · obtain ⟨r, hr, _, e⟩ := hk
      rw [List.length_eq_zero_iff.mp hr] at e
      rw [← e]
      simp [after]⟩
  -- for _ in range(many)
  have hxc := g1.keep x _ hxb nax
  have hcvc := g1.dt hcvb
  have hbvc := g1.dt hbvb
  refine rs_forR (K := K) PassesOwn.never rfl g1.r B.range (ed_var 2 rfl (.int (n : Int))) (by omega) (by omega) (pg_name (i := 4) sc.nd rfl (Or.inl rfl)) fun H2 g2 => ?_
  refine ⟨fun i σ' H' => Gr (Mov.tab T lamQ) H0 H' ∧ ∃ (t : Option V) (xs : List V), σ' = [some (.ref x), some v, some (.int (n : Int)), some (.ref l), t, none, none, none, none] ∧ H' x = some (.ins C dx [(("circle" : Str), v), (("begin" : Str), bv)]) ∧ Dt K H' v (circD size cs) ∧ Dt K H' bv (keyD (start0 cs)) ∧ H' l = some (.lst xs) ∧ Lays K P w size cs H' xs i,
    ⟨gc.trans g2, none, _, rfl, g2.keep x _ hxc nax, g2.dt hcvc, g2.dt hbvc, g2.keep l _ hl1 nal, hlays.keep (kn_gr g2)⟩, ?_, ?_⟩
  · rintro i σ' H3 hi ⟨g3, t, xs, rfl, hx3, hcv3, hbv3, hl3, hy3⟩
    have hi' : i < n := by omega
    obtain ⟨a, es, hai, hda, hlay⟩ := hy3.2 i (Nat.le_refl _)
    have hat : atI xs (-1) = some (.ref a) := by
      have h1 := hy3.1
      have : atI xs (-(1 : Int)) = some (.ref a) := by
        unfold atI
        have e : ixN xs.length (-(1 : Int)) = some i := by
          unfold ixN
          simp
          omega
        rw [e]
        exact hai
      exact this
    refine rs_append (R := fun v H' => ∃ b es', v = .ref b ∧ DN K P w H' b es' ∧ LayK size cs (i + 1) es') g3.r (eo_var 3 (hs := rfl) (hR := fun _ _ => rfl)) hl3 nal (by rw [hy3.1]; omega)
      (eo_calM (RA := AR [fun u H' => u = .ref a]) CB L.cls cx (by decide) (eo_var 0 (hs := rfl) (hR := fun _ _ => rfl)) (fun H' g => g.keep x _ hx3 nax) rfl
        (ao_cons (eo_ixL (p := l) (xs := xs) (R := fun u _ => u = .ref a) (fun _ => rfl) (eo_var 3 (hs := rfl) (hR := fun H' g => ⟨rfl, .of (g.keep l _ hl3 nal)⟩)) (ed_neg (K := K) ed_int) hat (fun H' g => .of (g.keep l _ hl3 nal)) (fun _ _ => rfl)) mono_eq ao_nil)
        (fun vs H4 g4 hvs Q' k => ?_)) fun y2 H6 g6 hl6 hy2 => ?_
    · obtain ⟨_, _, rfl, rfl, rfl⟩ := hvs
      refine ⟨x, dx, _, v, size, cs, a, es, i, rfl, g4.keep x _ hx3 nax, rfl, g4.dt hcv3, hc, hda.grT g4, hlay, fun l hnd hr => hfit (i + 1) (by omega) l hnd hr, fun b H' es' g' _ hdb hlb => ?_⟩
      exact k (.ref b) H' ((Sub.no _).gr _ _ g4.r g') ⟨b, es', rfl, hdb, hlb⟩
    · obtain ⟨b, es', rfl, hdb, hlb⟩ := hy2
      refine rs_nil ⟨(g3.trans g6).upd hl0 hl6 loc_lst, _, xs ++ [.ref b], rfl, ?_, ?_, ?_, upd_same, ?_⟩
      · rw [upd_ne (ne_of (g6.keep x _ hx3 nax) hl6 (fun z => by cases z))]
        exact g6.keep x _ hx3 nax
      · exact (g6.dt hcv3).mono (sk_lst hl6)
      · exact (g6.dt hbv3).mono (sk_lst hl6)
      · have h1 := hy3.1
        refine ⟨by rw [List.length_append, h1]; rfl, fun j hj => ?_⟩
        by_cases e : j ≤ i
        · obtain ⟨a, es, e1, e2, e3⟩ := hy3.2 j e
          exact ⟨a, es, by rw [List.getElem?_append_left (by omega)]; exact e1, kn_lst hl6 _ _ (e2.grT g6), e3⟩
        · obtain rfl : j = i + 1 := by omega
          exact ⟨b, es', by rw [List.getElem?_append_right (by omega), h1, Nat.sub_self]; rfl, kn_lst hl6 _ _ hdb, hlb⟩
  · rintro σ' H3 ⟨g3, t, xs, rfl, hx3, hcv3, hbv3, hl3, hy3⟩
    rw [Int.toNat_natCast] at hy3
    -- self.lags
    obtain ⟨a, es, hai, hda, hlay⟩ := hy3.2 n (Nat.le_refl _)
    have hlenx := hy3.1
    have hat : atI xs (-(1 : Int)) = some (.ref a) := by
      unfold atI
      have e : ixN xs.length (-(1 : Int)) = some n := by
        unfold ixN
        simp
        omega
      rw [e]
      exact hai
    have hesl : ∀ j es, j ≤ n → LayK size cs j es → es.length ≤ 3000 := fun j es hj h => by
      have := hfit j hj (es.map (·.1)) h.1 fun k hk => (h.2 k).mp hk
      rw [List.length_map] at this
      exact this
    obtain ⟨nv, nu, hn1, hn2, hn3⟩ := N0
    refine rs_fld (M := Mov.tab T lamQ) (R := fun u H' => ∃ L0 c, u = .ref L0 ∧ H3 L0 = none ∧ H' L0 = some (.lst [.ref c]) ∧ DN K P w H' c (es.map fun p => (p.1, fr 0))) rfl g3.r
      (EO.imp (eo_lst1 (eo_dcN (n := 7) (K := K) (P := P) (w := w) (te := tC nv) (fun _ => fr 0) cx (fun _ => sc.nd) (eo_ixL (p := l) (xs := xs) (R := fun u _ => u = .ref a) (fun _ => rfl) (eo_var 3 (hs := rfl) (hR := fun H' g => ⟨rfl, .of (g.keep l _ hl3 nal)⟩)) (ed_neg (K := K) ed_int) hat (fun H' g => .of (g.keep l _ hl3 nal)) (fun _ _ => rfl)) hda (hda.na g3.r) hlay.1 (hesl n es (Nat.le_refl _) hlay)
        (fun _ => blkOk_by (own := [("key", 8)]) (N := ["self", "circle", "many", "layers", "_", "layer", "later", "adviser", "key"]) (sc := defScope (inL 0)) (by decide +kernel)) (by show 8 < 9; omega) (fun _ _ _ _ _ _ => pg_name (i := 8) sc.nd rfl (Or.inl rfl)) (fun _ _ _ _ _ _ => pv 8) (fun _ _ _ _ _ _ => ?_) (fun p u H4 hp g4 hu => ?_)) (fun v H H' g ⟨c, e, n, d⟩ => ⟨c, e, n, d.grT g⟩)) fun u H4 _ ⟨L0, u0, e, hn, hl, c, e2, _, hd⟩ => ⟨L0, c, e, hn, by rw [hl, e2], hd⟩) (fun u H H' g ⟨L0, c, e, hn, hl, hd⟩ => ⟨L0, c, e, hn, g.keep L0 _ hl (tab_na g.l hl fun ps z => by cases z), hd.grT g⟩)
      (fun H1 g => eo_var 0 (hs := rfl) (hR := fun _ _ => rfl)) L.cls L.na3 hx3 nax (by show 2 < 1000; omega) fun lv H4 g4 hlv hx4 => ?_
    · exact pe_glob rfl hn1 hn2
    · exact fun H5 g5 Q' k => k nv H5 (.refl g5.r) (hn3 H5)
    obtain ⟨L0, c, rfl, hL3, hL4, hdc⟩ := hlv
    rw [putF3]
    have naL : ¬ (Mov.tab T lamQ).at_ L0 := not_at g3.r hL3
    have hL0 : H0 L0 = none := (g3.fresh hL3).1
    have neL : L0 ≠ x := fun z => by rw [z, hx3] at hL3; cases hL3
    have neLl : L0 ≠ l := fun z => by rw [z, hl3] at hL3; cases hL3
    have gd : Gr (Mov.tab T lamQ) H0 (upd H4 x (.ins C dx (fsL v bv L0))) := (g3.trans g4).upd hx0 hx4 loc_ins
    have hx5 : upd H4 x (.ins C dx (fsL v bv L0)) x = some (.ins C dx (fsL v bv L0)) := upd_same
    have hL5 : upd H4 x (.ins C dx (fsL v bv L0)) L0 = some (.lst [.ref c]) := by rw [upd_ne neL]; exact hL4
    have hl4 := g4.keep l _ hl3 nal
    have hl5 : upd H4 x (.ins C dx (fsL v bv L0)) l = some (.lst xs) := by rw [upd_ne (ne_of hl4 hx4 (fun z => by cases z))]; exact hl4
    have hcv5 : Dt K (upd H4 x (.ins C dx (fsL v bv L0))) v (circD size cs) := (g4.dt hcv3).mono (sk_ins hx4)
    have hbv5 : Dt K (upd H4 x (.ins C dx (fsL v bv L0))) bv (keyD (start0 cs)) := (g4.dt hbv3).mono (sk_ins hx4)
    have hy5 : Lays K P w size cs (upd H4 x (.ins C dx (fsL v bv L0))) xs n := (hy3.keep (kn_gr g4)).keep (kn_ins hx4)
    have hlg5 : Lagl K P w size cs n (upd H4 x (.ins C dx (fsL v bv L0))) [.ref c] (n - 0) := by
      refine ⟨by simp, fun j hb hj => ⟨c, _, ?_, kn_ins hx4 _ _ hdc, fun k hk => ?_⟩⟩
      · rw [show j - (n - 0) = 0 by omega]
        rfl
      · obtain rfl : j = n := by omega
        rw [Nat.sub_self]
        obtain ⟨p, hp, e⟩ := List.mem_map.mp ((hlay.2 k).mpr hk)
        exact List.mem_map.mpr ⟨p, hp, by rw [e]; rfl⟩
    generalize upd H4 x (.ins C dx (fsL v bv L0)) = H5 at gd hx5 hL5 hl5 hcv5 hbv5 hy5 hlg5 ⊢
    clear hx4 hL4 hdc hl4 g4
    have hylen : (xs.take (xs.length - 1)).reverse.length = n := by rw [List.length_reverse, List.length_take]; omega
    refine rs_forN (K := K) (R := fun v H' => ∃ b, v = .ref b ∧ H5 b = none ∧ H' b = some (.lst (xs.take (xs.length - 1)).reverse)) PassesOwn.never rfl rfl gd.r (eo_back (fun _ => rfl) (eo_var 3 (hs := rfl) (hR := fun _ _ => rfl)) (fun H' g => g.keep l _ hl5 nal)) (pg_name (i := 5) sc.nd rfl (Or.inl rfl)) fun vb H6 g6 hvb => ?_
    obtain ⟨b, rfl, hb5, hb6⟩ := hvb
    have nab : ¬ (Mov.tab T lamQ).at_ b := not_at gd.r hb5
    have neb : b ≠ L0 := fun z => by rw [z, hL5] at hb5; cases hb5
    refine ⟨b, _, rfl, .of hb6, fun i σ' H' => Gr (Mov.tab T lamQ) H0 H' ∧ ∃ (t5 t6 : Option V) (zs : List V), σ' = [some (.ref x), some v, some (.int (n : Int)), some (.ref l), t, t5, t6, none, none] ∧ H' x = some (.ins C dx (fsL v bv L0)) ∧ Dt K H' v (circD size cs) ∧ Dt K H' bv (keyD (start0 cs)) ∧ H' L0 = some (.lst zs) ∧ Lagl K P w size cs n H' zs (n - i) ∧ Lays K P w size cs H' xs n ∧ H' b = some (.lst (xs.take (xs.length - 1)).reverse),
      ⟨gd.trans g6, none, none, _, rfl, g6.keep x _ hx5 nax, g6.dt hcv5, g6.dt hbv5, g6.keep L0 _ hL5 naL, hlg5.keep (kn_gr g6), hy5.keep (kn_gr g6), hb6⟩, fun i σ' H' _ h => ?_, ?_, ?_⟩
    · obtain ⟨_, _, _, _, _, _, _, _, _, _, _, hb⟩ := h
      exact .of hb
    · rintro i u σ' H7 hiu ⟨g7, t5, t6, zs, rfl, hx7, hcv7, hbv7, hL7, hlg7, hy7, hb7⟩
      have hi' : i < n := by
        have := (List.getElem?_eq_some_iff.mp hiu).1
        omega
      obtain ⟨aj, ej, haj, hdj, hlj⟩ := hy7.2 (n - 1 - i) (by omega)
      have hu : u = .ref aj := by
        rw [List.getElem?_reverse (by rw [List.length_take]; omega), List.length_take, List.getElem?_take, if_pos (by omega)] at hiu
        have e : min (xs.length - 1) xs.length - 1 - i = n - 1 - i := by omega
        rw [e, haj] at hiu
        exact (Option.some.inj hiu).symm
      subst hu
      obtain ⟨a0, e0, ha0, hd0, hE0⟩ := hlg7.2 (n - i) (Nat.le_refl _) (by omega)
      rw [Nat.sub_self] at ha0
      refine rs_set 6 g7.r (eo_ixL (K := K) (i := 0) (p := L0) (xs := zs) (R := fun u _ => u = .ref a0) (fun _ => rfl) (eo_fld (v := .ref L0) cx.K (eo_var 0 (hs := rfl) (hR := fun _ _ => rfl)) L.cls L.na3 rfl (fun H' g => g.keep x _ hx7 nax) (fun H' g => ⟨rfl, .of (g.keep L0 _ hL7 naL)⟩)) ed_int (atI_nat (i := 0) ha0) (fun H' g => .of (g.keep L0 _ hL7 naL)) (fun _ _ => rfl)) (fun lv H8 g8 hlv => ?_) sc.nd
      subst hlv
      have g08 := g7.trans g8
      have hx8 := g8.keep x _ hx7 nax
      have hL8 := g8.keep L0 _ hL7 naL
      have hlz : zs.length = i + 1 := by
        have := hlg7.1
        omega
      refine rs_insert0 (R := fun u H' => ∃ c, u = .ref c ∧ DN K P w H' c (ej.map fun p => (p.1, fr (lagV size cs (i + 1) p.1)))) g8.r (eo_fld (v := .ref L0) cx.K (eo_var 0 (hs := rfl) (hR := fun _ _ => rfl)) L.cls L.na3 rfl (fun H' g => g.keep x _ hx8 nax) (fun H' g => rfl)) hL8 naL (by omega)
        (EO.imp (eo_dcN (n := 7) (K := K) (P := P) (w := w) (te := tCall (DS K (Mov.tab T lamQ) RLevel) [] E0 (tCons (tMeth C "worths" (spWorths K P w C) [] E0 (tVar 0) (tCons (tVar 8) (tCons (tVar 6) tNil))) tNil)) (fun k => fr (lagV size cs (i + 1) k)) cx (fun _ => sc.nd) (eo_var 5 (hs := rfl) (hR := fun _ _ => rfl)) (hdj.grT g8) ((hdj.grT g8).na g8.r) hlj.1 (hesl _ ej (by omega) hlj)
          (fun _ => blkOk_by (own := [("key", 8)]) (N := ["self", "circle", "many", "layers", "_", "layer", "later", "adviser", "key"]) (sc := defScope (inL 0)) (by decide +kernel)) (by show 8 < 9; omega) (fun _ _ _ _ _ _ => pg_name (i := 8) sc.nd rfl (Or.inl rfl)) (fun _ _ _ _ _ _ => pv 8)
          (fun j s' H' C' cl fp => pe_cal CR (cx.blk j s' H' _ _ fp) (by decide) () rfl (pa_cons (pe_calM CW L.cls (cx.blk j s' H' _ _ fp) (by decide) () (pv 0) (pa_cons (pv 8) (pa_cons (pv 6) pa_nil))) pa_nil)) (fun p kv H9 hp g9 hkv => ?_)) fun u H9 _ ⟨c, e, _, d⟩ => ⟨c, e, d⟩) fun y2 H9 g9 hL9 hy2 => ?_
      · have hpr : Reach size cs (n - 1 - i) p.1 := (hlj.2 p.1).mp (List.mem_map.mpr ⟨p, hp, rfl⟩)
        have g79 := g8.trans g9
        refine fun H10 g10 Q' k => ?_
        have g710 := g79.trans g10
        refine ⟨.ref x, rfl, x, dx, fsL v bv L0, rfl, g710.keep x _ hx7 nax, rfl, kv, rfl, .ref a0, rfl, x, dx, fsL v bv L0, v, kv, size, cs, p.1, a0, e0, i, ((n - 1 - i : Nat) : Int), rfl, g710.keep x _ hx7 nax, rfl, g710.dt hcv7, hc, g10.dt hkv, hpr.ok hc.ne, hpr.v hc.ne hc.adv, hd0.grT g710, fun x hx => ?_, by omega, fun wv H11 g11 hwv => ?_⟩
        · have := hE0 _ (show Reach size cs (n - i) (Kt.next cs p.1 x) from by
            have := hpr.next hx
            rw [show n - 1 - i + 1 = n - i by omega] at this
            exact this)
          rw [show n - (n - i) = i by omega] at this
          exact this
        · have g11' : Gr (Mov.tab T lamQ) H10 H11 := (Sub.no _).gr _ _ g10.r g11
          refine ⟨g11'.r, _, _, .one hwv, ⟨i, 2 * i + 1, worthsV size cs i p.1, rfl, worths_ok hc.s2 hc.s4 hc.ne i (hpr.ok hc.ne), by omega, by omega, rfl⟩, fun z H12 g12 hz => k z H12 (g11'.trans g12) hz⟩
      · obtain ⟨c', rfl, hdc'⟩ := hy2
        have g79 := g8.trans g9
        have hx9 := g9.keep x _ hx8 nax
        have kn : KN K P w H7 (upd H9 L0 (.lst (.ref c' :: zs))) := (kn_gr g79).trans (kn_lst hL9)
        refine rs_nil ⟨(g7.trans g79).upd hL0 hL9 loc_lst, _, _, .ref c' :: zs, rfl, ?_, (g79.dt hcv7).mono (sk_lst hL9), (g79.dt hbv7).mono (sk_lst hL9), upd_same, ⟨?_, fun j hb hj => ?_⟩, hy7.keep kn, ?_⟩
        · rw [upd_ne (ne_of hx9 hL9 (fun z => by cases z))]
          exact hx9
        · rw [List.length_cons]
          omega
        · by_cases e : j = n - (i + 1)
          · refine ⟨c', _, by rw [e, Nat.sub_self]; rfl, kn_lst hL9 _ _ hdc', fun k hk => ?_⟩
            obtain ⟨p, hp, e2⟩ := List.mem_map.mp ((hlj.2 k).mpr (by rw [show n - 1 - i = j by omega]; exact hk))
            exact List.mem_map.mpr ⟨p, hp, by rw [e2, show n - j = i + 1 by omega]⟩
          · obtain ⟨a, es2, h1, h2, h3⟩ := hlg7.2 j (by omega) hj
            refine ⟨a, es2, ?_, kn _ _ h2, h3⟩
            rw [show j - (n - (i + 1)) = (j - (n - i)) + 1 by omega]
            exact h1
        · rw [upd_ne neb]
          exact g79.keep b _ hb7 nab
    · rintro σ' H7 ⟨g7, t5, t6, zs, rfl, hx7, hcv7, hbv7, hL7, hlg7, hy7, hb7⟩
      rw [hylen, Nat.sub_self] at hlg7
      exact rs_nil (q H7 g7 ⟨dx, v, bv, L0, zs, hx7, hcv7, hbv7, hL7, hlg7⟩)
end
end Kt
end
section
set_option maxHeartbeats 4000000
set_option exponentiation.threshold 5000
/-! Kt: lags_of, lag, followed. -/
namespace Kt
open PySem PySem.Spec PyProof.Rows L2
section
variable {ι : Type} {X : ι → Cx} {P : Program} {w : World} {K : PySem.W.Frag} {mg : Str → Option Value} {base : Heap} {n k : Nat} {C T : Addr}
variable {σ : L2.St} {H : Hp} {e1 e2 : Expr} {p pos : Pos} {size m : Nat} {cs : List Adv}
/-- Lags(circle, n) -/
theorem eo_lags (CI : CalI P w K mg base C k ["self", "circle", "many"] (spInit K P w C T)) (L : HasL K mg C) (cx : CxIs X P w K mg base n) (hk : k + 1 ≤ n) (ha : AD X (Mov.tab T lamQ) K σ H [e1, e2] [circD size cs, .int (m : Int)]) (hc : CircOk size cs) (hf : Fits size cs m) (hm : m ≤ 10)
    (hg : ∀ j, Gl (X j) "Lags" := by intro _; rfl) (he : ∀ j, starEach (e1 :: [e2]) (X j).env = (false, eval e1 (X j).env) :: starEach [e2] (X j).env := by intro _; rfl) (hpl : ∀ j, (backTo pos (starEach [e2] (X j).env)).any (·.1) = false := by intro _; rfl) :
    EO X (Mov.tab T lamQ) σ H (.Call (.Name "Lags" p) [e1, e2] [] pos) fun v H' => ∃ x, v = .ref x ∧ LagsAt K P w C size cs m H' x := by
  obtain ⟨f, fd, F, M, b⟩ := CI.ex
  obtain ⟨ta, pa, qa⟩ := ha
  refine ⟨tMake C (spInit K P w C T) [] E0 ta, fun j => ?_, fun H1 g Q q => qa H1 g _ fun vs H2 g2 hv => fun x dx hx hdx hne => ?_⟩
  · have F' : FnOk (X j).prog (X j).w (X j).K (X j).mg (X j).base CX0 k f fd ["self", "circle", "many"] (spInit K P w C T) := by
      rw [cx.P, cx.w, cx.K, cx.mg, cx.base]
      exact F
    exact pe_make (by rw [cx.K]; exact M) F' ((cx.room j).mono hk) (hg j) (by rw [cx.mg]; exact L.glo) (by rw [cx.K]; exact b) .nil pass0 (pa j) (by decide) (he j) (hpl j)
  · obtain ⟨v, u, rfl, hcv, hn⟩ := dts2 hv
    obtain rfl := dt_int hn
    have ga : Gr (Mov.tab T lamQ) H2 (upd H2 dx (.own x)) := .new g2.r hdx
    have hx' : upd H2 dx (.own x) x = none := by rw [upd_ne hne.symm]; exact hx
    have gb := ga.trans (.new (o := .ins C dx []) ga.r hx')
    refine ⟨H2, x, dx, v, size, cs, m, rfl, gb, hx, upd_same, gb.dt hcv, hc, hf, hm, fun H' g' hL => ⟨rfl, q _ _ (g2.trans g') ⟨x, rfl, hL⟩⟩⟩
end
def spLagsOf (K : PySem.W.Frag) (P : Program) (w : World) (C T : Addr) : Sp := fun vs H Q _ => (Mov.tab T lamQ).ok H ∧ ∃ (size : Nat) (cs : List Adv) (n : Nat), DtAll K H vs [circD size cs, .int (n : Int)] ∧ CircOk size cs ∧ Fits size cs n ∧ n ≤ 10 ∧ ∀ x H', Gr (Mov.tab T lamQ) H H' → LagsAt K P w C size cs n H' x → Q (.ref x) H'
def RLag (ds : List PyData) (d : PyData) : Prop := ∃ (size : Nat) (cs : List Adv) (n : Nat), ds = [circD size cs, .int (n : Int)] ∧ CircOk size cs ∧ Fits size cs n ∧ n ≤ 10 ∧ d = fr (lagV size cs n (start0 cs))
def RFollowed (ds : List PyData) (d : PyData) : Prop := ∃ (size : Nat) (cs : List Adv) (n : Nat) (r : List Nat), ds = [circD size cs, .int (n : Int), lotD r] ∧ CircOk size cs ∧ Fits size cs n ∧ n ≤ 10 ∧ r.length < n ∧ (∀ x ∈ r, x < size) ∧ d = .tuple ((told size cs n r).map fr)
section
variable {P : Program} {w : World} {K : PySem.W.Frag} {mg : Str → Option Value} {base : Heap} {C T : Addr}
theorem c_lags_of (F : Has K mg "lags_of" (top 50)) (U : Cst mg) (L : HasL K mg C) (C1 : Cal P w K mg base 7 "check_circle" ["thing"] (DS K .no RCheckCircle)) (C2 : Cal P w K mg base 3 "check_number" ["thing", "least", "most"] (DS K .no RCheckNumber)) (CI : CalI P w K mg base C 8 ["self", "circle", "many"] (spInit K P w C T)) : Cal P w K mg base 10 "lags_of" ["circle", "n"] (spLagsOf K P w C T) := by
  have sc : FnScope ["circle", "n"] ["circle", "n"] (defScope (top 50)) := ⟨rfl, rfl, rfl, by decide +kernel, rfl, by decide +kernel, by decide +kernel⟩
  refine cal_of F sc (fun vs H Q E ⟨_, size, cs, n, e, _⟩ => e.length) (fun _ _ _ _ _ _ us hl => match us, hl with | [_, _], _ => rfl) (fun f cdv A outer s H vs Q E cx h => ?_)
  obtain ⟨ok, size, cs, n, hd, hc, hf, hn, q⟩ := h
  obtain ⟨v, u, rfl, hv, hu⟩ := dts2 hd
  have sub : Sub .no (Mov.tab T lamQ) := Sub.no _
  refine rs_expr ok (ed_call C1 cx (by decide) sub (ad_cons (ed_var 0 rfl hv) ad_nil) ⟨size, cs, rfl, hc, rfl⟩) fun _ H1 g1 _ => ?_
  refine rs_expr g1.r (ed_call C2 cx (by decide) sub (ad_cons (ed_var 1 rfl (g1.dt hu)) (ad_cons ed_int (ad_cons (ed_k U.mostLettersA cx.mg) ad_nil))) ⟨_, _, _, rfl, by omega, by omega, rfl⟩) fun _ H2 g2 _ => ?_
  have g12 := g1.trans g2
  exact rs_ret g2.r (eo_lags CI L cx (by decide) (ad_cons (ed_var 0 rfl (g12.dt hv)) (ad_cons (ed_var 1 rfl (g12.dt hu)) ad_nil)) hc hf hn) fun z H3 g3 ⟨x, e, hL⟩ => by rw [e]; exact q x H3 (g12.trans g3) hL
theorem lag_entry {size : Nat} {cs : List Adv} {n : Nat} {es : List (Key × PyData)} (h : LagE size cs n 0 es) : (start0 cs, fr (lagV size cs n (start0 cs))) ∈ es := by
  have := h (start0 cs) Reach.zero
  rw [Nat.sub_zero] at this
  exact this
theorem c_lag (F : Has K mg "lag" (top 51)) (L : HasL K mg C) (CO : Cal P w K mg base 10 "lags_of" ["circle", "n"] (spLagsOf K P w C T)) : Cal P w K mg base 11 "lag" ["circle", "n"] (DS K (Mov.tab T lamQ) RLag) := by
  have sc : FnScope ["circle", "n", "told"] ["circle", "n"] (defScope (top 51)) := ⟨rfl, rfl, rfl, by decide +kernel, rfl, by decide +kernel, by decide +kernel⟩
  refine cal_of F sc (ds_len fun ds d ⟨_, _, _, e, _⟩ => by rw [e]; rfl) (fun _ _ _ _ _ _ us hl => match us, hl with | [_, _], _ => rfl) (fun f cdv A outer s H vs Q E cx h => ?_)
  obtain ⟨ok, ds, d, hd, ⟨size, cs, n, rfl, hc, hf, hn, rfl⟩, q⟩ := h
  obtain ⟨v, u, rfl, hv, hu⟩ := dts2 hd
  refine rs_set 2 ok (eo_call CO cx (by decide) (ad_ao (K := K) (ad_cons (ed_var 0 rfl hv) (ad_cons (ed_var 1 rfl hu) ad_nil))) (R := fun v H' => ∃ x, v = .ref x ∧ LagsAt K P w C size cs n H' x) (fun vs H1 g hvs Q' k => ⟨g.r, size, cs, n, hvs, hc, hf, hn, fun x H' g' hL => k _ H' g' ⟨x, rfl, hL⟩⟩)) (fun z H1 g1 hz => ?_) sc.nd
  obtain ⟨x, rfl, dx, cv, bv, L0, zs, hx, hcv, hbv, hL, hlg⟩ := hz
  have nax := tab_na g1.r hx fun ps z => by cases z
  have naL := tab_na g1.r hL fun ps z => by cases z
  obtain ⟨a, es, ha, hda, hE⟩ := hlg.2 0 (Nat.le_refl _) (Nat.zero_le _)
  rw [Nat.sub_zero] at ha
  exact rs_ret g1.r (eo_getN (q := (start0 cs, fr (lagV size cs n (start0 cs)))) cx (eo_ixL (K := K) (i := 0) (p := L0) (xs := zs) (R := fun u _ => u = .ref a) (fun _ => rfl) (eo_fld (v := .ref L0) cx.K (eo_var 2 (hs := rfl) (hR := fun _ _ => rfl)) L.cls L.na3 rfl (fun H' g => g.keep x _ hx nax) (fun H' g => ⟨rfl, .of (g.keep L0 _ hL naL)⟩)) ed_int (atI_nat (i := 0) ha) (fun H' g => .of (g.keep L0 _ hL naL)) (fun _ _ => rfl))
    (eo_fld (v := bv) cx.K (eo_var 2 (hs := rfl) (hR := fun _ _ => rfl)) L.cls L.na2 rfl (fun H' g => g.keep x _ hx nax) (fun H' g => g.dt hbv)) (fun H' g => hda.grT g) (lag_entry hE)) fun z H2 g2 hz => q z H2 (g1.trans g2) hz
theorem c_followed (F : Has K mg "followed" (top 52)) (B : Blt mg) (U : Cst mg) (L : HasL K mg C) (C1 : Cal P w K mg base 7 "check_circle" ["thing"] (DS K .no RCheckCircle)) (C2 : Cal P w K mg base 3 "check_number" ["thing", "least", "most"] (DS K .no RCheckNumber)) (C3 : Cal P w K mg base 4 "raw_is_row" ["size", "thing"] (DS K .no RRawIsRow)) (CS : Cal P w K mg base 1 "stepped" ["circle", "key", "letter"] (DS K .no RStepped))
    (CF : Cal P w K mg base 8 "raw_filled" ["worths"] (DS K (Mov.tab T lamQ) RFilled)) (CW : CalM P w K mg base C 3 "worths" ["self", "key", "later"] (spWorths K P w C)) (CI : CalI P w K mg base C 8 ["self", "circle", "many"] (spInit K P w C T)) : Cal P w K mg base 10 "followed" ["circle", "n", "row"] (DS K (Mov.tab T lamQ) RFollowed) := by
  have sc : FnScope ["circle", "n", "row", "told", "key", "letter"] ["circle", "n", "row"] (defScope (top 52)) := ⟨rfl, rfl, rfl, by decide +kernel, rfl, by decide +kernel, by decide +kernel⟩
  refine cal_of F sc (ds_len fun ds d ⟨_, _, _, _, e, _⟩ => by rw [e]; rfl) (fun _ _ _ _ _ _ us hl => match us, hl with | [_, _, _], _ => rfl) (fun f cdv A outer s H vs Q E cx h => ?_)
  obtain ⟨ok, ds, d, hd, ⟨size, cs, n, r, rfl, hc, hf, hn, hrn, hr, rfl⟩, q⟩ := h
  obtain ⟨v, u, rw', rfl, hv, hu, hrw⟩ := dts3 hd
  have sub : Sub .no (Mov.tab T lamQ) := Sub.no _
  refine rs_expr ok (ed_call C1 cx (by decide) sub (ad_cons (ed_var 0 rfl hv) ad_nil) ⟨size, cs, rfl, hc, rfl⟩) fun _ H1 g1 _ => ?_
  refine rs_expr g1.r (ed_call C2 cx (by decide) sub (ad_cons (ed_var 1 rfl (g1.dt hu)) (ad_cons ed_int (ad_cons (ed_k U.mostLettersA cx.mg) ad_nil))) ⟨_, _, _, rfl, by omega, by omega, rfl⟩) fun _ H2 g2 _ => ?_
  have g12 := g1.trans g2
  have hv2 := g12.dt hv
  have hu2 := g12.dt hu
  have hrw2 := g12.dt hrw
  refine rs_ifF g2.r (to_w (wo_or (t := false) (u := false) (to_not (t := true) (to_val (ed_call C3 cx (by decide) sub (ad_cons (ed_size cx U hc (ed_var 0 rfl hv2)) (ad_cons (ed_var 2 rfl hrw2) ad_nil)) ⟨size, r, rfl, by omega, hr, rfl⟩)))
    (wo_or1 (TO.cast (to_ge (ed_len (K := K) (ds := r.map fun (x : Nat) => PyData.int (x : Int)) (fun _ => rfl) (fun _ => B.len) (ed_var 2 rfl hrw2)) (ed_var 1 rfl hu2)) (by rw [lotD_len, decide_eq_false (by omega)]))))) fun H3 g3 => ?_
  have g13 := g12.trans g3
  have hv3 := g3.dt hv2
  have hu3 := g3.dt hu2
  have hrw3 := g3.dt hrw2
  refine rs_set 3 g3.r (eo_lags CI L cx (by decide) (ad_cons (ed_var 0 rfl hv3) (ad_cons (ed_var 1 rfl hu3) ad_nil)) hc hf hn) (fun z H4 g4 hz => ?_) sc.nd
  obtain ⟨x, rfl, dx, cv, bv, L0, zs, hx, hcv, hbv, hL, hlg⟩ := hz
  have nax := tab_na g4.r hx fun ps z => by cases z
  have naL := tab_na g4.r hL fun ps z => by cases z
  refine rs_set 4 g4.r (eo_fld (R := fun v H' => Dt K H' v (keyD (start0 cs))) (v := bv) cx.K (eo_var 3 (hs := rfl) (hR := fun _ _ => rfl)) L.cls L.na2 rfl (fun H' g => g.keep x _ hx nax) (fun H' g => g.dt hbv)) (fun kv H5 g5 hkv => ?_) sc.nd
  have g45 := g4.trans g5
  have g15 := g13.trans g45
  have hv5 := g45.dt hv3
  refine rs_forS (K := K) PassesOwn.never rfl rfl g5.r (ed_var 2 rfl (g45.dt hrw3)) (pg_name (i := 5) sc.nd rfl (Or.inl rfl)) fun H6 g6 => ?_
  refine ⟨fun i σ' H' => Gr (Mov.tab T lamQ) H5 H' ∧ Gr (Mov.tab T lamQ) H6 H' ∧ ∃ (kv : V) (t : Option V), σ' = [some v, some u, some rw', some (.ref x), some kv, t] ∧ Dt K H' kv (keyD (after cs (start0 cs) (r.take i))), ⟨g6, .refl g6.r, kv, none, rfl, by rw [List.take_zero]; exact g6.dt hkv⟩, fun i σ' H' h => h.2.1.sk, ?_, ?_⟩
  · rintro i lv d σ' H7 hdi ⟨g7, g67, kv, t, rfl, hkv7⟩ hlv
    rw [List.getElem?_map] at hdi
    cases hi : r[i]? with
    | none => rw [hi] at hdi; cases hdi
    | some y =>
      rw [hi] at hdi
      cases hdi
      have hy := hr y (List.mem_of_getElem? hi)
      have hre : Reach size cs (r.take i).length (after cs (start0 cs) (r.take i)) := ⟨_, rfl, fun x hx => hr x (List.mem_of_mem_take hx), rfl⟩
      have htk : r.take (i + 1) = r.take i ++ [y] := by rw [List.take_add_one, hi]; rfl
      refine rs_set 4 g7.r (ed_ix (K := K) (fun _ => rfl) (ed_call CS cx (by decide) sub (ad_cons (ed_var 0 rfl (g7.dt hv5)) (ad_cons (ed_var 4 rfl hkv7) (ad_cons (ed_var 5 rfl hlv) ad_nil))) ⟨size, cs, _, y, _, rfl, hc, (hre.ok hc.ne).len, hre.v hc.ne hc.adv, hy, rfl⟩) ed_int rfl) (fun k2 H8 g8 hk2 => ?_) sc.nd
      refine rs_nil ⟨g7.trans g8, g67.trans g8, k2, _, rfl, ?_⟩
      rw [htk, after_snoc]
      exact hk2
  · rintro σ' H7 ⟨g7, g67, kv, t, rfl, hkv7⟩
    rw [lotD_len, List.take_length] at hkv7
    have g57 := g5.trans g7
    have hx7 := g57.keep x _ hx nax
    have hL7 := g57.keep L0 _ hL naL
    have hre : Reach size cs r.length (after cs (start0 cs) r) := ⟨r, rfl, hr, rfl⟩
    obtain ⟨a, es, ha, hda, hE⟩ := hlg.2 (r.length + 1) (Nat.zero_le _) (by omega)
    rw [Nat.sub_zero] at ha
    have hda7 := hda.grT g57
    refine rs_ret g7.r (R := fun v H' => Dt K H' v (.tuple ((told size cs n r).map fr))) (ed_call CF cx (by decide) (.refl _) (ad_cons (d := .tuple ((worthsV size cs (n - r.length - 1) (after cs (start0 cs) r)).map fr))
      (eo_calM (RA := AR [fun u H' => Dt K H' u (keyD (after cs (start0 cs) r)), fun u H' => u = .ref a]) CW L.cls cx (by decide) (eo_var 3 (hs := rfl) (hR := fun _ _ => rfl)) (fun H' g => g.keep x _ hx7 nax) rfl
        (ao_cons (ed_var 4 rfl hkv7) mono_dt (ao_cons (eo_ixL (K := K) (i := ((r.length + 1 : Nat) : Int)) (p := L0) (xs := zs) (R := fun u _ => u = .ref a) (fun _ => rfl) (eo_fld (v := .ref L0) cx.K (eo_var 3 (hs := rfl) (hR := fun _ _ => rfl)) L.cls L.na3 rfl (fun H' g => g.keep x _ hx7 nax) (fun H' g => ⟨rfl, .of (g.keep L0 _ hL7 naL)⟩))
          (ED.cast (ed_add (ed_len (ds := r.map fun (x : Nat) => PyData.int (x : Int)) (fun _ => rfl) (fun _ => B.len) (ed_var 2 rfl (g7.dt (g45.dt hrw3)))) ed_int) (by rw [lotD_len]; rfl)) (atI_nat ha) (fun H' g => .of (g.keep L0 _ hL7 naL)) (fun _ _ => rfl)) mono_eq ao_nil))
        (fun vs H8 g8 hvs Q' k => ?_)) ad_nil) ⟨n - r.length - 1, 2 * (n - r.length - 1) + 1, _, rfl, worths_ok hc.s2 hc.s4 hc.ne _ (hre.ok hc.ne), by omega, by omega, rfl⟩) fun z H8 g8 hz => q z H8 (g15.trans (g7.trans g8)) hz
    obtain ⟨kv2, _, rfl, hkv2, av, _, rfl, rfl, rfl⟩ := hvs
    refine ⟨x, dx, fsL cv bv L0, cv, kv2, size, cs, after cs (start0 cs) r, a, es, n - r.length - 1, (r.length : Int), rfl, g8.keep x _ hx7 nax, rfl, g8.dt (g57.dt hcv), hc, hkv2, hre.ok hc.ne, hre.v hc.ne hc.adv, hda7.grT g8, fun y hy => ?_, by omega, fun v' H' g' hv' => k v' H' (sub.gr _ _ g8.r g') hv'⟩
    have := hE _ (hre.next hy)
    rw [show n - (r.length + 1) = n - r.length - 1 by omega] at this
    exact this
end
end Kt
end
section
set_option maxHeartbeats 4000000
set_option exponentiation.threshold 5000
/-! Kt: the law's pot and draws. -/
namespace Kt
open PySem PySem.Spec PyProof.Rows L2
def potL (c : Addr) (a b d e : Int) : List V := [.ref c, .int a, .int b, .int d, .int e]
/-- what holds of the pot -/
structure PotN (cl : List Int) (E : Nat) (a b d e : Int) : Prop where
  a0 : 0 ≤ a
  b0 : 0 ≤ b
  d0 : 0 ≤ d
  d1 : d < 2147483647
  e0 : 0 ≤ e
  e1 : e ≤ (E : Int)
def Mov.pot (T p c : Addr) (cl : List Int) (E : Nat) : Mov where
  at_ := fun b => b = T ∨ b = p ∨ b = c
  ok := fun H => (Mov.tab T lamQ).ok H ∧ p ≠ T ∧ c ≠ T ∧ c ≠ p ∧ H c = some (.lst (cl.map V.int)) ∧ ∃ a b d e, H p = some (.lst (potL c a b d e)) ∧ PotN cl E a b d e
  here := fun H b ⟨ok, _, _, _, hc, a, b', d, e, hp, _⟩ z => by
    rcases z with z | z | z
    · exact (Mov.tab T lamQ).here H b ok z
    · subst z
      exact ⟨fun xs y => (by rw [hp] at y; cases y), fun o u y => (by rw [hp] at y; cases y), fun y => (by rw [hp] at y; cases y)⟩
    · subst z
      exact ⟨fun xs y => (by rw [hc] at y; cases y), fun o u y => (by rw [hc] at y; cases y), fun y => (by rw [hc] at y; cases y)⟩
  ext := fun H H' k t ⟨ok, n1, n2, n3, hc, a, b, d, e, hp, x⟩ => ⟨(Mov.tab T lamQ).ext H H' k t ok, n1, n2, n3, k _ _ hc, a, b, d, e, k _ _ hp, x⟩
  loc := fun H l o1 o2 ⟨ok, n1, n2, n3, hc, a, b, d, e, hp, x⟩ hl lo nt na => ⟨(Mov.tab T lamQ).loc H l o1 o2 ok hl lo nt (fun z => na (.inl z)), n1, n2, n3, by rw [upd_ne (fun z => na (.inr (.inr z.symm)))]; exact hc, a, b, d, e, by rw [upd_ne (fun z => na (.inr (.inl z.symm)))]; exact hp, x⟩
section
variable {T p c : Addr} {cl : List Int} {E E' : Nat} {H H' : Hp} {a b d e : Int}
theorem PotN.up (h : PotN cl E a b d e) (k : E ≤ E') : PotN cl E' a b d e := ⟨h.a0, h.b0, h.d0, h.d1, h.e0, by have := h.e1; omega⟩
theorem pot_up (k : E ≤ E') (h : (Mov.pot T p c cl E).ok H) : (Mov.pot T p c cl E').ok H :=
  let ⟨ok, n1, n2, n3, hc, a, b, d, e, hp, x⟩ := h
  ⟨ok, n1, n2, n3, hc, a, b, d, e, hp, x.up k⟩
theorem Gr.potUp (k : E ≤ E') (g : Gr (Mov.pot T p c cl E) H H') : Gr (Mov.pot T p c cl E') H H' := ⟨pot_up k g.l, pot_up k g.r, g.keep, g.tb⟩
theorem sub_tab : Sub (Mov.tab T lamQ) (Mov.pot T p c cl E) := ⟨fun _ h => h.1, fun H H' ok g => by
  obtain ⟨ok1, n1, n2, n3, hc, a, b, d, e, hp, x⟩ := id ok
  exact ⟨ok, ⟨g.r, n1, n2, n3, g.keep c _ hc n2, a, b, d, e, g.keep p _ hp n1, x⟩, fun b o e n => g.keep b o e fun z => n (.inl z), g.tb⟩⟩
/-- the pot is changed -/
theorem pot_set {a' b' d' e' : Int} (g : Gr (Mov.pot T p c cl E) H H') (x : PotN cl E a' b' d' e') : Gr (Mov.pot T p c cl E) H (upd H' p (.lst (potL c a' b' d' e'))) := by
  obtain ⟨ok1, n1, n2, n3, hc, a, b, d, e, hp, _⟩ := id g.r
  refine ⟨g.l, ⟨(Mov.tab T lamQ).loc H' p _ _ ok1 hp loc_lst (by intro _ z; cases z) n1, n1, n2, n3, by rw [upd_ne n3]; exact hc, a', b', d', e', upd_same, x⟩, fun q o h n => ?_, fun q ps h => ?_⟩
  · rw [upd_ne (fun z => n (.inr (.inl z)))]
    exact g.keep q o h n
  · by_cases z : q = p
    · rw [z, upd_same] at h
      cases h
    · rw [upd_ne z] at h
      exact g.tb q ps h
theorem pot_nt {q : Addr} {o : HO} (ok : (Mov.pot T p c cl E).ok H) (h : H q = some o) (n : NT o) (n1 : q ≠ p) (n2 : q ≠ c) : ¬ (Mov.pot T p c cl E).at_ q := fun z => by
  rcases z with z | z | z
  · exact tab_na ok.1 h n z
  · exact n1 z
  · exact n2 z
end
section
variable {X : Cx} {M : Mov} {K : PySem.W.Frag} {σ : L2.St} {H : Hp} {rest : List Stmt} {D : Ends} {oe ie ve : Expr} {pos pt : Pos} {l : Addr} {R : V → Hp → Prop} {i : Int} {xs : List V}
/-- l[i] = v -/
theorem rs_setL (ok : M.ok H) (hv : EO (fun _ : Unit => X) M σ H ve R) (ho : EO (fun _ : Unit => X) M σ H oe fun u _ => u = .ref l) (hi : ED (fun _ : Unit => X) M K σ H ie (.int i)) (m : Mono M R) (hl : ∀ H', Gr M H H' → H' l = some (.lst xs)) (j : Nat) (hj : ixN xs.length i = some j)
    (k : ∀ v H3, Gr M H H3 → H3 l = some (.lst xs) → R v H3 → RS X rest D σ (upd H3 l (.lst (xs.set j v))))
    (hs : swapsWithSole [.Subscript oe ie pt] ve pos.line X.env = pure false := by rfl) (hw : swappedStores [.Subscript oe ie pt] ve X.env = pure none := by rfl) (h1 : (assignEach [.Subscript oe ie pt] X.env).map (·.2) = [assign (.Subscript oe ie pt) X.env] := by rfl)
    (hsub : ∀ v, assign (.Subscript oe ie pt) X.env v = (do
      let ov ← holding [v] (eval oe X.env)
      let iv ← holding [v, ov] (eval ie X.env)
      standAt pt
      holding [v, ov, iv] (setItem ov iv v)
      release [v, ov, iv] []) := by intro _; rfl) : RS X (.Assign [.Subscript oe ie pt] ve pos :: rest) D σ H := by
  obtain ⟨to, po, qo⟩ := ho
  obtain ⟨ti, pi, qi⟩ := hi
  refine rs_asg ok hv (pg_sub (po ()) (pi ()) set_list hsub) (fun v H1 g1 hv1 => ?_) hs hw h1
  refine qo H1 g1 _ fun u H2 g2 hu => qi H2 (g1.trans g2) _ fun y H3 g3 hy => ?_
  have g13 := (g1.trans g2).trans g3
  exact ⟨l, xs, i, j, hu, dt_int hy, hl H3 g13, hj, k v H3 g13 (hl H3 g13) (m _ _ _ (g2.trans g3) hv1)⟩
end

section
variable {ι : Type} {X : ι → Cx} {M : Mov} {K : PySem.W.Frag} {σ : L2.St} {H : Hp} {pp p2 pos : Pos} {p c : Addr} {a b d e z i : Int} {k : Nat}
theorem ed_pot (hK : ∀ j, (X j).K = K) (hp : H p = some (.lst (potL c a b d e))) (na : ¬ M.at_ p) (hs : σ[0]? = some (some (.ref p))) (hi : atI (potL c a b d e) i = some (.int z)) (hN : ∀ j, (X j).N[0]? = some ("_law_pot_here" : Str) := by intro _; rfl) (hv : ∀ j, Vis (X j).env.scope ("_law_pot_here" : Str) := by intro _; first | exact Or.inl rfl | exact Or.inr (Or.inl rfl) | exact Or.inr (Or.inr rfl)) :
    ED X M K σ H (.Subscript (.Name ("_law_pot_here" : Str) pp) (.Constant (.int i) k p2) pos) (.int z) :=
  eo_ixL (p := p) (xs := potL c a b d e) hK (eo_var 0 hN hv hs (fun H' g => ⟨rfl, .of (g.keep p _ hp na)⟩)) (ed_int (i := i)) hi (fun H' g => .of (g.keep p _ hp na)) (fun _ _ => .int _)
end
def spDraw (T : Addr) : Sp := fun vs H Q _ => ∃ (p c : Addr) (cl : List Int) (E : Nat) (many : Int), vs = [.ref p, .int many] ∧ (Mov.pot T p c cl E).ok H ∧ E < 100000 ∧ (∀ x ∈ cl, 0 ≤ x) ∧ cl.length ≤ 1000 ∧ 0 < many ∧ many < 1000000 ∧ ∀ r H', 0 ≤ r → r < many → Gr (Mov.pot T p c cl (E + 1)) H H' → Q (.int r) H'
theorem small_mul {i j : Int} (h0 : 0 ≤ i) (h1 : i < 18446744073709551616) (h2 : 0 ≤ j) (h3 : j < 18446744073709551616) : CMulW i j := by
  refine wide_mul (a := 64) (b := 64) ?_ ?_ (by decide) (by decide) (by decide)
  · have : (2 : Nat) ^ 64 = 18446744073709551616 := by decide
    omega
  · have : (2 : Nat) ^ 64 = 18446744073709551616 := by decide
    omega
theorem small_div {i j : Int} (h2 : 0 < j) (h3 : j < 18446744073709551616) : CDivW i j := by
  refine wide_div (b := 64) h2 ?_ (by decide) (by decide)
  have : (2 : Nat) ^ 64 = 18446744073709551616 := by decide
  omega
section
variable {P : Program} {w : World} {K : PySem.W.Frag} {mg : Str → Option Value} {base : Heap} {T : Addr}
theorem c_law_draw (F : Has K mg "_law_draw" (top 55)) (B : Blt mg) : Cal P w K mg base 1 "_law_draw" ["_law_pot_here", "_law_many"] (spDraw T) := by
  have sc : FnScope ["_law_pot_here", "_law_many", "_law_cell", "_law_digit", "_law_number"] ["_law_pot_here", "_law_many"] (defScope (top 55)) := ⟨rfl, rfl, rfl, by decide +kernel, rfl, by decide +kernel, by decide +kernel⟩
  refine cal_of F sc (fun vs H Q E ⟨_, _, _, _, _, e, _⟩ => by rw [e]; rfl) (fun _ _ _ _ _ _ us hl => match us, hl with | [_, _], _ => rfl) (fun f cdv A outer s H vs Q E' cx h => ?_)
  obtain ⟨p, c, cl, E, many, rfl, ok, hE, hcl, hlen, hm0, hm1, q⟩ := h
  have na : ∀ l, ¬ Mov.no.at_ l := fun _ z => z.elim
  have ok1 : (Mov.pot T p c cl (E + 1)).ok H := pot_up (Nat.le_succ _) ok
  obtain ⟨_, _, _, _, hc0, a, b, d, e, hp, x⟩ := id ok
  have sub : Sub .no (Mov.pot T p c cl (E + 1)) := Sub.no _
  -- behind the first test
  have tail : ∀ (H' : Hp) (a b d : Int) (o2 o3 o4 : Option V), Gr (Mov.pot T p c cl (E + 1)) H H' → H' p = some (.lst (potL c a b d e)) → PotN cl E a b d e →
      RS (bX P w K mg base ["_law_pot_here", "_law_many", "_law_cell", "_law_digit", "_law_number"] "_law_draw" (defScope (top 55)) f cdv A outer s H E') (defBody (top 55)).tail { nx := fun _ H' => Q .non H', rt := Q } [some (.ref p), some (.int many), o2, o3, o4] H' := by
    intro H' a b d o2 o3 o4 g hp x
    refine rs_if (M := .no) trivial (to_gt (K := K) (ed_pot (i := 2) (fun _ => rfl) hp (na p) rfl rfl) ed_int) (fun hb H1 g1 => ?_) fun hb H1 g1 => rs_nil ?_
    · have hp1 := g1.keep p _ hp (na p)
      have gg := g.trans (sub.gr _ _ g.r g1)
      refine rs_set (M := .no) 3 trivial (ed_mod (K := K) (ed_int1 (fun _ => B.int) (ed_pot (i := 2) (fun _ => rfl) hp1 (na p) rfl rfl)) (ed_var 1 rfl (.int many)) hm0) (fun v H2 g2 hv => ?_) sc.nd
      obtain rfl := dt_int hv
      have hp2 := g2.keep p _ hp1 (na p)
      have gg2 := gg.trans (sub.gr _ _ gg.r g2)
      refine rs_setL (M := .no) (K := K) (l := p) (i := 2) (xs := potL c a b d e) (R := fun v H' => Dt K H' v (.int (b / many))) trivial (ed_fdiv (ed_pot (i := 2) (fun _ => rfl) hp2 (na p) rfl rfl) (ed_var 1 rfl (.int many)) (small_div hm0 (by omega))) (eo_var 0 (hs := rfl) (hR := fun _ _ => rfl)) ed_int mono_dt (fun H' g => g.keep p _ hp2 (na p)) 2 rfl fun v H3 g3 hp3 hv => ?_
      obtain rfl := dt_int hv
      have gg3 := gg2.trans (sub.gr _ _ gg2.r g3)
      have gp := pot_set gg3 (a' := a) (b' := b / many) (d' := d) (e' := e) ⟨x.a0, Int.ediv_nonneg x.b0 (by omega), x.d0, x.d1, x.e0, by have := x.e1; omega⟩
      refine rs_ret (M := .no) trivial (ed_var (K := K) 3 rfl (.int (b % many))) fun v H4 g4 hv => ?_
      rw [dt_int hv]
      exact q _ H4 (Int.emod_nonneg _ (by omega)) (Int.emod_lt_of_pos _ hm0) (gp.trans (sub.gr _ _ gp.r g4))
    · have hp1 := g1.keep p _ hp (na p)
      have gg := g.trans (sub.gr _ _ g.r g1)
      refine rs_setL (M := .no) (K := K) (l := p) (i := 4) (xs := potL c a b d e) (R := fun v H' => Dt K H' v (.int (e + 1))) trivial (ed_add (ed_pot (i := 4) (fun _ => rfl) hp1 (na p) rfl rfl) ed_int) (eo_var 0 (hs := rfl) (hR := fun _ _ => rfl)) ed_int mono_dt (fun H' g => g.keep p _ hp1 (na p)) 4 rfl fun v H3 g3 hp3 hv => ?_
      obtain rfl := dt_int hv
      have gg3 := gg.trans (sub.gr _ _ gg.r g3)
      have he1 := x.e1
      have he0 := x.e0
      have hd0 := x.d0
      have hd1 := x.d1
      have gp := pot_set gg3 (a' := a) (b' := b) (d' := d) (e' := e + 1) ⟨x.a0, x.b0, x.d0, x.d1, by omega, by push_cast; omega⟩
      have hp4 : upd H3 p (.lst (potL c a b d (e + 1))) p = some (.lst (potL c a b d (e + 1))) := upd_same
      show RS _ _ _ _ (upd H3 p (.lst (potL c a b d (e + 1))))
      generalize upd H3 p (.lst (potL c a b d (e + 1))) = H4 at gp hp4 ⊢
      refine rs_set (M := .no) 4 trivial (ed_mod (K := K) (ed_int1 (fun _ => B.int) (ed_mul (ed_int1 (fun _ => B.int) (ed_add (ed_pot (i := 3) (fun _ => rfl) hp4 (na p) rfl rfl) (ed_mul ed_int (ed_pot (i := 4) (fun _ => rfl) hp4 (na p) rfl rfl) (small_mul (by omega) (by omega) (by omega) (by omega))))) ed_int (small_mul (by omega) (by omega) (by omega) (by omega)))) ed_int (by omega)) (fun v H5 g5 hv => ?_) sc.nd
      obtain rfl := dt_int hv
      have b1 := Int.emod_nonneg ((d + 7919 * (e + 1)) * 48271) (show (2147483647 : Int) ≠ 0 by omega)
      have b2 := Int.emod_lt_of_pos ((d + 7919 * (e + 1)) * 48271) (show (0 : Int) < 2147483647 by omega)
      generalize ((d + 7919 * (e + 1)) * 48271) % 2147483647 = n1 at b1 b2 ⊢
      refine rs_set (M := .no) 4 trivial (ed_mod (K := K) (ed_int1 (fun _ => B.int) (ed_mul (ed_var 4 rfl (.int n1)) (ed_add (ed_fdiv (ed_var 4 rfl (.int n1)) ed_int (small_div (by omega) (by omega))) ed_int) (small_mul (by omega) (by omega) (by omega) (by omega)))) ed_int (by omega)) (fun v H6 g6 hv => ?_) sc.nd
      obtain rfl := dt_int hv
      have c1 := Int.emod_nonneg (n1 * (n1 / 1009 + 69621)) (show (2147483647 : Int) ≠ 0 by omega)
      have c2 := Int.emod_lt_of_pos (n1 * (n1 / 1009 + 69621)) (show (0 : Int) < 2147483647 by omega)
      generalize (n1 * (n1 / 1009 + 69621)) % 2147483647 = n2 at c1 c2 ⊢
      refine rs_set (M := .no) 4 trivial (ed_mod (K := K) (ed_int1 (fun _ => B.int) (ed_mul (ed_var 4 rfl (.int n2)) (ed_add (ed_fdiv (ed_var 4 rfl (.int n2)) ed_int (small_div (by omega) (by omega))) ed_int) (small_mul (by omega) (by omega) (by omega) (by omega)))) ed_int (by omega)) (fun v H7 g7 hv => ?_) sc.nd
      obtain rfl := dt_int hv
      generalize (n2 * (n2 / 2003 + 40692)) % 2147483399 = n3
      refine rs_ret (M := .no) trivial (ed_mod (K := K) (ed_int1 (fun _ => B.int) (ed_fdiv (ed_var 4 rfl (.int n3)) ed_int (small_div (by omega) (by omega)))) (ed_var 1 rfl (.int many)) hm0) fun v H8 g8 hv => ?_
      rw [dt_int hv]
      refine q _ H8 (Int.emod_nonneg _ (by omega)) (Int.emod_lt_of_pos _ hm0) (gp.trans (sub.gr _ _ gp.r ((g5.trans g6).trans (g7.trans g8))))
  have rc : ∀ H', Gr .no H H' → H' c = some (.lst (cl.map V.int)) := fun H' g => g.keep c _ hc0 (na c)
  have x1 := x.up (Nat.le_succ E)
  refine rs_if (M := .no) trivial (to_w (wo_and (to_eq (K := K) (ed_pot (i := 2) (fun _ => rfl) hp (na p) rfl rfl) ed_int) (wo_and1 (to_lt (K := K) (ed_pot (i := 1) (fun _ => rfl) hp (na p) rfl rfl) (ed_lenL (m := cl.length) (fun _ => rfl) (fun _ => B.len)
    (eo_ixL (K := K) (i := 0) (p := p) (xs := potL c a b d e) (fun _ => rfl) (eo_var 0 (hs := rfl) (hR := fun H' g => ⟨rfl, .of (g.keep p _ hp (na p))⟩)) ed_int rfl (fun H' g => .of (g.keep p _ hp (na p))) (fun H' g => ⟨c, cl.map V.int, rfl, .of (rc H' g), by rw [List.length_map]⟩))))))) (fun hb H1 g1 => ?_) fun hb H1 g1 => rs_nil ?_
  · rw [Bool.and_eq_true] at hb
    have hlt : a < (cl.length : Int) := of_decide_eq_true hb.2
    have ha0 := x.a0
    have hd0 := x.d0
    have hd1 := x.d1
    have hat : a.toNat < cl.length := by omega
    have hp1 := g1.keep p _ hp (na p)
    have hc1 := rc H1 g1
    have gg : Gr (Mov.pot T p c cl (E + 1)) H H1 := sub.gr _ _ ok1 g1
    have hz0 : 0 ≤ cl[a.toNat] := hcl _ (List.getElem_mem hat)
    -- cell
    refine rs_set (M := .no) 2 trivial (R := fun v H' => Dt K H' v (.int cl[a.toNat])) (eo_ixL (K := K) (i := a) (p := c) (xs := cl.map V.int) (u := .int cl[a.toNat]) (fun _ => rfl)
      (eo_ixL (K := K) (i := 0) (p := p) (xs := potL c a b d e) (R := fun v H' => v = .ref c ∧ SqL K H' c (cl.map V.int)) (fun _ => rfl) (eo_var 0 (hs := rfl) (hR := fun H' g => ⟨rfl, .of (g.keep p _ hp1 (na p))⟩)) ed_int rfl (fun H' g => .of (g.keep p _ hp1 (na p))) (fun H' g => ⟨rfl, .of (g.keep c _ hc1 (na c))⟩))
      (ed_pot (i := 1) (fun _ => rfl) hp1 (na p) rfl rfl) (atI_int x.a0 (by rw [List.getElem?_map, List.getElem?_eq_getElem hat]; rfl)) (fun H' g => .of (g.keep c _ hc1 (na c))) (fun _ _ => .int _)) (fun v H2 g2 hv => ?_) sc.nd
    obtain rfl := dt_int hv
    generalize cl[a.toNat] = z at hz0 ⊢
    have hp2 := g2.keep p _ hp1 (na p)
    have gg2 := gg.trans (sub.gr _ _ gg.r g2)
    -- pot[1]
    refine rs_setL (M := .no) (K := K) (l := p) (i := 1) (xs := potL c a b d e) (R := fun v H' => Dt K H' v (.int (a + 1))) trivial (ed_add (ed_pot (i := 1) (fun _ => rfl) hp2 (na p) rfl rfl) ed_int) (eo_var 0 (hs := rfl) (hR := fun _ _ => rfl)) ed_int mono_dt (fun H' g => g.keep p _ hp2 (na p)) 1 rfl fun v H3 g3 hp3 hv => ?_
    obtain rfl := dt_int hv
    have gg3 := gg2.trans (sub.gr _ _ gg2.r g3)
    have gp := pot_set gg3 (a' := a + 1) (b' := b) (d' := d) (e' := e) ⟨by omega, x.b0, hd0, hd1, x.e0, x1.e1⟩
    have hp4 : upd H3 p (.lst (potL c (a + 1) b d e)) p = some (.lst (potL c (a + 1) b d e)) := upd_same
    show RS _ _ _ _ (upd H3 p (.lst (potL c (a + 1) b d e)))
    generalize upd H3 p (.lst (potL c (a + 1) b d e)) = H4 at gp hp4 ⊢
    -- pot[3]
    refine rs_setL (M := .no) (K := K) (l := p) (i := 3) (xs := potL c (a + 1) b d e) (R := fun v H' => Dt K H' v (.int ((d * 69621 + z + 11) % 2147483629))) trivial (ed_mod (ed_int1 (fun _ => B.int) (ed_add (ed_add (ed_mul (ed_pot (i := 3) (fun _ => rfl) hp4 (na p) rfl rfl) ed_int (small_mul (by omega) (by omega) (by omega) (by omega))) (ed_var 2 rfl (.int z))) ed_int)) ed_int (by omega)) (eo_var 0 (hs := rfl) (hR := fun _ _ => rfl)) ed_int mono_dt (fun H' g => g.keep p _ hp4 (na p)) 3 rfl fun v H5 g5 hp5 hv => ?_
    obtain rfl := dt_int hv
    have b1 := Int.emod_nonneg (d * 69621 + z + 11) (show (2147483629 : Int) ≠ 0 by omega)
    have b2 := Int.emod_lt_of_pos (d * 69621 + z + 11) (show (0 : Int) < 2147483629 by omega)
    have gg5 := gp.trans (sub.gr _ _ gp.r g5)
    show RS _ _ _ _ (upd H5 p (.lst (potL c (a + 1) b ((d * 69621 + z + 11) % 2147483629) e)))
    generalize (d * 69621 + z + 11) % 2147483629 = d2 at b1 b2 ⊢
    have gp2 := pot_set gg5 (a' := a + 1) (b' := b) (d' := d2) (e' := e) ⟨by omega, x.b0, b1, by omega, x.e0, x1.e1⟩
    have hp6 : upd H5 p (.lst (potL c (a + 1) b d2 e)) p = some (.lst (potL c (a + 1) b d2 e)) := upd_same
    generalize upd H5 p (.lst (potL c (a + 1) b d2 e)) = H6 at gp2 hp6 ⊢
    refine rs_if (M := .no) trivial (to_ge (K := K) (ed_var 2 rfl (.int z)) (ed_pow ed_int ed_int ⟨by omega, by omega, by decide⟩)) (fun hb2 H7 g7 => ?_) fun hb2 H7 g7 => rs_nil (rs_nil (tail H7 (a + 1) b d2 _ _ _ (gp2.trans (sub.gr _ _ gp2.r g7)) (g7.keep p _ hp6 (na p)) ⟨by omega, x.b0, b1, by omega, x.e0, x.e1⟩))
    have hp7 := g7.keep p _ hp6 (na p)
    have gg7 := gp2.trans (sub.gr _ _ gp2.r g7)
    refine rs_setL (M := .no) (K := K) (l := p) (i := 2) (xs := potL c (a + 1) b d2 e) (R := fun v H' => Dt K H' v (.int z)) trivial (ed_var 2 rfl (.int z)) (eo_var 0 (hs := rfl) (hR := fun _ _ => rfl)) ed_int mono_dt (fun H' g => g.keep p _ hp7 (na p)) 2 rfl fun v H8 g8 hp8 hv => ?_
    obtain rfl := dt_int hv
    exact rs_nil (rs_nil (tail _ (a + 1) z d2 _ _ _ (pot_set (gg7.trans (sub.gr _ _ gg7.r g8)) (a' := a + 1) (b' := z) (d' := d2) (e' := e) ⟨by omega, hz0, b1, by omega, x.e0, x1.e1⟩) upd_same ⟨by omega, hz0, b1, by omega, x.e0, x.e1⟩))
  · exact tail H1 a b d _ _ _ (sub.gr _ _ ok1 g1) (g1.keep p _ hp (na p)) x
end
end Kt
end
section
set_option maxHeartbeats 4000000
set_option exponentiation.threshold 5000
/-! Kt: expressions that draw; drawn advisers and circles. -/
namespace Kt
open PySem PySem.Spec PyProof.Rows L2
abbrev MP := Mov.pot
/-- a tuple of a list -/
def rTupOf (K : PySem.W.Frag) : List V → Hp → VK → Prop := fun xs H Q => ∃ p ys, xs = [.ref p] ∧ ((SqL K H p ys ∧ ∀ l, H l = none → Q (.ref l) (upd H l (.tup ys))) ∨ (SqT K H p ys ∧ Q (.ref p) H))
section
variable {K : PySem.W.Frag} {T p c : Addr} {cl : List Int} {E : Nat} {H H0 : Hp} {σ : L2.St} {tm te : TE} {Q : VK} {many : Int}
/-- what the pot promises of itself -/
structure PotC (cl : List Int) : Prop where
  pos : ∀ x ∈ cl, 0 ≤ x
  few : cl.length ≤ 1000
theorem q_draw (i : Nat) (pc : PotC cl) (hs : σ[i]? = some (some (.ref p))) (ok : (MP T p c cl E).ok H) (hE : E < 100000) (h0 : 0 < many) (h1 : many < 1000000) (hm : QO (MP T p c cl E) tm σ H fun v _ => v = .int many)
    (k : ∀ r H', 0 ≤ r → r < many → Gr (MP T p c cl (E + 1)) H H' → Q (.int r) H') : tCall (spDraw T) [] E0 (tCons (tVar i) (tCons tm tNil)) σ H Q := by
  refine ⟨.ref p, hs, hm H (.refl ok) _ fun v H1 g1 hv => ?_⟩
  subst hv
  exact ⟨p, c, cl, E, many, rfl, g1.r, hE, pc.pos, pc.few, h0, h1, fun r H' r0 r1 g => k r H' r0 r1 ((g1.potUp (Nat.le_succ _)).trans g)⟩
theorem qo_var {M : Mov} {i : Nat} {v : V} (hs : σ[i]? = some (some v)) : QO M (tVar i) σ H fun u _ => u = v := fun H1 g Q k => ⟨v, hs, k v H1 (.refl g.r) rfl⟩
theorem qo_int {M : Mov} {i : Int} : QO M (tC (.int i)) σ H fun u _ => u = .int i := fun H1 g Q k => k _ H1 (.refl g.r) rfl
theorem qo_dt {M : Mov} {i : Int} (h : QD K M te σ H (.int i)) : QO M te σ H fun u _ => u = .int i := fun H1 g Q k => h H1 g Q fun v H2 g2 hv => k v H2 g2 (dt_int hv)
/-- a list made of draws, or of what is made by draws -/
theorem q_lcDraw {ta : TA} {ix : Nat} (n cst : Nat) (Pd : PyData → Prop) (hn : n ≤ 100) (ok : (MP T p c cl E).ok H) (hta : ∀ Q' : List V → Hp → Prop, (∀ H', Gr (MP T p c cl E) H H' → Q' [.int (n : Int)] H') → ta σ H Q')
    (body : ∀ (i : Nat) H1, i < n → Gr (MP T p c cl (E + i * cst)) H H1 → ∀ Q1 : VK, (∀ v H2 d, Pd d → Gr (MP T p c cl (E + (i + 1) * cst)) H1 H2 → Dt K H2 v d → Q1 v H2) → te ((wipe σ [ix]).set ix (some (.int (i : Int)))) H1 Q1)
    (k : ∀ v H' ds, ds.length = n → (∀ d ∈ ds, Pd d) → Gr (MP T p c cl (E + n * cst)) H H' → NwD K (MP T p c cl (E + n * cst)) H ds v H' → Q v H') : tLc (iRng1 ta) (gName ix) tYes te [ix] σ H Q := by
  refine hta _ fun H1 g1 => ⟨(n : Int), rfl, by omega, by omega, fun D hD => ?_⟩
  have hDH := (g1.fresh hD).1
  have gn : Gr (MP T p c cl E) H1 (upd H1 D (.lst [])) := .new g1.r hD
  refine lc_range (lo := 0) (n := n) (fun i H' => ∃ ds, ds.length = i ∧ (∀ d ∈ ds, Pd d) ∧ Gr (MP T p c cl (E + i * cst)) H H' ∧ ∃ acc, H' D = some (.lst acc) ∧ DtAll K H' acc ds) ⟨[], rfl, (fun d hd => by cases hd), by rw [Nat.zero_mul, Nat.add_zero]; exact g1.trans gn, [], upd_same, .nil⟩ (fun i H' hi h => ?_) fun H' h => ?_
  · obtain ⟨ds, hl, hp, g, acc, hacc, hd⟩ := h
    refine ⟨wipe1, ?_⟩
    rw [show (0 : Int) + (i : Int) = (i : Int) from by omega]
    refine body i H' hi g _ fun v H2 d hPd g2 hv => ?_
    have nD : ¬ (MP T p c cl (E + (i + 1) * cst)).at_ D := not_at (pot_up (Nat.le_add_right _ _) (g1.trans gn).l) hDH
    have g' := (g.potUp (E' := E + (i + 1) * cst) (by rw [Nat.add_mul]; omega)).trans g2
    have hacc2 := g2.keep D _ hacc nD
    refine ⟨acc, hacc2, ?_, ds ++ [d], by rw [List.length_append, hl]; rfl, fun x hx => ?_, g'.upd hDH hacc2 loc_lst, acc ++ [v], upd_same, (((g2.dts hd).mono (sqT_updL hacc2)).app (.one (hv.mono (sqT_updL hacc2))))⟩
    · rw [hd.length, hl, sizeLine_eq]
      omega
    · rcases List.mem_append.mp hx with z | z
      · exact hp x z
      · rw [List.mem_singleton.mp z]
        exact hPd
  · obtain ⟨ds, hl, hp, g, acc, hacc, hd⟩ := h
    have : (n : Int).toNat = n := Int.toNat_natCast n
    exact k _ H' ds hl hp g ⟨D, acc, rfl, hDH, hacc, hd⟩
/-- tuple(a list of data) -/
theorem q_tupOf {M : Mov} {a : Addr} {xs : List V} {ds : List PyData} (ok : M.ok H) (hl : H a = some (.lst xs)) (hd : DtAll K H xs ds) (k : ∀ v H', Gr M H H' → Dt K H' v (.tuple ds) → Q v H') : rTupOf K [.ref a] H Q :=
  ⟨a, xs, rfl, .inl ⟨.of hl, fun l hn => k _ _ (.new ok hn) (.tup (.of upd_same) ((Gr.new ok hn).dts hd))⟩⟩
end
section
variable {X : Cx} {σ : L2.St} {H : Hp} {rest : List Stmt} {D : Ends} {o e : Expr} {pos : Pos} {te : TE} {l : Addr} {xs : List V} {p1 p2 : Pos} {i : Nat}
/-- l.append(e), e run by its reading -/
theorem rs_appendQ (hO : PE X o (tVar i)) (hs0 : σ[i]? = some (some (.ref l))) (hl : H l = some (.lst xs)) (hz : xs.length ≤ 100000) (he : PE X e te) {R : VK} (hq : ∀ Q : VK, (∀ v H2, R v H2 → Q v H2) → te σ H Q) (k : ∀ v H2, R v H2 → H2 l = some (.lst xs) ∧ RS X rest D σ (upd H2 l (.lst (xs ++ [v]))))
    (hs : swapsWith (.Call (.Attribute o "append" p1) [e] [] p2) none pos.line X.env = pure false := by rfl)
    (hbase : attributeBase o "append" X.env (eval o X.env) = eval o X.env := by rfl)
    (hfew : ((backTo p2 (starEach (e :: []) X.env)).all (fun x => !x.1) && (backToKw p2 (keywordEach [] X.env)).all (fun x => x.1.isSome)
      && decide ((e :: ([] : List Expr)).length + ([] : List Keyword).length + (if ([] : List Keyword).isEmpty then 0 else 1) < 30)) = true := by rfl)
    (hline : (p1.endLine == p2.line) = true := by rfl) (hst : starEach (e :: []) X.env = (false, eval e X.env) :: starEach [] X.env := by rfl) (hpl : (backTo p2 (starEach [] X.env)).any (·.1) = false := by rfl) : RS X (.Expr (.Call (.Attribute o "append" p1) [e] [] p2) pos :: rest) D σ H := by
  refine rs_cons (ps_expr (pe_bm PySem.F.plainAttrs_list PySem.F.slot_list_append PySem.F.type_list_append mt_append hO (pa_cons he pa_nil hst) hbase hfew hline hst hpl) hs) ?_
  refine ⟨.ref l, hs0, .inl ⟨rfl, _, SqL.of hl⟩, ?_⟩
  refine hq _ fun v H2 h => ?_
  exact ⟨l, xs, v, rfl, rfl, (k v H2 h).1, Nat.lt_of_le_of_lt hz (by decide), (k v H2 h).2⟩
end
end Kt
end
section
set_option maxHeartbeats 4000000
set_option exponentiation.threshold 5000
/-! Kt: drawn things, advisers, circles. -/
namespace Kt
open PySem PySem.Spec PyProof.Rows L2
theorem t_cons {ta : TE} {tr : TA} {σ : L2.St} {H : Hp} {Q : List V → Hp → Prop} (h : ta σ H fun x H1 => tr σ H1 fun xs H2 => Q (x :: xs) H2) : tCons ta tr σ H Q := h
theorem t_cb {r : List V → Hp → VK → Prop} {t : TA} {σ : L2.St} {H : Hp} {Q : VK} (h : t σ H fun vs H1 => r vs H1 Q) : tCB r t σ H Q := h
abbrev rLenSq (K : PySem.W.Frag) : List V → Hp → VK → Prop := fun xs H Q => ∃ p ys, xs = [.ref p] ∧ (SqL K H p ys ∨ SqT K H p ys) ∧ Q (.int ys.length) H
theorem qo_lenL {M : Mov} {K : PySem.W.Frag} {σ : L2.St} {H : Hp} {i : Nat} {t : Addr} {xs : List V} (hs : σ[i]? = some (some (.ref t))) (h : ∀ H', Gr M H H' → SqL K H' t xs) : QO M (tCB (rLenSq K) (tCons (tVar i) tNil)) σ H fun v _ => v = .int (xs.length : Int) := fun H1 g Q k =>
  ⟨.ref t, hs, t, xs, rfl, .inl (h H1 g), k _ H1 (.refl g.r) rfl⟩
def spAny (T : Addr) : Sp := fun vs H Q _ => ∃ (p c t : Addr) (cl ks : List Int) (E : Nat), vs = [.ref p, .ref t] ∧ (MP T p c cl E).ok H ∧ PotC cl ∧ E < 100000 ∧ H t = some (.lst (ks.map V.int)) ∧ t ≠ p ∧ t ≠ c ∧ ks ≠ [] ∧ ks.length ≤ 100 ∧ ∀ z H', z ∈ ks → Gr (MP T p c cl (E + 1)) H H' → Q (.int z) H'
def spAdviser (K : PySem.W.Frag) (T : Addr) : Sp := fun vs H Q _ => ∃ (p c : Addr) (cl : List Int) (E size most : Nat), vs = [.ref p, .int (size : Int), .int (most : Int)] ∧ (MP T p c cl E).ok H ∧ PotC cl ∧ E + 100 < 100000 ∧ 2 ≤ size ∧ size ≤ 4 ∧ 1 ≤ most ∧ most ≤ 6 ∧
  ∀ v H' a, Gr (MP T p c cl (E + 40)) H H' → AdvOk size most a → Dt K H' v (advD size a) → Q v H'
section
variable {P : Program} {w : World} {K : PySem.W.Frag} {mg : Str → Option Value} {base : Heap} {T : Addr}
theorem c_law_any (F : Has K mg "_law_any" (top 56)) (B : Blt mg) (CD : Cal P w K mg base 1 "_law_draw" ["_law_pot_here", "_law_many"] (spDraw T)) : Cal P w K mg base 2 "_law_any" ["_law_pot_here", "_law_things"] (spAny T) := by
  have sc : FnScope ["_law_pot_here", "_law_things"] ["_law_pot_here", "_law_things"] (defScope (top 56)) := ⟨rfl, rfl, rfl, by decide +kernel, rfl, by decide +kernel, by decide +kernel⟩
  refine cal_of F sc (fun vs H Q E ⟨_, _, _, _, _, _, e, _⟩ => by rw [e]; rfl) (fun _ _ _ _ _ _ us hl => match us, hl with | [_, _], _ => rfl) (fun f cdv A outer s H vs Q E' cx h => ?_)
  obtain ⟨p, c, t, cl, ks, E, rfl, ok, pc, hE, ht, n1, n2, hne, hl, q⟩ := h
  have nat_ : ¬ (MP T p c cl E).at_ t := pot_nt ok ht (by intro _ z; cases z) n1 n2
  have hlen : 0 < ks.length := List.length_pos_iff.mpr hne
  refine rs_cons (ps_ret (pe_ix ix_list (pv 1) (pe_cal CD cx (by decide) () rfl (pa_cons (pv 0) (pa_cons (pe_callB call_len_seq rfl B.len boot_len (pa_cons (pv 1) pa_nil)) pa_nil))) (fun _ _ => rfl))) ?_
  refine ⟨.ref t, rfl, ?_⟩
  refine q_draw (many := (ks.length : Int)) 0 pc rfl ok hE (by omega) (by omega) (fun H1 g Q' k => qo_lenL (K := K) (xs := ks.map V.int) rfl (fun H' g => .of (g.keep t _ ht nat_)) H1 g Q' fun v H2 g2 hv => k v H2 g2 (by rw [hv, List.length_map])) fun r H' r0 r1 g => ?_
  have hat : r.toNat < ks.length := by omega
  have ht' : H' t = some (.lst (ks.map V.int)) := g.keep t _ ht (pot_nt g.l ht (by intro _ z; cases z) n1 n2)
  exact ⟨t, ks.map V.int, r, .int ks[r.toNat], rfl, rfl, .of ht', atI_int r0 (by rw [List.getElem?_map, List.getElem?_eq_getElem hat]; rfl), q _ H' (List.getElem_mem hat) g⟩
theorem c_law_adviser (F : Has K mg "_law_adviser" (top 65)) (B : Blt mg) (CD : Cal P w K mg base 1 "_law_draw" ["_law_pot_here", "_law_many"] (spDraw T)) : Cal P w K mg base 2 "_law_adviser" ["_law_pot_here", "_law_size", "_law_most"] (spAdviser K T) := by
  have sc : FnScope ["_law_pot_here", "_law_size", "_law_most", "_law_states", "_law_rules", "_law_state", "_law_letter"] ["_law_pot_here", "_law_size", "_law_most"] (defScope (top 65)) := ⟨rfl, rfl, rfl, by decide +kernel, rfl, by decide +kernel, by decide +kernel⟩
  refine cal_of F sc (fun vs H Q E ⟨_, _, _, _, _, _, e, _⟩ => by rw [e]; rfl) (fun _ _ _ _ _ _ us hl => match us, hl with | [_, _, _], _ => rfl) (fun f cdv A outer s H vs Q E' cx h => ?_)
  obtain ⟨p, c, cl, E, size, most, rfl, ok, pc, hE, s2, s4, m1, m6, q⟩ := h
  -- states
  refine rs_cons (ps_set (i := 3) sc.nd rfl (Or.inr rfl) (pe_op op_add pe_int (pe_cal CD cx (by decide) () rfl (pa_cons (pv 0) (pa_cons (pv 2) pa_nil)))) rfl (Or.inl rfl)) ?_
  refine q_draw (many := (most : Int)) 0 pc rfl ok (by omega) (by omega) (by omega) (qo_var rfl) fun r H1 r0 r1 g1 => ?_
  refine ⟨1, r, rfl, rfl, ?_⟩
  obtain ⟨n, hn⟩ : ∃ n : Nat, 1 + r = (n : Int) := ⟨(1 + r).toNat, by omega⟩
  have n1 : 1 ≤ n := by omega
  have n6 : n ≤ most := by omega
  show RS _ _ _ [some (.ref p), some (.int (size : Int)), some (.int (most : Int)), some (.int (1 + r)), none, none, none] H1
  rw [hn]
  -- rules
  refine rs_set 4 g1.r (eo_lst (K := K) ad_nil) (fun u H2 g2 hu => ?_) sc.nd
  obtain ⟨l, xs0, rfl, hl1, hl2, hd0⟩ := hu
  cases hd0
  have g12 := g1.trans g2
  have hl0 : H l = none := (g1.fresh hl1).1
  refine rs_forR (K := K) PassesOwn.never rfl g2.r B.range (ed_var 3 rfl (.int (n : Int))) (by omega) (by omega) (pg_name (i := 5) sc.nd rfl (Or.inl rfl)) fun H3 g3 => ?_
  have na1 : ¬ (MP T p c cl (E + 1)).at_ l := not_at g2.l hl1
  refine ⟨fun i σ' H' => Gr (MP T p c cl (E + 1 + i * (1 + size))) H H' ∧ ∃ (t : Option V) (xs : List V) (rs : List (Int × List Int)), σ' = [some (.ref p), some (.int (size : Int)), some (.int (most : Int)), some (.int (n : Int)), some (.ref l), t, none] ∧ H' l = some (.lst xs) ∧ DtAll K H' xs (rs.map ruleD) ∧ rs.length = i ∧
      (∀ r ∈ rs, 0 ≤ r.1 ∧ r.1 < (size : Int)) ∧ (∀ r ∈ rs, r.2.length = size) ∧ (∀ r ∈ rs, ∀ s ∈ r.2, 0 ≤ s ∧ s < (n : Int)),
    ⟨by rw [Nat.zero_mul, Nat.add_zero]; exact g12.trans g3, none, [], [], rfl, g3.keep l _ hl2 na1, .nil, rfl, (fun r hr => by cases hr), (fun r hr => by cases hr), (fun r hr => by cases hr)⟩, ?_, ?_⟩
  · rintro i σ' H4 hi ⟨g4, t, xs, rs, rfl, hl4, hxs, hlen, hr1, hr2, hr3⟩
    have hi' : i < n := by omega
    have hbud : E + 1 + i * (1 + size) + (1 + size) ≤ E + 40 := by
      have : i * (1 + size) ≤ 5 * 5 := Nat.mul_le_mul (by omega) (by omega)
      omega
    refine rs_appendQ (i := 4) (R := fun v H' => ∃ rr : Int × List Int, Gr (MP T p c cl (E + 1 + (i + 1) * (1 + size))) H4 H' ∧ Dt K H' v (ruleD rr) ∧ 0 ≤ rr.1 ∧ rr.1 < (size : Int) ∧ rr.2.length = size ∧ ∀ s ∈ rr.2, 0 ≤ s ∧ s < (n : Int)) (pv 4) rfl hl4 (by rw [hxs.length, List.length_map, hlen]; omega)
      (pe_tup (pa_cons (pe_cal CD cx (by decide) () rfl (pa_cons (pv 0) (pa_cons (pv 1) pa_nil))) (pa_cons (pe_callTy call_tuple_of rfl B.tuple (by decide +kernel) (pa_cons
        (pe_lc rfl sc.nd (pi_range1 rfl B.range (pa_cons (pv 1) pa_nil)) (blkOk_by (own := [("_law_letter", 6)]) (N := ["_law_pot_here", "_law_size", "_law_most", "_law_states", "_law_rules", "_law_state", "_law_letter"]) (sc := defScope (top 65)) (by decide +kernel)) (fun _ _ _ _ _ => pg_name (i := 6) sc.nd rfl (Or.inl rfl)) (fun _ _ _ _ _ => pts_nil)
          (fun s H C' cl fp => pe_cal CD (cx.blk () s H _ _ fp) (by decide) () rfl (pa_cons (pv 0) (pa_cons (pv 3) pa_nil))) (fun _ => rfl)) pa_nil)) pa_nil))) (fun Q' k => ?_) fun v H5 hv => ?_
    · refine q_draw (many := (size : Int)) 0 pc rfl g4.r (by omega) (by omega) (by omega) (qo_var rfl) fun lt H5 l0 l1 g5 => ?_
      refine t_cons (t_cb (t_cons ?_))
      refine q_lcDraw (K := K) (E := E + 1 + i * (1 + size) + 1) size 1 (fun d => ∃ s : Int, d = .int s ∧ 0 ≤ s ∧ s < (n : Int)) (by omega) g5.r (fun Q1 k1 => ⟨.int (size : Int), rfl, k1 H5 (.refl g5.r)⟩) (fun j H6 hj g6 Q1 k1 => ?_) fun v H6 ds hdl hdp g6 hv => ?_
      · refine q_draw (many := (n : Int)) 0 pc rfl g6.r (by omega) (by omega) (by omega) (qo_var rfl) fun s H7 s0 s1 g7 => ?_
        refine k1 _ H7 (.int s) ⟨s, rfl, s0, s1⟩ (g7.potUp (by omega)) (.int s)
      · obtain ⟨a, ys, rfl, han, ha, hys⟩ := hv
        refine ⟨a, ys, rfl, .inl ⟨.of ha, fun tl htl => ?_⟩⟩
        have g7 : Gr (MP T p c cl (E + 1 + i * (1 + size) + 1 + size * 1)) H6 (upd H6 tl (.tup ys)) := .new g6.r htl
        have htv : Dt K (upd H6 tl (.tup ys)) (.ref tl) (.tuple ds) := .tup (.of upd_same) (g7.dts hys)
        obtain ⟨ns, hns⟩ : ∃ ns : List Int, ds = ns.map PyData.int ∧ ns.length = size ∧ ∀ s ∈ ns, 0 ≤ s ∧ s < (n : Int) := by
          refine ⟨ds.map fun d => match d with | .int s => s | _ => 0, ?_, by rw [List.length_map, hdl], fun s hs => ?_⟩
          · rw [List.map_map]
            conv => lhs; rw [← List.map_id ds]
            refine List.map_congr_left fun d hd => ?_
            obtain ⟨s, rfl, _⟩ := hdp d hd
            rfl
          · obtain ⟨d, hd, rfl⟩ := List.mem_map.mp hs
            obtain ⟨s, rfl, h0, h1⟩ := hdp d hd
            exact ⟨h0, h1⟩
        refine ⟨by show 2 ≤ sizeLine; decide, fun pt hpt => ?_⟩
        have gn : Gr (MP T p c cl (E + 1 + i * (1 + size) + 1 + size * 1)) (upd H6 tl (.tup ys)) (upd (upd H6 tl (.tup ys)) pt (.tup [.int lt, .ref tl])) := .new g7.r hpt
        have gall : Gr (MP T p c cl (E + 1 + (i + 1) * (1 + size))) H4 (upd (upd H6 tl (.tup ys)) pt (.tup [.int lt, .ref tl])) := (g5.potUp (by rw [Nat.add_mul]; omega)).trans (((g6.trans g7).trans gn).potUp (by rw [Nat.add_mul]; omega))
        refine k _ _ ⟨(lt, ns), gall, .tup (.of upd_same) (.cons (.int lt) (.cons ?_ .nil)), l0, l1, hns.2.1, hns.2.2⟩
        rw [← hns.1]
        exact gn.dt htv
    · obtain ⟨rr, g5, hv5, a0, a1, a2, a3⟩ := hv
      have nal : ¬ (MP T p c cl (E + 1 + (i + 1) * (1 + size))).at_ l := not_at (pot_up (by omega) ok) hl0
      have hl5 := g5.keep l _ hl4 nal
      refine ⟨hl5, rs_nil ⟨((g4.potUp (by rw [Nat.add_mul]; omega)).trans g5).upd hl0 hl5 loc_lst, _, xs ++ [v], rs ++ [rr], rfl, upd_same, ?_, by rw [List.length_append, hlen]; rfl, fun x hx => ?_, fun x hx => ?_, fun x hx => ?_⟩⟩
      · rw [List.map_append]
        exact ((g5.dts hxs).mono (sqT_updL hl5)).app (.one (hv5.mono (sqT_updL hl5)))
      all_goals
        rcases List.mem_append.mp hx with z | z
      · exact hr1 x z
      · rw [List.mem_singleton.mp z]; exact ⟨a0, a1⟩
      · exact hr2 x z
      · rw [List.mem_singleton.mp z]; exact a2
      · exact hr3 x z
      · rw [List.mem_singleton.mp z]; exact a3
  · rintro σ' H4 ⟨g4, t, xs, rs, rfl, hl4, hxs, hlen, hr1, hr2, hr3⟩
    rw [Int.toNat_natCast] at g4 hlen
    have hbud : E + 1 + n * (1 + size) ≤ E + 40 := by
      have : n * (1 + size) ≤ 6 * 5 := Nat.mul_le_mul (by omega) (by omega)
      omega
    have g4' := g4.potUp hbud
    have nal : ¬ (MP T p c cl (E + 40)).at_ l := not_at (pot_up (by omega) ok) hl0
    refine rs_ret g4'.r (R := fun v H' => Dt K H' v (advD size rs)) (ed_tup (K := K) (ad_cons (ed_var 1 rfl (.int (size : Int))) (ad_cons (ed_tupleL (fun _ => rfl) (fun _ => B.tuple) (eo_var 4 (hs := rfl) (hR := fun H' g => ⟨l, xs, rfl, .of (g.keep l _ hl4 nal), g.dts hxs⟩))) ad_nil))) fun z H5 g5 hz => q z H5 rs (g4'.trans g5) ⟨by omega, by omega, hr1, hr2, by rw [hlen]; exact hr3⟩ hz
end
end Kt
end
section
set_option maxHeartbeats 4000000
set_option exponentiation.threshold 5000
/-! Kt: drawn circles. -/
namespace Kt
open PySem PySem.Spec PyProof.Rows L2
theorem t_lc {wi : TI} {g : TG} {tt : TT} {te : TE} {vs : List Nat} {σ : L2.St} {H : Hp} {Q : VK} (h : wi σ H fun J H1 => ∀ D, H1 D = none → ∃ W : Nat → Nat → Hp → Prop, (∃ m, W 0 m (upd H1 D (.lst []))) ∧ ∀ i m H, W i m H →
  (J.stop i H ∧ Q (.ref D) H) ∨ (J.go i H ∧ ∃ Nx : Hp → Prop, (∀ H', Nx H' → ∃ m', m' < m ∧ W (i + 1) m' H') ∧ ∀ x H', J.yld i H x H' → g x (wipe σ vs) H' fun σ2 H2 => wipe σ2 vs = wipe σ vs ∧ tt σ2 H2 fun b H3 =>
    if b = true then te σ2 H3 fun y H4 => ∃ acc, H4 D = some (.lst acc) ∧ acc.length < sizeLine ∧ Nx (upd H4 D (.lst (acc ++ [y]))) else Nx H3)) : tLc wi g tt te vs σ H Q := h
theorem t_asgG {te : TE} {g : TG} {D : Ends} {σ : L2.St} {H : Hp} (h : ∀ Qc : VK, (Qc = fun v H1 => g v σ H1 D.nx) → te σ H Qc) : tAsg te g D σ H := h _ rfl
theorem t_test {te : TE} {σ : L2.St} {H : Hp} {Q : Bool → Hp → Prop} (h : ∀ Qc : VK, (Qc = fun v H1 => ∃ b, v = .bl b ∧ Q b H1) → te σ H Qc) : tTest te σ H Q := h _ rfl
theorem t_op {r : R2} {ta tb : TE} {σ : L2.St} {H : Hp} {Q : VK} (h : ta σ H fun x H1 => tb σ H1 fun y H2 => r x y H2 Q) : tOp r ta tb σ H Q := h
theorem t_rng1 {ta : TA} {σ : L2.St} {H : Hp} {R : It → Hp → Prop} (h : ta σ H fun vs H1 => ∃ j : Int, vs = [.int j] ∧ -(2 ^ 62) ≤ j ∧ j < 2 ^ 62 ∧ R (Itr 0 j.toNat) H1) : iRng1 ta σ H R := h
section
variable {K : PySem.W.Frag} {T p c : Addr} {cl : List Int} {E : Nat} {H H0 : Hp} {σ : L2.St} {tm te : TE} {Q : VK} {many : Int}
theorem q_any (i j : Nat) {t : Addr} {ks : List Int} (pc : PotC cl) (hs : σ[i]? = some (some (.ref p))) (hsj : σ[j]? = some (some (.ref t))) (ok : (MP T p c cl E).ok H) (hE : E < 100000) (ht : H t = some (.lst (ks.map V.int))) (n1 : t ≠ p) (n2 : t ≠ c) (hne : ks ≠ []) (hl : ks.length ≤ 100)
    (k : ∀ z H', z ∈ ks → Gr (MP T p c cl (E + 1)) H H' → Q (.int z) H') : tCall (spAny T) [] E0 (tCons (tVar i) (tCons (tVar j) tNil)) σ H Q :=
  ⟨.ref p, hs, .ref t, hsj, p, c, t, cl, ks, E, rfl, ok, pc, hE, ht, n1, n2, hne, hl, k⟩
/-- the comprehension's loop, behind its range -/
theorem lcDraw {ix : Nat} {H1 : Hp} (n cst : Nat) (Pd : PyData → Prop) (hn : n ≤ 100) (g1 : Gr (MP T p c cl E) H H1)
    (body : ∀ (i : Nat) H2, i < n → Gr (MP T p c cl (E + i * cst)) H H2 → ∀ Q1 : VK, (∀ v H3 d, Pd d → Gr (MP T p c cl (E + (i + 1) * cst)) H2 H3 → Dt K H3 v d → Q1 v H3) → te ((wipe σ [ix]).set ix (some (.int (i : Int)))) H2 Q1)
    (k : ∀ v H' ds, ds.length = n → (∀ d ∈ ds, Pd d) → Gr (MP T p c cl (E + n * cst)) H H' → NwD K (MP T p c cl (E + n * cst)) H ds v H' → Q v H') :
    ∀ D, H1 D = none → ∃ W : Nat → Nat → Hp → Prop, (∃ m, W 0 m (upd H1 D (.lst []))) ∧ ∀ i m H, W i m H →
      ((Itr 0 n).stop i H ∧ Q (.ref D) H) ∨ ((Itr 0 n).go i H ∧ ∃ Nx : Hp → Prop, (∀ H', Nx H' → ∃ m', m' < m ∧ W (i + 1) m' H') ∧ ∀ x H', (Itr 0 n).yld i H x H' → gName ix x (wipe σ [ix]) H' fun σ2 H2 => wipe σ2 [ix] = wipe σ [ix] ∧ tYes σ2 H2 fun b H3 =>
        if b = true then te σ2 H3 fun y H4 => ∃ acc, H4 D = some (.lst acc) ∧ acc.length < sizeLine ∧ Nx (upd H4 D (.lst (acc ++ [y]))) else Nx H3) := by
  intro D hD
  have hDH := (g1.fresh hD).1
  have gn : Gr (MP T p c cl E) H1 (upd H1 D (.lst [])) := .new g1.r hD
  refine lc_range (lo := 0) (n := n) (fun i H' => ∃ ds, ds.length = i ∧ (∀ d ∈ ds, Pd d) ∧ Gr (MP T p c cl (E + i * cst)) H H' ∧ ∃ acc, H' D = some (.lst acc) ∧ DtAll K H' acc ds) ⟨[], rfl, (fun d hd => by cases hd), by rw [Nat.zero_mul, Nat.add_zero]; exact g1.trans gn, [], upd_same, .nil⟩ (fun i H' hi h => ?_) fun H' h => ?_
  · obtain ⟨ds, hl, hp, g, acc, hacc, hd⟩ := h
    refine ⟨wipe1, ?_⟩
    rw [show (0 : Int) + (i : Int) = (i : Int) from by omega]
    refine body i H' hi g _ fun v H2 d hPd g2 hv => ?_
    have nD : ¬ (MP T p c cl (E + (i + 1) * cst)).at_ D := not_at (pot_up (Nat.le_add_right _ _) (g1.trans gn).l) hDH
    have g' := (g.potUp (E' := E + (i + 1) * cst) (by rw [Nat.add_mul]; omega)).trans g2
    have hacc2 := g2.keep D _ hacc nD
    refine ⟨acc, hacc2, ?_, ds ++ [d], by rw [List.length_append, hl]; rfl, fun x hx => ?_, g'.upd hDH hacc2 loc_lst, acc ++ [v], upd_same, (((g2.dts hd).mono (sqT_updL hacc2)).app (.one (hv.mono (sqT_updL hacc2))))⟩
    · rw [hd.length, hl, sizeLine_eq]
      omega
    · rcases List.mem_append.mp hx with z | z
      · exact hp x z
      · rw [List.mem_singleton.mp z]
        exact hPd
  · obtain ⟨ds, hl, hp, g, acc, hacc, hd⟩ := h
    exact k _ H' ds hl hp g ⟨D, acc, rfl, hDH, hacc, hd⟩
end
theorem advs_of {size most : Nat} : ∀ {ds : List PyData}, (∀ d ∈ ds, ∃ a, d = advD size a ∧ AdvOk size most a) → ∃ cs : List Adv, ds = cs.map (advD size) ∧ cs.length = ds.length ∧ ∀ a ∈ cs, AdvOk size most a
  | [], _ => ⟨[], rfl, rfl, fun a ha => by cases ha⟩
  | d :: ds, h => by
    obtain ⟨a, rfl, ha⟩ := h d List.mem_cons_self
    obtain ⟨cs, e1, e2, e3⟩ := advs_of fun d hd => h d (List.mem_cons_of_mem _ hd)
    refine ⟨a :: cs, by rw [List.map_cons, e1], by rw [List.length_cons, List.length_cons, e2], fun b hb => ?_⟩
    rcases List.mem_cons.mp hb with z | z
    · rw [z]; exact ha
    · exact e3 b z
def spCircle (K : PySem.W.Frag) (T : Addr) : Sp := fun vs H Q _ => ∃ (p c ts tm : Addr) (cl ss ms : List Int) (E most : Nat), vs = [.ref p, .ref ts, .ref tm, .int (most : Int)] ∧ (MP T p c cl E).ok H ∧ PotC cl ∧ E + 1000 < 100000 ∧ H ts = some (.lst (ss.map V.int)) ∧ ts ≠ p ∧ ts ≠ c ∧ H tm = some (.lst (ms.map V.int)) ∧ tm ≠ p ∧ tm ≠ c ∧
  ss ≠ [] ∧ ss.length ≤ 100 ∧ (∀ s ∈ ss, 2 ≤ s ∧ s ≤ 4) ∧ ms ≠ [] ∧ ms.length ≤ 100 ∧ (∀ m ∈ ms, 1 ≤ m ∧ m ≤ 4) ∧ 1 ≤ most ∧ most ≤ 6 ∧
  ∀ v H' (size : Nat) (cs : List Adv), Gr (MP T p c cl (E + 200)) H H' → (size : Int) ∈ ss → (cs.length : Int) ∈ ms → (∀ a ∈ cs, AdvOk size most a) → Dt K H' v (circD size cs) → Q v H'
section
variable {P : Program} {w : World} {K : PySem.W.Frag} {mg : Str → Option Value} {base : Heap} {T : Addr}
theorem c_law_circle (F : Has K mg "_law_circle" (top 66)) (B : Blt mg) (CD : Cal P w K mg base 1 "_law_draw" ["_law_pot_here", "_law_many"] (spDraw T)) (CA : Cal P w K mg base 2 "_law_any" ["_law_pot_here", "_law_things"] (spAny T)) (CV : Cal P w K mg base 2 "_law_adviser" ["_law_pot_here", "_law_size", "_law_most"] (spAdviser K T)) : Cal P w K mg base 3 "_law_circle" ["_law_pot_here", "_law_sizes", "_law_many", "_law_most"] (spCircle K T) := by
  have sc : FnScope ["_law_pot_here", "_law_sizes", "_law_many", "_law_most", "_law_size", "_law_found", "_law_turn"] ["_law_pot_here", "_law_sizes", "_law_many", "_law_most"] (defScope (top 66)) := ⟨rfl, rfl, rfl, by decide +kernel, rfl, by decide +kernel, by decide +kernel⟩
  refine cal_of F sc (fun vs H Q E ⟨_, _, _, _, _, _, _, _, _, e, _⟩ => by rw [e]; rfl) (fun _ _ _ _ _ _ us hl => match us, hl with | [_, _, _, _], _ => rfl) (fun f cdv A outer s H vs Q E' cx h => ?_)
  obtain ⟨p, c, ts, tm, cl, ss, ms, E, most, rfl, ok, pc, hE, hts, n1, n2, htm, n3, n4, hs0, hs1, hs2, hm0, hm1, hm2, m1, m6, q⟩ := h
  -- size
  refine rs_cons (ps_set (i := 4) sc.nd rfl (Or.inr rfl) (pe_cal CA cx (by decide) () rfl (pa_cons (pv 0) (pa_cons (pv 1) pa_nil))) rfl (Or.inl rfl)) ?_
  refine q_any 0 1 pc rfl rfl ok (by omega) hts n1 n2 hs0 hs1 fun z H1 hz0 g1 => ?_
  have hzz := hs2 z hz0
  obtain ⟨size, hsz⟩ : ∃ n : Nat, z = (n : Int) := ⟨z.toNat, by omega⟩
  subst hsz
  have htm1 := g1.keep tm _ htm (pot_nt g1.l htm (by intro _ z; cases z) n3 n4)
  -- found
  refine rs_cons (ps_setLc (i := 5) rfl sc.nd rfl rfl rfl (pi_range1 rfl B.range (pa_cons (pe_cal CA cx (by decide) () rfl (pa_cons (pv 0) (pa_cons (pv 2) pa_nil))) pa_nil)) (blkOk_by (own := [("_law_turn", 6)]) (N := ["_law_pot_here", "_law_sizes", "_law_many", "_law_most", "_law_size", "_law_found", "_law_turn"]) (sc := defScope (top 66)) (by decide +kernel)) (fun _ _ _ _ _ => pg_name (i := 6) sc.nd rfl (Or.inl rfl)) (fun _ _ _ _ _ => pts_nil)
    (fun s H C' cl fp => pe_cal CV (cx.blk () s H _ _ fp) (by decide) () rfl (pa_cons (pv 0) (pa_cons (pv 4) (pa_cons (pv 3) pa_nil))))) ?_
  refine t_asgG fun Qc hQc => t_lc (t_rng1 (t_cons ?_))
  refine q_any 0 2 pc rfl rfl g1.r (by omega) htm1 n3 n4 hm0 hm1 fun z2 H2 hz2 g2 => ?_
  have hz3 := hm2 z2 hz2
  obtain ⟨n, hn⟩ : ∃ n : Nat, z2 = (n : Int) := ⟨z2.toNat, by omega⟩
  subst hn
  have g12 := (g1.potUp (E' := E + 2) (by omega)).trans g2
  refine ⟨(n : Int), rfl, by omega, by omega, ?_⟩
  refine lcDraw (K := K) (E := E + 2) n 40 (fun d => ∃ a, d = advD size a ∧ AdvOk size most a) (by omega) g12 (fun i H3 hi g3 Q1 k1 => ?_) fun v H3 ds hdl hdp g3 hv => ?_
  · refine ⟨.ref p, rfl, .int (size : Int), rfl, .int (most : Int), rfl, p, c, cl, E + 2 + i * 40, size, most, rfl, g3.r, pc, ?_, by omega, by omega, m1, m6, fun v H4 a g4 ha hv => k1 v H4 (advD size a) ⟨a, rfl, ha⟩ (g4.potUp (by rw [Nat.add_mul]; omega)) hv⟩
    have : i * 40 ≤ 4 * 40 := Nat.mul_le_mul (by omega) (Nat.le_refl _)
    omega
  obtain ⟨cs, hcs, hcl, hca⟩ := advs_of hdp
  subst hcs
  rw [List.length_map] at hdl
  subst hdl
  obtain ⟨l, xs, rfl, hl0, hl3, hxs⟩ := hv
  rw [hQc]
  show RS _ _ _ [some (.ref p), some (.ref ts), some (.ref tm), some (.int (most : Int)), some (.int (size : Int)), some (.ref l), none] H3
  have g3' := g3.potUp (E' := E + 199) (by
    have : cs.length * 40 ≤ 4 * 40 := Nat.mul_le_mul (by omega) (Nat.le_refl _)
    omega)
  have nl3 : ¬ (MP T p c cl (E + 199)).at_ l := not_at g3'.l hl0
  have nl4 : ¬ (MP T p c cl (E + 200)).at_ l := not_at (pot_up (by omega) ok) hl0
  have hxl : xs.length = cs.length := by rw [hxs.length, List.length_map]
  have hne : 1 ≤ cs.length := by omega
  -- the end
  have fin : ∀ (H4 : Hp) (xs : List V) (cs' : List Adv), Gr (MP T p c cl (E + 200)) H H4 → H4 l = some (.lst xs) → DtAll K H4 xs (cs'.map (advD size)) → cs'.length = cs.length → (∀ a ∈ cs', AdvOk size most a) → RS (bX P w K mg base ["_law_pot_here", "_law_sizes", "_law_many", "_law_most", "_law_size", "_law_found", "_law_turn"] "_law_circle" (defScope (top 66)) f cdv A outer s H E') ((defBody (top 66)).drop 3) { nx := fun _ H' => Q .non H', rt := Q } [some (.ref p), some (.ref ts), some (.ref tm), some (.int (most : Int)), some (.int (size : Int)), some (.ref l), none] H4 := by
    intro H4 xs cs' g4 hl4 hx4 hlen ha
    refine rs_ret g4.r (ed_tupleL (K := K) (fun _ => rfl) (fun _ => B.tuple) (eo_var 5 (hs := rfl) (hR := fun H' g => ⟨l, xs, rfl, .of (g.keep l _ hl4 nl4), g.dts hx4⟩))) fun z H5 g5 hz => q z H5 size cs' (g4.trans g5) hz0 (by rw [hlen]; exact hz2) ha hz
  refine rs_cons (ps_if (PW.pt (pw_and (pt_cmpR op_gt (pe_callB call_len_seq rfl B.len boot_len (pa_cons (pv 5) pa_nil)) pe_int (nomark _)) (pw_and1 (pt_cmpR op_eq (pe_cal CD cx (by decide) () rfl (pa_cons (pv 0) (pa_cons pe_int pa_nil))) pe_int (nomark _))))) (pss_rs _ _) (pss_rs _ _)) ?_
  refine ⟨.ref l, rfl, l, xs, rfl, .inl (.of hl3), _, _, rfl, rfl, _, rfl, ?_⟩
  by_cases h1 : (1 : Int) < (xs.length : Int)
  · rw [decide_eq_true h1]
    refine iteT ?_
    show tTest (tOp rEq (tCall (spDraw T) [] E0 (tCons (tVar 0) (tCons (tC (.int 6)) tNil))) (tC (.int 0))) _ H3 _
    refine t_test fun Qc hQc2 => t_op ?_
    refine q_draw (many := 6) 0 pc rfl g3'.r (by omega) (by omega) (by omega) qo_int fun r H4 r0 r1 g4 => ?_
    have g4' : Gr (MP T p c cl (E + 200)) H H4 := (g3'.potUp (by omega)).trans g4
    have hl4 := g4.keep l _ hl3 nl4
    have hx4 := g4.dts hxs
    refine ⟨rfl, ?_⟩
    rw [hQc2]
    refine ⟨_, rfl, ?_⟩
    by_cases h6 : V.int r = V.int 0
    · rw [decide_eq_true h6]
      refine iteT ?_
      have hx0 : ∃ v0, xs[0]? = some v0 := ⟨xs[0]'(by omega), List.getElem?_eq_getElem (by omega)⟩
      obtain ⟨v0, hv0⟩ := hx0
      obtain ⟨d0, hd0, hvd⟩ := hx4.get' hv0
      obtain ⟨a0, ha0⟩ : ∃ a0, cs[0]? = some a0 := ⟨cs[0]'(by omega), List.getElem?_eq_getElem (by omega)⟩
      rw [List.getElem?_map, ha0] at hd0
      cases hd0
      refine rs_setL (M := MP T p c cl (E + 200)) (K := K) (l := l) (i := -(1 : Int)) (xs := xs) (R := fun v H' => v = v0) g4'.r (eo_ixL (K := K) (i := 0) (p := l) (xs := xs) (fun _ => rfl) (eo_var 5 (hs := rfl) (hR := fun H' g => ⟨rfl, .of (g.keep l _ hl4 nl4)⟩)) ed_int (atI_nat (i := 0) hv0) (fun H' g => .of (g.keep l _ hl4 nl4)) (fun _ _ => rfl)) (eo_var 5 (hs := rfl) (hR := fun _ _ => rfl)) (ed_neg ed_int) mono_eq (fun H' g => g.keep l _ hl4 nl4) (xs.length - 1) (by
        unfold ixN
        simp
        omega) fun v H5 g5 hl5 hv => ?_
      subst hv
      have e : (cs.set (cs.length - 1) a0).map (advD size) = (cs.map (advD size)).set (cs.length - 1) (advD size a0) := List.map_set
      refine rs_nil (fin _ (xs.set (xs.length - 1) v) (cs.set (cs.length - 1) a0) ((g4'.trans g5).upd hl0 hl5 loc_lst) upd_same ?_ (List.length_set) fun a ha => ?_)
      · rw [e, hxl]
        exact (((g5.dts hx4).set _ (g5.dt hvd))).mono (sqT_updL hl5)
      · rcases List.mem_or_eq_of_mem_set ha with z | z
        · exact hca a z
        · rw [z]
          exact hca a0 (List.mem_of_getElem? ha0)
    · rw [decide_eq_false h6]
      refine iteF ?_
      exact rs_nil (fin _ xs cs g4' hl4 hx4 rfl hca)
  · rw [decide_eq_false h1]
    refine iteF ?_
    exact rs_nil (fin _ xs cs (g3'.potUp (by omega)) hl3 hxs rfl hca)
end
end Kt
end
section
set_option maxHeartbeats 4000000
set_option exponentiation.threshold 5000
/-! Kt: the law's sameness, misses, pot. -/
namespace Kt
open PySem PySem.Spec PyProof.Rows L2
inductive LevD : Nat → PyData → Prop
  | int (m : Nat) (i : Int) : LevD m (.int i)
  | tup {m : Nat} {ds : List PyData} : (∀ d ∈ ds, LevD m d) → ds.length ≤ 1000 → LevD (m + 1) (.tuple ds)
section
variable {ι : Type} {X : ι → Cx} {M : Mov} {P : Program} {w : World} {K : PySem.W.Frag} {mg : Str → Option Value} {base : Heap} {n : Nat} {σ : L2.St} {H : Hp} {a b e : Expr} {p pos : Pos} {d d1 d2 : PyData}
theorem ed_neB {s t : Bool} (ha : ED X M K σ H a (.bool s)) (hb : ED X M K σ H b (.bool t)) : ED X M K σ H (.Compare a [.NotEq] [b] pos) (.bool (!decide (s = t))) :=
  eo_cmp2 (fun _ => op_ne) (nomark _) ha hb mono_dt fun x y H1 g hx hy Q k => by
    rw [dt_bl hx, dt_bl hy]
    refine ⟨rfl, ?_⟩
    have : decide (V.bl s = V.bl t) = decide (s = t) := by simp
    rw [this]
    exact k _ H1 (.refl g.r) (.bl _)
theorem to_neB {s t : Bool} (ha : ED X M K σ H a (.bool s)) (hb : ED X M K σ H b (.bool t)) : TO X M σ H (.Compare a [.NotEq] [b] pos) (!decide (s = t)) :=
  to_cmp2 (fun _ => op_ne) (nomark _) ha hb mono_dt fun x y H1 g hx hy Q k => by
    rw [dt_bl hx, dt_bl hy]
    refine ⟨rfl, ?_⟩
    have : decide (V.bl s = V.bl t) = decide (s = t) := by simp
    rw [this]
    exact k H1 (.refl g.r)
theorem ed_eqB {s t : Bool} (ha : ED X M K σ H a (.bool s)) (hb : ED X M K σ H b (.bool t)) : ED X M K σ H (.Compare a [.Eq] [b] pos) (.bool (decide (s = t))) :=
  eo_cmp2 (fun _ => op_eq) (nomark _) ha hb mono_dt fun x y H1 g hx hy Q k => by
    rw [dt_bl hx, dt_bl hy]
    refine ⟨rfl, ?_⟩
    have : decide (V.bl s = V.bl t) = decide (s = t) := by simp
    rw [this]
    exact k _ H1 (.refl g.r) (.bl _)
/-- == of data -/
theorem ed_eqD (cx : CxIs X P w K mg base n) (ha : ED X M K σ H a d1) (hb : ED X M K σ H b d2) (s1 : SeqAt.shaped d1 = true) (s2 : SeqAt.shaped d2 = true) : ED X M K σ H (.Compare a [.Eq] [b] pos) (.bool (PyData.eqv d1 d2)) :=
  eo_cmp2 (r := rEqD K) (fun j => by have := op_eqD (X := X j) (cx.room j).units; rw [cx.K] at this; exact this) (nomark _) ha hb mono_dt fun x y H1 g hx hy Q k => ⟨d1, d2, hx.dp, hy.dp, s1, s2, k _ H1 (.refl g.r) (.bl _)⟩
/-- isinstance(e, (tuple, list)) -/
theorem to_isiT {t : Bool} {pT pL pt : Pos} {kk : Nat} (hK : ∀ j, (X j).K = K) (hm : ∀ j, (X j).mg "isinstance" = none) (hmT : ∀ j, (X j).mg "tuple" = none) (hmL : ∀ j, (X j).mg "list" = none) (h : ED X M K σ H e d) (ht : PySem.W.kitAny K (.type (tyN d)) [.type "tuple", .type "list"] = some t)
    (hg : ∀ j, Gl (X j) "isinstance" := by intro _; rfl) (hgT : ∀ j, Gl (X j) "tuple" := by intro _; rfl) (hgL : ∀ j, Gl (X j) "list" := by intro _; rfl)
    (hs : ∀ j, starEach (e :: [Expr.Tuple [.Name "tuple" pT, .Name "list" pL] kk pt]) (X j).env = (false, eval e (X j).env) :: starEach [Expr.Tuple [.Name "tuple" pT, .Name "list" pL] kk pt] (X j).env := by intro _; rfl)
    (hs2 : ∀ j, starEach (Expr.Tuple [.Name "tuple" pT, .Name "list" pL] kk pt :: []) (X j).env = (false, eval (Expr.Tuple [.Name "tuple" pT, .Name "list" pL] kk pt) (X j).env) :: starEach [] (X j).env := by intro _; rfl)
    (hs3 : ∀ j, starEach (Expr.Name "tuple" pT :: [.Name "list" pL]) (X j).env = (false, eval (Expr.Name "tuple" pT) (X j).env) :: starEach [.Name "list" pL] (X j).env := by intro _; rfl)
    (hs4 : ∀ j, starEach (Expr.Name "list" pL :: []) (X j).env = (false, eval (Expr.Name "list" pL) (X j).env) :: starEach [] (X j).env := by intro _; rfl)
    (hpl : ∀ j, (backTo pos (starEach [Expr.Tuple [.Name "tuple" pT, .Name "list" pL] kk pt] (X j).env)).any (·.1) = false := by intro _; rfl) :
    ED X M K σ H (.Call (.Name "isinstance" p) [e, .Tuple [.Name "tuple" pT, .Name "list" pL] kk pt] [] pos) (.bool t) := by
  obtain ⟨te, pe, qe⟩ := h
  refine ⟨tCB (rIsiT K) (tCons te (tCons (tTup (tCons (tC (.ty "tuple")) (tCons (tC (.ty "list")) tNil))) tNil)), fun j => ?_, fun H1 g Q k => ?_⟩
  · have c : CallR (X j) (.builtin "isinstance") (rIsiT K) := by rw [← hK j]; exact call_isiT
    exact pe_callB c (hg j) (hm j) (by decide +kernel) (pa_cons (pe j) (pa_cons (pe_tup (pa_cons (pe_bltn (hgT j) (hmT j) (by decide +kernel) rfl (by decide) (by decide)) (pa_cons (pe_bltn (hgL j) (hmL j) (by decide +kernel) rfl (by decide) (by decide)) pa_nil (hs4 j)) (hs3 j))) pa_nil (hs2 j)) (hs j)) (by decide) (by decide) (hs j) (hpl j)
  · refine qe H1 g _ fun v H2 g2 hv => ⟨by show 2 ≤ sizeLine; decide, fun tp htp => ?_⟩
    have gn : Gr M H2 (upd H2 tp (.tup [.ty "tuple", .ty "list"])) := .new g2.r htp
    exact ⟨v, tp, [.ty "tuple", .ty "list"], .type (tyN d), [.type "tuple", .type "list"], t, rfl, upd_same, .cons (.ty "tuple") (.cons (.ty "list") .nil), dt_ty (gn.dt hv), ht, k _ _ (g2.trans gn) (.bl _)⟩
end
theorem kitA_int {K : PySem.W.Frag} : PySem.W.kitAny K (.type "int") [.type "tuple", .type "list"] = some false :=
  kitAny_cons (kit_ty kb_int_tuple) (fun _ => kitAny_cons (kit_ty kb_int_list) (fun _ => kitAny_nil) (fun h => by cases h)) (fun h => by cases h)
theorem kitA_tuple {K : PySem.W.Frag} : PySem.W.kitAny K (.type "tuple") [.type "tuple", .type "list"] = some true := kitAny_cons (kit_ty kb_tuple_tuple) (fun h => by cases h) (fun _ => rfl)
section
variable {P : Program} {w : World} {K : PySem.W.Frag} {mg : Str → Option Value} {base : Heap} {T : Addr}
def RIs (m : Nat) (ds : List PyData) (d : PyData) : Prop := ∃ x, ds = [x, x] ∧ LevD m x ∧ d = .bool true
theorem c_law_is (F : Has K mg "_law_is" (top 58)) (B : Blt mg) : ∀ m : Nat, Cal P w K mg base (m + 1) "_law_is" ["_law_told", "_law_due"] (DS K .no (RIs m)) := by
  have sc : FnScope ["_law_told", "_law_due", "_law_k"] ["_law_told", "_law_due"] (defScope (top 58)) := ⟨rfl, rfl, rfl, by decide +kernel, rfl, by decide +kernel, by decide +kernel⟩
  intro m
  induction m with
  | zero =>
    refine cal_of F sc (ds_len fun ds d ⟨x, e, _⟩ => by rw [e]; rfl) (fun _ _ _ _ _ _ us hl => match us, hl with | [_, _], _ => rfl) (fun f cdv A outer s H vs Q E cx h => ?_)
    obtain ⟨ok, ds, d, hd, ⟨x, rfl, hx, rfl⟩, q⟩ := h
    obtain ⟨v, u, rfl, hv, hu⟩ := dts2 hd
    cases hx with
    | int _ i =>
      refine rs_ifF (M := .no) trivial (to_val (to_isiT (K := K) cx.K (fun _ => B.isi) (fun _ => B.tuple) (fun _ => B.list) (ed_var 1 rfl hu) kitA_int)) fun H1 g => ?_
      refine rs_ret (M := .no) trivial (R := fun v H' => Dt K H' v (.bool true)) (ED.cast (ed_and (ed_eqB (ed_isi cx.K (fun _ => B.isi) (fun _ => B.bool) (by decide +kernel) (ed_var 0 rfl (g.dt hv)) kb_int_bool) (ed_isi cx.K (fun _ => B.isi) (fun _ => B.bool) (by decide +kernel) (ed_var 1 rfl (g.dt hu)) kb_int_bool)) (ed_one (ed_eqI (ed_var 0 rfl (g.dt hv)) (ed_var 1 rfl (g.dt hu))))) (by simp)) fun z H2 g2 hz => q z H2 (g.trans g2) hz
  | succ m ih =>
    refine cal_of F sc (ds_len fun ds d ⟨x, e, _⟩ => by rw [e]; rfl) (fun _ _ _ _ _ _ us hl => match us, hl with | [_, _], _ => rfl) (fun f cdv A outer s H vs Q E cx h => ?_)
    obtain ⟨ok, ds, d, hd, ⟨x, rfl, hx, rfl⟩, q⟩ := h
    obtain ⟨v, u, rfl, hv, hu⟩ := dts2 hd
    cases hx with
    | int _ i =>
      refine rs_ifF (M := .no) trivial (to_val (to_isiT (K := K) cx.K (fun _ => B.isi) (fun _ => B.tuple) (fun _ => B.list) (ed_var 1 rfl hu) kitA_int)) fun H1 g => ?_
      refine rs_ret (M := .no) trivial (R := fun v H' => Dt K H' v (.bool true)) (ED.cast (ed_and (ed_eqB (ed_isi cx.K (fun _ => B.isi) (fun _ => B.bool) (by decide +kernel) (ed_var 0 rfl (g.dt hv)) kb_int_bool) (ed_isi cx.K (fun _ => B.isi) (fun _ => B.bool) (by decide +kernel) (ed_var 1 rfl (g.dt hu)) kb_int_bool)) (ed_one (ed_eqI (ed_var 0 rfl (g.dt hv)) (ed_var 1 rfl (g.dt hu))))) (by simp)) fun z H2 g2 hz => q z H2 (g.trans g2) hz
    | @tup _ xs hxs hl =>
      refine rs_if (M := .no) (u := true) trivial (to_val (to_isiT (K := K) (d := .tuple xs) cx.K (fun _ => B.isi) (fun _ => B.tuple) (fun _ => B.list) (ed_var 1 rfl hu) kitA_tuple)) (fun _ H1 g => ?_) (fun e => by cases e)
      have hv1 := g.dt hv
      have hu1 := g.dt hu
      refine rs_ifF (M := .no) trivial (TO.cast (to_w (wo_or (to_neB (ed_isi (K := K) (d := .tuple xs) (tn := "tuple") cx.K (fun _ => B.isi) (fun _ => B.tuple) (by decide +kernel) (ed_var 0 rfl hv1) kb_tuple_tuple) (ed_isi (d := .tuple xs) (tn := "tuple") cx.K (fun _ => B.isi) (fun _ => B.tuple) (by decide +kernel) (ed_var 1 rfl hu1) kb_tuple_tuple)) (wo_or1 (to_neB (K := K) (ed_isi (d := .tuple xs) (tn := "list") cx.K (fun _ => B.isi) (fun _ => B.list) (by decide +kernel) (ed_var 0 rfl hv1) kb_tuple_list) (ed_isi (d := .tuple xs) (tn := "list") cx.K (fun _ => B.isi) (fun _ => B.list) (by decide +kernel) (ed_var 1 rfl hu1) kb_tuple_list))))) (by decide)) fun H2 g2 => ?_
      have hv2 := g2.dt hv1
      have hu2 := g2.dt hu1
      refine rs_ret (M := .no) trivial (R := fun v H' => Dt K H' v (.bool true)) (ED.cast (ed_and (ed_eqI (ed_len (ds := xs) (fun _ => rfl) (fun _ => B.len) (ed_var 0 rfl hv2)) (ed_len (ds := xs) (fun _ => rfl) (fun _ => B.len) (ed_var 1 rfl hu2))) (ed_one (ed_all (bs := List.replicate xs.length true) (fun _ => rfl) (fun _ => rfl) (fun _ => B.all)
        (EO.imp (eo_lcR (ix := 2) (te := tCall (DS K .no (RIs m)) [] E0 (tCons (tOp (rIxT K) (tVar 0) (tVar 2)) (tCons (tOp (rIxT K) (tVar 1) (tVar 2)) tNil))) cx (fun _ => sc.nd) (fun _ => B.range) (ed_len (ds := xs) (fun _ => rfl) (fun _ => B.len) (ed_var 1 rfl hu2)) (by omega) (by omega) (fun _ => blkOk_by (own := [("_law_k", 2)]) (N := ["_law_told", "_law_due", "_law_k"]) (sc := defScope (top 58)) (by decide +kernel)) (fun _ _ _ _ _ _ => pg_name (i := 2) sc.nd rfl (Or.inl rfl))
          (fun j s H C' cl fp => ?_) (fun _ f => f = .bool true) (fun i H3 hi g3 => ?_)) fun v H3 _ h => ?_)))) (by simp)) fun z H3 g3 hz => q z H3 (g.trans (g2.trans g3)) hz
      · exact pe_cal ih (cx.blk j s H _ _ fp) (Nat.le_refl _) () rfl (pa_cons (pe_ix ix_tup (pv 0) (pv 2) (fun _ _ => rfl)) (pa_cons (pe_ix ix_tup (pv 1) (pv 2) (fun _ _ => rfl)) pa_nil))
      · have hi' : i < xs.length := by omega
        refine fun H4 g4 Q' k => qd_cal (K := K) (M0 := .no) (.refl _) (qa_cons (qd_ix (d := xs[i]) (qd_var rfl ((g3.trans g4).dt hv2)) (qd_var rfl (.int (i : Int))) (atI_nat (List.getElem?_eq_getElem hi'))) (qa_cons (qd_ix (d := xs[i]) (qd_var rfl ((g3.trans g4).dt hu2)) (qd_var rfl (.int (i : Int))) (atI_nat (List.getElem?_eq_getElem hi'))) qa_nil)) ⟨xs[i], rfl, hxs _ (List.getElem_mem hi'), rfl⟩ H4 (.refl trivial) Q' fun v H5 g5 hv => k v H5 g5 ⟨_, rfl, hv⟩
      · obtain ⟨fs, hn, hlen, hp⟩ := h
        obtain ⟨a, ys, e, h1, h2⟩ := nwL hn
        refine ⟨a, ys, e, h1, ?_⟩
        have : fs = (List.replicate xs.length true).map PyData.bool := by
          refine List.ext_getElem (by rw [hlen, List.length_map, List.length_replicate]; exact Int.toNat_natCast _) fun i h1 h2 => ?_
          rw [List.getElem_map, List.getElem_replicate]
          exact hp i _ (List.getElem?_eq_getElem h1)
        rw [this] at h2
        exact h2
end
end Kt
end
section
set_option maxHeartbeats 4000000
set_option exponentiation.threshold 5000
/-! Kt: the law's misses, pot, rows. -/
namespace Kt
open PySem PySem.Spec PyProof.Rows L2
/-- tuples that were laid stay -/
def TK (H H' : Hp) : Prop := ∀ b xs, H b = some (.tup xs) → H' b = some (.tup xs)
theorem Gr.tk {M : Mov} {H H' : Hp} (g : Gr M H H') : TK H H' := fun b xs h => g.at_tup h
theorem TK.trans {H H1 H2 : Hp} (a : TK H H1) (b : TK H1 H2) : TK H H2 := fun c xs h => b c xs (a c xs h)
theorem tk_upd {H : Hp} {l : Addr} {o o' : HO} (h : H l = some o') (n : ∀ ys, o' ≠ .tup ys) : TK H (upd H l o) := fun b xs z => by
  rw [upd_ne (ne_of z h (fun y => n _ y.symm))]
  exact z
theorem tk_lst {H : Hp} {l : Addr} {xs : List V} {o : HO} (h : H l = some (.lst xs)) : TK H (upd H l o) := tk_upd h fun ys z => by cases z
/-- a row that was laid -/
def RowT (r : List Nat) (v : V) (H : Hp) : Prop := ∃ b, v = .ref b ∧ H b = some (.tup (r.map fun (x : Nat) => V.int (x : Int)))
theorem RowT.keep {r : List Nat} {v : V} {H H' : Hp} (h : RowT r v H) (k : TK H H') : RowT r v H' := let ⟨b, e, h⟩ := h; ⟨b, e, k b _ h⟩
theorem RowT.dt {K : PySem.W.Frag} {r : List Nat} {v : V} {H : Hp} (h : RowT r v H) : Dt K H v (lotD r) := by
  obtain ⟨b, rfl, h⟩ := h
  refine .tup (.of h) ?_
  have e1 : (r.map fun (x : Nat) => V.int (x : Int)) = (r.map fun (x : Nat) => (x : Int)).map V.int := by rw [List.map_map]; rfl
  have e2 : (r.map fun (x : Nat) => PyData.int (x : Int)) = (r.map fun (x : Nat) => (x : Int)).map PyData.int := by rw [List.map_map]; rfl
  rw [e1, e2]
  exact DtAll.ints _
section
variable {P : Program} {w : World} {K : PySem.W.Frag} {mg : Str → Option Value} {base : Heap}
theorem c_law_missed (F : Has K mg "_law_missed" (top 67)) (B : Blt mg) : Cal P w K mg base 1 "_law_missed" ["_law_adviser_here", "_law_row"] (DS K .no RMisses) := by
  have sc : FnScope ["_law_adviser_here", "_law_row", "_law_state", "_law_found", "_law_letter", "_law_told", "_law_nexts"] ["_law_adviser_here", "_law_row"] (defScope (top 67)) := ⟨rfl, rfl, rfl, by decide +kernel, rfl, by decide +kernel, by decide +kernel⟩
  refine cal_of F sc (ds_len fun ds d ⟨_, _, _, e, _⟩ => by rw [e]; rfl) (fun _ _ _ _ _ _ us hl => match us, hl with | [_, _], _ => rfl) (fun f cdv A outer s H vs Q E cx h => ?_)
  obtain ⟨ok, ds, d, hd, ⟨size, a, r, rfl, ha, hr, rfl⟩, q⟩ := h
  obtain ⟨v, u, rfl, hv, hu⟩ := dts2 hd
  unfold advD at hv
  refine rs_asg ok (ed_tup (K := K) (ad_cons ed_int (ad_cons ed_int ad_nil))) (pg_tup rfl (pgs_cons (pg_name (i := 2) sc.nd rfl (Or.inl rfl)) (pgs_cons (pg_name (i := 3) sc.nd rfl (Or.inl rfl)) pgs_nil))) (fun z H1 g1 hz => ?_)
  refine g_pair hz fun x y hx hy => ?_
  obtain rfl := dt_int hx
  obtain rfl := dt_int hy
  refine rs_forS (K := K) PassesOwn.never rfl rfl g1.r (ed_var 1 rfl (g1.dt hu)) (pg_name (i := 4) sc.nd rfl (Or.inl rfl)) fun H2 g2 => ?_
  refine ⟨fun i σ' H' => Gr Mov.no H2 H' ∧ Gr Mov.no H H' ∧ ∃ (st c : Int) (x y z : Option V), σ' = [some v, some u, some (.int st), some (.int c), x, y, z] ∧ 0 ≤ st ∧ st < (a.length : Int) ∧ c + missA a st (r.drop i) = missA a 0 r,
    ⟨.refl g2.r, g1.trans g2, 0, 0, none, none, none, rfl, by omega, by have := ha.pos; omega, by rw [List.drop_zero]; omega⟩, fun i σ' H' h => h.1.sk, ?_, ?_⟩
  · rintro i lv d σ' H3 hdi ⟨g23, g3, st, c, x, y, z, rfl, h0, h1, hc⟩ hlv
    rw [List.getElem?_map] at hdi
    cases hi : r[i]? with
    | none => rw [hi] at hdi; cases hdi
    | some k =>
      rw [hi] at hdi
      cases hdi
      have hk := hr k (List.mem_of_getElem? hi)
      obtain rfl := dt_int hlv
      have hrm := rule_mem h0 h1
      have hlen := ha.len _ hrm.1
      refine rs_asg g3.r (ed_ix (d := ruleD (rule a st)) (fun _ => rfl) (ed_ix (fun _ => rfl) (ed_var 0 rfl (g3.dt hv)) (ed_int (i := 1)) rfl) (ed_var (K := K) 2 rfl (.int st)) (rule_at h0 h1)) (pg_tup rfl (pgs_cons (pg_name (i := 5) sc.nd rfl (Or.inl rfl)) (pgs_cons (pg_name (i := 6) sc.nd rfl (Or.inl rfl)) pgs_nil))) (fun z2 H4 g4 hz2 => ?_)
      refine g_pair hz2 fun tv nv htv hnv => ?_
      obtain rfl := dt_int htv
      refine rs_par 3 2 rfl g4.r (ad_ao (K := K) (ad_cons (ed_add (ed_var 3 rfl (.int c)) (ed_intB (fun _ => B.int) (ed_neI (ed_var 5 rfl (.int (rule a st).1)) (ed_var 4 rfl (.int (k : Int)))))) (ad_cons (ed_ix (fun _ => rfl) (ed_var 6 rfl hnv) (ed_var 4 rfl (.int (k : Int))) (next_at (by rw [hlen]; exact hk))) ad_nil))) (fun vs H5 g5 hvs => ?_) sc.nd
      obtain ⟨x5, y5, rfl, hx5, hy5⟩ := dts2 hvs
      refine ⟨x5, y5, rfl, ?_⟩
      obtain rfl := dt_int hx5
      obtain rfl := dt_int hy5
      have hst := ha.st _ hrm.1 _ (getD_mem' (show k < (rule a st).2.length by rw [hlen]; exact hk))
      refine rs_nil ⟨g23.trans (g4.trans g5), g3.trans (g4.trans g5), _, _, _, _, _, rfl, hst.1, hst.2, ?_⟩
      have ed : r.drop i = k :: r.drop (i + 1) := by
        have hlt := (List.getElem?_eq_some_iff.mp hi)
        rw [List.drop_eq_getElem_cons hlt.1, hlt.2]
      rw [← hc, ed]
      show _ = c + ((if (rule a st).1 = (k : Int) then 0 else 1) + missA a ((rule a st).2.getD k 0) (r.drop (i + 1)))
      by_cases hcc : (rule a st).1 = (k : Int)
      · rw [if_pos hcc, decide_eq_true hcc]
        simp
      · rw [if_neg hcc, decide_eq_false hcc]
        simp
        omega
  · rintro σ' H3 ⟨g23, g3, st, c, x, y, z, rfl, h0, h1, hc⟩
    rw [lotD_len, List.drop_length] at hc
    refine rs_ret g3.r (ed_var (K := K) 3 rfl (.int c)) fun z H4 g4 hz => q z H4 (g3.trans g4) ?_
    have e : c = missA a 0 r := by
      rw [← hc]
      show c = c + 0
      omega
    rw [← e]
    exact hz
end
section
variable {ι : Type} {X : ι → Cx} {M M0 : Mov} {P : Program} {w : World} {K : PySem.W.Frag} {mg : Str → Option Value} {base : Heap} {n : Nat}
variable {σ : L2.St} {H H0 : Hp} {elt a : Expr} {scope : Scope} {te : TE} {p pr pos px : Pos} {x : Str} {ix : Nat}
/-- over a range, by a relation -/
theorem eo_lcRel {m : Nat} (Rr : Nat → V → Hp → Prop) (st : ∀ i v H H', TK H H' → Rr i v H → Rr i v H') (cx : CxIs X P w K mg base n) (hN : ∀ j, (X j).N.Nodup) (hmr : ∀ j, (X j).mg "range" = none) (hi : ED X M K σ H a (.int (m : Int))) (hm1 : m ≤ 100000) (ok : ∀ j, BlkOk (X j).N (X j).env.scope scope [(x, ix)])
    (hg : ∀ j (s : Shared) (H : Hp) (C : Addr) (cl : List (Str × Addr)) (fp : List Addr), PG ((X j).blk s H scope (compEnvC scope cl C (X j).env) fp) (.Name x px) (gName ix))
    (he : ∀ j (s : Shared) (H : Hp) (C : Addr) (cl : List (Str × Addr)) (fp : List Addr), PE ((X j).blk s H scope (compEnvC scope cl C (X j).env) fp) elt te)
    (q : ∀ (i : Nat) H1, i < m → Gr M H H1 → QO M te ((wipe σ [ix]).set ix (some (.int i))) H1 (Rr i))
    (hgr : ∀ j, Gl (X j) "range" := by intro _; rfl) (hs1 : ∀ j, starEach [a] (X j).env = [(false, eval a (X j).env)] := by intro _; rfl)
    (hs : ∀ j x, foldedSetIterable (.Call (.Name "range" pr) [a] [] p) (X j).env x = pure x := by intro _ _; rfl) :
    EO X M σ H (.ListComp elt [⟨.Name x px, .Call (.Name "range" pr) [a] [] p, [], 0⟩] scope pos) (fun v H' => ∃ b xs, v = .ref b ∧ H b = none ∧ H' b = some (.lst xs) ∧ xs.length = m ∧ ∀ i v, xs[i]? = some v → Rr i v H') := by
  obtain ⟨ti, pi, qi⟩ := ao_one hi fun j => hs1 j
  refine ⟨tLc (iRng1 ti) (gName ix) tYes te [ix], fun j => ?_, fun H1 g1 Q k => ?_⟩
  · exact pe_lc (cx.calm j) (hN j) (pi_range1 (hgr j) (hmr j) (pi j) (hs1 j)) (ok j) (hg j) (fun _ _ _ _ _ => pts_nil) (he j) (hs j)
  · refine qi H1 g1 _ fun vs H2 g2 hv => ?_
    obtain ⟨v, rfl, hv⟩ := hv
    rw [dt_int hv]
    have g12 := g1.trans g2
    refine ⟨(m : Int), rfl, by omega, by omega, fun D hD => ?_⟩
    have hDH := (g12.fresh hD).1
    have nD : ¬ M.at_ D := not_at g2.r hD
    refine lc_range (lo := 0) (n := m) (fun i H' => Gr M H2 H' ∧ ∃ acc, H' D = some (.lst acc) ∧ acc.length = i ∧ ∀ t v, acc[t]? = some v → Rr t v H') ⟨.new g2.r hD, [], upd_same, rfl, fun t v e => by simp at e⟩ (fun i H' hi' h => ?_) fun H' h => ?_
    · obtain ⟨g, acc, hacc, hlen, hp⟩ := h
      refine ⟨wipe1, ?_⟩
      rw [show (0 : Int) + (i : Int) = (i : Int) from by omega]
      refine q i H' hi' (g12.trans g) H' (.refl g.r) _ fun u H3 g3 hu => ?_
      have hacc3 := g3.keep D _ hacc nD
      refine ⟨acc, hacc3, by rw [hlen, sizeLine_eq]; omega, (g.trans g3).upd hD hacc3 loc_lst, acc ++ [u], upd_same, by rw [List.length_append, hlen]; rfl, fun t v e => ?_⟩
      by_cases ht : t < acc.length
      · rw [List.getElem?_append_left ht] at e
        exact st _ _ _ _ (g3.tk.trans (tk_lst hacc3)) (hp t v e)
      · rw [List.getElem?_append_right (by omega)] at e
        have et : t = i := by
          have := (List.getElem?_eq_some_iff.mp e).1
          simp at this
          omega
        subst et
        rw [hlen, Nat.sub_self] at e
        cases e
        exact st _ _ _ _ (tk_lst hacc3) hu
    · obtain ⟨g, acc, hacc, hlen, hp⟩ := h
      exact k _ _ (g2.trans g) ⟨D, acc, rfl, hDH, hacc, hlen, hp⟩
end
/-- the rows rs, laid -/
def RowsAt (H : Hp) (xs : List V) (rs : List (List Nat)) : Prop := xs.length = rs.length ∧ ∀ (i : Nat) (v : V) (r : List Nat), xs[i]? = some v → rs[i]? = some r → RowT r v H
theorem RowsAt.keep {H H' : Hp} {xs : List V} {rs : List (List Nat)} (h : RowsAt H xs rs) (k : TK H H') : RowsAt H' xs rs := ⟨h.1, fun i v r e1 e2 => (h.2 i v r e1 e2).keep k⟩
theorem RowsAt.app {H : Hp} {xs ys : List V} {rs qs : List (List Nat)} (h : RowsAt H xs rs) (g : RowsAt H ys qs) : RowsAt H (xs ++ ys) (rs ++ qs) := by
  refine ⟨by rw [List.length_append, List.length_append, h.1, g.1], fun i v r e1 e2 => ?_⟩
  have hl := h.1
  by_cases hi : i < xs.length
  · rw [List.getElem?_append_left hi] at e1
    rw [List.getElem?_append_left (by omega)] at e2
    exact h.2 i v r e1 e2
  · rw [List.getElem?_append_right (by omega)] at e1 e2
    rw [← hl] at e2
    exact g.2 _ v r e1 e2
def spRows (K : PySem.W.Frag) : Sp := fun vs H Q _ => ∃ (size many : Nat), vs = [.int (size : Int), .int (many : Int)] ∧ 2 ≤ size ∧ size ≤ 4 ∧ size ^ many ≤ 3000 ∧ many ≤ 20 ∧ ∀ (a : Addr) (xs : List V) (H' : Hp), Gr .no H H' → H a = none → H' a = some (.lst xs) → RowsAt H' xs (rowsL size many) → Q (.ref a) H'
section
variable {X : Cx} {M : Mov} {σ : L2.St} {H : Hp} {rest : List Stmt} {D : Ends} {o e : Expr} {pos : Pos} {R : V → Hp → Prop}
/-- l.extend(e), e a new list, by a relation -/
theorem rs_extendR {l : Addr} {xs : List V} {p1 p2 : Pos} (ok : M.ok H) (hO : EO (fun _ : Unit => X) M σ H o (fun v _ => v = .ref l)) (hl : H l = some (.lst xs)) (hna : ¬ M.at_ l) (hz : xs.length ≤ 100000) (Rl : List V → Hp → Prop) (hlen : ∀ ys H', Rl ys H' → ys.length ≤ 100000) (he : EO (fun _ : Unit => X) M σ H e fun v H' => ∃ b ys, v = .ref b ∧ H' b = some (.lst ys) ∧ Rl ys H')
    (k : ∀ ys H1, Gr M H H1 → H1 l = some (.lst xs) → Rl ys H1 → RS X rest D σ (upd H1 l (.lst (xs ++ ys))))
    (hs : swapsWith (.Call (.Attribute o "extend" p1) [e] [] p2) none pos.line X.env = pure false := by rfl)
    (hbase : attributeBase o "extend" X.env (eval o X.env) = eval o X.env := by rfl)
    (hfew : ((backTo p2 (starEach (e :: []) X.env)).all (fun x => !x.1) && (backToKw p2 (keywordEach [] X.env)).all (fun x => x.1.isSome)
      && decide ((e :: ([] : List Expr)).length + ([] : List Keyword).length + (if ([] : List Keyword).isEmpty then 0 else 1) < 30)) = true := by rfl)
    (hline : (p1.endLine == p2.line) = true := by rfl) (hst : starEach (e :: []) X.env = (false, eval e X.env) :: starEach [] X.env := by rfl) (hpl : (backTo p2 (starEach [] X.env)).any (·.1) = false := by rfl) :
    RS X (.Expr (.Call (.Attribute o "extend" p1) [e] [] p2) pos :: rest) D σ H := by
  obtain ⟨to, po, qo⟩ := hO
  obtain ⟨te, pe, qe⟩ := he
  refine rs_cons (ps_expr (pe_bm PySem.F.plainAttrs_list PySem.F.slot_list_extend PySem.F.type_list_extend mt_extend (po ()) (pa_cons (pe ()) pa_nil hst) hbase hfew hline hst hpl) hs) ?_
  refine qo H (.refl ok) _ fun v H1 g1 hv => ?_
  subst hv
  have h1 := g1.keep l _ hl hna
  refine ⟨.inl ⟨rfl, _, SqL.of h1⟩, ?_⟩
  refine qe H1 g1 _ fun u H2 g2 hu => ?_
  obtain ⟨b, ys, rfl, hb, hy⟩ := hu
  have h2 := g2.keep l _ h1 hna
  refine ⟨l, b, xs, ys, rfl, rfl, h2, hb, ?_, k ys H2 (g1.trans g2) h2 hy⟩
  exact Nat.le_trans (Nat.add_le_add hz (hlen ys H2 hy)) (by decide)
end
theorem pow_small {size many i : Nat} (h2 : 2 ≤ size) (h : size ^ many ≤ 3000) (hi : i ≤ many) : size ^ i ≤ 3000 := Nat.le_trans (Nat.pow_le_pow_right (by omega) hi) h
section
variable {P : Program} {w : World} {K : PySem.W.Frag} {mg : Str → Option Value} {base : Heap}
theorem c_law_rows (F : Has K mg "_law_rows" (top 68)) (B : Blt mg) : Cal P w K mg base 1 "_law_rows" ["_law_size", "_law_many"] (spRows K) := by
  have sc : FnScope ["_law_size", "_law_many", "_law_found", "_law_turn", "_law_later", "_law_row", "_law_letter"] ["_law_size", "_law_many"] (defScope (top 68)) := ⟨rfl, rfl, rfl, by decide +kernel, rfl, by decide +kernel, by decide +kernel⟩
  refine cal_of F sc (fun vs H Q E ⟨_, _, e, _⟩ => by rw [e]; rfl) (fun _ _ _ _ _ _ us hl => match us, hl with | [_, _], _ => rfl) (fun f cdv A outer s H vs Q E cx h => ?_)
  obtain ⟨size, many, rfl, s2, s4, hpw, hm20, q⟩ := h
  have na : ∀ l, ¬ Mov.no.at_ l := fun _ z => z.elim
  refine rs_set (M := .no) 2 trivial (eo_lst1 (R := fun v H' => RowT [] v H') ⟨_, fun _ => pe_tup pa_nil, fun H1 g Q k => ⟨by show 0 ≤ sizeLine; exact Nat.zero_le _, fun p hp => k _ _ (.new g.r hp) ⟨p, rfl, upd_same⟩⟩⟩ (fun v H H' g h => h.keep g.tk)) (fun u H1 g1 hu => ?_) sc.nd
  obtain ⟨l, u0, rfl, hl0, hl1, hu0⟩ := hu
  refine rs_forR (M := .no) (K := K) PassesOwn.never rfl g1.r B.range (ed_var 1 rfl (.int (many : Int))) (by omega) (by omega) (pg_name (i := 3) sc.nd rfl (Or.inl rfl)) fun H2 g2 => ?_
  refine ⟨fun i σ' H' => Gr .no H H' ∧ ∃ (l : Addr) (xs : List V) (o3 o4 o5 : Option V), σ' = [some (.int (size : Int)), some (.int (many : Int)), some (.ref l), o3, o4, o5, none] ∧ H l = none ∧ H' l = some (.lst xs) ∧ RowsAt H' xs (rowsL size i),
    ⟨g1.trans g2, l, [u0], none, none, none, rfl, hl0, g2.keep l _ hl1 (na l), rfl, fun i v r e1 e2 => ?_⟩, ?_, ?_⟩
  · cases i with
    | zero =>
      cases e1
      cases e2
      exact hu0.keep g2.tk
    | succ i => simp at e1
  · rintro i σ' H3 hi ⟨g3, l, xs, o3, o4, o5, rfl, hl0, hl3, hrows⟩
    have hi' : i < many := by omega
    have hcnt : (rowsL size i).length ≤ 3000 := by rw [rowsL_length]; exact pow_small s2 hpw (by omega)
    have hcnt1 : (rowsL size (i + 1)).length ≤ 3000 := by rw [rowsL_length]; exact pow_small s2 hpw (by omega)
    refine rs_set (M := .no) 4 trivial (eo_lst (K := K) ad_nil) (fun u H4 g4 hu => ?_) sc.nd
    obtain ⟨m, xs0, rfl, hm3, hm4, hd0⟩ := hu
    cases hd0
    have hm0 := (g3.fresh hm3).1
    have hl4 := g4.keep l _ hl3 (na l)
    have g04 := g3.trans g4
    refine rs_forL (M := .no) (K := K) PassesOwn.never rfl rfl g4.r (a := l) (xs := xs) (eo_var 2 (hs := rfl) (hR := fun H' g => ⟨rfl, .of (g.keep l _ hl4 (na l))⟩)) (pg_name (i := 5) sc.nd rfl (Or.inr rfl)) fun H5 g5 => ?_
    have nlm : l ≠ m := fun z => by rw [z, hm3] at hl3; cases hl3
    refine ⟨fun t σ' H' => Gr .no H H' ∧ TK H5 H' ∧ ∃ (o5 : Option V) (ys : List V), σ' = [some (.int (size : Int)), some (.int (many : Int)), some (.ref l), some (.int (i : Int)), some (.ref m), o5, none] ∧ H' l = some (.lst xs) ∧ H' m = some (.lst ys) ∧ RowsAt H' ys (((rowsL size i).take t).flatMap fun r => (List.range size).map fun x => r ++ [x]),
      ⟨g04.trans g5, fun _ _ h => h, o5, [], rfl, g5.keep l _ hl4 (na l), g5.keep m _ hm4 (na m), rfl, fun i v r e => by simp at e⟩, fun t σ' H' _ h => .of (by obtain ⟨_, _, _, _, _, h, _⟩ := h; exact h), ?_, ?_⟩
    · rintro t v σ' H6 hv ⟨g6, tk, o5, ys, rfl, hl6, hm6, hys⟩
      obtain ⟨r, hr⟩ : ∃ r, (rowsL size i)[t]? = some r := ⟨(rowsL size i)[t]'(by rw [← hrows.1]; exact (List.getElem?_eq_some_iff.mp hv).1), List.getElem?_eq_getElem _⟩
      have hrt : RowT r v H6 := (hrows.2 t v r hv hr).keep ((g4.trans g5).tk.trans tk)
      have hrl : r.length = i := (mem_rowsL.mp (List.mem_of_getElem? hr)).1
      have htl : t < (rowsL size i).length := (List.getElem?_eq_some_iff.mp hr).1
      have hyl : ys.length ≤ 100000 := by
        rw [hys.1, flatMap_len _ size (fun a => by rw [List.length_map, List.length_range]), List.length_take]
        have : min t (rowsL size i).length * size ≤ 3000 * 4 := Nat.mul_le_mul (by omega) (by omega)
        omega
      refine rs_extendR (M := .no) g6.r (eo_var 4 (hs := rfl) (hR := fun _ _ => rfl)) hm6 (na m) hyl (fun zs H' => zs.length = size ∧ ∀ x v, zs[x]? = some v → RowT (r ++ [x]) v H') (fun zs H' h => by rw [h.1]; omega)
        (EO.imp (eo_lcRel (K := K) (ix := 6) (te := tOp (rCatA K) (tVar 5) (tTup (tCons (tVar 6) tNil))) (fun x v H' => RowT (r ++ [x]) v H') (fun i v H H' k h => h.keep k) cx (fun _ => sc.nd) (fun _ => B.range) (ed_var 0 rfl (.int (size : Int))) (by omega) (fun _ => blkOk_by (own := [("_law_letter", 6)]) (N := ["_law_size", "_law_many", "_law_found", "_law_turn", "_law_later", "_law_row", "_law_letter"]) (sc := defScope (top 68)) (by decide +kernel)) (fun _ _ _ _ _ _ => pg_name (i := 6) sc.nd rfl (Or.inl rfl)) (fun _ _ _ _ _ _ => pe_op op_catA (pv 5) (pe_tup (pa_cons (pv 6) pa_nil))) fun x H7 hx g7 => ?_) fun v H' _ ⟨b, zs, e, _, h1, h2, h3⟩ => ⟨b, zs, e, h1, h2, h3⟩) fun zs H7 g7 hm7 hzs => ?_
      · refine fun H8 g8 Q' k => ?_
        obtain ⟨b, rfl, hb⟩ := hrt.keep (g7.trans g8).tk
        refine ⟨.ref b, rfl, .int (x : Int), rfl, by show 1 ≤ sizeLine; decide, fun tp htp => ?_⟩
        have ga : Gr .no H8 (upd H8 tp (.tup [.int (x : Int)])) := .new g8.r htp
        have hb' := ga.at_tup hb
        refine ⟨b, tp, _, [.int (x : Int)], rfl, rfl, .of hb', .of upd_same, ?_, fun z => ?_, fun _ z => (by cases z), fun _ _ pn hpn => ?_⟩
        · rw [List.length_map, hrl, sizeLine_eq]
          show i + 1 ≤ _
          omega
        · refine k _ _ ga ⟨tp, rfl, ?_⟩
          have : r = [] := by simpa using z
          rw [this]
          exact upd_same
        · have gb : Gr .no H8 (upd (upd H8 tp (.tup [.int (x : Int)])) pn (.tup ((r.map fun (x : Nat) => V.int (x : Int)) ++ [.int (x : Int)]))) := ga.trans (.new ga.r hpn)
          refine k _ _ gb ⟨pn, rfl, ?_⟩
          rw [List.map_append]
          exact upd_same
      · have tk7 : TK H6 (upd H7 m (.lst (ys ++ zs))) := g7.tk.trans (tk_lst hm7)
        refine rs_nil ⟨(g6.trans g7).upd hm0 hm7 loc_lst, tk.trans tk7, _, ys ++ zs, rfl, by rw [upd_ne nlm]; exact g7.keep l _ hl6 (na l), upd_same, ?_⟩
        have e : ((rowsL size i).take (t + 1)).flatMap (fun r => (List.range size).map fun x => r ++ [x]) = ((rowsL size i).take t).flatMap (fun r => (List.range size).map fun x => r ++ [x]) ++ (List.range size).map fun x => r ++ [x] := by
          rw [List.take_add_one, hr, List.flatMap_append]
          simp
        rw [e]
        refine (hys.keep tk7).app ⟨by rw [hzs.1, List.length_map, List.length_range], fun x v r' e1 e2 => ?_⟩
        rw [List.getElem?_map] at e2
        have hxs : x < size := by rw [← hzs.1]; exact (List.getElem?_eq_some_iff.mp e1).1
        rw [List.getElem?_range hxs] at e2
        cases e2
        exact (hzs.2 x v e1).keep (tk_lst hm7)
    · rintro σ' H6 ⟨g6, tk, o5, ys, rfl, hl6, hm6, hys⟩
      rw [hrows.1, List.take_length] at hys
      refine rs_set (M := .no) 2 trivial (R := fun v _ => v = .ref m) (eo_var 4 (hs := rfl) (hR := fun _ _ => rfl)) (fun u H7 g7 hu => ?_) sc.nd
      subst hu
      exact rs_nil ⟨g6.trans g7, m, ys, _, _, _, rfl, hm0, g7.keep m _ hm6 (na m), hys.keep g7.tk⟩
  · rintro σ' H3 ⟨g3, l, xs, o3, o4, o5, rfl, hl0, hl3, hrows⟩
    rw [Int.toNat_natCast] at hrows
    refine rs_ret (M := .no) trivial (R := fun v _ => v = .ref l) (eo_var 2 (hs := rfl) (hR := fun _ _ => rfl)) fun v H4 g4 hv => ?_
    subst hv
    exact q l xs H4 (g3.trans g4) hl0 (g4.keep l _ hl3 (na l)) (hrows.keep g4.tk)
end
end Kt
end
section
set_option maxHeartbeats 4000000
set_option exponentiation.threshold 5000
/-! Kt: the law's chances, its pot. -/
namespace Kt
open PySem PySem.Spec PyProof.Rows L2
theorem shaped_fr (q : Rat) : SeqAt.shaped (fr q) = true := by unfold fr; rfl
theorem eqv_fr (p q : Rat) : PyData.eqv (fr p) (fr q) = decide (p = q) := by
  unfold fr
  have e : PyData.eqv (.tuple [.int p.num, .int (p.den : Int)]) (.tuple [.int q.num, .int (q.den : Int)]) = ((p.num == q.num) && (((p.den : Int) == (q.den : Int)) && true)) := by simp [PyData.eqv, PyData.eqvAll]
  rw [e]
  by_cases h : p = q
  · subst h
    simp
  · rw [decide_eq_false h]
    by_cases h1 : p.num = q.num
    · by_cases h2 : (p.den : Int) = (q.den : Int)
      · exact absurd (Rat.ext h1 (by exact_mod_cast h2)) h
      · simp [h2]
    · simp [h1]
section
variable {M : Mov} {K : PySem.W.Frag} {σ : L2.St} {H : Hp} {ta tb : TE} {s t : Bool} {d : PyData}
theorem qd_and (ha : QD K M ta σ H (.bool s)) (hb : QD K M tb σ H (.bool t)) : QD K M (tAndV ta tb) σ H (.bool (s && t)) := fun H1 g Q k => by
  refine ha H1 g _ fun x H2 g2 hx => ⟨s, dt_bl hx, ?_⟩
  cases s with
  | false => exact k _ H2 g2 (.bl _)
  | true => exact hb H2 (g.trans g2) Q fun v H3 g3 hv => k v H3 (g2.trans g3) hv
theorem qd_not (ha : QD K M ta σ H (.bool s)) : QD K M (tNotV ta) σ H (.bool (!s)) := fun H1 g Q k => ha H1 g _ fun x H2 g2 hx => ⟨s, dt_bl hx, k _ H2 g2 (.bl _)⟩
theorem qd_isi {tn : String} (ha : QD K M ta σ H d) (ht : kitB (tyN d) tn = some t) : QD K M (tCB (rIsi K) (tCons ta (tCons (tC (.ty tn)) tNil))) σ H (.bool t) := fun H1 g Q k =>
  ha H1 g _ fun v H2 g2 hv => ⟨v, .ty tn, .type (tyN d), .type tn, t, rfl, .ty tn, dt_ty hv, kit_ty ht, k _ H2 g2 (.bl _)⟩
end
def RChances (ds : List PyData) (d : PyData) : Prop := ∃ (size m b : Nat) (qs : List Rat), ds = [.int (size : Int), .tuple (qs.map fr)] ∧ qs.length = size ∧ Pok m b qs ∧ (∀ q ∈ qs, 0 ≤ q) ∧ totalL qs = 1 ∧ d = .bool true
section
variable {P : Program} {w : World} {K : PySem.W.Frag} {mg : Str → Option Value} {base : Heap}
theorem c_law_are_chances (F : Has K mg "_law_are_chances" (top 71)) (B : Blt mg) (CG : Cal P w K mg base 1 "_law_gcd" ["_law_one", "_law_other"] (DS K .no RGcd)) (CP : Cal P w K mg base 3 "_law_plus" ["_law_one", "_law_other"] (DS K .no RPlus)) : Cal P w K mg base 4 "_law_are_chances" ["_law_size", "_law_thing"] (DS K .no RChances) := by
  have sc : FnScope ["_law_size", "_law_thing", "_law_total", "_law_one", "_law_k"] ["_law_size", "_law_thing"] (defScope (top 71)) := ⟨rfl, rfl, rfl, by decide +kernel, rfl, by decide +kernel, by decide +kernel⟩
  refine cal_of F sc (ds_len fun ds d ⟨_, _, _, _, e, _⟩ => by rw [e]; rfl) (fun _ _ _ _ _ _ us hl => match us, hl with | [_, _], _ => rfl) (fun f cdv A outer s H vs Q E cx h => ?_)
  obtain ⟨ok, ds, d, hd, ⟨size, m, b, qs, rfl, hlen, pk, hnn, hsum, rfl⟩, q⟩ := h
  obtain ⟨v, u, rfl, hv, hu⟩ := dts2 hd
  refine rs_ifF (M := .no) trivial (TO.cast (to_w (wo_or (t := false) (to_not (t := true) (to_val (ed_isi (K := K) (d := .tuple (qs.map fr)) (tn := "tuple") cx.K (fun _ => B.isi) (fun _ => B.tuple) (by decide +kernel) (ed_var 1 rfl hu) kb_tuple_tuple))) (wo_or1 (to_ne (K := K) (ed_len (ds := qs.map fr) (fun _ => rfl) (fun _ => B.len) (ed_var 1 rfl hu)) (ed_var 0 rfl hv))))) (by rw [List.length_map, hlen]; simp)) fun H1 g1 => ?_
  have f01 : fr 0 = .tuple [.int 0, .int 1] := fr_int 0
  have f11 : fr 1 = .tuple [.int 1, .int 1] := fr_int 1
  refine rs_set (M := .no) 2 trivial (R := fun v H' => Dt K H' v (fr 0)) (ED.cast (ed_tup (K := K) (ad_cons ed_int (ad_cons ed_int ad_nil))) f01.symm) (fun t H2 g2 ht => ?_) sc.nd
  have g12 := g1.trans g2
  refine rs_forS (M := .no) (K := K) PassesOwn.never rfl rfl g2.r (ed_var 1 rfl (g12.dt hu)) (pg_name (i := 3) sc.nd rfl (Or.inl rfl)) fun H3 g3 => ?_
  refine ⟨fun i σ' H' => Gr Mov.no H H' ∧ Gr Mov.no H3 H' ∧ ∃ (t : V) (y : Option V), σ' = [some v, some u, some t, y, none] ∧ Dt K H' t (fr (totalL (qs.take i))), ⟨g12.trans g3, .refl trivial, t, none, rfl, g3.dt ht⟩, fun i σ' H' h => h.2.1.sk, ?_, ?_⟩
  · rintro i ov d σ' H4 hdi ⟨g4, g34, t, y, rfl, ht⟩ hov
    rw [List.getElem?_map] at hdi
    cases hi : qs[i]? with
    | none => rw [hi] at hdi; cases hdi
    | some p =>
      rw [hi] at hdi
      cases hdi
      have hp := List.mem_of_getElem? hi
      have hp0 := hnn p hp
      have hov' := hov
      unfold fr at hov
      refine rs_ifF (M := .no) trivial (TO.cast (to_w (wo_or (t := false) (to_not (t := true) (to_val (ed_isi (K := K) (d := .tuple [.int p.num, .int (p.den : Int)]) (tn := "tuple") cx.K (fun _ => B.isi) (fun _ => B.tuple) (by decide +kernel) (ed_var 3 rfl hov) kb_tuple_tuple))) (wo_or (to_ne (K := K) (ed_len (ds := [.int p.num, .int (p.den : Int)]) (fun _ => rfl) (fun _ => B.len) (ed_var 3 rfl hov)) ed_int)
        (wo_or1 (to_not (t := true) (to_val (ed_allT (K := K) (ds := [.int p.num, .int (p.den : Int)]) (te := tAndV (tCB (rIsi K) (tCons (tVar 4) (tCons (tC (.ty "int")) tNil))) (tNotV (tCB (rIsi K) (tCons (tVar 4) (tCons (tC (.ty "bool")) tNil))))) (ix := 4) cx B (fun _ => sc.nd) (ed_var 3 rfl hov) (fun _ => blkOk_by (own := [("_law_k", 4)]) (N := ["_law_size", "_law_thing", "_law_total", "_law_one", "_law_k"]) (sc := defScope (top 71)) (by decide +kernel)) (fun _ _ _ _ _ _ => pg_name (i := 4) sc.nd rfl (Or.inl rfl)) (fun _ _ _ _ _ _ => ?_) (by show 2 ≤ 100000; omega) fun j x d H5 hdj g5 hx => ?_))))))) (by simp)) fun H5 g5 => ?_
      · exact pe_and (pe_callB call_isi rfl B.isi (by decide +kernel) (pa_cons (pv 4) (pa_cons (pe_bltn rfl B.int (by decide +kernel) rfl) pa_nil))) (pe_one (pe_not (pe_callB call_isi rfl B.isi (by decide +kernel) (pa_cons (pv 4) (pa_cons (pe_bltn rfl B.bool (by decide +kernel) rfl) pa_nil)))))
      · have hdint : ∃ z, d = .int z := by
          match j, hdj with
          | 0, h => cases h; exact ⟨_, rfl⟩
          | 1, h => cases h; exact ⟨_, rfl⟩
          | j + 2, h => simp at h
        obtain ⟨z, rfl⟩ := hdint
        exact qd_and (s := true) (t := true) (qd_isi (qd_var rfl hx) kb_int_int) (qd_not (s := false) (qd_isi (qd_var rfl hx) kb_int_bool))
      · have hov5 := g5.dt hov
        have hn0 : 0 ≤ p.num := Rat.num_nonneg.mpr hp0
        have hd0 : 0 < p.den := p.den_pos
        refine rs_ifF (M := .no) trivial (TO.cast (to_w (wo_or (to_lt (K := K) (ed_ix (ds := [.int p.num, .int (p.den : Int)]) (fun _ => rfl) (ed_var 3 rfl hov5) (ed_int (i := 0)) rfl) ed_int) (wo_or (to_lt (K := K) (ed_ix (ds := [.int p.num, .int (p.den : Int)]) (fun _ => rfl) (ed_var 3 rfl hov5) (ed_int (i := 1)) rfl) ed_int)
          (wo_or1 (to_ne (K := K) (ed_call CG cx (by decide) (.refl _) (ad_cons (ed_ix (ds := [.int p.num, .int (p.den : Int)]) (fun _ => rfl) (ed_var 3 rfl hov5) (ed_int (i := 0)) rfl) (ad_cons (ed_ix (ds := [.int p.num, .int (p.den : Int)]) (fun _ => rfl) (ed_var 3 rfl hov5) (ed_int (i := 1)) rfl) ad_nil)) ⟨p.num, p.den, rfl, rfl⟩) ed_int))))) ?_) fun H6 g6 => ?_
        · have hr : Nat.gcd p.num.natAbs p.den = 1 := p.reduced
          rw [hr, decide_eq_false (show ¬ p.num < 0 by omega), decide_eq_false (show ¬ ((p.den : Int) < 1) by omega)]
          rfl
        · have g46 := g5.trans g6
          refine rs_set (M := .no) 2 trivial (ed_call CP cx (by decide) (.refl _) (ad_cons (ed_var 2 rfl (g46.dt ht)) (ad_cons (ed_var 3 rfl (g46.dt hov')) ad_nil)) ⟨_, _, rfl, pk.smT i, pk.sm hp, rfl⟩) (fun z H7 g7 hz => ?_) sc.nd
          rw [← take_getD hi] at hz
          exact rs_nil ⟨g4.trans (g46.trans g7), g34.trans (g46.trans g7), z, _, rfl, hz⟩
  · rintro σ' H4 ⟨g4, g34, t, y, rfl, ht⟩
    rw [List.length_map, List.take_length, hsum] at ht
    refine rs_ret (M := .no) trivial (R := fun v H' => Dt K H' v (.bool true)) (ED.cast (ed_eqD cx (ed_var 2 rfl ht) (ED.cast (ed_tup (ad_cons ed_int (ad_cons ed_int ad_nil))) f11.symm) (shaped_fr _) (shaped_fr _)) (by rw [eqv_fr, decide_eq_true rfl])) fun z H5 g5 hz => q z H5 (g4.trans g5) hz
end
end Kt
end
section
set_option maxHeartbeats 4000000
set_option exponentiation.threshold 5000
/-! Kt: what is missed behind the best. -/
namespace Kt
open PySem PySem.Spec PyProof.Rows L2
/-! ### numbers -/
theorem missA_range (a : Adv) : ∀ (r : List Nat) (s : Int), 0 ≤ missA a s r ∧ missA a s r ≤ (r.length : Int)
  | [], s => by simp [missA]
  | x :: r, s => by
    have := missA_range a r ((rule a s).2.getD x 0)
    show 0 ≤ (if (rule a s).1 = (x : Int) then 0 else 1) + missA a ((rule a s).2.getD x 0) r ∧ (if (rule a s).1 = (x : Int) then 0 else 1) + missA a ((rule a s).2.getD x 0) r ≤ ((x :: r).length : Int)
    rw [List.length_cons]
    split <;> omega
theorem best_range {cs : List Adv} (hc : cs ≠ []) (r : List Nat) : 0 ≤ best cs r ∧ best cs r ≤ (r.length : Int) := by
  unfold best
  obtain ⟨h, _⟩ := minI_spec (l := cs.map fun a => missA a 0 r) (by simpa using hc)
  obtain ⟨a, _, e⟩ := List.mem_map.mp h
  rw [← e]
  exact missA_range a r 0
theorem filled_pok {m B : Nat} {ws : List Rat} (h : Wok m B ws) (hm : m ≤ 15) (hb : B ≤ 400) : Pok (m + 1) (2 * B + 2) (filled ws) ∧ ∀ q ∈ filled ws, 0 ≤ q := by
  have bd1 : Bd 1 (1 : Rat) := Bd.int (i := 1) (by decide)
  have hl := h.level
  have key : ∀ q ∈ filled ws, Dy (m + 1) q ∧ Bd (2 * B + 2) q ∧ 0 ≤ q := fun q hq => by
    unfold filled at hq
    obtain ⟨x, hx, rfl⟩ := List.mem_map.mp hq
    have hx := List.mem_range.mp hx
    have hw := getD_mem hx
    refine ⟨?_, ?_, chance_nonneg _ _ _⟩
    · unfold chance
      split
      · exact Dy.int (m + 1) 0
      · exact (((h.dy _ hw).le (by omega)).add (Dy.int (m + 1) 1)).sub hl.1
    · unfold chance
      split
      · exact Bd.int (i := 0) (by simp)
      · exact (((h.bd _ hw).add bd1).sub hl.2).le (by omega)
  exact ⟨⟨fun q hq => (key q hq).1, fun q hq => (key q hq).2.1, by rw [filled_length]; have := h.n4; omega, by omega, by omega⟩, fun q hq => (key q hq).2.2⟩
theorem told_pok {size : Nat} {cs : List Adv} (hc : CircOk size cs) {n : Nat} (hn : n ≤ 10) {r : List Nat} (hl : r.length < n) : Pok 11 50 (told size cs n r) ∧ (∀ q ∈ told size cs n r, 0 ≤ q) ∧ (told size cs n r).length = size ∧ totalL (told size cs n r) = 1 := by
  have hk : KeyOk cs (after cs (start0 cs) r) := KeyOk.after hc.ne (KeyOk.start)
  have hw := worths_ok hc.s2 hc.s4 hc.ne (n - r.length - 1) hk
  obtain ⟨p, nn⟩ := filled_pok hw (by omega) (by omega)
  unfold told
  refine ⟨⟨fun q hq => (p.dy q hq).le (by omega), fun q hq => (p.bd q hq).le (by omega), p.len, by omega, by omega⟩, nn, by rw [filled_length, worthsV_length], filled_sum hw.pos⟩
theorem getD_bd {m b : Nat} {ps : List Rat} (h : Pok m b ps) (x : Nat) : Dy m (ps.getD x 0) ∧ Bd b (ps.getD x 0) := by
  by_cases hx : x < ps.length
  · exact ⟨h.dy _ (getD_mem hx), h.bd _ (getD_mem hx)⟩
  · rw [List.getD_eq_getElem?_getD, List.getElem?_eq_none (by omega)]
    exact ⟨Dy.int m 0, Bd.int (i := 0) (by simp)⟩
theorem miss_bd {size : Nat} {cs : List Adv} (hc : CircOk size cs) {n : Nat} (hn : n ≤ 10) {r : List Nat} : ∀ i, i ≤ n → i ≤ r.length → Dy 11 (missT size cs n r i) ∧ Bd (51 * i) (missT size cs n r i)
  | 0, _, _ => ⟨Dy.int 11 0, Bd.int (i := 0) (by simp)⟩
  | i + 1, h, h2 => by
    obtain ⟨a, b⟩ := miss_bd (r := r) hc hn i (by omega) (by omega)
    obtain ⟨p, _, _, _⟩ := told_pok hc hn (r := r.take i) (by rw [List.length_take]; omega)
    obtain ⟨c, d⟩ := getD_bd p (r.getD i 0)
    rw [missT_succ]
    have b1 : Bd 1 (1 : Rat) := Bd.int (i := 1) (by decide)
    exact ⟨a.add ((Dy.int 11 1).sub c), (b.add (b1.sub d)).le (by omega)⟩
/-! ### the dict of what was told -/
def rk (r : List Nat) : List L2.Key := r.map fun (x : Nat) => .inl (x : Int)
theorem rk_kV (r : List Nat) : (rk r).map kV = r.map fun (x : Nat) => V.int (x : Int) := by
  unfold rk
  rw [List.map_map]
  rfl
theorem rk_inj {r s : List Nat} (h : rk r = rk s) : r = s := by
  unfold rk at h
  refine (List.map_inj_right (f := fun (x : Nat) => (Sum.inl (x : Int) : L2.Key)) fun a b e => ?_).mp h
  injection e with e
  exact Int.ofNat.inj e
/-- what the dict at a tells of a row -/
def ToldE (K : PySem.W.Frag) (H : Hp) (kvs : List (List L2.Key × V)) (size : Nat) (cs : List Adv) (n : Nat) (r : List Nat) : Prop := ∃ v, valV kvs (rk r) = some v ∧ Dt K H v (.tuple ((told size cs n r).map fr))
theorem ToldE.keep {K : PySem.W.Frag} {H H' : Hp} {kvs : List (List L2.Key × V)} {size : Nat} {cs : List Adv} {n : Nat} {r : List Nat} (h : ToldE K H kvs size cs n r) (k : SK K H H') : ToldE K H' kvs size cs n r := let ⟨v, e, d⟩ := h; ⟨v, e, d.mono k⟩
section
variable {ι : Type} {X : ι → Cx} {M : Mov} {P : Program} {w : World} {K : PySem.W.Frag} {mg : Str → Option Value} {base : Heap} {n : Nat} {σ : L2.St} {H : Hp} {a b e o : Expr} {p pos : Pos}
/-- r[:i] of a laid row -/
theorem eo_upto {r : List Nat} {v : V} {i : Nat} {p2 : Pos} (hK : ∀ j, (X j).K = K) (ho : EO X M σ H o fun u _ => u = v) (hv : RowT r v H) (hi : ED X M K σ H e (.int (i : Int))) (hl : i < r.length) : EO X M σ H (.Subscript o (.Slice none (some e) none p2) pos) (RowT (r.take i)) := by
  obtain ⟨to, po, qo⟩ := ho
  obtain ⟨tl, pl, ql⟩ := hi
  refine ⟨tSl (rSlA K) to tNoPart (tPart tl), fun j => by rw [← hK j]; exact pe_slice sl_tupA (po j) po_none (po_some (pl j)), fun H1 g Q k => ?_⟩
  refine qo H1 g _ fun u H2 g2 hu => ?_
  refine ql H2 (g.trans g2) _ fun y H3 g3 hy => ?_
  obtain ⟨c, rfl, hc⟩ := hv.keep ((g.trans g2).trans g3).tk
  have e1 : HT.sIx (r.map fun (x : Nat) => V.int (x : Int)).length (r.map fun (x : Nat) => V.int (x : Int)).length (some (i : Int)) = i := by
    rw [HT.sIx_nat, List.length_map]
    omega
  refine ⟨(i : Int), dt_int hy, c, _, hu, .of hc, fun z => ?_, fun _ q hq => ?_⟩
  · have z2 := z.2
    rw [e1, List.length_map] at z2
    omega
  · refine k _ _ ((g2.trans g3).trans (.new g3.r hq)) ⟨q, rfl, ?_⟩
    have ec : cutV (r.map fun (x : Nat) => V.int (x : Int)) none (some (i : Int)) = (r.take i).map fun (x : Nat) => V.int (x : Int) := by
      unfold cutV
      rw [e1, HT.sIx_none, List.map_take]
      simp
    rw [ec]
    exact upd_same
/-- d[row], d of what was told -/
theorem eo_getT {r : List Nat} {d : Addr} {kvs : List (List L2.Key × V)} {size m : Nat} {cs : List Adv} (cx : CxIs X P w K mg base n) (ho : EO X M σ H o fun u _ => u = .ref d) (hi : EO X M σ H e (RowT r)) (hd : ∀ H', Gr M H H' → H' d = some (.dT kvs)) (ht : ToldE K H kvs size cs m r) (hs : NoSl e := by intro _ _; rfl) :
    ED X M K σ H (.Subscript o e pos) (.tuple ((told size cs m r).map fr)) := by
  obtain ⟨to, po, qo⟩ := ho
  obtain ⟨ti, pi, qi⟩ := hi
  refine ⟨tDGet to ti, fun j => pe_dget (by have := (cx.room j).units; omega) (po j) (pi j) hs, fun H1 g Q k => qo H1 g _ fun u H2 g2 hu => qi H2 (g.trans g2) _ fun y H3 g3 hy => ?_⟩
  have g13 := (g.trans g2).trans g3
  obtain ⟨v, ev, hv⟩ := ht.keep g13.sk
  obtain ⟨b, rfl, hb⟩ := hy
  refine ⟨d, v, hu, ?_, k v H3 (g2.trans g3) hv⟩
  have := DGet.t (b := b) (k := rk r) (hd H3 g13) (by rw [rk_kV]; exact hb)
  rw [ev] at this
  exact this
end
def spBehindL (K : PySem.W.Frag) : Sp := fun vs H Q _ => ∃ (cv rv : V) (d : Addr) (size : Nat) (cs : List Adv) (r : List Nat) (kvs : List (List L2.Key × V)), vs = [cv, .ref d, rv] ∧ Dt K H cv (circD size cs) ∧ CircOk size cs ∧ H d = some (.dT kvs) ∧ RowT r rv H ∧ r.length ≤ 10 ∧ (∀ x ∈ r, x < size) ∧ (∀ i, i < r.length → ToldE K H kvs size cs r.length (r.take i)) ∧
  ∀ v H', Gr .no H H' → Dt K H' v (fr (cost size cs (start0 cs) r)) → Q v H'
end Kt
end
section
set_option maxHeartbeats 4000000
set_option exponentiation.threshold 5000
/-! Kt: the law's behind. -/
namespace Kt
open PySem PySem.Spec PyProof.Rows L2
theorem frs_at {ps : List Rat} {x : Nat} (h : x < ps.length) : atI (ps.map fr) (x : Int) = some (fr (ps.getD x 0)) := atI_nat (by rw [List.getElem?_map, List.getElem?_eq_getElem h, List.getD_eq_getElem?_getD, List.getElem?_eq_getElem h]; rfl)
theorem row_at {r : List Nat} {i : Nat} (h : i < r.length) : atI (r.map fun (x : Nat) => PyData.int (x : Int)) (i : Int) = some (.int ((r.getD i 0 : Nat) : Int)) := atI_nat (by rw [List.getElem?_map, List.getElem?_eq_getElem h, List.getD_eq_getElem?_getD, List.getElem?_eq_getElem h]; rfl)
section
variable {P : Program} {w : World} {K : PySem.W.Frag} {mg : Str → Option Value} {base : Heap}
theorem c_law_behind (F : Has K mg "_law_behind" (top 73)) (B : Blt mg) (CM : Cal P w K mg base 1 "_law_missed" ["_law_adviser_here", "_law_row"] (DS K .no RMisses)) (CP : Cal P w K mg base 3 "_law_plus" ["_law_one", "_law_other"] (DS K .no RPlus)) (CMi : Cal P w K mg base 3 "_law_minus" ["_law_one", "_law_other"] (DS K .no RMinus)) : Cal P w K mg base 4 "_law_behind" ["_law_circle_here", "_law_told", "_law_row"] (spBehindL K) := by
  have sc : FnScope ["_law_circle_here", "_law_told", "_law_row", "_law_missed_here", "_law_at", "_law_one"] ["_law_circle_here", "_law_told", "_law_row"] (defScope (top 73)) := ⟨rfl, rfl, rfl, by decide +kernel, rfl, by decide +kernel, by decide +kernel⟩
  refine cal_of F sc (fun vs H Q E ⟨_, _, _, _, _, _, _, e, _⟩ => by rw [e]; rfl) (fun _ _ _ _ _ _ us hl => match us, hl with | [_, _, _], _ => rfl) (fun f cdv A outer s H vs Q E cx h => ?_)
  obtain ⟨cv, rv, d, size, cs, r, kvs, rfl, hcv, hc, hd, hrv, hr10, hr, htold, q⟩ := h
  have na : ∀ l, ¬ Mov.no.at_ l := fun _ z => z.elim
  have hrd := hrv.dt (K := K)
  unfold circD at hcv
  have hb := best_range hc.ne r
  -- missed
  refine rs_set (M := .no) 3 trivial (R := fun v H' => Dt K H' v (fr (missT size cs r.length r 0 - ((best cs r : Int) : Rat)))) (ED.cast (ed_tup (K := K) (ad_cons (ed_sub ed_int (ed_min (ns := cs.map fun a => missA a 0 r) (fun _ => rfl) (fun _ => rfl) (fun _ => B.min) (by rw [List.length_map]; exact List.length_pos_iff.mpr hc.ne) (EO.imp (eo_lcT (fs := (cs.map fun a => missA a 0 r).map PyData.int) (te := tCall (DS K .no RMisses) [] E0 (tCons (tVar 5) (tCons (tVar 2) tNil))) (ix := 5) cx (fun _ => sc.nd) (ed_var 0 rfl hcv)
      (fun _ => blkOk_by (own := [("_law_one", 5)]) (N := ["_law_circle_here", "_law_told", "_law_row", "_law_missed_here", "_law_at", "_law_one"]) (sc := defScope (top 73)) (by decide +kernel)) (fun _ _ _ _ _ _ => pg_name (i := 5) sc.nd rfl (Or.inl rfl)) (fun j s H C' cl fp => ?_) (by rw [List.length_map, List.length_map, List.length_map]) (by rw [List.length_map]; have := hc.few; omega) fun i x d f H1 hdi hfi g hx => ?_) fun v H1 _ h => nwL h))) (ad_cons ed_int ad_nil))) ?_) (fun mv H1 g1 hmv => ?_) sc.nd
  · exact pe_cal CM (cx.blk j s H _ _ fp) (by decide) () rfl (pa_cons (pv 5) (pa_cons (pv 2) pa_nil))
  · rw [List.getElem?_map] at hdi
    rw [List.map_map, List.getElem?_map] at hfi
    cases hi : cs[i]? with
    | none => rw [hi] at hdi; cases hdi
    | some a =>
      rw [hi] at hdi hfi
      cases hdi
      cases hfi
      exact qd_cal (.refl _) (qa_cons (qd_var rfl hx) (qa_cons (qd_var rfl (g.dt hrd)) qa_nil)) ⟨size, a, r, rfl, hc.adv a (List.mem_of_getElem? hi), hr, rfl⟩
  · show PyData.tuple [.int (0 - best cs r), .int 1] = _
    rw [← fr_int]
    congr 1
    show ((0 - best cs r : Int) : Rat) = totalL [] - ((best cs r : Int) : Rat)
    rw [Rat.intCast_sub, totalL_nil]
    rfl
  refine rs_forR (M := .no) (K := K) PassesOwn.never rfl g1.r B.range (ed_len (ds := r.map fun (x : Nat) => PyData.int (x : Int)) (fun _ => rfl) (fun _ => B.len) (ed_var 2 rfl (g1.dt hrd))) (by omega) (by rw [lotD_len]; omega) (pg_name (i := 4) sc.nd rfl (Or.inl rfl)) fun H2 g2 => ?_
  refine ⟨fun i σ' H' => Gr .no H H' ∧ ∃ (mv : V) (t : Option V), σ' = [some cv, some (.ref d), some rv, some mv, t, none] ∧ Dt K H' mv (fr (missT size cs r.length r i - ((best cs r : Int) : Rat))), ⟨g1.trans g2, mv, none, rfl, g2.dt hmv⟩, ?_, ?_⟩
  · rintro i σ' H3 hi ⟨g3, mv, t, rfl, hmv⟩
    rw [lotD_len] at hi
    have hi' : i < r.length := by omega
    obtain ⟨pk, _, htl, _⟩ := told_pok hc hr10 (r := r.take i) (by rw [List.length_take]; omega)
    have hx : r.getD i 0 < size := hr _ (by rw [List.getD_eq_getElem?_getD, List.getElem?_eq_getElem hi']; exact List.getElem_mem hi')
    obtain ⟨d1, b1⟩ := miss_bd hc hr10 (r := r) i (by omega) (by omega)
    obtain ⟨d2, b2⟩ := getD_bd pk (r.getD i 0)
    have bdB : Bd 10 ((best cs r : Int) : Rat) := Bd.int (by omega)
    have bd1 : Bd 1 (1 : Rat) := Bd.int (i := 1) (by decide)
    have sm1 : Sm (1 : Rat) := (Dy.int 0 1).sm bd1 (by decide) (by decide)
    have smA : Sm (missT size cs r.length r i - ((best cs r : Int) : Rat)) := (d1.sub (Dy.int 11 _)).sm (b1.sub bdB) (by omega) (by omega)
    have smT : Sm ((told size cs r.length (r.take i)).getD (r.getD i 0) 0) := d2.sm b2 (by omega) (by omega)
    have smM : Sm (1 - (told size cs r.length (r.take i)).getD (r.getD i 0) 0) := ((Dy.int 11 1).sub d2).sm (bd1.sub b2) (by omega) (by omega)
    have f11 : fr 1 = .tuple [.int 1, .int 1] := fr_int 1
    refine rs_set (M := .no) 3 trivial (R := fun v H' => Dt K H' v (fr (missT size cs r.length r i - ((best cs r : Int) : Rat) + (1 - (told size cs r.length (r.take i)).getD (r.getD i 0) 0)))) (ed_call CP cx (by decide) (.refl _) (ad_cons (ed_var 3 rfl hmv) (ad_cons (ed_call CMi cx (by decide) (.refl _) (ad_cons (ED.cast (ed_tup (K := K) (ad_cons ed_int (ad_cons ed_int ad_nil))) f11.symm)
      (ad_cons (ed_ix (fun _ => rfl) (eo_getT (r := r.take i) (size := size) (cs := cs) (m := r.length) cx (eo_var 1 (hs := rfl) (hR := fun _ _ => rfl)) (eo_upto (K := K) (r := r) (v := rv) (fun _ => rfl) (eo_var 2 (hs := rfl) (hR := fun _ _ => rfl)) (hrv.keep g3.tk) (ed_var 4 rfl (.int (i : Int))) hi') (fun H' g => g.keep d _ (g3.keep d _ hd (na d)) (na d)) ((htold i hi').keep g3.sk)) (ed_ix (fun _ => rfl) (ed_var 2 rfl (g3.dt hrd)) (ed_var 4 rfl (.int (i : Int))) (row_at hi')) (frs_at (by rw [htl]; exact hx))) ad_nil)) ⟨_, _, rfl, sm1, smT, rfl⟩) ad_nil)) ⟨_, _, rfl, smA, smM, rfl⟩) (fun z H4 g4 hz => ?_) sc.nd
    refine rs_nil ⟨g3.trans g4, z, _, rfl, ?_⟩
    rw [missT_succ]
    have e : missT size cs r.length r i + (1 - (told size cs r.length (r.take i)).getD (r.getD i 0) 0) - ((best cs r : Int) : Rat) = missT size cs r.length r i - ((best cs r : Int) : Rat) + (1 - (told size cs r.length (r.take i)).getD (r.getD i 0) 0) := by grind
    rw [e]
    exact hz
  · rintro σ' H3 ⟨g3, mv, t, rfl, hmv⟩
    rw [lotD_len, Int.toNat_natCast, cost_behind hc.ne] at hmv
    exact rs_ret (M := .no) trivial (ed_var 3 rfl hmv) fun z H4 g4 hz => q z H4 (g3.trans g4) hz
end
end Kt
end
section
set_option maxHeartbeats 4000000
set_option exponentiation.threshold 5000
/-! Kt: whether all is right. -/
namespace Kt
open PySem PySem.Spec PyProof.Rows L2
section
variable {ι : Type} {X : ι → Cx} {M : Mov} {K : PySem.W.Frag} {σ : L2.St} {H : Hp} {pos : Pos}
/-- {}, for rows -/
theorem eo_newT : EO X M σ H (.Dict [] [] pos) fun v H' => ∃ d, v = .ref d ∧ H d = none ∧ H' d = some (.dT []) :=
  ⟨tDNewT, fun _ => pe_dnewT, fun H1 g Q k p hp => k _ _ (.new g.r hp) ⟨p, rfl, (g.fresh hp).1, upd_same⟩⟩
end
theorem sk_dT {K : PySem.W.Frag} {H : Hp} {l : Addr} {kvs : List (List L2.Key × V)} {o : HO} (h : H l = some (.dT kvs)) : SK K H (upd H l o) := sqT_upd h (fun ys z => by cases z) (fun ob u z => by cases z)
theorem tk_dT {H : Hp} {l : Addr} {kvs : List (List L2.Key × V)} {o : HO} (h : H l = some (.dT kvs)) : TK H (upd H l o) := tk_upd h fun ys z => by cases z
section
variable {X : Cx} {M : Mov} {P : Program} {w : World} {K : PySem.W.Frag} {mg : Str → Option Value} {base : Heap} {n : Nat} {σ : L2.St} {H : Hp} {rest : List Stmt} {D : Ends} {oe ie ve : Expr} {pos pt : Pos} {d : Addr} {kvs : List (List L2.Key × V)} {r : List Nat} {dv : PyData}
/-- d[row] = v -/
theorem rs_setT (cx : CxIs (fun _ : Unit => X) P w K mg base n) (ok : M.ok H) (hv : ED (fun _ : Unit => X) M K σ H ve dv) (ho : EO (fun _ : Unit => X) M σ H oe fun u _ => u = .ref d) (hi : EO (fun _ : Unit => X) M σ H ie (RowT r)) (hd : ∀ H', Gr M H H' → H' d = some (.dT kvs)) (hz : kvs.length < sizeLine)
    (k : ∀ v H3, Gr M H H3 → H3 d = some (.dT kvs) → Dt K H3 v dv → RS X rest D σ (upd H3 d (.dT (putK kvs (rk r) v)))) (hs : swapsWith ve (some (.Subscript oe ie pt)) pos.line X.env = pure false := by rfl) : RS X (.Assign [.Subscript oe ie pt] ve pos :: rest) D σ H := by
  obtain ⟨te, pe, q⟩ := hv
  obtain ⟨to, po, qo⟩ := ho
  obtain ⟨ti, pi, qi⟩ := hi
  refine rs_cons (ps_dput (by have := (cx.room ()).units; omega) (po ()) (pi ()) (pe ()) hs) (q H (.refl ok) _ fun v H1 g1 hv1 => qo H1 g1 _ fun u H2 g2 hu => qi H2 (g1.trans g2) _ fun y H3 g3 hy => ?_)
  obtain ⟨b, rfl, hb⟩ := hy
  have g13 := (g1.trans g2).trans g3
  exact ⟨d, _, hu, DPut.t (k := rk r) (hd H3 g13) (by rw [rk_kV]; exact hb) hz, k v H3 g13 (hd H3 g13) ((g2.trans g3).dt hv1)⟩
end
section
variable {X : Cx} {M : Mov} {σ : L2.St} {H : Hp} {rest : List Stmt} {D : Ends} {pos : Pos}
/-- a, b, c = x, y, z -/
theorem rs_par3 (i j l : Nat) {x y z : Str} {a b c : Expr} {px py pz pt : Pos} {kt k2 pt2} {RA : List V → Hp → Prop} (hc : X.calm = true) (ok : M.ok H) (ha : AO (fun _ : Unit => X) M σ H [a, b, c] RA)
    (k : ∀ vs H1, Gr M H H1 → RA vs H1 → ∃ u v w, vs = [u, v, w] ∧ RS X rest D (((σ.set i (some u)).set j (some v)).set l (some w)) H1) (hN : X.N.Nodup) (hi : X.N[i]? = some x := by rfl) (hj : X.N[j]? = some y := by rfl) (hl : X.N[l]? = some z := by rfl) (hij : i ≠ j := by decide) (hil : i ≠ l := by decide) (hjl : j ≠ l := by decide)
    (hx : X.env.scope.names.lookup x = some .local := by rfl) (hy : X.env.scope.names.lookup y = some .local := by rfl) (hz : X.env.scope.names.lookup z = some .local := by rfl)
    (hw : swappedStores [.Tuple [.Name x px, .Name y py, .Name z pz] kt pt] (.Tuple [a, b, c] k2 pt2) X.env = pure (some [x, y, z]) := by rfl)
    (hs : swapsWithSole [.Tuple [.Name x px, .Name y py, .Name z pz] kt pt] (.Tuple [a, b, c] k2 pt2) pos.line X.env = pure false := by rfl) :
    RS X (.Assign [.Tuple [.Name x px, .Name y py, .Name z pz] kt pt] (.Tuple [a, b, c] k2 pt2) pos :: rest) D σ H := by
  obtain ⟨ta, pa, q⟩ := ha
  exact rs_cons (ps_par3 (i := i) (j := j) (l := l) hc hN hi hj hl hij hil hjl hx hy hz (pa ()) hw hs) (q H (.refl ok) _ fun vs H1 g r => k vs H1 g r)
end
theorem ToldE.put {K : PySem.W.Frag} {H : Hp} {kvs : List (List L2.Key × V)} {size : Nat} {cs : List Adv} {n : Nat} {r r' : List Nat} {v : V} (h : ToldE K H kvs size cs n r') (hv : Dt K H v (.tuple ((told size cs n r).map fr))) : ToldE K H (putK kvs (rk r) v) size cs n r' := by
  obtain ⟨v', e, hd⟩ := h
  by_cases z : rk r' = rk r
  · refine ⟨v, by rw [valV_put, if_pos z], ?_⟩
    rw [rk_inj z]
    exact hv
  · exact ⟨v', by rw [valV_put, if_neg z]; exact e, hd⟩
theorem ToldE.new {K : PySem.W.Frag} {H : Hp} {kvs : List (List L2.Key × V)} {size : Nat} {cs : List Adv} {n : Nat} {r : List Nat} {v : V} (hv : Dt K H v (.tuple ((told size cs n r).map fr))) : ToldE K H (putK kvs (rk r) v) size cs n r := ⟨v, by rw [valV_put, if_pos rfl], hv⟩
theorem cost_sm {size : Nat} {cs : List Adv} (hc : CircOk size cs) {r : List Nat} (h : r.length ≤ 10) : Sm (cost size cs (start0 cs) r) := by
  obtain ⟨d1, b1⟩ := miss_bd hc h (r := r) r.length (Nat.le_refl _) (Nat.le_refl _)
  have hb := best_range hc.ne r
  have bdB : Bd 10 ((best cs r : Int) : Rat) := Bd.int (by omega)
  rw [← cost_behind hc.ne]
  exact (d1.sub (Dy.int 11 _)).sm (b1.sub bdB) (by omega) (by omega)
theorem lag_sm {size : Nat} {cs : List Adv} (hc : CircOk size cs) {n : Nat} (h : n ≤ 10) : Sm (lagV size cs n (start0 cs)) := by
  obtain ⟨a, b⟩ := lag_small hc.s2 hc.s4 hc.ne n (KeyOk.start (cs := cs))
  exact a.sm b (by omega) (by omega)
def RAllRight (ds : List PyData) (d : PyData) : Prop := ∃ (size : Nat) (cs : List Adv) (n : Nat), ds = [circD size cs, .int (n : Int)] ∧ CircOk size cs ∧ size ^ n ≤ 3000 ∧ n ≤ 10 ∧ d = .bool true
section
variable {P : Program} {w : World} {K : PySem.W.Frag} {mg : Str → Option Value} {base : Heap} {T : Addr}
theorem c_law_all_right (F : Has K mg "_law_all_right" (top 72)) (B : Blt mg) (CL : Cal P w K mg base 11 "lag" ["circle", "n"] (DS K (Mov.tab T lamQ) RLag)) (CF : Cal P w K mg base 10 "followed" ["circle", "n", "row"] (DS K (Mov.tab T lamQ) RFollowed)) (CR : Cal P w K mg base 1 "_law_rows" ["_law_size", "_law_many"] (spRows K))
    (CC : Cal P w K mg base 4 "_law_are_chances" ["_law_size", "_law_thing"] (DS K .no RChances)) (CB : Cal P w K mg base 4 "_law_behind" ["_law_circle_here", "_law_told", "_law_row"] (spBehindL K)) (CLe : Cal P w K mg base 1 "_law_less" ["_law_one", "_law_other"] (DS K .no RLess)) : Cal P w K mg base 12 "_law_all_right" ["_law_circle_here", "_law_n"] (DS K (Mov.tab T lamQ) RAllRight) := by
  have sc : FnScope ["_law_circle_here", "_law_n", "_law_size", "_law_told", "_law_most", "_law_many", "_law_row", "_law_met", "_law_behind_here"] ["_law_circle_here", "_law_n"] (defScope (top 72)) := ⟨rfl, rfl, rfl, by decide +kernel, rfl, by decide +kernel, by decide +kernel⟩
  refine cal_of F sc (ds_len fun ds d ⟨_, _, _, e, _⟩ => by rw [e]; rfl) (fun _ _ _ _ _ _ us hl => match us, hl with | [_, _], _ => rfl) (fun f cdv A outer s H vs Q E cx h => ?_)
  obtain ⟨ok, ds, dd, hd, ⟨size, cs, n, rfl, hc, hpw, hn, rfl⟩, q⟩ := h
  obtain ⟨cv, nv, rfl, hcv, hnv⟩ := dts2 hd
  obtain rfl := dt_int hnv
  have sub : Sub .no (Mov.tab T lamQ) := Sub.no _
  have hfit : Fits size cs n := fits_pow (by have := hc.s2; omega) cs hpw
  have hs2 := hc.s2
  have hs4 := hc.s4
  -- three at once
  refine rs_par3 2 3 4 rfl ok (ao_cons (R := fun v H' => Dt K H' v (.int (size : Int))) (ed_ix (ds := [.int (size : Int), .tuple ((cs.getD 0 []).map ruleD)]) (fun _ => rfl) (ed_ix (ds := cs.map (advD size)) (fun _ => rfl) (ed_var 0 rfl hcv) (ed_int (i := 0)) (lt_size hc)) (ed_int (i := 0)) rfl) mono_dt
    (ao_cons (R := fun v H' => ∃ d, v = .ref d ∧ H d = none ∧ H' d = some (.dT [])) eo_newT (fun v H1 H2 g ⟨d, e, n, h⟩ => ⟨d, e, n, g.keep d _ h (tab_na g.l h fun ps z => by cases z)⟩) (ao_cons (R := fun v H' => Dt K H' v (fr (lagV size cs n (start0 cs)))) (ed_call CL cx (by decide) (.refl _) (ad_cons (ed_var 0 rfl hcv) (ad_cons (ed_var 1 rfl (.int (n : Int))) ad_nil)) ⟨size, cs, n, rfl, hc, hfit, hn, rfl⟩) mono_dt ao_nil))) (fun vs H1 g1 hvs => ?_) sc.nd
  obtain ⟨sv, _, rfl, hsv, dv, _, rfl, ⟨d, rfl, hd0, hd1⟩, mv, _, rfl, hmv, rfl⟩ := hvs
  obtain rfl := dt_int hsv
  refine ⟨_, _, _, rfl, ?_⟩
  have nad : ¬ (Mov.tab T lamQ).at_ d := not_at ok hd0
  -- what is told
  refine rs_forR (K := K) PassesOwn.never rfl g1.r B.range (ed_var 1 rfl (.int (n : Int))) (by omega) (by omega) (pg_name (i := 5) sc.nd rfl (Or.inl rfl)) fun H2 g2 => ?_
  refine ⟨fun i σ' H' => Gr (Mov.tab T lamQ) H H' ∧ ∃ (o5 o6 : Option V) (kvs : List (List L2.Key × V)), σ' = [some cv, some (.int (n : Int)), some (.int (size : Int)), some (.ref d), some mv, o5, o6, none, none] ∧ H' d = some (.dT kvs) ∧ kvs.length ≤ i * 3000 ∧ Dt K H' cv (circD size cs) ∧ Dt K H' mv (fr (lagV size cs n (start0 cs))) ∧ (∀ r : List Nat, r.length < i → (∀ x ∈ r, x < size) → ToldE K H' kvs size cs n r),
    ⟨g1.trans g2, none, none, [], rfl, g2.keep d _ hd1 nad, by simp, (g1.trans g2).dt hcv, g2.dt hmv, fun r hr => absurd hr (Nat.not_lt_zero _)⟩, ?_, ?_⟩
  · rintro i σ' H3 hi ⟨g3, o5, o6, kvs, rfl, hd3, hk3, hcv3, hmv3, ht3⟩
    have hi' : i < n := by omega
    have hpi : size ^ i ≤ 3000 := pow_small hs2 hpw (by omega)
    refine rs_forN (K := K) (R := fun v H' => ∃ a xs, v = .ref a ∧ H3 a = none ∧ H' a = some (.lst xs) ∧ RowsAt H' xs (rowsL size i)) PassesOwn.never rfl rfl g3.r (eo_call CR cx (by decide) (ad_ao (K := K) (ad_cons (ed_var 2 rfl (.int (size : Int))) (ad_cons (ed_var 5 rfl (.int (i : Int))) ad_nil))) fun vs H4 g4 hvs Q' k => ?_) (pg_name (i := 6) sc.nd rfl (Or.inl rfl)) fun rv H4 g4 hrv => ?_
    · obtain ⟨x, y, rfl, hx, hy⟩ := dts2 hvs
      obtain rfl := dt_int hx
      obtain rfl := dt_int hy
      exact ⟨size, i, rfl, hs2, hs4, hpi, by omega, fun a xs H' g' hn ha hr => k _ H' (sub.gr _ _ g4.r g') ⟨a, xs, rfl, (g4.fresh hn).1, ha, hr⟩⟩
    · obtain ⟨a, xs, rfl, ha3, ha4, hrows⟩ := hrv
      have g34 := g3.trans g4
      have naa : ¬ (Mov.tab T lamQ).at_ a := not_at g3.r ha3
      have nda : a ≠ d := fun z => by rw [z, hd3] at ha3; cases ha3
      have hrl : (rowsL size i).length ≤ 3000 := by rw [rowsL_length]; exact hpi
      refine ⟨a, xs, rfl, .of ha4, fun t σ' H' => Gr (Mov.tab T lamQ) H H' ∧ TK H4 H' ∧ ∃ (o6 : Option V) (kvs : List (List L2.Key × V)), σ' = [some cv, some (.int (n : Int)), some (.int (size : Int)), some (.ref d), some mv, some (.int (i : Int)), o6, none, none] ∧ H' d = some (.dT kvs) ∧ kvs.length ≤ i * 3000 + t ∧ Dt K H' cv (circD size cs) ∧ Dt K H' mv (fr (lagV size cs n (start0 cs))) ∧ (∀ r : List Nat, r.length < i → (∀ x ∈ r, x < size) → ToldE K H' kvs size cs n r) ∧ (∀ r ∈ (rowsL size i).take t, ToldE K H' kvs size cs n r) ∧ H' a = some (.lst xs),
        ⟨g34, fun _ _ h => h, o6, kvs, rfl, g4.keep d _ hd3 nad, hk3, g4.dt hcv3, g4.dt hmv3, fun r h1 h2 => (ht3 r h1 h2).keep g4.sk, (fun r hr => by cases hr), ha4⟩, fun t σ' H' _ h => .of (by obtain ⟨_, _, _, _, _, _, _, _, _, _, _, h⟩ := h; exact h), ?_, ?_⟩
      · rintro t v σ' H5 hv ⟨g5, tk, o6, kvs, rfl, hd5, hk5, hcv5, hmv5, ht5, htt, ha5⟩
        obtain ⟨r, hr⟩ : ∃ r, (rowsL size i)[t]? = some r := ⟨(rowsL size i)[t]'(by rw [← hrows.1]; exact (List.getElem?_eq_some_iff.mp hv).1), List.getElem?_eq_getElem _⟩
        have hrt : RowT r v H5 := (hrows.2 t v r hv hr).keep tk
        obtain ⟨hrl', hrx⟩ := mem_rowsL.mp (List.mem_of_getElem? hr)
        have htl : t < (rowsL size i).length := (List.getElem?_eq_some_iff.mp hr).1
        have hbig : kvs.length < sizeLine := by
          rw [sizeLine_eq]
          have : i * 3000 ≤ 10 * 3000 := Nat.mul_le_mul (by omega) (Nat.le_refl _)
          omega
        refine rs_setT (K := K) (r := r) (d := d) (kvs := kvs) cx g5.r (ed_call CF cx (by decide) (.refl _) (ad_cons (ed_var 0 rfl hcv5) (ad_cons (ed_var 1 rfl (.int (n : Int))) (ad_cons (ed_var 6 rfl hrt.dt) ad_nil))) ⟨size, cs, n, r, rfl, hc, hfit, hn, by omega, hrx, rfl⟩) (eo_var 3 (hs := rfl) (hR := fun _ _ => rfl)) (eo_var 6 (hs := rfl) (hR := fun H' g => hrt.keep g.tk)) (fun H' g => g.keep d _ hd5 nad) hbig fun tv H6 g6 hd6 htv => ?_
        have sk := g6.sk.trans (sk_dT (K := K) (o := .dT (putK kvs (rk r) tv)) hd6)
        have tk6 := g6.tk.trans (tk_dT (o := .dT (putK kvs (rk r) tv)) hd6)
        have g7 : Gr (Mov.tab T lamQ) H (upd H6 d (.dT (putK kvs (rk r) tv))) := (g5.trans g6).upd hd0 hd6 loc_dT
        have hd7 : upd H6 d (.dT (putK kvs (rk r) tv)) d = some (.dT (putK kvs (rk r) tv)) := upd_same
        have ht7 : ∀ r', ToldE K H5 kvs size cs n r' → ToldE K (upd H6 d (.dT (putK kvs (rk r) tv))) (putK kvs (rk r) tv) size cs n r' := fun r' h => (h.keep sk).put (htv.mono (sk_dT hd6))
        have hr7 : ToldE K (upd H6 d (.dT (putK kvs (rk r) tv))) (putK kvs (rk r) tv) size cs n r := .new (htv.mono (sk_dT hd6))
        have hcv7 := hcv5.mono sk
        have hmv7 := hmv5.mono sk
        have ha7 : upd H6 d (.dT (putK kvs (rk r) tv)) a = some (.lst xs) := by rw [upd_ne nda]; exact g6.keep a _ ha5 naa
        have hrt7 := hrt.keep tk6
        have hk7 : (putK kvs (rk r) tv).length ≤ i * 3000 + (t + 1) := by have := length_putK kvs (rk r) tv; omega
        generalize hKV : putK kvs (rk r) tv = kv2 at g7 hd7 ht7 hr7 hcv7 hmv7 ha7 hrt7 hk7 tk6 ⊢
        generalize upd H6 d (.dT kv2) = H7 at g7 hd7 ht7 hr7 hcv7 hmv7 ha7 hrt7 tk6 ⊢
        obtain ⟨pk, nn, tl, ts⟩ := told_pok hc hn (r := r) (by omega)
        refine rs_ifF g7.r (to_not (t := true) (to_val (ed_call CC cx (by decide) sub (ad_cons (ed_var 2 rfl (.int (size : Int))) (ad_cons (eo_getT (r := r) (size := size) (cs := cs) (m := n) cx (eo_var 3 (hs := rfl) (hR := fun _ _ => rfl)) (eo_var 6 (hs := rfl) (hR := fun H' g => hrt7.keep g.tk)) (fun H' g => g.keep d _ hd7 nad) hr7) ad_nil)) ⟨size, 11, 50, _, rfl, tl, pk, nn, ts, rfl⟩))) fun H8 g8 => ?_
        refine rs_nil ⟨g7.trans g8, tk.trans (tk6.trans g8.tk), _, kv2, rfl, g8.keep d _ hd7 nad, hk7, g8.dt hcv7, g8.dt hmv7, fun r' h1 h2 => (ht7 r' (ht5 r' h1 h2)).keep g8.sk, fun r' h => ?_, g8.keep a _ ha7 naa⟩
        rw [List.take_add_one, hr] at h
        rcases List.mem_append.mp h with z | z
        · exact (ht7 r' (htt r' z)).keep g8.sk
        · have e : r' = r := by simpa using z
          rw [e]
          exact hr7.keep g8.sk
      · rintro σ' H5 ⟨g5, tk, o6, kvs, rfl, hd5, hk5, hcv5, hmv5, ht5, htt, ha5⟩
        rw [hrows.1, List.take_length] at htt
        have hxl := hrows.1
        refine rs_nil ⟨g5, _, _, kvs, rfl, hd5, by rw [Nat.add_mul]; omega, hcv5, hmv5, fun r h1 h2 => ?_⟩
        rcases Nat.lt_succ_iff_lt_or_eq.mp h1 with h | h
        · exact ht5 r h h2
        · exact htt r (mem_rowsL.mpr ⟨h, h2⟩)
  · rintro σ' H3 ⟨g3, o5, o6, kvs, rfl, hd3, hk3, hcv3, hmv3, ht3⟩
    rw [Int.toNat_natCast] at ht3
    refine rs_set 7 g3.r (ed_bl (K := K) (i := false)) (fun u H4 g4 hu => ?_) sc.nd
    obtain rfl := dt_bl hu
    have g34 := g3.trans g4
    have hd4 := g4.keep d _ hd3 nad
    refine rs_forN (K := K) (R := fun v H' => ∃ a xs, v = .ref a ∧ H4 a = none ∧ H' a = some (.lst xs) ∧ RowsAt H' xs (rowsL size n)) PassesOwn.never rfl rfl g4.r (eo_call CR cx (by decide) (ad_ao (K := K) (ad_cons (ed_var 2 rfl (.int (size : Int))) (ad_cons (ed_var 1 rfl (.int (n : Int))) ad_nil))) fun vs H5 g5 hvs Q' k => ?_) (pg_name (i := 6) sc.nd rfl (Or.inl rfl)) fun rv H5 g5 hrv => ?_
    · obtain ⟨x, y, rfl, hx, hy⟩ := dts2 hvs
      obtain rfl := dt_int hx
      obtain rfl := dt_int hy
      exact ⟨size, n, rfl, hs2, hs4, hpw, by omega, fun a xs H' g' hn ha hr => k _ H' (sub.gr _ _ g5.r g') ⟨a, xs, rfl, (g5.fresh hn).1, ha, hr⟩⟩
    · obtain ⟨a, xs, rfl, ha4, ha5, hrows⟩ := hrv
      have g35 := g34.trans g5
      have naa : ¬ (Mov.tab T lamQ).at_ a := not_at g4.r ha4
      refine ⟨a, xs, rfl, .of ha5, fun t σ' H' => Gr (Mov.tab T lamQ) H H' ∧ Gr (Mov.tab T lamQ) H5 H' ∧ ∃ (o6 o8 : Option V) (met : Bool), σ' = [some cv, some (.int (n : Int)), some (.int (size : Int)), some (.ref d), some mv, o5, o6, some (.bl met), o8] ∧ (met = true ↔ ∃ r ∈ (rowsL size n).take t, cost size cs (start0 cs) r = lagV size cs n (start0 cs)),
        ⟨g35, .refl g5.r, o6, none, false, rfl, by simp⟩, fun t σ' H' _ h => .of (h.2.1.keep a _ ha5 naa), ?_, ?_⟩
      · rintro t v σ' H6 hv ⟨g6, g56, o6, o8, met, rfl, hmet⟩
        obtain ⟨r, hr⟩ : ∃ r, (rowsL size n)[t]? = some r := ⟨(rowsL size n)[t]'(by rw [← hrows.1]; exact (List.getElem?_eq_some_iff.mp hv).1), List.getElem?_eq_getElem _⟩
        have g46 := (g4.trans g5).trans g56
        have hrt : RowT r v H6 := (hrows.2 t v r hv hr).keep g56.tk
        obtain ⟨hrl', hrx⟩ := mem_rowsL.mp (List.mem_of_getElem? hr)
        have smc : Sm (cost size cs (start0 cs) r) := cost_sm hc (by omega)
        have sml : Sm (lagV size cs n (start0 cs)) := lag_sm hc hn
        have hle : cost size cs (start0 cs) r ≤ lagV size cs n (start0 cs) := by
          have := cost_le cs r (start0 cs) hrx
          rw [hrl'] at this
          exact this
        refine rs_set 8 g6.r (R := fun v H' => Dt K H' v (fr (cost size cs (start0 cs) r))) (eo_call CB cx (by decide) (RA := AR [fun u H' => Dt K H' u (circD size cs), fun u H' => u = .ref d, RowT r]) (ao_cons (ed_var 0 rfl (g46.dt hcv3)) mono_dt (ao_cons (eo_var 3 (hs := rfl) (hR := fun _ _ => rfl)) mono_eq (ao_cons (eo_var 6 (hs := rfl) (hR := fun H' g => hrt.keep g.tk)) (fun v H H' g h => h.keep g.tk) ao_nil))) fun vs H7 g7 hvs Q' k => ?_) (fun bv H7 g7 hbv => ?_) sc.nd
        · obtain ⟨cv', _, rfl, hcv', _, _, rfl, rfl, rv', _, rfl, hrv', rfl⟩ := hvs
          refine ⟨cv', rv', d, size, cs, r, kvs, rfl, hcv', hc, g7.keep d _ (g46.keep d _ hd3 nad) nad, hrv', by omega, hrx, fun i hi => ?_, fun v' H' g' hv' => k v' H' (sub.gr _ _ g7.r g') hv'⟩
          rw [hrl']
          exact (ht3 (r.take i) (by rw [List.length_take]; omega) fun x hx => hrx x (List.mem_of_mem_take hx)).keep (g46.trans g7).sk
        · have g67 := g6.trans g7
          have hmv7 := (g46.trans g7).dt hmv3
          refine rs_ifF g67.r (TO.cast (to_val (ed_call CLe cx (by decide) sub (ad_cons (ed_var 4 rfl hmv7) (ad_cons (ed_var 8 rfl hbv) ad_nil)) ⟨_, _, rfl, sml, smc, rfl⟩)) (decide_eq_false (Rat.not_lt.mpr hle))) fun H8 g8 => ?_
          refine rs_set 7 g8.r (ed_or (ed_var (K := K) 7 rfl (.bl met)) (ed_one (ed_eqD cx (ed_var 8 rfl (g8.dt hbv)) (ed_var 4 rfl (g8.dt hmv7)) (shaped_fr _) (shaped_fr _)))) (fun z H9 g9 hz => ?_) sc.nd
          rw [eqv_fr] at hz
          obtain rfl := dt_bl hz
          refine rs_nil ⟨g67.trans (g8.trans g9), g56.trans (g7.trans (g8.trans g9)), _, _, _, rfl, ?_⟩
          rw [Bool.or_eq_true, hmet, List.take_add_one, hr, decide_eq_true_iff]
          constructor
          · rintro (⟨r', h1, h2⟩ | h)
            · exact ⟨r', List.mem_append_left _ h1, h2⟩
            · exact ⟨r, List.mem_append_right _ (by simp), h⟩
          · rintro ⟨r', h1, h2⟩
            rcases List.mem_append.mp h1 with z | z
            · exact .inl ⟨r', z, h2⟩
            · have e : r' = r := by simpa using z
              rw [e] at h2
              exact .inr h2
      · rintro σ' H6 ⟨g6, g56, o6, o8, met, rfl, hmet⟩
        rw [hrows.1, List.take_length] at hmet
        obtain ⟨r, h1, h2, h3⟩ := cost_eq (size := size) (by omega) cs n (start0 cs)
        have hm : met = true := hmet.mpr ⟨r, mem_rowsL.mpr ⟨h1, h2⟩, h3⟩
        refine rs_ret g6.r (ed_var (K := K) 7 rfl (.bl met)) fun z H7 g7 hz => q z H7 (g6.trans g7) ?_
        rw [← hm]
        exact hz
end
end Kt
end
section
set_option maxHeartbeats 4000000
set_option exponentiation.threshold 5000
/-! Kt: whether a drawn row is right. -/
namespace Kt
open PySem PySem.Spec PyProof.Rows L2
section
variable {ι : Type} {X : ι → Cx} {M : Mov} {K : PySem.W.Frag} {σ : L2.St} {H : Hp} {es : List Expr} {pos : Pos}
theorem eo_tupA {RA : List V → Hp → Prop} {x1 : Nat} (m : ∀ vs H1 H2, Gr M H1 H2 → RA vs H1 → RA vs H2) (hl : ∀ vs H, RA vs H → vs.length ≤ 1000) (h : AO X M σ H es RA) : EO X M σ H (.Tuple es x1 pos) fun v H' => ∃ t xs, v = .ref t ∧ H' t = some (.tup xs) ∧ RA xs H' := by
  obtain ⟨ta, pa, qa⟩ := h
  refine ⟨_, fun j => pe_tup (pa j), fun H1 g Q k => qa H1 g _ fun vs H2 g2 r => ⟨Nat.le_of_lt (small1000 (hl vs H2 r)), fun p hp => ?_⟩⟩
  have gn : Gr M H2 (upd H2 p (.tup vs)) := .new g2.r hp
  exact k _ _ (g2.trans gn) ⟨p, vs, rfl, upd_same, m _ _ _ gn r⟩
end
theorem t_tup {t : TA} {σ : L2.St} {H : Hp} {Q : VK} (h : t σ H fun xs H1 => xs.length ≤ sizeLine ∧ ∀ p, H1 p = none → Q (.ref p) (upd H1 p (.tup xs))) : tTup t σ H Q := h
theorem t_if {tc : TT} {ta tb : TE} {σ : L2.St} {H : Hp} {Q : VK} (h : tc σ H fun b H1 => if b = true then ta σ H1 Q else tb σ H1 Q) : tIf tc ta tb σ H Q := h
def spRowRight (K : PySem.W.Frag) (T : Addr) : Sp := fun vs H Q _ => ∃ (p c : Addr) (cl : List Int) (E : Nat) (cv : V) (size : Nat) (cs : List Adv) (n : Nat), vs = [.ref p, cv, .int (n : Int)] ∧ (MP T p c cl E).ok H ∧ PotC cl ∧ E + 100 < 100000 ∧ Dt K H cv (circD size cs) ∧ CircOk size cs ∧ Fits size cs n ∧ n ≤ 10 ∧
  ∀ H', Gr (MP T p c cl (E + 40)) H H' → Q (.bl true) H'
section
variable {P : Program} {w : World} {K : PySem.W.Frag} {mg : Str → Option Value} {base : Heap} {T : Addr}
theorem c_law_row_right (F : Has K mg "_law_row_right" (top 74)) (B : Blt mg) (CD : Cal P w K mg base 1 "_law_draw" ["_law_pot_here", "_law_many"] (spDraw T)) (CL : Cal P w K mg base 11 "lag" ["circle", "n"] (DS K (Mov.tab T lamQ) RLag)) (CF : Cal P w K mg base 10 "followed" ["circle", "n", "row"] (DS K (Mov.tab T lamQ) RFollowed))
    (CC : Cal P w K mg base 4 "_law_are_chances" ["_law_size", "_law_thing"] (DS K .no RChances)) (CB : Cal P w K mg base 4 "_law_behind" ["_law_circle_here", "_law_told", "_law_row"] (spBehindL K)) (CLe : Cal P w K mg base 1 "_law_less" ["_law_one", "_law_other"] (DS K .no RLess)) (CI : Cal P w K mg base 3 "_law_is" ["_law_told", "_law_due"] (DS K .no (RIs 2)))
    (CA : Cal P w K mg base 8 "adviser_misses" ["circle", "row"] (DS K .no RAdvMisses)) (CM : Cal P w K mg base 1 "_law_missed" ["_law_adviser_here", "_law_row"] (DS K .no RMisses)) : Cal P w K mg base 12 "_law_row_right" ["_law_pot_here", "_law_circle_here", "_law_n"] (spRowRight K T) := by
  have sc : FnScope ["_law_pot_here", "_law_circle_here", "_law_n", "_law_size", "_law_told", "_law_row", "_law_at", "_law_low", "_law_letter", "_law_one"] ["_law_pot_here", "_law_circle_here", "_law_n"] (defScope (top 74)) := ⟨rfl, rfl, rfl, by decide +kernel, rfl, by decide +kernel, by decide +kernel⟩
  refine cal_of F sc (fun vs H Q E ⟨_, _, _, _, _, _, _, _, e, _⟩ => by rw [e]; rfl) (fun _ _ _ _ _ _ us hl => match us, hl with | [_, _, _], _ => rfl) (fun f cdv A outer s H vs Q E' cx h => ?_)
  obtain ⟨p, c, cl, E, cv, size, cs, n, rfl, ok, pc, hE, hcv, hc, hfit, hn, q⟩ := h
  have hs2 := hc.s2
  have hs4 := hc.s4
  -- three at once
  refine rs_asg ok (eo_tupA (RA := AR [fun v H' => Dt K H' v (.int (size : Int)), fun v H' => ∃ d, v = .ref d ∧ H d = none ∧ H' d = some (.dT []), fun v H' => RowT [] v H']) (fun vs H1 H2 g h => ?_) (fun vs H1 h => ?_) (ao_cons (R := fun v H' => Dt K H' v (.int (size : Int))) (ed_ix (ds := [.int (size : Int), .tuple ((cs.getD 0 []).map ruleD)]) (fun _ => rfl) (ed_ix (ds := cs.map (advD size)) (fun _ => rfl) (ed_var 1 rfl hcv) (ed_int (i := 0)) (lt_size hc)) (ed_int (i := 0)) rfl) mono_dt
    (ao_cons (R := fun v H' => ∃ d, v = .ref d ∧ H d = none ∧ H' d = some (.dT [])) eo_newT (fun v H1 H2 g ⟨d, e, n, h⟩ => ⟨d, e, n, g.keep d _ h (not_at ok n)⟩) (ao_cons (R := fun v H' => RowT [] v H') ⟨_, fun _ => pe_tup pa_nil, fun H1 g Q k => ⟨by show 0 ≤ sizeLine; exact Nat.zero_le _, fun p hp => k _ _ (.new g.r hp) ⟨p, rfl, upd_same⟩⟩⟩ (fun v H1 H2 g h => h.keep g.tk) ao_nil))))
    (pg_tup rfl (pgs_cons (pg_name (i := 3) sc.nd rfl (Or.inl rfl)) (pgs_cons (pg_name (i := 4) sc.nd rfl (Or.inl rfl)) (pgs_cons (pg_name (i := 5) sc.nd rfl (Or.inr rfl)) pgs_nil)))) (fun v H1 g1 hv => ?_)
  · obtain ⟨x, _, rfl, hx, y, _, rfl, ⟨d, hy1, hy2, hy3⟩, z, _, rfl, hz, rfl⟩ := h
    exact ⟨x, _, rfl, g.dt hx, y, _, rfl, ⟨d, hy1, hy2, g.keep d _ hy3 (not_at ok hy2)⟩, z, _, rfl, hz.keep g.tk, rfl⟩
  · obtain ⟨x, _, rfl, _, y, _, rfl, _, z, _, rfl, _, rfl⟩ := h
    show 3 ≤ 1000
    omega
  obtain ⟨tp, xs, rfl, htp, sv, _, rfl, hsv, dv, _, rfl, ⟨d, rfl, hd0, hd1⟩, rv, _, rfl, hrv, rfl⟩ := hv
  obtain rfl := dt_int hsv
  refine ⟨tp, _, rfl, .of htp, rfl, _, _, rfl, _, _, rfl, _, _, rfl, rfl, ?_⟩
  have nad : ∀ E', E ≤ E' → ¬ (MP T p c cl E').at_ d := fun E' h => not_at (pot_up h ok) hd0
  show RS _ _ _ [some (.ref p), some cv, some (.int (n : Int)), some (.int (size : Int)), some (.ref d), some rv, none, none, none, none] H1
  refine rs_forR (K := K) PassesOwn.never rfl g1.r B.range (ed_var 2 rfl (.int (n : Int))) (by omega) (by omega) (pg_name (i := 6) sc.nd rfl (Or.inl rfl)) fun H2 g2 => ?_
  refine ⟨fun i σ' H' => Gr (MP T p c cl (E + 2 * i)) H H' ∧ ∃ (rv : V) (o6 o7 o8 : Option V) (kvs : List (List L2.Key × V)) (r : List Nat), σ' = [some (.ref p), some cv, some (.int (n : Int)), some (.int (size : Int)), some (.ref d), some rv, o6, o7, o8, none] ∧ H' d = some (.dT kvs) ∧ kvs.length ≤ i ∧ Dt K H' cv (circD size cs) ∧ RowT r rv H' ∧ r.length = i ∧ (∀ x ∈ r, x < size) ∧ (∀ j, j < i → ToldE K H' kvs size cs n (r.take j)),
    ⟨g1.trans g2, rv, none, none, none, [], [], rfl, g2.keep d _ hd1 (nad _ (Nat.le_refl _)), by simp, (g1.trans g2).dt hcv, hrv.keep g2.tk, rfl, (fun x hx => by cases hx), fun j hj => absurd hj (Nat.not_lt_zero _)⟩, ?_, ?_⟩
  · rintro i σ' H3 hi ⟨g3, rv, o6, o7, o8, kvs, r, rfl, hd3, hk3, hcv3, hr3, hrl, hrx, ht3⟩
    have hi' : i < n := by omega
    have sT : Sub (Mov.tab T lamQ) (MP T p c cl (E + 2 * i)) := sub_tab
    have sN : Sub .no (MP T p c cl (E + 2 * i)) := Sub.no _
    have nd := nad (E + 2 * i) (by omega)
    refine rs_setT (K := K) (r := r) (d := d) (kvs := kvs) cx g3.r (ed_call CF cx (by decide) sT (ad_cons (ed_var 1 rfl hcv3) (ad_cons (ed_var 2 rfl (.int (n : Int))) (ad_cons (ed_var 5 rfl hr3.dt) ad_nil))) ⟨size, cs, n, r, rfl, hc, hfit, hn, by omega, hrx, rfl⟩) (eo_var 4 (hs := rfl) (hR := fun _ _ => rfl)) (eo_var 5 (hs := rfl) (hR := fun H' g => hr3.keep g.tk)) (fun H' g => g.keep d _ hd3 nd) (by rw [sizeLine_eq]; omega) fun tv H6 g6 hd6 htv => ?_
    have sk := g6.sk.trans (sk_dT (K := K) (o := .dT (putK kvs (rk r) tv)) hd6)
    have tk6 := g6.tk.trans (tk_dT (o := .dT (putK kvs (rk r) tv)) hd6)
    have g7 : Gr (MP T p c cl (E + 2 * i)) H (upd H6 d (.dT (putK kvs (rk r) tv))) := (g3.trans g6).upd hd0 hd6 loc_dT
    have hd7 : upd H6 d (.dT (putK kvs (rk r) tv)) d = some (.dT (putK kvs (rk r) tv)) := upd_same
    have ht7 : ∀ r', ToldE K H3 kvs size cs n r' → ToldE K (upd H6 d (.dT (putK kvs (rk r) tv))) (putK kvs (rk r) tv) size cs n r' := fun r' h => (h.keep sk).put (htv.mono (sk_dT hd6))
    have hr7 : ToldE K (upd H6 d (.dT (putK kvs (rk r) tv))) (putK kvs (rk r) tv) size cs n r := .new (htv.mono (sk_dT hd6))
    have hcv7 := hcv3.mono sk
    have hrt7 := hr3.keep tk6
    have hk7 : (putK kvs (rk r) tv).length ≤ i + 1 := by have := length_putK kvs (rk r) tv; omega
    generalize hKV : putK kvs (rk r) tv = kv2 at g7 hd7 ht7 hr7 hcv7 hrt7 hk7 tk6 ⊢
    generalize upd H6 d (.dT kv2) = H7 at g7 hd7 ht7 hr7 hcv7 hrt7 tk6 ⊢
    obtain ⟨pk, nn, tl, ts⟩ := told_pok hc hn (r := r) (by omega)
    refine rs_ifF g7.r (to_not (t := true) (to_val (ed_call CC cx (by decide) sN (ad_cons (ed_var 3 rfl (.int (size : Int))) (ad_cons (eo_getT (r := r) (size := size) (cs := cs) (m := n) cx (eo_var 4 (hs := rfl) (hR := fun _ _ => rfl)) (eo_var 5 (hs := rfl) (hR := fun H' g => hrt7.keep g.tk)) (fun H' g => g.keep d _ hd7 nd) hr7) ad_nil)) ⟨size, 11, 50, _, rfl, tl, pk, nn, ts, rfl⟩))) fun H8 g8 => ?_
    refine rs_set 7 g8.r (ed_int (K := K) (i := 0)) (fun lv H9 g9 hlv => ?_) sc.nd
    obtain rfl := dt_int hlv
    have g79 := g8.trans g9
    refine rs_forR (K := K) PassesOwn.never rfl g9.r B.range (ed_var 3 rfl (.int (size : Int))) (by omega) (by omega) (pg_name (i := 8) sc.nd rfl (Or.inl rfl)) fun H10 g10 => ?_
    have g710 := g79.trans g10
    refine ⟨fun t σ' H' => Gr (MP T p c cl (E + 2 * i)) H7 H' ∧ ∃ (z : Nat) (o8 : Option V), σ' = [some (.ref p), some cv, some (.int (n : Int)), some (.int (size : Int)), some (.ref d), some rv, some (.int (i : Int)), some (.int (z : Int)), o8, none] ∧ z < size, ⟨g710, 0, o8, rfl, by omega⟩, ?_, ?_⟩
    · rintro t σ' H11 ht ⟨g11, z, o8, rfl, hz⟩
      have ht' : t < size := by omega
      obtain ⟨dT1, bT1⟩ := getD_bd pk t
      obtain ⟨dT2, bT2⟩ := getD_bd pk z
      refine rs_set 7 g11.r (R := fun v H' => ∃ z' : Nat, v = .int (z' : Int) ∧ z' < size) (EO.imp (ed_if (K := K) (d1 := .int (t : Int)) (d2 := .int (z : Int)) (to_val (ed_call CLe cx (by decide) sN (ad_cons (ed_ix (fun _ => rfl) (eo_getT (r := r) (size := size) (cs := cs) (m := n) cx (eo_var 4 (hs := rfl) (hR := fun _ _ => rfl)) (eo_var 5 (hs := rfl) (hR := fun H' g => hrt7.keep (g11.trans g).tk)) (fun H' g => (g11.trans g).keep d _ hd7 nd) (hr7.keep g11.sk)) (ed_var 8 rfl (.int (t : Int))) (frs_at (by rw [tl]; exact ht')))
        (ad_cons (ed_ix (fun _ => rfl) (eo_getT (r := r) (size := size) (cs := cs) (m := n) cx (eo_var 4 (hs := rfl) (hR := fun _ _ => rfl)) (eo_var 5 (hs := rfl) (hR := fun H' g => hrt7.keep (g11.trans g).tk)) (fun H' g => (g11.trans g).keep d _ hd7 nd) (hr7.keep g11.sk)) (ed_var 7 rfl (.int (z : Int))) (frs_at (by rw [tl]; exact hz))) ad_nil)) ⟨_, _, rfl, dT1.sm bT1 (by omega) (by omega), dT2.sm bT2 (by omega) (by omega), rfl⟩)) (ed_var 8 rfl (.int (t : Int))) (ed_var 7 rfl (.int (z : Int)))) fun v H12 _ hv => ?_) (fun u H12 g12 hu => ?_) sc.nd
      · split at hv
        · exact ⟨t, dt_int hv, ht'⟩
        · exact ⟨z, dt_int hv, hz⟩
      · obtain ⟨z', rfl, hz'⟩ := hu
        exact rs_nil ⟨g11.trans g12, z', _, rfl, hz'⟩
    · rintro σ' H11 ⟨g11, z, o8, rfl, hz⟩
      have g11' := g7.trans g11
      refine rs_cons (ps_set (i := 5) sc.nd rfl (Or.inr rfl) (pe_op op_catA (pv 5) (pe_tup (pa_cons (pe_ifExp (pt_cmpR op_gt (pe_cal CD cx (by decide) () rfl (pa_cons (pv 0) (pa_cons pe_int pa_nil))) pe_int (nomark _)) (pv 7) (pe_cal CD cx (by decide) () rfl (pa_cons (pv 0) (pa_cons (pv 3) pa_nil)))) pa_nil))) (by rfl) (Or.inl rfl)) ?_
      refine t_asgG fun Qc hQc => t_op ⟨rv, rfl, ?_⟩
      have hE2 : E + 2 * i + 2 = E + 2 * (i + 1) := by omega
      have fin : ∀ (x : Nat) (v : V) (H13 : Hp), x < size → Gr (MP T p c cl (E + 2 * (i + 1))) H7 H13 → RowT (r ++ [x]) v H13 → Qc v H13 := by
        intro x v H13 hx g13 hv
        rw [hQc]
        have nd' := nad (E + 2 * (i + 1)) (by omega)
        refine rs_nil ⟨(g7.potUp (by omega)).trans g13, v, _, _, _, kv2, r ++ [x], rfl, g13.keep d _ hd7 nd', hk7, g13.dt hcv7, hv, by rw [List.length_append, hrl]; rfl, fun y hy => ?_, fun j hj => ?_⟩
        · rcases List.mem_append.mp hy with z | z
          · exact hrx y z
          · rw [List.mem_singleton.mp z]; exact hx
        · rw [List.take_append_of_le_length (by omega)]
          rcases Nat.lt_succ_iff_lt_or_eq.mp hj with h | h
          · exact (ht7 _ (ht3 j h)).keep g13.sk
          · rw [h, ← hrl, List.take_length]
            exact hr7.keep g13.sk
      have key : ∀ (x : Nat) (H12 : Hp), x < size → Gr (MP T p c cl (E + 2 * (i + 1))) H7 H12 → ∀ tp, H12 tp = none → rCatA K rv (.ref tp) (upd H12 tp (.tup [.int (x : Int)])) Qc := by
        intro x H12 hx g12 tp htp
        have ga : Gr (MP T p c cl (E + 2 * (i + 1))) H12 (upd H12 tp (.tup [.int (x : Int)])) := .new g12.r htp
        obtain ⟨b, rfl, hb⟩ := hrt7.keep (g12.trans ga).tk
        refine ⟨b, tp, _, [.int (x : Int)], rfl, rfl, .of hb, .of upd_same, ?_, fun z => ?_, fun _ z => (by cases z), fun _ _ pn hpn => ?_⟩
        · rw [List.length_map, hrl, sizeLine_eq]
          show i + 1 ≤ _
          omega
        · refine fin x _ _ hx (g12.trans ga) ⟨tp, rfl, ?_⟩
          have : r = [] := by simpa using z
          rw [this]
          exact upd_same
        · have gb : Gr (MP T p c cl (E + 2 * (i + 1))) H12 (upd (upd H12 tp (.tup [.int (x : Int)])) pn (.tup ((r.map fun (x : Nat) => V.int (x : Int)) ++ [.int (x : Int)]))) := ga.trans (.new ga.r hpn)
          refine fin x _ _ hx (g12.trans gb) ⟨pn, rfl, ?_⟩
          rw [List.map_append]
          exact upd_same
      refine t_tup (t_cons (t_if (t_test fun Qd hQd => t_op ?_)))
      refine q_draw (many := 3) 0 pc rfl g11.r (by omega) (by omega) (by omega) qo_int fun x1 H12 x0 x1' g12 => ?_
      refine ⟨_, _, rfl, rfl, ?_⟩
      rw [hQd]
      refine ⟨_, rfl, ?_⟩
      by_cases hgt : (0 : Int) < x1
      · rw [decide_eq_true hgt]
        refine iteT ⟨.int (z : Int), rfl, by show 1 ≤ sizeLine; decide, key z H12 hz ((g11.potUp (by omega)).trans (g12.potUp (by omega)))⟩
      · rw [decide_eq_false hgt]
        refine iteF ?_
        refine q_draw (many := (size : Int)) 0 pc rfl g12.r (by omega) (by omega) (by omega) (qo_var rfl) fun y H13 y0 y1 g13 => ?_
        obtain ⟨yn, hyn⟩ : ∃ k : Nat, y = (k : Int) := ⟨y.toNat, by omega⟩
        subst hyn
        exact ⟨by show 1 ≤ sizeLine; decide, key yn H13 (by omega) ((g11.potUp (by omega)).trans ((g12.potUp (by omega)).trans (g13.potUp (by omega))))⟩
  · rintro σ' H3 ⟨g3, rv, o6, o7, o8, kvs, r, rfl, hd3, hk3, hcv3, hr3, hrl, hrx, ht3⟩
    rw [Int.toNat_natCast] at g3 hk3 hrl ht3
    have g3 : Gr (MP T p c cl (E + 40)) H H3 := g3.potUp (by omega)
    have nd := nad (E + 40) (by omega)
    have sT : Sub (Mov.tab T lamQ) (MP T p c cl (E + 40)) := sub_tab
    have sN : Sub .no (MP T p c cl (E + 40)) := Sub.no _
    have hrd := hr3.dt (K := K)
    have hcvt : Dt K H3 cv (.tuple (cs.map (advD size))) := hcv3
    refine rs_ifF g3.r (to_not (t := true) (to_val (ed_call (d := .bool true) CI cx (by decide) sN (ad_cons (d := .tuple (cs.map fun a => .int (missA a 0 r))) (ed_call CA cx (by decide) sN (ad_cons (ed_var 1 rfl hcv3) (ad_cons (ed_var 5 rfl hrd) ad_nil)) ⟨size, cs, r, rfl, hc, by omega, hrx, rfl⟩)
      (ad_cons (d := .tuple (cs.map fun a => .int (missA a 0 r))) (ed_tupleL (K := K) (fun _ => rfl) (fun _ => B.tuple) (EO.imp (eo_lcT (K := K) (fs := cs.map fun a => .int (missA a 0 r)) (te := tCall (DS K .no RMisses) [] E0 (tCons (tVar 9) (tCons (tVar 5) tNil))) (ix := 9) cx (fun _ => sc.nd) (ed_var 1 rfl hcvt)
        (fun _ => blkOk_by (own := [("_law_one", 9)]) (N := ["_law_pot_here", "_law_circle_here", "_law_n", "_law_size", "_law_told", "_law_row", "_law_at", "_law_low", "_law_letter", "_law_one"]) (sc := defScope (top 74)) (by decide +kernel)) (fun _ _ _ _ _ _ => pg_name (i := 9) sc.nd rfl (Or.inl rfl)) (fun j s H C' cl fp => ?_) (by rw [List.length_map, List.length_map]) (by rw [List.length_map]; have := hc.few; omega) fun i x d f H1 hdi hfi g hx => ?_) fun v H1 _ h => nwL h)) ad_nil)) ⟨_, rfl, ?_, rfl⟩))) fun H4 g4 => ?_
    · exact pe_cal CM (cx.blk j s H _ _ fp) (by decide) () rfl (pa_cons (pv 9) (pa_cons (pv 5) pa_nil))
    · rw [List.getElem?_map] at hdi hfi
      cases hi : cs[i]? with
      | none => rw [hi] at hdi; cases hdi
      | some a =>
        rw [hi] at hdi hfi
        cases hdi
        cases hfi
        exact qd_cal sN (qa_cons (qd_var rfl hx) (qa_cons (qd_var rfl (g.dt hrd)) qa_nil)) ⟨size, a, r, rfl, hc.adv a (List.mem_of_getElem? hi), hrx, rfl⟩
    · refine .tup (fun d hd => ?_) (by rw [List.length_map]; have := hc.few; omega)
      obtain ⟨a, _, rfl⟩ := List.mem_map.mp hd
      exact .int _ _
    · have hcv4 := g4.dt hcv3
      have hle : cost size cs (start0 cs) r ≤ lagV size cs n (start0 cs) := by
        have := cost_le cs r (start0 cs) hrx
        rw [hrl] at this
        exact this
      refine rs_ret g4.r (R := fun v H' => Dt K H' v (.bool true)) (ED.cast (ed_not (ed_call CLe cx (by decide) sN (ad_cons (ed_call CL cx (by decide) sT (ad_cons (ed_var 1 rfl hcv4) (ad_cons (ed_var 2 rfl (.int (n : Int))) ad_nil)) ⟨size, cs, n, rfl, hc, hfit, hn, rfl⟩)
        (ad_cons (d := fr (cost size cs (start0 cs) r)) (eo_call CB cx (by decide) (RA := AR [fun u H' => Dt K H' u (circD size cs), fun u H' => u = .ref d, RowT r]) (ao_cons (ed_var 1 rfl hcv4) mono_dt (ao_cons (eo_var 4 (hs := rfl) (hR := fun _ _ => rfl)) mono_eq (ao_cons (eo_var 5 (hs := rfl) (hR := fun H' g => hr3.keep (g4.trans g).tk)) (fun v H H' g h => h.keep g.tk) ao_nil))) fun vs H7 g7 hvs Q' k => ?_) ad_nil)) ⟨_, _, rfl, lag_sm hc hn, cost_sm hc (by omega), rfl⟩)) (by rw [decide_eq_false (Rat.not_lt.mpr hle)]; rfl)) fun z H5 g5 hz => ?_
      · obtain ⟨cv', _, rfl, hcv', _, _, rfl, rfl, rv', _, rfl, hrv', rfl⟩ := hvs
        refine ⟨cv', rv', d, size, cs, r, kvs, rfl, hcv', hc, (g4.trans g7).keep d _ hd3 nd, hrv', by omega, hrx, fun i hi => ?_, fun v' H' g' hv' => k v' H' (sN.gr _ _ g7.r g') hv'⟩
        rw [hrl]
        exact (ht3 i (by omega)).keep (g4.trans g7).sk
      · rw [dt_bl hz]
        exact q H5 (g3.trans (g4.trans g5))
end
end Kt
end
section
set_option maxHeartbeats 4000000
set_option exponentiation.threshold 5000
/-! Kt: the pot is laid. -/
namespace Kt
open PySem PySem.Spec PyProof.Rows L2
theorem t_lst {t : TA} {σ : L2.St} {H : Hp} {Q : VK} (h : t σ H fun xs H1 => xs.length ≤ sizeLine ∧ ∀ p, H1 p = none → Q (.ref p) (upd H1 p (.lst xs))) : tLst t σ H Q := h
theorem t_notB {te : TE} {σ : L2.St} {H : Hp} {Q : Bool → Hp → Prop} (h : ∀ Qc : VK, (∀ b H1, Q (!b) H1 → Qc (.bl b) H1) → te σ H Qc) : tNot (tB te) σ H Q := h _ fun b H1 q => ⟨b, rfl, q⟩
theorem t_ifS {tc : TT} {t u : TS} {D : Ends} {σ : L2.St} {H : Hp} (h : tc σ H fun b H1 => if b = true then t D σ H1 else u D σ H1) : tIfS tc t u D σ H := h
/-- a comprehension over a cut of a list -/
theorem q_lcCut {M : Mov} {K : PySem.W.Frag} {σ : L2.St} {H : Hp} {te : TE} {ix i : Nat} {sa : Addr} {ns : List Int} {gs : List Int} {Q : VK} (ok : M.ok H) (hs : σ[i]? = some (some (.ref sa))) (hq : ∀ H', Gr M H H' → SqL K H' sa (ns.map V.int)) (hn : ns.length ≤ 1000) (k0 : Int) (hk : 0 ≤ k0)
    (hg : gs.length = (ns.take k0.toNat).length) (q : ∀ (j : Nat) (z f : Int) (H1 : Hp), (ns.take k0.toNat)[j]? = some z → gs[j]? = some f → Gr M H H1 → QD K M te ((wipe σ [ix]).set ix (some (.int z))) H1 (.int f))
    (k : ∀ a H', Gr M H H' → H a = none → H' a = some (.lst (gs.map V.int)) → Q (.ref a) H') : tLc (iList K (tSl (rSlL K) (tVar i) tNoPart (tPart (tC (.int k0))))) (gName ix) tYes te [ix] σ H Q := by
  have hk0 : (k0.toNat : Int) = k0 := Int.toNat_of_nonneg hk
  have ec : cutV (ns.map V.int) none (some k0) = (ns.take k0.toNat).map V.int := by
    unfold cutV
    rw [← hk0, HT.sIx_nat, HT.sIx_none, List.length_map, Nat.sub_zero, List.drop_zero, ← List.map_take, Int.toNat_natCast]
    congr 1
    by_cases h : k0.toNat ≤ ns.length
    · rw [Nat.min_eq_left h]
    · rw [Nat.min_eq_right (by omega), List.take_of_length_le (Nat.le_refl _), List.take_of_length_le (by omega)]
  refine ⟨.ref sa, hs, k0, rfl, sa, _, rfl, hq H (.refl ok), fun p hp => ?_⟩
  rw [ec]
  have ga : Gr M H (upd H p (.lst ((ns.take k0.toNat).map V.int))) := .new ok hp
  have nap : ¬ M.at_ p := not_at ok hp
  refine ⟨p, rfl, ⟨_, .of upd_same⟩, fun D hD => ?_⟩
  have hDH := (ga.fresh hD).1
  have nD : ¬ M.at_ D := not_at ok hDH
  refine lc_list (K := K) (a := p) (xs := (ns.take k0.toNat).map V.int) (fun j H' => Gr M H H' ∧ H' p = some (.lst ((ns.take k0.toNat).map V.int)) ∧ H' D = some (.lst ((gs.take j).map V.int))) ⟨ga.trans (.new ga.r hD), ?_, ?_⟩ (fun j H' _ h => .of h.2.1) (fun j y H' hy h => ?_) fun H' h => ?_
  · rw [upd_ne (fun z => by rw [← z, upd_same] at hD; cases hD), upd_same]
  · exact upd_same
  · obtain ⟨g, hp', hD'⟩ := h
    rw [List.getElem?_map] at hy
    cases hz : (ns.take k0.toNat)[j]? with
    | none => rw [hz] at hy; cases hy
    | some z =>
      rw [hz] at hy
      cases hy
      have hjl := (List.getElem?_eq_some_iff.mp hz).1
      have hgj : gs[j]? = some (gs[j]'(by omega)) := List.getElem?_eq_getElem _
      refine ⟨wipe1, ?_⟩
      refine q j z _ H' hz hgj g H' (.refl g.r) _ fun u H3 g3 hu => ?_
      rw [dt_int hu]
      have hD3 := g3.keep D _ hD' nD
      have hp3 := g3.keep p _ hp' nap
      refine ⟨_, hD3, ?_, (g.trans g3).upd hDH hD3 loc_lst, ?_, ?_⟩
      · rw [List.length_map, List.length_take, sizeLine_eq]
        have : (ns.take k0.toNat).length ≤ ns.length := by rw [List.length_take]; omega
        omega
      · rw [upd_ne (fun z => by rw [z] at hp; rw [hp] at hDH; rw [← z] at hD; rw [upd_same] at hD; cases hD)]
        exact hp3
      · rw [upd_same, List.take_add_one, hgj, List.map_append]
        rfl
  · obtain ⟨g, _, hD'⟩ := h
    rw [List.length_map, ← hg, List.take_length] at hD'
    exact k D H' g hDH hD'
def spPot (K : PySem.W.Frag) (T : Addr) : Sp := fun vs H Q _ => ∃ (sa : Addr) (ns : List Int), vs = [.ref sa] ∧ (Mov.tab T lamQ).ok H ∧ (∀ H', Gr (Mov.tab T lamQ) H H' → SqL K H' sa (ns.map V.int)) ∧ ns.length ≤ 63 ∧ ∀ p c cl H', Gr (Mov.tab T lamQ) H H' → H p = none → H c = none → (MP T p c cl 0).ok H' → PotC cl → Q (.ref p) H'
section
variable {P : Program} {w : World} {K : PySem.W.Frag} {mg : Str → Option Value} {base : Heap} {T : Addr}
theorem c_law_pot (F : Has K mg "_law_pot" (top 54)) (B : Blt mg) : Cal P w K mg base 1 "_law_pot" ["_law_script"] (spPot K T) := by
  have sc : FnScope ["_law_script", "_law_cells", "_law_cell"] ["_law_script"] (defScope (top 54)) := ⟨rfl, rfl, rfl, by decide +kernel, rfl, by decide +kernel, by decide +kernel⟩
  refine cal_of F sc (fun vs H Q E ⟨_, _, e, _⟩ => by rw [e]; rfl) (fun _ _ _ _ _ _ us hl => match us, hl with | [_], _ => rfl) (fun f cdv A outer s H vs Q E' cx h => ?_)
  obtain ⟨sa, ns, rfl, ok, hsa, hns, q⟩ := h
  refine rs_cons (ps_setLc (i := 1) rfl sc.nd rfl rfl rfl (pi_list (pe_slice sl_list (pv 0) po_none (po_some pe_int))) (blkOk_by (own := [("_law_cell", 2)]) (N := ["_law_script", "_law_cells", "_law_cell"]) (sc := defScope (top 54)) (by decide +kernel)) (fun _ _ _ _ _ => pg_name (i := 2) sc.nd rfl (Or.inl rfl)) (fun _ _ _ _ _ => pts_nil)
    (fun s H C' cl fp => pe_callB call_abs rfl B.abs (by decide +kernel) (pa_cons (pe_callTy call_int1 rfl B.int (by decide +kernel) (pa_cons (pv 2) pa_nil)) pa_nil))) ?_
  refine t_asgG fun Qc hQc => ?_
  refine q_lcCut (M := Mov.tab T lamQ) (K := K) (ns := ns) (gs := (ns.take 63).map fun z => (z.natAbs : Int)) ok rfl hsa (by omega) 63 (by decide) (by rw [List.length_map]; rfl) (fun j z f H1 hz hf g => ?_) fun c H1 g1 hc0 hc1 => ?_
  · rw [List.getElem?_map] at hf
    have hz' : (ns.take 63)[j]? = some z := hz
    rw [hz'] at hf
    cases hf
    refine fun H2 g2 Q' k => ⟨.int z, rfl, .inl ⟨z, rfl, z, rfl, ?_⟩⟩
    have e : (if z < 0 then -z else z) = (z.natAbs : Int) := by split <;> omega
    rw [e]
    exact k _ H2 (.refl g2.r) (.int _)
  · rw [hQc]
    show RS _ _ _ [some (.ref sa), some (.ref c), none] H1
    refine rs_cons (ps_ret (pe_lst (pa_cons (pv 1) (pa_cons pe_int (pa_cons pe_int (pa_cons (pe_op op_add pe_int (pe_callB call_len_seq rfl B.len boot_len (pa_cons (pv 1) pa_nil))) (pa_cons pe_int pa_nil))))))) ?_
    refine ⟨.ref c, rfl, ⟨.ref c, rfl, c, _, rfl, .inl (.of hc1), _, _, rfl, rfl, by show 5 ≤ sizeLine; decide, fun p hp => ?_⟩⟩
    have g2 : Gr (Mov.tab T lamQ) H1 (upd H1 p (.lst (potL c 0 0 (1 + (((ns.take 63).map fun z => (z.natAbs : Int)).map V.int).length) 0))) := .new g1.r hp
    have hcT := not_at g1.l hc0
    have hpT := not_at g1.r hp
    have ncp : c ≠ p := fun z => by rw [z, hp] at hc1; cases hc1
    refine q p c _ _ (g1.trans g2) (g1.fresh hp).1 hc0 ⟨g2.r, hpT, hcT, ncp, by rw [upd_ne ncp]; exact hc1, 0, 0, _, 0, upd_same, ⟨by omega, by omega, by omega, ?_, by omega, by omega⟩⟩ ⟨fun x hx => ?_, ?_⟩
    · rw [List.length_map, List.length_map, List.length_take]
      omega
    · obtain ⟨z, _, rfl⟩ := List.mem_map.mp hx
      exact Int.natCast_nonneg _
    · rw [List.length_map, List.length_take]
      omega
end
end Kt
end
section
set_option maxHeartbeats 4000000
set_option exponentiation.threshold 5000
/-! Kt: the law. -/
namespace Kt
open PySem PySem.Spec PyProof.Rows L2
theorem t_lcG {te : TE} {σ : L2.St} {H : Hp} {Q : VK} (h : ∀ Qc : VK, Qc = Q → te σ H Qc) : te σ H Q := h _ rfl
def spLaw (K : PySem.W.Frag) (T : Addr) : Sp := fun vs H Q _ => ∃ (sa : Addr) (ns : List Int), vs = [.ref sa] ∧ (Mov.tab T lamQ).ok H ∧ (∀ H', Gr (Mov.tab T lamQ) H H' → SqL K H' sa (ns.map V.int)) ∧ ns.length ≤ 63 ∧ ∀ H', Gr (Mov.tab T lamQ) H H' → Q (.bl true) H'
theorem AdvOk.up {size m m' : Nat} {a : Adv} (h : AdvOk size m a) (k : m ≤ m') : AdvOk size m' a := ⟨h.pos, Nat.le_trans h.most k, h.letter, h.len, h.st⟩
theorem lev_frs (ps : List Rat) (h : ps.length ≤ 1000) : LevD 2 (.tuple (ps.map fr)) := by
  refine .tup (fun d hd => ?_) (by rw [List.length_map]; exact h)
  obtain ⟨q, _, rfl⟩ := List.mem_map.mp hd
  refine .tup (fun d hd => ?_) (by show 2 ≤ 1000; omega)
  simp at hd
  rcases hd with rfl | rfl
  · exact .int _ _
  · exact .int _ _
/-- letters told as data -/
theorem row_of {size : Nat} : ∀ {ds : List PyData}, (∀ d ∈ ds, ∃ z : Int, d = .int z ∧ 0 ≤ z ∧ z < (size : Int)) → ∃ r : List Nat, PyData.tuple ds = lotD r ∧ r.length = ds.length ∧ ∀ x ∈ r, x < size
  | [], _ => ⟨[], rfl, rfl, fun x hx => by cases hx⟩
  | d :: ds, h => by
    obtain ⟨z, rfl, z0, z1⟩ := h d List.mem_cons_self
    obtain ⟨r, e, hl, hx⟩ := row_of fun d hd => h d (List.mem_cons_of_mem _ hd)
    refine ⟨z.toNat :: r, ?_, by rw [List.length_cons, List.length_cons, hl], fun x hx' => ?_⟩
    · unfold lotD at e ⊢
      injection e with e
      rw [List.map_cons, ← e, Int.toNat_of_nonneg z0]
    · rcases List.mem_cons.mp hx' with w | w
      · omega
      · exact hx x w
section
variable {K : PySem.W.Frag} {T p c : Addr} {cl : List Int} {E : Nat} {H : Hp} {σ : L2.St} {Q : VK}
/-- a written list of ints -/
theorem q_ints {M : Mov} (ok : M.ok H) {t : TA} (ks : List Int) (ht : ∀ Q' : List V → Hp → Prop, Q' (ks.map V.int) H → t σ H Q') (hl : ks.length ≤ 100) (k : ∀ a H', Gr M H H' → H a = none → H' a = some (.lst (ks.map V.int)) → Q (.ref a) H') : tLst t σ H Q :=
  t_lst (ht _ ⟨by rw [List.length_map, sizeLine_eq]; omega, fun a ha => k a _ (.new ok ha) ha upd_same⟩)
end
section
variable {P : Program} {w : World} {K : PySem.W.Frag} {mg : Str → Option Value} {base : Heap} {T : Addr}
theorem fnok_of {x : Str} {st : Stmt} {N ps : List Str} {k : Nat} {sp : Sp} {f : Addr} {fd : FuncData} (F : FnP K x st f fd) (S : FnScope N ps (defScope st)) (len : ∀ vs H Q E, sp vs H Q E → vs.length = ps.length)
    (body : ∀ (cdv : Value) (A : Around) (outer : List Env) (s : Shared) (H : Hp) (vs : List V) (Q : VK) (E : XK), CxIs (fun _ : Unit => bX P w K mg base N x (defScope st) f cdv A outer s H E) P w K mg base k → sp vs H Q E →
      RS (bX P w K mg base N x (defScope st) f cdv A outer s H E) (defBody st) { nx := fun _ H' => Q .non H', rt := Q } (start N vs) H) : FnOk P w K mg base CX0 (k + 1) f fd ps sp := by
  refine FunD.ok F S len fun cdv A outer s H vs Q E hr h => ⟨_, (pss_rs _ _).nox, ?_⟩
  exact body cdv A outer s H vs Q E ⟨fun _ => rfl, fun _ => rfl, fun _ => rfl, fun _ => rfl, fun _ => rfl, fun _ => hr, fun _ => rfl⟩ h
theorem c_law {f : Addr} {fd : FuncData} (F : FnP K "law" (top 75) f fd) (B : Blt mg) (CPo : Cal P w K mg base 1 "_law_pot" ["_law_script"] (spPot K T)) (CD : Cal P w K mg base 1 "_law_draw" ["_law_pot_here", "_law_many"] (spDraw T)) (CA : Cal P w K mg base 2 "_law_any" ["_law_pot_here", "_law_things"] (spAny T)) (CC : Cal P w K mg base 3 "_law_circle" ["_law_pot_here", "_law_sizes", "_law_many", "_law_most"] (spCircle K T))
    (CAr : Cal P w K mg base 12 "_law_all_right" ["_law_circle_here", "_law_n"] (DS K (Mov.tab T lamQ) RAllRight)) (CRr : Cal P w K mg base 12 "_law_row_right" ["_law_pot_here", "_law_circle_here", "_law_n"] (spRowRight K T)) (CF : Cal P w K mg base 10 "followed" ["circle", "n", "row"] (DS K (Mov.tab T lamQ) RFollowed)) (CI : Cal P w K mg base 3 "_law_is" ["_law_told", "_law_due"] (DS K .no (RIs 2))) : FnOk P w K mg base CX0 13 f fd ["_law_script"] (spLaw K T) := by
  have sc : FnScope ["_law_script", "_law_pot_here", "_law_turn", "_law_circle_here", "_law_small", "_law_row", "_law_k"] ["_law_script"] (defScope (top 75)) := ⟨rfl, rfl, rfl, by decide +kernel, rfl, by decide +kernel, by decide +kernel⟩
  refine fnok_of F sc (fun vs H Q E ⟨_, _, e, _⟩ => by rw [e]; rfl) (fun cdv A outer s H vs Q E' cx h => ?_)
  obtain ⟨sa, ns, rfl, ok, hsa, hns, q⟩ := h
  refine rs_set 1 ok (eo_call CPo cx (by decide) (RA := AR [fun u _ => u = .ref sa]) (R := fun v H' => ∃ p c cl, v = .ref p ∧ H p = none ∧ H c = none ∧ (MP T p c cl 0).ok H' ∧ PotC cl) (ao_cons (eo_var 0 (hs := rfl) (hR := fun _ _ => rfl)) mono_eq ao_nil) fun vs H1 g1 hvs Q' k => ?_) (fun pv1 H1 g1 hp => ?_) sc.nd
  · obtain ⟨_, _, rfl, rfl, rfl⟩ := hvs
    exact ⟨sa, ns, rfl, g1.r, fun H' g => hsa H' (g1.trans g), hns, fun p c cl H' g' hp0 hc0 hp pc => k _ H' g' ⟨p, c, cl, rfl, (g1.fresh hp0).1, (g1.fresh hc0).1, hp, pc⟩⟩
  obtain ⟨p, c, cl, rfl, hp0, hc0, okp, pc⟩ := hp
  have atn : ∀ {E : Nat} {H' : Hp} {a : Addr}, (MP T p c cl E).ok H' → H' a = none → a ≠ p ∧ a ≠ c := fun ok h => ⟨fun z => not_at ok h (.inr (.inl z)), fun z => not_at ok h (.inr (.inr z))⟩
  have keepL : ∀ {E : Nat} {H' H'' : Hp} {a : Addr} {xs : List V}, Gr (MP T p c cl E) H' H'' → H' a = some (.lst xs) → a ≠ p → a ≠ c → H'' a = some (.lst xs) := fun g h n1 n2 => g.keep _ _ h (pot_nt g.l h (by intro _ z; cases z) n1 n2)
  refine rs_forR (K := K) (M := MP T p c cl 0) PassesOwn.never rfl okp B.range ed_int (by omega) (by omega) (pg_name (i := 2) sc.nd rfl (Or.inl rfl)) fun H2 g2 => ?_
  refine ⟨fun i σ' H' => Gr (MP T p c cl (700 * i)) H1 H' ∧ ∃ (o2 o3 o4 o5 : Option V), σ' = [some (.ref sa), some (.ref p), o2, o3, o4, o5, none], ⟨g2, none, none, none, none, rfl⟩, ?_, ?_⟩
  · rintro i σ' H3 hi ⟨g3, o2, o3, o4, o5, rfl⟩
    have hi' : i < 2 := by omega
    -- the circle
    refine rs_cons (ps_set (i := 3) sc.nd rfl (Or.inl rfl) (pe_cal CC cx (by decide) () rfl (pa_cons (pv 1) (pa_cons (pe_lst (pa_cons pe_int (pa_cons pe_int (pa_cons pe_int (pa_cons pe_int pa_nil))))) (pa_cons (pe_lst (pa_cons pe_int (pa_cons pe_int (pa_cons pe_int (pa_cons pe_int (pa_cons pe_int pa_nil)))))) (pa_cons (pe_cal CA cx (by decide) () rfl (pa_cons (pv 1) (pa_cons (pe_lst (pa_cons pe_int (pa_cons pe_int (pa_cons pe_int pa_nil)))) pa_nil))) pa_nil))))) (by rfl) (Or.inl rfl)) ?_
    refine t_asgG fun Qc hQc => ?_
    refine ⟨.ref p, rfl, t_cons (q_ints g3.r [2, 2, 3, 4] (fun Q' h => h) (by decide) fun a H4 g4 ha0 ha1 => t_cons (q_ints g4.r [1, 2, 2, 3, 4] (fun Q' h => h) (by decide) fun b H5 g5 hb0 hb1 => t_cons ?_))⟩
    refine ⟨.ref p, rfl, t_cons (q_ints g5.r [4, 4, 6] (fun Q' h => h) (by decide) fun d H6 g6 hd0 hd1 => ?_)⟩
    obtain ⟨na1, na2⟩ := atn g3.r ha0
    obtain ⟨nb1, nb2⟩ := atn g4.r hb0
    obtain ⟨nd1, nd2⟩ := atn g5.r hd0
    refine ⟨p, c, d, cl, [4, 4, 6], 700 * i, rfl, g6.r, pc, by omega, hd1, nd1, nd2, by decide, by decide, fun z H7 hz g7 => ?_⟩
    obtain ⟨most, hmost, m1, m6⟩ : ∃ m : Nat, z = (m : Int) ∧ 1 ≤ m ∧ m ≤ 6 := by
      simp at hz
      rcases hz with rfl | rfl
      · exact ⟨4, rfl, by omega, by omega⟩
      · exact ⟨6, rfl, by omega, by omega⟩
    subst hmost
    have gL : Gr (MP T p c cl (700 * i + 1)) H3 H7 := (((g4.trans g5).trans g6).potUp (by omega)).trans g7
    refine ⟨p, c, a, b, cl, [2, 2, 3, 4], [1, 2, 2, 3, 4], 700 * i + 1, most, rfl, g7.r, pc, by omega, keepL (((g5.trans g6).potUp (E' := 700 * i + 1) (by omega)).trans g7) ha1 na1 na2, na1, na2, keepL ((g6.potUp (E' := 700 * i + 1) (by omega)).trans g7) hb1 nb1 nb2, nb1, nb2, by decide, by decide, by decide, by decide, by decide, by decide, m1, m6, fun cv H8 size cs g8 hsz hcs hca hcv => ?_⟩
    rw [hQc]
    have hsz' : size = 2 ∨ size = 3 ∨ size = 4 := by
      simp at hsz
      omega
    have hcl : 1 ≤ cs.length ∧ cs.length ≤ 4 := by
      simp at hcs
      omega
    have hc : CircOk size cs := ⟨by omega, by omega, List.length_pos_iff.mp hcl.1, hcl.2, fun a ha => (hca a ha).up m6⟩
    have g38 : Gr (MP T p c cl (700 * i + 201)) H3 H8 := (gL.potUp (by omega)).trans (g8.potUp (by omega))
    show RS _ _ _ [some (.ref sa), some (.ref p), some (.int (i : Int)), some cv, o4, o5, none] H8
    -- all right
    obtain ⟨mn, hm0, hm1, hmn⟩ : ∃ mn : Int, 0 < mn ∧ mn ≤ 5 ∧ ([0, 0, 5, 4, 3] : List Int)[size]? = some mn := by
      rcases hsz' with rfl | rfl | rfl
      · exact ⟨5, by decide, by decide, rfl⟩
      · exact ⟨4, by decide, by decide, rfl⟩
      · exact ⟨3, by decide, by decide, rfl⟩
    refine rs_cons (ps_if (pt_not (pt_val (pe_cal CAr cx (by decide) () rfl (pa_cons (pv 3) (pa_cons (pe_cal CD cx (by decide) () rfl (pa_cons (pv 1) (pa_cons (pe_ix ix_list (pe_lst (pa_cons pe_int (pa_cons pe_int (pa_cons pe_int (pa_cons pe_int (pa_cons pe_int pa_nil)))))) (pe_ix ix_tup (pe_ix ix_tup (pv 3) pe_int (fun _ _ => rfl)) pe_int (fun _ _ => rfl)) (fun _ _ => rfl)) pa_nil))) pa_nil))) (by intro _; rfl))) (pss_rs _ _) (pss_rs _ _)) ?_
    refine t_ifS (t_notB fun Qn hQn => ?_)
    refine ⟨cv, rfl, t_cons (q_draw (many := mn) 1 pc rfl g8.r (by omega) hm0 (by omega) (fun H9 g9 Q' k => t_op (q_ints g9.r [0, 0, 5, 4, 3] (fun Q' h => h) (by decide) fun a H10 g10 ha0 ha1 => ?_)) fun r H9 r0 r1 g9 => ?_)⟩
    · have hcv' : Dt K H10 cv (.tuple (cs.map (advD size))) := (g9.trans g10).dt hcv
      refine qd_ix (K := K) (M := MP T p c cl (700 * i + 1 + 200)) (d := .int (size : Int)) (ds := [.int (size : Int), .tuple ((cs.getD 0 []).map ruleD)]) (qd_ix (ds := cs.map (advD size)) (qd_var (i := 3) rfl hcv') (qd_int (i := 0)) (lt_size hc)) (qd_int (i := 0)) rfl H10 (.refl g10.r) _ fun y H11 g11 hy => ?_
      obtain ⟨na1, na2⟩ := atn g9.r ha0
      exact ⟨a, _, (size : Int), .int mn, rfl, dt_int hy, .of (keepL g11 ha1 na1 na2), atI_nat (by rw [List.getElem?_map, hmn]; rfl), k _ H11 (g10.trans g11) rfl⟩
    obtain ⟨n, hn⟩ : ∃ n : Nat, r = (n : Int) := ⟨r.toNat, by omega⟩
    subst hn
    have hpw : size ^ n ≤ 3000 := by
      rcases hsz' with rfl | rfl | rfl
      · have : mn = 5 := by simpa using hmn.symm
        exact Nat.le_trans (Nat.pow_le_pow_right (by decide) (show n ≤ 4 by omega)) (by decide)
      · have : mn = 4 := by simpa using hmn.symm
        exact Nat.le_trans (Nat.pow_le_pow_right (by decide) (show n ≤ 3 by omega)) (by decide)
      · have : mn = 3 := by simpa using hmn.symm
        exact Nat.le_trans (Nat.pow_le_pow_right (by decide) (show n ≤ 2 by omega)) (by decide)
    refine ⟨g9.r.1, _, _, .cons (g9.dt hcv) (.cons (.int (n : Int)) .nil), ⟨size, cs, n, rfl, hc, hpw, by omega, rfl⟩, fun v H10 g10' hv => ?_⟩
    rw [dt_bl hv]
    have g10 : Gr (MP T p c cl (700 * i + 202)) H9 H10 := sub_tab.gr _ _ (pot_up (by omega) g9.r) g10'
    refine hQn _ _ (iteF (rs_nil ?_))
    have g310 : Gr (MP T p c cl (700 * i + 202)) H3 H10 := (g38.potUp (by omega)).trans ((g9.potUp (by omega)).trans g10)
    -- the small circle
    refine rs_cons (ps_set (i := 4) sc.nd rfl (Or.inr rfl) (pe_cal CC cx (by decide) () rfl (pa_cons (pv 1) (pa_cons (pe_lst (pa_cons pe_int (pa_cons pe_int pa_nil))) (pa_cons (pe_lst (pa_cons pe_int (pa_cons pe_int (pa_cons pe_int pa_nil)))) (pa_cons pe_int pa_nil))))) (by rfl) (Or.inl rfl)) ?_
    refine t_asgG fun Qc2 hQc2 => ?_
    refine ⟨.ref p, rfl, t_cons (q_ints g310.r [2, 3] (fun Q' h => h) (by decide) fun a2 H11 g11 ha0 ha1 => t_cons (q_ints g11.r [1, 2, 3] (fun Q' h => h) (by decide) fun b2 H12 g12 hb0 hb1 => ?_))⟩
    obtain ⟨na1, na2⟩ := atn g310.r ha0
    obtain ⟨nb1, nb2⟩ := atn g11.r hb0
    refine ⟨p, c, a2, b2, cl, [2, 3], [1, 2, 3], 700 * i + 202, 2, rfl, g12.r, pc, by omega, keepL g12 ha1 na1 na2, na1, na2, hb1, nb1, nb2, by decide, by decide, by decide, by decide, by decide, by decide, by decide, by decide, fun sv H13 sz ss g13 hsz2 hcs2 hca2 hsv => ?_⟩
    rw [hQc2]
    have hss : sz = 2 ∨ sz = 3 := by
      simp at hsz2
      omega
    have hsl : 1 ≤ ss.length ∧ ss.length ≤ 3 := by
      simp at hcs2
      omega
    have hsc : CircOk sz ss := ⟨by omega, by omega, List.length_pos_iff.mp hsl.1, by omega, fun a ha => (hca2 a ha).up (by omega)⟩
    have g313 : Gr (MP T p c cl (700 * i + 402)) H3 H13 := (((g310.trans g11).trans g12).potUp (by omega)).trans (g13.potUp (by omega))
    show RS _ _ _ [some (.ref sa), some (.ref p), some (.int (i : Int)), some cv, some sv, o5, none] H13
    -- a drawn row
    refine rs_cons (ps_if (pt_not (pt_val (pe_cal CRr cx (by decide) () rfl (pa_cons (pv 1) (pa_cons (pv 4) (pa_cons (pe_op op_add pe_int (pe_cal CD cx (by decide) () rfl (pa_cons (pv 1) (pa_cons pe_int pa_nil)))) pa_nil)))) (by intro _; rfl))) (pss_rs _ _) (pss_rs _ _)) ?_
    refine t_ifS (t_notB fun Qn2 hQn2 => ?_)
    refine ⟨.ref p, rfl, sv, rfl, t_cons (t_op (q_draw (many := 10) 1 pc rfl g313.r (by omega) (by omega) (by omega) qo_int fun r2 H14 r20 r21 g14 => ?_))⟩
    obtain ⟨n2, hn2⟩ : ∃ n2 : Nat, 1 + r2 = (n2 : Int) := ⟨(1 + r2).toNat, by omega⟩
    refine ⟨1, r2, rfl, rfl, p, c, cl, 700 * i + 402 + 1, sv, sz, ss, n2, by show [V.ref p, sv, V.int (1 + r2)] = _; rw [hn2], g14.r, pc, by omega, g14.dt hsv, hsc, fits_two hsc.ne hca2 hsl.2 (by omega), by omega, fun H15 g15 => ?_⟩
    refine hQn2 _ _ (iteF (rs_nil ?_))
    have g315 : Gr (MP T p c cl (700 * i + 443)) H3 H15 := (g313.potUp (by omega)).trans ((g14.potUp (by omega)).trans (g15.potUp (by omega)))
    have hsv15 := (g14.potUp (E' := 700 * i + 443) (by omega)).trans (g15.potUp (by omega)) |>.dt hsv
    -- a row
    refine rs_cons (ps_set (i := 5) sc.nd rfl (Or.inl rfl) (pe_callTy call_tuple_of rfl B.tuple (by decide +kernel) (pa_cons
        (pe_lc (te := tCall (spDraw T) [] E0 (tCons (tVar 1) (tCons (tOp (rIxT K) (tOp (rIxT K) (tVar 4) (tC (.int 0))) (tC (.int 0))) tNil))) rfl sc.nd (pi_range1 rfl B.range (pa_cons (pe_cal CD cx (by decide) () rfl (pa_cons (pv 1) (pa_cons pe_int pa_nil))) pa_nil)) (blkOk_by (own := [("_law_k", 6)]) (N := ["_law_script", "_law_pot_here", "_law_turn", "_law_circle_here", "_law_small", "_law_row", "_law_k"]) (sc := defScope (top 75)) (by decide +kernel)) (fun _ _ _ _ _ => pg_name (i := 6) sc.nd rfl (Or.inl rfl)) (fun _ _ _ _ _ => pts_nil)
          (fun s H C' cl fp => pe_cal CD (cx.blk () s H _ _ fp) (by decide) () rfl (pa_cons (pv 1) (pa_cons (pe_ix ix_tup (pe_ix ix_tup (pv 4) pe_int (fun _ _ => rfl)) pe_int (fun _ _ => rfl)) pa_nil))) (fun _ => rfl)) pa_nil)) (by rfl) (Or.inl rfl)) ?_
    refine t_asgG fun Qc3 hQc3 => t_cb (t_cons (t_lcG fun Qc4 hQc4 => t_lc (t_rng1 (t_cons ?_))))
    refine q_draw (many := 4) 1 pc rfl g315.r (by omega) (by omega) (by omega) qo_int fun r3 H16 r30 r31 g16 => ?_
    obtain ⟨n3, hn3⟩ : ∃ n3 : Nat, r3 = (n3 : Int) := ⟨r3.toNat, by omega⟩
    subst hn3
    refine ⟨(n3 : Int), rfl, by omega, by omega, ?_⟩
    refine lcDraw (K := K) (E := 700 * i + 444) (H := H15) n3 1 (fun d => ∃ z : Int, d = .int z ∧ 0 ≤ z ∧ z < (sz : Int)) (by omega) g16 (fun j H17 hj g17 Q1 k1 => ?_) fun v H17 ds hdl hdp g17 hv => ?_
    · have hsvj : Dt K H17 sv (.tuple (ss.map (advD sz))) := g17.dt hsv15
      refine q_draw (many := (sz : Int)) 1 pc rfl g17.r (by omega) (by omega) (by omega) (qo_dt (K := K) (qd_ix (ds := [.int (sz : Int), .tuple ((ss.getD 0 []).map ruleD)]) (qd_ix (ds := ss.map (advD sz)) (qd_var (i := 4) rfl hsvj) (qd_int (i := 0)) (lt_size hsc)) (qd_int (i := 0)) rfl)) fun z H18 z0 z1 g18 => ?_
      exact k1 _ H18 (.int z) ⟨z, rfl, z0, z1⟩ (g18.potUp (by omega)) (.int z)
    · rw [hQc4]
      obtain ⟨la, ys, rfl, hla, hla2, hys⟩ := hv
      refine ⟨la, ys, rfl, .inl ⟨.of hla2, fun tl htl => ?_⟩⟩
      have g18 : Gr (MP T p c cl (700 * i + 444 + n3 * 1)) H17 (upd H17 tl (.tup ys)) := .new g17.r htl
      have hrow : Dt K (upd H17 tl (.tup ys)) (.ref tl) (.tuple ds) := .tup (.of upd_same) (g18.dts hys)
      obtain ⟨rr, er, hrl, hrx⟩ := row_of hdp
      rw [er] at hrow
      rw [hQc3]
      generalize upd H17 tl (.tup ys) = H18 at g18 hrow ⊢
      have g1518 := (g17.trans g18).potUp (E' := 700 * i + 450) (by omega)
      have g318 : Gr (MP T p c cl (700 * i + 450)) H3 H18 := (g315.potUp (by omega)).trans g1518
      have hsv18 := g1518.dt hsv15
      show RS _ _ _ [some (.ref sa), some (.ref p), some (.int (i : Int)), some cv, some sv, some (.ref tl), none] H18
      have sT : Sub (Mov.tab T lamQ) (MP T p c cl (700 * i + 450)) := sub_tab
      have sN : Sub .no (MP T p c cl (700 * i + 450)) := Sub.no _
      have hf5 : Fits sz ss 5 := fits_two hsc.ne hca2 hsl.2 (by omega)
      obtain ⟨_, _, tl5, _⟩ := told_pok hsc (n := 5) (by omega) (r := rr) (by omega)
      refine rs_ifF g318.r (to_not (t := true) (to_val (ed_call (d := .bool true) CI cx (by decide) sN (ad_cons (d := .tuple ((told sz ss 5 rr).map fr)) (ed_call CF cx (by decide) sT (ad_cons (ed_var 4 rfl hsv18) (ad_cons ed_int (ad_cons (ed_var 5 rfl hrow) ad_nil))) ⟨sz, ss, 5, rr, rfl, hsc, hf5, by omega, by omega, hrx, rfl⟩)
        (ad_cons (d := .tuple ((told sz ss 5 rr).map fr)) (ed_call CF cx (by decide) sT (ad_cons (ed_var 4 rfl hsv18) (ad_cons ed_int (ad_cons (ed_var 5 rfl hrow) ad_nil))) ⟨sz, ss, 5, rr, rfl, hsc, hf5, by omega, by omega, hrx, rfl⟩) ad_nil)) ⟨_, rfl, lev_frs _ (by rw [tl5]; omega), rfl⟩))) fun H19 g19 => ?_
      refine rs_nil ⟨(g3.potUp (by omega)).trans ((g318.trans g19).potUp (by omega)), _, _, _, _, rfl⟩
  · rintro σ' H3 ⟨g3, o2, o3, o4, o5, rfl⟩
    refine rs_ret g3.r (ed_bl (K := K) (i := true)) fun z H4 g4 hz => ?_
    rw [dt_bl hz]
    have g := g3.trans g4
    refine q H4 ⟨ok, g.r.1, fun b o e n => ?_, fun b ps e => let ⟨qs, e1⟩ := g.tb b ps e; g1.tb b qs e1⟩
    have e1 := g1.keep b o e n
    refine g.keep b o e1 fun z => ?_
    rcases z with z | z | z
    · exact n z
    · rw [z, hp0] at e; cases e
    · rw [z, hc0] at e; cases e
end
end Kt
end
section
set_option maxHeartbeats 0
/-! Kt: the top's run. -/
namespace Kt
open PySem PySem.Spec PyProof.Rows L2
/-- a def of the top -/
def dOf (x : Str) (i : Nat) : He.DefD := ⟨(x, none), x, x, defArgs (top i), defBody (top i), defScope (top i), [], []⟩
def dIn (m q : Str) (j : Nat) : He.DefD := ⟨("Lags", some m), m, q, defArgs (inClass (top 49) j), defBody (inClass (top 49) j), defScope (inClass (top 49) j), [], []⟩
def fnA : List He.DefD := [dOf "is_integer" 8, dOf "is_between" 9, dOf "is_index" 10, dOf "is_tuple_of" 11, dOf "check_number" 12, dOf "fraction" 16, dOf "is_less" 17, dOf "plus" 18, dOf "minus" 19, dOf "times" 20, dOf "lots" 22, dOf "total" 23, dOf "mean" 24, dOf "even_worth" 25, dOf "raw_even_lot" 26, dOf "raw_level" 27, dOf "raw_filled" 28]
def fnB : List He.DefD := [dOf "is_size" 34, dOf "raw_is_row" 35, dOf "check_row" 36, dOf "is_rule" 42, dOf "is_adviser" 43, dOf "is_circle" 44, dOf "check_circle" 45, dOf "raw_misses" 46, dOf "adviser_misses" 47, dOf "stepped" 48, dIn "__init__" "Lags.__init__" 0, dIn "behind" "Lags.behind" 1, dIn "worths" "Lags.worths" 2, dOf "lags_of" 50, dOf "lag" 51, dOf "followed" 52]
def fnC : List He.DefD := [dOf "_law_pot" 54, dOf "_law_draw" 55, dOf "_law_any" 56, dOf "_law_is" 58, dOf "_law_gcd" 59, dOf "_law_fraction" 60, dOf "_law_plus" 61, dOf "_law_minus" 62, dOf "_law_less" 63, dOf "_law_adviser" 65, dOf "_law_circle" 66, dOf "_law_missed" 67, dOf "_law_rows" 68, dOf "_law_are_chances" 71, dOf "_law_all_right" 72, dOf "_law_behind" 73, dOf "_law_row_right" 74, dOf "law" 75]
def fn : List He.DefD := fnA ++ (fnB ++ fnC)
def gloF (d : He.DefD) : He.Fa := .glo d.at_.1
def faA : List He.Fa := [.free "isinstance", .free "len", .free "tuple", .free "all", .free "min", .free "abs", .free "int", .free "bool", .free "list", .free "range", .free "zip", .free "sorted", .int "SIZE" 0, .int "RULES" 1, .int "MOST_SIZE" 4, .int "MOST_LETTERS_machines" 400, .int "MOST_ADVISERS" 4, .int "MOST_ADVISER_STATES" 6, .int "MOST_LETTERS_advisers" 10, .int "MOST_KEYS" 3000,
  .cls "Lags", .noat "Lags" "circle", .noat "Lags" "begin", .noat "Lags" "lags", .meth "Lags" "behind", .meth "Lags" "worths", .mkr "Lags", .glo "NOUGHT", .glo "ONE"]
def fa : List He.Fa := faA ++ fn.map gloF
def exB (K : PySem.W.Frag) : Bool := He.tupB K "NOUGHT" [.int 0, .int 1] && (He.tupB K "ONE" [.int 1, .int 1] && He.eqO (PySem.W.nsIn K mainGlobals "gcd") (some (some (.builtin "math.gcd"))))
def tfs : List He.Defn := [("lots", none)]
abbrev rowO : PySem.W.OpenRow := PySem.W.OpenLaw.row PySem.Challenge.rw_keptmisses_k41_whole_advisers_followed
abbrev hkO : PySem.W.Hook := He.hookX 5 fa fn [] tfs exB
def obO (s : PySem.W.SharedT) : He.AlX := He.obsX 5 fa fn [] tfs exB (HandSHeadRun.getT s)
theorem obO_eq (s : PySem.W.SharedT) : obO s = hkO.obs s.abs := He.obsX_eq (HandSHeadRun.getT_eq s)
def looseA : List PySem.Str := ["__name__", "MissError", "NoRow", "NoCircle", "NoNumber", "TooMany", "is_integer", "is_between", "is_index", "is_tuple_of", "check_number", "NOUGHT", "ONE", "fraction", "is_less", "plus", "minus", "times", "lots", "total", "mean", "even_worth", "raw_even_lot", "raw_level", "raw_filled"]
def looseB : List PySem.Str := ["SIZE", "RULES", "MOST_SIZE", "MOST_LETTERS_machines", "is_size", "raw_is_row", "check_row", "MOST_ADVISERS", "MOST_ADVISER_STATES", "MOST_LETTERS_advisers", "MOST_KEYS", "is_rule", "is_adviser", "is_circle", "check_circle", "raw_misses", "adviser_misses", "stepped", "Lags", "lags_of", "lag", "followed"]
def looseC : List PySem.Str := ["_law_pot", "_law_draw", "_law_any", "_law_mixed", "_law_is", "_law_gcd", "_law_fraction", "_law_plus", "_law_minus", "_law_less", "_law_mean", "_law_adviser", "_law_circle", "_law_missed", "_law_rows", "_law_water", "_law_highest", "_law_are_chances", "_law_all_right", "_law_behind", "_law_row_right"]
def looseO : List PySem.Str := looseA ++ (looseB ++ looseC)
abbrev qO : Program := PySem.W.view rowO.prog [0, 75]
theorem runO (w : World) : HandSHeadRun.RunEqI rowO qO hkO obO 20000 looseO w := by
  unfold HandSHeadRun.RunEqI
  kernel_rfl
end Kt
end
section
set_option maxHeartbeats 4000000
/-! Kt: the facts. -/
namespace Kt
open PySem PySem.Spec PyProof.Rows L2
section
variable {K : PySem.W.Frag} {mg : Str → Option Value} {base : Heap} {h : Heap}
theorem has_of (X : K.In h) (G : h.Ns mainGlobals mg) (c : He.SaysD fa fn K) {x : Str} {i : Nat} (hd : dOf x i ∈ fn) (hf : (He.Fa.glo x) ∈ fa) : Has K mg x (top i) := by
  obtain ⟨fd, F⟩ := c.defs hd
  exact ⟨_, fd, F, He.glo_ok X G (c.facts hf)⟩
theorem hasM_of (c : He.SaysD fa fn K) {m q : Str} {j : Nat} (hd : dIn m q j ∈ fn) (hf : (He.Fa.meth "Lags" m) ∈ fa) : HasM K (He.ga K "Lags") m q (inL j) := by
  obtain ⟨fd, F⟩ := c.defs hd
  exact ⟨_, fd, F, He.meth_ok (c.facts hf)⟩
theorem hasI_of (c : He.SaysD fa fn K) {q : Str} {j : Nat} (hd : dIn "__init__" q j ∈ fn) (hf : (He.Fa.mkr "Lags") ∈ fa) : HasI K (He.ga K "Lags") q (inL j) := by
  obtain ⟨fd, F⟩ := c.defs hd
  exact ⟨_, fd, F, He.mkr_ok (c.facts hf)⟩
theorem mem_A {f : He.Fa} (h : f ∈ faA) : f ∈ fa := List.mem_append_left _ h
theorem mem_glo {d : He.DefD} (h : d ∈ fn) : He.Fa.glo d.at_.1 ∈ fa := List.mem_append_right _ (List.mem_map_of_mem (f := gloF) h)
theorem blt_of (X : K.In h) (G : h.Ns mainGlobals mg) (c : He.SaysD fa fn K) (e : exB K = true) : Blt mg := by
  have fr : ∀ {x : Str}, He.Fa.free x ∈ faA → mg x = none := fun hx => He.free_ok X G (c.facts (mem_A hx))
  refine ⟨fr ?_, fr ?_, fr ?_, fr ?_, fr ?_, fr ?_, fr ?_, fr ?_, fr ?_, fr ?_, fr ?_, fr ?_, ?_⟩
  iterate 12 (simp only [faA, List.mem_cons, true_or, or_true])
  exact PySem.W.mg_of X G (He.eqO_ok (He.ba (He.ba e).2).2)
theorem cst_of (X : K.In h) (G : h.Ns mainGlobals mg) (c : He.SaysD fa fn K) : Cst mg := by
  have it : ∀ {x : Str} {i : Int}, He.Fa.int x i ∈ faA → IsK mg x i := fun hx => He.int_ok X G (c.facts (mem_A hx))
  refine ⟨it ?_, it ?_, it ?_, it ?_, it ?_, it ?_, it ?_, it ?_⟩
  iterate 8 (simp only [faA, List.mem_cons, true_or, or_true])
theorem hasL_of (X : K.In h) (G : h.Ns mainGlobals mg) (c : He.SaysD fa fn K) : HasL K mg (He.ga K "Lags") := by
  refine ⟨He.glo_ok X G (c.facts (f := He.Fa.glo "Lags") (mem_glo (d := dIn "behind" "Lags.behind" 1) ?_)), He.cls_ok (c.facts (f := .cls "Lags") (mem_A ?_)), He.noat_ok (c.facts (f := .noat "Lags" "circle") (mem_A ?_)), He.noat_ok (c.facts (f := .noat "Lags" "begin") (mem_A ?_)), He.noat_ok (c.facts (f := .noat "Lags" "lags") (mem_A ?_))⟩
  · exact List.mem_append_right _ (List.mem_append_left _ (by simp only [fnB, List.mem_cons, true_or, or_true]))
  iterate 4 (simp only [faA, List.mem_cons, true_or, or_true])
theorem frc_of (X : K.In h) (G : h.Ns mainGlobals mg) (c : He.SaysD fa fn K) {x : Str} {i : Int} (hf : He.Fa.glo x ∈ faA) (e : He.tupB K x [.int i, .int 1] = true) : FrC K mg x (i : Rat) := by
  refine ⟨.ref (He.ga K x), _, He.glo_ok X G (c.facts (mem_A hf)), rfl, fun H => ?_⟩
  rw [fr_int]
  exact .tup (He.tupB_ok e H) (.cons (.int i) (.cons (.int 1) .nil))
theorem hasC_of (X : K.In h) (G : h.Ns mainGlobals mg) (c : He.SaysD fa fn K) (hd : dOf "lots" 22 ∈ fn) (tb : LamX.TabB base mg (He.cT K ("lots", none)).1 (He.cT K ("lots", none)).2) : HasC K mg base "lots" (top 22) (He.cT K ("lots", none)).1 (He.cT K ("lots", none)).2 := by
  obtain ⟨fd, F⟩ := c.defs hd
  refine ⟨?_, tb⟩
  obtain ⟨oc, od, dV, kV, doc, pm, an, cdv, ct, osl, rfl, lk, hcd, hD, hK⟩ := F.ex
  have eD : dV = .none := by
    rcases hD with ⟨_, e⟩ | ⟨e, _⟩
    · exact e
    · exact absurd rfl e
  obtain ⟨cc, ec⟩ := He.codeIn_ref hcd
  subst ec
  subst eD
  have e1 : (He.cT K ("lots", none)).1 = cc := He.codeOf_eq lk rfl
  refine ⟨_, oc, od, kV, doc, pm, an, ct, osl, He.glo_ok X G (c.facts (mem_glo hd)), F.kp, ?_, ?_⟩
  · rw [e1]
    exact lk
  · rw [e1]
    exact hcd
theorem inA {d : He.DefD} (h : d ∈ fnA) : d ∈ fn := List.mem_append_left _ h
theorem inB {d : He.DefD} (h : d ∈ fnB) : d ∈ fn := List.mem_append_right _ (List.mem_append_left _ h)
theorem inC {d : He.DefD} (h : d ∈ fnC) : d ∈ fn := List.mem_append_right _ (List.mem_append_right _ h)
theorem has_d (X : K.In h) (G : h.Ns mainGlobals mg) (c : He.SaysD fa fn K) {x : Str} {i : Nat} (hd : dOf x i ∈ fn) : Has K mg x (top i) := has_of X G c hd (mem_glo (d := dOf x i) hd)
theorem law_ok {P : Program} {w : World} (X : K.In h) (G : h.Ns mainGlobals mg) (c : He.SaysD fa fn K) (e : exB K = true) {fd : FuncData} (FL : FnP K "law" (top 75) (He.ga K "law") fd)
    (tb : LamX.TabB base mg (He.cT K ("lots", none)).1 (He.cT K ("lots", none)).2) : FnOk P w K mg base CX0 13 (He.ga K "law") fd ["_law_script"] (spLaw K (He.cT K ("lots", none)).2) := by
  have F_is_integer : Has K mg "is_integer" (top 8) := has_d X G c (inA (by simp only [fnA, List.mem_cons, true_or, or_true]))
  have F_is_between : Has K mg "is_between" (top 9) := has_d X G c (inA (by simp only [fnA, List.mem_cons, true_or, or_true]))
  have F_is_index : Has K mg "is_index" (top 10) := has_d X G c (inA (by simp only [fnA, List.mem_cons, true_or, or_true]))
  have F_is_tuple_of : Has K mg "is_tuple_of" (top 11) := has_d X G c (inA (by simp only [fnA, List.mem_cons, true_or, or_true]))
  have F_check_number : Has K mg "check_number" (top 12) := has_d X G c (inA (by simp only [fnA, List.mem_cons, true_or, or_true]))
  have F_fraction : Has K mg "fraction" (top 16) := has_d X G c (inA (by simp only [fnA, List.mem_cons, true_or, or_true]))
  have F_is_less : Has K mg "is_less" (top 17) := has_d X G c (inA (by simp only [fnA, List.mem_cons, true_or, or_true]))
  have F_plus : Has K mg "plus" (top 18) := has_d X G c (inA (by simp only [fnA, List.mem_cons, true_or, or_true]))
  have F_minus : Has K mg "minus" (top 19) := has_d X G c (inA (by simp only [fnA, List.mem_cons, true_or, or_true]))
  have F_times : Has K mg "times" (top 20) := has_d X G c (inA (by simp only [fnA, List.mem_cons, true_or, or_true]))
  have F_total : Has K mg "total" (top 23) := has_d X G c (inA (by simp only [fnA, List.mem_cons, true_or, or_true]))
  have F_mean : Has K mg "mean" (top 24) := has_d X G c (inA (by simp only [fnA, List.mem_cons, true_or, or_true]))
  have F_even_worth : Has K mg "even_worth" (top 25) := has_d X G c (inA (by simp only [fnA, List.mem_cons, true_or, or_true]))
  have F_raw_even_lot : Has K mg "raw_even_lot" (top 26) := has_d X G c (inA (by simp only [fnA, List.mem_cons, true_or, or_true]))
  have F_raw_level : Has K mg "raw_level" (top 27) := has_d X G c (inA (by simp only [fnA, List.mem_cons, true_or, or_true]))
  have F_raw_filled : Has K mg "raw_filled" (top 28) := has_d X G c (inA (by simp only [fnA, List.mem_cons, true_or, or_true]))
  have F_is_size : Has K mg "is_size" (top 34) := has_d X G c (inB (by simp only [fnB, List.mem_cons, true_or, or_true]))
  have F_raw_is_row : Has K mg "raw_is_row" (top 35) := has_d X G c (inB (by simp only [fnB, List.mem_cons, true_or, or_true]))
  have F_check_row : Has K mg "check_row" (top 36) := has_d X G c (inB (by simp only [fnB, List.mem_cons, true_or, or_true]))
  have F_is_rule : Has K mg "is_rule" (top 42) := has_d X G c (inB (by simp only [fnB, List.mem_cons, true_or, or_true]))
  have F_is_adviser : Has K mg "is_adviser" (top 43) := has_d X G c (inB (by simp only [fnB, List.mem_cons, true_or, or_true]))
  have F_is_circle : Has K mg "is_circle" (top 44) := has_d X G c (inB (by simp only [fnB, List.mem_cons, true_or, or_true]))
  have F_check_circle : Has K mg "check_circle" (top 45) := has_d X G c (inB (by simp only [fnB, List.mem_cons, true_or, or_true]))
  have F_raw_misses : Has K mg "raw_misses" (top 46) := has_d X G c (inB (by simp only [fnB, List.mem_cons, true_or, or_true]))
  have F_adviser_misses : Has K mg "adviser_misses" (top 47) := has_d X G c (inB (by simp only [fnB, List.mem_cons, true_or, or_true]))
  have F_stepped : Has K mg "stepped" (top 48) := has_d X G c (inB (by simp only [fnB, List.mem_cons, true_or, or_true]))
  have F_lags_of : Has K mg "lags_of" (top 50) := has_d X G c (inB (by simp only [fnB, List.mem_cons, true_or, or_true]))
  have F_lag : Has K mg "lag" (top 51) := has_d X G c (inB (by simp only [fnB, List.mem_cons, true_or, or_true]))
  have F_followed : Has K mg "followed" (top 52) := has_d X G c (inB (by simp only [fnB, List.mem_cons, true_or, or_true]))
  have F__law_pot : Has K mg "_law_pot" (top 54) := has_d X G c (inC (by simp only [fnC, List.mem_cons, true_or, or_true]))
  have F__law_draw : Has K mg "_law_draw" (top 55) := has_d X G c (inC (by simp only [fnC, List.mem_cons, true_or, or_true]))
  have F__law_any : Has K mg "_law_any" (top 56) := has_d X G c (inC (by simp only [fnC, List.mem_cons, true_or, or_true]))
  have F__law_is : Has K mg "_law_is" (top 58) := has_d X G c (inC (by simp only [fnC, List.mem_cons, true_or, or_true]))
  have F__law_gcd : Has K mg "_law_gcd" (top 59) := has_d X G c (inC (by simp only [fnC, List.mem_cons, true_or, or_true]))
  have F__law_fraction : Has K mg "_law_fraction" (top 60) := has_d X G c (inC (by simp only [fnC, List.mem_cons, true_or, or_true]))
  have F__law_plus : Has K mg "_law_plus" (top 61) := has_d X G c (inC (by simp only [fnC, List.mem_cons, true_or, or_true]))
  have F__law_minus : Has K mg "_law_minus" (top 62) := has_d X G c (inC (by simp only [fnC, List.mem_cons, true_or, or_true]))
  have F__law_less : Has K mg "_law_less" (top 63) := has_d X G c (inC (by simp only [fnC, List.mem_cons, true_or, or_true]))
  have F__law_adviser : Has K mg "_law_adviser" (top 65) := has_d X G c (inC (by simp only [fnC, List.mem_cons, true_or, or_true]))
  have F__law_circle : Has K mg "_law_circle" (top 66) := has_d X G c (inC (by simp only [fnC, List.mem_cons, true_or, or_true]))
  have F__law_missed : Has K mg "_law_missed" (top 67) := has_d X G c (inC (by simp only [fnC, List.mem_cons, true_or, or_true]))
  have F__law_rows : Has K mg "_law_rows" (top 68) := has_d X G c (inC (by simp only [fnC, List.mem_cons, true_or, or_true]))
  have F__law_are_chances : Has K mg "_law_are_chances" (top 71) := has_d X G c (inC (by simp only [fnC, List.mem_cons, true_or, or_true]))
  have F__law_all_right : Has K mg "_law_all_right" (top 72) := has_d X G c (inC (by simp only [fnC, List.mem_cons, true_or, or_true]))
  have F__law_behind : Has K mg "_law_behind" (top 73) := has_d X G c (inC (by simp only [fnC, List.mem_cons, true_or, or_true]))
  have F__law_row_right : Has K mg "_law_row_right" (top 74) := has_d X G c (inC (by simp only [fnC, List.mem_cons, true_or, or_true]))
  have B := blt_of X G c e
  have U := cst_of X G c
  have L := hasL_of X G c
  have N0 : FrC K mg "NOUGHT" 0 := frc_of (i := 0) X G c (by simp only [faA, List.mem_cons, true_or, or_true]) (He.ba e).1
  have N1 : FrC K mg "ONE" 1 := frc_of (i := 1) X G c (by simp only [faA, List.mem_cons, true_or, or_true]) (He.ba (He.ba e).2).1
  have HL := hasC_of X G c (inA (by simp only [fnA, List.mem_cons, true_or, or_true])) tb
  have M_behind : HasM K (He.ga K "Lags") "behind" "Lags.behind" (inL 1) := hasM_of c (inB (by simp only [fnB, List.mem_cons, true_or, or_true])) (mem_A (by simp only [faA, List.mem_cons, true_or, or_true]))
  have M_worths : HasM K (He.ga K "Lags") "worths" "Lags.worths" (inL 2) := hasM_of c (inB (by simp only [fnB, List.mem_cons, true_or, or_true])) (mem_A (by simp only [faA, List.mem_cons, true_or, or_true]))
  have M_init : HasI K (He.ga K "Lags") "Lags.__init__" (inL 0) := hasI_of c (inB (by simp only [fnB, List.mem_cons, true_or, or_true])) (mem_A (by simp only [faA, List.mem_cons, true_or, or_true]))
  generalize (He.cT K ("lots", none)).2 = T at *
  have c_is_integer := Kt.c_is_integer (P := P) (w := w) (base := base) F_is_integer B
  have c_is_between := Kt.c_is_between (P := P) (w := w) (base := base) F_is_between c_is_integer
  have c_is_index := Kt.c_is_index (P := P) (w := w) (base := base) F_is_index c_is_between
  have c_is_tuple_of := Kt.c_is_tuple_of (P := P) (w := w) (base := base) F_is_tuple_of B
  have c_check_number := Kt.c_check_number (P := P) (w := w) (base := base) F_check_number c_is_between
  have c_fraction := Kt.c_fraction (P := P) (w := w) (base := base) F_fraction B
  have c_is_less := Kt.c_is_less (P := P) (w := w) (base := base) F_is_less
  have c_plus := Kt.c_plus (P := P) (w := w) (base := base) F_plus c_fraction
  have c_minus := Kt.c_minus (P := P) (w := w) (base := base) F_minus c_fraction
  have c_times := Kt.c_times (P := P) (w := w) (base := base) F_times c_fraction
  have c_lots := Kt.c_lots (P := P) (w := w) (base := base) HL B
  have c_total := Kt.c_total (P := P) (w := w) (base := base) F_total N0 c_plus
  have c_mean := Kt.c_mean (P := P) (w := w) (base := base) F_mean B c_times c_total
  have c_even_worth := Kt.c_even_worth (P := P) (w := w) (base := base) F_even_worth B c_plus c_mean c_fraction
  have c_raw_even_lot := Kt.c_raw_even_lot (P := P) (w := w) (base := base) (T := T) F_raw_even_lot B c_lots c_even_worth c_is_less
  have c_raw_level := Kt.c_raw_level (P := P) (w := w) (base := base) (T := T) F_raw_level c_raw_even_lot c_even_worth
  have c_raw_filled := Kt.c_raw_filled (P := P) (w := w) (base := base) (T := T) F_raw_filled B N0 N1 c_raw_level c_plus c_minus c_is_less
  have c_is_size := Kt.c_is_size (P := P) (w := w) (base := base) F_is_size U c_is_between
  have c_raw_is_row := Kt.c_raw_is_row (P := P) (w := w) (base := base) F_raw_is_row B U c_is_index
  have c_check_row := Kt.c_check_row (P := P) (w := w) (base := base) F_check_row c_raw_is_row
  have c_is_rule := Kt.c_is_rule (P := P) (w := w) (base := base) F_is_rule B c_is_index c_is_tuple_of
  have c_is_adviser := Kt.c_is_adviser (P := P) (w := w) (base := base) F_is_adviser B U c_is_tuple_of c_is_size c_is_rule
  have c_is_circle := Kt.c_is_circle (P := P) (w := w) (base := base) F_is_circle B U c_is_adviser
  have c_check_circle := Kt.c_check_circle (P := P) (w := w) (base := base) F_check_circle c_is_circle
  have c_raw_misses := Kt.c_raw_misses (P := P) (w := w) (base := base) F_raw_misses U
  have c_adviser_misses := Kt.c_adviser_misses (P := P) (w := w) (base := base) F_adviser_misses B U c_check_circle c_check_row c_raw_misses
  have c_stepped := Kt.c_stepped (P := P) (w := w) (base := base) F_stepped B U
  have c_behind := Kt.c_behind (P := P) (w := w) (base := base) M_behind L B U c_stepped
  have c_worths := Kt.c_worths (P := P) (w := w) (base := base) M_worths L B U c_stepped c_minus
  have c_init := Kt.c_init (P := P) (w := w) (base := base) (T := T) M_init L B U N0 c_behind c_worths c_raw_level
  have c_lags_of := Kt.c_lags_of (P := P) (w := w) (base := base) (T := T) F_lags_of U L c_check_circle c_check_number c_init
  have c_lag := Kt.c_lag (P := P) (w := w) (base := base) (T := T) F_lag L c_lags_of
  have c_followed := Kt.c_followed (P := P) (w := w) (base := base) (T := T) F_followed B U L c_check_circle c_check_number c_raw_is_row c_stepped c_raw_filled c_worths c_init
  have c_law_pot := Kt.c_law_pot (P := P) (w := w) (base := base) (T := T) F__law_pot B
  have c_law_draw := Kt.c_law_draw (P := P) (w := w) (base := base) (T := T) F__law_draw B
  have c_law_any := Kt.c_law_any (P := P) (w := w) (base := base) (T := T) F__law_any B c_law_draw
  have c_law_is := Kt.c_law_is (P := P) (w := w) (base := base) F__law_is B 2
  have c_law_gcd := Kt.c_law_gcd (P := P) (w := w) (base := base) F__law_gcd B
  have c_law_fraction := Kt.c_law_fraction (P := P) (w := w) (base := base) F__law_fraction c_law_gcd
  have c_law_plus := Kt.c_law_plus (P := P) (w := w) (base := base) F__law_plus c_law_fraction
  have c_law_minus := Kt.c_law_minus (P := P) (w := w) (base := base) F__law_minus c_law_fraction
  have c_law_less := Kt.c_law_less (P := P) (w := w) (base := base) F__law_less
  have c_law_adviser := Kt.c_law_adviser (P := P) (w := w) (base := base) (T := T) F__law_adviser B c_law_draw
  have c_law_circle := Kt.c_law_circle (P := P) (w := w) (base := base) (T := T) F__law_circle B c_law_draw c_law_any c_law_adviser
  have c_law_missed := Kt.c_law_missed (P := P) (w := w) (base := base) F__law_missed B
  have c_law_rows := Kt.c_law_rows (P := P) (w := w) (base := base) F__law_rows B
  have c_law_are_chances := Kt.c_law_are_chances (P := P) (w := w) (base := base) F__law_are_chances B c_law_gcd c_law_plus
  have c_law_behind := Kt.c_law_behind (P := P) (w := w) (base := base) F__law_behind B c_law_missed c_law_plus c_law_minus
  have c_law_all_right := Kt.c_law_all_right (P := P) (w := w) (base := base) (T := T) F__law_all_right B c_lag c_followed c_law_rows c_law_are_chances c_law_behind c_law_less
  have c_law_row_right := Kt.c_law_row_right (P := P) (w := w) (base := base) (T := T) F__law_row_right B c_law_draw c_lag c_followed c_law_are_chances c_law_behind c_law_less c_law_is c_adviser_misses c_law_missed
  exact Kt.c_law FL B c_law_pot c_law_draw c_law_any c_law_circle c_law_all_right c_law_row_right c_followed c_law_is
end
theorem law_at {w : World} {K : PySem.W.Frag} {h : Heap} {mg : Str → Option Value} {a : Addr} (X : K.In h) (G : h.Ns mainGlobals mg) (hfa : mg ("law" : Str) = some (.ref a)) (c : He.SaysX fa fn [] tfs exB w h K) :
    LamX.LawAtS PySem.Challenge.rw_keptmisses_k41_whole_advisers_followed w K CX0 13 63 "_law_script" mg a h := by
  have cd : He.SaysD fa fn K := c.t.d
  have hd : dOf "law" 75 ∈ fn := inC (by simp only [fnC, List.mem_cons, true_or, or_true])
  obtain ⟨fd, F⟩ := cd.defs hd
  have e := hfa.symm.trans (He.glo_ok X G (cd.facts (mem_glo hd)))
  cases e
  have b := FunD.bindsA (ps := ["_law_script"]) F fun _ _ _ _ _ _ us hl => match us, hl with | [_], _ => rfl
  refine ⟨fd, [He.cT K ("lots", none)], spLaw K (He.cT K ("lots", none)).2, fun p hp => ?_, fun p hp => ?_, fun p hp => ?_, fun s u => b s [u] rfl, ?_, ?_⟩
  · rw [List.mem_singleton.mp hp]
    exact c.empty _ (List.mem_singleton.mpr rfl)
  · rw [List.mem_singleton.mp hp]
    exact c.out _ (List.mem_singleton.mpr rfl)
  · rw [List.mem_singleton.mp hp]
    exact PySem.W.codeHd_of_K X (c.hd _ (List.mem_singleton.mpr rfl))
  · intro H b ns hns _ ht hs
    have hT := ht _ (List.mem_singleton.mpr rfl)
    have ok : (Mov.tab (He.cT K ("lots", none)).2 lamQ).ok H := ⟨⟨#[], hT, by exact trivial, fun pos cv z => by cases z⟩, trivial⟩
    refine ⟨b, ns, rfl, ok, fun H' g => ?_, hns, fun _ _ => rfl⟩
    rcases hs with (hs | ⟨o, hs⟩) | hs
    · exact .inl (.inl (g.keep _ _ hs (tab_na ok hs (by intro _ z; cases z))))
    · exact .inl (.inr ⟨o, g.at_frz hs⟩)
    · exact .inr hs
  · intro base Kb Gb htb
    exact law_ok Kb Gb cd c.more F (htb _ (List.mem_singleton.mpr rfl))
end Kt
end
set_option maxHeartbeats 4000000
open PySem PySem.W PySem.Calls PyProof.Rows
theorem PySem.Challenge.cw_keptmisses_k41_whole_advisers_followed_holds : PySem.Challenge.rw_keptmisses_k41_whole_advisers_followed.Holds := by
  w_on; o_law
  refine HandSHeadRun.head_imp (r := Kt.rowO) (q := Kt.qO) (H := Kt.hkO) (ob := Kt.obO) (M := 20000) (loose := Kt.looseO) (d := HandSHeadRun.topDef Kt.rowO.prog 75) (kwd := []) Kt.obO_eq
    Kt.runO (by kernel_rfl) (by kernel_rfl) (by kernel_rfl) (by rfl) (by first | assumption | decide +kernel) (by decide +kernel) ⟨rfl, rfl, rfl, rfl, rfl, by decide +kernel⟩ ?hw ?hc
  case hw => w_witness2
  case hc =>
    refine LamX.walk_ofTsE (l := PySem.Challenge.rw_keptmisses_k41_whole_advisers_followed) (n := 63) (k := 13) (x := "_law_script") (CX := fun _ => L2.CX0) rfl (by decide) (by kernel_rfl) ⟨rfl, by decide, by decide⟩ ?F (fun _ _ _ _ _ z => z)
    intro w mg fa h Y G hmg0
    obtain ⟨K, KX, c⟩ := Y
    have hmg : mg ("law" : PySem.Str) = some (.ref fa) := by
      have e : (HandSHeadRun.topDef Kt.rowO.prog 75).name = ("law" : PySem.Str) := by kernel_rfl
      rw [← e]
      exact hmg0
    exact ⟨K, KX, Kt.law_at KX G hmg c⟩
