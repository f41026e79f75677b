import PyProof.Rows.All
import Wide.All
import OpenK.AllK
import Wide.FinOn
import KE.KStateDown
import Lean
import HandS.ForMost
import HandS.Defaults
import HandS.Lambda
import HandS.HeadHook4
import PySem.Challenge.RW_rateplan_k32_whole_speeds_of_runs
import KE.KTupSum
import KE.KUnpackStar
import KE.DataMinMax
import HandS.SortKw
import HandS.IsInst
import HandS.TupAny
import HandS.Walk
import HandS.Zip
import HandS.Flow
import HandS.Style
import HandS.MakeKw
import HandS.MakeKwOnly
import Flt.Len
import KE.GoesEnum
import HandS.Zip0
import KE.KDictZip
import HandS.NestedK
import HandS.More
import KE.KExcIs
import HandS.NoneIn
import KE.KEqSeq
import HandS.Head0
import HandS.Head1
import HandS.Head2
import HandS.HeadEnd
import HandS.HeadWalk
import KE.IntBitsLaws
set_option Elab.async false
set_option linter.all false
set_option maxRecDepth 100000
/- RpMath -/
set_option maxHeartbeats 4000000
/-! RpMath: the plain laws: a road's bits, a fetch's end, speeds in order. No program in sight. -/
namespace Rp
/-! ### a road, beat by beat -/
abbrev Pc := Int × Int
/-- the speed so many beats on, d behind the last piece -/
def spAt (d : Int) : List Pc → Int → Int
  | [], _ => d
  | p :: r, left => if left < p.1 then p.2 else spAt d r (left - p.1)
/-- the sum over n beats from x on -/
def bits (f : Int → Int) (x : Int) : Nat → Int
  | 0 => 0
  | n + 1 => bits f x n + f (x + (n : Int))
theorem bits_congr {f g : Int → Int} {x : Int} : ∀ {n : Nat}, (∀ i : Nat, i < n → f (x + (i : Int)) = g (x + (i : Int))) → bits f x n = bits g x n
  | 0, _ => rfl
  | n + 1, h => by
    have ih : bits f x n = bits g x n := bits_congr fun i hi => h i (Nat.lt_succ_of_lt hi)
    show bits f x n + f (x + (n : Int)) = bits g x n + g (x + (n : Int))
    rw [ih, h n (Nat.lt_succ_self n)]
theorem bits_add (f : Int → Int) (x : Int) (m : Nat) : ∀ n : Nat, bits f x (m + n) = bits f x m + bits f (x + (m : Int)) n
  | 0 => by simp [bits]
  | n + 1 => by
    have ih := bits_add f x m n
    show bits f x (m + n) + f (x + ((m + n : Nat) : Int)) = bits f x m + (bits f (x + (m : Int)) n + f (x + (m : Int) + (n : Int)))
    rw [ih]
    have e : x + ((m + n : Nat) : Int) = x + (m : Int) + (n : Int) := by omega
    rw [e]
    omega
theorem bits_const {f : Int → Int} {x s : Int} : ∀ {n : Nat}, (∀ i : Nat, i < n → f (x + (i : Int)) = s) → bits f x n = s * (n : Int)
  | 0, _ => by simp [bits]
  | n + 1, h => by
    have ih : bits f x n = s * (n : Int) := bits_const fun i hi => h i (Nat.lt_succ_of_lt hi)
    show bits f x n + f (x + (n : Int)) = s * ((n + 1 : Nat) : Int)
    rw [ih, h n (Nat.lt_succ_self n)]
    have e : ((n + 1 : Nat) : Int) = (n : Int) + 1 := by omega
    rw [e, Int.mul_add, Int.mul_one]
theorem bits_nn {f : Int → Int} (h : ∀ t, 0 ≤ f t) (x : Int) : ∀ n : Nat, 0 ≤ bits f x n
  | 0 => Int.le_refl 0
  | n + 1 => Int.add_nonneg (bits_nn h x n) (h _)
theorem bits_mono {f : Int → Int} (h : ∀ t, 0 ≤ f t) (x : Int) {m n : Nat} (hm : m ≤ n) : bits f x m ≤ bits f x n := by
  obtain ⟨k, rfl⟩ := Nat.exists_eq_add_of_le hm
  rw [bits_add]
  have := bits_nn h (x + (m : Int)) k
  omega
theorem spAt_nn {d : Int} (hd : 0 ≤ d) : ∀ {ps : List Pc} (left : Int), (∀ p ∈ ps, 0 ≤ p.2) → 0 ≤ spAt d ps left
  | [], _, _ => hd
  | p :: r, left, h => by
    show 0 ≤ (if left < p.1 then p.2 else spAt d r (left - p.1))
    split
    · exact h p List.mem_cons_self
    · exact spAt_nn hd _ fun q hq => h q (List.mem_cons_of_mem _ hq)
/-- behind all pieces -/
theorem spAt_far {d : Int} : ∀ {ps : List Pc} {left : Int}, (ps.map (·.1)).sum ≤ left → (∀ p ∈ ps, 1 ≤ p.1) → spAt d ps left = d
  | [], _, _, _ => rfl
  | p :: r, left, h, hp => by
    have h1 : p.1 + (r.map (·.1)).sum ≤ left := by simpa using h
    have nn : ∀ l : List Pc, (∀ p ∈ l, 1 ≤ p.1) → 0 ≤ (l.map (·.1)).sum := by
      intro l
      induction l with
      | nil => intro _; simp
      | cons a l ih =>
        intro hl
        have := ih fun q hq => hl q (List.mem_cons_of_mem _ hq)
        have := hl a List.mem_cons_self
        simp only [List.map_cons, List.sum_cons]
        omega
    have n1 := nn r fun q hq => hp q (List.mem_cons_of_mem _ hq)
    show (if left < p.1 then p.2 else spAt d r (left - p.1)) = d
    rw [if_neg (by omega)]
    exact spAt_far (by omega) fun q hq => hp q (List.mem_cons_of_mem _ hq)
/-- the last piece's own beats do not matter: its speed is for ever -/
theorem spAt_last {d b : Int} : ∀ {ps : List Pc} (left : Int), spAt d (ps ++ [(b, d)]) left = spAt d ps left
  | [], left => by
    show (if left < b then d else d) = d
    split <;> rfl
  | p :: r, left => by
    show (if left < p.1 then p.2 else spAt d (r ++ [(b, d)]) (left - p.1)) = (if left < p.1 then p.2 else spAt d r (left - p.1))
    rw [spAt_last]
/-! ### sum_of -/
/-- what sum_of adds up, from a piece's begin on -/
def sumS (d first last : Int) : List Pc → Int → Int
  | [], at_ => d * max 0 (last - max first at_)
  | p :: r, at_ => p.2 * max 0 (min last (at_ + p.1) - max first at_) + sumS d first last r (at_ + p.1)
theorem sumS_bits {d first last : Int} : ∀ {ps : List Pc} {at_ : Int}, (∀ p ∈ ps, 1 ≤ p.1) → sumS d first last ps at_ = bits (fun t => spAt d ps (t - at_)) (max first at_) (last - max first at_).toNat
  | [], at_, _ => by
    rw [bits_const (s := d) fun i _ => rfl]
    show d * max 0 (last - max first at_) = d * (((last - max first at_).toNat : Nat) : Int)
    congr 1
    omega
  | p :: r, at_, h => by
    have h1 := h p List.mem_cons_self
    have ih : sumS d first last r (at_ + p.1) = _ := sumS_bits (ps := r) (at_ := at_ + p.1) fun q hq => h q (List.mem_cons_of_mem _ hq)
    show p.2 * max 0 (min last (at_ + p.1) - max first at_) + sumS d first last r (at_ + p.1) = _
    rw [ih]
    have hi : ∀ t : Int, t < at_ + p.1 → spAt d (p :: r) (t - at_) = p.2 := fun t ht => by
      show (if t - at_ < p.1 then p.2 else _) = _
      rw [if_pos (by omega)]
    have lo : ∀ t : Int, at_ + p.1 ≤ t → spAt d (p :: r) (t - at_) = spAt d r (t - (at_ + p.1)) := fun t ht => by
      show (if t - at_ < p.1 then p.2 else spAt d r (t - at_ - p.1)) = _
      rw [if_neg (by omega)]
      congr 1
      omega
    -- the whole stretch of beats splits where the piece ends
    have key : ∀ (m n : Nat) (x y : Int), (∀ i : Nat, i < m → x + (i : Int) < at_ + p.1) → (0 < n → y = x + (m : Int) ∧ at_ + p.1 ≤ y) → bits (fun t => spAt d (p :: r) (t - at_)) x (m + n) = p.2 * (m : Int) + bits (fun t => spAt d r (t - (at_ + p.1))) y n := by
      intro m n x y hm hn
      rw [bits_add, bits_const (s := p.2) fun i hi2 => hi _ (hm i hi2)]
      congr 1
      by_cases n0 : 0 < n
      · obtain ⟨e1, e2⟩ := hn n0
        rw [← e1]
        exact bits_congr fun i _ => lo _ (by omega)
      · have : n = 0 := by omega
        subst this
        rfl
    have e1 : (last - max first at_).toNat = (min last (at_ + p.1) - max first at_).toNat + (last - max first (at_ + p.1)).toNat := by omega
    rw [e1, key _ _ (max first at_) (max first (at_ + p.1)) (fun i hi2 => by omega) (fun n0 => ⟨by omega, by omega⟩)]
    congr 2
    omega
/-- sum_of as the program has it: the sum so far, the piece's begin -/
def sumGo (first last : Int) : List Pc → Int × Int → Int × Int
  | [], a => a
  | p :: r, a => sumGo first last r (a.1 + p.2 * max 0 (min last (a.2 + p.1) - max first a.2), a.2 + p.1)
theorem sumGo_S {d first last : Int} : ∀ {ps : List Pc} {a : Int × Int}, (sumGo first last ps a).1 + d * max 0 (last - max first (sumGo first last ps a).2) = a.1 + sumS d first last ps a.2
  | [], _ => rfl
  | p :: r, a => by
    have ih := sumGo_S (d := d) (first := first) (last := last) (ps := r) (a := (a.1 + p.2 * max 0 (min last (a.2 + p.1) - max first a.2), a.2 + p.1))
    show (sumGo first last r _).1 + d * max 0 (last - max first (sumGo first last r _).2) = a.1 + (p.2 * max 0 (min last (a.2 + p.1) - max first a.2) + sumS d first last r (a.2 + p.1))
    rw [ih]
    show a.1 + p.2 * max 0 (min last (a.2 + p.1) - max first a.2) + sumS d first last r (a.2 + p.1) = _
    omega
theorem sum_bits {d first last : Int} {ps : List Pc} (h : ∀ p ∈ ps, 1 ≤ p.1) (h0 : 0 ≤ first) : (sumGo first last ps (0, 0)).1 + d * max 0 (last - max first (sumGo first last ps (0, 0)).2) = bits (spAt d ps) first (last - first).toNat := by
  rw [sumGo_S, sumS_bits h]
  show 0 + bits (fun t => spAt d ps (t - 0)) (max first 0) (last - max first 0).toNat = _
  have e : max first 0 = first := by omega
  rw [e, Int.zero_add]
  exact bits_congr fun i _ => by rw [Int.sub_zero]
/-! ### fetched -/
/-- fetched as the program has it, the last piece (of speed d) left out -/
def fetchGo (d : Int) : List Pc → Int → Int → Int → Int
  | [], here, left, _ => here - (-left).fdiv d
  | p :: r, here, left, at_ =>
    if here < at_ + p.1 ∧ p.2 * (at_ + p.1 - here) < left then fetchGo d r (at_ + p.1) (left - p.2 * (at_ + p.1 - here)) (at_ + p.1)
    else if here < at_ + p.1 then here - (-left).fdiv p.2 else fetchGo d r here left (at_ + p.1)
theorem ceil_eq {s left : Int} {n : Nat} (h1 : s * (n : Int) < left) (h2 : left ≤ s * ((n : Int) + 1)) (h0 : 0 < left) (hs : 0 ≤ s) : (-left).fdiv s = -((n : Int) + 1) := by
  have hs1 : 0 < s := by
    rcases Int.lt_or_eq_of_le hs with z | z
    · exact z
    · rw [← z] at h2
      simp at h2
      omega
  rw [Int.fdiv_eq_ediv_of_nonneg _ hs]
  have e : s * ((n : Int) + 1) = s * (n : Int) + s := by rw [Int.mul_add, Int.mul_one]
  refine (Int.ediv_eq_iff_of_pos hs1).mpr ⟨?_, ?_⟩
  · have q : -((n : Int) + 1) * s = -(s * (n : Int) + s) := by rw [Int.neg_mul, Int.mul_comm, e]
    rw [q]
    omega
  · have q : (-((n : Int) + 1) + 1) * s = -(s * (n : Int)) := by
      have : -((n : Int) + 1) + 1 = -(n : Int) := by omega
      rw [this, Int.neg_mul, Int.mul_comm]
    first
      | (rw [q]; omega)
      | (have q2 : -((n : Int) + 1) * s = -(s * (n : Int) + s) := by rw [Int.neg_mul, Int.mul_comm, e]
         rw [q2]; omega)
/-- the road's own fetch: it ends where the bits are whole, and no sooner -/
theorem fetch_ok {d : Int} : ∀ {ps : List Pc} {here left at_ : Int} {n : Nat}, (∀ p ∈ ps, 1 ≤ p.1 ∧ 0 ≤ p.2) → 0 ≤ d → at_ ≤ here → 0 < left →
    bits (fun t => spAt d ps (t - at_)) here n < left → left ≤ bits (fun t => spAt d ps (t - at_)) here (n + 1) → fetchGo d ps here left at_ = here + (n : Int) + 1
  | [], here, left, at_, n, _, hd, _, hl, h1, h2 => by
    rw [bits_const (s := d) fun i _ => rfl] at h1
    rw [bits_const (s := d) fun i _ => rfl] at h2
    have e : ((n + 1 : Nat) : Int) = (n : Int) + 1 := by omega
    rw [e] at h2
    show here - (-left).fdiv d = _
    rw [ceil_eq h1 h2 hl hd]
    omega
  | p :: r, here, left, at_, n, h, hd, ha, hl, h1, h2 => by
    obtain ⟨hb, hs⟩ := h p List.mem_cons_self
    have hr : ∀ q ∈ r, 1 ≤ q.1 ∧ 0 ≤ q.2 := fun q hq => h q (List.mem_cons_of_mem _ hq)
    have hi : ∀ t : Int, t < at_ + p.1 → spAt d (p :: r) (t - at_) = p.2 := fun t ht => by
      show (if t - at_ < p.1 then p.2 else _) = _
      rw [if_pos (by omega)]
    have lo : ∀ t : Int, at_ + p.1 ≤ t → spAt d (p :: r) (t - at_) = spAt d r (t - (at_ + p.1)) := fun t ht => by
      show (if t - at_ < p.1 then p.2 else spAt d r (t - at_ - p.1)) = _
      rw [if_neg (by omega)]
      congr 1
      omega
    have nn : ∀ t : Int, 0 ≤ (fun t => spAt d (p :: r) (t - at_)) t := fun t => spAt_nn hd _ fun q hq => (h q hq).2
    have sh : ∀ (x : Int) (m : Nat), at_ + p.1 ≤ x → bits (fun t => spAt d (p :: r) (t - at_)) x m = bits (fun t => spAt d r (t - (at_ + p.1))) x m := fun x m hx => bits_congr fun i _ => lo _ (by omega)
    show (if here < at_ + p.1 ∧ p.2 * (at_ + p.1 - here) < left then fetchGo d r (at_ + p.1) (left - p.2 * (at_ + p.1 - here)) (at_ + p.1)
      else if here < at_ + p.1 then here - (-left).fdiv p.2 else fetchGo d r here left (at_ + p.1)) = _
    by_cases hlt : here < at_ + p.1
    · obtain ⟨c, hc⟩ : ∃ c : Nat, at_ + p.1 - here = (c : Int) := ⟨(at_ + p.1 - here).toNat, by omega⟩
      have bc : ∀ m : Nat, m ≤ c → bits (fun t => spAt d (p :: r) (t - at_)) here m = p.2 * (m : Int) := fun m hm => bits_const fun i hi2 => hi _ (by omega)
      by_cases hw : p.2 * (at_ + p.1 - here) < left
      · rw [if_pos ⟨hlt, hw⟩]
        rw [hc] at hw ⊢
        have hnc : c ≤ n := by
          rcases Nat.lt_or_ge n c with z | z
          · have q := bits_mono nn here (show n + 1 ≤ c from z)
            rw [bc c (Nat.le_refl _)] at q
            omega
          · exact z
        obtain ⟨k, rfl⟩ := Nat.exists_eq_add_of_le hnc
        rw [bits_add, bc c (Nat.le_refl _)] at h1
        have e3 : c + k + 1 = c + (k + 1) := by omega
        rw [e3, bits_add, bc c (Nat.le_refl _)] at h2
        have ex : here + (c : Int) = at_ + p.1 := by omega
        rw [ex, sh _ _ (Int.le_refl _)] at h1
        rw [ex, sh _ _ (Int.le_refl _)] at h2
        rw [fetch_ok (n := k) hr hd (Int.le_refl _) (by omega) (by omega) (by omega)]
        omega
      · rw [if_neg (fun z => hw z.2), if_pos hlt]
        rw [hc] at hw
        have hnc : n < c := by
          rcases Nat.lt_or_ge n c with z | z
          · exact z
          · have q := bits_mono nn here z
            rw [bc c (Nat.le_refl _)] at q
            omega
        rw [bc n (by omega)] at h1
        rw [bc (n + 1) (by omega)] at h2
        have e : ((n + 1 : Nat) : Int) = (n : Int) + 1 := by omega
        rw [e] at h2
        rw [ceil_eq h1 h2 hl hs]
        omega
    · rw [if_neg (fun z => hlt z.1), if_neg hlt]
      have hge : at_ + p.1 ≤ here := by omega
      rw [sh _ _ hge] at h1 h2
      exact fetch_ok hr hd hge hl h1 h2
/-- by one speed for ever: in no more beats than len -/
theorem in_time {pace size len : Int} (hp : 0 < pace) : (0 - (-size).fdiv pace ≤ len) ↔ size ≤ pace * len := by
  rw [Int.fdiv_eq_ediv_of_nonneg _ (Int.le_of_lt hp)]
  have a : 0 - (-size) / pace ≤ len ↔ -len ≤ (-size) / pace := by omega
  rw [a, Int.le_ediv_iff_mul_le hp, Int.neg_mul, Int.mul_comm len pace]
  omega
/-! ### speeds -/
/-- no faster than -/
def le (x y : Int × Int) : Prop := x.1 * y.2 ≤ y.1 * x.2
instance (x y : Int × Int) : Decidable (le x y) := inferInstanceAs (Decidable (_ ≤ _))
theorem le_refl (x : Int × Int) : le x x := Int.le_refl _
theorem le_total {x y : Int × Int} (h : ¬ le x y) : le y x := by
  unfold le at h ⊢
  omega
theorem le_trans {x y z : Int × Int} (hx : 0 < x.2) (hy : 0 < y.2) (hz : 0 < z.2) (h1 : le x y) (h2 : le y z) : le x z := by
  unfold le at h1 h2 ⊢
  have a := Int.mul_le_mul_of_nonneg_right h1 (Int.le_of_lt hz)
  have b := Int.mul_le_mul_of_nonneg_right h2 (Int.le_of_lt hx)
  have e1 : y.1 * x.2 * z.2 = y.1 * z.2 * x.2 := by rw [Int.mul_assoc, Int.mul_comm x.2, ← Int.mul_assoc]
  rw [e1] at a
  have c := Int.le_trans a b
  have e2 : x.1 * y.2 * z.2 = y.2 * (x.1 * z.2) := by rw [Int.mul_comm x.1 y.2, Int.mul_assoc]
  have e3 : z.1 * y.2 * x.2 = y.2 * (z.1 * x.2) := by rw [Int.mul_comm z.1 y.2, Int.mul_assoc]
  rw [e2, e3] at c
  exact Int.le_of_mul_le_mul_left c hy
section
variable {α : Type} (f : α → Int × Int)
/-- rising -/
abbrev Rises (l : List α) : Prop := l.Pairwise fun x y => le (f x) (f y)
/-- how many are no faster than x -/
def ahead (x : α) (l : List α) : Nat := (l.filter fun t => decide (le (f t) (f x))).length
variable {f}
theorem ahead_le (x : α) (l : List α) : ahead f x l ≤ l.length := List.length_filter_le _ _
/-- in a rising list they are the first ones -/
theorem ahead_cut {x : α} (hx : 0 < (f x).2) : ∀ {l : List α}, (∀ t ∈ l, 0 < (f t).2) → Rises f l → (∀ t ∈ l.take (ahead f x l), le (f t) (f x)) ∧ ∀ t ∈ l.drop (ahead f x l), le (f x) (f t)
  | [], _, _ => ⟨fun _ h => by simp at h, fun _ h => by simp at h⟩
  | a :: l, hp, hr => by
    obtain ⟨ha, hr2⟩ := List.pairwise_cons.mp hr
    have pa := hp a List.mem_cons_self
    have pl : ∀ t ∈ l, 0 < (f t).2 := fun t ht => hp t (List.mem_cons_of_mem _ ht)
    by_cases h : le (f a) (f x)
    · have e : ahead f x (a :: l) = ahead f x l + 1 := by
        unfold ahead
        rw [List.filter_cons, if_pos (decide_eq_true h), List.length_cons]
      rw [e]
      obtain ⟨h1, h2⟩ := ahead_cut hx pl hr2
      refine ⟨fun t ht => ?_, fun t ht => h2 t (by simpa using ht)⟩
      rw [List.take_succ_cons] at ht
      rcases List.mem_cons.mp ht with e | ht
      · rw [e]
        exact h
      · exact h1 t ht
    · have z : ∀ t ∈ l, ¬ le (f t) (f x) := fun t ht q => h (le_trans pa (pl t ht) hx (ha t ht) q)
      have e : ahead f x (a :: l) = 0 := by
        unfold ahead
        rw [List.length_eq_zero_iff, List.filter_eq_nil_iff]
        intro t ht
        rcases List.mem_cons.mp ht with e | ht
        · rw [e]
          simpa using h
        · simpa using z t ht
      rw [e]
      refine ⟨fun t ht => by simp at ht, fun t ht => ?_⟩
      rcases List.mem_cons.mp (show t ∈ a :: l from ht) with e | ht
      · rw [e]
        exact le_total h
      · exact le_total (z t ht)
theorem ins_rises {x : α} (hx : 0 < (f x).2) {l : List α} (hp : ∀ t ∈ l, 0 < (f t).2) (hr : Rises f l) : Rises f (l.take (ahead f x l) ++ x :: l.drop (ahead f x l)) := by
  obtain ⟨h1, h2⟩ := ahead_cut hx hp hr
  refine List.pairwise_append.mpr ⟨hr.sublist (List.take_sublist _ _), List.pairwise_cons.mpr ⟨h2, hr.sublist (List.drop_sublist _ _)⟩, fun a ha b hb => ?_⟩
  rcases List.mem_cons.mp hb with e | hb
  · rw [e]
    exact h1 a ha
  · exact le_trans (hp a (List.mem_of_mem_take ha)) hx (hp b (List.mem_of_mem_drop hb)) (h1 a ha) (h2 b hb)
theorem ins_perm (x : α) (l : List α) (n : Nat) : (l.take n ++ x :: l.drop n).Perm (x :: l) := by
  have e := List.perm_middle (a := x) (l₁ := l.take n) (l₂ := l.drop n)
  rwa [List.take_append_drop] at e
/-- the one in the middle: few are slower, few are faster -/
theorem mid_counts {l : List α} (hr : Rises f l) {i : Nat} {m : α} (hm : l[i]? = some m) : (l.filter fun t => !decide (le (f m) (f t))).length ≤ i ∧ (l.filter fun t => !decide (le (f t) (f m))).length ≤ l.length - (i + 1) := by
  obtain ⟨hi, em⟩ := List.getElem?_eq_some_iff.mp hm
  have e : l = l.take i ++ m :: l.drop (i + 1) := by
    rw [← em, List.getElem_cons_drop, List.take_append_drop]
  have hr2 := hr
  rw [e] at hr2
  obtain ⟨_, h2, h3⟩ := List.pairwise_append.mp hr2
  obtain ⟨h4, _⟩ := List.pairwise_cons.mp h2
  have z1 : ((m :: l.drop (i + 1)).filter fun t => !decide (le (f m) (f t))) = [] := by
    rw [List.filter_eq_nil_iff]
    intro t ht
    rcases List.mem_cons.mp ht with q | ht
    · rw [q]
      simp [le_refl]
    · simp [h4 t ht]
  have z2 : ((l.take i).filter fun t => !decide (le (f t) (f m))) = [] := by
    rw [List.filter_eq_nil_iff]
    intro t ht
    simp [h3 t ht m List.mem_cons_self]
  constructor
  · have q : (l.filter fun t => !decide (le (f m) (f t))) = (l.take i).filter fun t => !decide (le (f m) (f t)) := by
      conv => lhs; rw [e]
      rw [List.filter_append, z1, List.append_nil]
    rw [q]
    exact Nat.le_trans (List.length_filter_le _ _) (by rw [List.length_take]; omega)
  · have q : (l.filter fun t => !decide (le (f t) (f m))) = (l.drop (i + 1)).filter fun t => !decide (le (f t) (f m)) := by
      conv => lhs; rw [e]
      rw [List.filter_append, z2, List.nil_append, List.filter_cons]
      simp [le_refl]
    rw [q]
    exact Nat.le_trans (List.length_filter_le _ _) (by rw [List.length_drop]; omega)
end
/-- all bits in all beats are no slower than the slowest -/
theorem mean_le {x : Int × Int} : ∀ {l : List (Int × Int)}, (∀ y ∈ l, le x y) → le x ((l.map (·.1)).sum, (l.map (·.2)).sum)
  | [], _ => by
    unfold le
    simp
  | y :: l, h => by
    have ih := mean_le (l := l) fun z hz => h z (List.mem_cons_of_mem _ hz)
    have h1 := h y List.mem_cons_self
    unfold le at ih h1 ⊢
    simp only [List.map_cons, List.sum_cons] at ih ⊢
    rw [Int.mul_add, Int.add_mul]
    omega
end Rp
/- RpText -/
set_option maxHeartbeats 4000000
/-! RpText: the text by places, the defs as data, what the head is to tell. Printed by gen_text.py. -/
namespace Rp
open PySem PySem.Spec PyProof.Rows L2
def top (i : Nat) : Stmt := PySem.Challenge.pw_rateplan_k32_whole_speeds_of_runs.main.body.getD i (.Pass ⟨0, 0, 0, 0⟩)
abbrev s_by_store : Stmt := top 11
abbrev s_by_speed : Stmt := top 12
abbrev s_calm : Stmt := top 13
abbrev s_is_whole : Stmt := top 10
abbrev s_is_rate : Stmt := top 15
abbrev s_rate_by : Stmt := top 16
abbrev s_seen_at : Stmt := top 17
abbrev s_mean : Stmt := top 25
abbrev s_middle : Stmt := top 26
abbrev s_is_slower : Stmt := top 27
abbrev s_slowest : Stmt := top 28
abbrev s_look_room : Stmt := top 35
abbrev s_first_stand : Stmt := top 36
abbrev s_is_over : Stmt := top 37
abbrev s_has_room : Stmt := top 38
abbrev s_chosen : Stmt := top 39
abbrev s_begins : Stmt := top 40
abbrev s_played_on : Stmt := top 41
abbrev s_beat_on : Stmt := top 42
abbrev s_run_of : Stmt := top 47
abbrev s_L_deck : Stmt := top 51
abbrev s_L_draw : Stmt := top 52
abbrev s_L_pick : Stmt := top 53
abbrev s_L_talk : Stmt := top 54
abbrev s_L_pieces : Stmt := top 55
abbrev s_L_options : Stmt := top 56
abbrev s_L_rule : Stmt := top 57
abbrev s_L_fetched_right : Stmt := top 58
abbrev s_L_means_right : Stmt := top 59
abbrev s_L_in_time : Stmt := top 60
abbrev s_law : Stmt := top 61
abbrev s_Road__init_ : Stmt := inClass (top 4) 0
abbrev s_Road_speed_at : Stmt := inClass (top 4) 5
abbrev s_Road_sum_of : Stmt := inClass (top 4) 6
abbrev s_Road_fetched : Stmt := inClass (top 4) 7
abbrev s_Speed__init_ : Stmt := inClass (top 24) 0
abbrev s_Speed_below : Stmt := inClass (top 24) 3
abbrev s_Speed_floor : Stmt := inClass (top 24) 4
abbrev s_Walk__init_ : Stmt := inClass (top 44) 0
abbrev s_Walk_is_at_end : Stmt := inClass (top 44) 1
abbrev s_Walk_asks_here : Stmt := inClass (top 44) 2
abbrev s_Walk_choose_here : Stmt := inClass (top 44) 3
abbrev s_Walk_step_on : Stmt := inClass (top 44) 4
abbrev s_Run__init_ : Stmt := inClass (top 46) 0
abbrev s_Talk__init_ : Stmt := inClass (top 49) 0
abbrev s_Talk__len_ : Stmt := inClass (top 49) 1
abbrev s_Talk_many_rates : Stmt := inClass (top 49) 5
def d_by_store : He.DefD := ⟨("by_store", none), "by_store", "by_store", defArgs s_by_store, defBody s_by_store, defScope s_by_store, [], []⟩
def d_by_speed : He.DefD := ⟨("by_speed", none), "by_speed", "by_speed", defArgs s_by_speed, defBody s_by_speed, defScope s_by_speed, [], [("part", .glo "PART")]⟩
def d_calm : He.DefD := ⟨("calm", none), "calm", "calm", defArgs s_calm, defBody s_calm, defScope s_calm, [], []⟩
def d_is_whole : He.DefD := ⟨("is_whole", none), "is_whole", "is_whole", defArgs s_is_whole, defBody s_is_whole, defScope s_is_whole, [], []⟩
def d_is_rate : He.DefD := ⟨("is_rate", none), "is_rate", "is_rate", defArgs s_is_rate, defBody s_is_rate, defScope s_is_rate, [], []⟩
def d_rate_by : He.DefD := ⟨("rate_by", none), "rate_by", "rate_by", defArgs s_rate_by, defBody s_rate_by, defScope s_rate_by, [], []⟩
def d_seen_at : He.DefD := ⟨("seen_at", none), "seen_at", "seen_at", defArgs s_seen_at, defBody s_seen_at, defScope s_seen_at, [], []⟩
def d_mean : He.DefD := ⟨("mean", none), "mean", "mean", defArgs s_mean, defBody s_mean, defScope s_mean, [], [("last", .non)]⟩
def d_middle : He.DefD := ⟨("middle", none), "middle", "middle", defArgs s_middle, defBody s_middle, defScope s_middle, [], []⟩
def d_is_slower : He.DefD := ⟨("is_slower", none), "is_slower", "is_slower", defArgs s_is_slower, defBody s_is_slower, defScope s_is_slower, [], []⟩
def d_slowest : He.DefD := ⟨("slowest", none), "slowest", "slowest", defArgs s_slowest, defBody s_slowest, defScope s_slowest, [], [("key", .non)]⟩
def d_look_room : He.DefD := ⟨("look_room", none), "look_room", "look_room", defArgs s_look_room, defBody s_look_room, defScope s_look_room, [], []⟩
def d_first_stand : He.DefD := ⟨("first_stand", none), "first_stand", "first_stand", defArgs s_first_stand, defBody s_first_stand, defScope s_first_stand, [], []⟩
def d_is_over : He.DefD := ⟨("is_over", none), "is_over", "is_over", defArgs s_is_over, defBody s_is_over, defScope s_is_over, [], []⟩
def d_has_room : He.DefD := ⟨("has_room", none), "has_room", "has_room", defArgs s_has_room, defBody s_has_room, defScope s_has_room, [], []⟩
def d_chosen : He.DefD := ⟨("chosen", none), "chosen", "chosen", defArgs s_chosen, defBody s_chosen, defScope s_chosen, [], [("wait", .int 0)]⟩
def d_begins : He.DefD := ⟨("begins", none), "begins", "begins", defArgs s_begins, defBody s_begins, defScope s_begins, [], []⟩
def d_played_on : He.DefD := ⟨("played_on", none), "played_on", "played_on", defArgs s_played_on, defBody s_played_on, defScope s_played_on, [], []⟩
def d_beat_on : He.DefD := ⟨("beat_on", none), "beat_on", "beat_on", defArgs s_beat_on, defBody s_beat_on, defScope s_beat_on, [], []⟩
def d_run_of : He.DefD := ⟨("run_of", none), "run_of", "run_of", defArgs s_run_of, defBody s_run_of, defScope s_run_of, [], [("begin", .int 4), ("again", .int 8), ("most", .int 30), ("wait", .int 0), ("opens", .non)]⟩
def d_L_deck : He.DefD := ⟨("_law_deck", none), "_law_deck", "_law_deck", defArgs s_L_deck, defBody s_L_deck, defScope s_L_deck, [], []⟩
def d_L_draw : He.DefD := ⟨("_law_draw", none), "_law_draw", "_law_draw", defArgs s_L_draw, defBody s_L_draw, defScope s_L_draw, [], []⟩
def d_L_pick : He.DefD := ⟨("_law_pick", none), "_law_pick", "_law_pick", defArgs s_L_pick, defBody s_L_pick, defScope s_L_pick, [], []⟩
def d_L_talk : He.DefD := ⟨("_law_talk", none), "_law_talk", "_law_talk", defArgs s_L_talk, defBody s_L_talk, defScope s_L_talk, [], []⟩
def d_L_pieces : He.DefD := ⟨("_law_pieces", none), "_law_pieces", "_law_pieces", defArgs s_L_pieces, defBody s_L_pieces, defScope s_L_pieces, [], []⟩
def d_L_options : He.DefD := ⟨("_law_options", none), "_law_options", "_law_options", defArgs s_L_options, defBody s_L_options, defScope s_L_options, [], []⟩
def d_L_rule : He.DefD := ⟨("_law_rule", none), "_law_rule", "_law_rule", defArgs s_L_rule, defBody s_L_rule, defScope s_L_rule, [], []⟩
def d_L_fetched_right : He.DefD := ⟨("_law_fetched_right", none), "_law_fetched_right", "_law_fetched_right", defArgs s_L_fetched_right, defBody s_L_fetched_right, defScope s_L_fetched_right, [], []⟩
def d_L_means_right : He.DefD := ⟨("_law_means_right", none), "_law_means_right", "_law_means_right", defArgs s_L_means_right, defBody s_L_means_right, defScope s_L_means_right, [], []⟩
def d_L_in_time : He.DefD := ⟨("_law_in_time", none), "_law_in_time", "_law_in_time", defArgs s_L_in_time, defBody s_L_in_time, defScope s_L_in_time, [], []⟩
def d_law : He.DefD := ⟨("law", none), "law", "law", defArgs s_law, defBody s_law, defScope s_law, [], []⟩
def d_Road__init_ : He.DefD := ⟨("Road", some "__init__"), "__init__", "Road.__init__", defArgs s_Road__init_, defBody s_Road__init_, defScope s_Road__init_, [], []⟩
def d_Road_speed_at : He.DefD := ⟨("Road", some "speed_at"), "speed_at", "Road.speed_at", defArgs s_Road_speed_at, defBody s_Road_speed_at, defScope s_Road_speed_at, [], []⟩
def d_Road_sum_of : He.DefD := ⟨("Road", some "sum_of"), "sum_of", "Road.sum_of", defArgs s_Road_sum_of, defBody s_Road_sum_of, defScope s_Road_sum_of, [], []⟩
def d_Road_fetched : He.DefD := ⟨("Road", some "fetched"), "fetched", "Road.fetched", defArgs s_Road_fetched, defBody s_Road_fetched, defScope s_Road_fetched, [], [("wait", .int 0)]⟩
def d_Speed__init_ : He.DefD := ⟨("Speed", some "__init__"), "__init__", "Speed.__init__", defArgs s_Speed__init_, defBody s_Speed__init_, defScope s_Speed__init_, [], []⟩
def d_Speed_below : He.DefD := ⟨("Speed", some "below"), "below", "Speed.below", defArgs s_Speed_below, defBody s_Speed_below, defScope s_Speed_below, [], []⟩
def d_Speed_floor : He.DefD := ⟨("Speed", some "floor"), "floor", "Speed.floor", defArgs s_Speed_floor, defBody s_Speed_floor, defScope s_Speed_floor, [], []⟩
def d_Walk__init_ : He.DefD := ⟨("Walk", some "__init__"), "__init__", "Walk.__init__", defArgs s_Walk__init_, defBody s_Walk__init_, defScope s_Walk__init_, [], [("begin", .int 4), ("again", .int 8), ("most", .int 30), ("wait", .int 0), ("opens", .non)]⟩
def d_Walk_is_at_end : He.DefD := ⟨("Walk", some "is_at_end"), "is_at_end", "Walk.is_at_end", defArgs s_Walk_is_at_end, defBody s_Walk_is_at_end, defScope s_Walk_is_at_end, [], []⟩
def d_Walk_asks_here : He.DefD := ⟨("Walk", some "asks_here"), "asks_here", "Walk.asks_here", defArgs s_Walk_asks_here, defBody s_Walk_asks_here, defScope s_Walk_asks_here, [], []⟩
def d_Walk_choose_here : He.DefD := ⟨("Walk", some "choose_here"), "choose_here", "Walk.choose_here", defArgs s_Walk_choose_here, defBody s_Walk_choose_here, defScope s_Walk_choose_here, [], []⟩
def d_Walk_step_on : He.DefD := ⟨("Walk", some "step_on"), "step_on", "Walk.step_on", defArgs s_Walk_step_on, defBody s_Walk_step_on, defScope s_Walk_step_on, [], []⟩
def d_Run__init_ : He.DefD := ⟨("Run", some "__init__"), "__init__", "Run.__init__", defArgs s_Run__init_, defBody s_Run__init_, defScope s_Run__init_, [], []⟩
def d_Talk__init_ : He.DefD := ⟨("Talk", some "__init__"), "__init__", "Talk.__init__", defArgs s_Talk__init_, defBody s_Talk__init_, defScope s_Talk__init_, [], []⟩
def d_Talk__len_ : He.DefD := ⟨("Talk", some "__len__"), "__len__", "Talk.__len__", defArgs s_Talk__len_, defBody s_Talk__len_, defScope s_Talk__len_, [], []⟩
def d_Talk_many_rates : He.DefD := ⟨("Talk", some "many_rates"), "many_rates", "Talk.many_rates", defArgs s_Talk_many_rates, defBody s_Talk_many_rates, defScope s_Talk_many_rates, [], []⟩
def fn : List He.DefD := [d_by_store, d_by_speed, d_calm, d_is_whole, d_is_rate, d_rate_by, d_seen_at, d_mean, d_middle, d_is_slower, d_slowest, d_look_room, d_first_stand, d_is_over, d_has_room, d_chosen, d_begins, d_played_on, d_beat_on, d_run_of, d_L_deck, d_L_draw, d_L_pick, d_L_talk, d_L_pieces, d_L_options, d_L_rule, d_L_fetched_right, d_L_means_right, d_L_in_time, d_law, d_Road__init_, d_Road_speed_at, d_Road_sum_of, d_Road_fetched, d_Speed__init_, d_Speed_below, d_Speed_floor, d_Walk__init_, d_Walk_is_at_end, d_Walk_asks_here, d_Walk_choose_here, d_Walk_step_on, d_Run__init_, d_Talk__init_, d_Talk__len_, d_Talk_many_rates]
def fa : List He.Fa := [.glo "by_store", .glo "by_speed", .glo "calm", .glo "is_whole", .glo "is_rate", .glo "rate_by", .glo "seen_at", .glo "mean", .glo "middle", .glo "is_slower", .glo "slowest", .glo "look_room", .glo "first_stand", .glo "is_over", .glo "has_room", .glo "chosen", .glo "begins", .glo "played_on", .glo "beat_on", .glo "run_of", .glo "_law_deck", .glo "_law_draw", .glo "_law_pick", .glo "_law_talk", .glo "_law_pieces", .glo "_law_options", .glo "_law_rule", .glo "_law_fetched_right", .glo "_law_means_right", .glo "_law_in_time", .glo "law", .glo "Road", .glo "Speed", .glo "Walk", .glo "Run", .glo "Talk", .free "len", .free "list", .free "range", .free "enumerate", .free "zip", .free "max", .free "min", .free "sum", .free "tuple", .free "isinstance", .free "int", .free "bool", .int "NONE" (-1), .int "AHEAD" (0), .int "PLAYS" (1), .int "STALLS" (2), .cls "Road", .mkr "Road", .noat "Road" "pieces", .meth "Road" "speed_at", .meth "Road" "sum_of", .meth "Road" "fetched", .cls "Speed", .mkr "Speed", .noat "Speed" "bits", .noat "Speed" "beats", .meth "Speed" "below", .meth "Speed" "floor", .cls "Walk", .mkr "Walk", .noat "Walk" "talk_walked", .noat "Walk" "chooser_asked", .noat "Walk" "limits", .noat "Walk" "waiting", .noat "Walk" "opening", .noat "Walk" "stand_here", .noat "Walk" "beat_here", .noat "Walk" "rate_last", .noat "Walk" "speed_last", .noat "Walk" "rates", .noat "Walk" "begun", .noat "Walk" "whole", .noat "Walk" "plays", .noat "Walk" "stalls", .noat "Walk" "kept", .meth "Walk" "is_at_end", .meth "Walk" "asks_here", .meth "Walk" "choose_here", .meth "Walk" "step_on", .cls "Run", .mkr "Run", .noat "Run" "rates", .noat "Run" "begun", .noat "Run" "whole", .noat "Run" "plays", .noat "Run" "stalls", .noat "Run" "ended", .noat "Run" "kept", .cls "Talk", .mkr "Talk", .noat "Talk" "lengths", .noat "Talk" "sizes", .meth "Talk" "__len__", .meth "Talk" "many_rates"]
def tf : List He.Defn := [("by_store", none), ("by_speed", none), ("calm", none), ("_law_rule", none)]
/-- what else: two tuples of the top -/
def more (K : PySem.W.Frag) : Bool := He.tupB K "FIRST" [.int 0, .int (-1), .int 0, .int 0, .int 0, .int 0] && He.tupB K "PART" [.int 4, .int 5] && (Fa_glo K "FIRST" && Fa_glo K "PART") && decide ((tf.map fun p => (He.cT K p).2).Nodup)
where Fa_glo (K : PySem.W.Frag) (x : Str) : Bool := (He.Fa.glo x).ok K
end Rp
/- RpExtA -/
set_option maxHeartbeats 4000000
/-! RpExtA: rules that the layer lacks, part A: numbers, built-ins over tuples, max with a default, own len, ranges as values, attributes as targets, method calls with keywords. -/
namespace Rp
open PySem PySem.Spec PyProof.Rows L2
/-! ### numbers of any size -/
/-- a product of two ints that the machine's bound lets by -/
def CMulX (i j : Int) : Prop := IntMulOk i j
section
variable {X : Cx}
theorem op_mulX : OpR X (binaryOp .Mult) (rI CMulX fun i j => .int (i * j)) := opI fun _ _ _ _ _ _ _ hc q => mul_int q hc
theorem iop_mulX : OpR X (inplaceOp .Mult) (rI CMulX fun i j => .int (i * j)) := opI fun _ _ _ _ _ _ _ hc q => imul_int q hc
end
theorem intBits_le {i : Int} {a : Nat} (h : i.natAbs < 2 ^ a) : Builtin.Int.intBits i ≤ a := by
  unfold Builtin.Int.intBits
  split
  · omega
  · rename_i hz
    have hz : i.natAbs ≠ 0 := fun z => hz (by simpa using Int.natAbs_eq_zero.mp z)
    have := (Nat.log2_lt hz).mpr h
    omega
theorem mulX {i j : Int} {a b : Nat} (ha : i.natAbs < 2 ^ a) (hb : j.natAbs < 2 ^ b) (h : a + b ≤ 100000000) : CMulX i j := by
  have h1 := intBits_le ha
  have h2 := intBits_le hb
  have e : bitsLine = 134217728 := by decide
  unfold CMulX IntMulOk
  intro z
  rw [Bool.and_eq_true] at z
  have z2 := z.2
  unfold Builtin.Int.intTooBig at z2
  have z3 := of_decide_eq_true z2
  rw [e] at z3
  omega
/-! ### sums and greatest ones of tuples -/
section
variable {X : Cx}
/-- sum(t), t a tuple of ints -/
def rSumT (K : PySem.W.Frag) : List V → Hp → VK → Prop := fun vs H Q => ∃ (a : Addr) (ns : List Int), vs = [V.ref a] ∧ SqT K H a (ns.map V.int) ∧ Q (.int ns.sum) H
theorem cr_sumT (hc : X.calm = true) : CallR X (.builtin "sum") (rSumT X.K) := by
  intro pins s σ H vs us Q I r h
  obtain ⟨a, ns, rfl, hs, q⟩ := h
  obtain ⟨its, rv, ht, _⟩ := I.tuple hs
  rw [Vals.ref1 r]
  have hi := rv.ints
  obtain ⟨xs, hx⟩ := hi.allInts.items
  have hn : numsOf (intItems xs).toList = ns := by rw [← hx]; exact hi.numsOf
  rw [nums_intItems] at hn
  have ht2 : s.heap.IsTuple a (intItems xs) := by rw [← hx]; exact ht
  refine PySem.W.ktm_sumG (I.ok.hd hc) ht2 fun h' tk t' hk => ⟨.int ns.sum, H, I.kept hk, ⟨t', ?_⟩, q⟩
  rw [preSum_eq, List.take_of_length_le (by simp), hn]
end
theorem reads_ints (h : Heap) : ∀ {ns : List Int} {us : List Value}, Vals (ns.map V.int) us → ∃ as, ReadsAll h us (ns.map PyData.int) as
  | [], us, r => by
    cases r
    exact ⟨_, .nil⟩
  | n :: ns, us, r => by
    cases r with
    | cons r rr =>
      obtain ⟨t, rfl⟩ := r
      obtain ⟨as, q⟩ := reads_ints h rr
      exact ⟨_, .cons (.int n t) q⟩
theorem alike_ints (ns : List Int) : PySem.W.AlikeAll (ns.map PyData.int) := by
  refine ⟨fun x hx y hy => ?_, fun x hx => ?_⟩
  · obtain ⟨i, _, rfl⟩ := List.mem_map.mp hx
    obtain ⟨j, _, rfl⟩ := List.mem_map.mp hy
    rfl
  · obtain ⟨i, _, rfl⟩ := List.mem_map.mp hx
    intro z
    cases z
theorem depth_ints : ∀ ns : List Int, PyData.depthAll (ns.map PyData.int) ≤ 1
  | [] => by simp [PyData.depthAll]
  | n :: ns => by
    have ih := depth_ints ns
    show max (PyData.depth (.int n)) (PyData.depthAll (ns.map PyData.int)) ≤ 1
    have : PyData.depth (.int n) ≤ 1 := by simp [PyData.depth]
    omega
/-- the greatest of them, d of none -/
def mxD (d : Int) : List Int → Int
  | [] => d
  | n :: r => r.foldl max n
theorem foldl_max_le (n : Int) : ∀ r : List Int, n ≤ r.foldl max n ∧ (∀ y ∈ r, y ≤ r.foldl max n) ∧ (r.foldl max n = n ∨ r.foldl max n ∈ r)
  | [] => ⟨Int.le_refl _, fun y hy => by simp at hy, .inl rfl⟩
  | m :: r => by
    obtain ⟨h1, h2, h3⟩ := foldl_max_le (max n m) r
    refine ⟨Int.le_trans (Int.le_max_left n m) h1, fun y hy => ?_, ?_⟩
    · rcases List.mem_cons.mp hy with e | hy
      · rw [e]
        exact Int.le_trans (Int.le_max_right n m) h1
      · exact h2 y hy
    · show r.foldl max (max n m) = n ∨ r.foldl max (max n m) ∈ m :: r
      rcases h3 with e | e
      · rw [e]
        by_cases q : n ≤ m
        · exact .inr (by rw [Int.max_eq_right q]; exact List.mem_cons_self)
        · exact .inl (Int.max_eq_left (by omega))
      · exact .inr (List.mem_cons_of_mem _ e)
section
variable {X : Cx}
theorem max_fin {pins : List (Addr × Obj)} {σ : L2.St} {H : Hp} {s : Shared} {Q : VK} {h' : Heap} {tk : Nat} {v : Value} {n : Int} {bs : List Addr} (I : Inv X pins σ H s) (hk : ∀ b o, s.heap.get? b = some o → h'.get? b = some o) (r : Reads h' v (.int n) bs) (q : Q (.int n) H) : EP X pins σ Q v { s with heap := h', toks := tk } := by
  cases r
  exact ⟨.int n, H, I.kept hk, ⟨_, rfl⟩, q⟩
/-- max(xs, default=d), a list of ints -/
def rMaxD (K : PySem.W.Frag) : List V → List V → Hp → VK → Prop := fun xs zs H Q => ∃ (a : Addr) (ns : List Int) (d : Int), xs = [V.ref a] ∧ zs = [V.int d] ∧ SqL K H a (ns.map V.int) ∧ Q (.int (mxD d ns)) H
theorem cr_maxD (hc : X.calm = true) (hu : X.A.units + 64 < cLine) : CallRK X (.builtin "max") [Str.ofString "default"] (rMaxD X.K) := by
  intro pins s σ H xs zs us ws Q I r rz h
  obtain ⟨a, ns, d, rfl, rfl, hs, q⟩ := h
  obtain ⟨its, rv, hl, _⟩ := I.list hs
  rw [Vals.ref1 r]
  obtain ⟨w, rfl, ⟨t, rfl⟩⟩ := vals1 rz
  obtain ⟨as, hr⟩ := reads_ints s.heap rv
  have hd := depth_ints ns
  refine PySem.W.max_list_default (I.ok.hd hc) hl.isList (vs := its.toArray) (by simpa using hr) (alike_ints ns) (by omega) (fun e h' tk hk => ?_) fun y ys i v h' tk bs e hv hrd hk => ?_
  · have e' : ns = [] := by simpa using e
    subst e'
    exact ⟨.int d, H, I.kept hk, ⟨t, rfl⟩, q⟩
  · cases ns with
    | nil => simp at e
    | cons n r =>
      have e1 : PyData.int n = y := (List.cons.inj e).1
      have e2 : r.map PyData.int = ys := (List.cons.inj e).2
      subst e1 e2
      rw [PySem.W.maxD_ints] at hrd
      exact max_fin I hk hrd q
/-- max(t), a tuple of ints, not empty -/
def rMaxT (K : PySem.W.Frag) : List V → Hp → VK → Prop := fun xs H Q => ∃ (a : Addr) (n : Int) (ns : List Int), xs = [V.ref a] ∧ SqT K H a ((n :: ns).map V.int) ∧ Q (.int (mxD 0 (n :: ns))) H
theorem cr_maxT (hc : X.calm = true) (hu : X.A.units + 64 < cLine) : CallR X (.builtin "max") (rMaxT X.K) := by
  intro pins s σ H xs us Q I r h
  obtain ⟨a, n, ns, rfl, hs, q⟩ := h
  obtain ⟨its, rv, ht, _⟩ := I.tuple hs
  rw [Vals.ref1 r]
  obtain ⟨as, hr⟩ := reads_ints s.heap rv
  have hd := depth_ints (n :: ns)
  refine PySem.W.max_tuple_data (I.ok.hd hc) (show s.heap.IsTuple a its.toArray from ht) (vs := its.toArray) (x := .int n) (xs := ns.map .int) (by simpa using hr) (alike_ints (n :: ns)) (by simp only [List.map_cons] at hd; omega) fun i v h' tk bs hv hrd hk => ?_
  rw [PySem.W.maxD_ints] at hrd
  exact max_fin I hk hrd q
/-- max(xs), a list of ints, not empty -/
def rMaxL (K : PySem.W.Frag) : List V → Hp → VK → Prop := fun xs H Q => ∃ (a : Addr) (n : Int) (ns : List Int), xs = [V.ref a] ∧ SqL K H a ((n :: ns).map V.int) ∧ Q (.int (mxD 0 (n :: ns))) H
theorem cr_maxL (hc : X.calm = true) (hu : X.A.units + 64 < cLine) : CallR X (.builtin "max") (rMaxL X.K) := by
  intro pins s σ H xs us Q I r h
  obtain ⟨a, n, ns, rfl, hs, q⟩ := h
  obtain ⟨its, rv, hl, _⟩ := I.list hs
  rw [Vals.ref1 r]
  obtain ⟨as, hr⟩ := reads_ints s.heap rv
  have hd := depth_ints (n :: ns)
  refine PySem.W.max_list_data (I.ok.hd hc) hl.isList (vs := its.toArray) (x := .int n) (xs := ns.map .int) (by simpa using hr) (alike_ints (n :: ns)) (by simp only [List.map_cons] at hd; omega) fun i v h' tk bs hv hrd hk => ?_
  rw [PySem.W.maxD_ints] at hrd
  exact max_fin I hk hrd q
/-! ### ranges as values -/
theorem cr_range1 : CallR X (.type "range") (fun vs H Q => ∃ j, vs = [V.int j] ∧ ∀ p, H p = none → Q (.ref p) (upd H p (.rng 0 j))) := by
  intro pins s σ H vs us Q I r h
  obtain ⟨j, rfl, q⟩ := h
  obtain ⟨u, rfl, ⟨t, rfl⟩⟩ := vals1 r
  refine call_range_1 ⟨.ref s.heap.objs.size, upd H s.heap.objs.size (.rng 0 j), I.laid (fun b o e => Heap.get?_push_of_some _ e) (Nat.le_refl _) ?_, rfl, q _ (I.hok.fresh (Nat.le_refl _))⟩
  exact ⟨_, _, _, Heap.get?_push_size _ rfl⟩
theorem rlen_meets (r : Addr) (b : Int) (t u v : Tok) (hb : 0 ≤ b) (hb2 : b < 2 ^ 62) : Meets (Builtin.«range.__len__» ⟨[.ref r], []⟩) (fun _ R s => s.heap.get? r = some { cls := .type "range", dict := none, data := .fields #[.int 0 t, .int b u, .int 1 v], slots := #[] } ∧ R (.ok (.ret (.int b s.toks))) { s with toks := s.toks + 1 }) :=
  .of_wp fun prog w A R s h => by
    obtain ⟨hp, g, d, tk, os⟩ := s
    obtain ⟨hl, h⟩ := h
    wp_walk
    have e : Builtin.Range.rangeSize 0 b 1 = b := by
      rw [rangeSize_one]
      split <;> omega
    rw [e, if_neg (show ¬ b ≥ 2 ^ 63 by omega)]
    show wpAny _ _ (retInt b) _ _ _
    exact wpAny_bind (wpAny_mkInt (wpAny_pure ⟨_, rfl, h⟩))
theorem cr_lenRng (n : Int) : CallR X (.builtin "len") (fun vs H Q => ∃ (a : Addr) (n : Int), vs = [V.ref a] ∧ H a = some (.rng 0 n) ∧ 0 ≤ n ∧ n < 2 ^ 62 ∧ Q (.int n) H) := by
  intro pins s σ H vs us Q I r h
  obtain ⟨a, n, rfl, ha, h0, h1, q⟩ := h
  rw [Vals.ref1 r]
  obtain ⟨t, u, v, e⟩ := I.hok a _ ha
  have hT : s.TypeIs (.ref a) "range" := ⟨_, e, rfl⟩
  refine Calls.call_function_entry kind_len plain_len entry_len (args_len1 _) ?_
  unfold Builtin.«len»
  refine wpAny_bind (m := oneArg "len" _) (wpAny_pure ?_)
  refine wpAny_bind (m := callSpecial? _ (Str.ofString "__len__")) (wpAny_callSpecial?_slot (name := Str.ofString "__len__") hT F.slot_range_len (call_meets F.slot_range_len hT F.entry_range_len (F.args_range_len_1 _) (rlen_meets a n t u v h0 h1) ⟨e, ?_⟩))
  show wpAny _ _ _ _ _ { s with toks := s.toks + 1 }
  refine wpAny_bind (wpAny_holding (wpAny_pure ?_))
  refine wpAny_bind (wpAny_letGo ?_)
  show wpAny _ _ (if n < 0 then _ else _) _ _ _
  rw [if_neg (by omega)]
  show wpAny _ _ (if n ≥ 2 ^ 63 then _ else _) _ _ _
  rw [if_neg (by omega)]
  exact wpAny_bind (wpAny_mkInt (wpAny_pure ⟨_, rfl, .int n, H, I.tok _, ⟨_, rfl⟩, q⟩))
/-! ### len of an own instance, by its own __len__ -/
def tLenOwn (C : Addr) (sp : Sp) (ta : TE) : TE := fun σ H Q => ta σ H fun x H1 => ∃ a dx fs, x = .ref a ∧ H1 a = some (.ins C dx fs) ∧ sp [.ref a] H1 (fun v H2 => ∃ n, v = .int n ∧ 0 ≤ n ∧ n < 2 ^ 63 ∧ Q (.int n) H2) E0
theorem pe_lenOwn {C f : Addr} {fd : FuncData} {k : Nat} {ps : List Str} {sp : Sp} {e : Expr} {ta : TE} {p pos : Pos} (he : PE X e ta) (hs : PySem.W.findIn X.K (.ref C) "__len__" = some (some (.ref f))) (hf : PySem.W.isFn X.K (.ref f) = true)
    (F : FnOk X.prog X.w X.K X.mg X.base CX0 k f fd ps sp) (hb : Binds X.K fd ps []) (hr : Room (k + 1) X.A) (hg : Gl X "len") (hm : X.mg "len" = none) (hst : starEach [e] X.env = (false, eval e X.env) :: starEach [] X.env := by rfl) :
    PE X (.Call (.Name "len" p) [e] [] pos) (tLenOwn C sp ta) := by
  refine ⟨fun pins s σ H Q I h => ?_⟩
  refine wpAny_Call_Name_kw (ld_blt I hg hm boot_len ?_ (by decide))
  refine PyProof.Rows.callWith_builtin1 (thn ((pa_cons he pa_nil hst).run pos pins s σ H (fun vs H1 => match vs with
    | [x] => ∃ a dx fs, x = V.ref a ∧ H1 a = some (.ins C dx fs) ∧ sp [.ref a] H1 (fun v H2 => ∃ n, v = .int n ∧ 0 ≤ n ∧ n < 2 ^ 63 ∧ Q (.int n) H2) E0
    | _ => False) I h) fun us s1 ⟨vs, H1, I1, r1, q1⟩ => ?_) hst rfl
  dsimp only at q1
  split at q1
  · obtain ⟨a, dx, fs, rfl, ha, q⟩ := q1
    rw [Vals.ref1 r1]
    obtain ⟨mA, O, _, _⟩ := ins_get I1.hok ha
    obtain ⟨od, J, _⟩ := O.look
    obtain ⟨m, hF⟩ := I1.fr
    have hl : ([.ref a] : List Value).length = ps.length := by
      have := F.len _ _ _ _ q
      simpa using this
    refine PySem.W.len_K hF I1.ok.mod.kin J hs hf ?_
    refine wpAny_call (codeAny_mono (F.run X.A.in1 X.stack s1 H1 ⟨[.ref a], []⟩ [.ref a] [.ref a] _ E0 hr.in1 I1.env0.in1 (by simpa using hb s1 [.ref a] I1.kIn (by simpa using hl)) (.cons rfl .nil) q) fun r s' hq => ?_)
    cases r with
    | error e => exact False.elim hq
    | ok fl =>
      cases fl with
      | next => exact False.elim hq
      | brk => exact False.elim hq
      | cont => exact False.elim hq
      | ret u =>
        obtain ⟨v, H2, I2, rv, n, rfl, h0, h1, q2⟩ := I1.after hq
        obtain ⟨t, rfl⟩ := rv
        exact ⟨⟨h0, h1⟩, .int n, H2, I2.tok _, ⟨_, rfl⟩, q2⟩
  · exact False.elim q1
/-! ### an attribute as a target -/
def gFld (K : PySem.W.Frag) (ta : TE) (f : Str) : TG := fun v σ H Q => ta σ H fun x H1 => ∃ a C dx fs, x = .ref a ∧ H1 a = some (.ins C dx fs) ∧ Cls K C ∧ NoAttr K C f ∧ fs.length < 1000 ∧ Q σ (upd H1 a (.ins C dx (putF f v fs)))
theorem pg_fld {o : Expr} {ta : TE} {f : Str} {pos : Pos} (ho : PE X o ta)
    (he : ∀ v, assign (.Attribute o f pos) X.env v = (do
      let ov ← holding [v] (eval o X.env)
      standAt pos.atName
      holding [v, ov] (setAttr ov f v)
      release [v, ov] []) := by intro _; rfl) : PG X (.Attribute o f pos) (gFld X.K ta f) := by
  refine ⟨fun pins s σ H v u Q I r h => ?_⟩
  rw [he]
  refine wpAny_bind (wpAny_holding (thn (ho.run pins s σ H _ I h) fun ov s1 ⟨x, H1, I1, r1, a, C, dx, fs, ex, ea, c, n, hl, q⟩ => ?_))
  subst ex
  cases r1
  refine wpAny_bind (wpAny_standAt (wpAny_bind (wpAny_holding (setattr_ok I1 ea c n hl r fun s2 I2 => ?_))))
  exact wpAny_release ⟨σ, _, I2, q⟩
/-! ### o.m(e, .., k = v, ..) -/
def tMethN (C : Addr) (m : Str) (n j : Nat) (sp : Sp) (gV : List V → List V → List V) (E : XK) (ta : TE) (t tk : TA) : TE := fun σ H Q => ta σ H fun x H1 => ∃ a dx fs, x = .ref a ∧ H1 a = some (.ins C dx fs) ∧ fs.lookup m = none ∧
  t σ H1 fun vs H2 => tk σ H2 fun zs H3 => vs.length = n ∧ zs.length = j ∧ sp (gV (x :: vs) zs) H3 Q E
theorem pe_methN {CX : CXT} {k n : Nat} {f C : Addr} {fd : FuncData} {ps ks : List Str} {sp : Sp} {E : XK} {m : Str} {pos apos : Pos} {e o : Expr} {es : List Expr} {kws : List Keyword} {ta : TE} {t tk : TA} {g : List Value → List Value → List Value} {gV : List V → List V → List V} {pl : Sem Bool}
    (he : PE X o ta) (c : Cls X.K C) (hm : Meth X.K C m f) (F : FnOk X.prog X.w X.K X.mg X.base CX k f fd ps sp) (hr : Room k X.A) (hb : KBn X.K fd ps (n + 1) ks g gV) (hx : Passes CX X E) (ha : PA X (e :: es) t) (hkw : PK X kws tk)
    (hall : (backToKw pos (keywordEach kws X.env)).all (·.1.isSome) = true := by rfl) (hks : (backToKw pos (keywordEach kws X.env)).filterMap (·.1) = ks := by rfl)
    (hst : starEach (e :: es) X.env = (false, eval e X.env) :: starEach es X.env := by rfl)
    (hpl : ((backTo pos (starEach (e :: es) X.env)).any (·.1) || (backToKw pos (keywordEach kws X.env)).any (·.1.isNone)) = false := by rfl)
    (ht : eval (.Call (.Attribute o m apos) (e :: es) kws pos) X.env = (do
      let ov ← eval o X.env
      standAt apos.atName
      let (f, first) ← holding [ov] (getMethod ov m pl)
      callWith pos f first (backTo pos (starEach (e :: es) X.env)) (backToKw pos (keywordEach kws X.env))) := by rfl) :
    PE X (.Call (.Attribute o m apos) (e :: es) kws pos) (tMethN C m n ks.length sp gV E ta t tk) := by
  refine ⟨fun pins s σ H Q I h => ?_⟩
  refine PySem.W.methodCall_KW (pl := pl) (thn (he.run pins s σ H _ I h) fun u s1 ⟨x, H1, I1, rx, a, dx, fs, ex, ea, l, q⟩ => ?_) ht
  subst ex
  obtain rfl : u = Value.ref a := rx
  refine getmeth_ok I1 ea c hm l ?_
  refine PySem.W.callWith_KW (first := [.ref a]) (h₀ := X.base) I.ok.mod.kin hm.kp hall (thn (ha.run pos pins s1 σ H1 _ I1 q) fun us s2 ⟨vs, H2, I2, r, q2⟩ => ?_) hpl hst
  refine thn (hkw.run pos pins s2 σ H2 _ I2 q2) fun ws s3 ⟨zs, H3, I3, rz, l1, l2, q3⟩ => ⟨I3.kIn, ?_⟩
  rw [hks]
  have r1 : Vals (V.ref a :: vs) (Value.ref a :: us) := .cons rfl r
  exact run_fnN F hr hb hx I3 r1 rz (by rw [List.length_cons, l1]) l2 q3
end
end Rp
/- RpExtB -/
set_option maxHeartbeats 4000000
/-! RpExtB: rules that the layer lacks, part B: targets with a star, enumerate over tuples, enumerate(zip(..)). -/
namespace Rp
open PySem PySem.Spec PyProof.Rows L2
/-! ### a, b, *c = t -/
section
variable {prog : Program} {w : World} {A : Around} {E : Value → Shared → Prop} {s : Shared}
/-- behind the last named ones the rest goes into a new list -/
theorem rest_of {I ax : Addr} {items : Array Value} {i : Nat} {T : String} {St : Nat → Heap → Prop} {Q : List Value → Shared → Prop} (hz : items.size ≤ sizeLine) (hi : i ≤ items.size)
    (hTm : T = "str_ascii_iterator" ∨ T = "str_iterator" ∨ T = "list_iterator" ∨ T = "tuple_iterator") (W : Walks prog w A.in1 I [I, ax] [I] items.size (fun i v => items[i]? = some v) St) (hT : ∀ i (u : Shared), St i u.heap → u.TypeIs (.ref I) T)
    (hst : St i s.heap) (hI : I < s.heap.objs.size) (hax : ax < s.heap.objs.size)
    (hQ : ∀ (h₂ : Heap) (tk : Nat), (∀ b o, b ≠ I → s.heap.get? b = some o → h₂.get? b = some o) → Q (items.toList.take i ++ [.ref h₂.objs.size]) { s with heap := h₂.push { cls := .type "list", data := .seq (items.toList.drop i).toArray }, toks := tk }) :
    wpAny (model prog w) A (do
      let rest ← holding (items.toList.take i) (collect (.ref I))
      if rest.length < 0 then
        rule "unpack.star.too-few"
        raiseError "ValueError" s!"not enough values to unpack (expected at least {i + 1 - 1}, got {i + rest.length})"
      return items.toList.take i ++ [← newList (rest.take (rest.length - 0))] ++ rest.drop (rest.length - 0)) Q E s := by
  refine wpAny_bind (wpAny_holding (PySem.W.kun_collect hTm W hT hi hst hI hax (fun h₂ tk hk => ?_) hz))
  rw [if_neg (Nat.not_lt_zero _)]
  have e1 : (items.toList.drop i).take ((items.toList.drop i).length - 0) = items.toList.drop i := by rw [Nat.sub_zero, List.take_length]
  have e2 : (items.toList.drop i).drop ((items.toList.drop i).length - 0) = [] := by rw [Nat.sub_zero, List.drop_length]
  rw [e1, e2]
  refine wpAny_bind (wpAny_newObj_type (s := { s with heap := h₂, toks := tk }) (wpAny_pure ?_) ?_)
  · rw [List.append_nil]
    exact hQ h₂ tk hk
  · show (items.toList.drop i).toArray.size ≤ sizeLine
    rw [List.size_toArray, List.length_drop, Array.length_toList]
    omega
theorem star_tup {t : Addr} {items : Array Value} {i : Nat} {Q : List Value → Shared → Prop} (hh : A.handled = none) (ht : IsTup s.heap t items) (hz : items.size ≤ sizeLine) (hi : i ≤ items.size)
    (hQ : ∀ (h₂ : Heap) (tk : Nat), (∀ b o, s.heap.get? b = some o → h₂.get? b = some o) → Q (items.toList.take i ++ [.ref h₂.objs.size]) { s with heap := h₂.push { cls := .type "list", data := .seq (items.toList.drop i).toArray }, toks := tk }) :
    wpAny (model prog w) A (unpackItems (.ref t) (i + 1) (some i)) Q E s := by
  have hlt : t < s.heap.objs.size := by obtain ⟨o, ho, _⟩ := ht; exact Heap.lt_size ho
  have hne : t ≠ s.heap.objs.size := Nat.ne_of_lt hlt
  unfold unpackItems
  refine wpAny_bind ?_
  unfold notIterableAtAll
  refine wpAny_bind (wpAny_specialOf ht.typeIs slot_tuple_iter.lookup ?_)
  refine wpAny_pure ?_
  simp only [Bool.false_eq_true, if_false]
  refine wpAny_bind (wpAny_holding (iter_tuple ht ?_))
  refine wpAny_bind (wpAny_holding (draw_tuple hne i 0 _ _ ⟨_, Heap.get?_push_size _ rfl, rfl, rfl⟩ (ht.push _) (by omega) fun h₁ hit hs => ?_))
  rw [Nat.zero_add] at hit
  rw [List.drop_zero]
  have ht1 : IsTup h₁ t items := (ht.push _).extBut hs.extBut hne
  rw [if_neg (show ¬ ((items.toList.take i).length < i) by rw [List.length_take, Array.length_toList]; omega)]
  have hI : s.heap.objs.size < h₁.objs.size := by obtain ⟨o, ho, _⟩ := hit; exact Heap.lt_size ho
  have hax : t < h₁.objs.size := by obtain ⟨o, ho, _⟩ := ht1; exact Heap.lt_size ho
  have e : i + 1 - 1 - i = 0 := by omega
  rw [e]
  refine rest_of (s := { s with heap := h₁ }) (T := "tuple_iterator") hz hi (.inr (.inr (.inr rfl))) (Walks.tuple (A := A.in1) hh s.heap.objs.size t hne items) (fun j u st => st.1.typeIs) ⟨hit, ht1⟩ hI hax fun h₂ tk hk => hQ h₂ tk fun b o q => ?_
  exact hk b o (Nat.ne_of_lt (Heap.lt_size q)) (hs.extBut b o (Nat.ne_of_lt (Heap.lt_size q)) (Heap.get?_push_of_some _ q))
theorem star_list {t : Addr} {items : Array Value} {i : Nat} {Q : List Value → Shared → Prop} (hh : A.handled = none) (ht : s.heap.IsList t items) (hz : items.size ≤ sizeLine) (hi : i ≤ items.size)
    (hQ : ∀ (h₂ : Heap) (tk : Nat), (∀ b o, s.heap.get? b = some o → h₂.get? b = some o) → Q (items.toList.take i ++ [.ref h₂.objs.size]) { s with heap := h₂.push { cls := .type "list", data := .seq (items.toList.drop i).toArray }, toks := tk }) :
    wpAny (model prog w) A (unpackItems (.ref t) (i + 1) (some i)) Q E s := by
  have hlt : t < s.heap.objs.size := by obtain ⟨o, ho, _⟩ := ht; exact Heap.lt_size ho
  have hne : t ≠ s.heap.objs.size := Nat.ne_of_lt hlt
  unfold unpackItems
  refine wpAny_bind ?_
  unfold notIterableAtAll
  refine wpAny_bind (wpAny_specialOf ht.typeIs slot_list_iter.lookup ?_)
  refine wpAny_pure ?_
  simp only [Bool.false_eq_true, if_false]
  refine wpAny_bind (wpAny_holding (wpAny_pyIter_list ht ?_))
  refine wpAny_bind (wpAny_holding (PySem.W.kun_draw hne i 0 _ _ ⟨_, Heap.get?_push_size _ rfl, rfl, rfl⟩ (ht.push _) (by omega) fun h₁ hit hs => ?_))
  rw [Nat.zero_add] at hit
  rw [List.drop_zero]
  have ht1 : h₁.IsList t items := (ht.push _).extBut hs.extBut hne
  rw [if_neg (show ¬ ((items.toList.take i).length < i) by rw [List.length_take, Array.length_toList]; omega)]
  have hI : s.heap.objs.size < h₁.objs.size := by obtain ⟨o, ho, _⟩ := hit; exact Heap.lt_size ho
  have hax : t < h₁.objs.size := by obtain ⟨o, ho, _⟩ := ht1; exact Heap.lt_size ho
  have e : i + 1 - 1 - i = 0 := by omega
  rw [e]
  refine rest_of (s := { s with heap := h₁ }) (T := "list_iterator") hz hi (.inr (.inr (.inl rfl))) (Walks.list (A := A.in1) hh s.heap.objs.size t hne items) (fun j u st => st.1.typeIs) ⟨hit, ht1⟩ hI hax fun h₂ tk hk => hQ h₂ tk fun b o q => ?_
  exact hk b o (Nat.ne_of_lt (Heap.lt_size q)) (hs.extBut b o (Nat.ne_of_lt (Heap.lt_size q)) (Heap.get?_push_of_some _ q))
end
section
variable {X : Cx} {pos : Pos}
theorem pgs_star {e : Expr} {t : TG} {p : Pos} (h1 : PG X e t) : PGs X [.Starred e p] (gCons t gNil) := by
  refine ⟨fun pins s σ H vs us Q I r h => ?_⟩
  obtain ⟨v, vr, e1, h⟩ := h
  subst e1
  cases r with
  | cons r rr =>
    show wpAny _ _ (assignInOrder [assign e X.env] _) _ _ _
    refine assignInOrder_cons (thn (h1.run pins s σ H _ _ _ I r h) fun _ s1 ⟨σ1, H1, I1, q1⟩ => ?_)
    obtain ⟨e2, q1⟩ := q1
    subst e2
    cases rr
    exact assignInOrder_nil ⟨σ1, H1, I1, q1⟩
/-- (a, .., *b) = a tuple or a list: n names, the rest in a new list -/
def gStar (K : PySem.W.Frag) (n : Nat) (t : TGs) : TG := fun v σ H Q => ∃ a xs, v = .ref a ∧ (SqT K H a xs ∨ SqL K H a xs) ∧ n ≤ xs.length ∧ ∀ D, H D = none → t (xs.take n ++ [.ref D]) σ (upd H D (.lst (xs.drop n))) Q
theorem pg_star {es : List Expr} {k n : Nat} {t : TGs} (hc : X.calm = true) (h : PGs X es t) (hn : (assignEach es X.env).length = n + 1 := by rfl) (hst : (assignEach es X.env).findIdx? (·.1) = some n := by rfl) : PG X (.Tuple es k pos) (gStar X.K n t) := by
  refine ⟨fun pins s σ H v u Q I r hw => ?_⟩
  obtain ⟨a, xs, e1, hq, hl, hw⟩ := hw
  subst e1
  cases r
  rw [assign_Tuple]
  refine wpAny_bind (wpAny_standAt ?_)
  unfold unpack
  rw [hn, hst]
  have fin : ∀ (its : List Value), Vals xs its → xs.length ≤ sizeLine → ∀ (h₂ : Heap) (tk : Nat), (∀ b o, s.heap.get? b = some o → h₂.get? b = some o) →
      wpAny (model X.prog X.w) X.A (assignInOrder ((assignEach es X.env).map (·.2)) (its.toArray.toList.take n ++ [.ref h₂.objs.size])) (fun _ s' => ∃ σ' H', Inv X pins σ' H' s' ∧ Q σ' H') X.xe { s with heap := h₂.push { cls := .type "list", data := .seq (its.toArray.toList.drop n).toArray }, toks := tk } := fun its rv hz h₂ tk hk => by
    have I2 : Inv X pins σ H { s with heap := h₂, toks := tk } := I.kept hk
    have I3 : Inv X pins σ (upd H h₂.objs.size (.lst (xs.drop n))) { s with heap := h₂.push { cls := .type "list", data := .seq (its.toArray.toList.drop n).toArray }, toks := tk } :=
      I2.laid (a := h₂.objs.size) (t' := tk) (fun b u e => Heap.get?_push_of_some _ e) (Nat.le_refl _) ⟨by rw [List.length_drop]; omega, its.drop n, 0, rv.drop n, Heap.get?_push_size _ rfl⟩
    exact h.run pins _ σ _ _ _ Q I3 ((rv.take n).append (.cons (show RelV (V.ref h₂.objs.size) (Value.ref h₂.objs.size) from rfl) .nil)) (hw _ (I2.hok.fresh (Nat.le_refl _)))
  rcases hq with hq | hq
  · obtain ⟨its, rv, ht, hz⟩ := I.tuple hq
    have hsz : its.toArray.size = xs.length := by rw [List.size_toArray, rv.length]
    exact wpAny_bind (wpAny_holding (star_tup (I.ok.hd hc) ht (by omega) (by omega) (fin its rv hz)))
  · obtain ⟨its, rv, ht, hz⟩ := I.list hq
    have hsz : its.toArray.size = xs.length := by rw [List.size_toArray, rv.length]
    exact wpAny_bind (wpAny_holding (star_list (I.ok.hd hc) ht.isList (by omega) (by omega) (fin its rv hz)))
end
end Rp
/- RpExtC -/
set_option maxHeartbeats 4000000
/-! RpExtC: enumerate over a tuple, in a for and in a comprehension. -/
namespace Rp
open PySem PySem.Spec PyProof.Rows L2
/-- the tuple at a, each item in a new pair with its number -/
def IteT (K : PySem.W.Frag) (a : Addr) : It :=
  ⟨fun i H => ∃ (xs : List V) (x : V), SqT K H a xs ∧ xs[i]? = some x,
    fun i H v H' => ∃ T x, v = .ref T ∧ H T = none ∧ H' = upd H T (.tup [.int (i : Nat), x]) ∧ ∀ xs, SqT K H a xs → xs[i]? = some x,
    fun i H => ∃ xs : List V, SqT K H a xs ∧ xs.length = i⟩
theorem turn_enumT {P : Program} {w : World} {K : PySem.W.Frag} {elts : List Expr} {kk : Nat} {tpos : Pos} (a e it : Addr) (hea : e ≠ a) (hai : a ≠ it) :
    Turn P w K (.Tuple elts kk tpos) (IteT K a) [e, it] e (fun i h => (∃ old, IsEnum h e it ((i : Nat) : Int) old) ∧ h.IsTupleIter it a i ∧ e ≠ it) where
  mem := List.mem_cons_self
  obj := fun i h st b hb => by
    obtain ⟨⟨old, he⟩, ⟨o, ho, hc, hd⟩, _⟩ := st
    rcases List.mem_cons.mp hb with z | z
    · subst z
      exact ⟨_, he, fun v q => nomatch q⟩
    · obtain rfl := List.mem_singleton.mp z
      exact ⟨o, ho, fun v q => by rw [hd] at q; cases q⟩
  keep := fun i h h' st k => by
    obtain ⟨⟨old, he⟩, ⟨o, ho, r⟩, hne⟩ := st
    exact ⟨⟨old, k e (by simp) _ he⟩, ⟨o, k it (by simp) o ho, r⟩, hne⟩
  item := by
    intro X hP hw hK hc i pins s σ H E I hf st hg
    subst hP hw hK
    obtain ⟨⟨old, he⟩, hit, hne⟩ := st
    obtain ⟨xs, x, hq, hx⟩ := hg
    obtain ⟨its, rv, p, hz⟩ := I.tuple hq
    obtain ⟨u, hu, ru⟩ := rv.get hx
    have hel : e < s.heap.objs.size := Heap.lt_size he
    have hil : it < s.heap.objs.size := by obtain ⟨_, q, _⟩ := hit; exact Heap.lt_size q
    have hi : i < its.toArray.size := by
      rw [List.size_toArray, ← rv.length]
      exact (List.getElem?_eq_some_iff.mp hx).1
    refine wpAny_pyNext_enum_itemD (Draws.tuple (A := X.A.in1) (I.ok.hd hc) it a hai its.toArray) he ⟨hit, p⟩ hi hne (by simp [hne, hea]) fun y h' tk hy ho hst hT hsz hk => ?_
    have ey : y = u := by
      have q : its.toArray[i]? = some y := hy
      simp only [List.getElem?_toArray] at q
      rw [hu] at q
      exact (Option.some.inj q).symm
    subst ey
    refine ⟨_, rfl, wpAny_letOwnedTupleGo_enum (s := { s with heap := h', toks := tk + 1 }) ho fun h'' he' sb => ?_⟩
    have up : ∀ b o, b ≠ e → h'.get? b = some o → h''.get? b = some o := fun b o hb q => (sb.2 b hb).trans q
    have new : ObjOk X.prog X.w (upd H s.heap.objs.size (.tup [.int (i : Nat), x])) h'' s.heap.objs.size (.tup [.int (i : Nat), x]) :=
      ⟨by show 2 ≤ sizeLine; decide, [.int i tk, y], .cons ⟨_, rfl⟩ (.cons ru .nil), ⟨_, up _ _ (Nat.ne_of_gt hel) hT, rfl, _, rfl⟩⟩
    have I1 : Inv X pins σ (upd H s.heap.objs.size (.tup [.int (i : Nat), x])) { s with heap := h'', toks := tk + 1 } :=
      I.turnedNew (ch := [e, it]) (fun b ob hb q => up b ob (fun z => hb (by simp [z])) (hk b ob (fun z => hb (by simp [z])) (fun z => hb (by simp [z])) q)) hf (Nat.le_refl _) new
    have hlt : ∀ b ∈ [e, it], b < s.heap.objs.size := fun b hb => by
      rcases List.mem_cons.mp hb with z | z
      · rw [z]
        exact hel
      · rw [List.mem_singleton.mp z]
        exact hil
    refine ⟨.ref s.heap.objs.size, _, I1, rfl, ⟨_, x, rfl, I.hok.fresh (Nat.le_refl _), rfl, fun ys hy => by rw [I.tuple_inj hy hq]; exact hx⟩, ⟨⟨y, ?_⟩, ?_, hne⟩, fun b hb => ?_⟩
    · have e1 : ((i + 1 : Nat) : Int) = (i : Int) + 1 := by omega
      rw [e1]
      exact he'
    · obtain ⟨o, ho2, r⟩ := hst.1
      exact ⟨o, up _ _ (Ne.symm hne) ho2, r⟩
    · rw [upd_ne (Nat.ne_of_lt (hlt b hb))]
      exact (hf b hb).1
  done := by
    intro X hP hw hK hc i pins s σ H E I hf st hg
    subst hP hw hK
    obtain ⟨⟨old, he⟩, hit, hne⟩ := st
    obtain ⟨xs, hq, hx⟩ := hg
    obtain ⟨its, rv, p, hz⟩ := I.tuple hq
    obtain ⟨f0, f1, f2, f3, f4, f5⟩ := hf it (by simp)
    have hl := rv.length
    have hi : its.toArray.size = i := by rw [List.size_toArray, ← hl, hx]
    have D := Draws.tuple (prog := X.prog) (w := X.w) (A := X.A.in1) (I.ok.hd hc) it a hai its.toArray
    rw [hi] at D
    exact wpAny_pyNext_enum_endD D he ⟨hit, p⟩ fun h' eb => ⟨rfl, I.turned (t' := s.toks) (fun b o hb q => eb b o hb q) f0 f1 f3 f4 f5⟩
  self := fun A i s Q E st h => let ⟨⟨_, he⟩, _⟩ := st; wpAny_pyIter_enum he h
/-- enumerate(v) makes its two cells, whatever v's iterator is -/
theorem new_enum {v : Value} {o : Obj} {G : Heap → Prop} (B : Begins v o G) :
    Meets (Builtin.«enumerate.__new__» ⟨[.type "enumerate", v], []⟩) (fun _ R s => G s.heap ∧
      R (.ok (.ret (.ref (s.heap.push o).objs.size))) { s with heap := (s.heap.push o).push { cls := .type "enumerate", data := .fields #[.none, .bool false, .ref s.heap.objs.size, rawInt 0, .none, .none] } }) :=
  .of_wp fun prog w A R s h => by
    obtain ⟨hp, g, d, tk, os⟩ := s
    obtain ⟨h1, h⟩ := h
    have hsub := sub_enumerate
    have it : ∀ {A' : Around} {E : Value → Shared → Prop} {Q : Value → Shared → Prop}, Q (.ref hp.objs.size) ⟨hp.push o, g, d, tk, os⟩ → wpAny (model prog w) A' (pyIter v) Q E ⟨hp, g, d, tk, os⟩ :=
      fun q => B.iter prog w _ _ ⟨hp, g, d, tk, os⟩ _ h1 q
    wp_walk using it
    refine wpAny_stack_any fun st => wpAny_pure ?_
    split
    · rename_i c _ _ _ _ _
      cases (c == Value.type "enumerate") <;> (wp_walk using it; exact ⟨_, rfl, h⟩)
    · wp_walk using it
      exact ⟨_, rfl, h⟩
theorem call_enumB {prog : Program} {w : World} {A : Around} {E : Value → Shared → Prop} {s : Shared} {v : Value} {o : Obj} {G : Heap → Prop} {Q : Value → Shared → Prop} (B : Begins v o G) (hG : G s.heap)
    (h : ∀ h', IsEnum h' (s.heap.objs.size + 1) s.heap.objs.size 0 .none → h'.get? s.heap.objs.size = some o → h'.objs.size = s.heap.objs.size + 2 →
      (∀ b o, s.heap.get? b = some o → h'.get? b = some o) → Q (.ref (s.heap.objs.size + 1)) { s with heap := h' }) :
    wpAny (model prog w) A (call (.type "enumerate") [v]) Q E s := by
  refine callType_new F.called_enumerate (by decide) (F.typeCall_enumerate_1 _) (F.newCall_enumerate_1 _) (fun obj => F.args_object_init_2 obj _) F.entry_enumerate_new (new_enum B) ⟨hG, ?_⟩
  have hz : (s.heap.push o).objs.size = s.heap.objs.size + 1 := Heap.size_push ..
  show _ ∧ _
  rw [hz]
  have he : IsEnum ((s.heap.push o).push { cls := .type "enumerate", data := .fields #[.none, .bool false, .ref s.heap.objs.size, rawInt 0, .none, .none] }) (s.heap.objs.size + 1) s.heap.objs.size 0 .none := by
    have q := Heap.get?_push_size (s.heap.push o) (o := { cls := .type "enumerate", data := .fields #[.none, .bool false, .ref s.heap.objs.size, rawInt 0, .none, .none] }) rfl
    rw [hz] at q
    exact q
  exact ⟨⟨_, he, rfl⟩, h _ he (Heap.get?_push_of_some _ (Heap.get?_push_size _ B.free)) (by rw [Heap.size_push, hz]) fun b o x => Heap.get?_push_of_some _ (Heap.get?_push_of_some _ x)⟩
theorem call_enumT {prog : Program} {w : World} {A : Around} {E : Value → Shared → Prop} {s : Shared} {l : Addr} {items : Array Value} {Q : Value → Shared → Prop} (hL : s.heap.IsTuple l items)
    (h : ∀ h', IsEnum h' (s.heap.objs.size + 1) s.heap.objs.size 0 .none → h'.IsTupleIter s.heap.objs.size l 0 → h'.objs.size = s.heap.objs.size + 2 →
      (∀ b o, s.heap.get? b = some o → h'.get? b = some o) → Q (.ref (s.heap.objs.size + 1)) { s with heap := h' }) :
    wpAny (model prog w) A (call (.type "enumerate") [.ref l]) Q E s :=
  call_enumB (begins_tuple l items) hL fun h' he ho hz hk => h h' he ⟨_, ho, rfl, rfl⟩ hz hk
def iEnumT (K : PySem.W.Frag) (ta : TA) : TI := fun σ H R => ta σ H fun vs H1 => ∃ a xs, vs = [.ref a] ∧ SqT K H1 a xs ∧ R (IteT K a) H1
theorem pi_enumT {X : Cx} {e : Expr} {ta : TA} {p pos tpos : Pos} {elts : List Expr} {kk : Nat} (hg : Gl X "enumerate") (hm : X.mg "enumerate" = none) (ha : PA X [e] ta) (hs : starEach [e] X.env = [(false, eval e X.env)] := by rfl) :
    PI X (.Tuple elts kk tpos) (.Call (.Name "enumerate" p) [e] [] pos) (iEnumT X.K ta) := by
  refine ⟨fun pins s σ H R I h => ?_⟩
  refine Call_ (ld_blt I hg hm boot_enumerate (PyProof.Rows.callWith_type1 (thn (ha.run pos pins s σ H _ I h) fun us s1 ⟨vs, H1, I1, r1, q1⟩ => ?_) hs rfl))
  obtain ⟨a, xs, ex, hq, q⟩ := q1
  subst ex
  obtain ⟨its, rv, p', hz⟩ := I1.tuple hq
  rw [Vals.ref1 r1]
  have hal : a < s1.heap.objs.size := by obtain ⟨o, ho, _⟩ := p'; exact Heap.lt_size ho
  refine call_enumT p' fun h' he hit hsz hk => wpAny_pyIter_enum he ?_
  have I2 : Inv X pins σ H1 { s1 with heap := h' } := I1.kept (t' := s1.toks) hk
  refine ⟨s1.heap.objs.size + 1, [s1.heap.objs.size + 1, s1.heap.objs.size], _, _, H1, rfl, I2, turn_enumT a (s1.heap.objs.size + 1) s1.heap.objs.size (Nat.ne_of_gt (Nat.lt_succ_of_lt hal)) (Nat.ne_of_lt hal), ⟨⟨.none, he⟩, hit, Nat.succ_ne_self _⟩, fun b hb => ?_, q⟩
  have hle : s1.heap.objs.size ≤ b := by
    rcases List.mem_cons.mp hb with z | z
    · rw [z]
      exact Nat.le_succ _
    · rw [List.mem_singleton.mp z]
      exact Nat.le_refl _
  exact I1.fpOk hle (I1.hok.fresh hle)
theorem walk_enumT {K : PySem.W.Frag} {a : Addr} {xs : List V} : Walk (IteT K a) xs.length (fun H => SqT K H a xs) (YPair (fun i => some (.int (i : Nat))) (fun i => xs[i]?)) :=
  ⟨fun i H hi h => ⟨xs, xs[i], h, List.getElem?_eq_getElem hi⟩, fun H h => ⟨xs, h, rfl⟩, fun i H v H' hi h ⟨T, x, e1, e2, e3, e4⟩ => ⟨T, .int (i : Nat), x, e1, e2, e3, rfl, e4 xs h⟩⟩
end Rp
/- RpExtD -/
set_option maxHeartbeats 4000000
/-! RpExtD: enumerate(zip(a, b)) over two tuples. -/
namespace Rp
open PySem PySem.Spec PyProof.Rows L2
/-! ### a zip whose last pair may still be out -/
abbrev ZObj (h : Heap) (z TI TO : Addr) (f0 : Value) (f : Bool) : Prop :=
  h.get? z = some { cls := .type "zip", dict := none, data := .fields #[f0, .bool f, .bool false, .ref TI, .ref TO], slots := #[] }
def ZAt (h : Heap) (z TI TO : Addr) : Prop := ∃ f0 f, ZObj h z TI TO f0 f ∧ (f0 = .none ∨ ∃ T : Nat, f0 = rawInt T)
def PairAt (h : Heap) (T : Addr) : Prop := ∃ a b, IsPair h T a b
section
variable {prog : Program} {w : World} {A : Around} {E : Value → Shared → Prop} {s : Shared}
theorem alive_any {a : Addr} {Q : Option Obj → Shared → Prop} (h : Q (s.heap.get? a) s) : wpAny (model prog w) A (loadIfAlive a) Q E s := fun _ _ _ => h
/-- is the pair free: either, with one field turned -/
theorem z_free {z TI TO : Addr} {f0 : Value} {f : Bool} {Q : Bool → Shared → Prop} (hz : ZObj s.heap z TI TO f0 f) (h0 : f0 = .none ∨ ∃ T : Nat, f0 = rawInt T)
    (h : ∀ b h' f', ZObj h' z TI TO f0 f' → Heap.SameBut z s.heap h' → Q b { s with heap := h' }) : wpAny (model prog w) A (Builtin.SmallTypes.ownedTupleIsFree (.ref z)) Q E s := by
  unfold Builtin.SmallTypes.ownedTupleIsFree
  refine wpAny_bind (wpAny_field hz rfl (x := f0) rfl ?_)
  rcases h0 with rfl | ⟨T, rfl⟩
  · exact wpAny_pure (h true s.heap f hz (Heap.SameBut.refl _ _))
  · show wpAny _ _ (loadIfAlive ((T : Int).toNat) >>= _) _ _ _
    rw [Int.toNat_natCast]
    refine wpAny_bind (alive_any ?_)
    cases hT : s.heap.get? T with
    | none =>
      simp only [Option.isNone_none, if_true]
      exact wpAny_pure (h true s.heap f hz (Heap.SameBut.refl _ _))
    | some oT =>
      simp only [Option.isNone_some, Bool.false_eq_true, if_false]
      refine wpAny_bind (wpAny_field hz rfl (x := .bool f) rfl ?_)
      cases f with
      | true =>
        rw [if_neg (show ¬ ((Value.bool true != Value.bool true) = true) from Bool.false_ne_true)]
        exact wpAny_pure (h false s.heap true hz (Heap.SameBut.refl _ _))
      | false =>
        rw [if_pos (show (Value.bool false != Value.bool true) = true from rfl)]
        exact wpAny_bind (wpAny_setField_rec hz (by simp) fun h₁ hz₁ hs₁ => wpAny_pure (h false h₁ true hz₁ hs₁))
theorem zip_any_item {z TI TO i1 i2 l1 l2 : Addr} {k1 k2 : Nat} {xs ys : Array Value} {x y : Value} {Q : Value → Shared → Prop} (D : ZipApart z TI TO i1 i2 l1 l2)
    (hz : ZAt s.heap z TI TO) (hTI : IsPair s.heap TI (.ref i1) (.ref i2)) (hTO : PairAt s.heap TO)
    (h1 : s.heap.IsTupleIter i1 l1 k1) (h2 : s.heap.IsTupleIter i2 l2 k2) (hl1 : s.heap.IsTuple l1 xs) (hl2 : s.heap.IsTuple l2 ys) (hx : xs[k1]? = some x) (hy : ys[k2]? = some y)
    (hQ : ∀ h', ZAt h' z TI TO → PairAt h' TO → h'.IsTupleIter i1 l1 (k1 + 1) → h'.IsTupleIter i2 l2 (k2 + 1) → IsPair h' s.heap.objs.size x y → h'.objs.size = s.heap.objs.size + 1 →
      (∀ c o, c ≠ z → c ≠ TO → c ≠ i1 → c ≠ i2 → s.heap.get? c = some o → h'.get? c = some o) → Q (.ref s.heap.objs.size) { s with heap := h' }) :
    wpAny (model prog w) A (Builtin.«zip.__next__» ⟨[.ref z], []⟩) (fun fin s' => ∃ v, fin = .done (.ret v) ∧ Q v s') E s := by
  obtain ⟨f0, f, hz, h0⟩ := hz
  obtain ⟨a, b, hTO⟩ := hTO
  show wpAny _ _ (field (.ref z) 2 >>= _) _ _ _
  refine wpAny_bind (wpAny_field hz rfl (x := .bool false) rfl ?_)
  show wpAny _ _ (field (.ref z) 3 >>= _) _ _ _
  refine wpAny_bind (wpAny_field hz rfl (x := .ref TI) rfl ?_)
  refine wpAny_bind (wpAny_seqItems hTI rfl ?_)
  show wpAny _ _ (Builtin.SmallTypes.ownedTupleIsFree (.ref z) >>= _) _ _ _
  refine wpAny_bind (z_free hz h0 fun free g f' hz0 hs0 => ?_)
  -- what stood stands still
  have hTO0 : IsPair g TO a b := hs0.extBut _ _ D.TOz hTO
  have h10 := h1.extBut hs0.extBut D.i1z
  have h20 := h2.extBut hs0.extBut D.i2z
  have hl10 := hl1.extBut hs0.extBut D.l1z
  have hl20 := hl2.extBut hs0.extBut D.l2z
  cases free with
  | true =>
    simp only [if_true]
    refine wpAny_bind (wpAny_rule ?_)
    refine wpAny_bind (wpAny_field (s := { s with heap := g }) hz0 rfl (x := .ref TO) rfl ?_)
    refine wpAny_bind (wpAny_setField_rec (s := { s with heap := g }) hz0 (by simp) fun h₁ hz₁ hs₁ => ?_)
    replace hz₁ : ZObj h₁ z TI TO .ellipsis f' := hz₁
    refine wpAny_bind ?_
    simp only [List.zipIdx_cons, List.zipIdx_nil, List.forIn_cons, List.forIn_nil]
    refine wpAny_bind (wpAny_bind (wpAny_onRaise ?_))
    show wpAny _ _ (Builtin.SmallTypes.nextOf (.ref i1) >>= _) _ _ _
    refine wpAny_bind (RZ.nextOf_tuple_item (s := { s with heap := h₁ }) (h10.extBut hs₁.extBut D.i1z) (hl10.extBut hs₁.extBut D.l1z) hx fun h₂ h1₂ hs₂ => wpAny_pure ?_)
    have hTO₂ : IsPair h₂ TO a b := hs₂.extBut _ _ D.TOi1 (hs₁.extBut _ _ D.TOz hTO0)
    refine wpAny_bind (wpAny_seqItems (s := { s with heap := h₂ }) hTO₂ rfl ?_)
    refine wpAny_bind (wpAny_updateSeq_pair (s := { s with heap := h₂ }) hTO₂ fun h₃ hTO₃ hs₃ => ?_)
    replace hTO₃ : IsPair h₃ TO x b := hTO₃
    refine wpAny_bind (wpAny_letGo (wpAny_pure ?_))
    refine wpAny_bind (wpAny_bind (wpAny_onRaise ?_))
    show wpAny _ _ (Builtin.SmallTypes.nextOf (.ref i2) >>= _) _ _ _
    refine wpAny_bind (RZ.nextOf_tuple_item (s := { s with heap := h₃ }) (((h20.extBut hs₁.extBut D.i2z).extBut hs₂.extBut D.i12.symm).extBut hs₃.extBut D.TOi2.symm)
      (((hl20.extBut hs₁.extBut D.l2z).extBut hs₂.extBut D.l2i1).extBut hs₃.extBut D.l2TO) hy fun h₄ h2₄ hs₄ => wpAny_pure ?_)
    have hTO₄ : IsPair h₄ TO x b := hs₄.extBut _ _ D.TOi2 hTO₃
    refine wpAny_bind (wpAny_seqItems (s := { s with heap := h₄ }) hTO₄ rfl ?_)
    refine wpAny_bind (wpAny_updateSeq_pair (s := { s with heap := h₄ }) hTO₄ fun h₅ hTO₅ hs₅ => ?_)
    replace hTO₅ : IsPair h₅ TO x y := hTO₅
    refine wpAny_bind (wpAny_letGo (wpAny_pure (wpAny_pure ?_)))
    refine wpAny_bind (wpAny_seqItems (s := { s with heap := h₅ }) hTO₅ rfl ?_)
    refine wpAny_bind (wpAny_newTuple ?_)
    have hsz : h₅.objs.size = s.heap.objs.size := by rw [hs₅.1, hs₄.1, hs₃.1, hs₂.1, hs₁.1, hs0.1]
    have hz₅ : ZObj h₅ z TI TO .ellipsis f' := hs₅.extBut _ _ D.TOz.symm (hs₄.extBut _ _ D.i2z.symm (hs₃.extBut _ _ D.TOz.symm (hs₂.extBut _ _ D.i1z.symm hz₁)))
    have hk₅ : ∀ c o, c ≠ z → c ≠ TO → c ≠ i1 → c ≠ i2 → s.heap.get? c = some o → h₅.get? c = some o := fun c o c1 c2 c3 c4 e =>
      hs₅.extBut _ _ c2 (hs₄.extBut _ _ c4 (hs₃.extBut _ _ c2 (hs₂.extBut _ _ c3 (hs₁.extBut _ _ c1 (hs0.extBut _ _ c1 e)))))
    have h1₅ : h₅.IsTupleIter i1 l1 (k1 + 1) := ((h1₂.extBut hs₃.extBut D.TOi1.symm).extBut hs₄.extBut D.i12).extBut hs₅.extBut D.TOi1.symm
    have h2₅ : h₅.IsTupleIter i2 l2 (k2 + 1) := h2₄.extBut hs₅.extBut D.TOi2.symm
    have hzlt : z < h₅.objs.size := Heap.lt_size hz₅
    show wpAny _ _ (Builtin.SmallTypes.ownedTupleHandOut (.ref z) (.ref h₅.objs.size) >>= _) _ _ _
    refine wpAny_bind ?_
    unfold Builtin.SmallTypes.ownedTupleHandOut
    have hz₆ : ZObj (h₅.push { cls := .type "tuple", data := .seq #[x, y] }) z TI TO .ellipsis f' := Heap.get?_push_of_some _ hz₅
    refine wpAny_bind (wpAny_setField_rec hz₆ (by simp) fun h₇ hz₇ hs₇ => ?_)
    replace hz₇ : ZObj h₇ z TI TO (rawInt h₅.objs.size) f' := hz₇
    refine wpAny_setField_rec hz₇ (by simp) fun h₈ hz₈ hs₈ => ?_
    replace hz₈ : ZObj h₈ z TI TO (rawInt h₅.objs.size) false := hz₈
    have up : ∀ c o, c ≠ z → h₅.get? c = some o → h₈.get? c = some o := fun c o c1 e => hs₈.extBut _ _ c1 (hs₇.extBut _ _ c1 (Heap.get?_push_of_some _ e))
    have hT₈ : IsPair h₈ h₅.objs.size x y := hs₈.extBut _ _ (Nat.ne_of_gt hzlt) (hs₇.extBut _ _ (Nat.ne_of_gt hzlt) (Heap.get?_push_size _ rfl))
    have hz8 : h₈.objs.size = h₅.objs.size + 1 := by rw [hs₈.1, hs₇.1, Heap.size_push]
    rw [hsz] at hz₈ hT₈ hz8
    refine wpAny_pure ⟨_, rfl, ?_⟩
    show Q (.ref h₅.objs.size) _
    rw [hsz]
    exact hQ h₈ ⟨_, _, hz₈, .inr ⟨_, rfl⟩⟩ ⟨_, _, up _ _ D.TOz hTO₅⟩ (h1₅.at fun o e => up _ o D.i1z e) (h2₅.at fun o e => up _ o D.i2z e) hT₈ hz8 fun c o c1 c2 c3 c4 e => up c o c1 (hk₅ c o c1 c2 c3 c4 e)
  | false =>
    simp only [Bool.false_eq_true, if_false]
    refine wpAny_bind ?_
    rw [← Array.forIn_toList]
    simp only [List.forIn_cons, List.forIn_nil]
    refine wpAny_bind (wpAny_bind (wpAny_holding ?_))
    show wpAny _ _ (Builtin.SmallTypes.nextOf (.ref i1) >>= _) _ _ _
    refine wpAny_bind (RZ.nextOf_tuple_item (s := { s with heap := g }) h10 hl10 hx fun h₂ h1₂ hs₂ => wpAny_pure ?_)
    refine wpAny_pure ?_
    refine wpAny_bind (wpAny_bind (wpAny_holding ?_))
    show wpAny _ _ (Builtin.SmallTypes.nextOf (.ref i2) >>= _) _ _ _
    refine wpAny_bind (RZ.nextOf_tuple_item (s := { s with heap := h₂ }) (h20.extBut hs₂.extBut D.i12.symm) (hl20.extBut hs₂.extBut D.l2i1) hy fun h₃ h2₃ hs₃ => wpAny_pure ?_)
    refine wpAny_pure (wpAny_pure ?_)
    show wpAny _ _ (newTuple [x, y] >>= _) _ _ _
    refine wpAny_bind (wpAny_newTuple ?_)
    have hsz : h₃.objs.size = s.heap.objs.size := by rw [hs₃.1, hs₂.1, hs0.1]
    have hz₃ : ZObj h₃ z TI TO f0 f' := hs₃.extBut _ _ D.i2z.symm (hs₂.extBut _ _ D.i1z.symm hz0)
    have hk : ∀ c o, c ≠ z → c ≠ i1 → c ≠ i2 → s.heap.get? c = some o → h₃.get? c = some o := fun c o c1 c2 c3 e => hs₃.extBut _ _ c3 (hs₂.extBut _ _ c2 (hs0.extBut _ _ c1 e))
    have h1₃ : h₃.IsTupleIter i1 l1 (k1 + 1) := h1₂.extBut hs₃.extBut D.i12
    refine wpAny_pure ⟨_, rfl, ?_⟩
    show Q (.ref h₃.objs.size) _
    have hp : IsPair (h₃.push { cls := .type "tuple", data := .seq #[x, y] }) h₃.objs.size x y := Heap.get?_push_size _ rfl
    have hz4 : (h₃.push { cls := .type "tuple", data := .seq #[x, y] }).objs.size = h₃.objs.size + 1 := Heap.size_push ..
    rw [hsz] at hp hz4 ⊢
    exact hQ _ ⟨_, _, Heap.get?_push_of_some _ hz₃, h0⟩ ⟨a, b, Heap.get?_push_of_some _ (hk TO _ D.TOz D.TOi1 D.TOi2 hTO)⟩ (h1₃.at fun o e => Heap.get?_push_of_some _ e) (h2₃.at fun o e => Heap.get?_push_of_some _ e) hp hz4 fun c o c1 _ c2 c3 e => Heap.get?_push_of_some _ (hk c o c1 c2 c3 e)
/-- both are at their ends -/
theorem zip_any_end {z TI TO i1 i2 l1 l2 : Addr} {k1 k2 : Nat} {xs ys : Array Value} {Q : Fin → Shared → Prop} (hh : A.handled = none) (D : ZipApart z TI TO i1 i2 l1 l2)
    (hz : ZAt s.heap z TI TO) (hTI : IsPair s.heap TI (.ref i1) (.ref i2)) (hTO : PairAt s.heap TO)
    (h1 : s.heap.IsTupleIter i1 l1 k1) (hl1 : s.heap.IsTuple l1 xs) (hx : xs[k1]? = none)
    (hE : ∀ h' e, (∀ c o, c ≠ z → c ≠ TO → c ≠ i1 → c ≠ i2 → s.heap.get? c = some o → h'.get? c = some o) → (∃ o, h'.get? e = some o ∧ o.cls = .type "StopIteration") → E (.ref e) { s with heap := h' }) :
    wpAny (model prog w) A (Builtin.«zip.__next__» ⟨[.ref z], []⟩) Q E s := by
  obtain ⟨f0, f, hz, h0⟩ := hz
  obtain ⟨a, b, hTO⟩ := hTO
  show wpAny _ _ (field (.ref z) 2 >>= _) _ _ _
  refine wpAny_bind (wpAny_field hz rfl (x := .bool false) rfl ?_)
  show wpAny _ _ (field (.ref z) 3 >>= _) _ _ _
  refine wpAny_bind (wpAny_field hz rfl (x := .ref TI) rfl ?_)
  refine wpAny_bind (wpAny_seqItems hTI rfl ?_)
  show wpAny _ _ (Builtin.SmallTypes.ownedTupleIsFree (.ref z) >>= _) _ _ _
  refine wpAny_bind (z_free hz h0 fun free g f' hz0 hs0 => ?_)
  have h10 := h1.extBut hs0.extBut D.i1z
  have hl10 := hl1.extBut hs0.extBut D.l1z
  cases free with
  | true =>
    simp only [if_true]
    refine wpAny_bind (wpAny_rule ?_)
    refine wpAny_bind (wpAny_field (s := { s with heap := g }) hz0 rfl (x := .ref TO) rfl ?_)
    refine wpAny_bind (wpAny_setField_rec (s := { s with heap := g }) hz0 (by simp) fun h₁ hz₁ hs₁ => ?_)
    replace hz₁ : ZObj h₁ z TI TO .ellipsis f' := hz₁
    refine wpAny_bind ?_
    simp only [List.zipIdx_cons, List.zipIdx_nil, List.forIn_cons, List.forIn_nil]
    refine wpAny_bind (wpAny_bind (wpAny_onRaise ?_))
    show wpAny _ _ (Builtin.SmallTypes.nextOf (.ref i1) >>= _) _ _ _
    refine wpAny_bind (RZ.nextOf_tuple_end (s := { s with heap := h₁ }) hh (h10.extBut hs₁.extBut D.i1z) (hl10.extBut hs₁.extBut D.l1z) hx fun h₂ e hs₂ he => ?_)
    obtain ⟨oe, hoe, hce⟩ := he
    have hz₂ : ZObj h₂ z TI TO .ellipsis f' := hs₂ _ _ D.i1z.symm hz₁
    have hez : e ≠ z := fun q => by
      subst q
      rw [hz₂] at hoe
      cases hoe
      simp at hce
    exact wpAny_setField_rec (s := { s with heap := h₂ }) hz₂ (by simp) fun h₃ _ hs₃ => hE h₃ e (fun c o c1 _ c3 _ q => hs₃.extBut _ _ c1 (hs₂ _ _ c3 (hs₁.extBut _ _ c1 (hs0.extBut _ _ c1 q)))) ⟨oe, hs₃.extBut _ _ hez hoe, hce⟩
  | false =>
    simp only [Bool.false_eq_true, if_false]
    refine wpAny_bind ?_
    rw [← Array.forIn_toList]
    simp only [List.forIn_cons, List.forIn_nil]
    refine wpAny_bind (wpAny_bind (wpAny_holding ?_))
    show wpAny _ _ (Builtin.SmallTypes.nextOf (.ref i1) >>= _) _ _ _
    refine wpAny_bind (RZ.nextOf_tuple_end (s := { s with heap := g }) hh h10 hl10 hx fun h₂ e hs₂ he => ?_)
    exact hE h₂ e (fun c o c1 _ c2 _ q => hs₂ _ _ c2 (hs0.extBut _ _ c1 q)) he
/-! ### enumerate over an iterator of any kind -/
theorem enum_any_item {e it : Addr} {c : Int} {old : Value} {Z : Value → Heap → Nat → Prop} {Q : Option Value → Shared → Prop} (he : IsEnum s.heap e it c old)
    (hin : ∀ (Q1 : Value → Shared → Prop) (E1 : Value → Shared → Prop), (∀ x h₁ tk, Z x h₁ tk → Q1 x { s with heap := h₁, toks := tk }) → wpAny (model prog w) A.in1 (Builtin.SmallTypes.nextOf (.ref it)) Q1 E1 s)
    (hZ : ∀ x h₁ tk, Z x h₁ tk → IsEnum h₁ e it c old)
    (hQ : ∀ x h₁ tk h', Z x h₁ tk → IsEnumOut h' e it (c + 1) x h₁.objs.size → h'.get? h₁.objs.size = some { cls := .type "tuple", data := .seq #[.int c tk, x] } →
      (∀ b o, b ≠ e → h₁.get? b = some o → h'.get? b = some o) → Q (some (.ref h₁.objs.size)) { s with heap := h', toks := tk + 1 }) :
    wpAny (model prog w) A (pyNext (.ref e)) Q E s := by
  have hT : s.TypeIs (.ref e) "enumerate" := ⟨_, he, rfl⟩
  unfold pyNext
  refine wpAny_bind (wpAny_attempt (wpAny_callSpecial?_slot (name := Str.ofString "__next__") hT F.slot_enumerate_next
    (wpAny_call_entry F.slot_enumerate_next hT F.entry_enumerate_next ?_ (F.args_enumerate_next_1 _))))
  obtain ⟨hp, g, d, tk₀, os⟩ := s
  show wpAny _ _ (field (.ref e) 2 >>= _) _ _ _
  refine wpAny_bind (wpAny_field he rfl (x := .ref it) rfl ?_)
  refine wpAny_bind (hin _ _ fun x h₁ tk hx => ?_)
  have he₁ : IsEnum h₁ e it c old := hZ x h₁ tk hx
  show wpAny _ _ (field (.ref e) 3 >>= _) _ _ ⟨h₁, g, d, tk, os⟩
  refine wpAny_bind (wpAny_field he₁ rfl (x := rawInt c) rfl ?_)
  show wpAny _ _ (field (.ref e) 4 >>= _) _ _ ⟨h₁, g, d, tk, os⟩
  refine wpAny_bind (wpAny_field he₁ rfl (x := .none) rfl ?_)
  show wpAny _ _ (mkInt c >>= _) _ _ ⟨h₁, g, d, tk, os⟩
  refine wpAny_bind (wpAny_mkInt ?_)
  show wpAny _ _ (setField (.ref e) 3 (rawInt (c + 1)) >>= _) _ _ ⟨h₁, g, d, tk + 1, os⟩
  refine wpAny_bind (wpAny_setField_rec he₁ (by simp) fun h₂ he₂ hs₂ => ?_)
  replace hs₂ : Heap.SameBut e h₁ h₂ := hs₂
  replace he₂ : IsEnum h₂ e it (c + 1) old := he₂
  show wpAny _ _ (setField (.ref e) 4 .none >>= _) _ _ ⟨h₂, g, d, tk + 1, os⟩
  refine wpAny_bind (wpAny_setField_rec he₂ (by simp) fun h₃ he₃ hs₃ => ?_)
  replace hs₃ : Heap.SameBut e h₂ h₃ := hs₃
  replace he₃ : IsEnum h₃ e it (c + 1) old := he₃
  show wpAny _ _ (newTuple [.int c tk, x] >>= _) _ _ ⟨h₃, g, d, tk + 1, os⟩
  refine wpAny_bind (wpAny_newTuple ?_)
  have hsz : h₃.objs.size = h₁.objs.size := by rw [hs₃.1, hs₂.1]
  have he₄ : IsEnum (h₃.push { cls := .type "tuple", data := .seq #[.int c tk, x] }) e it (c + 1) old := Heap.get?_push_of_some _ he₃
  have hel : e < h₁.objs.size := Heap.lt_size he₁
  have hT₄ : (h₃.push { cls := .type "tuple", data := .seq #[.int c tk, x] }).get? h₁.objs.size = some { cls := .type "tuple", data := .seq #[.int c tk, x] } := by
    rw [← hsz]
    exact Heap.get?_push_size _ rfl
  have hk₄ : ∀ b o, b ≠ e → h₁.get? b = some o → (h₃.push { cls := .type "tuple", data := .seq #[.int c tk, x] }).get? b = some o := fun b o hb q => Heap.get?_push_of_some _ (hs₃.extBut b o hb (hs₂.extBut b o hb q))
  generalize h₃.push { cls := .type "tuple", data := .seq #[.int c tk, x] } = h₄ at he₄ hT₄ hk₄
  show wpAny _ _ (Builtin.SmallTypes.ownedTupleIsFree (.ref e) >>= _) _ _ ⟨h₄, g, d, tk + 1, os⟩
  rw [hsz]
  refine wpAny_bind ?_
  unfold Builtin.SmallTypes.ownedTupleIsFree
  refine wpAny_bind (wpAny_field he₄ rfl (x := .none) rfl (wpAny_pure ?_))
  simp only [if_true]
  refine wpAny_bind (wpAny_rule ?_)
  refine wpAny_bind (wpAny_field he₄ rfl (x := old) rfl ?_)
  refine wpAny_bind (wpAny_setField_rec he₄ (by simp) fun h₅ he₅ hs₅ => ?_)
  replace hs₅ : Heap.SameBut e h₄ h₅ := hs₅
  replace he₅ : IsEnum h₅ e it (c + 1) x := he₅
  show wpAny _ _ (Builtin.SmallTypes.ownedTupleHandOut (.ref e) (.ref h₁.objs.size) >>= _) _ _ ⟨h₅, g, d, tk + 1, os⟩
  refine wpAny_bind ?_
  unfold Builtin.SmallTypes.ownedTupleHandOut
  refine wpAny_bind (wpAny_setField_rec he₅ (by simp) fun h₆ he₆ hs₆ => ?_)
  replace hs₆ : Heap.SameBut e h₅ h₆ := hs₆
  replace he₆ : IsEnumOut h₆ e it (c + 1) x h₁.objs.size := he₆
  refine wpAny_setField_rec he₆ (by simp) fun h₇ he₇ hs₇ => ?_
  replace hs₇ : Heap.SameBut e h₆ h₇ := hs₇
  replace he₇ : IsEnumOut h₇ e it (c + 1) x h₁.objs.size := he₇
  have up : ∀ b o, b ≠ e → h₄.get? b = some o → h₇.get? b = some o := fun b o hb q => hs₇.extBut b o hb (hs₆.extBut b o hb (hs₅.extBut b o hb q))
  exact wpAny_bind (wpAny_letGo (wpAny_pure ⟨_, rfl, wpAny_pure (hQ x h₁ tk h₇ hx he₇ (up _ _ (Nat.ne_of_gt hel) hT₄) fun b o hb q => up b o hb (hk₄ b o hb q))⟩))
theorem enum_any_end {e it : Addr} {c : Int} {old : Value} {Q : Option Value → Shared → Prop} {R : Heap → Prop} (he : IsEnum s.heap e it c old)
    (hin : ∀ (Q1 : Value → Shared → Prop) (E1 : Value → Shared → Prop), (∀ h' x, R h' → (∃ o, h'.get? x = some o ∧ o.cls = .type "StopIteration") → E1 (.ref x) { s with heap := h' }) → wpAny (model prog w) A.in1 (Builtin.SmallTypes.nextOf (.ref it)) Q1 E1 s)
    (hQ : ∀ h', R h' → Q none { s with heap := h' }) : wpAny (model prog w) A (pyNext (.ref e)) Q E s := by
  have hT : s.TypeIs (.ref e) "enumerate" := ⟨_, he, rfl⟩
  unfold pyNext
  refine wpAny_bind (wpAny_attempt (wpAny_callSpecial?_slot (name := Str.ofString "__next__") hT F.slot_enumerate_next
    (wpAny_call_entry F.slot_enumerate_next hT F.entry_enumerate_next ?_ (F.args_enumerate_next_1 _))))
  show wpAny _ _ (field (.ref e) 2 >>= _) _ _ _
  refine wpAny_bind (wpAny_field he rfl (x := .ref it) rfl ?_)
  refine wpAny_bind (hin _ _ fun h' x hr ⟨o, ho, hc⟩ => ?_)
  refine wpAny_bind (wpAny_isInstance (T := "StopIteration") (b := true) ⟨o, ho, hc⟩ isSubtype_stop ?_)
  exact wpAny_pure (hQ _ hr)
/-- next of a zip, from within -/
theorem nextOf_zip {z : Addr} {TI TO : Addr} {Q : Value → Shared → Prop} (hz : ZAt s.heap z TI TO) (h : wpAny (model prog w) A.in1 (Builtin.«zip.__next__» ⟨[.ref z], []⟩) (fun fin s' => ∃ v, fin = .done (.ret v) ∧ Q v s') E s) :
    wpAny (model prog w) A (Builtin.SmallTypes.nextOf (.ref z)) Q E s := by
  obtain ⟨f0, f, hz, _⟩ := hz
  have hT : s.TypeIs (.ref z) "zip" := ⟨_, hz, rfl⟩
  unfold Builtin.SmallTypes.nextOf
  refine wpAny_bind (wpAny_callSpecial?_slot (name := Str.ofString "__next__") hT F.slot_zip_next (wpAny_call_entry F.slot_zip_next hT F.entry_zip_next ?_ (F.args_zip_next_1 _)))
  refine wpAny_mono h (fun fin s' ⟨v, e, q⟩ => ⟨v, e, wpAny_pure q⟩) fun _ _ q => q
end
/-! ### the walk -/
/-- the tuples at a and b: their items in new pairs, each in a new pair with its number -/
def IteZ (K : PySem.W.Frag) (a b : Addr) : It :=
  ⟨fun i H => ∃ (xs ys : List V) (x y : V), SqT K H a xs ∧ SqT K H b ys ∧ xs[i]? = some x ∧ ys[i]? = some y,
    fun i H v H' => ∃ T U x y, v = .ref T ∧ H U = none ∧ upd H U (.tup [x, y]) T = none ∧ H' = upd (upd H U (.tup [x, y])) T (.tup [.int (i : Nat), .ref U]) ∧ (∀ xs, SqT K H a xs → xs[i]? = some x) ∧ ∀ ys, SqT K H b ys → ys[i]? = some y,
    fun i H => ∃ xs : List V, SqT K H a xs ∧ xs.length ≤ i⟩
structure ZSt (a b e z TI TO i1 i2 : Addr) (i : Nat) (h : Heap) : Prop where
  en : ∃ old, IsEnum h e z ((i : Nat) : Int) old
  zz : ZAt h z TI TO
  ti : IsPair h TI (.ref i1) (.ref i2)
  to : PairAt h TO
  h1 : h.IsTupleIter i1 a i
  h2 : h.IsTupleIter i2 b i
theorem turn_enumZ {P : Program} {w : World} {K : PySem.W.Frag} {elts : List Expr} {kk : Nat} {tpos : Pos} {a b e z TI TO i1 i2 : Addr} (D : ZipApart z TI TO i1 i2 a b) (ne : e ∉ [z, TI, TO, i1, i2, a, b]) :
    Turn P w K (.Tuple elts kk tpos) (IteZ K a b) [e, z, TI, TO, i1, i2] e (ZSt a b e z TI TO i1 i2) where
  mem := List.mem_cons_self
  obj := fun i h st c hc => by
    obtain ⟨⟨old, he⟩, ⟨f0, f, hz, _⟩, hTI, ⟨x, y, hTO⟩, ⟨o1, e1, _, d1⟩, ⟨o2, e2, _, d2⟩⟩ := st
    have e' : c = e ∨ c = z ∨ c = TI ∨ c = TO ∨ c = i1 ∨ c = i2 := by simpa using hc
    rcases e' with q | q | q | q | q | q <;> subst q
    · exact ⟨_, he, fun v q => nomatch q⟩
    · exact ⟨_, hz, fun v q => nomatch q⟩
    · exact ⟨_, hTI, fun v q => nomatch q⟩
    · exact ⟨_, hTO, fun v q => nomatch q⟩
    · exact ⟨o1, e1, fun v q => by rw [d1] at q; cases q⟩
    · exact ⟨o2, e2, fun v q => by rw [d2] at q; cases q⟩
  keep := fun i h h' st k => by
    obtain ⟨⟨old, he⟩, ⟨f0, f, hz, h0⟩, hTI, ⟨x, y, hTO⟩, ⟨o1, e1, r1⟩, ⟨o2, e2, r2⟩⟩ := st
    exact ⟨⟨old, k e (by simp) _ he⟩, ⟨f0, f, k z (by simp) _ hz, h0⟩, k TI (by simp) _ hTI, ⟨x, y, k TO (by simp) _ hTO⟩, ⟨o1, k i1 (by simp) _ e1, r1⟩, ⟨o2, k i2 (by simp) _ e2, r2⟩⟩
  item := by
    intro X hP hw hK hc i pins s σ H E I hf st hg
    subst hP hw hK
    obtain ⟨⟨old, he⟩, hz, hTI, hTO, h1, h2⟩ := st
    obtain ⟨xs, ys, x, y, hqx, hqy, hx, hy⟩ := hg
    obtain ⟨its, rv, p, _⟩ := I.tuple hqx
    obtain ⟨its2, rv2, p2, _⟩ := I.tuple hqy
    obtain ⟨u, hu, ru⟩ := rv.get hx
    obtain ⟨u2, hu2, ru2⟩ := rv2.get hy
    simp only [List.mem_cons, List.mem_nil_iff, or_false, not_or] at ne
    obtain ⟨n1, n2, n3, n4, n5, n6, n7⟩ := ne
    have hlt : ∀ c ∈ [e, z, TI, TO, i1, i2], c < s.heap.objs.size := fun c hcm => by
      have e' : c = e ∨ c = z ∨ c = TI ∨ c = TO ∨ c = i1 ∨ c = i2 := by simpa using hcm
      rcases e' with q | q | q | q | q | q <;> subst q
      · exact Heap.lt_size he
      · obtain ⟨_, _, q, _⟩ := hz
        exact Heap.lt_size q
      · exact Heap.lt_size hTI
      · obtain ⟨_, _, q⟩ := hTO
        exact Heap.lt_size q
      · obtain ⟨_, q, _⟩ := h1
        exact Heap.lt_size q
      · obtain ⟨_, q, _⟩ := h2
        exact Heap.lt_size q
    refine enum_any_item (Z := fun v h₁ tk => v = .ref s.heap.objs.size ∧ tk = s.toks ∧ ZAt h₁ z TI TO ∧ PairAt h₁ TO ∧ h₁.IsTupleIter i1 a (i + 1) ∧ h₁.IsTupleIter i2 b (i + 1) ∧ IsPair h₁ s.heap.objs.size u u2 ∧ h₁.objs.size = s.heap.objs.size + 1 ∧
        ∀ c o, c ≠ z → c ≠ TO → c ≠ i1 → c ≠ i2 → s.heap.get? c = some o → h₁.get? c = some o) he (fun Q1 E1 hq => ?_) (fun v h₁ tk hz => ?_) fun v h₁ tk h' hzz ho hT hk => ?_
    · refine nextOf_zip hz (zip_any_item D hz hTI hTO h1 h2 p p2 (by simpa using hu) (by simpa using hu2) fun g a1 a2 a3 a4 a5 a6 a7 => ?_)
      exact hq _ g s.toks ⟨rfl, rfl, a1, a2, a3, a4, a5, a6, a7⟩
    · exact hz.2.2.2.2.2.2.2.2 e _ n1 n3 n4 n5 he
    · obtain ⟨rfl, rfl, z1, t1, j1, j2, pr, sz, kp⟩ := hzz
      -- the pair of the zip
      have new1 : ObjOk X.prog X.w (upd H s.heap.objs.size (.tup [x, y])) h₁ s.heap.objs.size (.tup [x, y]) := ⟨by show 2 ≤ sizeLine; decide, [u, u2], .cons ru (.cons ru2 .nil), ⟨_, pr, rfl, _, rfl⟩⟩
      have I1 : Inv X pins σ (upd H s.heap.objs.size (.tup [x, y])) { s with heap := h₁, toks := s.toks } :=
        I.turnedNew (ch := [e, z, TI, TO, i1, i2]) (fun c o hb q => kp c o (fun z => hb (by simp [z])) (fun z => hb (by simp [z])) (fun z => hb (by simp [z])) (fun z => hb (by simp [z])) q) hf (Nat.le_refl _) new1
      have hf1 : ∀ c ∈ [e], FpOk X pins (upd H s.heap.objs.size (.tup [x, y])) c := fun c hcm => by
        have hc2 := List.mem_singleton.mp hcm
        subst hc2
        obtain ⟨f0, fr⟩ := hf c (by simp)
        exact ⟨by rw [upd_ne (Nat.ne_of_lt (hlt c (by simp)))]; exact f0, fr⟩
      refine ⟨_, rfl, wpAny_letOwnedTupleGo_enum (s := { s with heap := h', toks := s.toks + 1 }) ho fun h'' he' sb => ?_⟩
      have up : ∀ c o, c ≠ e → h'.get? c = some o → h''.get? c = some o := fun c o hb q => (sb.2 c hb).trans q
      have hel : e < h₁.objs.size := by
        rw [sz]
        exact Nat.lt_succ_of_lt (Heap.lt_size he)
      have new2 : ObjOk X.prog X.w (upd (upd H s.heap.objs.size (.tup [x, y])) h₁.objs.size (.tup [.int (i : Nat), .ref s.heap.objs.size])) h'' h₁.objs.size (.tup [.int (i : Nat), .ref s.heap.objs.size]) :=
        ⟨by show 2 ≤ sizeLine; decide, [.int i s.toks, .ref s.heap.objs.size], .cons ⟨_, rfl⟩ (.cons rfl .nil), ⟨_, up _ _ (Nat.ne_of_gt hel) hT, rfl, _, rfl⟩⟩
      have I2 : Inv X pins σ (upd (upd H s.heap.objs.size (.tup [x, y])) h₁.objs.size (.tup [.int (i : Nat), .ref s.heap.objs.size])) { s with heap := h'', toks := s.toks + 1 } :=
        I1.turnedNew (ch := [e]) (fun c o hb q => up c o (fun z => hb (by simp [z])) (hk c o (fun z => hb (by simp [z])) q)) hf1 (Nat.le_refl _) new2
      have kk2 : ∀ c o, c ≠ e → h₁.get? c = some o → h''.get? c = some o := fun c o hb q => up c o hb (hk c o hb q)
      have e1 : ((i + 1 : Nat) : Int) = (i : Int) + 1 := by omega
      rw [← e1] at he'
      have m1 : H s.heap.objs.size = none := I.hok.fresh (P := X.prog) (w := X.w) (Nat.le_refl _)
      have m2 : upd H s.heap.objs.size (.tup [x, y]) h₁.objs.size = none := I1.hok.fresh (P := X.prog) (w := X.w) (Nat.le_refl _)
      refine ⟨.ref h₁.objs.size, _, I2, rfl, ⟨h₁.objs.size, s.heap.objs.size, x, y, rfl, m1, m2, rfl, fun l hl => by rw [I.tuple_inj hl hqx]; exact hx, fun l hl => by rw [I.tuple_inj hl hqy]; exact hy⟩, ⟨⟨_, he'⟩, ?_, ?_, ?_, ?_, ?_⟩, fun c hcm => ?_⟩
      · obtain ⟨f0, f, q, h0⟩ := z1
        exact ⟨f0, f, kk2 _ _ (Ne.symm n1) q, h0⟩
      · exact kk2 _ _ (Ne.symm n2) (kp _ _ D.TIz D.TITO D.TIi1 D.TIi2 hTI)
      · obtain ⟨x', y', q⟩ := t1
        exact ⟨x', y', kk2 _ _ (Ne.symm n3) q⟩
      · obtain ⟨o, q, r⟩ := j1
        exact ⟨o, kk2 _ _ (Ne.symm n4) q, r⟩
      · obtain ⟨o, q, r⟩ := j2
        exact ⟨o, kk2 _ _ (Ne.symm n5) q, r⟩
      · have l1 := hlt c hcm
        have l2 : c < h₁.objs.size := by
          rw [sz]
          exact Nat.lt_succ_of_lt l1
        rw [upd_ne (Nat.ne_of_lt l2), upd_ne (Nat.ne_of_lt l1)]
        exact (hf c hcm).1
  done := by
    intro X hP hw hK hc i pins s σ H E I hf st hg
    subst hP hw hK
    obtain ⟨⟨old, he⟩, hz, hTI, hTO, h1, h2⟩ := st
    obtain ⟨xs, hqx, hx⟩ := hg
    obtain ⟨its, rv, p, _⟩ := I.tuple hqx
    refine enum_any_end (R := fun h' => ∀ c o, c ≠ z → c ≠ TO → c ≠ i1 → c ≠ i2 → s.heap.get? c = some o → h'.get? c = some o) he (fun Q1 E1 hq => ?_) fun h' kp => ⟨rfl, ?_⟩
    · exact nextOf_zip hz (zip_any_end (ys := #[]) (k2 := 0) (I.ok.hd hc) D hz hTI hTO h1 p (by simp only [List.getElem?_toArray]; exact List.getElem?_eq_none (by rw [← rv.length]; exact hx)) fun h' x kp hx => hq h' x kp hx)
    · exact I.turnedL (t' := s.toks) (ch := [e, z, TI, TO, i1, i2]) (fun c o hb q => kp c o (fun z => hb (by simp [z])) (fun z => hb (by simp [z])) (fun z => hb (by simp [z])) (fun z => hb (by simp [z])) q) hf
  self := fun A i s Q E st h => by
    obtain ⟨⟨_, he⟩, _⟩ := st
    exact wpAny_pyIter_enum he h
theorem walk_enumZ {K : PySem.W.Frag} {a b : Addr} {xs ys : List V} (hl : xs.length = ys.length) : Walk (IteZ K a b) xs.length (fun H => SqT K H a xs ∧ SqT K H b ys)
    (fun i H v H' => ∃ T U x y, v = .ref T ∧ H U = none ∧ upd H U (.tup [x, y]) T = none ∧ H' = upd (upd H U (.tup [x, y])) T (.tup [.int (i : Nat), .ref U]) ∧ xs[i]? = some x ∧ ys[i]? = some y) :=
  ⟨fun i H hi h => ⟨xs, ys, xs[i], ys[i]'(hl ▸ hi), h.1, h.2, List.getElem?_eq_getElem hi, List.getElem?_eq_getElem (hl ▸ hi)⟩, fun H h => ⟨xs, h.1, Nat.le_refl _⟩,
    fun i H v H' hi h ⟨T, U, x, y, e1, e2, e3, e4, e5, e6⟩ => ⟨T, U, x, y, e1, e2, e3, e4, e5 xs h.1, e6 ys h.2⟩⟩
/-- enumerate over a zip makes its cell alone: a zip is its own iterator -/
theorem new_enumZ {z : Addr} : Meets (Builtin.«enumerate.__new__» ⟨[.type "enumerate", .ref z], []⟩) (fun _ R s => (∃ TI f0, IsZip s.heap z TI TI f0 ∨ ∃ TO, IsZip s.heap z TI TO f0) ∧
      R (.ok (.ret (.ref s.heap.objs.size))) { s with heap := s.heap.push { cls := .type "enumerate", data := .fields #[.none, .bool false, .ref z, rawInt 0, .none, .none] } }) :=
  .of_wp fun prog w A R s h => by
    obtain ⟨hp, g, d, tk, os⟩ := s
    obtain ⟨h1, h⟩ := h
    have hsub := sub_enumerate
    have it : ∀ {A' : Around} {E : Value → Shared → Prop} {Q : Value → Shared → Prop}, Q (.ref z) ⟨hp, g, d, tk, os⟩ → wpAny (model prog w) A' (pyIter (.ref z)) Q E ⟨hp, g, d, tk, os⟩ := by
      intro A' E Q q
      obtain ⟨TI, f0, h1 | ⟨TO, h1⟩⟩ := h1
      · exact wpAny_pyIter_zip h1 q
      · exact wpAny_pyIter_zip h1 q
    wp_walk using it
    refine wpAny_stack_any fun st => wpAny_pure ?_
    split
    · rename_i c _ _ _ _ _
      cases (c == Value.type "enumerate") <;> (wp_walk using it; exact ⟨_, rfl, h⟩)
    · wp_walk using it
      exact ⟨_, rfl, h⟩
theorem call_enumZ {prog : Program} {w : World} {A : Around} {E : Value → Shared → Prop} {s : Shared} {z TI TO : Addr} {f0 : Value} {Q : Value → Shared → Prop} (hz : IsZip s.heap z TI TO f0)
    (h : ∀ h', IsEnum h' s.heap.objs.size z 0 .none → h'.objs.size = s.heap.objs.size + 1 → (∀ b o, s.heap.get? b = some o → h'.get? b = some o) → Q (.ref s.heap.objs.size) { s with heap := h' }) :
    wpAny (model prog w) A (call (.type "enumerate") [.ref z]) Q E s := by
  refine callType_new F.called_enumerate (by decide) (F.typeCall_enumerate_1 _) (F.newCall_enumerate_1 _) (fun obj => F.args_object_init_2 obj _) F.entry_enumerate_new (new_enumZ (z := z)) ⟨⟨TI, f0, .inr ⟨TO, hz⟩⟩, ?_⟩
  have he : IsEnum (s.heap.push { cls := .type "enumerate", data := .fields #[.none, .bool false, .ref z, rawInt 0, .none, .none] }) s.heap.objs.size z 0 .none := Heap.get?_push_size s.heap rfl
  exact ⟨⟨_, he, rfl⟩, h _ he (Heap.size_push ..) fun b o x => Heap.get?_push_of_some _ x⟩
def iEnumZ (K : PySem.W.Frag) (ta : TA) : TI := fun σ H R => ta σ H fun vs H1 => ∃ a b xs ys, vs = [.ref a, .ref b] ∧ SqT K H1 a xs ∧ SqT K H1 b ys ∧ R (IteZ K a b) H1
/-- enumerate(zip(a, b)) over tuples, where a loop walks it -/
theorem pi_enumZ {X : Cx} {e e2 : Expr} {ta : TA} {p p2 pos pos2 tpos : Pos} {elts : List Expr} {kk : Nat} (hg : Gl X "enumerate") (hm : X.mg "enumerate" = none) (hg2 : Gl X "zip") (hm2 : X.mg "zip" = none) (ha : PA X [e, e2] ta)
    (hs : starEach [e, e2] X.env = (false, eval e X.env) :: starEach [e2] X.env := by rfl) (hpl : (backTo pos (starEach [e2] X.env)).any (·.1) = false := by rfl)
    (hs2 : starEach [Expr.Call (.Name "zip" p) [e, e2] [] pos] X.env = [(false, eval (Expr.Call (.Name "zip" p) [e, e2] [] pos) X.env)] := by rfl) :
    PI X (.Tuple elts kk tpos) (.Call (.Name "enumerate" p2) [.Call (.Name "zip" p) [e, e2] [] pos] [] pos2) (iEnumZ X.K ta) := by
  refine ⟨fun pins s σ H R I h => ?_⟩
  refine Call_ (ld_blt I hg hm boot_enumerate (PyProof.Rows.callWith_type1 ?_ hs2 rfl))
  show wpAny _ _ (spliced ((false, eval (Expr.Call (.Name "zip" p) [e, e2] [] pos) X.env) :: backTo pos2 (starEach [] X.env))) _ _ s
  refine Calls.spliced_cons (Call_ (ld_blt I hg2 hm2 PyProof.Rows.boot_zip (PyProof.Rows.callWith_type1 (thn (ha.run pos pins s σ H _ I h) fun us s1 ⟨vs, H1, I1, r1, q1⟩ => ?_) hs hpl)))
  obtain ⟨a, b, xs, ys, ex, hqx, hqy, q⟩ := q1
  subst ex
  cases r1 with
  | cons r rr =>
    cases rr with
    | cons r' rr =>
      cases rr
      cases r
      cases r'
      obtain ⟨its, rv, p1, _⟩ := I1.tuple hqx
      obtain ⟨its2, rv2, p2, _⟩ := I1.tuple hqy
      obtain ⟨o1, ho1, _⟩ := id p1
      obtain ⟨o2, ho2, _⟩ := id p2
      have la := Heap.lt_size ho1
      have lb := Heap.lt_size ho2
      refine RZ.call_zipT (show s1.heap.IsTuple a its.toArray from p1) (show s1.heap.IsTuple b its2.toArray from p2) fun h' hz hTI hTO h1 h2 hsz hk => Calls.spliced_nil ?_
      refine call_enumZ hz fun h'' he sz2 hk2 => wpAny_pyIter_enum he ?_
      have e5 : h'.objs.size = s1.heap.objs.size + 5 := hsz
      have I2 : Inv X pins σ H1 { s1 with heap := h'' } := I1.kept (t' := s1.toks) fun b o q => hk2 b o (hk b o q)
      have n5 : h'.objs.size ∉ [s1.heap.objs.size + 4, s1.heap.objs.size + 2, s1.heap.objs.size + 3, s1.heap.objs.size, s1.heap.objs.size + 1, a, b] := fun z => by
        rw [e5] at z
        simp only [List.mem_cons, List.mem_nil_iff, or_false] at z
        have la' : a < s1.heap.objs.size := la
        have lb' : b < s1.heap.objs.size := lb
        rcases z with z | z | z | z | z | z | z
        all_goals first | exact absurd (Nat.add_left_cancel z) (by decide) | skip
        · exact absurd z (Nat.ne_of_gt (Nat.lt_add_of_pos_right (by decide)))
        · exact absurd z.symm (Nat.ne_of_lt (Nat.lt_of_lt_of_le la' (Nat.le_add_right _ _)))
        · exact absurd z.symm (Nat.ne_of_lt (Nat.lt_of_lt_of_le lb' (Nat.le_add_right _ _)))
      refine ⟨h'.objs.size, [h'.objs.size, s1.heap.objs.size + 4, s1.heap.objs.size + 2, s1.heap.objs.size + 3, s1.heap.objs.size, s1.heap.objs.size + 1], _, _, H1, rfl, I2, turn_enumZ (PySem.W.ktu_apart s1.heap.objs.size a b la lb) n5,
        ⟨⟨_, he⟩, ⟨_, _, hk2 _ _ hz, Or.inl rfl⟩, hk2 _ _ hTI, ⟨_, _, hk2 _ _ hTO⟩, ?_, ?_⟩, fun c hcm => ?_, q⟩
      · obtain ⟨o, z1, z2⟩ := h1
        exact ⟨o, hk2 _ _ z1, z2⟩
      · obtain ⟨o, z1, z2⟩ := h2
        exact ⟨o, hk2 _ _ z1, z2⟩
      · have hle : s1.heap.objs.size ≤ c := by
          have e' : c = h'.objs.size ∨ c = s1.heap.objs.size + 4 ∨ c = s1.heap.objs.size + 2 ∨ c = s1.heap.objs.size + 3 ∨ c = s1.heap.objs.size ∨ c = s1.heap.objs.size + 1 := by simpa using hcm
          rcases e' with z | z | z | z | z | z
          · rw [z, e5]; exact Nat.le_add_right _ _
          · rw [z]; exact Nat.le_add_right _ _
          · rw [z]; exact Nat.le_add_right _ _
          · rw [z]; exact Nat.le_add_right _ _
          · rw [z]; exact Nat.le_refl _
          · rw [z]; exact Nat.le_add_right _ _
        exact I1.fpOk hle (I1.hok.fresh hle)
end Rp
/- RpExtE -/
set_option maxHeartbeats 4000000
/-! RpExtE: closures that are handed out: their cells told behind the maker's return; called where the heap grew since. -/
namespace Rp
open PySem PySem.Spec PyProof.Rows L2 LamX NdefX
/-- the cell at c holds the object at a -/
def cellO (c a : Addr) : HO := .ext fun h => h.IsCell c (some (.ref a))
theorem cellO_at {P : Program} {w : World} {H : Hp} {h : Heap} {c a : Addr} (hok : HOk P w H h) (e : H c = some (cellO c a)) : h.IsCell c (some (.ref a)) := (hok c _ e).1
theorem cellO_ok {P : Program} {w : World} {H : Hp} {h : Heap} {c a : Addr} (z : h.IsCell c (some (.ref a))) : ObjOk P w H h c (cellO c a) := by
  obtain ⟨o, ho, hd⟩ := z
  exact ⟨⟨o, ho, hd⟩, ⟨o, ho⟩, fun h1 h2 ⟨o, ho, hd⟩ st => ⟨o, st _ ho, hd⟩⟩
/-! ### a frame with cells of its own and captured ones -/
theorem cellsFrom_app : ∀ (names : List (Str × NameKind)) (n : Nat) (acc : List (Str × Addr)), cellsFrom n names acc = cellsFrom n names [] ++ acc
  | [], _, _ => rfl
  | (y, kd) :: r, n, acc => by
    unfold cellsFrom
    split
    · rw [cellsFrom_app r (n + 1) ((y, n) :: acc), cellsFrom_app r (n + 1) [(y, n)], List.append_assoc]
      rfl
    · exact cellsFrom_app r n acc
theorem cellsFrom_in : ∀ {names : List (Str × NameKind)} {n : Nat} {acc : List (Str × Addr)} {y : Str} {c : Addr}, (y, c) ∈ cellsFrom n names acc → (y, NameKind.cell) ∈ names ∨ (y, c) ∈ acc
  | [], _, _, _, _, h => .inr h
  | (z, kd) :: r, n, acc, y, c, h => by
    unfold cellsFrom at h
    split at h
    · rename_i q
      rcases cellsFrom_in h with z | z
      · exact .inl (List.mem_cons_of_mem _ z)
      · rcases List.mem_cons.mp z with e | z
        · cases e
          exact .inl (by rw [show kd = .cell from by simpa using q]; exact List.mem_cons_self)
        · exact .inr z
    · rcases cellsFrom_in h with z | z
      · exact .inl (List.mem_cons_of_mem _ z)
      · exact .inr z
/-- its names: the parameter, then the captured ones, then all others -/
structure CScope (N : List Str) (p : Str) (fr : List Str) (sc : Scope) : Prop where
  kind : sc.kind = .function
  co : sc.isCoroutine = false
  gen : sc.isGenerator = false
  nd : N.Nodup
  pre : N.take (1 + fr.length) = p :: fr
  par : sc.names.lookup p = some .local ∨ sc.names.lookup p = some .cell
  free : ∀ y ∈ sc.names, y.2 = .free → y.1 ∈ fr
  frk : ∀ x ∈ fr, sc.names.lookup x = some .free
  apart : ∀ y ∈ sc.names, y.2 = .cell → y.1 ∉ fr
def cscB (N : List Str) (p : Str) (fr : List Str) (sc : Scope) : Bool :=
  decide (sc.kind = .function) && !sc.isCoroutine && !sc.isGenerator && decide N.Nodup && decide (N.take (1 + fr.length) = p :: fr) && (decide (sc.names.lookup p = some .local) || decide (sc.names.lookup p = some .cell)) &&
  sc.names.all (fun y => !decide (y.2 = .free) || decide (y.1 ∈ fr)) && fr.all (fun x => decide (sc.names.lookup x = some .free)) && sc.names.all (fun y => !decide (y.2 = .cell) || !decide (y.1 ∈ fr))
theorem cscope_by {N : List Str} {p : Str} {fr : List Str} {sc : Scope} (h : cscB N p fr sc = true) : CScope N p fr sc := by
  unfold cscB at h
  simp only [Bool.and_eq_true, Bool.not_eq_true', decide_eq_true_eq, List.all_eq_true, Bool.or_eq_true, decide_eq_false_iff_not] at h
  obtain ⟨⟨⟨⟨⟨⟨⟨⟨h1, h2⟩, h3⟩, h4⟩, h5⟩, h6⟩, h7⟩, h8⟩, h9⟩ := h
  exact ⟨h1, h2, h3, h4, h5, h6, fun y hy e => (h7 y hy).elim (fun z => absurd e z) id, h8, fun y hy e => (h9 y hy).elim (fun z => absurd e z) id⟩
abbrev envG (qual : Str) (scope : Scope) (L f c : Addr) (cl : List (Str × Addr)) : Env := PySem.W.envX qual scope L f (.ref c) (cellsFrom (L + 1) scope.names cl)
def ccx (CX : CXT) (P : Program) (w : World) (K : PySem.W.Frag) (mg : Str → Option Value) (base : Heap) (N : List Str) (qual : Str) (scope : Scope) (f c : Addr) (cl : List (Str × Addr)) (A : Around) (outer : List Env) (s : Shared) (H : Hp) (E : XK) : Cx where
  prog := P
  w := w
  K := K
  mg := mg
  base := base
  A := A.deeper (envG qual scope s.heap.objs.size f c cl)
  N := N
  s_0 := s
  H_0 := H
  env := envG qual scope s.heap.objs.size f c cl
  outer := outer
  stack := envG qual scope s.heap.objs.size f c cl :: outer
  ex := []
  calm := true
  fn := fun y => decide (scope.names.lookup y = some .cell)
  pn := []
  xe := fun e s' => wpAny (model P w) (A.deeper (envG qual scope s.heap.objs.size f c cl)) (leaving (envG qual scope s.heap.objs.size f c cl) e) (fun _ s'' => CX outer H s E e s'') (fun e' s'' => CX outer H s E e' s'') s'
section
variable {CX : CXT} {P : Program} {w : World} {K : PySem.W.Frag} {mg : Str → Option Value} {base : Heap} {N fr : List Str} {p qual : Str} {scope : Scope} {cl : List (Str × Addr)} {f c : Addr} {A A' : Around} {outer : List Env} {s : Shared} {H : Hp} {E : XK} {u : Value} {v : V} {ws : List (Option V)}
theorem enter_both {Q : Env → Shared → Prop} {Ex : Value → Shared → Prop} {M : Model} (S : CScope N p fr scope) (hd : A.handled = none) (e0 : Env0 P w K mg base A outer s H) (r : RelV v u) (C : CellsAt cl fr ws s.heap H)
    (hQ : ∀ s1, s1.heap.NoLimit → Inv (ccx CX P w K mg base N qual scope f c cl A outer s H E) [] (startF N [v] ws) H s1 → Q (envG qual scope s.heap.objs.size f c cl) s1) :
    wpAny M A' (newFunctionEnv scope mainGlobals cl [(p, u)] (qual ++ ".<locals>.") (some f) (.ref c) none builtinsNs) Q Ex s := by
  simp only [newFunctionEnv, Option.isSome_none, Bool.false_eq_true, if_false]
  refine wpAny_bind (wpAny_alloc ?_)
  refine wpAny_bind (wpAny_layCells _ (fun name kind cells => by cases hkc : kind == NameKind.cell <;> simp [hkc]) _ _ _ _ ?_)
  have ok := cellsFrom_ok scope.names (s.heap.push { cls := .type "frame", data := .dict #[] }) (s.heap.objs.size + 1) [] ⟨fun _ _ hm => (nomatch hm), List.Pairwise.nil⟩ (by rw [Heap.size_push]; exact Nat.le_refl _)
  rw [Heap.size_push] at ok
  rw [show ({ s with heap := s.heap.push { cls := .type "frame", data := .dict #[] } } : Shared).heap.objs.size = s.heap.objs.size + 1 from Heap.size_push ..]
  have kp : ∀ b o, s.heap.get? b = some o → (pushCells (s.heap.push { cls := .type "frame", data := .dict #[] }) scope.names).get? b = some o := fun b o e => pushCells_keeps _ _ b o (Heap.get?_push_of_some _ e)
  have lim : s.heap.NoLimit := e0.mod.nolimit.keeps fun b o e => (e0.bs b o e).1
  have cellK : ∀ {c : Addr} {v : Option Value}, s.heap.IsCell c v → (pushCells (s.heap.push { cls := .type "frame", data := .dict #[] }) scope.names).IsCell c v := fun {c v} ⟨o, ho, hd⟩ => ⟨o, kp _ _ ho, hd⟩
  have eA : cellsFrom (s.heap.objs.size + 1) scope.names cl = cellsFrom (s.heap.objs.size + 1) scope.names [] ++ cl := cellsFrom_app _ _ _
  have look : ∀ {y c}, (cellsFrom (s.heap.objs.size + 1) scope.names cl).lookup y = some c → (cellsFrom (s.heap.objs.size + 1) scope.names []).lookup y = some c ∨ ((cellsFrom (s.heap.objs.size + 1) scope.names []).lookup y = none ∧ cl.lookup y = some c) := fun {y c} e => by
    rw [eA, List.lookup_append] at e
    cases q : (cellsFrom (s.heap.objs.size + 1) scope.names []).lookup y with
    | some c' =>
      rw [q] at e
      exact .inl e
    | none =>
      rw [q] at e
      exact .inr ⟨rfl, e⟩
  have own : ∀ {y c}, (cellsFrom (s.heap.objs.size + 1) scope.names []).lookup y = some c → (cellsFrom (s.heap.objs.size + 1) scope.names cl).lookup y = some c := fun {y c} e => by
    rw [eA, List.lookup_append, e]
    rfl
  have frc : ∀ {y c}, y ∈ fr → cl.lookup y = some c → (cellsFrom (s.heap.objs.size + 1) scope.names cl).lookup y = some c := fun {y c} hy e => by
    rw [eA, List.lookup_append]
    cases q : (cellsFrom (s.heap.objs.size + 1) scope.names []).lookup y with
    | some c' =>
      rcases cellsFrom_in (PySem.mem_of_lookup q) with z | z
      · exact absurd hy (S.apart _ z rfl)
      · cases z
    | none => exact e
  have inOwn : ∀ {y c}, (cellsFrom (s.heap.objs.size + 1) scope.names []).lookup y = some c → (pushCells (s.heap.push { cls := .type "frame", data := .dict #[] }) scope.names).IsCell c none ∧ s.heap.objs.size < c := fun {y c} e => ok.empty y c (PySem.mem_of_lookup e)
  have clLt : ∀ {y c}, cl.lookup y = some c → c < s.heap.objs.size := fun {y c} e => by
    obtain ⟨_, v, z⟩ := C.all y c e
    exact z.lt
  have noA : ∀ b : Addr, b ∉ (ccx CX P w K mg base N qual scope f c cl A outer s H E).ex := fun b z => absurd (show b ∈ ([] : List Addr) from z) (by simp)
  have hpl : 1 + fr.length ≤ N.length := by
    have q := congrArg List.length S.pre
    rw [List.length_take, List.length_cons] at q
    omega
  have clen := C.len
  have e0N : N[0]? = some p := by
    have q : (N.take (1 + fr.length))[0]? = some p := by rw [S.pre] <;> rfl
    rwa [List.getElem?_take_of_lt (by omega)] at q
  have I0 : Inv (ccx CX P w K mg base N qual scope f c cl A outer s H E) [] (none :: (ws ++ List.replicate (N.length - 1 - ws.length) none)) H { s with heap := pushCells (s.heap.push { cls := .type "frame", data := .dict #[] }) scope.names } := by
    refine ⟨⟨e0.mod, S.kind, rfl, rfl, Nat.le_refl _, fun x y c e1 e2 => ?_, fun y hy => ?_, fun y c z e => ?_, fun _ => hd, Around.frames_deeper e0.frames, .inr ⟨rfl, rfl⟩, fun b z => absurd z (noA b), e0.bs, e0.bsz, fun b _ _ => noA b,
        fun b z => absurd z (noA b), e0.funs, e0.frf⟩,
      rfl, e0.bare, Un.kept kp, ⟨_, (Heap.Ns.new s.heap (.type "frame")).keeps (pushCells_keeps _ _), fun i y v' e1 e2 e3 => ?_⟩, fun y c e => ?_, e0.hok.fresh (Nat.le_refl _), fun y c e => ?_, fun q hq => absurd (show q ∈ ([] : List (Addr × Obj)) ++ [] from hq) (by simp), e0.hok.kept kp, ?_⟩
    · rcases look e1 with q1 | ⟨_, q1⟩ <;> rcases look e2 with q2 | ⟨_, q2⟩
      · exact PySem.name_of_addr ok.apart (PySem.mem_of_lookup q1) (PySem.mem_of_lookup q2)
      · exact absurd (Nat.lt_trans (inOwn q1).2 (clLt q2)) (Nat.lt_irrefl _)
      · exact absurd (Nat.lt_trans (inOwn q2).2 (clLt q1)) (Nat.lt_irrefl _)
      · exact C.inj x y c q1 q2
    · have hy : scope.names.lookup y = some .cell ∨ scope.names.lookup y = some .free := hy
      rcases hy with hy | hy
      · obtain ⟨c, e⟩ := cell_has (n := s.heap.objs.size + 1) hy
        exact ⟨c, own e⟩
      · have hm := S.free _ (PySem.mem_of_lookup hy) rfl
        obtain ⟨i, hi⟩ := List.mem_iff_getElem?.mp hm
        obtain ⟨c, hc, _⟩ := C.has i y hi
        exact ⟨c, frc hm hc⟩
    · have z : scope.names.lookup y = some .cell := of_decide_eq_true z
      obtain ⟨c', e'⟩ := cell_has (n := s.heap.objs.size + 1) z
      have e2 := own e'
      have e : (cellsFrom (s.heap.objs.size + 1) scope.names cl).lookup y = some c := e
      rw [e2] at e
      cases e
      exact Nat.le_of_lt (inOwn e').2
    · have e1 : N[i]? = some y := e1
      cases i with
      | zero =>
        have e2 : (some none : Option (Option V)) = some (some v') := e2
        cases e2
      | succ j =>
        rw [List.getElem?_cons_succ] at e2
        by_cases h2 : j < fr.length
        · have hq : (p :: fr)[j + 1]? = some y := by
            rw [← S.pre, List.getElem?_take_of_lt (by omega)]
            exact e1
          rw [List.getElem?_cons_succ] at hq
          rw [List.getElem?_append_left (by omega)] at e2
          obtain ⟨c, hc, hv⟩ := C.has j y hq
          obtain ⟨u', ru, hu⟩ := hv v' e2
          exact ⟨u', ru, .inr ⟨.inr (S.frk y (List.mem_of_getElem? hq)), c, frc (List.mem_of_getElem? hq) hc, cellK hu⟩⟩
        · rw [List.getElem?_append_right (by omega), List.getElem?_replicate] at e2
          split at e2 <;> cases e2
    · rcases look e with q | ⟨_, q⟩
      · exact ⟨_, (inOwn q).1⟩
      · obtain ⟨v', z⟩ := (C.all y c q).2
        exact ⟨v', cellK z⟩
    · rcases look e with q | ⟨_, q⟩
      · exact e0.hok.fresh (Nat.le_of_lt (inOwn q).2)
      · exact (C.all y c q).1
    · show _ = N.length
      simp only [List.length_cons, List.length_append, List.length_replicate]
      omega
  refine wpAny_bind ?_
  rw [List.forIn_cons]
  refine wpAny_bind (wpAny_bind (store_ok (i := 0) (v := v) I0 S.nd e0N S.par r (fun s' J => ?_) ?_))
  · refine wpAny_pure ?_
    simp only [List.forIn_nil]
    exact wpAny_pure (wpAny_pure (hQ s' J.nolimit J))
  · rcases S.par with q | q
    · exact .inr q
    · exact .inl (decide_eq_true q)
end
/-! ### the promise of such a function -/
section
variable {P : Program} {w : World} {K : PySem.W.Frag} {mg : Str → Option Value} {base : Heap}
/-- all that is tracked stays, but for what ex names and the tables -/
def KeepX (ex : Addr → Prop) (H H' : Hp) : Prop := ∀ b o, H b = some o → ¬ ex b → (∀ ps, o ≠ .tbl ps) → H' b = some o
theorem KeepX.refl {ex : Addr → Prop} (H : Hp) : KeepX ex H H := fun _ _ h _ _ => h
theorem KeepX.trans {ex : Addr → Prop} {H H1 H2 : Hp} (a : KeepX ex H H1) (b : KeepX ex H1 H2) : KeepX ex H H2 := fun c o h n t => b c o (a c o h n t) n t
theorem KeepX.ofN {ex : Addr → Prop} {H H1 : Hp} (a : ExtN H H1) : KeepX ex H H1 := fun c o h _ t => a c o h t
theorem KeepX.of {ex : Addr → Prop} {H H1 : Hp} (a : ∀ b o, H b = some o → H1 b = some o) : KeepX ex H H1 := fun c o h _ _ => a c o h
def CRun (P : Program) (w : World) (K : PySem.W.Frag) (mg : Str → Option Value) (base : Heap) (k : Nat) (H : Hp) (f : Addr) (sp : Sp) : Prop :=
  ∀ (A : Around) (outer : List Env) (s : Shared) (us : List Value) (vs : List V) (Q : VK) (E : XK), Room k A → Env0 P w K mg base A outer s H → Vals vs us → sp vs H Q E → codeAny (model P w) A (.call (.ref f) ⟨us, []⟩) (CR CX0 outer P w H s Q E) s
def IsFn (P : Program) (w : World) (H : Hp) (f : Addr) : Prop := ∀ h, HOk P w H h → ∃ (fd : FuncData) (od : Option Addr) (sl : Array (Option Value)), h.get? f = some ⟨.type "function", od, .func fd, sl⟩
/-- the function at f keeps its promise in H, and in each heap that H grows to -/
def Clo (P : Program) (w : World) (K : PySem.W.Frag) (mg : Str → Option Value) (base : Heap) (k : Nat) (ex : Addr → Prop) (H : Hp) (f : Addr) (sp : Sp) : Prop :=
  ∀ H', KeepX ex H H' → IsFn P w H' f ∧ CRun P w K mg base k H' f sp
theorem Clo.grow {k : Nat} {ex : Addr → Prop} {H H' : Hp} {f : Addr} {sp : Sp} (c : Clo P w K mg base k ex H f sp) (e : KeepX ex H H') : Clo P w K mg base k ex H' f sp := fun H2 e2 => c H2 (e.trans e2)
theorem Clo.mono {j k : Nat} {ex : Addr → Prop} {H : Hp} {f : Addr} {sp : Sp} (c : Clo P w K mg base j ex H f sp) (h : j ≤ k) : Clo P w K mg base k ex H f sp := fun H2 e2 =>
  ⟨(c H2 e2).1, fun A outer s us vs Q E hr => (c H2 e2).2 A outer s us vs Q E (hr.mono h)⟩
theorem Clo.imp {k : Nat} {ex : Addr → Prop} {H : Hp} {f : Addr} {sp sp' : Sp} (c : Clo P w K mg base k ex H f sp) (h : ∀ vs H Q E, sp' vs H Q E → sp vs H Q E) : Clo P w K mg base k ex H f sp' := fun H2 e2 =>
  ⟨(c H2 e2).1, fun A outer s us vs Q E hr e0 r q => (c H2 e2).2 A outer s us vs Q E hr e0 r (h _ _ _ _ q)⟩
/-- one argument that meets Pre; a result that meets Post, and all that was tracked stays -/
def spC {ι : Type} (Pre : ι → V → Hp → Prop) (Post : ι → V → Prop) : Sp := fun vs H Q _ => ∃ i v, vs = [v] ∧ Pre i v H ∧ ∀ r H1, Post i r → (∀ b o, H b = some o → H1 b = some o) → Q r H1
/-! ### the cells, told -/
structure CPub (cl : List (Str × Addr)) (fr : List Str) (as : List Addr) (H : Hp) : Prop where
  len : as.length = fr.length
  all : ∀ y c, cl.lookup y = some c → ∃ a, H c = some (cellO c a)
  inj : ∀ x y c, cl.lookup x = some c → cl.lookup y = some c → x = y
  has : ∀ (i : Nat) (y : Str), fr[i]? = some y → ∃ c a, cl.lookup y = some c ∧ as[i]? = some a ∧ H c = some (cellO c a)
theorem CPub.keep {cl : List (Str × Addr)} {fr : List Str} {as : List Addr} {H H' : Hp} {ex : Addr → Prop} (C : CPub cl fr as H) (nx : ∀ y c, cl.lookup y = some c → ¬ ex c) (e : KeepX ex H H') : CPub cl fr as H' :=
  ⟨C.len, fun y c h => let ⟨a, q⟩ := C.all y c h; ⟨a, e _ _ q (nx y c h) fun ps z => nomatch (show HO.ext _ = HO.tbl ps from z)⟩, C.inj,
    fun i y h => let ⟨c, a, q1, q2, q3⟩ := C.has i y h; ⟨c, a, q1, q2, e _ _ q3 (nx y c q1) fun ps z => nomatch (show HO.ext _ = HO.tbl ps from z)⟩⟩
/-- with the cells no more told -/
def NoTold (cl : List (Str × Addr)) (H H0 : Hp) : Prop := (∀ b o, H0 b = some o → H b = some o) ∧ (∀ b, (∀ y, cl.lookup y ≠ some b) → H0 b = H b) ∧ ∀ y c, cl.lookup y = some c → H0 c = none
theorem noTold_ex (cl : List (Str × Addr)) (H : Hp) : ∃ H0, NoTold cl H H0 := by
  classical
  refine ⟨fun b => if ∃ y, cl.lookup y = some b then none else H b, fun b o e => ?_, fun b n => ?_, fun y c e => ?_⟩
  · dsimp only at e
    split at e
    · cases e
    · exact e
  · dsimp only
    rw [if_neg]
    rintro ⟨y, z⟩
    exact n y z
  · dsimp only
    rw [if_pos ⟨y, e⟩]
/-- the call, the cells not told meanwhile -/
theorem told_call {cl : List (Str × Addr)} {fr : List Str} {as : List Addr} {k : Nat} {H : Hp} {A : Around} {outer : List Env} {s : Shared} {Q : VK} {E : XK} {r : Code → Prop} {x : Code} (C : CPub cl fr as H) (e0 : Env0 P w K mg base A outer s H)
    (h : ∀ H0, NoTold cl H H0 → Env0 P w K mg base A outer s H0 → CellsAt cl fr (as.map fun a => some (.ref a)) s.heap H0 →
      codeAny (model P w) A x (CR CX0 outer P w H0 s (fun v H1 => ∀ H2, (∀ b o, H1 b = some o → H2 b = some o) → (∀ y c, cl.lookup y = some c → H2 c = H c) → Q v H2) E) s) : codeAny (model P w) A x (CR CX0 outer P w H s Q E) s := by
  classical
  obtain ⟨H0, n1, n2, n3⟩ := noTold_ex cl H
  have isC : ∀ b, (∀ y, cl.lookup y ≠ some b) ∨ ∃ y a, cl.lookup y = some b ∧ H b = some (cellO b a) := fun b => by
    by_cases q : ∃ y, cl.lookup y = some b
    · obtain ⟨y, q⟩ := q
      obtain ⟨a, z⟩ := C.all y b q
      exact .inr ⟨y, a, q, z⟩
    · exact .inl fun y z => q ⟨y, z⟩
  have ownS : ∀ {b d : Addr}, H d = some (.own b) → H0 d = some (.own b) := fun {b d} e => by
    rcases isC d with q | ⟨y, a, _, z⟩
    · rw [n2 d q]
      exact e
    · rw [z] at e
      cases e
  have tupS : ∀ {d : Addr} {xs}, H d = some (.tup xs) → H0 d = some (.tup xs) := fun {d xs} e => by
    rcases isC d with q | ⟨y, a, _, z⟩
    · rw [n2 d q]
      exact e
    · rw [z] at e
      cases e
  have hok0 : HOk P w H0 s.heap := fun b o e => (e0.hok b o (n1 b o e)).stay (fun _ _ _ q => q) (fun d q => ownS q) fun d xs q => tupS q
  have none0 : ∀ {b}, H b = none → H0 b = none := fun {b} e => by
    rcases isC b with q | ⟨y, a, _, z⟩
    · rw [n2 b q]
      exact e
    · rw [z] at e
      cases e
  have e00 : Env0 P w K mg base A outer s H0 := ⟨e0.frames, e0.mod, fun b o e => ⟨(e0.bs b o e).1, none0 (e0.bs b o e).2⟩, e0.bsz, e0.funs, fun b hb => none0 (e0.frf b hb), hok0, e0.bare⟩
  have CA : CellsAt cl fr (as.map fun a => some (.ref a)) s.heap H0 := by
    refine ⟨by rw [List.length_map]; exact C.len, fun y c e => ?_, C.inj, fun i y e => ?_⟩
    · obtain ⟨a, q⟩ := C.all y c e
      exact ⟨n3 y c e, _, cellO_at e0.hok q⟩
    · obtain ⟨c, a, q1, q2, q3⟩ := C.has i y e
      refine ⟨c, q1, fun v ev => ?_⟩
      rw [List.getElem?_map, q2] at ev
      cases ev
      exact ⟨_, rfl, cellO_at e0.hok q3⟩
  refine codeAny_mono (h H0 ⟨n1, n2, n3⟩ e00 CA) fun r s' hq => ?_
  have fin : ∀ {u : Value}, CE outer P w H0 s (fun v H1 => ∀ H2, (∀ b o, H1 b = some o → H2 b = some o) → (∀ y c, cl.lookup y = some c → H2 c = H c) → Q v H2) u s' → CE outer P w H s Q u s' := by
    rintro u ⟨v, H1, os, bare, un, hok, rv, q⟩
    have cellFree : ∀ y c, cl.lookup y = some c → H1 c = none := fun y c e => by
      obtain ⟨_, v, o, ho, _⟩ := CA.all y c e
      exact un.free c o ho (n3 y c e) (by simp)
    obtain ⟨H2, m1, m2⟩ : ∃ H2 : Hp, (∀ b, (∀ y, cl.lookup y ≠ some b) → H2 b = H1 b) ∧ ∀ y c, cl.lookup y = some c → H2 c = H c := by
      refine ⟨fun b => if ∃ y, cl.lookup y = some b then H b else H1 b, fun b n => ?_, fun y c e => ?_⟩
      · dsimp only
        rw [if_neg]
        rintro ⟨y, z⟩
        exact n y z
      · dsimp only
        rw [if_pos ⟨y, e⟩]
    have up : ∀ b o, H1 b = some o → H2 b = some o := fun b o e => by
      rcases isC b with z | ⟨y, a, z, _⟩
      · rw [m1 b z]
        exact e
      · rw [cellFree y b z] at e
        cases e
    refine ⟨v, H2, os, bare, ⟨fun b o e n h1 h2 => un.keep b o e (none0 n) h1 h2, fun b o e n h1 h2 => un.slot b o e (none0 n) h1 h2, fun b o e n h2 => ?_, un.there, fun b xs e => up _ _ (un.tups b xs (tupS e)), fun b o u e => ?_, fun b ps e => ?_⟩, fun b o e => ?_, rv, q H2 up m2⟩
    · rcases isC b with z | ⟨y, a, _, z⟩
      · rw [m1 b z]
        exact un.free b o e (none0 n) h2
      · rw [z] at n
        cases n
    · rcases isC b with z | ⟨y, a, _, z⟩
      · exact up _ _ (un.frzs b o u (by rw [n2 b z]; exact e))
      · rw [z] at e
        cases e
    · rcases isC b with z | ⟨y, a, _, z⟩
      · obtain ⟨more, q⟩ := un.tbls b ps (by rw [n2 b z]; exact e)
        exact ⟨more, up _ _ q⟩
      · rw [z] at e
        cases e
    · rcases isC b with z | ⟨y, a, z, z2⟩
      · rw [m1 b z] at e
        exact (hok b o e).stay (fun _ _ _ q => q) (fun d q => up _ _ q) fun d xs q => up _ _ q
      · rw [m2 y b z, z2] at e
        cases e
        obtain ⟨o, ho, hd⟩ := cellO_at e0.hok z2
        refine cellO_ok ⟨o, un.keep b o ho (n3 y b z) (fun z => ?_) (by simp), hd⟩
        have := e0.frf b z
        rw [z2] at this
        cases this
  cases r with
  | error e =>
    exact hq
  | ok fl =>
    cases fl with
    | ret u => exact fin hq
    | next => exact False.elim hq
    | brk => exact False.elim hq
    | cont => exact False.elim hq
/-- what the captured names' cells do not say stays as it is -/
def Stable {ι : Type} (Pre : ι → V → Hp → Prop) : Prop := ∀ i v H H0, (∀ b o, H b = some o → (∀ φ, o ≠ .ext φ) → H0 b = some o) → Pre i v H → Pre i v H0
theorem NoTold.pre {ι : Type} {Pre : ι → V → Hp → Prop} {cl : List (Str × Addr)} {fr : List Str} {as : List Addr} {H H0 : Hp} {i : ι} {v : V} (St : Stable Pre) (C : CPub cl fr as H) (n : NoTold cl H H0) (h : Pre i v H) : Pre i v H0 :=
  St i v H H0 (fun b o e nx => by
    by_cases q : ∃ y, cl.lookup y = some b
    · obtain ⟨y, q⟩ := q
      obtain ⟨a, z⟩ := C.all y b q
      rw [z] at e
      exact absurd (Option.some.inj e).symm (nx _)
    · rw [n.2.1 b fun y z => q ⟨y, z⟩]
      exact e) h
end
end Rp
/- RpExtF -/
set_option maxHeartbeats 4000000
/-! RpExtF: closures, second part: by their bodies; their makers; the lambda of one parameter; the call. -/
namespace Rp
open PySem PySem.Spec PyProof.Rows L2 LamX NdefX
/-! ### a closure by its body -/
section
variable {P : Program} {w : World} {K : PySem.W.Frag} {mg : Str → Option Value} {base : Heap} {N fr : List Str} {p : Str} {F : NF} {f : Addr} {as : List Addr} {k : Nat} {ex : Addr → Prop} {H : Hp}
theorem not_ext_tbl {φ : Heap → Prop} (ps : Array Value) : HO.ext φ ≠ HO.tbl ps := fun z => nomatch z
theorem isFn_of (hf : H f = some (FnO f F)) (nf : ¬ ex f) {H' : Hp} (e : KeepX ex H H') : IsFn P w H' f := fun h hok => by
  obtain ⟨od, sl, doc, pm, ctv, ho⟩ := fnO_at hok (e _ _ hf nf (fnO_ne (F := F)))
  exact ⟨_, od, sl, ho⟩
theorem clo_fn {ι : Type} {Pre : ι → V → Hp → Prop} {Post : ι → V → Prop} (St : Stable Pre) (hf : H f = some (FnO f F)) (hc : H F.c = some (CodeO F.c F.qual)) (C : CPub F.cl fr as H) (nf : ¬ ex f) (nc : ¬ ex F.c) (ncl : ∀ y c, F.cl.lookup y = some c → ¬ ex c) (S : CScope N p fr F.scope)
    (hb : ∀ (doc pm ctv : Value) (u : Value), bindArgs (F.fd doc pm ctv) ⟨[u], []⟩ = pure [(p, u)])
    (hbody : ∀ (A : Around) (outer : List Env) (s : Shared) (H0 : Hp) (i : ι) (v : V) (E : XK), Room k (A.deeper (envG F.qual F.scope s.heap.objs.size f F.c F.cl)) → (∀ b o, H b = some o → ¬ ex b → (∀ ps, o ≠ .tbl ps) → (∀ y, F.cl.lookup y ≠ some b) → H0 b = some o) → Pre i v H0 →
      ∃ t, PSs (ccx CX0 P w K mg base N F.qual F.scope f F.c F.cl A outer s H0 E) F.body t ∧ t { nx := fun _ H1 => Post i .non ∧ ∀ b o, H0 b = some o → H1 b = some o, rt := fun r H1 => Post i r ∧ ∀ b o, H0 b = some o → H1 b = some o } (startF N [v] (as.map fun a => some (.ref a))) H0) :
    Clo P w K mg base (k + 1) ex H f (spC Pre Post) := by
  refine fun H' eH => ⟨isFn_of hf nf eH, fun A outer s us vs Q E hr e0 r hsp => ?_⟩
  obtain ⟨i, v, rfl, hpre, hQ⟩ := hsp
  have C' : CPub F.cl fr as H' := C.keep ncl eH
  refine told_call (k := k) (r := fun _ => True) C' e0 fun H0 nt e00 CA => ?_
  have nex : ∀ b φ, H' b = some (.ext φ) → (∀ y, F.cl.lookup y ≠ some b) → H0 b = some (.ext φ) := fun b φ e n => by rw [nt.2.1 b n]; exact e
  have fcell : ∀ {a : Addr} {φ : Heap → Prop}, H' a = some (.ext φ) → (∃ o, s.heap.get? a = some o ∧ ∀ v, o.data ≠ .cell v) → ∀ y, F.cl.lookup y ≠ some a := fun {a φ} e ⟨o, ho, hd⟩ y z => by
    obtain ⟨c, q⟩ := C'.all y a z
    obtain ⟨o', ho', hd'⟩ := cellO_at e0.hok q
    rw [ho] at ho'
    cases ho'
    exact hd _ hd'
  have hf1 := eH _ _ hf nf (fnO_ne (F := F))
  have hc1 := eH _ _ hc nc codeO_ne
  have hf0 : H0 f = some (FnO f F) := nex f _ hf1 (fcell hf1 (by
    obtain ⟨od, sl, doc, pm, ctv, ho⟩ := fnO_at e0.hok hf1
    exact ⟨_, ho, fun v z => nomatch z⟩))
  have hc0 : H0 F.c = some (CodeO F.c F.qual) := nex F.c _ hc1 (fcell hc1 (by
    obtain ⟨⟨oc, vs, t, h1, h2, h3⟩, _, _⟩ := e0.hok F.c _ hc1
    exact ⟨_, h1, fun v z => by rw [h2] at z; cases z⟩))
  obtain ⟨od, sl, doc, pm, ctv, ho⟩ := fnO_at e00.hok hf0
  cases r with
  | cons r rr =>
    cases rr
    refine codeAny_call_function hr.depth ho rfl S.co S.gen rfl (codeO_at e00.hok hc0) ?_
    rw [hb doc pm ctv _]
    refine wpAny_pure (enter_both (CX := CX0) (E := E) S hr.hd e00 r CA fun s1 lim I => ⟨lim, codeAny_func ?_⟩)
    obtain ⟨t, ht, hq⟩ := hbody A outer s H0 i v E (hr.deeper _) (fun b o e n1 n2 n3 => by rw [nt.2.1 b n3]; exact eH b o e n1 n2) (nt.pre St C' hpre)
    refine wpAny_mono (ht.run [] _ _ H0 _ I hq) (fun fl s' hs => ?_) fun e s' hs => hs
    have fin : ∀ {σ' : L2.St} {H1 : Hp} {r : V} {u : Value}, Inv (ccx CX0 P w K mg base N F.qual F.scope f F.c F.cl A outer s H0 E) [] σ' H1 s' → L2.RelV r u → (Post i r ∧ ∀ b o, H0 b = some o → H1 b = some o) →
        CE outer P w H0 s (fun v H1 => ∀ H2, (∀ b o, H1 b = some o → H2 b = some o) → (∀ y c, F.cl.lookup y = some c → H2 c = H' c) → Q v H2) u s' :=
      fun {σ' H1 r u} J rv q => ⟨r, H1, J.os, J.bare, J.base, J.hok, rv, fun H2 up m2 => hQ r H2 q.1 fun b o e => by
        by_cases z : ∃ y, F.cl.lookup y = some b
        · obtain ⟨y, z⟩ := z
          rw [m2 y b z]
          exact e
        · exact up b o (q.2 b o (by rw [nt.2.1 b fun y q => z ⟨y, q⟩]; exact e))⟩
    cases fl with
    | ret u =>
      obtain ⟨v, σ', H1, J, rv, q⟩ := hs
      exact fin J rv q
    | next =>
      obtain ⟨σ', H1, J, q⟩ := hs
      exact fin (r := V.non) (u := Value.none) J rfl q
    | brk =>
      obtain ⟨_, _, _, q⟩ := hs
      exact False.elim q
    | cont =>
      obtain ⟨_, _, _, q⟩ := hs
      exact False.elim q
end
/-! ### statements whose return tells the frame's slots -/
structure PSr (X : Cx) (st : List Stmt) (t : (L2.St → VK) → L2.St → Hp → Prop) : Prop where
  run : ∀ (pins : List (Addr × Obj)) (s : Shared) (σ : L2.St) (H : Hp) (D : L2.St → VK), Inv X pins σ H s → t D σ H →
    wpAny (model X.prog X.w) X.A (execs st X.env) (fun f s' => match f with
      | .ret u => ∃ v σ' H', Inv X pins σ' H' s' ∧ RelV v u ∧ D σ' v H'
      | _ => False) X.xe s
section
variable {X : Cx} {st : Stmt} {rest : List Stmt} {t : TS} {u : (L2.St → VK) → L2.St → Hp → Prop} {e : Expr} {te : TE} {pos : Pos}
theorem psr_cons (h1 : PS X st t) (h2 : PSr X rest u) : PSr X (st :: rest) (fun D σ H => t { nx := u D, rt := fun _ _ => False } σ H) := by
  refine ⟨fun pins s σ H D I h => ?_⟩
  refine wpAny_execs_cons (thn (h1.run pins s σ H { nx := u D, rt := fun _ _ => False } I h) fun f s1 q => ?_)
  cases f with
  | next =>
    obtain ⟨σ', H', I', q⟩ := q
    exact h2.run pins s1 σ' H' D I' q
  | ret v =>
    obtain ⟨_, _, _, _, _, q⟩ := q
    exact False.elim q
  | brk =>
    obtain ⟨_, _, _, q⟩ := q
    exact False.elim q
  | cont =>
    obtain ⟨_, _, _, q⟩ := q
    exact False.elim q
theorem psr_ret (he : PE X e te) : PSr X [.Return (some e) pos] (fun D σ H => te σ H (D σ)) := by
  refine ⟨fun pins s σ H D I h => ?_⟩
  exact wpAny_execs_cons (wpAny_Return_some (thn (he.run pins s σ H _ I h) fun v s1 ⟨x, H1, I1, r1, q1⟩ => ⟨x, σ, H1, I1, r1, q1⟩))
end
/-- the frame's cells are told: those whose object the slots know -/
structure Pub (X : Cx) (σ : L2.St) (H2 H3 : Hp) : Prop where
  ok : X.Ok
  off : ∀ b, (∀ y, X.env.cells.lookup y ≠ some b) → H3 b = H2 b
  none2 : ∀ y c, X.env.cells.lookup y = some c → H2 c = none
  none0 : ∀ y c, X.env.cells.lookup y = some c → X.H_0 c = none
  told : ∀ (j : Nat) y c a, X.N[j]? = some y → X.env.scope.names.lookup y = some .cell → X.env.cells.lookup y = some c → σ[j]? = some (some (.ref a)) → H3 c = some (cellO c a)
theorem Pub.up {X : Cx} {σ : L2.St} {H2 H3 : Hp} (p : Pub X σ H2 H3) : ∀ b o, H2 b = some o → H3 b = some o := fun b o e => by
  by_cases q : ∃ y, X.env.cells.lookup y = some b
  · obtain ⟨y, q⟩ := q
    rw [p.none2 y b q] at e
    cases e
  · rw [p.off b fun y z => q ⟨y, z⟩]
    exact e
theorem cpub_of {X : Cx} {σ : L2.St} {H2 H3 : Hp} {cl : List (Str × Addr)} {fr : List Str} {js : List Nat} {as : List Addr} (p : Pub X σ H2 H3) (cp : Caps X cl fr js) (hk : ∀ y ∈ fr, X.env.scope.names.lookup y = some .cell) (hall : ∀ y c, cl.lookup y = some c → y ∈ fr)
    (hv : js.map (slotAt σ) = as.map fun a => some (.ref a)) : CPub cl fr as H3 := by
  have hl : js.length = fr.length := by
    have q := congrArg List.length cp.at_
    rwa [List.length_map, List.length_map] at q
  have hl2 : js.length = as.length := by
    have q := congrArg List.length hv
    rwa [List.length_map, List.length_map] at q
  have hasI : ∀ (i : Nat) (y : Str), fr[i]? = some y → ∃ c a, cl.lookup y = some c ∧ as[i]? = some a ∧ H3 c = some (cellO c a) := fun i y e => by
    have hy := List.mem_of_getElem? e
    have lt : i < fr.length := (List.getElem?_eq_some_iff.mp e).1
    have e2 : (js.map fun j => X.N[j]?)[i]? = some (some y) := by
      rw [cp.at_, List.getElem?_map, e] <;> rfl
    rw [List.getElem?_map, List.getElem?_eq_getElem (by omega)] at e2
    have hj : X.N[js[i]'(by omega)]? = some y := Option.some.inj (show some (X.N[js[i]'(by omega)]?) = some (some y) from e2)
    have e3 : (js.map (slotAt σ))[i]? = (as.map fun a => some (V.ref a))[i]? := by rw [hv]
    rw [List.getElem?_map, List.getElem?_map, List.getElem?_eq_getElem (by omega), List.getElem?_eq_getElem (show i < as.length by omega)] at e3
    have e4 : slotAt σ (js[i]'(by omega)) = some (.ref (as[i]'(by omega))) := Option.some.inj (show some (slotAt σ (js[i]'(by omega))) = some (some (V.ref (as[i]'(by omega)))) from e3)
    obtain ⟨c, hc⟩ := p.ok.has y (.inl (hk y hy))
    exact ⟨c, as[i]'(by omega), cp.sup y hy c hc, List.getElem?_eq_getElem (by omega), p.told _ y c _ hj (hk y hy) hc (slotAt_some e4)⟩
  refine ⟨by omega, fun y c e => ?_, fun x y c e1 e2 => p.ok.inj x y c (cp.sub x c e1) (cp.sub y c e2), hasI⟩
  obtain ⟨i, hi⟩ := List.mem_iff_getElem?.mp (hall y c e)
  obtain ⟨c', a, q1, q2, q3⟩ := hasI i y hi
  rw [e] at q1
  cases q1
  exact ⟨a, q3⟩
theorem clo_free {cells : List (Str × Addr)} {names : List (Str × NameKind)} {fr : List Str} (h : ∀ y ∈ names, y.2 = .free → y.1 ∈ fr) {y : Str} {c : Addr} (e : (cloFrom cells names []).lookup y = some c) : y ∈ fr := by
  rcases cloFrom_mem (PySem.mem_of_lookup e) with hm | ⟨h1, h2⟩
  · cases hm
  · exact h _ h1 rfl
/-- a def that hands out its cells -/
theorem fn_pub {CX : CXT} {P : Program} {w : World} {K : PySem.W.Frag} {mg : Str → Option Value} {base : Heap} {x qual : Str} {params : Arguments} {body : List Stmt} {scope : Scope} {dvs : List V} {kws : List (Str × V)} {f : Addr} {fd : FuncData} {N ps : List Str} {k : Nat} {sp : Sp} (F : FunD K x qual params body scope dvs kws f fd) (S : FnScope N ps scope) (len : ∀ vs H Q E, sp vs H Q E → vs.length = ps.length)
    (hbody : ∀ (cdv : Value) (A : Around) (outer : List Env) (s : Shared) (H : Hp) (vs : List V) (Q : VK) (E : XK), PySem.W.codeIn K cdv qual = true → fd.code = cdv → Room k (A.deeper (envOfC qual scope s.heap.objs.size f cdv)) → sp vs H Q E →
      ∃ t, PSr (cxOf CX P w K mg base N qual scope f cdv A outer s H E) body t ∧ t (fun σ v H2 => ∀ H3, Pub (cxOf CX P w K mg base N qual scope f cdv A outer s H E) σ H2 H3 → Q v H3) (L2.start N vs) H) : FnOk P w K mg base CX (k + 1) f fd ps sp := by
  obtain ⟨oc, od, dV, kV, doc, pm, an, cdv, ct, osl, rfl, lk, hcd, _, _⟩ := F.ex
  refine ⟨len, fun A outer s H args us vs Q E hr e0 hb r hsp => ?_⟩
  have hl := len _ _ _ _ hsp
  have KX : K.In s.heap := e0.mod.kin.keeps fun b o e => (e0.bs b o e).1
  have lim : s.heap.NoLimit := e0.mod.nolimit.keeps fun b o e => (e0.bs b o e).1
  have hkind : ∀ y ∈ ps.zip us, scope.names.lookup y.1 = some .local ∨ (scope.names.lookup y.1 = some .cell ∧ ((cellsFrom (s.heap.objs.size + 1) scope.names []).lookup y.1).isSome = true) := fun ⟨n, v⟩ hy => by
    rcases S.par n (List.of_mem_zip hy).1 with q | q
    · exact .inl q
    · exact .inr ⟨q, PySem.W.cellsFrom_some _ _ _ (.inl q)⟩
  refine codeAny_call_function hr.depth (KX _ _ lk) rfl S.co S.gen rfl (PySem.W.codeRec_of KX hcd) (hb _ _ _ _ ?_)
  refine wpAny_newFunctionEnv_cells S.kind hkind fun env he s1 x => ?_
  subst he
  refine ⟨lim.keeps x.toInCall.keep, codeAny_func ?_⟩
  obtain ⟨t, ht, hq⟩ := hbody cdv A outer s H vs Q E hcd rfl (hr.deeper _) hsp
  have I : Inv (cxOf CX P w K mg base N qual scope f cdv A outer s H E) [] (L2.start N vs) H s1 := inv_start S hr.hd e0 hl r x
  refine wpAny_mono (ht.run [] s1 (L2.start N vs) H _ I hq) (fun fl s' hs => ?_) fun e s' hs => hs
  have abv : ∀ y c, (envOfC qual scope s.heap.objs.size f cdv).cells.lookup y = some c → s.heap.objs.size < c := fun y c e => x.above y c (PySem.mem_of_lookup e)
  cases fl with
  | next => exact False.elim hs
  | brk => exact False.elim hs
  | cont => exact False.elim hs
  | ret u =>
    obtain ⟨v, σ', H2, J, rv, q⟩ := hs
    classical
    obtain ⟨H3, o1, o2⟩ : ∃ H3 : Hp, (∀ b, (∀ y, (envOfC qual scope s.heap.objs.size f cdv).cells.lookup y ≠ some b) → H3 b = H2 b) ∧
        ∀ y c, (envOfC qual scope s.heap.objs.size f cdv).cells.lookup y = some c → (∃ a, s'.heap.IsCell c (some (.ref a)) ∧ H3 c = some (cellO c a)) ∨ ((∀ a, ¬ s'.heap.IsCell c (some (.ref a))) ∧ H3 c = none) := by
      refine ⟨fun b => if ∃ y, (envOfC qual scope s.heap.objs.size f cdv).cells.lookup y = some b then (if h : ∃ a, s'.heap.IsCell b (some (.ref a)) then some (cellO b (Classical.choose h)) else none) else H2 b, fun b n => ?_, fun y c e => ?_⟩
      · dsimp only
        rw [if_neg]
        rintro ⟨y, z⟩
        exact n y z
      · dsimp only
        rw [if_pos ⟨y, e⟩]
        by_cases h : ∃ a, s'.heap.IsCell c (some (.ref a))
        · rw [dif_pos h]
          exact .inl ⟨_, Classical.choose_spec h, rfl⟩
        · rw [dif_neg h]
          exact .inr ⟨fun a z => h ⟨a, z⟩, rfl⟩
    have nx : ∀ y c, (envOfC qual scope s.heap.objs.size f cdv).cells.lookup y = some c → H2 c = none := fun y c e => J.freeC y c e
    have n0 : ∀ y c, (envOfC qual scope s.heap.objs.size f cdv).cells.lookup y = some c → H c = none := fun y c e => e0.hok.fresh (Nat.le_of_lt (abv y c e))
    have up : ∀ b o, H2 b = some o → H3 b = some o := fun b o e => by
      by_cases z : ∃ y, (envOfC qual scope s.heap.objs.size f cdv).cells.lookup y = some b
      · obtain ⟨y, z⟩ := z
        rw [nx y b z] at e
        cases e
      · rw [o1 b fun y q => z ⟨y, q⟩]
        exact e
    have un : Un (frs outer) [] H H2 s.heap s'.heap := J.base
    refine ⟨v, H3, J.os, J.bare, ⟨un.keep, un.slot, fun b o e n h2 => ?_, un.there, fun b xs e => up _ _ (un.tups b xs e), fun b o u e => up _ _ (un.frzs b o u e), fun b ps e => ?_⟩, fun b o e => ?_, rv, q H3 ⟨J.ok, o1, nx, n0, fun j y c a e1 e2 e3 e4 => ?_⟩⟩
    · rw [o1 b fun y z => absurd (Heap.lt_size e) (Nat.not_lt.mpr (Nat.le_of_lt (abv y b z)))]
      exact un.free b o e n h2
    · obtain ⟨more, q⟩ := un.tbls b ps e
      exact ⟨more, up _ _ q⟩
    · by_cases z : ∃ y, (envOfC qual scope s.heap.objs.size f cdv).cells.lookup y = some b
      · obtain ⟨y, z⟩ := z
        rcases o2 y b z with ⟨a, q1, q2⟩ | ⟨_, q2⟩
        · rw [q2] at e
          cases e
          exact cellO_ok q1
        · rw [q2] at e
          cases e
      · rw [o1 b fun y q => z ⟨y, q⟩] at e
        exact (J.hok b o e).stay (fun _ _ _ q => q) (fun d q => up _ _ q) fun d xs q => up _ _ q
    · obtain ⟨m, hn, hl⟩ := J.loc
      obtain ⟨u', ru, lk'⟩ := hl j y _ e1 e4 (.inr (.inl e2))
      have eu : u' = .ref a := ru
      subst eu
      have e2' : scope.names.lookup y = some .cell := e2
      rcases lk' with ⟨z, _⟩ | ⟨_, c', ec, hcell⟩
      · have z : scope.names.lookup y = some .local := z
        rw [e2'] at z
        cases z
      · rw [e3] at ec
        cases ec
        rcases o2 y c e3 with ⟨a', q1, q2⟩ | ⟨q1, _⟩
        · obtain ⟨o, ho, hd⟩ := hcell
          obtain ⟨o', ho', hd'⟩ := q1
          rw [ho] at ho'
          cases ho'
          rw [hd] at hd'
          cases hd'
          exact q2
        · exact absurd hcell (q1 a)
/-! ### the call of a closure that a name holds -/
def tClo (P : Program) (w : World) (K : PySem.W.Frag) (mg : Str → Option Value) (base : Heap) (k i : Nat) (sp : Sp) (E : XK) (t : TA) : TE := fun σ H Q => ∃ f, σ[i]? = some (some (.ref f)) ∧ IsFn P w H f ∧ t σ H fun vs H1 => IsFn P w H1 f ∧ CRun P w K mg base k H1 f sp ∧ sp vs H1 Q E
theorem pe_clo {X : Cx} {i j k : Nat} {x : Str} {sp : Sp} {E : XK} {t : TA} {e : Expr} {es : List Expr} {p pos : Pos} (hr : Room j X.A) (hk : k ≤ j) (hN : X.N[i]? = some x) (hv : Vis X.env.scope x) (ha : PA X (e :: es) t)
    (hd : (x == ("__debug__" : Str)) = false := by decide) (hcd : (x == ("__classdict__" : Str)) = false := by decide)
    (he : starEach (e :: es) X.env = (false, eval e X.env) :: starEach es X.env := by rfl) (hpl : (backTo pos (starEach es X.env)).any (·.1) = false := by rfl) :
    PE X (.Call (.Name x p) (e :: es) [] pos) (tClo X.prog X.w X.K X.mg X.base k i sp E t) := by
  refine ⟨fun pins s σ H Q I h => ?_⟩
  obtain ⟨f, hs, hf, ht⟩ := h
  refine wpAny_Call_Name_kw (thn ((pe_var (pos := p) hN hv hd hcd).run pins s σ H (fun v H1 => v = .ref f ∧ H1 = H) I ⟨.ref f, hs, rfl, rfl⟩) fun u s1 ⟨v, H1, I1, r1, q1⟩ => ?_)
  obtain ⟨ev, eH⟩ := q1
  subst ev
  rw [eH] at I1
  obtain rfl : u = Value.ref f := r1
  have fa : ∀ {s : Shared} {H : Hp}, Inv X pins σ H s → IsFn X.prog X.w H f → PySem.W.FnAt f s.heap := fun {s H} I q => by
    obtain ⟨fd, od, sl, ho⟩ := q _ I.hok
    exact ⟨_, od, _, sl, ho⟩
  refine PySem.W.callWith_F (first := []) (fa I1 hf) (thn (ha.run pos pins s1 σ H _ I1 ht) fun us s2 ⟨vs, H2, I2, r, h1, h2, q⟩ => ⟨fa I2 h1, ?_⟩) he hpl
  show wpAny _ _ (call (.ref f) us) _ _ _
  refine wpAny_call (codeAny_mono (h2 X.A X.stack s2 us vs _ E (hr.mono hk) I2.env0 r q) fun r s' hq => ?_)
  cases r with
  | error e => exact False.elim hq
  | ok fl =>
    cases fl with
    | ret u => exact I2.after hq
    | next => exact False.elim hq
    | brk => exact False.elim hq
    | cont => exact False.elim hq
/-! ### the lambda of one parameter -/
def LamO (f : Addr) (q : Str) (params : Arguments) (body : Expr) (scope : Scope) (cl : List (Str × Addr)) (c : Addr) : HO := .ext fun h => ∃ pm ctv : Value, h.get? f = some (PySem.W.kla_obj "<lambda>" q params body scope cl pm c ctv)
theorem lamO_ok {P : Program} {w : World} {H : Hp} {h : Heap} {f : Addr} {q : Str} {params : Arguments} {body : Expr} {scope : Scope} {cl : List (Str × Addr)} {pm : Value} {c : Addr} {ctv : Value} (e : h.get? f = some (PySem.W.kla_obj "<lambda>" q params body scope cl pm c ctv)) : ObjOk P w H h f (LamO f q params body scope cl c) :=
  ⟨⟨pm, ctv, e⟩, ⟨_, e⟩, fun h1 h2 ⟨pm, ctv, z⟩ st => ⟨pm, ctv, st _ z⟩⟩
def tLam1 (T : List (Addr × Str)) (mk : Addr → Addr → HO) (q : Str) : TE := fun σ H Q => Tabs T H ∧ ∀ (f c' : Addr) (H1 : Hp), ExtN H H1 → Tabs T H1 → H f = none → H c' = none ∨ H c' = H1 c' → H1 f = some (mk f c') → H1 c' = some (CodeO c' q) → Q (.ref f) H1
theorem pe_lam1 {X : Cx} {T : List (Addr × Str)} {c P : Addr} {params : Arguments} {body : Expr} {scope : Scope} {pos : Pos} (TB : TabB X.base X.mg c P) (hcode : X.env.code = .ref c)
    (hm : (P, X.env.qual ++ "<lambda>") ∈ T) (hu : ∀ p ∈ T, p.1 = P → p.2 = X.env.qual ++ "<lambda>") (hdef : defaultsOf params X.env = ([], [])) (hfree : ∀ y ∈ scope.names, y.2 = .free → X.env.scope.names.lookup y.1 = some .cell ∨ X.env.scope.names.lookup y.1 = some .free) :
    PE X (.Lambda params body scope pos) (tLam1 T (fun f c' => LamO f (X.env.qual ++ "<lambda>") params body scope (cloFrom X.env.cells scope.names []) c') (X.env.qual ++ "<lambda>")) := by
  refine ⟨fun pins s σ H Q I h => ?_⟩
  obtain ⟨hT, h⟩ := h
  have hfr : ∀ y ∈ scope.names, y.2 = .free → ∃ c, X.env.cells.lookup y.1 = some c := fun y hy e => (hfree y hy e).elim (fun z => I.ok.has _ (.inl z)) fun z => I.ok.has _ (.inr z)
  obtain ⟨ps, hP, ht, ha⟩ := hT _ hm
  refine PySem.W.kla_eval hdef ?_
  have bP : s.heap.BuiltinsAt X.mg P := TB.bm.keeps I.bk
  have hP' : s.heap.get? P = some { cls := .none, data := .fields ps } := I.hok P _ hP
  cases hc : codeAmong pos ps.toList with
  | none =>
    refine PySem.W.kla_makeFunction (mg := X.mg) (c := c) (P := P) (ps := ps) (closure_ok hfr) I.ok.glob (I.mod.glob.keeps I.bk) hcode (TB.code.keeps I.bk) hP' ht hc TB.gP bP fun c' ctv h' tk hx hge hlt hrec htb => ?_
    obtain ⟨c2, oc, vs, t, e2, hoc, hd, hv⟩ := hrec
    cases e2
    have hsz : s.heap.objs.size ≤ h'.objs.size := Nat.le_trans hge (Nat.le_of_lt hlt)
    have nC : H c' = none := I.hok.fresh hge
    have I1 := inv_table (t' := tk) (more := #[rawInt pos.line, rawInt pos.col, .ref c']) (h' := h') I hP
      (fun b o hb e => hx b o hb e) htb hge ⟨oc, vs, t, hoc, hd, hv⟩
    have nF := I1.hok.fresh (P := X.prog) (w := X.w) (Nat.le_refl _)
    have I2 := I1.laid (a := h'.objs.size) (o := LamO h'.objs.size (X.env.qual ++ "<lambda>") params body scope (cloFrom X.env.cells scope.names []) c') (t' := tk) (h' := h'.push (PySem.W.kla_obj "<lambda>" (X.env.qual ++ "<lambda>") params body scope (cloFrom X.env.cells scope.names []) ((X.mg "__name__").getD .none) c' ctv))
      (fun b u e => Heap.get?_push_of_some _ e) (Nat.le_refl _) (lamO_ok (Heap.get?_push_size _ rfl))
    have hE : ExtN H (upd (upd H P (.tbl (ps ++ #[rawInt pos.line, rawInt pos.col, .ref c']))) c' (CodeO c' (X.env.qual ++ "<lambda>"))) := fun b o e n => by
      rw [upd_ne (ne_of_none e nC), upd_ne (fun z => n ps (Option.some.inj (e.symm.trans (by rw [z]; exact hP))))]
      exact e
    have eL : (ps ++ #[rawInt pos.line, rawInt pos.col, .ref c']).toList = ps.toList ++ [rawInt pos.line, rawInt pos.col, .ref c'] := by simp
    have T1 : Tabs T (upd (upd H P (.tbl (ps ++ #[rawInt pos.line, rawInt pos.col, .ref c']))) c' (CodeO c' (X.env.qual ++ "<lambda>"))) := fun p hp => by
      by_cases hb : p.1 = P
      · rw [hu p hp hb, hb]
        refine ⟨_, by rw [upd_ne (ne_of_none hP nC), upd_same], by rw [eL]; exact PySem.TriplesOk_snoc _ _ _ _ ht, fun p' cv hcv => ?_⟩
        rw [eL] at hcv
        rcases among_app _ ht hcv with z | z
        · obtain ⟨c0, e1, e2⟩ := ha p' cv z
          exact ⟨c0, e1, hE _ _ e2 codeO_ne⟩
        · exact ⟨c', z, upd_same⟩
      · obtain ⟨ps', a1, a2, a3⟩ := hT p hp
        refine ⟨ps', by rw [upd_ne (ne_of_none a1 nC), upd_ne hb]; exact a1, a2, fun p' cv hcv => ?_⟩
        obtain ⟨c0, e1, e2⟩ := a3 p' cv hcv
        exact ⟨c0, e1, hE _ _ e2 codeO_ne⟩
    have grow : ∀ b o, upd (upd H P (.tbl (ps ++ #[rawInt pos.line, rawInt pos.col, .ref c']))) c' (CodeO c' (X.env.qual ++ "<lambda>")) b = some o → _ := fun b o e => (upd_ne (o := LamO h'.objs.size (X.env.qual ++ "<lambda>") params body scope (cloFrom X.env.cells scope.names []) c') (ne_of_none e nF)).trans e
    exact ⟨V.ref h'.objs.size, _, I2, rfl, h h'.objs.size c' _ (fun b o e n => grow _ _ (hE b o e n)) (T1.ext grow) (I.hok.fresh hsz) (.inl nC) upd_same (grow _ _ upd_same)⟩
  | some cv =>
    obtain ⟨c', e, hco⟩ := ha pos cv hc
    subst e
    refine PySem.W.kla_makeFunctionHit (mg := X.mg) (c := c) (P := P) (ps := ps) (closure_ok hfr) I.ok.glob (I.mod.glob.keeps I.bk) hcode (TB.code.keeps I.bk) hP' ht hc bP fun ctv h' tk hx hsz => ?_
    have I1 : Inv X pins σ H { s with heap := h', toks := tk } := I.kept hx
    have nF := I1.hok.fresh (P := X.prog) (w := X.w) (Nat.le_refl _)
    have I2 := I1.laid (a := h'.objs.size) (o := LamO h'.objs.size (X.env.qual ++ "<lambda>") params body scope (cloFrom X.env.cells scope.names []) c') (t' := tk) (h' := h'.push (PySem.W.kla_obj "<lambda>" (X.env.qual ++ "<lambda>") params body scope (cloFrom X.env.cells scope.names []) ((X.mg "__name__").getD .none) c' ctv))
      (fun b u e => Heap.get?_push_of_some _ e) (Nat.le_refl _) (lamO_ok (Heap.get?_push_size _ rfl))
    have grow : ∀ b o, H b = some o → _ := fun b o e => (upd_ne (o := LamO h'.objs.size (X.env.qual ++ "<lambda>") params body scope (cloFrom X.env.cells scope.names []) c') (ne_of_none e nF)).trans e
    exact ⟨V.ref h'.objs.size, _, I2, rfl, h h'.objs.size c' _ (fun b o e _ => grow _ _ e) (hT.ext grow) nF (.inr (by rw [hco]; exact (grow _ _ hco).symm)) upd_same (grow _ _ hco)⟩
section
variable {P : Program} {w : World} {K : PySem.W.Frag} {mg : Str → Option Value} {base : Heap} {N fr : List Str} {p q : Str} {params : Arguments} {body : Expr} {scope : Scope} {cl : List (Str × Addr)} {f c : Addr} {as : List Addr} {k : Nat} {ex : Addr → Prop} {H : Hp}
theorem clo_lam {ι : Type} {Pre : ι → V → Hp → Prop} {Post : ι → V → Prop} (St : Stable Pre) (hf : H f = some (LamO f q params body scope cl c)) (hc : H c = some (CodeO c q)) (C : CPub cl fr as H) (nf : ¬ ex f) (nc : ¬ ex c) (ncl : ∀ y c, cl.lookup y = some c → ¬ ex c) (S : CScope N p fr scope)
    (hb : ∀ (pm cv ctv : Value) (u : Value), bindArgs (PySem.W.kla_fn "<lambda>" q params body scope cl pm cv ctv) ⟨[u], []⟩ = pure [(p, u)])
    (hbody : ∀ (A : Around) (outer : List Env) (s : Shared) (H0 : Hp) (i : ι) (v : V) (E : XK), Room k (A.deeper (envG q scope s.heap.objs.size f c cl)) → (∀ b o, H b = some o → ¬ ex b → (∀ ps, o ≠ .tbl ps) → (∀ y, cl.lookup y ≠ some b) → H0 b = some o) → Pre i v H0 →
      ∃ t, PE (ccx CX0 P w K mg base N q scope f c cl A outer s H0 E) body t ∧ t (startF N [v] (as.map fun a => some (.ref a))) H0 (fun r H1 => Post i r ∧ ∀ b o, H0 b = some o → H1 b = some o)) :
    Clo P w K mg base (k + 1) ex H f (spC Pre Post) := by
  refine fun H' eH => ⟨fun h hok => ?_, fun A outer s us vs Q E hr e0 r hsp => ?_⟩
  · obtain ⟨⟨pm, ctv, ho⟩, _, _⟩ := hok f _ (eH _ _ hf nf fun ps z => nomatch (show HO.ext _ = HO.tbl ps from z))
    exact ⟨_, none, _, ho⟩
  obtain ⟨i, v, rfl, hpre, hQ⟩ := hsp
  have C' : CPub cl fr as H' := C.keep ncl eH
  refine told_call (k := k) (r := fun _ => True) C' e0 fun H0 nt e00 CA => ?_
  have nex : ∀ b φ, H' b = some (.ext φ) → (∀ y, cl.lookup y ≠ some b) → H0 b = some (.ext φ) := fun b φ e n => by rw [nt.2.1 b n]; exact e
  have fcell : ∀ {a : Addr} {φ : Heap → Prop}, H' a = some (.ext φ) → (∃ o, s.heap.get? a = some o ∧ ∀ v, o.data ≠ .cell v) → ∀ y, cl.lookup y ≠ some a := fun {a φ} e ⟨o, ho, hd⟩ y z => by
    obtain ⟨c, q⟩ := C'.all y a z
    obtain ⟨o', ho', hd'⟩ := cellO_at e0.hok q
    rw [ho] at ho'
    cases ho'
    exact hd _ hd'
  have hf1 : H' f = some (LamO f q params body scope cl c) := eH _ _ hf nf fun ps z => nomatch (show HO.ext _ = HO.tbl ps from z)
  have hc1 := eH _ _ hc nc codeO_ne
  have hf0 : H0 f = some (LamO f q params body scope cl c) := nex f _ hf1 (fcell hf1 (by
    obtain ⟨⟨pm, ctv, ho⟩, _, _⟩ := e0.hok f _ hf1
    exact ⟨_, ho, fun v z => nomatch z⟩))
  have hc0 : H0 c = some (CodeO c q) := nex c _ hc1 (fcell hc1 (by
    obtain ⟨⟨oc, vs, t, h1, h2, h3⟩, _, _⟩ := e0.hok c _ hc1
    exact ⟨_, h1, fun v z => by rw [h2] at z; cases z⟩))
  obtain ⟨⟨pm, ctv, ho⟩, _, _⟩ := e00.hok f _ hf0
  cases r with
  | cons r rr =>
    cases rr
    refine PySem.W.kla_callFunE hr.depth ho rfl S.co S.gen rfl (codeO_at e00.hok hc0) ?_
    rw [hb pm _ ctv _]
    refine wpAny_pure (enter_both (CX := CX0) (E := E) S hr.hd e00 r CA fun s1 lim I => ⟨lim, ?_⟩)
    obtain ⟨t, ht, hq⟩ := hbody A outer s H0 i v E (hr.deeper _) (fun b o e n1 n2 n3 => by rw [nt.2.1 b n3]; exact eH b o e n1 n2) (nt.pre St C' hpre)
    refine PySem.W.kla_codeExpr (wpAny_mono (ht.run [] _ _ H0 _ I hq) (fun u s' hs => ?_) fun e s' hs => hs)
    obtain ⟨r, H1, J, rv, q⟩ := hs
    exact ⟨r, H1, J.os, J.bare, J.base, J.hok, rv, fun H2 up m2 => hQ r H2 q.1 fun b o e => by
        by_cases z : ∃ y, cl.lookup y = some b
        · obtain ⟨y, z⟩ := z
          rw [m2 y b z]
          exact e
        · exact up b o (q.2 b o (by rw [nt.2.1 b fun y q => z ⟨y, q⟩]; exact e))⟩
end
end Rp
/- RpTx -/
set_option maxHeartbeats 4000000
/-! RpTx: the facts that the head tells, each by its name. Printed by gen_tx.py. -/
namespace Rp
open PySem PySem.Spec PyProof.Rows L2
structure Tx (K : PySem.W.Frag) (mg : Str → Option Value) : Prop where
  c : He.SaysD fa fn K
  mo : more K = true
  at_ : ∃ h : Heap, K.In h ∧ h.Ns mainGlobals mg
section
variable {K : PySem.W.Frag} {mg : Str → Option Value}
theorem g_by_store (T : Tx K mg) : mg "by_store" = some (.ref (He.ga K "by_store")) := by
  obtain ⟨h, X, G⟩ := T.at_
  exact He.glo_ok X G (T.c.fact 0 (f := .glo "by_store") rfl)
theorem g_by_speed (T : Tx K mg) : mg "by_speed" = some (.ref (He.ga K "by_speed")) := by
  obtain ⟨h, X, G⟩ := T.at_
  exact He.glo_ok X G (T.c.fact 1 (f := .glo "by_speed") rfl)
theorem g_calm (T : Tx K mg) : mg "calm" = some (.ref (He.ga K "calm")) := by
  obtain ⟨h, X, G⟩ := T.at_
  exact He.glo_ok X G (T.c.fact 2 (f := .glo "calm") rfl)
theorem g_is_whole (T : Tx K mg) : mg "is_whole" = some (.ref (He.ga K "is_whole")) := by
  obtain ⟨h, X, G⟩ := T.at_
  exact He.glo_ok X G (T.c.fact 3 (f := .glo "is_whole") rfl)
theorem g_is_rate (T : Tx K mg) : mg "is_rate" = some (.ref (He.ga K "is_rate")) := by
  obtain ⟨h, X, G⟩ := T.at_
  exact He.glo_ok X G (T.c.fact 4 (f := .glo "is_rate") rfl)
theorem g_rate_by (T : Tx K mg) : mg "rate_by" = some (.ref (He.ga K "rate_by")) := by
  obtain ⟨h, X, G⟩ := T.at_
  exact He.glo_ok X G (T.c.fact 5 (f := .glo "rate_by") rfl)
theorem g_seen_at (T : Tx K mg) : mg "seen_at" = some (.ref (He.ga K "seen_at")) := by
  obtain ⟨h, X, G⟩ := T.at_
  exact He.glo_ok X G (T.c.fact 6 (f := .glo "seen_at") rfl)
theorem g_mean (T : Tx K mg) : mg "mean" = some (.ref (He.ga K "mean")) := by
  obtain ⟨h, X, G⟩ := T.at_
  exact He.glo_ok X G (T.c.fact 7 (f := .glo "mean") rfl)
theorem g_middle (T : Tx K mg) : mg "middle" = some (.ref (He.ga K "middle")) := by
  obtain ⟨h, X, G⟩ := T.at_
  exact He.glo_ok X G (T.c.fact 8 (f := .glo "middle") rfl)
theorem g_is_slower (T : Tx K mg) : mg "is_slower" = some (.ref (He.ga K "is_slower")) := by
  obtain ⟨h, X, G⟩ := T.at_
  exact He.glo_ok X G (T.c.fact 9 (f := .glo "is_slower") rfl)
theorem g_slowest (T : Tx K mg) : mg "slowest" = some (.ref (He.ga K "slowest")) := by
  obtain ⟨h, X, G⟩ := T.at_
  exact He.glo_ok X G (T.c.fact 10 (f := .glo "slowest") rfl)
theorem g_look_room (T : Tx K mg) : mg "look_room" = some (.ref (He.ga K "look_room")) := by
  obtain ⟨h, X, G⟩ := T.at_
  exact He.glo_ok X G (T.c.fact 11 (f := .glo "look_room") rfl)
theorem g_first_stand (T : Tx K mg) : mg "first_stand" = some (.ref (He.ga K "first_stand")) := by
  obtain ⟨h, X, G⟩ := T.at_
  exact He.glo_ok X G (T.c.fact 12 (f := .glo "first_stand") rfl)
theorem g_is_over (T : Tx K mg) : mg "is_over" = some (.ref (He.ga K "is_over")) := by
  obtain ⟨h, X, G⟩ := T.at_
  exact He.glo_ok X G (T.c.fact 13 (f := .glo "is_over") rfl)
theorem g_has_room (T : Tx K mg) : mg "has_room" = some (.ref (He.ga K "has_room")) := by
  obtain ⟨h, X, G⟩ := T.at_
  exact He.glo_ok X G (T.c.fact 14 (f := .glo "has_room") rfl)
theorem g_chosen (T : Tx K mg) : mg "chosen" = some (.ref (He.ga K "chosen")) := by
  obtain ⟨h, X, G⟩ := T.at_
  exact He.glo_ok X G (T.c.fact 15 (f := .glo "chosen") rfl)
theorem g_begins (T : Tx K mg) : mg "begins" = some (.ref (He.ga K "begins")) := by
  obtain ⟨h, X, G⟩ := T.at_
  exact He.glo_ok X G (T.c.fact 16 (f := .glo "begins") rfl)
theorem g_played_on (T : Tx K mg) : mg "played_on" = some (.ref (He.ga K "played_on")) := by
  obtain ⟨h, X, G⟩ := T.at_
  exact He.glo_ok X G (T.c.fact 17 (f := .glo "played_on") rfl)
theorem g_beat_on (T : Tx K mg) : mg "beat_on" = some (.ref (He.ga K "beat_on")) := by
  obtain ⟨h, X, G⟩ := T.at_
  exact He.glo_ok X G (T.c.fact 18 (f := .glo "beat_on") rfl)
theorem g_run_of (T : Tx K mg) : mg "run_of" = some (.ref (He.ga K "run_of")) := by
  obtain ⟨h, X, G⟩ := T.at_
  exact He.glo_ok X G (T.c.fact 19 (f := .glo "run_of") rfl)
theorem g_L_deck (T : Tx K mg) : mg "_law_deck" = some (.ref (He.ga K "_law_deck")) := by
  obtain ⟨h, X, G⟩ := T.at_
  exact He.glo_ok X G (T.c.fact 20 (f := .glo "_law_deck") rfl)
theorem g_L_draw (T : Tx K mg) : mg "_law_draw" = some (.ref (He.ga K "_law_draw")) := by
  obtain ⟨h, X, G⟩ := T.at_
  exact He.glo_ok X G (T.c.fact 21 (f := .glo "_law_draw") rfl)
theorem g_L_pick (T : Tx K mg) : mg "_law_pick" = some (.ref (He.ga K "_law_pick")) := by
  obtain ⟨h, X, G⟩ := T.at_
  exact He.glo_ok X G (T.c.fact 22 (f := .glo "_law_pick") rfl)
theorem g_L_talk (T : Tx K mg) : mg "_law_talk" = some (.ref (He.ga K "_law_talk")) := by
  obtain ⟨h, X, G⟩ := T.at_
  exact He.glo_ok X G (T.c.fact 23 (f := .glo "_law_talk") rfl)
theorem g_L_pieces (T : Tx K mg) : mg "_law_pieces" = some (.ref (He.ga K "_law_pieces")) := by
  obtain ⟨h, X, G⟩ := T.at_
  exact He.glo_ok X G (T.c.fact 24 (f := .glo "_law_pieces") rfl)
theorem g_L_options (T : Tx K mg) : mg "_law_options" = some (.ref (He.ga K "_law_options")) := by
  obtain ⟨h, X, G⟩ := T.at_
  exact He.glo_ok X G (T.c.fact 25 (f := .glo "_law_options") rfl)
theorem g_L_rule (T : Tx K mg) : mg "_law_rule" = some (.ref (He.ga K "_law_rule")) := by
  obtain ⟨h, X, G⟩ := T.at_
  exact He.glo_ok X G (T.c.fact 26 (f := .glo "_law_rule") rfl)
theorem g_L_fetched_right (T : Tx K mg) : mg "_law_fetched_right" = some (.ref (He.ga K "_law_fetched_right")) := by
  obtain ⟨h, X, G⟩ := T.at_
  exact He.glo_ok X G (T.c.fact 27 (f := .glo "_law_fetched_right") rfl)
theorem g_L_means_right (T : Tx K mg) : mg "_law_means_right" = some (.ref (He.ga K "_law_means_right")) := by
  obtain ⟨h, X, G⟩ := T.at_
  exact He.glo_ok X G (T.c.fact 28 (f := .glo "_law_means_right") rfl)
theorem g_L_in_time (T : Tx K mg) : mg "_law_in_time" = some (.ref (He.ga K "_law_in_time")) := by
  obtain ⟨h, X, G⟩ := T.at_
  exact He.glo_ok X G (T.c.fact 29 (f := .glo "_law_in_time") rfl)
theorem g_law (T : Tx K mg) : mg "law" = some (.ref (He.ga K "law")) := by
  obtain ⟨h, X, G⟩ := T.at_
  exact He.glo_ok X G (T.c.fact 30 (f := .glo "law") rfl)
theorem g_Road (T : Tx K mg) : mg "Road" = some (.ref (He.ga K "Road")) := by
  obtain ⟨h, X, G⟩ := T.at_
  exact He.glo_ok X G (T.c.fact 31 (f := .glo "Road") rfl)
theorem g_Speed (T : Tx K mg) : mg "Speed" = some (.ref (He.ga K "Speed")) := by
  obtain ⟨h, X, G⟩ := T.at_
  exact He.glo_ok X G (T.c.fact 32 (f := .glo "Speed") rfl)
theorem g_Walk (T : Tx K mg) : mg "Walk" = some (.ref (He.ga K "Walk")) := by
  obtain ⟨h, X, G⟩ := T.at_
  exact He.glo_ok X G (T.c.fact 33 (f := .glo "Walk") rfl)
theorem g_Run (T : Tx K mg) : mg "Run" = some (.ref (He.ga K "Run")) := by
  obtain ⟨h, X, G⟩ := T.at_
  exact He.glo_ok X G (T.c.fact 34 (f := .glo "Run") rfl)
theorem g_Talk (T : Tx K mg) : mg "Talk" = some (.ref (He.ga K "Talk")) := by
  obtain ⟨h, X, G⟩ := T.at_
  exact He.glo_ok X G (T.c.fact 35 (f := .glo "Talk") rfl)
theorem f_len (T : Tx K mg) : mg "len" = none := by
  obtain ⟨h, X, G⟩ := T.at_
  exact He.free_ok X G (T.c.fact 36 (f := .free "len") rfl)
theorem f_list (T : Tx K mg) : mg "list" = none := by
  obtain ⟨h, X, G⟩ := T.at_
  exact He.free_ok X G (T.c.fact 37 (f := .free "list") rfl)
theorem f_range (T : Tx K mg) : mg "range" = none := by
  obtain ⟨h, X, G⟩ := T.at_
  exact He.free_ok X G (T.c.fact 38 (f := .free "range") rfl)
theorem f_enumerate (T : Tx K mg) : mg "enumerate" = none := by
  obtain ⟨h, X, G⟩ := T.at_
  exact He.free_ok X G (T.c.fact 39 (f := .free "enumerate") rfl)
theorem f_zip (T : Tx K mg) : mg "zip" = none := by
  obtain ⟨h, X, G⟩ := T.at_
  exact He.free_ok X G (T.c.fact 40 (f := .free "zip") rfl)
theorem f_max (T : Tx K mg) : mg "max" = none := by
  obtain ⟨h, X, G⟩ := T.at_
  exact He.free_ok X G (T.c.fact 41 (f := .free "max") rfl)
theorem f_min (T : Tx K mg) : mg "min" = none := by
  obtain ⟨h, X, G⟩ := T.at_
  exact He.free_ok X G (T.c.fact 42 (f := .free "min") rfl)
theorem f_sum (T : Tx K mg) : mg "sum" = none := by
  obtain ⟨h, X, G⟩ := T.at_
  exact He.free_ok X G (T.c.fact 43 (f := .free "sum") rfl)
theorem f_tuple (T : Tx K mg) : mg "tuple" = none := by
  obtain ⟨h, X, G⟩ := T.at_
  exact He.free_ok X G (T.c.fact 44 (f := .free "tuple") rfl)
theorem f_isinstance (T : Tx K mg) : mg "isinstance" = none := by
  obtain ⟨h, X, G⟩ := T.at_
  exact He.free_ok X G (T.c.fact 45 (f := .free "isinstance") rfl)
theorem f_int (T : Tx K mg) : mg "int" = none := by
  obtain ⟨h, X, G⟩ := T.at_
  exact He.free_ok X G (T.c.fact 46 (f := .free "int") rfl)
theorem f_bool (T : Tx K mg) : mg "bool" = none := by
  obtain ⟨h, X, G⟩ := T.at_
  exact He.free_ok X G (T.c.fact 47 (f := .free "bool") rfl)
theorem i_NONE (T : Tx K mg) : ∃ t, mg "NONE" = some (.int (-1) t) := by
  obtain ⟨h, X, G⟩ := T.at_
  exact He.int_ok X G (T.c.fact 48 (f := .int "NONE" (-1)) rfl)
theorem i_AHEAD (T : Tx K mg) : ∃ t, mg "AHEAD" = some (.int (0) t) := by
  obtain ⟨h, X, G⟩ := T.at_
  exact He.int_ok X G (T.c.fact 49 (f := .int "AHEAD" (0)) rfl)
theorem i_PLAYS (T : Tx K mg) : ∃ t, mg "PLAYS" = some (.int (1) t) := by
  obtain ⟨h, X, G⟩ := T.at_
  exact He.int_ok X G (T.c.fact 50 (f := .int "PLAYS" (1)) rfl)
theorem i_STALLS (T : Tx K mg) : ∃ t, mg "STALLS" = some (.int (2) t) := by
  obtain ⟨h, X, G⟩ := T.at_
  exact He.int_ok X G (T.c.fact 51 (f := .int "STALLS" (2)) rfl)
theorem c_Road (T : Tx K mg) : Cls K (He.ga K "Road") := He.cls_ok (T.c.fact 52 (f := .cls "Road") rfl)
theorem m_Road (T : Tx K mg) : Mk K (He.ga K "Road") (He.fAd K ("Road", some "__init__")) := He.mkr_ok (T.c.fact 53 (f := .mkr "Road") rfl)
theorem n_Road_pieces (T : Tx K mg) : NoAttr K (He.ga K "Road") "pieces" := He.noat_ok (T.c.fact 54 (f := .noat "Road" "pieces") rfl)
theorem t_Road_speed_at (T : Tx K mg) : Meth K (He.ga K "Road") "speed_at" (He.fAd K ("Road", some "speed_at")) := He.meth_ok (T.c.fact 55 (f := .meth "Road" "speed_at") rfl)
theorem t_Road_sum_of (T : Tx K mg) : Meth K (He.ga K "Road") "sum_of" (He.fAd K ("Road", some "sum_of")) := He.meth_ok (T.c.fact 56 (f := .meth "Road" "sum_of") rfl)
theorem t_Road_fetched (T : Tx K mg) : Meth K (He.ga K "Road") "fetched" (He.fAd K ("Road", some "fetched")) := He.meth_ok (T.c.fact 57 (f := .meth "Road" "fetched") rfl)
theorem c_Speed (T : Tx K mg) : Cls K (He.ga K "Speed") := He.cls_ok (T.c.fact 58 (f := .cls "Speed") rfl)
theorem m_Speed (T : Tx K mg) : Mk K (He.ga K "Speed") (He.fAd K ("Speed", some "__init__")) := He.mkr_ok (T.c.fact 59 (f := .mkr "Speed") rfl)
theorem n_Speed_bits (T : Tx K mg) : NoAttr K (He.ga K "Speed") "bits" := He.noat_ok (T.c.fact 60 (f := .noat "Speed" "bits") rfl)
theorem n_Speed_beats (T : Tx K mg) : NoAttr K (He.ga K "Speed") "beats" := He.noat_ok (T.c.fact 61 (f := .noat "Speed" "beats") rfl)
theorem t_Speed_below (T : Tx K mg) : Meth K (He.ga K "Speed") "below" (He.fAd K ("Speed", some "below")) := He.meth_ok (T.c.fact 62 (f := .meth "Speed" "below") rfl)
theorem t_Speed_floor (T : Tx K mg) : Meth K (He.ga K "Speed") "floor" (He.fAd K ("Speed", some "floor")) := He.meth_ok (T.c.fact 63 (f := .meth "Speed" "floor") rfl)
theorem c_Walk (T : Tx K mg) : Cls K (He.ga K "Walk") := He.cls_ok (T.c.fact 64 (f := .cls "Walk") rfl)
theorem m_Walk (T : Tx K mg) : Mk K (He.ga K "Walk") (He.fAd K ("Walk", some "__init__")) := He.mkr_ok (T.c.fact 65 (f := .mkr "Walk") rfl)
theorem n_Walk_talk_walked (T : Tx K mg) : NoAttr K (He.ga K "Walk") "talk_walked" := He.noat_ok (T.c.fact 66 (f := .noat "Walk" "talk_walked") rfl)
theorem n_Walk_chooser_asked (T : Tx K mg) : NoAttr K (He.ga K "Walk") "chooser_asked" := He.noat_ok (T.c.fact 67 (f := .noat "Walk" "chooser_asked") rfl)
theorem n_Walk_limits (T : Tx K mg) : NoAttr K (He.ga K "Walk") "limits" := He.noat_ok (T.c.fact 68 (f := .noat "Walk" "limits") rfl)
theorem n_Walk_waiting (T : Tx K mg) : NoAttr K (He.ga K "Walk") "waiting" := He.noat_ok (T.c.fact 69 (f := .noat "Walk" "waiting") rfl)
theorem n_Walk_opening (T : Tx K mg) : NoAttr K (He.ga K "Walk") "opening" := He.noat_ok (T.c.fact 70 (f := .noat "Walk" "opening") rfl)
theorem n_Walk_stand_here (T : Tx K mg) : NoAttr K (He.ga K "Walk") "stand_here" := He.noat_ok (T.c.fact 71 (f := .noat "Walk" "stand_here") rfl)
theorem n_Walk_beat_here (T : Tx K mg) : NoAttr K (He.ga K "Walk") "beat_here" := He.noat_ok (T.c.fact 72 (f := .noat "Walk" "beat_here") rfl)
theorem n_Walk_rate_last (T : Tx K mg) : NoAttr K (He.ga K "Walk") "rate_last" := He.noat_ok (T.c.fact 73 (f := .noat "Walk" "rate_last") rfl)
theorem n_Walk_speed_last (T : Tx K mg) : NoAttr K (He.ga K "Walk") "speed_last" := He.noat_ok (T.c.fact 74 (f := .noat "Walk" "speed_last") rfl)
theorem n_Walk_rates (T : Tx K mg) : NoAttr K (He.ga K "Walk") "rates" := He.noat_ok (T.c.fact 75 (f := .noat "Walk" "rates") rfl)
theorem n_Walk_begun (T : Tx K mg) : NoAttr K (He.ga K "Walk") "begun" := He.noat_ok (T.c.fact 76 (f := .noat "Walk" "begun") rfl)
theorem n_Walk_whole (T : Tx K mg) : NoAttr K (He.ga K "Walk") "whole" := He.noat_ok (T.c.fact 77 (f := .noat "Walk" "whole") rfl)
theorem n_Walk_plays (T : Tx K mg) : NoAttr K (He.ga K "Walk") "plays" := He.noat_ok (T.c.fact 78 (f := .noat "Walk" "plays") rfl)
theorem n_Walk_stalls (T : Tx K mg) : NoAttr K (He.ga K "Walk") "stalls" := He.noat_ok (T.c.fact 79 (f := .noat "Walk" "stalls") rfl)
theorem n_Walk_kept (T : Tx K mg) : NoAttr K (He.ga K "Walk") "kept" := He.noat_ok (T.c.fact 80 (f := .noat "Walk" "kept") rfl)
theorem t_Walk_is_at_end (T : Tx K mg) : Meth K (He.ga K "Walk") "is_at_end" (He.fAd K ("Walk", some "is_at_end")) := He.meth_ok (T.c.fact 81 (f := .meth "Walk" "is_at_end") rfl)
theorem t_Walk_asks_here (T : Tx K mg) : Meth K (He.ga K "Walk") "asks_here" (He.fAd K ("Walk", some "asks_here")) := He.meth_ok (T.c.fact 82 (f := .meth "Walk" "asks_here") rfl)
theorem t_Walk_choose_here (T : Tx K mg) : Meth K (He.ga K "Walk") "choose_here" (He.fAd K ("Walk", some "choose_here")) := He.meth_ok (T.c.fact 83 (f := .meth "Walk" "choose_here") rfl)
theorem t_Walk_step_on (T : Tx K mg) : Meth K (He.ga K "Walk") "step_on" (He.fAd K ("Walk", some "step_on")) := He.meth_ok (T.c.fact 84 (f := .meth "Walk" "step_on") rfl)
theorem c_Run (T : Tx K mg) : Cls K (He.ga K "Run") := He.cls_ok (T.c.fact 85 (f := .cls "Run") rfl)
theorem m_Run (T : Tx K mg) : Mk K (He.ga K "Run") (He.fAd K ("Run", some "__init__")) := He.mkr_ok (T.c.fact 86 (f := .mkr "Run") rfl)
theorem n_Run_rates (T : Tx K mg) : NoAttr K (He.ga K "Run") "rates" := He.noat_ok (T.c.fact 87 (f := .noat "Run" "rates") rfl)
theorem n_Run_begun (T : Tx K mg) : NoAttr K (He.ga K "Run") "begun" := He.noat_ok (T.c.fact 88 (f := .noat "Run" "begun") rfl)
theorem n_Run_whole (T : Tx K mg) : NoAttr K (He.ga K "Run") "whole" := He.noat_ok (T.c.fact 89 (f := .noat "Run" "whole") rfl)
theorem n_Run_plays (T : Tx K mg) : NoAttr K (He.ga K "Run") "plays" := He.noat_ok (T.c.fact 90 (f := .noat "Run" "plays") rfl)
theorem n_Run_stalls (T : Tx K mg) : NoAttr K (He.ga K "Run") "stalls" := He.noat_ok (T.c.fact 91 (f := .noat "Run" "stalls") rfl)
theorem n_Run_ended (T : Tx K mg) : NoAttr K (He.ga K "Run") "ended" := He.noat_ok (T.c.fact 92 (f := .noat "Run" "ended") rfl)
theorem n_Run_kept (T : Tx K mg) : NoAttr K (He.ga K "Run") "kept" := He.noat_ok (T.c.fact 93 (f := .noat "Run" "kept") rfl)
theorem c_Talk (T : Tx K mg) : Cls K (He.ga K "Talk") := He.cls_ok (T.c.fact 94 (f := .cls "Talk") rfl)
theorem m_Talk (T : Tx K mg) : Mk K (He.ga K "Talk") (He.fAd K ("Talk", some "__init__")) := He.mkr_ok (T.c.fact 95 (f := .mkr "Talk") rfl)
theorem n_Talk_lengths (T : Tx K mg) : NoAttr K (He.ga K "Talk") "lengths" := He.noat_ok (T.c.fact 96 (f := .noat "Talk" "lengths") rfl)
theorem n_Talk_sizes (T : Tx K mg) : NoAttr K (He.ga K "Talk") "sizes" := He.noat_ok (T.c.fact 97 (f := .noat "Talk" "sizes") rfl)
theorem t_Talk_len_ (T : Tx K mg) : Meth K (He.ga K "Talk") "__len__" (He.fAd K ("Talk", some "__len__")) := He.meth_ok (T.c.fact 98 (f := .meth "Talk" "__len__") rfl)
theorem t_Talk_many_rates (T : Tx K mg) : Meth K (He.ga K "Talk") "many_rates" (He.fAd K ("Talk", some "many_rates")) := He.meth_ok (T.c.fact 99 (f := .meth "Talk" "many_rates") rfl)
theorem F_by_store (T : Tx K mg) : ∃ fd, FunD K d_by_store.name d_by_store.qual (defArgs s_by_store) (defBody s_by_store) (defScope s_by_store) (d_by_store.dvs K) (d_by_store.kws K) (He.fAd K ("by_store", none)) fd := T.c.def_ 0 (d := d_by_store) rfl
theorem F_by_speed (T : Tx K mg) : ∃ fd, FunD K d_by_speed.name d_by_speed.qual (defArgs s_by_speed) (defBody s_by_speed) (defScope s_by_speed) (d_by_speed.dvs K) (d_by_speed.kws K) (He.fAd K ("by_speed", none)) fd := T.c.def_ 1 (d := d_by_speed) rfl
theorem F_calm (T : Tx K mg) : ∃ fd, FunD K d_calm.name d_calm.qual (defArgs s_calm) (defBody s_calm) (defScope s_calm) (d_calm.dvs K) (d_calm.kws K) (He.fAd K ("calm", none)) fd := T.c.def_ 2 (d := d_calm) rfl
theorem F_is_whole (T : Tx K mg) : ∃ fd, FunD K d_is_whole.name d_is_whole.qual (defArgs s_is_whole) (defBody s_is_whole) (defScope s_is_whole) (d_is_whole.dvs K) (d_is_whole.kws K) (He.fAd K ("is_whole", none)) fd := T.c.def_ 3 (d := d_is_whole) rfl
theorem F_is_rate (T : Tx K mg) : ∃ fd, FunD K d_is_rate.name d_is_rate.qual (defArgs s_is_rate) (defBody s_is_rate) (defScope s_is_rate) (d_is_rate.dvs K) (d_is_rate.kws K) (He.fAd K ("is_rate", none)) fd := T.c.def_ 4 (d := d_is_rate) rfl
theorem F_rate_by (T : Tx K mg) : ∃ fd, FunD K d_rate_by.name d_rate_by.qual (defArgs s_rate_by) (defBody s_rate_by) (defScope s_rate_by) (d_rate_by.dvs K) (d_rate_by.kws K) (He.fAd K ("rate_by", none)) fd := T.c.def_ 5 (d := d_rate_by) rfl
theorem F_seen_at (T : Tx K mg) : ∃ fd, FunD K d_seen_at.name d_seen_at.qual (defArgs s_seen_at) (defBody s_seen_at) (defScope s_seen_at) (d_seen_at.dvs K) (d_seen_at.kws K) (He.fAd K ("seen_at", none)) fd := T.c.def_ 6 (d := d_seen_at) rfl
theorem F_mean (T : Tx K mg) : ∃ fd, FunD K d_mean.name d_mean.qual (defArgs s_mean) (defBody s_mean) (defScope s_mean) (d_mean.dvs K) (d_mean.kws K) (He.fAd K ("mean", none)) fd := T.c.def_ 7 (d := d_mean) rfl
theorem F_middle (T : Tx K mg) : ∃ fd, FunD K d_middle.name d_middle.qual (defArgs s_middle) (defBody s_middle) (defScope s_middle) (d_middle.dvs K) (d_middle.kws K) (He.fAd K ("middle", none)) fd := T.c.def_ 8 (d := d_middle) rfl
theorem F_is_slower (T : Tx K mg) : ∃ fd, FunD K d_is_slower.name d_is_slower.qual (defArgs s_is_slower) (defBody s_is_slower) (defScope s_is_slower) (d_is_slower.dvs K) (d_is_slower.kws K) (He.fAd K ("is_slower", none)) fd := T.c.def_ 9 (d := d_is_slower) rfl
theorem F_slowest (T : Tx K mg) : ∃ fd, FunD K d_slowest.name d_slowest.qual (defArgs s_slowest) (defBody s_slowest) (defScope s_slowest) (d_slowest.dvs K) (d_slowest.kws K) (He.fAd K ("slowest", none)) fd := T.c.def_ 10 (d := d_slowest) rfl
theorem F_look_room (T : Tx K mg) : ∃ fd, FunD K d_look_room.name d_look_room.qual (defArgs s_look_room) (defBody s_look_room) (defScope s_look_room) (d_look_room.dvs K) (d_look_room.kws K) (He.fAd K ("look_room", none)) fd := T.c.def_ 11 (d := d_look_room) rfl
theorem F_first_stand (T : Tx K mg) : ∃ fd, FunD K d_first_stand.name d_first_stand.qual (defArgs s_first_stand) (defBody s_first_stand) (defScope s_first_stand) (d_first_stand.dvs K) (d_first_stand.kws K) (He.fAd K ("first_stand", none)) fd := T.c.def_ 12 (d := d_first_stand) rfl
theorem F_is_over (T : Tx K mg) : ∃ fd, FunD K d_is_over.name d_is_over.qual (defArgs s_is_over) (defBody s_is_over) (defScope s_is_over) (d_is_over.dvs K) (d_is_over.kws K) (He.fAd K ("is_over", none)) fd := T.c.def_ 13 (d := d_is_over) rfl
theorem F_has_room (T : Tx K mg) : ∃ fd, FunD K d_has_room.name d_has_room.qual (defArgs s_has_room) (defBody s_has_room) (defScope s_has_room) (d_has_room.dvs K) (d_has_room.kws K) (He.fAd K ("has_room", none)) fd := T.c.def_ 14 (d := d_has_room) rfl
theorem F_chosen (T : Tx K mg) : ∃ fd, FunD K d_chosen.name d_chosen.qual (defArgs s_chosen) (defBody s_chosen) (defScope s_chosen) (d_chosen.dvs K) (d_chosen.kws K) (He.fAd K ("chosen", none)) fd := T.c.def_ 15 (d := d_chosen) rfl
theorem F_begins (T : Tx K mg) : ∃ fd, FunD K d_begins.name d_begins.qual (defArgs s_begins) (defBody s_begins) (defScope s_begins) (d_begins.dvs K) (d_begins.kws K) (He.fAd K ("begins", none)) fd := T.c.def_ 16 (d := d_begins) rfl
theorem F_played_on (T : Tx K mg) : ∃ fd, FunD K d_played_on.name d_played_on.qual (defArgs s_played_on) (defBody s_played_on) (defScope s_played_on) (d_played_on.dvs K) (d_played_on.kws K) (He.fAd K ("played_on", none)) fd := T.c.def_ 17 (d := d_played_on) rfl
theorem F_beat_on (T : Tx K mg) : ∃ fd, FunD K d_beat_on.name d_beat_on.qual (defArgs s_beat_on) (defBody s_beat_on) (defScope s_beat_on) (d_beat_on.dvs K) (d_beat_on.kws K) (He.fAd K ("beat_on", none)) fd := T.c.def_ 18 (d := d_beat_on) rfl
theorem F_run_of (T : Tx K mg) : ∃ fd, FunD K d_run_of.name d_run_of.qual (defArgs s_run_of) (defBody s_run_of) (defScope s_run_of) (d_run_of.dvs K) (d_run_of.kws K) (He.fAd K ("run_of", none)) fd := T.c.def_ 19 (d := d_run_of) rfl
theorem F_L_deck (T : Tx K mg) : ∃ fd, FunD K d_L_deck.name d_L_deck.qual (defArgs s_L_deck) (defBody s_L_deck) (defScope s_L_deck) (d_L_deck.dvs K) (d_L_deck.kws K) (He.fAd K ("_law_deck", none)) fd := T.c.def_ 20 (d := d_L_deck) rfl
theorem F_L_draw (T : Tx K mg) : ∃ fd, FunD K d_L_draw.name d_L_draw.qual (defArgs s_L_draw) (defBody s_L_draw) (defScope s_L_draw) (d_L_draw.dvs K) (d_L_draw.kws K) (He.fAd K ("_law_draw", none)) fd := T.c.def_ 21 (d := d_L_draw) rfl
theorem F_L_pick (T : Tx K mg) : ∃ fd, FunD K d_L_pick.name d_L_pick.qual (defArgs s_L_pick) (defBody s_L_pick) (defScope s_L_pick) (d_L_pick.dvs K) (d_L_pick.kws K) (He.fAd K ("_law_pick", none)) fd := T.c.def_ 22 (d := d_L_pick) rfl
theorem F_L_talk (T : Tx K mg) : ∃ fd, FunD K d_L_talk.name d_L_talk.qual (defArgs s_L_talk) (defBody s_L_talk) (defScope s_L_talk) (d_L_talk.dvs K) (d_L_talk.kws K) (He.fAd K ("_law_talk", none)) fd := T.c.def_ 23 (d := d_L_talk) rfl
theorem F_L_pieces (T : Tx K mg) : ∃ fd, FunD K d_L_pieces.name d_L_pieces.qual (defArgs s_L_pieces) (defBody s_L_pieces) (defScope s_L_pieces) (d_L_pieces.dvs K) (d_L_pieces.kws K) (He.fAd K ("_law_pieces", none)) fd := T.c.def_ 24 (d := d_L_pieces) rfl
theorem F_L_options (T : Tx K mg) : ∃ fd, FunD K d_L_options.name d_L_options.qual (defArgs s_L_options) (defBody s_L_options) (defScope s_L_options) (d_L_options.dvs K) (d_L_options.kws K) (He.fAd K ("_law_options", none)) fd := T.c.def_ 25 (d := d_L_options) rfl
theorem F_L_rule (T : Tx K mg) : ∃ fd, FunD K d_L_rule.name d_L_rule.qual (defArgs s_L_rule) (defBody s_L_rule) (defScope s_L_rule) (d_L_rule.dvs K) (d_L_rule.kws K) (He.fAd K ("_law_rule", none)) fd := T.c.def_ 26 (d := d_L_rule) rfl
theorem F_L_fetched_right (T : Tx K mg) : ∃ fd, FunD K d_L_fetched_right.name d_L_fetched_right.qual (defArgs s_L_fetched_right) (defBody s_L_fetched_right) (defScope s_L_fetched_right) (d_L_fetched_right.dvs K) (d_L_fetched_right.kws K) (He.fAd K ("_law_fetched_right", none)) fd := T.c.def_ 27 (d := d_L_fetched_right) rfl
theorem F_L_means_right (T : Tx K mg) : ∃ fd, FunD K d_L_means_right.name d_L_means_right.qual (defArgs s_L_means_right) (defBody s_L_means_right) (defScope s_L_means_right) (d_L_means_right.dvs K) (d_L_means_right.kws K) (He.fAd K ("_law_means_right", none)) fd := T.c.def_ 28 (d := d_L_means_right) rfl
theorem F_L_in_time (T : Tx K mg) : ∃ fd, FunD K d_L_in_time.name d_L_in_time.qual (defArgs s_L_in_time) (defBody s_L_in_time) (defScope s_L_in_time) (d_L_in_time.dvs K) (d_L_in_time.kws K) (He.fAd K ("_law_in_time", none)) fd := T.c.def_ 29 (d := d_L_in_time) rfl
theorem F_law (T : Tx K mg) : ∃ fd, FunD K d_law.name d_law.qual (defArgs s_law) (defBody s_law) (defScope s_law) (d_law.dvs K) (d_law.kws K) (He.fAd K ("law", none)) fd := T.c.def_ 30 (d := d_law) rfl
theorem F_Road__init_ (T : Tx K mg) : ∃ fd, FunD K d_Road__init_.name d_Road__init_.qual (defArgs s_Road__init_) (defBody s_Road__init_) (defScope s_Road__init_) (d_Road__init_.dvs K) (d_Road__init_.kws K) (He.fAd K ("Road", some "__init__")) fd := T.c.def_ 31 (d := d_Road__init_) rfl
theorem F_Road_speed_at (T : Tx K mg) : ∃ fd, FunD K d_Road_speed_at.name d_Road_speed_at.qual (defArgs s_Road_speed_at) (defBody s_Road_speed_at) (defScope s_Road_speed_at) (d_Road_speed_at.dvs K) (d_Road_speed_at.kws K) (He.fAd K ("Road", some "speed_at")) fd := T.c.def_ 32 (d := d_Road_speed_at) rfl
theorem F_Road_sum_of (T : Tx K mg) : ∃ fd, FunD K d_Road_sum_of.name d_Road_sum_of.qual (defArgs s_Road_sum_of) (defBody s_Road_sum_of) (defScope s_Road_sum_of) (d_Road_sum_of.dvs K) (d_Road_sum_of.kws K) (He.fAd K ("Road", some "sum_of")) fd := T.c.def_ 33 (d := d_Road_sum_of) rfl
theorem F_Road_fetched (T : Tx K mg) : ∃ fd, FunD K d_Road_fetched.name d_Road_fetched.qual (defArgs s_Road_fetched) (defBody s_Road_fetched) (defScope s_Road_fetched) (d_Road_fetched.dvs K) (d_Road_fetched.kws K) (He.fAd K ("Road", some "fetched")) fd := T.c.def_ 34 (d := d_Road_fetched) rfl
theorem F_Speed__init_ (T : Tx K mg) : ∃ fd, FunD K d_Speed__init_.name d_Speed__init_.qual (defArgs s_Speed__init_) (defBody s_Speed__init_) (defScope s_Speed__init_) (d_Speed__init_.dvs K) (d_Speed__init_.kws K) (He.fAd K ("Speed", some "__init__")) fd := T.c.def_ 35 (d := d_Speed__init_) rfl
theorem F_Speed_below (T : Tx K mg) : ∃ fd, FunD K d_Speed_below.name d_Speed_below.qual (defArgs s_Speed_below) (defBody s_Speed_below) (defScope s_Speed_below) (d_Speed_below.dvs K) (d_Speed_below.kws K) (He.fAd K ("Speed", some "below")) fd := T.c.def_ 36 (d := d_Speed_below) rfl
theorem F_Speed_floor (T : Tx K mg) : ∃ fd, FunD K d_Speed_floor.name d_Speed_floor.qual (defArgs s_Speed_floor) (defBody s_Speed_floor) (defScope s_Speed_floor) (d_Speed_floor.dvs K) (d_Speed_floor.kws K) (He.fAd K ("Speed", some "floor")) fd := T.c.def_ 37 (d := d_Speed_floor) rfl
theorem F_Walk__init_ (T : Tx K mg) : ∃ fd, FunD K d_Walk__init_.name d_Walk__init_.qual (defArgs s_Walk__init_) (defBody s_Walk__init_) (defScope s_Walk__init_) (d_Walk__init_.dvs K) (d_Walk__init_.kws K) (He.fAd K ("Walk", some "__init__")) fd := T.c.def_ 38 (d := d_Walk__init_) rfl
theorem F_Walk_is_at_end (T : Tx K mg) : ∃ fd, FunD K d_Walk_is_at_end.name d_Walk_is_at_end.qual (defArgs s_Walk_is_at_end) (defBody s_Walk_is_at_end) (defScope s_Walk_is_at_end) (d_Walk_is_at_end.dvs K) (d_Walk_is_at_end.kws K) (He.fAd K ("Walk", some "is_at_end")) fd := T.c.def_ 39 (d := d_Walk_is_at_end) rfl
theorem F_Walk_asks_here (T : Tx K mg) : ∃ fd, FunD K d_Walk_asks_here.name d_Walk_asks_here.qual (defArgs s_Walk_asks_here) (defBody s_Walk_asks_here) (defScope s_Walk_asks_here) (d_Walk_asks_here.dvs K) (d_Walk_asks_here.kws K) (He.fAd K ("Walk", some "asks_here")) fd := T.c.def_ 40 (d := d_Walk_asks_here) rfl
theorem F_Walk_choose_here (T : Tx K mg) : ∃ fd, FunD K d_Walk_choose_here.name d_Walk_choose_here.qual (defArgs s_Walk_choose_here) (defBody s_Walk_choose_here) (defScope s_Walk_choose_here) (d_Walk_choose_here.dvs K) (d_Walk_choose_here.kws K) (He.fAd K ("Walk", some "choose_here")) fd := T.c.def_ 41 (d := d_Walk_choose_here) rfl
theorem F_Walk_step_on (T : Tx K mg) : ∃ fd, FunD K d_Walk_step_on.name d_Walk_step_on.qual (defArgs s_Walk_step_on) (defBody s_Walk_step_on) (defScope s_Walk_step_on) (d_Walk_step_on.dvs K) (d_Walk_step_on.kws K) (He.fAd K ("Walk", some "step_on")) fd := T.c.def_ 42 (d := d_Walk_step_on) rfl
theorem F_Run__init_ (T : Tx K mg) : ∃ fd, FunD K d_Run__init_.name d_Run__init_.qual (defArgs s_Run__init_) (defBody s_Run__init_) (defScope s_Run__init_) (d_Run__init_.dvs K) (d_Run__init_.kws K) (He.fAd K ("Run", some "__init__")) fd := T.c.def_ 43 (d := d_Run__init_) rfl
theorem F_Talk__init_ (T : Tx K mg) : ∃ fd, FunD K d_Talk__init_.name d_Talk__init_.qual (defArgs s_Talk__init_) (defBody s_Talk__init_) (defScope s_Talk__init_) (d_Talk__init_.dvs K) (d_Talk__init_.kws K) (He.fAd K ("Talk", some "__init__")) fd := T.c.def_ 44 (d := d_Talk__init_) rfl
theorem F_Talk__len_ (T : Tx K mg) : ∃ fd, FunD K d_Talk__len_.name d_Talk__len_.qual (defArgs s_Talk__len_) (defBody s_Talk__len_) (defScope s_Talk__len_) (d_Talk__len_.dvs K) (d_Talk__len_.kws K) (He.fAd K ("Talk", some "__len__")) fd := T.c.def_ 45 (d := d_Talk__len_) rfl
theorem F_Talk_many_rates (T : Tx K mg) : ∃ fd, FunD K d_Talk_many_rates.name d_Talk_many_rates.qual (defArgs s_Talk_many_rates) (defBody s_Talk_many_rates) (defScope s_Talk_many_rates) (d_Talk_many_rates.dvs K) (d_Talk_many_rates.kws K) (He.fAd K ("Talk", some "many_rates")) fd := T.c.def_ 46 (d := d_Talk_many_rates) rfl
theorem q_FIRST (T : Tx K mg) (H : Hp) : SqT K H (He.ga K "FIRST") [.int 0, .int (-1), .int 0, .int 0, .int 0, .int 0] := He.tupB_ok (x := "FIRST") (vs := [.int 0, .int (-1), .int 0, .int 0, .int 0, .int 0]) (He.ba (He.ba (He.ba T.mo).1).1).1 H
theorem q_PART (T : Tx K mg) (H : Hp) : SqT K H (He.ga K "PART") [.int 4, .int 5] := He.tupB_ok (x := "PART") (vs := [.int 4, .int 5]) (He.ba (He.ba (He.ba T.mo).1).1).2 H
theorem g_FIRST (T : Tx K mg) : mg "FIRST" = some (.ref (He.ga K "FIRST")) := by
  obtain ⟨h, X, G⟩ := T.at_
  exact He.glo_ok X G (He.ba (He.ba (He.ba T.mo).1).2).1
theorem g_PART (T : Tx K mg) : mg "PART" = some (.ref (He.ga K "PART")) := by
  obtain ⟨h, X, G⟩ := T.at_
  exact He.glo_ok X G (He.ba (He.ba (He.ba T.mo).1).2).2
theorem nd_tabs (T : Tx K mg) : (tf.map fun p => (He.cT K p).2).Nodup := of_decide_eq_true (He.ba T.mo).2
end
end Rp
/- RpD1 -/
set_option maxHeartbeats 4000000
/-! RpD1: roads. -/
namespace Rp
open PySem PySem.Spec PyProof.Rows L2
/-- the def at f keeps its promise; it may be called with all its parameters written -/
def Okd (P : Program) (w : World) (K : PySem.W.Frag) (mg : Str → Option Value) (base : Heap) (k : Nat) (f : Addr) (ps : List Str) (sp : Sp) : Prop := ∃ fd, FnOk P w K mg base CX0 k f fd ps sp ∧ PySem.W.keepIn K (.ref f) = true ∧ Binds K fd ps []
theorem okF {P : Program} {w : World} {K : PySem.W.Frag} {mg : Str → Option Value} {base : Heap} {x qual : Str} {params : Arguments} {body : List Stmt} {scope : Scope} {dvs : List V} {kws : List (Str × V)} {f : Addr} {fd : FuncData} {N ps : List Str} {k : Nat} {sp : Sp} (F : FunD K x qual params body scope dvs kws f fd) (S : FnScope N ps scope) (len : ∀ vs H Q E, sp vs H Q E → vs.length = ps.length)
    (hbody : ∀ (cdv : Value) (A : Around) (outer : List Env) (s : Shared) (H : Hp) (vs : List V) (Q : VK) (E : XK), Room k (A.deeper (envOfC qual scope s.heap.objs.size f cdv)) → sp vs H Q E →
      ∃ t, PSs (cxOf CX0 P w K mg base N qual scope f cdv A outer s H E).nox body t ∧ t { nx := fun _ H' => Q .non H', rt := Q } (L2.start N vs) H) : FnOk P w K mg base CX0 (k + 1) f fd ps sp :=
  F.ok S len fun cdv A outer s H vs Q E hr h => let ⟨t, ht, q⟩ := hbody cdv A outer s H vs Q E hr h; ⟨t, ht.nox, q⟩
/-- things at addresses, in order -/
def RefL {α : Type} (R : Hp → Addr → α → Prop) (H : Hp) (xs : List V) (as : List α) : Prop := xs.length = as.length ∧ ∀ (i : Nat) (a : α), as[i]? = some a → ∃ q, xs[i]? = some (.ref q) ∧ R H q a
def Mono {α : Type} (R : Hp → Addr → α → Prop) : Prop := ∀ H H' q a, Same H H' → R H q a → R H' q a
theorem RefL.same {α : Type} {R : Hp → Addr → α → Prop} {H H' : Hp} {xs : List V} {as : List α} (m : Mono R) (r : RefL R H xs as) (s : Same H H') : RefL R H' xs as :=
  ⟨r.1, fun i a h => let ⟨q, e, z⟩ := r.2 i a h; ⟨q, e, m _ _ _ _ s z⟩⟩
theorem RefL.nil {α : Type} {R : Hp → Addr → α → Prop} {H : Hp} : RefL R H [] ([] : List α) := ⟨rfl, fun i a h => by simp at h⟩
theorem RefL.snoc {α : Type} {R : Hp → Addr → α → Prop} {H : Hp} {xs : List V} {as : List α} {q : Addr} {a : α} (r : RefL R H xs as) (h : R H q a) : RefL R H (xs ++ [.ref q]) (as ++ [a]) := by
  refine ⟨by simp [r.1], fun i b e => ?_⟩
  by_cases hi : i < as.length
  · rw [List.getElem?_append_left hi] at e
    obtain ⟨q', e1, z⟩ := r.2 i b e
    exact ⟨q', by rw [List.getElem?_append_left (by rw [r.1]; exact hi)]; exact e1, z⟩
  · rw [List.getElem?_append_right (by omega)] at e
    have hz : i - as.length = 0 := by
      have := (List.getElem?_eq_some_iff.mp e).1
      simp at this
      omega
    rw [hz] at e
    cases e
    exact ⟨q, by rw [List.getElem?_append_right (by rw [r.1]; omega), r.1, hz] <;> rfl, h⟩
theorem RefL.get {α : Type} {R : Hp → Addr → α → Prop} {H : Hp} {xs : List V} {as : List α} (r : RefL R H xs as) {i : Nat} {x : V} (h : xs[i]? = some x) : ∃ q a, x = .ref q ∧ as[i]? = some a ∧ R H q a := by
  have hi : i < as.length := by
    rw [← r.1]
    exact (List.getElem?_eq_some_iff.mp h).1
  obtain ⟨q, e, z⟩ := r.2 i _ (List.getElem?_eq_getElem hi)
  rw [h] at e
  cases e
  exact ⟨q, _, rfl, List.getElem?_eq_getElem hi, z⟩
/-- a pair of numbers -/
def pairT (H : Hp) (q : Addr) (p : Int × Int) : Prop := H q = some (.tup [.int p.1, .int p.2])
theorem pairT_mono : Mono pairT := fun _ _ _ _ s h => s _ _ h
/-! ### roads -/
def fR (v : V) : List (Str × V) := putF "pieces" v []
theorem fR_p (v : V) : (fR v).lookup ("pieces" : Str) = some v := by
  unfold fR
  rw [lookup_putF, if_pos rfl]
theorem fR_no (v : V) {m : Str} (h : ¬ m = "pieces") : (fR v).lookup m = none := by
  unfold fR
  rw [lookup_putF, if_neg h]
  rfl
def RoadAt (K : PySem.W.Frag) (H : Hp) (a : Addr) (v : V) : Prop := ∃ dx, H a = some (.ins (He.ga K "Road") dx (fR v))
def PcsAt (H : Hp) (t : Addr) (ps : List Pc) : Prop := ∃ xs, H t = some (.tup xs) ∧ RefL pairT H xs ps
theorem PcsAt.same {H H' : Hp} {t : Addr} {ps : List Pc} (h : PcsAt H t ps) (s : Same H H') : PcsAt H' t ps := let ⟨xs, e, r⟩ := h; ⟨xs, s _ _ e, r.same pairT_mono s⟩
theorem RoadAt.same {K : PySem.W.Frag} {H H' : Hp} {a : Addr} {v : V} (h : RoadAt K H a v) (s : Same H H') : RoadAt K H' a v := let ⟨dx, e⟩ := h; ⟨dx, s _ _ e⟩
section
variable {P : Program} {w : World} {K : PySem.W.Frag} {mg : Str → Option Value} {base : Heap}
theorem sc_Ri : FnScope ["self", "pieces"] ["self", "pieces"] (defScope s_Road__init_) := ⟨rfl, rfl, rfl, by decide +kernel, rfl, by decide +kernel, by decide +kernel⟩
def spRi (K : PySem.W.Frag) : Sp := fun vs H Q _ => ∃ p dx v, vs = [.ref p, v] ∧ H p = some (.ins (He.ga K "Road") dx []) ∧ Q .non (upd H p (.ins (He.ga K "Road") dx (fR v)))
theorem ok_Ri (T : Tx K mg) : Okd P w K mg base 1 (He.fAd K ("Road", some "__init__")) ["self", "pieces"] (spRi K) := by
  obtain ⟨fd, F⟩ := F_Road__init_ T
  refine ⟨fd, okF F sc_Ri (fun vs H Q E h => ?_) (fun cdv A outer s H vs Q E hr h => ?_), F.kp, FunD.bindsN F fun _ _ _ _ _ _ us hl => match us, hl with | [_, _], _ => rfl⟩
  · obtain ⟨p, dx, v, rfl, _⟩ := h
    rfl
  · obtain ⟨p, dx, v, rfl, hp, q⟩ := h
    refine ⟨_, pss_one (ps_fld (pv 0) (pv 1) rfl), ?_⟩
    exact ⟨_, rfl, _, rfl, p, _, dx, _, rfl, hp, c_Road T, n_Road_pieces T, (by decide), q⟩
theorem sc_Rs : FnScope ["self", "beat", "left", "beats", "speed"] ["self", "beat"] (defScope s_Road_speed_at) := ⟨rfl, rfl, rfl, by decide +kernel, rfl, by decide +kernel, by decide +kernel⟩
def spRs (K : PySem.W.Frag) : Sp := fun vs H Q _ => ∃ a t init b d beat, vs = [.ref a, .int beat] ∧ RoadAt K H a (.ref t) ∧ PcsAt H t (init ++ [(b, d)]) ∧ Q (.int (spAt d (init ++ [(b, d)]) beat)) H
theorem ok_Rs (T : Tx K mg) : Okd P w K mg base 1 (He.fAd K ("Road", some "speed_at")) ["self", "beat"] (spRs K) := by
  obtain ⟨fd, F⟩ := F_Road_speed_at T
  refine ⟨fd, okF F sc_Rs (fun vs H Q E h => ?_) (fun cdv A outer s H vs Q E hr h => ?_), F.kp, FunD.bindsN F fun _ _ _ _ _ _ us hl => match us, hl with | [_, _], _ => rfl⟩
  · obtain ⟨a, t, init, b, d, beat, rfl, _⟩ := h
    rfl
  · obtain ⟨a, t, init, b, d, beat, rfl, ⟨dx, ha⟩, ⟨xs, ht, r⟩, q⟩ := h
    refine ⟨_, pss_cons (ps_set (i := 2) sc_Rs.nd rfl (.inl rfl) (pv 1))
      (pss_cons (ps_for PassesOwn.never rfl (pi_tup (pe_fld (pv 0) rfl)) (pg_tup rfl (pgs_cons (pg_name (i := 3) sc_Rs.nd rfl (.inl rfl)) (pgs_cons (pg_name (i := 4) sc_Rs.nd rfl (.inl rfl)) pgs_nil)))
        (pss_cons (ps_if (pt_cmpR op_lt (pv 2) (pv 3) (nomark _)) (pss_one (ps_ret (pv 4))) pss_nil) (pss_one (ps_aug (i := 2) sc_Rs.nd rfl (.inl rfl) (pv 3) ip_sub))))
      (pss_one (ps_ret (pe_ix ix_tup (pe_ix ix_tup (pe_fld (pv 0) rfl) (pe_un un_neg pe_int) (fun _ _ => rfl)) pe_int (fun _ _ => rfl))))), ?_⟩
    refine ⟨_, rfl, _, rfl, a, _, dx, _, _, rfl, ha, c_Road T, n_Road_pieces T, fR_p _, t, rfl, ⟨_, SqT.of ht⟩, for_tup (K := K) (a := t) (xs := xs)
      (fun i σ H' => H' = H ∧ ∃ left x y, σ = [some (.ref a), some (.int beat), some (.int left), x, y] ∧ spAt d (init ++ [(b, d)]) beat = spAt d ((init ++ [(b, d)]).drop i) left) ⟨rfl, beat, none, none, rfl, rfl⟩
      (fun i σ H' _ h => by rw [h.1]; exact SqT.of ht) ?_ ?_⟩
    · rintro i x σ H' hx ⟨rfl, left, x0, y0, rfl, e⟩
      obtain ⟨q', p, rfl, hp, hq⟩ := r.get hx
      have hi := (List.getElem?_eq_some_iff.mp hp).1
      have ed : (init ++ [(b, d)]).drop i = p :: (init ++ [(b, d)]).drop (i + 1) := by
        rw [List.drop_eq_getElem_cons hi, (List.getElem?_eq_some_iff.mp hp).2]
      rw [ed] at e
      refine ⟨q', _, rfl, SqT.of hq, rfl, _, _, rfl, _, _, rfl, rfl, ?_⟩
      refine ⟨_, rfl, _, rfl, _, _, rfl, rfl, _, rfl, ?_⟩
      refine ite2 (fun hc => ?_) (fun hc => ?_)
      · have hc := of_decide_eq_true hc
        refine ⟨_, rfl, ?_⟩
        have e2 : spAt d (init ++ [(b, d)]) beat = p.2 := by rw [e]; show (if left < p.1 then p.2 else _) = _; rw [if_pos hc]
        rw [e2] at q
        exact q
      · have hc : ¬ left < p.1 := fun z => hc (decide_eq_true z)
        refine ⟨_, rfl, _, rfl, _, _, rfl, rfl, ?_⟩
        refine ⟨rfl, left - p.1, _, _, rfl, ?_⟩
        rw [e]
        show (if left < p.1 then p.2 else _) = _
        rw [if_neg hc]
    · rintro σ H' ⟨rfl, left, x0, y0, rfl, e⟩
      rw [List.drop_eq_nil_of_le (by rw [r.1]; exact Nat.le_refl _)] at e
      obtain ⟨q', e1, hq⟩ := r.2 init.length (b, d) (by simp)
      have hl : xs = xs.take init.length ++ [.ref q'] := by
        have h1 : init.length < xs.length := (List.getElem?_eq_some_iff.mp e1).1
        have h2 : xs.length = init.length + 1 := by rw [r.1]; simp
        have h3 : xs.drop init.length = [.ref q'] := by
          rw [List.drop_eq_getElem_cons h1, (List.getElem?_eq_some_iff.mp e1).2, List.drop_eq_nil_of_le (by omega)]
        rw [← h3, List.take_append_drop]
      refine ⟨_, rfl, a, _, dx, _, _, rfl, ha, c_Road T, n_Road_pieces T, fR_p _, _, rfl, t, _, _, _, rfl, rfl, SqT.of ht, (by rw [hl]; exact atI_last _ _), ?_⟩
      refine ⟨q', _, _, _, rfl, rfl, SqT.of hq, atI_nat (j := 1) rfl, ?_⟩
      rw [e] at q
      exact q
theorem mx_eq (i j : Int) : (if j > i then j else i) = max i j := by
  split <;> omega
theorem mn_eq (i j : Int) : (if j < i then j else i) = min i j := by
  split <;> omega
def PcOk (ps : List Pc) : Prop := ∀ p ∈ ps, 1 ≤ p.1 ∧ p.1 ≤ 1000 ∧ 0 ≤ p.2 ∧ p.2 ≤ 1000000
theorem refs_last {α : Type} {R : Hp → Addr → α → Prop} {H : Hp} {xs : List V} {init : List α} {a : α} (r : RefL R H xs (init ++ [a])) : ∃ q, xs = xs.take init.length ++ [.ref q] ∧ R H q a := by
  obtain ⟨q', e1, hq⟩ := r.2 init.length a (by simp)
  refine ⟨q', ?_, hq⟩
  have h1 : init.length < xs.length := (List.getElem?_eq_some_iff.mp e1).1
  have h2 : xs.length = init.length + 1 := by rw [r.1]; simp
  have h3 : xs.drop init.length = [.ref q'] := by
    rw [List.drop_eq_getElem_cons h1, (List.getElem?_eq_some_iff.mp e1).2, List.drop_eq_nil_of_le (by omega)]
  rw [← h3, List.take_append_drop]
theorem drop_at {α : Type} {l : List α} {i : Nat} {p : α} (h : l[i]? = some p) : l.drop i = p :: l.drop (i + 1) := by
  have hi := (List.getElem?_eq_some_iff.mp h).1
  rw [List.drop_eq_getElem_cons hi, (List.getElem?_eq_some_iff.mp h).2]
theorem small64 {i : Int} (h1 : 0 ≤ i) (h2 : i ≤ 1000000) : -(2 ^ 64) < i ∧ i < 2 ^ 64 := ⟨by omega, by omega⟩
theorem sc_Rm : FnScope ["self", "first", "last", "found", "at", "beats", "speed"] ["self", "first", "last"] (defScope s_Road_sum_of) := ⟨rfl, rfl, rfl, by decide +kernel, rfl, by decide +kernel, by decide +kernel⟩
def spRm (K : PySem.W.Frag) : Sp := fun vs H Q _ => ∃ a t init b d first last, vs = [.ref a, .int first, .int last] ∧ RoadAt K H a (.ref t) ∧ PcsAt H t (init ++ [(b, d)]) ∧ PcOk (init ++ [(b, d)]) ∧ 0 ≤ first ∧ Q (.int (bits (spAt d (init ++ [(b, d)])) first (last - first).toNat)) H
theorem ok_Rm (T : Tx K mg) : Okd P w K mg base 1 (He.fAd K ("Road", some "sum_of")) ["self", "first", "last"] (spRm K) := by
  obtain ⟨fd, F⟩ := F_Road_sum_of T
  refine ⟨fd, okF F sc_Rm (fun vs H Q E h => ?_) (fun cdv A outer s H vs Q E hr h => ?_), F.kp, FunD.bindsN F fun _ _ _ _ _ _ us hl => match us, hl with | [_, _, _], _ => rfl⟩
  · obtain ⟨a, t, init, b, d, first, last, rfl, _⟩ := h
    rfl
  · obtain ⟨a, t, init, b, d, first, last, rfl, ⟨dx, ha⟩, ⟨xs, ht, r⟩, ok, h0, q⟩ := h
    refine ⟨_, pss_cons (ps_asg2 pe_int (pg_name (i := 3) sc_Rm.nd rfl (.inl rfl)) (pg_name (i := 4) sc_Rm.nd rfl (.inl rfl)))
      (pss_cons (ps_for PassesOwn.never rfl (pi_tup (pe_fld (pv 0) rfl)) (pg_tup rfl (pgs_cons (pg_name (i := 5) sc_Rm.nd rfl (.inl rfl)) (pgs_cons (pg_name (i := 6) sc_Rm.nd rfl (.inl rfl)) pgs_nil)))
        (pss_cons (ps_aug (i := 3) sc_Rm.nd rfl (.inl rfl) (pe_op op_mul (pv 6) (pe_callB (call_max2 rfl) (by rfl) (f_max T) (by decide +kernel) (pa_cons pe_int (pa_cons (pe_op op_sub
            (pe_callB (call_min2 rfl) (by rfl) (f_min T) (by decide +kernel) (pa_cons (pv 2) (pa_cons (pe_op op_add (pv 4) (pv 5)) pa_nil)))
            (pe_callB (call_max2 rfl) (by rfl) (f_max T) (by decide +kernel) (pa_cons (pv 1) (pa_cons (pv 4) pa_nil)))) pa_nil)))) ip_add)
          (pss_one (ps_aug (i := 4) sc_Rm.nd rfl (.inl rfl) (pv 5) ip_add))))
      (pss_one (ps_ret (pe_op op_add (pv 3) (pe_op op_mul (pe_ix ix_tup (pe_ix ix_tup (pe_fld (pv 0) rfl) (pe_un un_neg pe_int) (fun _ _ => rfl)) pe_int (fun _ _ => rfl))
        (pe_callB (call_max2 rfl) (by rfl) (f_max T) (by decide +kernel) (pa_cons pe_int (pa_cons (pe_op op_sub (pv 2) (pe_callB (call_max2 rfl) (by rfl) (f_max T) (by decide +kernel) (pa_cons (pv 1) (pa_cons (pv 4) pa_nil)))) pa_nil)))))))), ?_⟩
    refine ⟨_, rfl, a, _, dx, _, _, rfl, ha, c_Road T, n_Road_pieces T, fR_p _, t, rfl, ⟨_, SqT.of ht⟩, for_tup (K := K) (a := t) (xs := xs)
      (fun i σ H' => H' = H ∧ ∃ fo at_ x y, σ = [some (.ref a), some (.int first), some (.int last), some (.int fo), some (.int at_), x, y] ∧ sumGo first last (init ++ [(b, d)]) (0, 0) = sumGo first last ((init ++ [(b, d)]).drop i) (fo, at_)) ⟨rfl, 0, 0, none, none, rfl, rfl⟩
      (fun i σ H' _ h => by rw [h.1]; exact SqT.of ht) ?_ ?_⟩
    · rintro i x σ H' hx ⟨rfl, fo, at_, x0, y0, rfl, e⟩
      obtain ⟨q', p, rfl, hp, hq⟩ := r.get hx
      obtain ⟨k1, k2, k3, k4⟩ := ok p (List.mem_of_getElem? hp)
      rw [drop_at hp] at e
      refine ⟨q', _, rfl, SqT.of hq, rfl, _, _, rfl, _, _, rfl, rfl, ?_⟩
      refine ⟨_, rfl, _, rfl, _, rfl, _, rfl, _, rfl, _, _, rfl, rfl, _, _, rfl, _, rfl, _, rfl, _, _, rfl, _, _, rfl, rfl, _, _, rfl, _, _, rfl, rfl, .inl (small64 k3 k4), _, _, rfl, rfl, ?_⟩
      refine ⟨_, rfl, _, rfl, _, _, rfl, rfl, ?_⟩
      refine ⟨rfl, _, _, _, _, rfl, ?_⟩
      rw [e, mx_eq, mx_eq, mn_eq]
      rfl
    · rintro σ H' ⟨rfl, fo, at_, x0, y0, rfl, e⟩
      rw [List.drop_eq_nil_of_le (by rw [r.1]; exact Nat.le_refl _)] at e
      obtain ⟨q', hl, hq⟩ := refs_last r
      obtain ⟨k1, k2, k3, k4⟩ := ok (b, d) (by simp)
      refine ⟨_, rfl, _, rfl, a, _, dx, _, _, rfl, ha, c_Road T, n_Road_pieces T, fR_p _, _, rfl, t, _, _, _, rfl, rfl, SqT.of ht, (by rw [hl]; exact atI_last _ _), ?_⟩
      refine ⟨q', _, _, _, rfl, rfl, SqT.of hq, atI_nat (j := 1) rfl, _, rfl, _, rfl, _, rfl, _, _, rfl, _, _, rfl, rfl, _, _, rfl, _, _, rfl, rfl, .inl (small64 k3 k4), _, _, rfl, rfl, ?_⟩
      have z := sum_bits (d := d) (first := first) (last := last) (ps := init ++ [(b, d)]) (fun p hp => (ok p hp).1) h0
      rw [e] at z
      rw [mx_eq, mx_eq]
      have z2 : fo + d * max 0 (last - max first at_) = bits (spAt d (init ++ [(b, d)])) first (last - first).toNat := z
      show Q (.int (fo + d * max 0 (last - max first at_))) _
      rw [z2]
      exact q
/-! ### fetched -/
theorem six_m1 {n : Nat} (d : Nat) (h : 0 < n) : HT.sIx n d (some (-1)) = n - 1 := by
  unfold HT.sIx
  dsimp only
  rw [if_pos (by decide)]
  omega
theorem sc_Rf : FnScope ["self", "begin", "size", "wait", "here", "left", "at", "beats", "speed"] ["self", "begin", "size", "wait"] (defScope s_Road_fetched) := ⟨rfl, rfl, rfl, by decide +kernel, rfl, by decide +kernel, by decide +kernel⟩
def spRf (K : PySem.W.Frag) : Sp := fun vs H Q _ => ∃ a t init b d begin_ size wait, vs = [.ref a, .int begin_, .int size, .int wait] ∧ RoadAt K H a (.ref t) ∧ PcsAt H t (init ++ [(b, d)]) ∧ PcOk (init ++ [(b, d)]) ∧ 0 < d ∧ 0 < size ∧
  ∀ H', Same H H' → Q (.int (fetchGo d init (begin_ + wait) size 0)) H'
theorem ok_Rf (T : Tx K mg) : ∃ fd, FnOk P w K mg base CX0 1 (He.fAd K ("Road", some "fetched")) fd ["self", "begin", "size", "wait"] (spRf K) ∧ (∃ ds, Vals [V.int 0] ds ∧ Binds K fd ["self", "begin", "size", "wait"] ds) ∧
    KBn K fd ["self", "begin", "size", "wait"] 3 ["wait"] (fun us ws => us ++ ws) (fun vs zs => vs ++ zs) := by
  obtain ⟨fd, F⟩ := F_Road_fetched T
  have B0 : ∃ ds, Vals [V.int 0] ds ∧ Binds K fd ["self", "begin", "size", "wait"] ds := FunD.binds0 F 3 (fun z => by cases z) rfl fun D doc pm an cdv ct us ks hl hk => match us, ks, hl, hk with | [_, _, _], [_], _, _ => ⟨_, _, _, _, _, _, rfl, rfl, rfl⟩
  obtain ⟨mv, B1⟩ := FunD.kbinds0 (ps := ["self", "begin", "size", "wait"]) F 3 ["wait"] [] (fun us mv ws => us ++ ws) (fun z => by cases z) (fun q hq => by cases hq) (fun r1 _ r3 => r1.append r3) fun D doc pm an cdv ct us mv ws hl hm hw => match us, mv, ws, hl, hm, hw with | [_, _, _], [], [_], _, _, _ => rfl
  refine ⟨fd, okF F sc_Rf (fun vs H Q E h => ?_) (fun cdv A outer s H vs Q E hr h => ?_), B0, B1⟩
  · obtain ⟨a, t, init, b, d, begin_, size, wait, rfl, _⟩ := h
    rfl
  · obtain ⟨a, t, init, b, d, begin_, size, wait, rfl, ⟨dx, ha⟩, ⟨xs, ht, r⟩, ok, hd, hs, q⟩ := h
    refine ⟨_, pss_cons (ps_set (i := 4) sc_Rf.nd rfl (.inl rfl) (pe_op op_add (pv 1) (pv 3))) (pss_cons (ps_set (i := 5) sc_Rf.nd rfl (.inl rfl) (pv 2)) (pss_cons (ps_set (i := 6) sc_Rf.nd rfl (.inl rfl) pe_int)
      (pss_cons (ps_for PassesOwn.never rfl (pi_tup (pe_slice sl_tup (pe_fld (pv 0) rfl) po_none (po_some (pe_un un_neg pe_int)))) (pg_tup rfl (pgs_cons (pg_name (i := 7) sc_Rf.nd rfl (.inl rfl)) (pgs_cons (pg_name (i := 8) sc_Rf.nd rfl (.inl rfl)) pgs_nil)))
        (pss_cons (ps_aug (i := 6) sc_Rf.nd rfl (.inl rfl) (pv 7) ip_add)
          (pss_one (ps_if (PW.pt (pw_and (pt_cmpR op_lt (pv 4) (pv 6) (nomark _)) (pw_and1 (pt_cmpR op_gt (pv 5) (pe_op op_mul (pv 8) (pe_op op_sub (pv 6) (pv 4))) (nomark _)))))
            (pss_cons (ps_aug (i := 5) sc_Rf.nd rfl (.inl rfl) (pe_op op_mul (pv 8) (pe_op op_sub (pv 6) (pv 4))) ip_sub) (pss_one (ps_set (i := 4) sc_Rf.nd rfl (.inl rfl) (pv 6))))
            (pss_one (ps_if (pt_cmpR op_lt (pv 4) (pv 6) (nomark _)) (pss_one (ps_ret (pe_op op_sub (pv 4) (pe_op op_fdivN (pe_un un_neg (pv 5)) (pv 8))))) pss_nil))))))
      (pss_one (ps_ret (pe_op op_sub (pv 4) (pe_op op_fdivN (pe_un un_neg (pv 5)) (pe_ix ix_tup (pe_ix ix_tup (pe_fld (pv 0) rfl) (pe_un un_neg pe_int) (fun _ _ => rfl)) pe_int (fun _ _ => rfl))))))))), ?_⟩
    obtain ⟨ql, hl, hql⟩ := refs_last r
    have hn : xs.length = init.length + 1 := by rw [r.1]; simp
    refine ⟨_, rfl, _, rfl, _, _, rfl, rfl, _, rfl, ?_⟩
    refine ⟨_, rfl, a, _, dx, _, _, rfl, ha, c_Road T, n_Road_pieces T, fR_p _, _, rfl, _, rfl, _, _, rfl, SqT.of ht, ?_, fun p np => ?_⟩
    · rintro ⟨_, z⟩
      have z : HT.sIx xs.length xs.length (some (-1)) = xs.length := z
      rw [six_m1 _ (by omega)] at z
      omega
    · have ec : cutV xs none (some (-1)) = xs.take init.length := by
        unfold cutV
        rw [six_m1 _ (by omega), hn]
        rfl
      have ec : cutV xs none (some (-(1 : Int))) = xs.take init.length := ec
      rw [ec]
      have sm : Same H (upd H p (.tup (xs.take init.length))) := fun b o e => by rw [upd_ne (ne_of_none e np)]; exact e
      refine ⟨p, rfl, ⟨_, SqT.of upd_same⟩, for_tup (K := K) (a := p) (xs := xs.take init.length)
        (fun i σ H' => H' = upd H p (.tup (xs.take init.length)) ∧ ∃ he le_ at_ x y, σ = [some (.ref a), some (.int begin_), some (.int size), some (.int wait), some (.int he), some (.int le_), some (.int at_), x, y] ∧ 0 < le_ ∧
          fetchGo d init (begin_ + wait) size 0 = fetchGo d (init.drop i) he le_ at_) ⟨rfl, _, _, 0, none, none, rfl, hs, rfl⟩
        (fun i σ H' _ h => by rw [h.1]; exact SqT.of upd_same) ?_ ?_⟩
      · rintro i x σ H' hx ⟨rfl, he, le_, at_, x0, y0, rfl, hle, e⟩
        have hi : i < init.length := by
          have := (List.getElem?_eq_some_iff.mp hx).1
          rw [List.length_take] at this
          omega
        rw [List.getElem?_take_of_lt hi] at hx
        obtain ⟨q', pc, rfl, hp, hq⟩ := r.get hx
        rw [List.getElem?_append_left hi] at hp
        obtain ⟨k1, k2, k3, k4⟩ := ok pc (by simp [List.mem_of_getElem? hp])
        rw [drop_at hp] at e
        refine ⟨q', _, rfl, SqT.of (sm _ _ hq), rfl, _, _, rfl, _, _, rfl, rfl, ?_⟩
        refine ⟨_, rfl, _, rfl, _, _, rfl, rfl, ?_⟩
        have e2 : fetchGo d (pc :: init.drop (i + 1)) he le_ at_ = if he < at_ + pc.1 ∧ pc.2 * (at_ + pc.1 - he) < le_ then fetchGo d (init.drop (i + 1)) (at_ + pc.1) (le_ - pc.2 * (at_ + pc.1 - he)) (at_ + pc.1) else if he < at_ + pc.1 then he - (-le_).fdiv pc.2 else fetchGo d (init.drop (i + 1)) he le_ (at_ + pc.1) := rfl
        rw [e2] at e
        refine ⟨_, rfl, _, rfl, _, _, rfl, rfl, _, rfl, ?_⟩
        by_cases c1 : he < at_ + pc.1
        · rw [decide_eq_true c1]
          refine iteT ⟨_, rfl, _, rfl, _, rfl, _, rfl, _, _, rfl, rfl, _, _, rfl, rfl, .inl (small64 k3 k4), _, _, rfl, rfl, _, rfl, ?_⟩
          by_cases c2 : pc.2 * (at_ + pc.1 - he) < le_
          · rw [decide_eq_true c2]
            rw [if_pos ⟨c1, c2⟩] at e
            refine iteT ?_
            refine ⟨_, rfl, _, rfl, _, rfl, _, rfl, _, _, rfl, rfl, _, _, rfl, rfl, .inl (small64 k3 k4), _, _, rfl, rfl, ?_⟩
            refine ⟨_, rfl, ?_⟩
            exact ⟨rfl, _, _, _, _, _, rfl, Int.sub_pos_of_lt c2, e⟩
          · rw [decide_eq_false c2]
            rw [if_neg fun z => c2 z.2, if_pos c1] at e
            refine iteF ?_
            refine ⟨_, rfl, _, rfl, _, _, rfl, rfl, _, rfl, ?_⟩
            rw [decide_eq_true c1]
            refine iteT ?_
            have nz : pc.2 ≠ 0 := fun z => by
              rw [z, Int.zero_mul] at c2
              omega
            refine ⟨_, rfl, _, rfl, _, rfl, _, rfl, _, _, rfl, rfl, ⟨nz, by omega⟩, _, _, rfl, rfl, ?_⟩
            rw [e] at q
            exact q _ sm
        · rw [decide_eq_false c1]
          rw [if_neg fun z => c1 z.1, if_neg c1] at e
          refine iteF ?_
          refine iteF ?_
          refine ⟨_, rfl, _, rfl, _, _, rfl, rfl, _, rfl, ?_⟩
          rw [decide_eq_false c1]
          refine iteF ?_
          exact ⟨rfl, _, _, _, _, _, rfl, hle, e⟩
      · rintro σ H' ⟨rfl, he, le_, at_, x0, y0, rfl, hle, e⟩
        rw [List.drop_eq_nil_of_le (by rw [List.length_take]; omega)] at e
        obtain ⟨k1, k2, k3, k4⟩ := ok (b, d) (by simp)
        refine ⟨_, rfl, _, rfl, _, rfl, _, rfl, a, _, dx, _, _, rfl, sm _ _ ha, c_Road T, n_Road_pieces T, fR_p _, _, rfl, t, _, _, _, rfl, rfl, SqT.of (sm _ _ ht), (by rw [hl]; exact atI_last _ _), ?_⟩
        refine ⟨ql, _, _, _, rfl, rfl, SqT.of (sm _ _ hql), atI_nat (j := 1) rfl, _, _, rfl, rfl, ⟨by omega, by omega⟩, _, _, rfl, rfl, ?_⟩
        rw [e] at q
        exact q _ sm
end
end Rp
/- RpExtG -/
set_option maxHeartbeats 4000000
/-! RpExtG: comprehensions, read by what they make. -/
namespace Rp
open PySem PySem.Spec PyProof.Rows L2
/-- all that is no list stays -/
def KeepNL (H H' : Hp) : Prop := ∀ b o, H b = some o → (∀ xs, o ≠ .lst xs) → H' b = some o
theorem KeepNL.of {H H' : Hp} (s : Same H H') : KeepNL H H' := fun b o h _ => s b o h
theorem KeepNL.lst {H : Hp} {D : Addr} {xs ys : List V} (h : H D = some (.lst xs)) : KeepNL H (upd H D (.lst ys)) := fun b o e n => by
  rw [upd_ne]
  · exact e
  · rintro rfl
    rw [h] at e
    exact n xs (Option.some.inj e).symm
section
variable {J : It} {n : Nat} {G : Hp → Prop} {Y : Nat → Hp → V → Hp → Prop} {g : TG} {tt : TT} {te : TE} {vs : List Nat} {σ : L2.St} {H1 : Hp} {D : Addr} {Qd : Hp → Prop}
/-- a comprehension with a test: which items are kept and what they give is known -/
theorem lc_filt (w : Walk J n G Y) (c : Nat → Bool) (f : Nat → V) (hD : H1 D = none) (hG : ∀ H', Same H1 H' → G H') (hn : n < sizeLine)
    (hs : ∀ i x H H', i < n → Same H1 H → Y i H x H' → ∀ (Kq : V → Hp → Prop) (Kn : Hp → Prop), (c i = true → ∀ H4, Same H H4 → Kq (f i) H4) → (c i = false → ∀ H4, Same H H4 → Kn H4) →
      g x (wipe σ vs) H' fun σ2 H2 => wipe σ2 vs = wipe σ vs ∧ tt σ2 H2 fun b H3 => if b = true then te σ2 H3 Kq else Kn H3)
    (hd : ∀ H, Same H1 H → H D = some (.lst (((List.range n).filter c).map f)) → Qd H) :
    ∃ W : Nat → Nat → Hp → Prop, (∃ m, W 0 m (upd H1 D (.lst []))) ∧ ∀ i m H, W i m H →
      (J.stop i H ∧ Qd H) ∨ (J.go i H ∧ ∃ Nx : Hp → Prop, (∀ H', Nx H' → ∃ m', m' < m ∧ W (i + 1) m' H') ∧ ∀ x H', J.yld i H x H' → g x (wipe σ vs) H' fun σ2 H2 => wipe σ2 vs = wipe σ vs ∧ tt σ2 H2 fun b H3 =>
        if b = true then te σ2 H3 fun y H4 => ∃ acc, H4 D = some (.lst acc) ∧ acc.length < sizeLine ∧ Nx (upd H4 D (.lst (acc ++ [y]))) else Nx H3) := by
  have ne : ∀ {b o}, H1 b = some o → b ≠ D := fun {b o} e z => by
    rw [z, hD] at e
    cases e
  refine lc_it w (fun i H => Same H1 H ∧ H D = some (.lst (((List.range i).filter c).map f))) ⟨fun b o e => by rw [upd_ne (ne e)]; exact e, upd_same⟩ (fun i H _ h => hG _ h.1) ?_ fun H h => hd H h.1 h.2
  rintro i x H H' hi ⟨s, hl⟩ hy
  have len : (((List.range i).filter c).map f).length ≤ i := by
    rw [List.length_map]
    exact Nat.le_trans (List.length_filter_le _ _) (by simp)
  have er : (List.range (i + 1)).filter c = (List.range i).filter c ++ (if c i = true then [i] else []) := by
    rw [List.range_succ, List.filter_append]
    congr 1
    cases h : c i <;> simp [h]
  refine hs i x H H' hi s hy _ _ (fun hc H4 s4 => ⟨_, s4 _ _ hl, Nat.lt_of_le_of_lt len (Nat.lt_trans hi hn), fun b o e => ?_, ?_⟩) (fun hc H4 s4 => ⟨s.trans s4, ?_⟩)
  · rw [upd_ne (ne e)]
    exact s4 _ _ (s _ _ e)
  · rw [upd_same, er, if_pos hc, List.map_append]
    rfl
  · rw [er, if_neg (by rw [hc]; decide), List.append_nil]
    exact s4 _ _ hl
/-- a comprehension without a test: each item gives what R tells -/
theorem lc_map (w : Walk J n G Y) (R : Nat → V → Hp → Prop) (hR : ∀ i y H H', KeepNL H H' → R i y H → R i y H') (hD : H1 D = none) (hG : ∀ H', Same H1 H' → G H') (hn : n < sizeLine)
    (hs : ∀ i x H H', i < n → Same H1 H → Y i H x H' → ∀ (Kq : V → Hp → Prop), (∀ y H4, Same H H4 → R i y H4 → Kq y H4) →
      g x (wipe σ vs) H' fun σ2 H2 => wipe σ2 vs = wipe σ vs ∧ te σ2 H2 Kq)
    (hd : ∀ acc H, Same H1 H → acc.length = n → (∀ i y, acc[i]? = some y → R i y H) → H D = some (.lst acc) → Qd H) :
    ∃ W : Nat → Nat → Hp → Prop, (∃ m, W 0 m (upd H1 D (.lst []))) ∧ ∀ i m H, W i m H →
      (J.stop i H ∧ Qd H) ∨ (J.go i H ∧ ∃ Nx : Hp → Prop, (∀ H', Nx H' → ∃ m', m' < m ∧ W (i + 1) m' H') ∧ ∀ x H', J.yld i H x H' → g x (wipe σ vs) H' fun σ2 H2 => wipe σ2 vs = wipe σ vs ∧ tYes σ2 H2 fun b H3 =>
        if b = true then te σ2 H3 fun y H4 => ∃ acc, H4 D = some (.lst acc) ∧ acc.length < sizeLine ∧ Nx (upd H4 D (.lst (acc ++ [y]))) else Nx H3) := by
  have ne : ∀ {b o}, H1 b = some o → b ≠ D := fun {b o} e z => by
    rw [z, hD] at e
    cases e
  refine lc_it w (fun i H => Same H1 H ∧ ∃ acc, H D = some (.lst acc) ∧ acc.length = i ∧ ∀ j y, acc[j]? = some y → R j y H) ⟨fun b o e => by rw [upd_ne (ne e)]; exact e, [], upd_same, rfl, fun j y h => by simp at h⟩ (fun i H _ h => hG _ h.1) ?_ fun H ⟨h1, acc, h2, h3, h4⟩ => hd acc H h1 h3 h4 h2
  rintro i x H H' hi ⟨s, acc, hl, hlen, hr⟩ hy
  show g x (wipe σ vs) H' fun σ2 H2 => wipe σ2 vs = wipe σ vs ∧ te σ2 H2 _
  refine hs i x H H' hi s hy _ fun y H4 s4 r4 => ⟨acc, s4 _ _ hl, by rw [hlen]; exact Nat.lt_trans hi hn, fun b o e => ?_, acc ++ [y], upd_same, by simp [hlen], fun j z hz => ?_⟩
  · rw [upd_ne (ne e)]
    exact s4 _ _ (s _ _ e)
  · have k4 : KeepNL H4 (upd H4 D (.lst (acc ++ [y]))) := KeepNL.lst (s4 _ _ hl)
    by_cases hj : j < acc.length
    · rw [List.getElem?_append_left hj] at hz
      exact hR _ _ _ _ k4 (hR _ _ _ _ (KeepNL.of s4) (hr j z hz))
    · rw [List.getElem?_append_right (by omega)] at hz
      have hz0 : j - acc.length = 0 := by
        have := (List.getElem?_eq_some_iff.mp hz).1
        simp at this
        omega
      rw [hz0] at hz
      cases hz
      have ej : j = i := by omega
      rw [ej]
      exact hR _ _ _ _ k4 r4
end
theorem Same.upd {H : Hp} {p : Addr} {o : HO} (h : H p = none) : Same H (upd H p o) := fun b u e => by
  rw [upd_ne (ne_of_none e h)]
  exact e
/-- a cut: what stands behind the first statement is said by M -/
theorem pss_cut {X : Cx} {st : Stmt} {rest : List Stmt} {t u : TS} (M : L2.St → Hp → Prop) (h1 : PS X st t) (h2 : PSs X rest u) : PSs X (st :: rest) (fun D σ H => t { D with nx := M } σ H ∧ ∀ σ' H', M σ' H' → u D σ' H') := by
  refine ⟨fun pins s σ H D I h => ?_⟩
  refine wpAny_execs_cons (thn (h1.run pins s σ H { D with nx := M } I h.1) fun f s1 q => ?_)
  cases f with
  | next =>
    obtain ⟨σ', H', I', q⟩ := q
    exact h2.run pins s1 σ' H' D I' (h.2 σ' H' q)
  | ret v => exact q
  | brk => exact q
  | cont => exact q
/-- a cut whose middle is said where the reading is answered -/
theorem pss_cutE {X : Cx} {st : Stmt} {rest : List Stmt} {t u : TS} (h1 : PS X st t) (h2 : PSs X rest u) : PSs X (st :: rest) (fun D σ H => ∃ M : L2.St → Hp → Prop, t { D with nx := M } σ H ∧ ∀ σ' H', M σ' H' → u D σ' H') := by
  refine ⟨fun pins s σ H D I ⟨M, h, hm⟩ => ?_⟩
  refine wpAny_execs_cons (thn (h1.run pins s σ H { D with nx := M } I h) fun f s1 q => ?_)
  cases f with
  | next =>
    obtain ⟨σ', H', I', q⟩ := q
    exact h2.run pins s1 σ' H' D I' (hm σ' H' q)
  | ret v => exact q
  | brk => exact q
  | cont => exact q
end Rp
/- RpD2 -/
set_option maxHeartbeats 4000000
/-! RpD2: speeds. -/
namespace Rp
open PySem PySem.Spec PyProof.Rows L2
def fS (b n : Int) : List (Str × V) := putF "beats" (.int n) (putF "bits" (.int b) [])
theorem fS_b (b n : Int) : (fS b n).lookup ("bits" : Str) = some (.int b) := by
  unfold fS
  rw [lookup_putF, if_neg (by decide +kernel), lookup_putF, if_pos rfl]
theorem fS_n (b n : Int) : (fS b n).lookup ("beats" : Str) = some (.int n) := by
  unfold fS
  rw [lookup_putF, if_pos rfl]
theorem fS_no (b n : Int) {m : Str} (h1 : ¬ m = "beats") (h2 : ¬ m = "bits") : (fS b n).lookup m = none := by
  unfold fS
  rw [lookup_putF, if_neg h1, lookup_putF, if_neg h2]
  rfl
/-- the speed p at a -/
def SpAt (K : PySem.W.Frag) (H : Hp) (a : Addr) (p : Int × Int) : Prop := ∃ dx, H a = some (.ins (He.ga K "Speed") dx (fS p.1 p.2))
theorem SpAt.same {K : PySem.W.Frag} : Mono (SpAt K) := fun _ _ _ _ s ⟨dx, e⟩ => ⟨dx, s _ _ e⟩
theorem SpAt.nl {K : PySem.W.Frag} {H H' : Hp} {a : Addr} {p : Int × Int} (k : KeepNL H H') (h : SpAt K H a p) : SpAt K H' a p := let ⟨dx, e⟩ := h; ⟨dx, k _ _ e fun xs z => nomatch z⟩
def SpOk (p : Int × Int) : Prop := 0 ≤ p.1 ∧ p.1 ≤ 1000000 ∧ 1 ≤ p.2 ∧ p.2 ≤ 1000000
/-- a new instance, made by an __init__ that writes its fields -/
def MadeAt (H H' : Hp) (a C dx : Addr) (fs : List (Str × V)) : Prop := H' a = some (.ins C dx fs) ∧ ∀ b, b ≠ a → H' b = H b
theorem MadeAt.same {H H' : Hp} {x dx C : Addr} {fs : List (Str × V)} (nx : H x = none) (nd : H dx = none) (m : MadeAt (upd (upd H dx (.own x)) x (.ins C dx [])) H' x C dx fs) : Same H H' := fun b o e => by
  rw [m.2 b (ne_of_none e nx), upd_ne (ne_of_none e nx), upd_ne (ne_of_none e nd)]
  exact e
section
variable {P : Program} {w : World} {K : PySem.W.Frag} {mg : Str → Option Value} {base : Heap}
theorem sc_Si : FnScope ["self", "bits", "beats"] ["self", "bits", "beats"] (defScope s_Speed__init_) := ⟨rfl, rfl, rfl, by decide +kernel, rfl, by decide +kernel, by decide +kernel⟩
def spSi (K : PySem.W.Frag) : Sp := fun vs H Q _ => ∃ p dx b n, vs = [.ref p, .int b, .int n] ∧ H p = some (.ins (He.ga K "Speed") dx []) ∧ ∀ H', MadeAt H H' p (He.ga K "Speed") dx (fS b n) → Q .non H'
theorem ok_Si (T : Tx K mg) : Okd P w K mg base 1 (He.fAd K ("Speed", some "__init__")) ["self", "bits", "beats"] (spSi K) := by
  obtain ⟨fd, F⟩ := F_Speed__init_ T
  refine ⟨fd, okF F sc_Si (fun vs H Q E h => ?_) (fun cdv A outer s H vs Q E hr h => ?_), F.kp, FunD.bindsN F fun _ _ _ _ _ _ us hl => match us, hl with | [_, _, _], _ => rfl⟩
  · obtain ⟨p, dx, b, n, rfl, _⟩ := h
    rfl
  · obtain ⟨p, dx, b, n, rfl, hp, q⟩ := h
    refine ⟨_, pss_cons (ps_fld (pv 0) (pv 1) rfl) (pss_one (ps_fld (pv 0) (pv 2) rfl)), ?_⟩
    refine ⟨_, rfl, _, rfl, p, _, dx, _, rfl, hp, c_Speed T, n_Speed_bits T, (by decide), ?_⟩
    exact ⟨_, rfl, _, rfl, p, _, dx, _, rfl, upd_same, c_Speed T, n_Speed_beats T, (by show 1 < 1000; decide), q _ ⟨upd_same, fun b' hb => by rw [upd_ne hb, upd_ne hb]⟩⟩
theorem sc_Sb : FnScope ["self", "other"] ["self", "other"] (defScope s_Speed_below) := ⟨rfl, rfl, rfl, by decide +kernel, rfl, by decide +kernel, by decide +kernel⟩
def spSb (K : PySem.W.Frag) : Sp := fun vs H Q _ => ∃ a b p q, vs = [.ref a, .ref b] ∧ SpAt K H a p ∧ SpAt K H b q ∧ SpOk p ∧ SpOk q ∧ Q (.bl (!decide (le q p))) H
theorem ok_Sb (T : Tx K mg) : Okd P w K mg base 1 (He.fAd K ("Speed", some "below")) ["self", "other"] (spSb K) := by
  obtain ⟨fd, F⟩ := F_Speed_below T
  refine ⟨fd, okF F sc_Sb (fun vs H Q E h => ?_) (fun cdv A outer s H vs Q E hr h => ?_), F.kp, FunD.bindsN F fun _ _ _ _ _ _ us hl => match us, hl with | [_, _], _ => rfl⟩
  · obtain ⟨a, b, p, q, rfl, _⟩ := h
    rfl
  · obtain ⟨a, b, p, q, rfl, ⟨dx, ha⟩, ⟨dy, hb⟩, ⟨k1, k2, k3, k4⟩, ⟨j1, j2, j3, j4⟩, k⟩ := h
    refine ⟨_, pss_one (ps_ret (pe_cmpR op_lt (pe_op op_mul (pe_fld (pv 0) rfl) (pe_fld (pv 1) rfl)) (pe_op op_mul (pe_fld (pv 1) rfl) (pe_fld (pv 0) rfl)) (nomark _))), ?_⟩
    refine ⟨_, rfl, a, _, dx, _, _, rfl, ha, c_Speed T, n_Speed_bits T, fS_b _ _, _, rfl, b, _, dy, _, _, rfl, hb, c_Speed T, n_Speed_beats T, fS_n _ _, _, _, rfl, rfl, .inl (small64 k1 k2), ?_⟩
    refine ⟨_, rfl, b, _, dy, _, _, rfl, hb, c_Speed T, n_Speed_bits T, fS_b _ _, _, rfl, a, _, dx, _, _, rfl, ha, c_Speed T, n_Speed_beats T, fS_n _ _, _, _, rfl, rfl, .inl (small64 j1 j2), _, _, rfl, rfl, ?_⟩
    have e : decide (p.1 * q.2 < q.1 * p.2) = !decide (le q p) := by
      by_cases c : le q p
      · have c' : q.1 * p.2 ≤ p.1 * q.2 := c
        rw [decide_eq_true c, decide_eq_false (by omega)]
        rfl
      · have c' : ¬ q.1 * p.2 ≤ p.1 * q.2 := c
        rw [decide_eq_false c, decide_eq_true (by omega)]
        rfl
    show Q (.bl (decide (p.1 * q.2 < q.1 * p.2))) H
    rw [e]
    exact k
theorem sc_Sf : FnScope ["self"] ["self"] (defScope s_Speed_floor) := ⟨rfl, rfl, rfl, by decide +kernel, rfl, by decide +kernel, by decide +kernel⟩
def spSf (K : PySem.W.Frag) : Sp := fun vs H Q _ => ∃ a p, vs = [.ref a] ∧ SpAt K H a p ∧ SpOk p ∧ Q (.int (p.1.fdiv p.2)) H
theorem ok_Sf (T : Tx K mg) : Okd P w K mg base 1 (He.fAd K ("Speed", some "floor")) ["self"] (spSf K) := by
  obtain ⟨fd, F⟩ := F_Speed_floor T
  refine ⟨fd, okF F sc_Sf (fun vs H Q E h => ?_) (fun cdv A outer s H vs Q E hr h => ?_), F.kp, FunD.bindsN F fun _ _ _ _ _ _ us hl => match us, hl with | [_], _ => rfl⟩
  · obtain ⟨a, p, rfl, _⟩ := h
    rfl
  · obtain ⟨a, p, rfl, ⟨dx, ha⟩, ⟨k1, k2, k3, k4⟩, k⟩ := h
    refine ⟨_, pss_one (ps_ret (pe_op op_fdivN (pe_fld (pv 0) rfl) (pe_fld (pv 0) rfl))), ?_⟩
    exact ⟨_, rfl, a, _, dx, _, _, rfl, ha, c_Speed T, n_Speed_bits T, fS_b _ _, _, rfl, a, _, dx, _, _, rfl, ha, c_Speed T, n_Speed_beats T, fS_n _ _, _, _, rfl, rfl, ⟨by omega, by omega⟩, k⟩
/-! ### mean -/
abbrev N_mean : List Str := ["speeds", "last", "some", "each"]
theorem sc_mean : FnScope N_mean ["speeds", "last"] (defScope s_mean) := ⟨rfl, rfl, rfl, by decide +kernel, rfl, by decide +kernel, by decide +kernel⟩
def SpsAt (K : PySem.W.Frag) (H : Hp) (t : Addr) (as : List (Int × Int)) : Prop := ∃ xs, H t = some (.tup xs) ∧ RefL (SpAt K) H xs as
theorem SpsAt.same {K : PySem.W.Frag} {H H' : Hp} {t : Addr} {as : List (Int × Int)} (h : SpsAt K H t as) (s : Same H H') : SpsAt K H' t as := let ⟨xs, e, r⟩ := h; ⟨xs, s _ _ e, r.same SpAt.same s⟩
theorem RefL.drop {α : Type} {R : Hp → Addr → α → Prop} {H : Hp} {xs : List V} {as : List α} (r : RefL R H xs as) (k : Nat) : RefL R H (xs.drop k) (as.drop k) :=
  ⟨by rw [List.length_drop, List.length_drop, r.1], fun i a e => by
    rw [List.getElem?_drop] at e ⊢
    exact r.2 _ _ e⟩
theorem RefL.take {α : Type} {R : Hp → Addr → α → Prop} {H : Hp} {xs : List V} {as : List α} (r : RefL R H xs as) (k : Nat) : RefL R H (xs.take k) (as.take k) :=
  ⟨by rw [List.length_take, List.length_take, r.1], fun i a e => by
    by_cases h : i < k
    · rw [List.getElem?_take_of_lt h] at e ⊢
      exact r.2 _ _ e
    · rw [List.getElem?_take_eq_none (by omega)] at e
      cases e⟩
theorem RefL.append {α : Type} {R : Hp → Addr → α → Prop} {H : Hp} {xs ys : List V} {as bs : List α} (r : RefL R H xs as) (r2 : RefL R H ys bs) : RefL R H (xs ++ ys) (as ++ bs) :=
  ⟨by rw [List.length_append, List.length_append, r.1, r2.1], fun i a e => by
    by_cases h : i < as.length
    · rw [List.getElem?_append_left h] at e
      rw [List.getElem?_append_left (by rw [r.1]; exact h)]
      exact r.2 _ _ e
    · rw [List.getElem?_append_right (by omega)] at e
      rw [List.getElem?_append_right (by rw [r.1]; omega), r.1]
      exact r2.2 _ _ e⟩
theorem RefL.cons {α : Type} {R : Hp → Addr → α → Prop} {H : Hp} {xs : List V} {as : List α} {q : Addr} {a : α} (r : RefL R H xs as) (h : R H q a) : RefL R H (.ref q :: xs) (a :: as) :=
  (RefL.snoc (RefL.nil (R := R) (H := H)) h).append r
/-- an int at each place: what a comprehension over a field gives -/
theorem map_ints {acc : List V} {as : List α} {f : α → Int} {H : Hp} (hl : acc.length = as.length) (h : ∀ (i : Nat) (y : V), acc[i]? = some y → ∃ a, as[i]? = some a ∧ y = .int (f a)) : acc = (as.map f).map V.int := by
  refine List.ext_getElem? fun i => ?_
  rw [List.getElem?_map, List.getElem?_map]
  cases e : acc[i]? with
  | none =>
    rw [List.getElem?_eq_none (by rw [← hl]; exact List.getElem?_eq_none_iff.mp e)]
    rfl
  | some y =>
    obtain ⟨a, e1, e2⟩ := h i y e
    rw [e1, e2]
    rfl
/-- last: None, or so many of the last -/
def lastOf (v : V) (as as' : List (Int × Int)) : Prop := (v = .non ∧ as' = as) ∨ ∃ k : Nat, v = .int k ∧ 1 ≤ k ∧ k ≤ as.length ∧ as' = as.drop (as.length - k)
def spMean (K : PySem.W.Frag) : Sp := fun vs H Q _ => ∃ t v as as', vs = [.ref t, v] ∧ SpsAt K H t as ∧ as ≠ [] ∧ as.length ≤ 1000 ∧ lastOf v as as' ∧ ∀ r H', Same H H' → SpAt K H' r ((as'.map (·.1)).sum, (as'.map (·.2)).sum) → Q (.ref r) H'
theorem ok_mean (T : Tx K mg) : ∃ fd, FnOk P w K mg base CX0 3 (He.fAd K ("mean", none)) fd ["speeds", "last"] (spMean K) ∧ PySem.W.keepIn K (.ref (He.fAd K ("mean", none))) = true ∧ (∃ ds, Vals [V.non] ds ∧ Binds K fd ["speeds", "last"] ds) ∧
    KBn K fd ["speeds", "last"] 1 ["last"] (fun us ws => us ++ ws) (fun vs zs => vs ++ zs) := by
  obtain ⟨fd, F⟩ := F_mean T
  have B0 : ∃ ds, Vals [V.non] ds ∧ Binds K fd ["speeds", "last"] ds := FunD.binds0 F 1 (fun z => by cases z) rfl fun D doc pm an cdv ct us ks hl hk => match us, ks, hl, hk with | [_], [_], _, _ => ⟨_, _, _, _, _, _, rfl, rfl, rfl⟩
  obtain ⟨mv, B1⟩ := FunD.kbinds0 (ps := ["speeds", "last"]) F 1 ["last"] [] (fun us mv ws => us ++ ws) (fun z => by cases z) (fun q hq => by cases hq) (fun r1 _ r3 => r1.append r3) fun D doc pm an cdv ct us mv ws hl hm hw => match us, mv, ws, hl, hm, hw with | [_], [], [_], _, _, _ => rfl
  obtain ⟨fdi, GI, kpi, bi⟩ := ok_Si (P := P) (w := w) (base := base) T
  refine ⟨fd, okF F sc_mean (fun vs H Q E h => ?_) (fun cdv A outer s H vs Q E hr h => ?_), F.kp, B0, B1⟩
  · obtain ⟨t, v, as, as', rfl, _⟩ := h
    rfl
  · obtain ⟨t, v, as, as', rfl, ⟨xs, ht, r⟩, hne, hle, hlast, q⟩ := h
    have hn0 : 0 < as.length := List.length_pos_iff.mpr hne
    refine ⟨_, pss_cons (ps_set (i := 2) sc_mean.nd rfl (.inl rfl) (pv 0))
      (pss_cut (fun σ' H' => ∃ t' xs' x, σ' = [some (.ref t), some v, some (.ref t'), x] ∧ Same H H' ∧ H' t' = some (.tup xs') ∧ RefL (SpAt K) H' xs' as') (ps_if (pt_cmpR op_notN (pv 1) pe_non (nomark _)) (pss_one (ps_set (i := 2) sc_mean.nd rfl (.inl rfl) (pe_slice sl_tupA (pv 0) (po_some (pe_callB (call_max2 rfl) (by rfl) (f_max T) (by decide +kernel) (pa_cons pe_int (pa_cons (pe_op op_sub (pe_callB call_len_seq (by rfl) (f_len T) PySem.boot_len (pa_cons (pv 0) pa_nil)) (pv 1)) pa_nil)))) po_none))) pss_nil)
      (pss_cons (ps_if (pt_cmpR op_eq (pe_callB call_len_seq (by rfl) (f_len T) PySem.boot_len (pa_cons (pv 2) pa_nil)) pe_int (nomark _)) (pss_one ps_never) pss_nil)
      (pss_one (ps_ret (pe_make (m_Speed T) GI (hr.mono (by decide)) rfl (g_Speed T) bi .nil pass0
        (pa_cons (pe_callB (cr_sum rfl) (by rfl) (f_sum T) (by decide +kernel) (pa_cons (pe_lc (own := [("each", 3)]) (g := gName 3) (tt := tYes) (te := tFld K (tVar 3) "bits") (by rfl) sc_mean.nd (pi_tup (pv 2)) (blkOk_by (own := [("each", 3)]) (N := N_mean) (sc := defScope s_mean) (by decide +kernel)) (fun _ _ _ _ _ => pg_name (i := 3) sc_mean.nd rfl (Or.inl rfl)) (fun _ _ _ _ _ => pts_nil) (fun _ _ _ _ _ => pe_fld (pv 3) rfl)) pa_nil))
        (pa_cons (pe_callB (cr_sum rfl) (by rfl) (f_sum T) (by decide +kernel) (pa_cons (pe_lc (own := [("each", 3)]) (g := gName 3) (tt := tYes) (te := tFld K (tVar 3) "beats") (by rfl) sc_mean.nd (pi_tup (pv 2)) (blkOk_by (own := [("each", 3)]) (N := N_mean) (sc := defScope s_mean) (by decide +kernel)) (fun _ _ _ _ _ => pg_name (i := 3) sc_mean.nd rfl (Or.inl rfl)) (fun _ _ _ _ _ => pts_nil) (fun _ _ _ _ _ => pe_fld (pv 3) rfl)) pa_nil)) pa_nil))))))), ?_⟩
    refine ⟨_, rfl, ⟨_, rfl, rfl, _, rfl, ?_⟩, ?_⟩
    · rcases hlast with ⟨rfl, rfl⟩ | ⟨k, rfl, k1, k2, rfl⟩
      · exact iteF ⟨t, xs, none, rfl, Same.refl H, ht, r⟩
      · have ez : (if ((xs.length : Nat) : Int) - (k : Int) > 0 then ((xs.length : Nat) : Int) - (k : Int) else 0) = ((as.length - k : Nat) : Int) := by
          rw [r.1]
          split <;> omega
        refine iteT ⟨_, rfl, _, rfl, t, _, rfl, .inr (SqT.of ht), _, rfl, _, _, rfl, rfl, _, _, rfl, ?_⟩
        show ∃ i, V.int (if ((xs.length : Nat) : Int) - (k : Int) > 0 then ((xs.length : Nat) : Int) - (k : Int) else 0) = .int i ∧ _
        rw [ez]
        refine ⟨_, rfl, t, xs, rfl, SqT.of ht, fun hw => ?_, fun hw p np => ?_⟩
        · rw [HT.sIx_nat, r.1] at hw
          have e0 : as.length - k = 0 := by
            have := hw.1
            omega
          exact ⟨t, xs, none, rfl, Same.refl H, ht, by rw [e0]; exact r⟩
        · have ec : cutV xs (some ((as.length - k : Nat) : Int)) none = xs.drop (as.length - k) := by
            unfold cutV
            rw [HT.sIx_nat, HT.sIx_none, r.1, Nat.min_eq_left (Nat.sub_le _ _)]
            exact List.take_of_length_le (by rw [List.length_drop, r.1]; exact Nat.le_refl _)
          rw [ec]
          exact ⟨p, _, none, rfl, Same.upd np, upd_same, (r.same SpAt.same (Same.upd np)).drop _⟩
    · rintro σ' H' ⟨t', xs', x, rfl, sm, ht', r'⟩
      have hlen : 0 < as'.length ∧ as'.length ≤ 1000 := by
        rcases hlast with ⟨_, rfl⟩ | ⟨k, _, k1, k2, rfl⟩
        · exact ⟨hn0, hle⟩
        · rw [List.length_drop]
          omega
      refine ⟨_, rfl, t', _, rfl, .inr (SqT.of ht'), rfl, _, rfl, ?_⟩
      have nz : decide (V.int ((xs'.length : Nat) : Int) = V.int 0) = false := decide_eq_false fun z => by
        have z2 : ((xs'.length : Nat) : Int) = 0 := V.int.inj z
        rw [r'.1] at z2
        omega
      rw [nz]
      refine iteF ?_
      have hsl : xs'.length < sizeLine := Nat.lt_of_le_of_lt (by rw [r'.1]; exact hlen.2) (by decide)
      have pick : ∀ {i : Nat} {x : V} {H2 : Hp}, Same H' H2 → xs'[i]? = some x → ∃ q a, x = .ref q ∧ as'[i]? = some a ∧ SpAt K H2 q a := fun {i x H2} s2 hx => (r'.same SpAt.same s2).get hx
      refine ⟨_, rfl, t', rfl, ⟨_, SqT.of ht'⟩, fun D1 nD1 => ?_⟩
      refine lc_map (walk_tup (K := K) (a := t') (xs := xs')) (fun i y _ => ∃ a, as'[i]? = some a ∧ y = .int a.1) (fun _ _ _ _ _ h => h) nD1 (fun H2 s2 => SqT.of (s2 _ _ ht')) hsl (fun i x H2 H3 hi s2 hy Kq hq => ?_) fun acc H2 s2 hl hacc hD => ?_
      · obtain ⟨rfl, hx⟩ := hy
        obtain ⟨q', a, rfl, ha, dx, hq'⟩ := pick s2 hx
        exact ⟨rfl, _, rfl, q', _, dx, _, _, rfl, hq', c_Speed T, n_Speed_bits T, fS_b _ _, hq _ _ (Same.refl _) ⟨a, ha, rfl⟩⟩
      · have e1 := map_ints (f := fun p : Int × Int => p.1) (as := as') (H := H2) (by rw [hl, r'.1]) hacc
        subst e1
        refine ⟨D1, _, rfl, SqL.of hD, ?_⟩
        refine ⟨_, rfl, t', rfl, ⟨_, SqT.of (s2 _ _ ht')⟩, fun D2 nD2 => ?_⟩
        refine lc_map (walk_tup (K := K) (a := t') (xs := xs')) (fun i y _ => ∃ a, as'[i]? = some a ∧ y = .int a.2) (fun _ _ _ _ _ h => h) nD2 (fun H3 s3 => SqT.of (s3 _ _ (s2 _ _ ht'))) hsl (fun i x H3 H4 hi s3 hy Kq hq => ?_) fun acc H3 s3 hl hacc hD2 => ?_
        · obtain ⟨rfl, hx⟩ := hy
          obtain ⟨q', a, rfl, ha, dx, hq'⟩ := pick (s2.trans s3) hx
          exact ⟨rfl, _, rfl, q', _, dx, _, _, rfl, hq', c_Speed T, n_Speed_beats T, fS_n _ _, hq _ _ (Same.refl _) ⟨a, ha, rfl⟩⟩
        · have e2 := map_ints (f := fun p : Int × Int => p.2) (as := as') (H := H3) (by rw [hl, r'.1]) hacc
          subst e2
          refine ⟨D2, _, rfl, SqL.of hD2, ?_⟩
          intro x dx nx ndx nex
          refine ⟨x, dx, _, _, rfl, upd_same, fun H4 m => ⟨rfl, ?_⟩⟩
          exact q _ _ (sm.trans (s2.trans (s3.trans (m.same nx ndx)))) ⟨dx, m.1⟩
end
end Rp
/- RpD3 -/
set_option maxHeartbeats 4000000
/-! RpD3: the middle and the slowest of speeds. -/
namespace Rp
open PySem PySem.Spec PyProof.Rows L2
theorem range_filt {α : Type} (l : List α) (q : α → Bool) : ∀ n : Nat, ((List.range n).filter fun i => (l[i]?.map q).getD false).length = ((l.take n).filter q).length
  | 0 => rfl
  | n + 1 => by
    rw [List.range_succ, List.filter_append, List.length_append, range_filt l q n, List.take_succ, List.filter_append, List.length_append]
    congr 1
    cases e : l[n]? with
    | none => simp [e]
    | some y => cases h : q y <;> simp [e, h]
theorem range_filt_all {α : Type} (l : List α) (q : α → Bool) : ((List.range l.length).filter fun i => (l[i]?.map q).getD false).length = (l.filter q).length := by
  rw [range_filt, List.take_length]
theorem RefL.nl {K : PySem.W.Frag} {H H' : Hp} {xs : List V} {as : List (Int × Int)} (r : RefL (SpAt K) H xs as) (k : KeepNL H H') : RefL (SpAt K) H' xs as := ⟨r.1, fun i a h => let ⟨q, e, z⟩ := r.2 i a h; ⟨q, e, z.nl k⟩⟩
section
variable {P : Program} {w : World} {K : PySem.W.Frag} {mg : Str → Option Value} {base : Heap}
/-! ### middle -/
abbrev N_mid : List Str := ["speeds", "rising", "each", "ahead", "there"]
theorem sc_mid : FnScope N_mid ["speeds"] (defScope s_middle) := ⟨rfl, rfl, rfl, by decide +kernel, rfl, by decide +kernel, by decide +kernel⟩
def spMid (K : PySem.W.Frag) : Sp := fun vs H Q _ => ∃ t as, vs = [.ref t] ∧ SpsAt K H t as ∧ as ≠ [] ∧ as.length ≤ 1000 ∧ (∀ p ∈ as, SpOk p) ∧ ∀ r p H', Same H H' → SpAt K H' r p → SpOk p →
  (as.filter fun t => !decide (le p t)).length ≤ (as.length - 1) / 2 → (as.filter fun t => !decide (le t p)).length ≤ as.length - ((as.length - 1) / 2 + 1) → Q (.ref r) H'
theorem ok_mid (T : Tx K mg) : Okd P w K mg base 2 (He.fAd K ("middle", none)) ["speeds"] (spMid K) := by
  obtain ⟨fd, F⟩ := F_middle T
  obtain ⟨fdb, GB, kpb, bb⟩ := ok_Sb (P := P) (w := w) (base := base) T
  refine ⟨fd, okF F sc_mid (fun vs H Q E h => ?_) (fun cdv A outer s H vs Q E hr h => ?_), F.kp, FunD.bindsN F fun _ _ _ _ _ _ us hl => match us, hl with | [_], _ => rfl⟩
  · obtain ⟨t, as, rfl, _⟩ := h
    rfl
  · obtain ⟨t, as, rfl, ⟨xs, ht, r⟩, hne, hle, hok, q⟩ := h
    have hn0 : 0 < as.length := List.length_pos_iff.mpr hne
    refine ⟨_, pss_cons (ps_set (i := 1) sc_mid.nd rfl (.inl rfl) (pe_lst pa_nil))
      (pss_cons (ps_for PassesOwn.never rfl (pi_tup (pv 0)) (pg_name (i := 2) sc_mid.nd rfl (.inr rfl))
        (pss_cons (ps_setLc (i := 3) (own := [("there", 4)]) (g := gName 4) (te := tVar 4) (by rfl) sc_mid.nd rfl rfl (sw_true rfl rfl rfl (by decide +kernel)) (pi_list (pv 1)) (blkOk_by (own := [("there", 4)]) (N := N_mid) (sc := defScope s_middle) (by decide +kernel))
            (fun _ _ _ _ _ => pg_name (i := 4) sc_mid.nd rfl (.inl rfl)) (fun _ _ _ _ _ => pts_one (pt_not (pt_val (pe_meth (pv 2) (c_Speed T) (t_Speed_below T) GB hr bb .nil pass0 (pa_cons (pv 4) pa_nil))))) (fun _ _ _ _ _ => pv 4))
          (pss_one (ps_expr (pe_bm PySem.F.plainAttrs_list PySem.F.slot_list_insert PySem.F.type_list_insert mt_insert (pv 1) (pa_cons (pe_callB call_len_seq (by rfl) (f_len T) PySem.boot_len (pa_cons (pv 3) pa_nil)) (pa_cons (pv 2) pa_nil)))))))
      (pss_one (ps_ret (pe_ix ix_list (pv 1) (pe_op op_fdivN (pe_op op_sub (pe_callB call_len_seq (by rfl) (f_len T) PySem.boot_len (pa_cons (pv 1) pa_nil)) pe_int) pe_int) (fun _ _ => rfl))))), ?_⟩
    refine ⟨Nat.zero_le _, fun l nl => ?_⟩
    refine ⟨_, rfl, t, rfl, ⟨_, SqT.of (Same.upd nl _ _ ht)⟩, for_tup (K := K) (a := t) (xs := xs)
      (fun i σ H' => ∃ xs' as' x y z, σ = [some (.ref t), some (.ref l), x, y, z] ∧ Same H H' ∧ H' l = some (.lst xs') ∧ RefL (SpAt K) H' xs' as' ∧ as'.Perm (as.take i) ∧ Rises (fun p => p) as') ⟨[], [], none, none, none, rfl, Same.upd nl, upd_same, RefL.nil, .refl _, .nil⟩
      (fun i σ H' _ h => by
        obtain ⟨_, _, _, _, _, _, sm, _⟩ := h
        exact SqT.of (sm _ _ ht)) ?_ ?_⟩
    · rintro i x σ H' hx ⟨xs', as', x0, y0, z0, rfl, sm, hl, r', hp, hr'⟩
      obtain ⟨qx, p, rfl, hpa, hqx⟩ := (r.same SpAt.same sm).get hx
      have hi : i < as.length := (List.getElem?_eq_some_iff.mp hpa).1
      have okp : SpOk p := hok p (List.mem_of_getElem? hpa)
      have ok' : ∀ u ∈ as', SpOk u := fun u hu => hok u (List.mem_of_mem_take (hp.mem_iff.mp hu))
      have hlen' : as'.length ≤ as.length := by
        rw [hp.length_eq, List.length_take]
        omega
      have hsl : xs'.length < sizeLine := Nat.lt_of_le_of_lt (by rw [r'.1]; exact Nat.le_trans hlen' hle) (by decide)
      refine ⟨_, rfl, l, rfl, ⟨_, SqL.of hl⟩, fun D nD => ?_⟩
      refine lc_filt (walk_list (K := K) (a := l) (xs := xs')) (fun j => (as'[j]?.map fun u => decide (le u p)).getD false) (fun j => xs'.getD j .non) nD (fun H2 s2 => SqL.of (s2 _ _ hl)) hsl (fun j y H2 H3 hj s2 hy Kq Kn k1 k2 => ?_) fun H2 s2 hD => ?_
      · obtain ⟨rfl, hy⟩ := hy
        obtain ⟨qy, u, rfl, hu, dxu, hqu⟩ := (r'.same SpAt.same s2).get hy
        obtain ⟨dxx, hqx2⟩ := SpAt.same _ _ _ _ s2 hqx
        have oku := ok' u (List.mem_of_getElem? hu)
        refine ⟨rfl, ?_⟩
        refine ⟨_, rfl, qx, dxx, _, rfl, hqx2, fS_no _ _ (by decide +kernel) (by decide +kernel), _, rfl, qx, qy, p, u, rfl, ⟨dxx, hqx2⟩, ⟨dxu, hqu⟩, okp, oku, _, rfl, ?_⟩
        have ec : (as'[j]?.map fun u => decide (le u p)).getD false = decide (le u p) := by rw [hu] <;> rfl
        have ef : xs'.getD j V.non = .ref qy := by rw [List.getD_eq_getElem?_getD, hy] <;> rfl
        cases hc : decide (le u p) with
        | true =>
          refine iteT ⟨_, rfl, ?_⟩
          have q1 := k1 (ec.trans hc) _ (Same.refl _)
          rw [ef] at q1
          exact q1
        | false => exact iteF (k2 (ec.trans hc) _ (Same.refl _))
      · have elen : (((List.range xs'.length).filter fun j => (as'[j]?.map fun u => decide (le u p)).getD false).map fun j => xs'.getD j V.non).length = ahead (fun p => p) p as' := by
          rw [List.length_map, r'.1, range_filt_all]
          rfl
        have ah := ahead_le (f := fun p : Int × Int => p) p as'
        refine ⟨_, rfl, .inl ⟨rfl, _, .inl (.inl (s2 _ _ hl))⟩, _, rfl, D, _, rfl, .inl (SqL.of hD), _, rfl, ?_⟩
        rw [elen]
        refine ⟨l, xs', _, _, rfl, rfl, s2 _ _ hl, hsl, by omega, by omega, ?_⟩
        rw [Int.toNat_natCast]
        have k3 : KeepNL H2 (upd H2 l (.lst (xs'.take (ahead (fun p => p) p as') ++ [.ref qx] ++ xs'.drop (ahead (fun p => p) p as')))) := KeepNL.lst (s2 _ _ hl)
        have r2 : RefL (SpAt K) H2 xs' as' := r'.same SpAt.same s2
        refine ⟨_, as'.take (ahead (fun p => p) p as') ++ [p] ++ as'.drop (ahead (fun p => p) p as'), _, _, _, rfl, fun b o e => ?_, upd_same, RefL.nl (((r2.take _).snoc (SpAt.same _ _ _ _ s2 hqx)).append (r2.drop _)) k3, ?_, ?_⟩
        · rw [upd_ne (ne_of_none e nl)]
          exact s2 _ _ (sm _ _ e)
        · rw [List.append_assoc]
          refine (ins_perm p as' _).trans ?_
          have et : as.take (i + 1) = as.take i ++ [p] := by rw [List.take_succ, hpa] <;> rfl
          rw [et]
          exact (List.Perm.cons p hp).trans (List.perm_append_singleton p _).symm
        · rw [List.append_assoc]
          exact ins_rises (f := fun p : Int × Int => p) (by have := okp.2.2.1; omega) (fun u hu => by have := (ok' u hu).2.2.1; omega) hr'
    · rintro σ H' ⟨xs', as', x0, y0, z0, rfl, sm, hl, r', hp, hr'⟩
      rw [r.1, List.take_length] at hp
      have hl' : as'.length = as.length := hp.length_eq
      have hi : (as.length - 1) / 2 < as'.length := by omega
      obtain ⟨q', e1, hq'⟩ := r'.2 _ _ (List.getElem?_eq_getElem hi)
      have ei : (((xs'.length : Nat) : Int) - 1).fdiv 2 = (((as.length - 1) / 2 : Nat) : Int) := by
        rw [r'.1, hl', Int.fdiv_eq_ediv_of_nonneg _ (by decide)]
        omega
      refine ⟨_, rfl, _, rfl, l, _, rfl, .inl (SqL.of hl), _, _, rfl, rfl, _, _, rfl, rfl, ⟨by decide, by decide⟩, l, xs', _, _, rfl, rfl, SqL.of hl, by show atI xs' ((((xs'.length : Nat) : Int) - 1).fdiv 2) = _; rw [ei]; exact atI_nat e1, ?_⟩
      obtain ⟨c1, c2⟩ := mid_counts (f := fun p : Int × Int => p) hr' (List.getElem?_eq_getElem hi)
      refine q q' _ H' sm hq' (hok _ (hp.mem_iff.mp (List.getElem_mem hi))) ?_ ?_
      · rw [← (hp.filter _).length_eq]
        exact c1
      · rw [← (hp.filter _).length_eq]
        exact Nat.le_trans c2 (by omega)
/-! ### slowest -/
theorem sc_is : FnScope ["each", "there", "key"] ["each", "there", "key"] (defScope s_is_slower) := ⟨rfl, rfl, rfl, by decide +kernel, rfl, by decide +kernel, by decide +kernel⟩
def spIs (K : PySem.W.Frag) : Sp := fun vs H Q _ => ∃ a b p q, vs = [.ref a, .ref b, .non] ∧ SpAt K H a p ∧ SpAt K H b q ∧ SpOk p ∧ SpOk q ∧ Q (.bl (!decide (le q p))) H
theorem ok_is (T : Tx K mg) : Okd P w K mg base 2 (He.fAd K ("is_slower", none)) ["each", "there", "key"] (spIs K) := by
  obtain ⟨fd, F⟩ := F_is_slower T
  obtain ⟨fdb, GB, kpb, bb⟩ := ok_Sb (P := P) (w := w) (base := base) T
  refine ⟨fd, okF F sc_is (fun vs H Q E h => ?_) (fun cdv A outer s H vs Q E hr h => ?_), F.kp, FunD.bindsN F fun _ _ _ _ _ _ us hl => match us, hl with | [_, _, _], _ => rfl⟩
  · obtain ⟨a, b, p, q, rfl, _⟩ := h
    rfl
  · obtain ⟨a, b, p, q, rfl, ⟨dx, ha⟩, hb, hp, hq, k⟩ := h
    refine ⟨_, pss_cons (ps_if (pt_cmpR op_isN (pv 2) pe_non (nomark _)) (pss_one (ps_ret (pe_meth (pv 0) (c_Speed T) (t_Speed_below T) GB hr bb .nil pass0 (pa_cons (pv 1) pa_nil)))) pss_nil) (pss_one ps_never), ?_⟩
    refine ⟨_, rfl, rfl, _, rfl, iteT ?_⟩
    exact ⟨_, rfl, a, dx, _, rfl, ha, fS_no _ _ (by decide +kernel) (by decide +kernel), _, rfl, a, b, p, q, rfl, ⟨dx, ha⟩, hb, hp, hq, k⟩
theorem sc_sl : FnScope ["speeds", "key", "found", "others", "each"] ["speeds", "key"] (defScope s_slowest) := ⟨rfl, rfl, rfl, by decide +kernel, rfl, by decide +kernel, by decide +kernel⟩
def spSl (K : PySem.W.Frag) : Sp := fun vs H Q _ => ∃ t as, vs = [.ref t, .non] ∧ SpsAt K H t as ∧ as ≠ [] ∧ as.length ≤ 1000 ∧ (∀ p ∈ as, SpOk p) ∧ ∀ r p H', Same H H' → SpAt K H' r p → SpOk p → (∀ y ∈ as, le p y) → Q (.ref r) H'
theorem ok_sl (T : Tx K mg) : ∃ fd, FnOk P w K mg base CX0 3 (He.fAd K ("slowest", none)) fd ["speeds", "key"] (spSl K) ∧ PySem.W.keepIn K (.ref (He.fAd K ("slowest", none))) = true ∧ (∃ ds, Vals [V.non] ds ∧ Binds K fd ["speeds", "key"] ds) := by
  obtain ⟨fd, F⟩ := F_slowest T
  have B0 : ∃ ds, Vals [V.non] ds ∧ Binds K fd ["speeds", "key"] ds := FunD.binds0 F 1 (fun z => by cases z) rfl fun D doc pm an cdv ct us ks hl hk => match us, ks, hl, hk with | [_], [_], _, _ => ⟨_, _, _, _, _, _, rfl, rfl, rfl⟩
  obtain ⟨fdb, GB, kpb, bb⟩ := ok_is (P := P) (w := w) (base := base) T
  refine ⟨fd, okF F sc_sl (fun vs H Q E h => ?_) (fun cdv A outer s H vs Q E hr h => ?_), F.kp, B0⟩
  · obtain ⟨t, as, rfl, _⟩ := h
    rfl
  · obtain ⟨t, as, rfl, ⟨xs, ht, r⟩, hne, hle, hok, q⟩ := h
    have hn0 : 0 < as.length := List.length_pos_iff.mpr hne
    refine ⟨_, pss_cons (ps_asg (pe_callTy call_list_of (by rfl) (f_list T) (by decide +kernel) (pa_cons (pv 0) pa_nil)) (pg_star (n := 1) rfl (pgs_cons (pg_name (i := 2) sc_sl.nd rfl (.inl rfl)) (pgs_star (pg_name (i := 3) sc_sl.nd rfl (.inl rfl))))))
      (pss_cons (ps_for PassesOwn.never rfl (pi_list (pv 3)) (pg_name (i := 4) sc_sl.nd rfl (.inl rfl))
        (pss_one (ps_if (pt_val (pe_call GB hr rfl (g_is_slower T) kpb bb .nil pass0 (pa_cons (pv 4) (pa_cons (pv 2) (pa_cons (pv 1) pa_nil))))) (pss_one (ps_set (i := 2) sc_sl.nd rfl (.inl rfl) (pv 4))) pss_nil)))
      (pss_one (ps_ret (pv 2)))), ?_⟩
    cases as with
    | nil => exact absurd rfl hne
    | cons a0 as0 =>
      cases xs with
      | nil => exact absurd r.1 (by simp)
      | cons x0 xs0 =>
        obtain ⟨q0, e0, h0⟩ := r.2 0 a0 rfl
        cases (show x0 = V.ref q0 from Option.some.inj e0)
        have r0 : RefL (SpAt K) H xs0 as0 := r.drop 1
        refine ⟨_, rfl, t, _, rfl, .inr (SqT.of ht), fun l nl => ?_⟩
        refine ⟨l, _, rfl, .inr (SqL.of upd_same), by simp, fun D nD => ?_⟩
        have nD0 : H D = none := (Same.upd nl).free nD
        refine ⟨_, _, rfl, _, _, rfl, rfl, ?_⟩
        have sm : Same H (upd (upd H l (.lst (.ref q0 :: xs0))) D (.lst xs0)) := (Same.upd nl).trans (Same.upd nD)
        refine ⟨_, rfl, D, rfl, ⟨_, SqL.of upd_same⟩, for_list (K := K) (a := D) (xs := xs0)
          (fun i σ H' => H' = upd (upd H l (.lst (.ref q0 :: xs0))) D (.lst xs0) ∧ ∃ qf p x, σ = [some (.ref t), some .non, some (.ref qf), some (.ref D), x] ∧ SpAt K H qf p ∧ SpOk p ∧ ∀ y ∈ (a0 :: as0).take (i + 1), le p y)
          ⟨rfl, q0, a0, none, rfl, h0, hok a0 List.mem_cons_self, fun y hy => by
            have : y = a0 := by simpa using hy
            rw [this]
            exact le_refl _⟩ (fun i σ H' _ h => by rw [h.1]; exact SqL.of upd_same) ?_ ?_⟩
        · rintro i x σ H' hx ⟨rfl, qf, p, y0, rfl, hf, okp, hmin⟩
          obtain ⟨qx, u, rfl, hu, hqx⟩ := r0.get hx
          have oku := hok u (List.mem_cons_of_mem _ (List.mem_of_getElem? hu))
          have et : (a0 :: as0).take (i + 1 + 1) = (a0 :: as0).take (i + 1) ++ [u] := by
            rw [List.take_succ (l := a0 :: as0) (i := i + 1), List.getElem?_cons_succ, hu]
            rfl
          refine ⟨_, rfl, _, rfl, _, rfl, qx, qf, u, p, rfl, SpAt.same _ _ _ _ sm hqx, SpAt.same _ _ _ _ sm hf, oku, okp, _, rfl, ?_⟩
          cases hc : decide (le p u) with
          | true =>
            refine iteF ⟨rfl, qf, p, _, rfl, hf, okp, fun y hy => ?_⟩
            rw [et] at hy
            rcases List.mem_append.mp hy with hy | hy
            · exact hmin y hy
            · rw [List.mem_singleton.mp hy]
              exact of_decide_eq_true hc
          | false =>
            refine iteT ⟨_, rfl, rfl, qx, u, _, rfl, hqx, oku, fun y hy => ?_⟩
            have hup : le u p := le_total (of_decide_eq_false hc)
            rw [et] at hy
            rcases List.mem_append.mp hy with hy | hy
            · have oky := hok y (List.mem_of_mem_take hy)
              exact le_trans (by have := oku.2.2.1; omega) (by have := okp.2.2.1; omega) (by have := oky.2.2.1; omega) hup (hmin y hy)
            · rw [List.mem_singleton.mp hy]
              exact le_refl _
        · rintro σ H' ⟨rfl, qf, p, y0, rfl, hf, okp, hmin⟩
          refine ⟨_, rfl, q qf p _ sm (SpAt.same _ _ _ _ sm hf) okp fun y hy => hmin y ?_⟩
          rw [List.take_of_length_le (by rw [r0.1]; simp)]
          exact hy
end
end Rp
/- RpExtH -/
set_option maxHeartbeats 4000000
/-! RpExtH: isinstance of a function's object. -/
namespace Rp
open PySem PySem.Spec PyProof.Rows L2
theorem fn_slot_ga : Slot "function" "__getattribute__" "object.__getattribute__" :=
  .of (owner := "object") (n := "__getattribute__") (by rw [typeLookup_type, builtinLookup_eq_fast]; kernel_rfl) (by decide +kernel) (by decide +kernel) (by decide +kernel)
    (by first | exact .inl (by decide +kernel) | exact .inr (by decide +kernel)) (by rw [isSubtype_type]; kernel_rfl)
theorem fn_lk : typeLookup (.type "function") "__class__" = pure (some (.builtin "object.__class__")) := by rw [typeLookup_type, builtinLookup_eq_fast]; kernel_rfl
theorem fn_so : isSubtype (.type "function") (.type (".".intercalate ("object.__class__".cutAt '.').dropLast)) = pure true := by rw [F.owner_object_class, isSubtype_type]; kernel_rfl
section
variable {prog : Program} {w : World} {A : Around} {E : Value → Shared → Prop} {h : Heap} {g : Array GenState} {d : Drawn} {t : Nat} {os : OsState} {a : Addr} {o : Obj}
theorem fn_class_call {tk : Tok} {R : Result → Shared → Prop} (hx : h.get? a = some o) (hc : o.cls = .type "function") (hq : R (.ok (.ret (.type "function"))) ⟨h, g, d, t, os⟩) :
    codeAny (model prog w) A (.call (.builtin "object.__getattribute__") ⟨[.ref a, .str "__class__" tk], []⟩) R ⟨h, g, d, t, os⟩ :=
  codeAny_call_builtin fn_slot_ga.plain F.entry_object_getattribute (fn_slot_ga.check _ _ _ _ _ _ _ _ (show (⟨h, g, d, t, os⟩ : Shared).TypeIs (.ref a) "function" from ⟨_, hx, hc⟩) (F.args_object_getattribute_2 _ _) (class_entry_exc fn_lk fn_so (by decide) hx hc hq))
theorem fn_class_by {tk : Tok} {Q : Value → Shared → Prop} (hx : h.get? a = some o) (hc : o.cls = .type "function") (hq : Q (.type "function") ⟨h, g, d, t, os⟩) : wpAny (model prog w) A (getAttrBy (.ref a) (.str "__class__" tk) false) Q E ⟨h, g, d, t, os⟩ := by
  have hT : (⟨h, g, d, t, os⟩ : Shared).TypeIs (.ref a) "function" := ⟨_, hx, hc⟩
  have f2 := fn_slot_ga.lookup
  have f3 := fn_slot_ga.bind (.ref a)
  repeat (any_goals (first | assumption | wp_step))
  refine fn_class_call hx hc ?_
  repeat (any_goals (first | assumption | wp_step))
theorem fn_class_attr {Q : Option Value → Shared → Prop} (hx : h.get? a = some o) (hc : o.cls = .type "function") (hq : Q (some (.type "function")) ⟨h, g, d, t + 1, os⟩) : wpAny (model prog w) A (getAttr? (.ref a) "__class__") Q E ⟨h, g, d, t, os⟩ := by
  unfold getAttr? getAttrBy?
  repeat (any_goals (first | assumption | with_reducible apply fn_class_by hx hc | wp_step))
end
theorem kitx_fn {K : PySem.W.Frag} {a : Addr} : PySem.W.KitX K (.ref a) (.type "function") (PySem.W.KitAt a "function") := PySem.W.kitx_of PySem.W.kitAt_ty (fun {_ _ _ _ _ s} p k => by
  obtain ⟨h, g, d, t, os⟩ := s
  obtain ⟨o, h1, h2⟩ := p
  exact fn_class_attr h1 h2 k)
/-- isinstance(x, T) for all values that TyX knows, and for a function's object -/
def rIsiF (P : Program) (w : World) (K : PySem.W.Frag) : List V → Hp → VK → Prop := fun xs H Q => rIsi K xs H Q ∨ ∃ (f : Addr) (n : String) (b : Bool), xs = [.ref f, .ty n] ∧ IsFn P w H f ∧ PySem.W.kitOne K (.type "function") (.type n) = some b ∧ Q (.bl b) H
theorem call_isiF {X : Cx} : CallR X (.builtin "isinstance") (rIsiF X.prog X.w X.K) := by
  intro pins s σ H xs us Q I r h
  rcases h with h | ⟨f, n, b, rfl, hf, e, q⟩
  · exact call_isi pins s σ H xs us Q I r h
  · obtain ⟨u1, u2, rfl, r1, r2⟩ := vals2 r
    cases (show u1 = Value.ref f from r1)
    cases (show u2 = Value.type n from r2)
    obtain ⟨fd, od, sl, ho⟩ := hf _ I.hok
    exact PySem.W.kia_one kitx_fn I.kIn ⟨_, ho, rfl⟩ e (fun z => nomatch z) fun tk => ⟨.bl b, H, I.tok tk, rfl, q⟩
end Rp
/- RpD4 -/
set_option maxHeartbeats 4000000
/-! RpD4: talks, whole numbers, the stand's small defs. -/
namespace Rp
open PySem PySem.Spec PyProof.Rows L2
/-! ### talks -/
def fT (l z : Addr) : List (Str × V) := putF "sizes" (.ref z) (putF "lengths" (.ref l) [])
theorem fT_l (l z : Addr) : (fT l z).lookup ("lengths" : Str) = some (.ref l) := by
  unfold fT
  rw [lookup_putF, if_neg (by decide +kernel), lookup_putF, if_pos rfl]
theorem fT_z (l z : Addr) : (fT l z).lookup ("sizes" : Str) = some (.ref z) := by
  unfold fT
  rw [lookup_putF, if_pos rfl]
theorem fT_no (l z : Addr) {m : Str} (h1 : ¬ m = "sizes") (h2 : ¬ m = "lengths") : (fT l z).lookup m = none := by
  unfold fT
  rw [lookup_putF, if_neg h1, lookup_putF, if_neg h2]
  rfl
def rowT (H : Hp) (q : Addr) (row : List Int) : Prop := H q = some (.tup (row.map V.int))
theorem rowT_mono : Mono rowT := fun _ _ _ _ s h => s _ _ h
/-- the two tuples of a talk's data -/
structure TkD (H : Hp) (l z : Addr) (lens : List Int) (rows : List (List Int)) : Prop where
  hl : H l = some (.tup (lens.map V.int))
  hz : ∃ zs, H z = some (.tup zs) ∧ RefL rowT H zs rows
theorem TkD.same {H H' : Hp} {l z : Addr} {lens : List Int} {rows : List (List Int)} (d : TkD H l z lens rows) (s : Same H H') : TkD H' l z lens rows :=
  ⟨s _ _ d.hl, let ⟨zs, e, r⟩ := d.hz; ⟨zs, s _ _ e, r.same rowT_mono s⟩⟩
/-- the talk at a -/
def TkAt (K : PySem.W.Frag) (H : Hp) (a : Addr) (lens : List Int) (rows : List (List Int)) : Prop := ∃ dx l z, H a = some (.ins (He.ga K "Talk") dx (fT l z)) ∧ TkD H l z lens rows
theorem TkAt.same {K : PySem.W.Frag} {H H' : Hp} {a : Addr} {lens : List Int} {rows : List (List Int)} (h : TkAt K H a lens rows) (s : Same H H') : TkAt K H' a lens rows := let ⟨dx, l, z, e, d⟩ := h; ⟨dx, l, z, s _ _ e, d.same s⟩
/-- a talk that the law lays: m stretches, r rates -/
structure TkOk (lens : List Int) (rows : List (List Int)) (r : Nat) : Prop where
  len : lens.length = rows.length
  pos : 1 ≤ lens.length
  few : lens.length ≤ 100
  lo : ∀ n ∈ lens, 1 ≤ n ∧ n ≤ 100
  row : ∀ w ∈ rows, w.length = r
  sz : ∀ w ∈ rows, ∀ s ∈ w, 1 ≤ s ∧ s ≤ 1000
  r1 : 1 ≤ r
  r2 : r ≤ 100
theorem sum_ints_le : ∀ {l : List Int}, (∀ n ∈ l, 1 ≤ n ∧ n ≤ 100) → 0 ≤ l.sum ∧ l.sum ≤ 100 * (l.length : Int)
  | [], _ => ⟨Int.le_refl _, by simp⟩
  | n :: l, h => by
    have ih := sum_ints_le (l := l) fun m hm => h m (List.mem_cons_of_mem _ hm)
    have h0 := h n List.mem_cons_self
    rw [List.sum_cons, List.length_cons]
    omega
theorem TkOk.sum {lens : List Int} {rows : List (List Int)} {r : Nat} (k : TkOk lens rows r) : 0 ≤ lens.sum ∧ lens.sum ≤ 10000 := by
  have := sum_ints_le k.lo
  have := k.few
  omega
section
variable {P : Program} {w : World} {K : PySem.W.Frag} {mg : Str → Option Value} {base : Heap}
theorem sc_Ti : FnScope ["self", "lengths", "sizes"] ["self", "lengths", "sizes"] (defScope s_Talk__init_) := ⟨rfl, rfl, rfl, by decide +kernel, rfl, by decide +kernel, by decide +kernel⟩
def spTi (K : PySem.W.Frag) : Sp := fun vs H Q _ => ∃ p dx l z, vs = [.ref p, .ref l, .ref z] ∧ H p = some (.ins (He.ga K "Talk") dx []) ∧ ∀ H', MadeAt H H' p (He.ga K "Talk") dx (fT l z) → Q .non H'
theorem ok_Ti (T : Tx K mg) : Okd P w K mg base 1 (He.fAd K ("Talk", some "__init__")) ["self", "lengths", "sizes"] (spTi K) := by
  obtain ⟨fd, F⟩ := F_Talk__init_ T
  refine ⟨fd, okF F sc_Ti (fun vs H Q E h => ?_) (fun cdv A outer s H vs Q E hr h => ?_), F.kp, FunD.bindsN F fun _ _ _ _ _ _ us hl => match us, hl with | [_, _, _], _ => rfl⟩
  · obtain ⟨p, dx, l, z, rfl, _⟩ := h
    rfl
  · obtain ⟨p, dx, l, z, rfl, hp, q⟩ := h
    refine ⟨_, pss_cons (ps_fld (pv 0) (pv 1) rfl) (pss_one (ps_fld (pv 0) (pv 2) rfl)), ?_⟩
    refine ⟨_, rfl, _, rfl, p, _, dx, _, rfl, hp, c_Talk T, n_Talk_lengths T, (by decide), ?_⟩
    exact ⟨_, rfl, _, rfl, p, _, dx, _, rfl, upd_same, c_Talk T, n_Talk_sizes T, (by show 1 < 1000; decide), q _ ⟨upd_same, fun b' hb => by rw [upd_ne hb, upd_ne hb]⟩⟩
theorem sc_Tl : FnScope ["self"] ["self"] (defScope s_Talk__len_) := ⟨rfl, rfl, rfl, by decide +kernel, rfl, by decide +kernel, by decide +kernel⟩
def spTl (K : PySem.W.Frag) : Sp := fun vs H Q _ => ∃ a lens rows r, vs = [.ref a] ∧ TkAt K H a lens rows ∧ TkOk lens rows r ∧ ∀ H', Same H H' → Q (.int lens.sum) H'
theorem ok_Tl (T : Tx K mg) : Okd P w K mg base 1 (He.fAd K ("Talk", some "__len__")) ["self"] (spTl K) := by
  obtain ⟨fd, F⟩ := F_Talk__len_ T
  refine ⟨fd, okF F sc_Tl (fun vs H Q E h => ?_) (fun cdv A outer s H vs Q E hr h => ?_), F.kp, FunD.bindsN F fun _ _ _ _ _ _ us hl => match us, hl with | [_], _ => rfl⟩
  · obtain ⟨a, lens, rows, r, rfl, _⟩ := h
    rfl
  · obtain ⟨a, lens, rows, r, rfl, ⟨dx, l, z, ha, d⟩, ok, q⟩ := h
    refine ⟨_, pss_one (ps_ret (pe_callB (cr_lenRng 0) (by rfl) (f_len T) PySem.boot_len (pa_cons (pe_callTy cr_range1 (by rfl) (f_range T) (by decide +kernel) (pa_cons (pe_callB (cr_sumT rfl) (by rfl) (f_sum T) (by decide +kernel) (pa_cons (pe_fld (pv 0) rfl) pa_nil)) pa_nil)) pa_nil))), ?_⟩
    have hs := ok.sum
    exact ⟨_, rfl, a, _, dx, _, _, rfl, ha, c_Talk T, n_Talk_lengths T, fT_l _ _, l, lens, rfl, SqT.of d.hl, _, rfl, fun p np => ⟨p, _, rfl, upd_same, hs.1, by omega, q _ (Same.upd np)⟩⟩
theorem sc_Tm : FnScope ["self", "first", "rest"] ["self"] (defScope s_Talk_many_rates) := ⟨rfl, rfl, rfl, by decide +kernel, rfl, by decide +kernel, by decide +kernel⟩
def spTm (K : PySem.W.Frag) : Sp := fun vs H Q _ => ∃ a lens rows r, vs = [.ref a] ∧ TkAt K H a lens rows ∧ TkOk lens rows r ∧ ∀ H', Same H H' → Q (.int (r : Nat)) H'
theorem ok_Tm (T : Tx K mg) : Okd P w K mg base 1 (He.fAd K ("Talk", some "many_rates")) ["self"] (spTm K) := by
  obtain ⟨fd, F⟩ := F_Talk_many_rates T
  refine ⟨fd, okF F sc_Tm (fun vs H Q E h => ?_) (fun cdv A outer s H vs Q E hr h => ?_), F.kp, FunD.bindsN F fun _ _ _ _ _ _ us hl => match us, hl with | [_], _ => rfl⟩
  · obtain ⟨a, lens, rows, r, rfl, _⟩ := h
    rfl
  · obtain ⟨a, lens, rows, r, rfl, ⟨dx, l, z, ha, d⟩, ok, q⟩ := h
    obtain ⟨zs, hz, rz⟩ := d.hz
    refine ⟨_, pss_cons (ps_asg (pe_fld (pv 0) rfl) (pg_star (n := 1) rfl (pgs_cons (pg_name (i := 1) sc_Tm.nd rfl (.inl rfl)) (pgs_star (pg_name (i := 2) sc_Tm.nd rfl (.inl rfl))))))
      (pss_one (ps_ret (pe_callB call_len_seq (by rfl) (f_len T) PySem.boot_len (pa_cons (pv 1) pa_nil)))), ?_⟩
    have hp : 0 < rows.length := by have := ok.pos; have := ok.len; omega
    obtain ⟨q0, e0, h0⟩ := rz.2 0 _ (List.getElem?_eq_getElem hp)
    have ez : zs = .ref q0 :: zs.drop 1 := by
      cases zs with
      | nil => cases e0
      | cons x y => cases e0; rfl
    refine ⟨_, rfl, a, _, dx, _, _, rfl, ha, c_Talk T, n_Talk_sizes T, fT_z _ _, z, zs, rfl, .inl (SqT.of hz), by rw [rz.1]; exact hp, fun D nD => ?_⟩
    have et : zs.take 1 = [.ref q0] := by rw [ez] <;> rfl
    rw [et]
    refine ⟨_, _, rfl, _, _, rfl, rfl, ?_⟩
    refine ⟨_, rfl, q0, _, rfl, .inr (SqT.of (Same.upd nD _ _ h0)), ?_⟩
    rw [List.length_map, ok.row _ (List.getElem_mem hp)]
    exact q _ (Same.upd nD)
/-! ### whole numbers -/
/-- None, a bool, a number, a text -/
inductive Flat : V → Prop
  | int (i : Int) : Flat (.int i)
  | non : Flat .non
  | bl (b : Bool) : Flat (.bl b)
  | str (x : Str) : Flat (.str x)
def isI : V → Bool
  | .int _ => true
  | _ => false
theorem sc_iw : FnScope ["thing"] ["thing"] (defScope s_is_whole) := ⟨rfl, rfl, rfl, by decide +kernel, rfl, by decide +kernel, by decide +kernel⟩
def spIw : Sp := fun vs H Q _ => ∃ v, vs = [v] ∧ Flat v ∧ Q (.bl (isI v)) H
theorem ok_iw (T : Tx K mg) : Okd P w K mg base 1 (He.fAd K ("is_whole", none)) ["thing"] spIw := by
  obtain ⟨fd, F⟩ := F_is_whole T
  refine ⟨fd, okF F sc_iw (fun vs H Q E h => ?_) (fun cdv A outer s H vs Q E hr h => ?_), F.kp, FunD.bindsN F fun _ _ _ _ _ _ us hl => match us, hl with | [_], _ => rfl⟩
  · obtain ⟨v, rfl, _⟩ := h
    rfl
  · obtain ⟨v, rfl, hv, q⟩ := h
    refine ⟨_, pss_one (ps_ret (pe_and (pe_callB call_isi (by rfl) (f_isinstance T) (by decide +kernel) (pa_cons (pv 0) (pa_cons (pe_bltn (v := .ty "int") (by rfl) (f_int T) (by decide +kernel) rfl) pa_nil)))
      (pe_one (pe_not (pe_callB call_isi (by rfl) (f_isinstance T) (by decide +kernel) (pa_cons (pv 0) (pa_cons (pe_bltn (v := .ty "bool") (by rfl) (f_bool T) (by decide +kernel) rfl) pa_nil))))))), ?_⟩
    cases hv with
    | int i => exact ⟨_, rfl, _, _, _, _, true, rfl, .ty _, .base (.int i), kit_ty (by decide +kernel), _, rfl, iteT ⟨_, rfl, _, _, _, _, false, rfl, .ty _, .base (.int i), kit_ty (by decide +kernel), _, rfl, q⟩⟩
    | non => exact ⟨_, rfl, _, _, _, _, false, rfl, .ty _, .base .non, kit_ty (by decide +kernel), _, rfl, iteF q⟩
    | bl b => exact ⟨_, rfl, _, _, _, _, true, rfl, .ty _, .base (.bl b), kit_ty (by decide +kernel), _, rfl, iteT ⟨_, rfl, _, _, _, _, true, rfl, .ty _, .base (.bl b), kit_ty (by decide +kernel), _, rfl, q⟩⟩
    | str x => exact ⟨_, rfl, _, _, _, _, false, rfl, .ty _, .base (.str x), kit_ty (by decide +kernel), _, rfl, iteF q⟩
theorem sc_ir : FnScope ["talk", "thing"] ["talk", "thing"] (defScope s_is_rate) := ⟨rfl, rfl, rfl, by decide +kernel, rfl, by decide +kernel, by decide +kernel⟩
/-- a rate of the talk -/
def rateB (r : Nat) : V → Bool
  | .int i => decide (0 ≤ i) && decide (i < (r : Int))
  | _ => false
def spIr (K : PySem.W.Frag) : Sp := fun vs H Q _ => ∃ a lens rows r v, vs = [.ref a, v] ∧ TkAt K H a lens rows ∧ TkOk lens rows r ∧ Flat v ∧ ∀ H', Same H H' → Q (.bl (rateB r v)) H'
theorem ok_ir (T : Tx K mg) : Okd P w K mg base 2 (He.fAd K ("is_rate", none)) ["talk", "thing"] (spIr K) := by
  obtain ⟨fd, F⟩ := F_is_rate T
  obtain ⟨fdm, GM, kpm, bm⟩ := ok_Tm (P := P) (w := w) (base := base) T
  refine ⟨fd, okF F sc_ir (fun vs H Q E h => ?_) (fun cdv A outer s H vs Q E hr h => ?_), F.kp, FunD.bindsN F fun _ _ _ _ _ _ us hl => match us, hl with | [_, _], _ => rfl⟩
  · obtain ⟨a, lens, rows, r, v, rfl, _⟩ := h
    rfl
  · obtain ⟨a, lens, rows, r, v, rfl, ⟨dx, l, z, ha, d⟩, ok, hv, q⟩ := h
    refine ⟨_, pss_one (ps_ret (pe_and (pe_callB call_isi (by rfl) (f_isinstance T) (by decide +kernel) (pa_cons (pv 1) (pa_cons (pe_bltn (v := .ty "int") (by rfl) (f_int T) (by decide +kernel) rfl) pa_nil)))
      (pe_and (pe_not (pe_callB call_isi (by rfl) (f_isinstance T) (by decide +kernel) (pa_cons (pv 1) (pa_cons (pe_bltn (v := .ty "bool") (by rfl) (f_bool T) (by decide +kernel) rfl) pa_nil))))
        (pe_one (pe_chain op_le op_lt pe_int (pv 1) (pe_meth0 (pv 0) (c_Talk T) (t_Talk_many_rates T) GM hr bm .nil pass0)))))), ?_⟩
    cases hv with
    | int i =>
      refine ⟨_, rfl, _, _, _, _, true, rfl, .ty _, .base (.int i), kit_ty (by decide +kernel), _, rfl, iteT ⟨_, rfl, _, _, _, _, false, rfl, .ty _, .base (.int i), kit_ty (by decide +kernel), _, rfl, _, rfl, iteT ?_⟩⟩
      refine ⟨_, rfl, _, _, rfl, rfl, _, rfl, ?_⟩
      by_cases h0 : 0 ≤ i
      · rw [decide_eq_true h0]
        refine iteT ⟨_, rfl, a, dx, _, rfl, ha, fT_no _ _ (by decide +kernel) (by decide +kernel), a, lens, rows, r, rfl, ⟨dx, l, z, ha, d⟩, ok, fun H' s' => ⟨_, _, rfl, rfl, ?_⟩⟩
        have e : rateB r (.int i) = decide (i < (r : Int)) := by
          show (decide (0 ≤ i) && decide (i < (r : Int))) = _
          rw [decide_eq_true h0, Bool.true_and]
        have := q H' s'
        rw [e] at this
        exact this
      · rw [decide_eq_false h0]
        refine iteF ?_
        have e : rateB r (.int i) = false := by
          show (decide (0 ≤ i) && decide (i < (r : Int))) = _
          rw [decide_eq_false h0, Bool.false_and]
        have := q H (Same.refl _)
        rw [e] at this
        exact this
    | non => exact ⟨_, rfl, _, _, _, _, false, rfl, .ty _, .base .non, kit_ty (by decide +kernel), _, rfl, iteF (q _ (Same.refl _))⟩
    | bl b => exact ⟨_, rfl, _, _, _, _, true, rfl, .ty _, .base (.bl b), kit_ty (by decide +kernel), _, rfl, iteT ⟨_, rfl, _, _, _, _, true, rfl, .ty _, .base (.bl b), kit_ty (by decide +kernel), _, rfl, _, rfl, iteF (q _ (Same.refl _))⟩⟩
    | str x => exact ⟨_, rfl, _, _, _, _, false, rfl, .ty _, .base (.str x), kit_ty (by decide +kernel), _, rfl, iteF (q _ (Same.refl _))⟩
end
end Rp
/- RpD5 -/
set_option maxHeartbeats 4000000
/-! RpD5: the stand, beat by beat; the rate that a chooser tells. -/
namespace Rp
open PySem PySem.Spec PyProof.Rows L2
structure Stn where
  n : Int
  c : Int
  g : Int
  k : Int
  p : Int
  o : Int
def stV (s : Stn) : List V := [.int s.n, .int s.c, .int s.g, .int s.k, .int s.p, .int s.o]
def StAt (K : PySem.W.Frag) (H : Hp) (a : Addr) (s : Stn) : Prop := SqT K H a (stV s)
theorem sqT_same {K : PySem.W.Frag} {H H' : Hp} {a : Addr} {xs : List V} (s : Same H H') (h : SqT K H a xs) : SqT K H' a xs := by
  rcases h with (h | ⟨o, h⟩) | h
  · exact .inl (.inl (s _ _ h))
  · exact .inl (.inr ⟨o, s _ _ h⟩)
  · exact .inr h
theorem StAt.same {K : PySem.W.Frag} {H H' : Hp} {a : Addr} {st : Stn} (h : StAt K H a st) (s : Same H H') : StAt K H' a st := sqT_same s h
def lenAt (lens : List Int) (n : Int) : Int := lens.getD n.toNat 0
def szAt (rows : List (List Int)) (n c : Int) : Int := (rows.getD n.toNat []).getD c.toNat 0
def roomB (lens : List Int) (most : Int) (s : Stn) : Bool := decide (s.n < (lens.length : Int)) && decide (s.k + lenAt lens s.n ≤ most)
def begB (lens : List Int) (b a most : Int) (s : Stn) : Bool := decide ((if s.o = 0 then b else a) ≤ s.k) || (decide (s.n = (lens.length : Int)) || (decide (s.c = -1) && !roomB lens most s))
def playF (lens : List Int) (b a most : Int) (s : Stn) : Int × Int × Int :=
  if s.o ≠ 1 ∧ begB lens b a most s = false then (s.k, s.p, s.o) else if s.k = 0 then (s.k, s.p, 2) else (s.k - 1, s.p + 1, 1)
def beatF (lens : List Int) (rows : List (List Int)) (b a most spd : Int) (s : Stn) : Stn :=
  let q := playF lens b a most s
  if s.c = -1 then ⟨s.n, s.c, s.g, q.1, q.2.1, q.2.2⟩
  else if s.g + (if s.g < 0 then 1 else spd) < szAt rows s.n s.c then ⟨s.n, s.c, s.g + (if s.g < 0 then 1 else spd), q.1, q.2.1, q.2.2⟩
  else ⟨s.n + 1, -1, 0, q.1 + lenAt lens s.n, q.2.1, q.2.2⟩
/-- a stand that the walk may have -/
structure StV (m r : Nat) (s : Stn) : Prop where
  n0 : 0 ≤ s.n
  n1 : s.n ≤ (m : Int)
  c : s.c = -1 ∨ (0 ≤ s.c ∧ s.c < (r : Int) ∧ s.n < (m : Int))
  o : s.o = 0 ∨ s.o = 1 ∨ s.o = 2
theorem atI_ints {l : List Int} {i : Int} (h0 : 0 ≤ i) (h1 : i < (l.length : Int)) : atI (l.map V.int) i = some (.int (l.getD i.toNat 0)) := by
  obtain ⟨k, rfl⟩ := Int.eq_ofNat_of_zero_le h0
  have hk : k < l.length := by omega
  refine atI_nat ?_
  rw [List.getElem?_map, List.getElem?_eq_getElem hk, Int.toNat_natCast, List.getD_eq_getElem?_getD, List.getElem?_eq_getElem hk]
  rfl
theorem atI_ref {α : Type} {R : Hp → Addr → α → Prop} {H : Hp} {xs : List V} {as : List α} (r : RefL R H xs as) {i : Int} (d : α) (h0 : 0 ≤ i) (h1 : i < (as.length : Int)) : ∃ q, atI xs i = some (.ref q) ∧ R H q (as.getD i.toNat d) := by
  obtain ⟨k, rfl⟩ := Int.eq_ofNat_of_zero_le h0
  have hk : k < as.length := by omega
  obtain ⟨q, e, z⟩ := r.2 k _ (List.getElem?_eq_getElem hk)
  refine ⟨q, atI_nat e, ?_⟩
  rw [Int.toNat_natCast, List.getD_eq_getElem?_getD, List.getElem?_eq_getElem hk]
  exact z
section
variable {P : Program} {w : World} {K : PySem.W.Frag} {mg : Str → Option Value} {base : Heap}
/-! ### seen_at, first_stand, is_over, look_room -/
theorem sc_sa : FnScope ["stand", "rate", "speed"] ["stand", "rate", "speed"] (defScope s_seen_at) := ⟨rfl, rfl, rfl, by decide +kernel, rfl, by decide +kernel, by decide +kernel⟩
def spSa (K : PySem.W.Frag) : Sp := fun vs H Q _ => ∃ a s r y, vs = [.ref a, r, y] ∧ StAt K H a s ∧ ∀ p, H p = none → Q (.ref p) (upd H p (.tup [.int s.n, .int s.k, r, y]))
theorem ok_sa (T : Tx K mg) : Okd P w K mg base 1 (He.fAd K ("seen_at", none)) ["stand", "rate", "speed"] (spSa K) := by
  obtain ⟨fd, F⟩ := F_seen_at T
  refine ⟨fd, okF F sc_sa (fun vs H Q E h => ?_) (fun cdv A outer s H vs Q E hr h => ?_), F.kp, FunD.bindsN F fun _ _ _ _ _ _ us hl => match us, hl with | [_, _, _], _ => rfl⟩
  · obtain ⟨a, s, r, y, rfl, _⟩ := h
    rfl
  · obtain ⟨a, s, r, y, rfl, ha, q⟩ := h
    refine ⟨_, pss_one (ps_ret (pe_tup (pa_cons (pe_ix ix_tup (pv 0) pe_int (fun _ _ => rfl)) (pa_cons (pe_ix ix_tup (pv 0) pe_int (fun _ _ => rfl)) (pa_cons (pv 1) (pa_cons (pv 2) pa_nil)))))), ?_⟩
    exact ⟨_, rfl, a, _, _, _, rfl, rfl, ha, atI_nat (j := 0) rfl, _, rfl, a, _, _, _, rfl, rfl, ha, atI_nat (j := 3) rfl, _, rfl, _, rfl, (by show 4 ≤ sizeLine; decide), fun p np => q p np⟩
theorem sc_fs : FnScope [] [] (defScope s_first_stand) := ⟨rfl, rfl, rfl, by decide +kernel, rfl, by decide +kernel, by decide +kernel⟩
def spFs (K : PySem.W.Frag) : Sp := fun vs H Q _ => vs = [] ∧ (StAt K H (He.ga K "FIRST") ⟨0, -1, 0, 0, 0, 0⟩ → Q (.ref (He.ga K "FIRST")) H)
theorem ok_fs (T : Tx K mg) : Okd P w K mg base 1 (He.fAd K ("first_stand", none)) [] (spFs K) := by
  obtain ⟨fd, F⟩ := F_first_stand T
  refine ⟨fd, okF F sc_fs (fun vs H Q E h => ?_) (fun cdv A outer s H vs Q E hr h => ?_), F.kp, FunD.bindsN F fun _ _ _ _ _ _ us hl => match us, hl with | [], _ => rfl⟩
  · obtain ⟨rfl, _⟩ := h
    rfl
  · obtain ⟨rfl, q⟩ := h
    exact ⟨_, pss_one (ps_ret (pe_glob (v := .ref (He.ga K "FIRST")) rfl (g_FIRST T) rfl)), q (q_FIRST T H)⟩
theorem sc_io : FnScope ["talk", "stand"] ["talk", "stand"] (defScope s_is_over) := ⟨rfl, rfl, rfl, by decide +kernel, rfl, by decide +kernel, by decide +kernel⟩
def spIo (K : PySem.W.Frag) : Sp := fun vs H Q _ => ∃ a t s lens rows r, vs = [.ref a, .ref t] ∧ TkAt K H a lens rows ∧ TkOk lens rows r ∧ StAt K H t s ∧ ∀ H', Same H H' → Q (.bl (decide (s.p = lens.sum))) H'
theorem ok_io (T : Tx K mg) : Okd P w K mg base 3 (He.fAd K ("is_over", none)) ["talk", "stand"] (spIo K) := by
  obtain ⟨fd, F⟩ := F_is_over T
  obtain ⟨fdl, GL, kpl, bl⟩ := ok_Tl (P := P) (w := w) (base := base) T
  have ml := t_Talk_len_ T
  refine ⟨fd, okF F sc_io (fun vs H Q E h => ?_) (fun cdv A outer s H vs Q E hr h => ?_), F.kp, FunD.bindsN F fun _ _ _ _ _ _ us hl => match us, hl with | [_, _], _ => rfl⟩
  · obtain ⟨a, t, s, lens, rows, r, rfl, _⟩ := h
    rfl
  · obtain ⟨a, t, s, lens, rows, r, rfl, htk, ok, ht, q⟩ := h
    obtain ⟨dx, l, z, ha, d⟩ := id htk
    refine ⟨_, pss_one (ps_ret (pe_cmpR op_eq (pe_ix ix_tup (pv 1) pe_int (fun _ _ => rfl)) (pe_lenOwn (pv 0) ml.at_ ml.fn GL bl hr (by rfl) (f_len T)) (nomark _))), ?_⟩
    refine ⟨_, rfl, t, _, _, _, rfl, rfl, ht, atI_nat (j := 4) rfl, _, rfl, a, dx, _, rfl, ha, a, lens, rows, r, rfl, htk, ok, fun H' s' => ?_⟩
    have hs := ok.sum
    refine ⟨_, rfl, hs.1, by omega, rfl, ?_⟩
    have e : decide (V.int s.p = V.int lens.sum) = decide (s.p = lens.sum) := by
      by_cases c : s.p = lens.sum
      · rw [decide_eq_true c, decide_eq_true (by rw [c])]
      · rw [decide_eq_false c, decide_eq_false fun z => c (V.int.inj z)]
    show Q (.bl (decide (V.int s.p = V.int lens.sum))) H'
    rw [e]
    exact q H' s'
theorem sc_lr : FnScope ["talk", "most", "number", "length"] ["talk", "most"] (defScope s_look_room) := ⟨rfl, rfl, rfl, by decide +kernel, rfl, by decide +kernel, by decide +kernel⟩
def spLr (K : PySem.W.Frag) : Sp := fun vs H Q _ => ∃ a most lens rows r, vs = [.ref a, .int most] ∧ TkAt K H a lens rows ∧ TkOk lens rows r ∧ (∀ n ∈ lens, n ≤ most) ∧ ∀ H', Same H H' → Q .non H'
theorem ok_lr (T : Tx K mg) : Okd P w K mg base 1 (He.fAd K ("look_room", none)) ["talk", "most"] (spLr K) := by
  obtain ⟨fd, F⟩ := F_look_room T
  refine ⟨fd, okF F sc_lr (fun vs H Q E h => ?_) (fun cdv A outer s H vs Q E hr h => ?_), F.kp, FunD.bindsN F fun _ _ _ _ _ _ us hl => match us, hl with | [_, _], _ => rfl⟩
  · obtain ⟨a, most, lens, rows, r, rfl, _⟩ := h
    rfl
  · obtain ⟨a, most, lens, rows, r, rfl, ⟨dx, l, z, ha, d⟩, ok, hm, q⟩ := h
    refine ⟨_, pss_one (ps_for PassesOwn.never rfl (pi_enumT (by rfl) (f_enumerate T) (pa_cons (pe_fld (pv 0) rfl) pa_nil)) (pg_tup rfl (pgs_cons (pg_name (i := 2) sc_lr.nd rfl (.inl rfl)) (pgs_cons (pg_name (i := 3) sc_lr.nd rfl (.inl rfl)) pgs_nil)))
      (pss_one (ps_if (pt_cmpR op_gt (pv 3) (pv 1) (nomark _)) (pss_one ps_never) pss_nil))), ?_⟩
    refine ⟨_, rfl, a, _, dx, _, _, rfl, ha, c_Talk T, n_Talk_lengths T, fT_l _ _, l, _, rfl, SqT.of d.hl, ?_⟩
    refine for_it (walk_enumT (K := K) (a := l) (xs := lens.map V.int)) (fun i σ H' => Same H H' ∧ ∃ x y, σ = [some (.ref a), some (.int most), x, y]) ⟨Same.refl H, none, none, rfl⟩ (fun i σ H' _ h => SqT.of (h.1 _ _ d.hl)) ?_ fun σ H' h => q H' h.1
    rintro i x σ H' H2 hi ⟨s', x0, y0, rfl⟩ ⟨t, x1, x2, rfl, nt, rfl, e1, e2⟩
    cases e1
    have e2 : (lens.map V.int)[i]? = some x2 := e2
    rw [List.getElem?_map] at e2
    cases e3 : lens[i]? with
    | none =>
      rw [e3] at e2
      cases e2
    | some n =>
      rw [e3] at e2
      cases e2
      have hn := hm n (List.mem_of_getElem? e3)
      refine ⟨t, _, rfl, SqT.of upd_same, rfl, _, _, rfl, _, _, rfl, rfl, ?_⟩
      refine ⟨_, rfl, _, rfl, _, _, rfl, rfl, _, rfl, ?_⟩
      rw [decide_eq_false (by omega)]
      exact iteF ⟨s'.trans (Same.upd nt), _, _, rfl⟩
/-! ### has_room, chosen -/
theorem sc_hr : FnScope ["talk", "stand", "most", "number", "coming", "got", "kept", "others"] ["talk", "stand", "most"] (defScope s_has_room) := ⟨rfl, rfl, rfl, by decide +kernel, rfl, by decide +kernel, by decide +kernel⟩
def spHr (K : PySem.W.Frag) : Sp := fun vs H Q _ => ∃ a t most s lens rows r, vs = [.ref a, .ref t, .int most] ∧ TkAt K H a lens rows ∧ TkOk lens rows r ∧ StAt K H t s ∧ 0 ≤ s.n ∧ ∀ H', Same H H' → Q (.bl (roomB lens most s)) H'
theorem ok_hr (T : Tx K mg) : Okd P w K mg base 1 (He.fAd K ("has_room", none)) ["talk", "stand", "most"] (spHr K) := by
  obtain ⟨fd, F⟩ := F_has_room T
  refine ⟨fd, okF F sc_hr (fun vs H Q E h => ?_) (fun cdv A outer s H vs Q E hr h => ?_), F.kp, FunD.bindsN F fun _ _ _ _ _ _ us hl => match us, hl with | [_, _, _], _ => rfl⟩
  · obtain ⟨a, t, most, s, lens, rows, r, rfl, _⟩ := h
    rfl
  · obtain ⟨a, t, most, s, lens, rows, r, rfl, ⟨dx, l, z, ha, d⟩, ok, ht, h0, q⟩ := h
    refine ⟨_, pss_cons (ps_asg (pv 1) (pg_star (n := 4) rfl (pgs_cons (pg_name (i := 3) sc_hr.nd rfl (.inl rfl)) (pgs_cons (pg_name (i := 4) sc_hr.nd rfl (.inl rfl)) (pgs_cons (pg_name (i := 5) sc_hr.nd rfl (.inl rfl)) (pgs_cons (pg_name (i := 6) sc_hr.nd rfl (.inl rfl)) (pgs_star (pg_name (i := 7) sc_hr.nd rfl (.inl rfl)))))))))
      (pss_one (ps_ret (pe_and (pe_cmpR op_lt (pv 3) (pe_callB call_len_seq (by rfl) (f_len T) PySem.boot_len (pa_cons (pe_fld (pv 0) rfl) pa_nil)) (nomark _))
        (pe_one (pe_cmpR op_le (pe_op op_add (pv 6) (pe_ix ix_tup (pe_fld (pv 0) rfl) (pv 3) (fun _ _ => rfl))) (pv 2) (nomark _)))))), ?_⟩
    refine ⟨_, rfl, t, stV s, rfl, .inl ht, (by show 4 ≤ 6; decide), fun D nD => ⟨_, _, rfl, _, _, rfl, _, _, rfl, _, _, rfl, _, _, rfl, rfl, ?_⟩⟩
    have sm := Same.upd (o := .lst ((stV s).drop 4)) nD
    refine ⟨_, rfl, _, rfl, a, _, dx, _, _, rfl, sm _ _ ha, c_Talk T, n_Talk_lengths T, fT_l _ _, l, _, rfl, .inr (SqT.of (sm _ _ d.hl)), _, _, rfl, rfl, _, rfl, ?_⟩
    rw [List.length_map]
    have qq := q _ sm
    unfold roomB at qq
    by_cases c : s.n < (lens.length : Int)
    · rw [decide_eq_true c] at qq ⊢
      exact iteT ⟨_, rfl, _, rfl, a, _, dx, _, _, rfl, sm _ _ ha, c_Talk T, n_Talk_lengths T, fT_l _ _, _, rfl, l, _, _, _, rfl, rfl, SqT.of (sm _ _ d.hl), atI_ints h0 c, _, _, rfl, rfl, _, rfl, _, _, rfl, rfl, qq⟩
    · rw [decide_eq_false c] at qq ⊢
      exact iteF qq
theorem sc_ch : FnScope ["stand", "rate", "wait", "number", "coming", "got", "others"] ["stand", "rate", "wait"] (defScope s_chosen) := ⟨rfl, rfl, rfl, by decide +kernel, rfl, by decide +kernel, by decide +kernel⟩
def spCh (K : PySem.W.Frag) : Sp := fun vs H Q _ => ∃ t s rate wait, vs = [.ref t, .int rate, .int wait] ∧ StAt K H t s ∧ ∀ p H', Same H H' → H' p = some (.tup (stV ⟨s.n, rate, 0 - wait, s.k, s.p, s.o⟩)) → Q (.ref p) H'
theorem ok_ch (T : Tx K mg) : ∃ fd, FnOk P w K mg base CX0 1 (He.fAd K ("chosen", none)) fd ["stand", "rate", "wait"] (spCh K) ∧ PySem.W.keepIn K (.ref (He.fAd K ("chosen", none))) = true ∧
    KBn K fd ["stand", "rate", "wait"] 2 ["wait"] (fun us ws => us ++ ws) (fun vs zs => vs ++ zs) := by
  obtain ⟨fd, F⟩ := F_chosen T
  obtain ⟨mv, B1⟩ := FunD.kbinds0 (ps := ["stand", "rate", "wait"]) F 2 ["wait"] [] (fun us mv ws => us ++ ws) (fun z => by cases z) (fun q hq => by cases hq) (fun r1 _ r3 => r1.append r3) fun D doc pm an cdv ct us mv ws hl hm hw => match us, mv, ws, hl, hm, hw with | [_, _], [], [_], _, _, _ => rfl
  refine ⟨fd, okF F sc_ch (fun vs H Q E h => ?_) (fun cdv A outer s H vs Q E hr h => ?_), F.kp, B1⟩
  · obtain ⟨t, s, rate, wait, rfl, _⟩ := h
    rfl
  · obtain ⟨t, s, rate, wait, rfl, ht, q⟩ := h
    refine ⟨_, pss_cons (ps_asg (pv 0) (pg_star (n := 3) rfl (pgs_cons (pg_name (i := 3) sc_ch.nd rfl (.inl rfl)) (pgs_cons (pg_name (i := 4) sc_ch.nd rfl (.inl rfl)) (pgs_cons (pg_name (i := 5) sc_ch.nd rfl (.inl rfl)) (pgs_star (pg_name (i := 6) sc_ch.nd rfl (.inl rfl))))))))
      (pss_one (ps_ret (pe_op op_catA (pe_tup (pa_cons (pv 3) (pa_cons (pv 1) (pa_cons (pe_op op_sub pe_int (pv 2)) pa_nil)))) (pe_callTy call_tuple_of (by rfl) (f_tuple T) (by decide +kernel) (pa_cons (pv 6) pa_nil))))), ?_⟩
    refine ⟨_, rfl, t, stV s, rfl, .inl ht, (by show 3 ≤ 6; decide), fun D nD => ⟨_, _, rfl, _, _, rfl, _, _, rfl, _, _, rfl, rfl, ?_⟩⟩
    have s1 := Same.upd (o := .lst ((stV s).drop 3)) nD
    refine ⟨_, rfl, _, rfl, _, rfl, _, _, rfl, rfl, (by show 3 ≤ sizeLine; decide), fun p1 n1 => ?_⟩
    have s2 := s1.trans (Same.upd (o := .tup [.int s.n, .int rate, .int (0 - wait)]) n1)
    refine ⟨_, rfl, D, _, rfl, .inl ⟨SqL.of (Same.upd n1 _ _ upd_same), fun p2 n2 => ?_⟩⟩
    have s3 := s2.trans (Same.upd (o := .tup ((stV s).drop 3)) n2)
    refine ⟨p1, p2, [.int s.n, .int rate, .int (0 - wait)], (stV s).drop 3, rfl, rfl, SqT.of (Same.upd n2 _ _ upd_same), SqT.of upd_same, (by show 6 ≤ sizeLine; decide), (fun z => by cases z), (fun _ z => by cases z), fun _ _ p3 n3 => ?_⟩
    exact q p3 _ (s3.trans (Same.upd n3)) upd_same
end
end Rp
/- RpD6 -/
set_option maxHeartbeats 4000000
/-! RpD6: begins, played_on, beat_on, rate_by. -/
namespace Rp
open PySem PySem.Spec PyProof.Rows L2
section
variable {P : Program} {w : World} {K : PySem.W.Frag} {mg : Str → Option Value} {base : Heap}
theorem units1 {k : Nat} {A : Around} (r : Room k A) : A.units + 1 < cLine := by
  have := r.un
  omega
abbrev N_bg : List Str := ["talk", "stand", "begin", "again", "most", "number", "coming", "got", "kept", "played", "going"]
theorem sc_bg : FnScope N_bg ["talk", "stand", "begin", "again", "most"] (defScope s_begins) := ⟨rfl, rfl, rfl, by decide +kernel, rfl, by decide +kernel, by decide +kernel⟩
def spBg (K : PySem.W.Frag) : Sp := fun vs H Q _ => ∃ a t b g most s lens rows r, vs = [.ref a, .ref t, .int b, .int g, .int most] ∧ TkAt K H a lens rows ∧ TkOk lens rows r ∧ StAt K H t s ∧ StV lens.length r s ∧ s.o ≠ 1 ∧ ∀ H', Same H H' → Q (.bl (begB lens b g most s)) H'
theorem dec_intV (i j : Int) : decide (V.int i = V.int j) = decide (i = j) := by
  by_cases c : i = j
  · rw [decide_eq_true c, decide_eq_true (by rw [c])]
  · rw [decide_eq_false c, decide_eq_false fun z => c (V.int.inj z)]
theorem ok_bg (T : Tx K mg) : Okd P w K mg base 2 (He.fAd K ("begins", none)) ["talk", "stand", "begin", "again", "most"] (spBg K) := by
  obtain ⟨fd, F⟩ := F_begins T
  obtain ⟨fdh, GH, kph, bh⟩ := ok_hr (P := P) (w := w) (base := base) T
  obtain ⟨tA, gA⟩ := i_AHEAD T
  obtain ⟨tS, gS⟩ := i_STALLS T
  obtain ⟨tN, gN⟩ := i_NONE T
  refine ⟨fd, okF F sc_bg (fun vs H Q E h => ?_) (fun cdv A outer s H vs Q E hr h => ?_), F.kp, FunD.bindsN F fun _ _ _ _ _ _ us hl => match us, hl with | [_, _, _, _, _], _ => rfl⟩
  · obtain ⟨a, t, b, g, most, s, lens, rows, r, rfl, _⟩ := h
    rfl
  · obtain ⟨a, t, b, g, most, s, lens, rows, r, rfl, htk, ok, ht, sv, ho, q⟩ := h
    obtain ⟨dx, l, z, ha, d⟩ := id htk
    have hu := units1 hr
    refine ⟨_, pss_cons (ps_asg (pv 1) (pg_tup rfl (pgs_cons (pg_name (i := 5) sc_bg.nd rfl (.inl rfl)) (pgs_cons (pg_name (i := 6) sc_bg.nd rfl (.inl rfl)) (pgs_cons (pg_name (i := 7) sc_bg.nd rfl (.inl rfl)) (pgs_cons (pg_name (i := 8) sc_bg.nd rfl (.inl rfl)) (pgs_cons (pg_name (i := 9) sc_bg.nd rfl (.inl rfl)) (pgs_cons (pg_name (i := 10) sc_bg.nd rfl (.inl rfl)) pgs_nil))))))))
      (pss_cons (ps_if (PW.pt (pw_or (pt_cmpR op_ge (pv 8) (pe_dget hu (pe_disp (pps_cons (pe_glob (v := .int 0) rfl gA ⟨_, rfl⟩) (pv 2) (pps_cons (pe_glob (v := .int 2) rfl gS ⟨_, rfl⟩) (pv 3) pps_nil)) (by rfl) (by rfl) (fun z => by cases z) (by decide)) (pv 10) (fun _ _ => rfl)) (nomark _))
          (pw_or1 (pt_cmpR op_eq (pv 5) (pe_callB call_len_seq (by rfl) (f_len T) PySem.boot_len (pa_cons (pe_fld (pv 0) rfl) pa_nil)) (nomark _))))) (pss_one (ps_ret pe_bl)) pss_nil)
      (pss_one (ps_ret (pe_and (pe_cmpR op_eq (pv 6) (pe_glob (v := .int (-1)) rfl gN ⟨_, rfl⟩) (nomark _)) (pe_one (pe_not (pe_call GH (hr.mono (by decide)) rfl (g_has_room T) kph bh .nil pass0 (pa_cons (pv 0) (pa_cons (pv 1) (pa_cons (pv 4) pa_nil)))))))))), ?_⟩
    refine ⟨_, rfl, t, stV s, rfl, ht, rfl, _, _, rfl, _, _, rfl, _, _, rfl, _, _, rfl, _, _, rfl, _, _, rfl, rfl, ?_⟩
    refine ⟨_, rfl, fun p np => ?_⟩
    refine ⟨_, rfl, _, rfl, upd_same, [(Sum.inl 0, .int b), (Sum.inl 2, .int g)], rfl, (by show 2 ≤ 15; decide), ?_⟩
    have sm : Same H (upd (upd H p (.dK [])) p (.dK (mergeK [] [(Sum.inl 0, .int b), (Sum.inl 2, .int g)]))) := fun b' o e => by
      rw [upd_ne (ne_of_none e np), upd_ne (ne_of_none e np)]
      exact e
    have hget : DGet (upd (upd H p (.dK [])) p (.dK (mergeK [] [(Sum.inl 0, .int b), (Sum.inl 2, .int g)]))) p (.int s.o) (some (.int (if s.o = 0 then b else g))) := by
      have q := DGet.k (k := Sum.inl s.o) (upd_same (H := upd H p (.dK [])) (a := p) (o := .dK (mergeK [] [(Sum.inl 0, .int b), (Sum.inl 2, .int g)])))
      rcases sv.o with z | z | z
      · rw [z] at q ⊢
        exact q
      · exact absurd z ho
      · rw [z] at q ⊢
        exact q
    refine ⟨_, rfl, p, _, rfl, hget, _, _, rfl, rfl, _, rfl, ?_⟩
    have qq := q _ sm
    unfold begB at qq
    by_cases c1 : (if s.o = 0 then b else g) ≤ s.k
    · rw [decide_eq_true c1] at qq ⊢
      exact iteT (iteT qq)
    · rw [decide_eq_false c1, Bool.false_or] at qq
      rw [decide_eq_false c1]
      refine iteF ⟨_, rfl, _, rfl, a, _, dx, _, _, rfl, sm _ _ ha, c_Talk T, n_Talk_lengths T, fT_l _ _, l, _, rfl, .inr (SqT.of (sm _ _ d.hl)), rfl, _, rfl, ?_⟩
      rw [List.length_map, dec_intV]
      by_cases c2 : s.n = (lens.length : Int)
      · rw [decide_eq_true c2] at qq ⊢
        exact iteT qq
      · rw [decide_eq_false c2, Bool.false_or] at qq
        rw [decide_eq_false c2]
        refine iteF ⟨_, rfl, rfl, _, rfl, ?_⟩
        rw [dec_intV]
        by_cases c3 : s.c = -1
        · rw [decide_eq_true c3] at qq ⊢
          refine iteT ⟨_, rfl, _, rfl, _, rfl, a, t, most, s, lens, rows, r, rfl, htk.same sm, ok, ht.same sm, sv.n0, fun H' s' => ⟨_, rfl, ?_⟩⟩
          have q3 := q H' (sm.trans s')
          unfold begB at q3
          rw [decide_eq_false c1, decide_eq_false c2, decide_eq_true c3] at q3
          exact q3
        · rw [decide_eq_false c3] at qq ⊢
          exact iteF qq
abbrev N_po : List Str := ["talk", "stand", "begin", "again", "most", "number", "coming", "got", "kept", "played", "going"]
theorem sc_po : FnScope N_po ["talk", "stand", "begin", "again", "most"] (defScope s_played_on) := ⟨rfl, rfl, rfl, by decide +kernel, rfl, by decide +kernel, by decide +kernel⟩
def spPo (K : PySem.W.Frag) : Sp := fun vs H Q _ => ∃ a t b g most s lens rows r, vs = [.ref a, .ref t, .int b, .int g, .int most] ∧ TkAt K H a lens rows ∧ TkOk lens rows r ∧ StAt K H t s ∧ StV lens.length r s ∧
  ∀ p H', Same H H' → H' p = some (.tup [.int (playF lens b g most s).1, .int (playF lens b g most s).2.1, .int (playF lens b g most s).2.2]) → Q (.ref p) H'
theorem ok_po (T : Tx K mg) : Okd P w K mg base 3 (He.fAd K ("played_on", none)) ["talk", "stand", "begin", "again", "most"] (spPo K) := by
  obtain ⟨fd, F⟩ := F_played_on T
  obtain ⟨fdb, GB, kpb, bb⟩ := ok_bg (P := P) (w := w) (base := base) T
  obtain ⟨tP, gP⟩ := i_PLAYS T
  obtain ⟨tS, gS⟩ := i_STALLS T
  refine ⟨fd, okF F sc_po (fun vs H Q E h => ?_) (fun cdv A outer s H vs Q E hr h => ?_), F.kp, FunD.bindsN F fun _ _ _ _ _ _ us hl => match us, hl with | [_, _, _, _, _], _ => rfl⟩
  · obtain ⟨a, t, b, g, most, s, lens, rows, r, rfl, _⟩ := h
    rfl
  · obtain ⟨a, t, b, g, most, s, lens, rows, r, rfl, htk, ok, ht, sv, q⟩ := h
    refine ⟨_, pss_cons (ps_asg (pv 1) (pg_tup rfl (pgs_cons (pg_name (i := 5) sc_po.nd rfl (.inl rfl)) (pgs_cons (pg_name (i := 6) sc_po.nd rfl (.inl rfl)) (pgs_cons (pg_name (i := 7) sc_po.nd rfl (.inl rfl)) (pgs_cons (pg_name (i := 8) sc_po.nd rfl (.inl rfl)) (pgs_cons (pg_name (i := 9) sc_po.nd rfl (.inl rfl)) (pgs_cons (pg_name (i := 10) sc_po.nd rfl (.inl rfl)) pgs_nil))))))))
      (pss_cut (fun σ' H' => σ' = [some (.ref a), some (.ref t), some (.int b), some (.int g), some (.int most), some (.int s.n), some (.int s.c), some (.int s.g), some (.int s.k), some (.int s.p), some (.int s.o)] ∧ Same H H' ∧ ¬ (s.o ≠ 1 ∧ begB lens b g most s = false))
        (ps_if (PW.pt (pw_and (pt_cmpR op_ne (pv 10) (pe_glob (v := .int 1) rfl gP ⟨_, rfl⟩) (nomark _)) (pw_and1 (pt_not (pt_val (pe_call GB hr rfl (g_begins T) kpb bb .nil pass0 (pa_cons (pv 0) (pa_cons (pv 1) (pa_cons (pv 2) (pa_cons (pv 3) (pa_cons (pv 4) pa_nil))))))))))) (pss_one (ps_ret (pe_tup (pa_cons (pv 8) (pa_cons (pv 9) (pa_cons (pv 10) pa_nil)))))) pss_nil)
      (pss_cons (ps_if (pt_cmpR op_eq (pv 8) pe_int (nomark _)) (pss_one (ps_ret (pe_tup (pa_cons (pv 8) (pa_cons (pv 9) (pa_cons (pe_glob (v := .int 2) rfl gS ⟨_, rfl⟩) pa_nil)))))) pss_nil)
      (pss_one (ps_ret (pe_tup (pa_cons (pe_op op_sub (pv 8) pe_int) (pa_cons (pe_op op_add (pv 9) pe_int) (pa_cons (pe_glob (v := .int 1) rfl gP ⟨_, rfl⟩) pa_nil)))))))), ?_⟩
    have h3 : 3 ≤ sizeLine := by decide
    refine ⟨_, rfl, t, stV s, rfl, ht, rfl, _, _, rfl, _, _, rfl, _, _, rfl, _, _, rfl, _, _, rfl, _, _, rfl, rfl, ⟨_, rfl, rfl, _, rfl, ?_⟩, ?_⟩
    · rw [dec_intV]
      by_cases c1 : s.o = 1
      · rw [decide_eq_true c1]
        refine iteF (iteF ⟨rfl, Same.refl H, fun z => z.1 c1⟩)
      · rw [decide_eq_false c1]
        refine iteT ⟨_, rfl, _, rfl, _, rfl, _, rfl, _, rfl, a, t, b, g, most, s, lens, rows, r, rfl, htk, ok, ht, sv, c1, fun H' s' => ⟨_, rfl, ?_⟩⟩
        cases c2 : begB lens b g most s with
        | true => exact iteF ⟨rfl, s', fun z => absurd z.2 (by decide)⟩
        | false =>
          refine iteT ⟨_, rfl, _, rfl, _, rfl, h3, fun p np => ?_⟩
          have e : playF lens b g most s = (s.k, s.p, s.o) := if_pos ⟨c1, c2⟩
          refine q p _ (s'.trans (Same.upd np)) ?_
          rw [upd_same, e]
    · rintro σ' H' ⟨rfl, s', hn⟩
      refine ⟨_, rfl, rfl, _, rfl, ?_⟩
      rw [dec_intV]
      by_cases c3 : s.k = 0
      · rw [decide_eq_true c3]
        refine iteT ⟨_, rfl, _, rfl, h3, fun p np => ?_⟩
        have e : playF lens b g most s = (s.k, s.p, 2) := (if_neg hn).trans (if_pos c3)
        refine q p _ (s'.trans (Same.upd np)) ?_
        rw [upd_same, e]
      · rw [decide_eq_false c3]
        refine iteF ⟨_, rfl, _, _, rfl, rfl, _, rfl, _, _, rfl, rfl, h3, fun p np => ?_⟩
        have e : playF lens b g most s = (s.k - 1, s.p + 1, 1) := (if_neg hn).trans (if_neg c3)
        refine q p _ (s'.trans (Same.upd np)) ?_
        rw [upd_same, e]
abbrev N_bo : List Str := ["talk", "stand", "speed", "begin", "again", "most", "number", "coming", "got", "others", "kept", "played", "going"]
theorem sc_bo : FnScope N_bo ["talk", "stand", "speed", "begin", "again", "most"] (defScope s_beat_on) := ⟨rfl, rfl, rfl, by decide +kernel, rfl, by decide +kernel, by decide +kernel⟩
def spBo (K : PySem.W.Frag) : Sp := fun vs H Q _ => ∃ a t spd b g most s lens rows r, vs = [.ref a, .ref t, .int spd, .int b, .int g, .int most] ∧ TkAt K H a lens rows ∧ TkOk lens rows r ∧ StAt K H t s ∧ StV lens.length r s ∧
  ∀ p H', Same H H' → H' p = some (.tup (stV (beatF lens rows b g most spd s))) → Q (.ref p) H'
theorem ok_bo (T : Tx K mg) : Okd P w K mg base 4 (He.fAd K ("beat_on", none)) ["talk", "stand", "speed", "begin", "again", "most"] (spBo K) := by
  obtain ⟨fd, F⟩ := F_beat_on T
  obtain ⟨fdb, GB, kpb, bb⟩ := ok_po (P := P) (w := w) (base := base) T
  obtain ⟨tN, gN⟩ := i_NONE T
  refine ⟨fd, okF F sc_bo (fun vs H Q E h => ?_) (fun cdv A outer s H vs Q E hr h => ?_), F.kp, FunD.bindsN F fun _ _ _ _ _ _ us hl => match us, hl with | [_, _, _, _, _, _], _ => rfl⟩
  · obtain ⟨a, t, spd, b, g, most, s, lens, rows, r, rfl, _⟩ := h
    rfl
  · obtain ⟨a, t, spd, b, g, most, s, lens, rows, r, rfl, htk, ok, ht, sv, q⟩ := h
    obtain ⟨dx, l, z, ha, d⟩ := id htk
    refine ⟨_, pss_cons (ps_asg (pv 1) (pg_star (n := 3) rfl (pgs_cons (pg_name (i := 6) sc_bo.nd rfl (.inl rfl)) (pgs_cons (pg_name (i := 7) sc_bo.nd rfl (.inl rfl)) (pgs_cons (pg_name (i := 8) sc_bo.nd rfl (.inl rfl)) (pgs_star (pg_name (i := 9) sc_bo.nd rfl (.inl rfl))))))))
      (pss_cons (ps_asg (pe_call GB hr rfl (g_played_on T) kpb bb .nil pass0 (pa_cons (pv 0) (pa_cons (pv 1) (pa_cons (pv 3) (pa_cons (pv 4) (pa_cons (pv 5) pa_nil)))))) (pg_tup rfl (pgs_cons (pg_name (i := 10) sc_bo.nd rfl (.inl rfl)) (pgs_cons (pg_name (i := 11) sc_bo.nd rfl (.inl rfl)) (pgs_cons (pg_name (i := 12) sc_bo.nd rfl (.inl rfl)) pgs_nil)))))
      (pss_cons (ps_if (pt_cmpR op_eq (pv 7) (pe_glob (v := .int (-1)) rfl gN ⟨_, rfl⟩) (nomark _)) (pss_one (ps_ret (pe_tup (pa_cons (pv 6) (pa_cons (pv 7) (pa_cons (pv 8) (pa_cons (pv 10) (pa_cons (pv 11) (pa_cons (pv 12) pa_nil))))))))) pss_nil)
      (pss_cut (fun σ' H' => ∃ o9, σ' = [some (.ref a), some (.ref t), some (.int spd), some (.int b), some (.int g), some (.int most), some (.int s.n), some (.int s.c), some (.int (s.g + if s.g < 0 then 1 else spd)), o9, some (.int (playF lens b g most s).1), some (.int (playF lens b g most s).2.1), some (.int (playF lens b g most s).2.2)] ∧ Same H H')
        (ps_aug (i := 8) sc_bo.nd rfl (.inl rfl) (pe_ifExp (pt_cmpR op_lt (pv 8) pe_int (nomark _)) pe_int (pv 2)) ip_add)
      (pss_cons (ps_if (pt_cmpR op_lt (pv 8) (pe_ix ix_tup (pe_ix ix_tup (pe_fld (pv 0) rfl) (pv 6) (fun _ _ => rfl)) (pv 7) (fun _ _ => rfl)) (nomark _)) (pss_one (ps_ret (pe_tup (pa_cons (pv 6) (pa_cons (pv 7) (pa_cons (pv 8) (pa_cons (pv 10) (pa_cons (pv 11) (pa_cons (pv 12) pa_nil))))))))) pss_nil)
      (pss_one (ps_ret (pe_tup (pa_cons (pe_op op_add (pv 6) pe_int) (pa_cons (pe_glob (v := .int (-1)) rfl gN ⟨_, rfl⟩) (pa_cons pe_int (pa_cons (pe_op op_add (pv 10) (pe_ix ix_tup (pe_fld (pv 0) rfl) (pv 6) (fun _ _ => rfl))) (pa_cons (pv 11) (pa_cons (pv 12) pa_nil))))))))))))), ?_⟩
    have h6 : 6 ≤ sizeLine := by decide
    refine ⟨_, rfl, t, stV s, rfl, .inl ht, (by show 3 ≤ 6; decide), fun D nD => ⟨_, _, rfl, _, _, rfl, _, _, rfl, _, _, rfl, rfl, ?_⟩⟩
    have s1 := Same.upd (o := .lst ((stV s).drop 3)) nD
    refine ⟨_, rfl, _, rfl, _, rfl, _, rfl, _, rfl, a, t, b, g, most, s, lens, rows, r, rfl, htk.same s1, ok, ht.same s1, sv, fun p H1 s2 hp => ?_⟩
    have sm := s1.trans s2
    refine ⟨p, _, rfl, SqT.of hp, rfl, _, _, rfl, _, _, rfl, _, _, rfl, rfl, ?_⟩
    refine ⟨_, rfl, rfl, _, rfl, ?_⟩
    rw [dec_intV]
    by_cases c1 : s.c = -1
    · rw [decide_eq_true c1]
      refine iteT ⟨_, rfl, _, rfl, _, rfl, _, rfl, _, rfl, _, rfl, h6, fun p2 n2 => q p2 _ (sm.trans (Same.upd n2)) ?_⟩
      have e : beatF lens rows b g most spd s = ⟨s.n, s.c, s.g, (playF lens b g most s).1, (playF lens b g most s).2.1, (playF lens b g most s).2.2⟩ := if_pos c1
      rw [upd_same, e]
      rfl
    · rw [decide_eq_false c1]
      have hc : 0 ≤ s.c ∧ s.c < (r : Int) ∧ s.n < (lens.length : Int) := sv.c.resolve_left c1
      refine iteF ⟨⟨_, rfl, _, rfl, _, _, rfl, rfl, _, rfl, ?_⟩, ?_⟩
      · by_cases c2 : s.g < 0
        · rw [decide_eq_true c2]
          refine iteT ⟨_, _, rfl, rfl, some (.ref D), ?_, sm⟩
          rw [if_pos c2]
          rfl
        · rw [decide_eq_false c2]
          refine iteF ⟨_, rfl, _, _, rfl, rfl, some (.ref D), ?_, sm⟩
          rw [if_neg c2]
          rfl
      · rintro σ' H2 ⟨o9, rfl, s3⟩
        obtain ⟨zs, hz, rz⟩ := (d.same s3).hz
        have hn : s.n < (rows.length : Int) := by
          rw [← ok.len]
          exact hc.2.2
        obtain ⟨q', e1, hq'⟩ := atI_ref rz [] sv.n0 hn
        have hw : (rows.getD s.n.toNat []).length = r := by
          have hk : s.n.toNat < rows.length := by have := sv.n0; omega
          rw [List.getD_eq_getElem?_getD, List.getElem?_eq_getElem hk]
          exact ok.row _ (List.getElem_mem hk)
        refine ⟨_, rfl, _, rfl, a, _, dx, _, _, rfl, s3 _ _ ha, c_Talk T, n_Talk_sizes T, fT_z _ _, _, rfl, z, _, _, _, rfl, rfl, SqT.of hz, e1, _, rfl, q', _, _, _, rfl, rfl, SqT.of hq', atI_ints hc.1 (by rw [hw]; exact hc.2.1), _, _, rfl, rfl, _, rfl, ?_⟩
        by_cases c3 : s.g + (if s.g < 0 then 1 else spd) < szAt rows s.n s.c
        · have c3' : s.g + (if s.g < 0 then 1 else spd) < (rows.getD s.n.toNat []).getD s.c.toNat 0 := c3
          rw [decide_eq_true c3']
          refine iteT ⟨_, rfl, _, rfl, _, rfl, _, rfl, _, rfl, _, rfl, h6, fun p2 n2 => q p2 _ (s3.trans (Same.upd n2)) ?_⟩
          have e : beatF lens rows b g most spd s = ⟨s.n, s.c, s.g + (if s.g < 0 then 1 else spd), (playF lens b g most s).1, (playF lens b g most s).2.1, (playF lens b g most s).2.2⟩ := (if_neg c1).trans (if_pos c3)
          rw [upd_same, e]
          rfl
        · have c3' : ¬ s.g + (if s.g < 0 then 1 else spd) < (rows.getD s.n.toNat []).getD s.c.toNat 0 := c3
          rw [decide_eq_false c3']
          refine iteF ⟨_, rfl, _, _, rfl, rfl, _, rfl, _, rfl, a, _, dx, _, _, rfl, s3 _ _ ha, c_Talk T, n_Talk_lengths T, fT_l _ _, _, rfl, l, _, _, _, rfl, rfl, SqT.of (s3 _ _ d.hl), atI_ints sv.n0 hc.2.2, _, _, rfl, rfl, _, rfl, _, rfl, h6, fun p2 n2 => q p2 _ (s3.trans (Same.upd n2)) ?_⟩
          have e : beatF lens rows b g most spd s = ⟨s.n + 1, -1, 0, (playF lens b g most s).1 + lenAt lens s.n, (playF lens b g most s).2.1, (playF lens b g most s).2.2⟩ := (if_neg c1).trans (if_neg c3)
          rw [upd_same, e]
          rfl
/-! ### rate_by -/
/-- what a rule gets to see -/
structure SeenI where
  n : Int
  k : Int
  r : V
  y : V
def PreSeen (K : PySem.W.Frag) (m : Nat) : SeenI → V → Hp → Prop := fun i v H => ∃ a, v = .ref a ∧ H a = some (.tup [.int i.n, .int i.k, i.r, i.y]) ∧ 0 ≤ i.n ∧ i.n < (m : Int) ∧ (i.r = .non ∨ ∃ z, i.r = .int z) ∧ (i.y = .non ∨ ∃ b p, i.y = .ref b ∧ SpAt K H b p ∧ SpOk p)
theorem preSeen_stable {K : PySem.W.Frag} {m : Nat} : Stable (PreSeen K m) := fun i v H H0 k ⟨a, e, h, h0, h1, hr, hy⟩ =>
  ⟨a, e, k _ _ h (fun φ z => nomatch z), h0, h1, hr, hy.imp id fun ⟨b, p, e2, ⟨dx, hb⟩, op⟩ => ⟨b, p, e2, ⟨dx, k _ _ hb (fun φ z => nomatch z)⟩, op⟩⟩
def PostFlat : SeenI → V → Prop := fun _ v => Flat v
/-- a chooser: a plan, or a rule -/
def ChOk (P : Program) (w : World) (K : PySem.W.Frag) (mg : Str → Option Value) (base : Heap) (m r : Nat) (H : Hp) (c : Addr) : Prop :=
  (∃ plan : List Int, H c = some (.tup (plan.map V.int)) ∧ m ≤ plan.length ∧ ∀ i ∈ plan, 0 ≤ i ∧ i < (r : Int)) ∨ ∃ ex, Clo P w K mg base 8 ex H c (spC (PreSeen K m) PostFlat)
theorem ChOk.same {m r : Nat} {H H' : Hp} {c : Addr} (h : ChOk P w K mg base m r H c) (s : Same H H') : ChOk P w K mg base m r H' c :=
  h.imp (fun ⟨plan, e, z⟩ => ⟨plan, s _ _ e, z⟩) fun ⟨ex, k⟩ => ⟨ex, k.grow (KeepX.of s)⟩
theorem sc_rb : FnScope ["talk", "chooser", "seen", "rate"] ["talk", "chooser", "seen"] (defScope s_rate_by) := ⟨rfl, rfl, rfl, by decide +kernel, rfl, by decide +kernel, by decide +kernel⟩
def spRb (P : Program) (w : World) (K : PySem.W.Frag) (mg : Str → Option Value) (base : Heap) : Sp := fun vs H Q _ => ∃ a c v i lens rows r, vs = [.ref a, .ref c, v] ∧ TkAt K H a lens rows ∧ TkOk lens rows r ∧ ChOk P w K mg base lens.length r H c ∧ PreSeen K lens.length i v H ∧
  ∀ z H', 0 ≤ z → z < (r : Int) → Same H H' → Q (.int z) H'
theorem ok_rb (T : Tx K mg) : Okd P w K mg base 9 (He.fAd K ("rate_by", none)) ["talk", "chooser", "seen"] (spRb P w K mg base) := by
  obtain ⟨fd, F⟩ := F_rate_by T
  obtain ⟨fdi, GI, kpi, bi⟩ := ok_ir (P := P) (w := w) (base := base) T
  refine ⟨fd, okF F sc_rb (fun vs H Q E h => ?_) (fun cdv A outer s H vs Q E hr h => ?_), F.kp, FunD.bindsN F fun _ _ _ _ _ _ us hl => match us, hl with | [_, _, _], _ => rfl⟩
  · obtain ⟨a, c, v, i, lens, rows, r, rfl, _⟩ := h
    rfl
  · obtain ⟨a, c, v, i, lens, rows, r, rfl, htk, ok, hc, hs, q⟩ := h
    refine ⟨_, pss_cons (ps_if (pt_val (pe_callB call_isiF (by rfl) (f_isinstance T) (by decide +kernel) (pa_cons (pv 1) (pa_cons (pe_bltn (v := .ty "tuple") (by rfl) (f_tuple T) (by decide +kernel) rfl) pa_nil)))) (pss_one (ps_ret (pe_ix ix_tup (pv 1) (pe_ix ix_tup (pv 2) pe_int (fun _ _ => rfl)) (fun _ _ => rfl)))) pss_nil)
      (pss_cons (ps_set (i := 3) sc_rb.nd rfl (.inl rfl) (pe_clo (k := 8) (i := 1) (sp := spC (PreSeen K lens.length) PostFlat) (E := E0) hr (by decide) rfl (.inl rfl) (pa_cons (pv 2) pa_nil)))
      (pss_one (ps_ret (pe_ifExp (pt_val (pe_call GI (hr.mono (by decide)) rfl (g_is_rate T) kpi bi .nil pass0 (pa_cons (pv 0) (pa_cons (pv 3) pa_nil)))) (pv 3) pe_int)))), ?_⟩
    obtain ⟨sa, rfl, hsa, h0, h1, hr', hy'⟩ := id hs
    rcases hc with ⟨plan, hp, hl, hb⟩ | ⟨ex, hk⟩
    · refine ⟨_, rfl, .inl ⟨_, _, _, _, true, rfl, .ty _, .base (.tup hp), kit_ty (by decide +kernel), _, rfl, iteT ?_⟩⟩
      have hi : i.n < (plan.length : Int) := by omega
      have hm : plan.getD i.n.toNat 0 ∈ plan := by
        have hk : i.n.toNat < plan.length := by omega
        rw [List.getD_eq_getElem?_getD, List.getElem?_eq_getElem hk]
        exact List.getElem_mem hk
      exact ⟨_, rfl, _, rfl, sa, _, _, _, rfl, rfl, SqT.of hsa, atI_nat (j := 0) rfl, c, _, _, _, rfl, rfl, SqT.of hp, atI_ints h0 hi, q _ H (hb _ hm).1 (hb _ hm).2 (Same.refl H)⟩
    · obtain ⟨fn, run⟩ := hk H (KeepX.refl H)
      refine ⟨_, rfl, .inr ⟨c, "tuple", false, rfl, fn, kit_ty (by decide +kernel), _, rfl, iteF ?_⟩⟩
      refine ⟨c, rfl, fn, _, rfl, fn, run, i, _, rfl, hs, fun v H1 hv s1 => ?_⟩
      refine ⟨_, rfl, _, rfl, a, lens, rows, r, v, rfl, htk.same s1, ok, hv, fun H2 s2 => ⟨_, rfl, ?_⟩⟩
      have hrpos : (0 : Int) < (r : Int) := by have := ok.r1; omega
      cases hv with
      | int j =>
        show if (decide (0 ≤ j) && decide (j < (r : Int))) = true then _ else _
        cases e : (decide (0 ≤ j) && decide (j < (r : Int))) with
        | true =>
          rw [Bool.and_eq_true] at e
          exact iteT ⟨_, rfl, q j H2 (of_decide_eq_true e.1) (of_decide_eq_true e.2) (Same.trans s1 s2)⟩
        | false => exact iteF (q 0 H2 (Int.le_refl _) hrpos (Same.trans s1 s2))
      | non => exact iteF (q 0 H2 (Int.le_refl _) hrpos (Same.trans s1 s2))
      | bl b => exact iteF (q 0 H2 (Int.le_refl _) hrpos (Same.trans s1 s2))
      | str x => exact iteF (q 0 H2 (Int.le_refl _) hrpos (Same.trans s1 s2))
end
end Rp
/- RpW1 -/
set_option maxHeartbeats 4000000
/-! RpW1: the walk's object; its making; at the end, asks here. -/
namespace Rp
open PySem PySem.Spec PyProof.Rows L2
/-- a walk's attributes; li: its six lists (rates, begun, whole, plays, stalls, kept) -/
structure Wk where
  tk : Addr
  ch : Addr
  lim : Addr
  wait : Int
  st : Addr
  beat : Int
  rl : V
  sl : V
  li : Nat → Addr
def fW (x : Wk) : List (Str × V) := [("talk_walked", .ref x.tk), ("chooser_asked", .ref x.ch), ("limits", .ref x.lim), ("waiting", .int x.wait), ("opening", .non), ("stand_here", .ref x.st), ("beat_here", .int x.beat), ("rate_last", x.rl), ("speed_last", x.sl),
  ("rates", .ref (x.li 0)), ("begun", .ref (x.li 1)), ("whole", .ref (x.li 2)), ("plays", .ref (x.li 3)), ("stalls", .ref (x.li 4)), ("kept", .ref (x.li 5))]
theorem fW_tk (x : Wk) : (fW x).lookup ("talk_walked" : Str) = some (.ref x.tk) := by kernel_rfl
theorem fW_ch (x : Wk) : (fW x).lookup ("chooser_asked" : Str) = some (.ref x.ch) := by kernel_rfl
theorem fW_lim (x : Wk) : (fW x).lookup ("limits" : Str) = some (.ref x.lim) := by kernel_rfl
theorem fW_wait (x : Wk) : (fW x).lookup ("waiting" : Str) = some (.int x.wait) := by kernel_rfl
theorem fW_open (x : Wk) : (fW x).lookup ("opening" : Str) = some .non := by kernel_rfl
theorem fW_st (x : Wk) : (fW x).lookup ("stand_here" : Str) = some (.ref x.st) := by kernel_rfl
theorem fW_beat (x : Wk) : (fW x).lookup ("beat_here" : Str) = some (.int x.beat) := by kernel_rfl
theorem fW_rl (x : Wk) : (fW x).lookup ("rate_last" : Str) = some x.rl := by kernel_rfl
theorem fW_sl (x : Wk) : (fW x).lookup ("speed_last" : Str) = some x.sl := by kernel_rfl
theorem fW_0 (x : Wk) : (fW x).lookup ("rates" : Str) = some (.ref (x.li 0)) := by kernel_rfl
theorem fW_1 (x : Wk) : (fW x).lookup ("begun" : Str) = some (.ref (x.li 1)) := by kernel_rfl
theorem fW_2 (x : Wk) : (fW x).lookup ("whole" : Str) = some (.ref (x.li 2)) := by kernel_rfl
theorem fW_3 (x : Wk) : (fW x).lookup ("plays" : Str) = some (.ref (x.li 3)) := by kernel_rfl
theorem fW_4 (x : Wk) : (fW x).lookup ("stalls" : Str) = some (.ref (x.li 4)) := by kernel_rfl
theorem fW_5 (x : Wk) : (fW x).lookup ("kept" : Str) = some (.ref (x.li 5)) := by kernel_rfl
theorem fW_m1 (x : Wk) : (fW x).lookup ("is_at_end" : Str) = none := by kernel_rfl
theorem fW_m2 (x : Wk) : (fW x).lookup ("asks_here" : Str) = none := by kernel_rfl
theorem fW_m3 (x : Wk) : (fW x).lookup ("choose_here" : Str) = none := by kernel_rfl
theorem fW_m4 (x : Wk) : (fW x).lookup ("step_on" : Str) = none := by kernel_rfl
theorem fW_put_st (x : Wk) (b : Addr) : putF "stand_here" (.ref b) (fW x) = fW { x with st := b } := by kernel_rfl
theorem fW_put_beat (x : Wk) (i : Int) : putF "beat_here" (.int i) (fW x) = fW { x with beat := i } := by kernel_rfl
theorem fW_put_rl (x : Wk) (v : V) : putF "rate_last" v (fW x) = fW { x with rl := v } := by kernel_rfl
theorem fW_put_sl (x : Wk) (v : V) : putF "speed_last" v (fW x) = fW { x with sl := v } := by kernel_rfl
def setL (lc : Nat → List V) (j : Nat) (v : List V) : Nat → List V := fun i => if i = j then v else lc i
/-- the walk at a in the heap H, that grew from H0 -/
structure WkH (K : PySem.W.Frag) (lens : List Int) (rows : List (List Int)) (b g most : Int) (H0 H : Hp) (a : Addr) (x : Wk) (s : Stn) (lc : Nat → List V) : Prop where
  same : Same H0 H
  na : H0 a = none
  w : ∃ dx, H a = some (.ins (He.ga K "Walk") dx (fW x))
  tk : TkAt K H0 x.tk lens rows
  lim : H x.lim = some (.tup [.int b, .int g, .int most])
  st : StAt K H x.st s
  inj : ∀ i j, i < 6 → j < 6 → x.li i = x.li j → i = j
  ls : ∀ i, i < 6 → H (x.li i) = some (.lst (lc i))
  nl : ∀ i, i < 6 → H0 (x.li i) = none
section
variable {K : PySem.W.Frag} {lens : List Int} {rows : List (List Int)} {b g most : Int} {H0 H H' : Hp} {a : Addr} {x : Wk} {s : Stn} {lc : Nat → List V}
theorem WkH.grow (h : WkH K lens rows b g most H0 H a x s lc) (k : Same H H') : WkH K lens rows b g most H0 H' a x s lc :=
  ⟨h.same.trans k, h.na, let ⟨dx, e⟩ := h.w; ⟨dx, k _ _ e⟩, h.tk, k _ _ h.lim, h.st.same k, h.inj, fun i hi => k _ _ (h.ls i hi), h.nl⟩
/-- all but one object stays; that one is no tuple, no locked thing -/
theorem st_keep {H : Hp} {c q : Addr} {o : HO} {s : Stn} (h : StAt K H q s) (e : ∀ xs, H c ≠ some (.tup xs)) (e2 : ∀ ob u, H c ≠ some (.frz ob u)) : StAt K (upd H c o) q s := by
  rcases h with (h | ⟨ob, h⟩) | h
  · refine .inl (.inl ?_)
    rw [upd_ne (fun z => e _ (by rw [← z]; exact h))]
    exact h
  · refine .inl (.inr ⟨ob, ?_⟩)
    rw [upd_ne (fun z => e2 _ _ (by rw [← z]; exact h))]
    exact h
  · exact .inr h
/-- an attribute is written: the lists' attributes are not -/
theorem WkH.fld (h : WkH K lens rows b g most H0 H a x s lc) {dx : Addr} {x' : Wk} {s' : Stn} (hw : H a = some (.ins (He.ga K "Walk") dx (fW x))) (e1 : x'.tk = x.tk) (e2 : x'.lim = x.lim) (e3 : x'.li = x.li) (hst : StAt K H x'.st s') :
    WkH K lens rows b g most H0 (upd H a (.ins (He.ga K "Walk") dx (fW x'))) a x' s' lc := by
  refine ⟨fun c o e => ?_, h.na, ⟨dx, upd_same⟩, by rw [e1]; exact h.tk, ?_, st_keep hst (fun xs z => by rw [hw] at z; cases z) (fun ob u z => by rw [hw] at z; cases z), by rw [e3]; exact h.inj, fun i hi => ?_, by rw [e3]; exact h.nl⟩
  · rw [upd_ne (ne_of_none e h.na)]
    exact h.same _ _ e
  · rw [e2, upd_ne (ne_of h.lim hw (by intro z; cases z))]
    exact h.lim
  · rw [e3, upd_ne (ne_of (h.ls i hi) hw (by intro z; cases z))]
    exact h.ls i hi
/-- a list is written -/
theorem WkH.lst (h : WkH K lens rows b g most H0 H a x s lc) {j : Nat} (hj : j < 6) (v : List V) : WkH K lens rows b g most H0 (upd H (x.li j) (.lst v)) a x s (setL lc j v) := by
  have hl := h.ls j hj
  obtain ⟨dx, hw⟩ := h.w
  refine ⟨fun c o e => ?_, h.na, ⟨dx, ?_⟩, h.tk, ?_, st_keep h.st (fun xs z => by rw [hl] at z; cases z) (fun ob u z => by rw [hl] at z; cases z), h.inj, fun i hi => ?_, h.nl⟩
  · rw [upd_ne (ne_of_none e (h.nl j hj))]
    exact h.same _ _ e
  · rw [upd_ne (ne_of hw hl (by intro z; cases z))]
    exact hw
  · rw [upd_ne (ne_of h.lim hl (by intro z; cases z))]
    exact h.lim
  · unfold setL
    by_cases e : i = j
    · rw [if_pos e, e]
      exact upd_same
    · rw [if_neg e, upd_ne (fun z => e (h.inj i j hi hj z))]
      exact h.ls i hi
theorem WkH.tk' (h : WkH K lens rows b g most H0 H a x s lc) : TkAt K H x.tk lens rows := h.tk.same h.same
/-- other tuples, instances of other classes -/
theorem keep_tup {H : Hp} {q c : Addr} {xs : List V} {o : HO} (h : H q = some (.tup xs)) (e : ∀ xs, H c ≠ some (.tup xs)) : upd H c o q = some (.tup xs) := by
  rw [upd_ne (fun z => e _ (by rw [← z]; exact h))]
  exact h
end
/-! ### its making -/
/-- so far: an instance at a with the attributes fs, lists at ls -/
structure PI0 (C : Addr) (H0 H : Hp) (a dx : Addr) (fs : List (Str × V)) (ls : List Addr) (ts : List (Addr × List V)) : Prop where
  same : Same H0 H
  na : H0 a = none
  w : H a = some (.ins C dx fs)
  at_ : ∀ l ∈ ls, H l = some (.lst []) ∧ H0 l = none
  nd : ls.Nodup
  tp : ∀ q ∈ ts, H q.1 = some (.tup q.2)
theorem putF_len (f : Str) (v : V) : ∀ fs : List (Str × V), (putF f v fs).length ≤ fs.length + 1
  | [] => Nat.le_refl _
  | (g, x) :: r => by
    show (if g = f then (g, v) :: r else (g, x) :: putF f v r).length ≤ _
    split
    · simp
    · have := putF_len f v r
      simp only [List.length_cons]
      omega
section
variable {C : Addr} {H0 H : Hp} {a dx : Addr} {fs fs' : List (Str × V)} {ls : List Addr} {ts : List (Addr × List V)}
theorem PI0.fld (h : PI0 C H0 H a dx fs ls ts) : PI0 C H0 (upd H a (.ins C dx fs')) a dx fs' ls ts :=
  ⟨fun c o e => by rw [upd_ne (ne_of_none e h.na)]; exact h.same _ _ e, h.na, upd_same, fun l hl => ⟨by rw [upd_ne (ne_of (h.at_ l hl).1 h.w (by intro z; cases z))]; exact (h.at_ l hl).1, (h.at_ l hl).2⟩, h.nd,
    fun q hq => by rw [upd_ne (ne_of (h.tp q hq) h.w (by intro z; cases z))]; exact h.tp q hq⟩
theorem PI0.grow {H' : Hp} (h : PI0 C H0 H a dx fs ls ts) (k : Same H H') : PI0 C H0 H' a dx fs ls ts := ⟨h.same.trans k, h.na, k _ _ h.w, fun l hl => ⟨k _ _ (h.at_ l hl).1, (h.at_ l hl).2⟩, h.nd, fun q hq => k _ _ (h.tp q hq)⟩
theorem PI0.tup (h : PI0 C H0 H a dx fs ls ts) {t : Addr} {xs : List V} (ht : H t = none) : PI0 C H0 (upd H t (.tup xs)) a dx fs ls ((t, xs) :: ts) := by
  have g := h.grow (Same.upd (o := .tup xs) ht)
  refine ⟨g.same, g.na, g.w, g.at_, g.nd, fun q hq => ?_⟩
  rcases List.mem_cons.mp hq with e | hq
  · rw [e]
    exact upd_same
  · exact g.tp q hq
theorem PI0.new (h : PI0 C H0 H a dx fs ls ts) {l : Addr} (hl : H l = none) : PI0 C H0 (upd H l (.lst [])) a dx fs (l :: ls) ts := by
  have k := Same.upd (o := .lst []) hl
  refine ⟨h.same.trans k, h.na, k _ _ h.w, fun q hq => ?_, List.nodup_cons.mpr ⟨fun z => ?_, h.nd⟩, fun q hq => k _ _ (h.tp q hq)⟩
  · rcases List.mem_cons.mp hq with e | hq
    · rw [e]
      exact ⟨upd_same, h.same.free hl⟩
    · exact ⟨k _ _ (h.at_ q hq).1, (h.at_ q hq).2⟩
  · rw [(h.at_ l z).1] at hl
    cases hl
end
/-- six addresses by number -/
def six (q0 q1 q2 q3 q4 q5 : Addr) : Nat → Addr
  | 0 => q0
  | 1 => q1
  | 2 => q2
  | 3 => q3
  | 4 => q4
  | _ => q5
theorem six_mem {q0 q1 q2 q3 q4 q5 : Addr} : ∀ i, i < 6 → six q0 q1 q2 q3 q4 q5 i ∈ [q5, q4, q3, q2, q1, q0]
  | 0, _ => by simp [six]
  | 1, _ => by simp [six]
  | 2, _ => by simp [six]
  | 3, _ => by simp [six]
  | 4, _ => by simp [six]
  | 5, _ => by simp [six]
  | n + 6, h => by omega
theorem six_ix {q0 q1 q2 q3 q4 q5 : Addr} : ∀ i, i < 6 → [q5, q4, q3, q2, q1, q0][5 - i]? = some (six q0 q1 q2 q3 q4 q5 i)
  | 0, _ => rfl
  | 1, _ => rfl
  | 2, _ => rfl
  | 3, _ => rfl
  | 4, _ => rfl
  | 5, _ => rfl
  | n + 6, h => by omega
theorem six_inj {q0 q1 q2 q3 q4 q5 : Addr} (nd : [q5, q4, q3, q2, q1, q0].Nodup) : ∀ i j, i < 6 → j < 6 → six q0 q1 q2 q3 q4 q5 i = six q0 q1 q2 q3 q4 q5 j → i = j := fun i j hi hj e => by
  have h1 := six_ix (q0 := q0) (q1 := q1) (q2 := q2) (q3 := q3) (q4 := q4) (q5 := q5) i hi
  have h2 := six_ix (q0 := q0) (q1 := q1) (q2 := q2) (q3 := q3) (q4 := q4) (q5 := q5) j hj
  rw [← e] at h2
  obtain ⟨k1, e1⟩ := List.getElem?_eq_some_iff.mp h1
  obtain ⟨k2, e2⟩ := List.getElem?_eq_some_iff.mp h2
  have := (List.getElem_inj nd).mp (e1.trans e2.symm)
  omega
section
variable {P : Program} {w : World} {K : PySem.W.Frag} {mg : Str → Option Value} {base : Heap}
abbrev N_Wi : List Str := ["self", "talk", "chooser", "begin", "again", "most", "wait", "opens"]
theorem sc_Wi : FnScope N_Wi N_Wi (defScope s_Walk__init_) := ⟨rfl, rfl, rfl, by decide +kernel, rfl, by decide +kernel, by decide +kernel⟩
def spWi (K : PySem.W.Frag) : Sp := fun vs H Q _ => ∃ H0 a dx tk ch b g most wait lens rows r, vs = [.ref a, .ref tk, .ref ch, .int b, .int g, .int most, .int wait, .non] ∧ Same H0 H ∧ H0 a = none ∧ H a = some (.ins (He.ga K "Walk") dx []) ∧ TkAt K H0 tk lens rows ∧ TkOk lens rows r ∧ (∀ n ∈ lens, n ≤ most) ∧
  ∀ H' x, WkH K lens rows b g most H0 H' a x ⟨0, -1, 0, 0, 0, 0⟩ (fun _ => []) → x.tk = tk → x.ch = ch → x.wait = wait → x.beat = 0 → x.rl = .non → x.sl = .non → Q .non H'
theorem ok_Wi (T : Tx K mg) : ∃ fd, FnOk P w K mg base CX0 2 (He.fAd K ("Walk", some "__init__")) fd N_Wi (spWi K) ∧ KBn K fd N_Wi 3 ["begin", "again", "most", "wait", "opens"] (fun us ws => us ++ ws) (fun vs zs => vs ++ zs) := by
  obtain ⟨fd, F⟩ := F_Walk__init_ T
  obtain ⟨mv, B1⟩ := FunD.kbinds0 (ps := N_Wi) F 3 ["begin", "again", "most", "wait", "opens"] [] (fun us mv ws => us ++ ws) (fun z => by cases z) (fun q hq => by cases hq) (fun r1 _ r3 => r1.append r3) fun D doc pm an cdv ct us mv ws hl hm hw => match us, mv, ws, hl, hm, hw with | [_, _, _], [], [_, _, _, _, _], _, _, _ => rfl
  obtain ⟨fdl, GL, kpl, bl⟩ := ok_lr (P := P) (w := w) (base := base) T
  obtain ⟨fdf, GF, kpf, bf⟩ := ok_fs (P := P) (w := w) (base := base) T
  refine ⟨fd, okF F sc_Wi (fun vs H Q E h => ?_) (fun cdv A outer s H vs Q E hr h => ?_), B1⟩
  · obtain ⟨H0, a, dx, tk, ch, b, g, most, wait, lens, rows, r, rfl, _⟩ := h
    rfl
  · obtain ⟨H0, a, dx, tk, ch, b, g, most, wait, lens, rows, r, rfl, sm, na, ha, htk, ok, hm, q⟩ := h
    refine ⟨_, pss_cons (ps_expr (pe_call GL hr rfl (g_look_room T) kpl bl .nil pass0 (pa_cons (pv 1) (pa_cons (pv 5) pa_nil))))
      (pss_cons (ps_fld (pv 0) (pv 1) rfl) (pss_cons (ps_fld (pv 0) (pv 2) rfl) (pss_cons (ps_fld (pv 0) (pe_tup (pa_cons (pv 3) (pa_cons (pv 4) (pa_cons (pv 5) pa_nil)))) rfl)
      (pss_cons (ps_fld (pv 0) (pv 6) rfl) (pss_cons (ps_fld (pv 0) (pv 7) rfl) (pss_cons (ps_fld (pv 0) (pe_call0 GF hr rfl (g_first_stand T) kpf bf .nil pass0) rfl) (pss_cons (ps_fld (pv 0) pe_int rfl)
      (pss_cons (ps_asg2 pe_non (pg_fld (pv 0)) (pg_fld (pv 0)))
      (pss_cons (ps_fld (pv 0) (pe_lst pa_nil) rfl) (pss_cons (ps_fld (pv 0) (pe_lst pa_nil) rfl) (pss_cons (ps_fld (pv 0) (pe_lst pa_nil) rfl) (pss_cons (ps_fld (pv 0) (pe_lst pa_nil) rfl) (pss_cons (ps_fld (pv 0) (pe_lst pa_nil) rfl) (pss_one (ps_fld (pv 0) (pe_lst pa_nil) rfl))))))))))))))), ?_⟩
    refine ⟨_, rfl, _, rfl, tk, most, lens, rows, r, rfl, htk.same sm, ok, hm, fun H1 s1 => ?_⟩
    have i0 : PI0 (He.ga K "Walk") H0 H1 a dx [] [] [] := ⟨sm.trans s1, na, s1 _ _ ha, (fun l hl => by cases hl), List.nodup_nil, fun q hq => by cases hq⟩
    have cl := c_Walk T
    have l0 : ([] : List (Str × V)).length ≤ 0 := Nat.le_refl _
    refine ⟨_, rfl, _, rfl, a, _, dx, _, rfl, i0.w, cl, n_Walk_talk_walked T, Nat.lt_of_le_of_lt l0 (by decide), ?_⟩
    have j1 := i0.fld (fs' := putF "talk_walked" (.ref tk) [])
    have l1 : (putF "talk_walked" (.ref tk) []).length ≤ 1 := Nat.le_trans (putF_len _ _ _) (Nat.succ_le_succ l0)
    refine ⟨_, rfl, _, rfl, a, _, dx, _, rfl, j1.w, cl, n_Walk_chooser_asked T, Nat.lt_of_le_of_lt l1 (by decide), ?_⟩
    have j2 := j1.fld (fs' := putF "chooser_asked" (.ref ch) (putF "talk_walked" (.ref tk) []))
    have l2 : (putF "chooser_asked" (.ref ch) (putF "talk_walked" (.ref tk) [])).length ≤ 2 := Nat.le_trans (putF_len _ _ _) (Nat.succ_le_succ l1)
    refine ⟨_, rfl, _, rfl, _, rfl, (by show 3 ≤ sizeLine; decide), fun t nt => ?_⟩
    have g1 := j2.tup (xs := [.int b, .int g, .int most]) nt
    refine ⟨_, rfl, a, _, dx, _, rfl, g1.w, cl, n_Walk_limits T, Nat.lt_of_le_of_lt l2 (by decide), ?_⟩
    have j3 := g1.fld (fs' := putF "limits" (.ref t) (putF "chooser_asked" (.ref ch) (putF "talk_walked" (.ref tk) [])))
    have l3 : (putF "limits" (.ref t) (putF "chooser_asked" (.ref ch) (putF "talk_walked" (.ref tk) []))).length ≤ 3 := Nat.le_trans (putF_len _ _ _) (Nat.succ_le_succ l2)
    refine ⟨_, rfl, _, rfl, a, _, dx, _, rfl, j3.w, cl, n_Walk_waiting T, Nat.lt_of_le_of_lt l3 (by decide), ?_⟩
    have j4 := j3.fld (fs' := putF "waiting" (.int wait) (putF "limits" (.ref t) (putF "chooser_asked" (.ref ch) (putF "talk_walked" (.ref tk) []))))
    have l4 : (putF "waiting" (.int wait) (putF "limits" (.ref t) (putF "chooser_asked" (.ref ch) (putF "talk_walked" (.ref tk) [])))).length ≤ 4 := Nat.le_trans (putF_len _ _ _) (Nat.succ_le_succ l3)
    refine ⟨_, rfl, _, rfl, a, _, dx, _, rfl, j4.w, cl, n_Walk_opening T, Nat.lt_of_le_of_lt l4 (by decide), ?_⟩
    have j5 := j4.fld (fs' := putF "opening" .non (putF "waiting" (.int wait) (putF "limits" (.ref t) (putF "chooser_asked" (.ref ch) (putF "talk_walked" (.ref tk) [])))))
    have l5 : (putF "opening" .non (putF "waiting" (.int wait) (putF "limits" (.ref t) (putF "chooser_asked" (.ref ch) (putF "talk_walked" (.ref tk) []))))).length ≤ 5 := Nat.le_trans (putF_len _ _ _) (Nat.succ_le_succ l4)
    refine ⟨rfl, fun hfs => ?_⟩
    refine ⟨_, rfl, a, _, dx, _, rfl, j5.w, cl, n_Walk_stand_here T, Nat.lt_of_le_of_lt l5 (by decide), ?_⟩
    have j6 := j5.fld (fs' := putF "stand_here" (.ref (He.ga K "FIRST")) (putF "opening" .non (putF "waiting" (.int wait) (putF "limits" (.ref t) (putF "chooser_asked" (.ref ch) (putF "talk_walked" (.ref tk) []))))))
    have l6 : (putF "stand_here" (.ref (He.ga K "FIRST")) (putF "opening" .non (putF "waiting" (.int wait) (putF "limits" (.ref t) (putF "chooser_asked" (.ref ch) (putF "talk_walked" (.ref tk) [])))))).length ≤ 6 := Nat.le_trans (putF_len _ _ _) (Nat.succ_le_succ l5)
    refine ⟨_, rfl, a, _, dx, _, rfl, j6.w, cl, n_Walk_beat_here T, Nat.lt_of_le_of_lt l6 (by decide), ?_⟩
    have j7 := j6.fld (fs' := putF "beat_here" (.int 0) (putF "stand_here" (.ref (He.ga K "FIRST")) (putF "opening" .non (putF "waiting" (.int wait) (putF "limits" (.ref t) (putF "chooser_asked" (.ref ch) (putF "talk_walked" (.ref tk) [])))))))
    have l7 : (putF "beat_here" (.int 0) (putF "stand_here" (.ref (He.ga K "FIRST")) (putF "opening" .non (putF "waiting" (.int wait) (putF "limits" (.ref t) (putF "chooser_asked" (.ref ch) (putF "talk_walked" (.ref tk) []))))))).length ≤ 7 := Nat.le_trans (putF_len _ _ _) (Nat.succ_le_succ l6)
    refine ⟨_, rfl, a, _, dx, _, rfl, j7.w, cl, n_Walk_rate_last T, Nat.lt_of_le_of_lt l7 (by decide), ?_⟩
    have j8 := j7.fld (fs' := putF "rate_last" .non (putF "beat_here" (.int 0) (putF "stand_here" (.ref (He.ga K "FIRST")) (putF "opening" .non (putF "waiting" (.int wait) (putF "limits" (.ref t) (putF "chooser_asked" (.ref ch) (putF "talk_walked" (.ref tk) []))))))))
    have l8 : (putF "rate_last" .non (putF "beat_here" (.int 0) (putF "stand_here" (.ref (He.ga K "FIRST")) (putF "opening" .non (putF "waiting" (.int wait) (putF "limits" (.ref t) (putF "chooser_asked" (.ref ch) (putF "talk_walked" (.ref tk) [])))))))).length ≤ 8 := Nat.le_trans (putF_len _ _ _) (Nat.succ_le_succ l7)
    refine ⟨_, rfl, a, _, dx, _, rfl, j8.w, cl, n_Walk_speed_last T, Nat.lt_of_le_of_lt l8 (by decide), ?_⟩
    have j9 := j8.fld (fs' := putF "speed_last" .non (putF "rate_last" .non (putF "beat_here" (.int 0) (putF "stand_here" (.ref (He.ga K "FIRST")) (putF "opening" .non (putF "waiting" (.int wait) (putF "limits" (.ref t) (putF "chooser_asked" (.ref ch) (putF "talk_walked" (.ref tk) [])))))))))
    have l9 : (putF "speed_last" .non (putF "rate_last" .non (putF "beat_here" (.int 0) (putF "stand_here" (.ref (He.ga K "FIRST")) (putF "opening" .non (putF "waiting" (.int wait) (putF "limits" (.ref t) (putF "chooser_asked" (.ref ch) (putF "talk_walked" (.ref tk) []))))))))).length ≤ 9 := Nat.le_trans (putF_len _ _ _) (Nat.succ_le_succ l8)
    refine ⟨Nat.zero_le _, fun q0 nq0 => ?_⟩
    have g2 := j9.new nq0
    refine ⟨_, rfl, a, _, dx, _, rfl, g2.w, cl, n_Walk_rates T, Nat.lt_of_le_of_lt l9 (by decide), ?_⟩
    have j10 := g2.fld (fs' := putF "rates" (.ref q0) (putF "speed_last" .non (putF "rate_last" .non (putF "beat_here" (.int 0) (putF "stand_here" (.ref (He.ga K "FIRST")) (putF "opening" .non (putF "waiting" (.int wait) (putF "limits" (.ref t) (putF "chooser_asked" (.ref ch) (putF "talk_walked" (.ref tk) []))))))))))
    have l10 : (putF "rates" (.ref q0) (putF "speed_last" .non (putF "rate_last" .non (putF "beat_here" (.int 0) (putF "stand_here" (.ref (He.ga K "FIRST")) (putF "opening" .non (putF "waiting" (.int wait) (putF "limits" (.ref t) (putF "chooser_asked" (.ref ch) (putF "talk_walked" (.ref tk) [])))))))))).length ≤ 10 := Nat.le_trans (putF_len _ _ _) (Nat.succ_le_succ l9)
    refine ⟨Nat.zero_le _, fun q1 nq1 => ?_⟩
    have g3 := j10.new nq1
    refine ⟨_, rfl, a, _, dx, _, rfl, g3.w, cl, n_Walk_begun T, Nat.lt_of_le_of_lt l10 (by decide), ?_⟩
    have j11 := g3.fld (fs' := putF "begun" (.ref q1) (putF "rates" (.ref q0) (putF "speed_last" .non (putF "rate_last" .non (putF "beat_here" (.int 0) (putF "stand_here" (.ref (He.ga K "FIRST")) (putF "opening" .non (putF "waiting" (.int wait) (putF "limits" (.ref t) (putF "chooser_asked" (.ref ch) (putF "talk_walked" (.ref tk) [])))))))))))
    have l11 : (putF "begun" (.ref q1) (putF "rates" (.ref q0) (putF "speed_last" .non (putF "rate_last" .non (putF "beat_here" (.int 0) (putF "stand_here" (.ref (He.ga K "FIRST")) (putF "opening" .non (putF "waiting" (.int wait) (putF "limits" (.ref t) (putF "chooser_asked" (.ref ch) (putF "talk_walked" (.ref tk) []))))))))))).length ≤ 11 := Nat.le_trans (putF_len _ _ _) (Nat.succ_le_succ l10)
    refine ⟨Nat.zero_le _, fun q2 nq2 => ?_⟩
    have g4 := j11.new nq2
    refine ⟨_, rfl, a, _, dx, _, rfl, g4.w, cl, n_Walk_whole T, Nat.lt_of_le_of_lt l11 (by decide), ?_⟩
    have j12 := g4.fld (fs' := putF "whole" (.ref q2) (putF "begun" (.ref q1) (putF "rates" (.ref q0) (putF "speed_last" .non (putF "rate_last" .non (putF "beat_here" (.int 0) (putF "stand_here" (.ref (He.ga K "FIRST")) (putF "opening" .non (putF "waiting" (.int wait) (putF "limits" (.ref t) (putF "chooser_asked" (.ref ch) (putF "talk_walked" (.ref tk) []))))))))))))
    have l12 : (putF "whole" (.ref q2) (putF "begun" (.ref q1) (putF "rates" (.ref q0) (putF "speed_last" .non (putF "rate_last" .non (putF "beat_here" (.int 0) (putF "stand_here" (.ref (He.ga K "FIRST")) (putF "opening" .non (putF "waiting" (.int wait) (putF "limits" (.ref t) (putF "chooser_asked" (.ref ch) (putF "talk_walked" (.ref tk) [])))))))))))).length ≤ 12 := Nat.le_trans (putF_len _ _ _) (Nat.succ_le_succ l11)
    refine ⟨Nat.zero_le _, fun q3 nq3 => ?_⟩
    have g5 := j12.new nq3
    refine ⟨_, rfl, a, _, dx, _, rfl, g5.w, cl, n_Walk_plays T, Nat.lt_of_le_of_lt l12 (by decide), ?_⟩
    have j13 := g5.fld (fs' := putF "plays" (.ref q3) (putF "whole" (.ref q2) (putF "begun" (.ref q1) (putF "rates" (.ref q0) (putF "speed_last" .non (putF "rate_last" .non (putF "beat_here" (.int 0) (putF "stand_here" (.ref (He.ga K "FIRST")) (putF "opening" .non (putF "waiting" (.int wait) (putF "limits" (.ref t) (putF "chooser_asked" (.ref ch) (putF "talk_walked" (.ref tk) [])))))))))))))
    have l13 : (putF "plays" (.ref q3) (putF "whole" (.ref q2) (putF "begun" (.ref q1) (putF "rates" (.ref q0) (putF "speed_last" .non (putF "rate_last" .non (putF "beat_here" (.int 0) (putF "stand_here" (.ref (He.ga K "FIRST")) (putF "opening" .non (putF "waiting" (.int wait) (putF "limits" (.ref t) (putF "chooser_asked" (.ref ch) (putF "talk_walked" (.ref tk) []))))))))))))).length ≤ 13 := Nat.le_trans (putF_len _ _ _) (Nat.succ_le_succ l12)
    refine ⟨Nat.zero_le _, fun q4 nq4 => ?_⟩
    have g6 := j13.new nq4
    refine ⟨_, rfl, a, _, dx, _, rfl, g6.w, cl, n_Walk_stalls T, Nat.lt_of_le_of_lt l13 (by decide), ?_⟩
    have j14 := g6.fld (fs' := putF "stalls" (.ref q4) (putF "plays" (.ref q3) (putF "whole" (.ref q2) (putF "begun" (.ref q1) (putF "rates" (.ref q0) (putF "speed_last" .non (putF "rate_last" .non (putF "beat_here" (.int 0) (putF "stand_here" (.ref (He.ga K "FIRST")) (putF "opening" .non (putF "waiting" (.int wait) (putF "limits" (.ref t) (putF "chooser_asked" (.ref ch) (putF "talk_walked" (.ref tk) []))))))))))))))
    have l14 : (putF "stalls" (.ref q4) (putF "plays" (.ref q3) (putF "whole" (.ref q2) (putF "begun" (.ref q1) (putF "rates" (.ref q0) (putF "speed_last" .non (putF "rate_last" .non (putF "beat_here" (.int 0) (putF "stand_here" (.ref (He.ga K "FIRST")) (putF "opening" .non (putF "waiting" (.int wait) (putF "limits" (.ref t) (putF "chooser_asked" (.ref ch) (putF "talk_walked" (.ref tk) [])))))))))))))).length ≤ 14 := Nat.le_trans (putF_len _ _ _) (Nat.succ_le_succ l13)
    refine ⟨Nat.zero_le _, fun q5 nq5 => ?_⟩
    have g7 := j14.new nq5
    refine ⟨_, rfl, a, _, dx, _, rfl, g7.w, cl, n_Walk_kept T, Nat.lt_of_le_of_lt l14 (by decide), ?_⟩
    have j15 := g7.fld (fs' := putF "kept" (.ref q5) (putF "stalls" (.ref q4) (putF "plays" (.ref q3) (putF "whole" (.ref q2) (putF "begun" (.ref q1) (putF "rates" (.ref q0) (putF "speed_last" .non (putF "rate_last" .non (putF "beat_here" (.int 0) (putF "stand_here" (.ref (He.ga K "FIRST")) (putF "opening" .non (putF "waiting" (.int wait) (putF "limits" (.ref t) (putF "chooser_asked" (.ref ch) (putF "talk_walked" (.ref tk) [])))))))))))))))
    have l15 : (putF "kept" (.ref q5) (putF "stalls" (.ref q4) (putF "plays" (.ref q3) (putF "whole" (.ref q2) (putF "begun" (.ref q1) (putF "rates" (.ref q0) (putF "speed_last" .non (putF "rate_last" .non (putF "beat_here" (.int 0) (putF "stand_here" (.ref (He.ga K "FIRST")) (putF "opening" .non (putF "waiting" (.int wait) (putF "limits" (.ref t) (putF "chooser_asked" (.ref ch) (putF "talk_walked" (.ref tk) []))))))))))))))).length ≤ 15 := Nat.le_trans (putF_len _ _ _) (Nat.succ_le_succ l14)
    have ef : putF "kept" (.ref q5) (putF "stalls" (.ref q4) (putF "plays" (.ref q3) (putF "whole" (.ref q2) (putF "begun" (.ref q1) (putF "rates" (.ref q0) (putF "speed_last" .non (putF "rate_last" .non (putF "beat_here" (.int 0) (putF "stand_here" (.ref (He.ga K "FIRST")) (putF "opening" .non (putF "waiting" (.int wait) (putF "limits" (.ref t) (putF "chooser_asked" (.ref ch) (putF "talk_walked" (.ref tk) [])))))))))))))) = fW ⟨tk, ch, t, wait, He.ga K "FIRST", 0, .non, .non, six q0 q1 q2 q3 q4 q5⟩ := by kernel_rfl
    rw [ef]
    rw [ef] at j15
    refine q _ ⟨tk, ch, t, wait, He.ga K "FIRST", 0, .non, .non, six q0 q1 q2 q3 q4 q5⟩ ⟨j15.same, na, ⟨dx, j15.w⟩, htk, j15.tp _ List.mem_cons_self, q_FIRST T _, six_inj j15.nd, fun i hi => (j15.at_ _ (six_mem i hi)).1, fun i hi => (j15.at_ _ (six_mem i hi)).2⟩ rfl rfl rfl rfl rfl rfl
end
end Rp
/- RpW2 -/
set_option maxHeartbeats 4000000
/-! RpW2: the walk's methods, first part. -/
namespace Rp
open PySem PySem.Spec PyProof.Rows L2
def SlOk (K : PySem.W.Frag) (H : Hp) (v : V) : Prop := v = .non ∨ ∃ b p, v = .ref b ∧ SpAt K H b p ∧ SpOk p
def RlOk (v : V) : Prop := v = .non ∨ ∃ z, v = .int z
theorem SlOk.same {K : PySem.W.Frag} {H H' : Hp} {v : V} (h : SlOk K H v) (s : Same H H') : SlOk K H' v := h.imp id fun ⟨b, p, e, sp, ok⟩ => ⟨b, p, e, SpAt.same _ _ _ _ s sp, ok⟩
theorem SlOk.upd {K : PySem.W.Frag} {H : Hp} {v : V} {c : Addr} {o : HO} (h : SlOk K H v) (n : ∀ b p, SpAt K H b p → b ≠ c) : SlOk K (upd H c o) v := h.imp id fun ⟨b, p, e, sp, ok⟩ => ⟨b, p, e, let ⟨dx, q⟩ := sp; ⟨dx, by rw [upd_ne (n b p sp)]; exact q⟩, ok⟩
theorem sp_ne_lst {K : PySem.W.Frag} {H : Hp} {c : Addr} {xs : List V} (h : H c = some (.lst xs)) : ∀ b p, SpAt K H b p → b ≠ c := fun b p ⟨dx, q⟩ z => by
  rw [z, h] at q
  cases q
theorem fS_length (i j : Int) : (fS i j).length = 2 := by kernel_rfl
theorem fW_length (x : Wk) : (fW x).length = 15 := rfl
theorem sp_ne_w {K : PySem.W.Frag} {H : Hp} {a C dx : Addr} {x : Wk} (h : H a = some (.ins C dx (fW x))) : ∀ b p, SpAt K H b p → b ≠ a := fun b p ⟨dy, q⟩ z => by
  rw [z, h] at q
  have q := Option.some.inj q
  injection q with _ _ e
  have := congrArg List.length e
  rw [fS_length, fW_length] at this
  omega
section
variable {P : Program} {w : World} {K : PySem.W.Frag} {mg : Str → Option Value} {base : Heap}
theorem sc_We : FnScope ["self"] ["self"] (defScope s_Walk_is_at_end) := ⟨rfl, rfl, rfl, by decide +kernel, rfl, by decide +kernel, by decide +kernel⟩
def spWe (K : PySem.W.Frag) : Sp := fun vs H Q _ => ∃ H0 a x s lc lens rows r b g most, vs = [.ref a] ∧ WkH K lens rows b g most H0 H a x s lc ∧ TkOk lens rows r ∧ ∀ H', Same H H' → Q (.bl (decide (s.p = lens.sum))) H'
theorem ok_We (T : Tx K mg) : Okd P w K mg base 4 (He.fAd K ("Walk", some "is_at_end")) ["self"] (spWe K) := by
  obtain ⟨fd, F⟩ := F_Walk_is_at_end T
  obtain ⟨fdo, GO, kpo, bo⟩ := ok_io (P := P) (w := w) (base := base) T
  refine ⟨fd, okF F sc_We (fun vs H Q E h => ?_) (fun cdv A outer s H vs Q E hr h => ?_), F.kp, FunD.bindsN F fun _ _ _ _ _ _ us hl => match us, hl with | [_], _ => rfl⟩
  · obtain ⟨H0, a, x, s, lc, lens, rows, r, b, g, most, rfl, _⟩ := h
    rfl
  · obtain ⟨H0, a, x, s, lc, lens, rows, r, b, g, most, rfl, wk, ok, q⟩ := h
    obtain ⟨dx, hw⟩ := wk.w
    refine ⟨_, pss_one (ps_ret (pe_call GO hr rfl (g_is_over T) kpo bo .nil pass0 (pa_cons (pe_fld (pv 0) rfl) (pa_cons (pe_fld (pv 0) rfl) pa_nil)))), ?_⟩
    exact ⟨_, rfl, a, _, dx, _, _, rfl, hw, c_Walk T, n_Walk_talk_walked T, fW_tk x, _, rfl, a, _, dx, _, _, rfl, hw, c_Walk T, n_Walk_stand_here T, fW_st x, x.tk, x.st, s, lens, rows, r, rfl, wk.tk', ok, wk.st, q⟩
def asksB (lens : List Int) (most : Int) (s : Stn) : Bool := decide (s.c = -1) && roomB lens most s
theorem sc_Wa : FnScope ["self", "number", "coming", "others"] ["self"] (defScope s_Walk_asks_here) := ⟨rfl, rfl, rfl, by decide +kernel, rfl, by decide +kernel, by decide +kernel⟩
def spWa (K : PySem.W.Frag) : Sp := fun vs H Q _ => ∃ H0 a x s lc lens rows r b g most, vs = [.ref a] ∧ WkH K lens rows b g most H0 H a x s lc ∧ TkOk lens rows r ∧ 0 ≤ s.n ∧ ∀ H', Same H H' → Q (.bl (asksB lens most s)) H'
theorem ok_Wa (T : Tx K mg) : Okd P w K mg base 2 (He.fAd K ("Walk", some "asks_here")) ["self"] (spWa K) := by
  obtain ⟨fd, F⟩ := F_Walk_asks_here T
  obtain ⟨fdo, GO, kpo, bo⟩ := ok_hr (P := P) (w := w) (base := base) T
  obtain ⟨tN, gN⟩ := i_NONE T
  refine ⟨fd, okF F sc_Wa (fun vs H Q E h => ?_) (fun cdv A outer s H vs Q E hr h => ?_), F.kp, FunD.bindsN F fun _ _ _ _ _ _ us hl => match us, hl with | [_], _ => rfl⟩
  · obtain ⟨H0, a, x, s, lc, lens, rows, r, b, g, most, rfl, _⟩ := h
    rfl
  · obtain ⟨H0, a, x, s, lc, lens, rows, r, b, g, most, rfl, wk, ok, h0, q⟩ := h
    obtain ⟨dx, hw⟩ := wk.w
    refine ⟨_, pss_cons (ps_asg (pe_fld (pv 0) rfl) (pg_star (n := 2) rfl (pgs_cons (pg_name (i := 1) sc_Wa.nd rfl (.inl rfl)) (pgs_cons (pg_name (i := 2) sc_Wa.nd rfl (.inl rfl)) (pgs_star (pg_name (i := 3) sc_Wa.nd rfl (.inl rfl)))))))
      (pss_cons (ps_if (PW.pt (pw_or (pt_cmpR op_ne (pv 2) (pe_glob (v := .int (-1)) rfl gN ⟨_, rfl⟩) (nomark _)) (pw_or1 (pt_not (pt_val (pe_call GO hr rfl (g_has_room T) kpo bo .nil pass0 (pa_cons (pe_fld (pv 0) rfl) (pa_cons (pe_fld (pv 0) rfl) (pa_cons (pe_ix ix_tup (pe_fld (pv 0) rfl) pe_int (fun _ _ => rfl)) pa_nil))))))))) (pss_one (ps_ret pe_bl)) pss_nil)
      (pss_one (ps_ret (pe_or (pe_cmpR op_isN (pe_fld (pv 0) rfl) pe_non (nomark _)) (pe_one (pe_cmpR op_le (pe_ix ix_tup (pe_fld (pv 0) rfl) (pv 1) (fun _ _ => rfl)) (pe_fld (pv 0) rfl) (nomark _))))))), ?_⟩
    refine ⟨_, rfl, a, _, dx, _, _, rfl, hw, c_Walk T, n_Walk_stand_here T, fW_st x, x.st, stV s, rfl, .inl wk.st, (by show 2 ≤ 6; decide), fun D nD => ⟨_, _, rfl, _, _, rfl, _, _, rfl, rfl, ?_⟩⟩
    have s1 := Same.upd (o := .lst ((stV s).drop 2)) nD
    have wk1 := wk.grow s1
    have hw1 := s1 _ _ hw
    refine ⟨_, rfl, rfl, _, rfl, ?_⟩
    rw [dec_intV]
    have qq := q _ s1
    unfold asksB at qq
    by_cases c1 : s.c = -1
    · rw [decide_eq_true c1] at qq ⊢
      refine iteF ⟨_, rfl, a, _, dx, _, _, rfl, hw1, c_Walk T, n_Walk_talk_walked T, fW_tk x, _, rfl, a, _, dx, _, _, rfl, hw1, c_Walk T, n_Walk_stand_here T, fW_st x, _, rfl, a, _, dx, _, _, rfl, hw1, c_Walk T, n_Walk_limits T, fW_lim x, x.lim, _, _, _, rfl, rfl, SqT.of wk1.lim, atI_nat (j := 2) rfl, ?_⟩
      refine ⟨x.tk, x.st, most, s, lens, rows, r, rfl, wk1.tk', ok, wk1.st, h0, fun H2 s2 => ⟨_, rfl, ?_⟩⟩
      have q3 := q H2 (s1.trans s2)
      unfold asksB at q3
      rw [decide_eq_true c1, Bool.true_and] at q3
      cases hrm : roomB lens most s with
      | true =>
        rw [hrm] at q3
        exact iteF ⟨_, rfl, a, _, dx, _, _, rfl, s2 _ _ hw1, c_Walk T, n_Walk_opening T, fW_open x, rfl, _, rfl, iteT q3⟩
      | false =>
        rw [hrm] at q3
        exact iteT q3
    · rw [decide_eq_false c1] at qq ⊢
      exact iteT (iteT qq)
/-! ### choose_here -/
theorem sc_Wc : FnScope ["self", "seen"] ["self"] (defScope s_Walk_choose_here) := ⟨rfl, rfl, rfl, by decide +kernel, rfl, by decide +kernel, by decide +kernel⟩
def spWc (P : Program) (w : World) (K : PySem.W.Frag) (mg : Str → Option Value) (base : Heap) : Sp := fun vs H Q _ => ∃ H0 a x s lc lens rows r b g most, vs = [.ref a] ∧ WkH K lens rows b g most H0 H a x s lc ∧ TkOk lens rows r ∧ 0 ≤ s.n ∧ ChOk P w K mg base lens.length r H0 x.ch ∧ RlOk x.rl ∧ SlOk K H x.sl ∧
  (lc 0).length ≤ 100000 ∧ (lc 1).length ≤ 100000 ∧ (asksB lens most s = false → ∀ H', Same H H' → Q .non H') ∧
  (asksB lens most s = true → ∀ rate st' H', 0 ≤ rate → rate < (r : Int) → SlOk K H' x.sl → (∀ q xs, H q = some (.tup xs) → H' q = some (.tup xs)) →
    WkH K lens rows b g most H0 H' a { x with rl := .int rate, st := st' } ⟨s.n, rate, 0 - x.wait, s.k, s.p, s.o⟩ (setL (setL lc 0 (lc 0 ++ [.int rate])) 1 (lc 1 ++ [.int x.beat])) → Q .non H')
theorem ok_Wc (T : Tx K mg) : Okd P w K mg base 10 (He.fAd K ("Walk", some "choose_here")) ["self"] (spWc P w K mg base) := by
  obtain ⟨fd, F⟩ := F_Walk_choose_here T
  obtain ⟨fda, GA, kpa, ba⟩ := ok_Wa (P := P) (w := w) (base := base) T
  obtain ⟨fds, GS, kps, bs⟩ := ok_sa (P := P) (w := w) (base := base) T
  obtain ⟨fdr, GR, kpr, br⟩ := ok_rb (P := P) (w := w) (base := base) T
  obtain ⟨fdc, GC, kpc, kb⟩ := ok_ch (P := P) (w := w) (mg := mg) (base := base) T
  refine ⟨fd, okF F sc_Wc (fun vs H Q E h => ?_) (fun cdv A outer s H vs Q E hr h => ?_), F.kp, FunD.bindsN F fun _ _ _ _ _ _ us hl => match us, hl with | [_], _ => rfl⟩
  · obtain ⟨H0, a, x, s, lc, lens, rows, r, b, g, most, rfl, _⟩ := h
    rfl
  · obtain ⟨H0, a, x, s, lc, lens, rows, r, b, g, most, rfl, wk, ok, h0, hch, hrl, hsl, l0, l1, qF, qT⟩ := h
    obtain ⟨dx, hw⟩ := wk.w
    have cl := c_Walk T
    refine ⟨_, pss_one (ps_if (pt_val (pe_meth0 (pv 0) cl (t_Walk_asks_here T) GA (hr.mono (by decide)) ba .nil pass0))
      (pss_cons (ps_set (i := 1) sc_Wc.nd rfl (.inl rfl) (pe_call GS (hr.mono (by decide)) rfl (g_seen_at T) kps bs .nil pass0 (pa_cons (pe_fld (pv 0) rfl) (pa_cons (pe_fld (pv 0) rfl) (pa_cons (pe_fld (pv 0) rfl) pa_nil)))))
      (pss_cons (ps_fld (pv 0) (pe_call GR hr rfl (g_rate_by T) kpr br .nil pass0 (pa_cons (pe_fld (pv 0) rfl) (pa_cons (pe_fld (pv 0) rfl) (pa_cons (pv 1) pa_nil)))) rfl)
      (pss_cons (ps_fld (pv 0) (pe_callN GC (hr.mono (by decide)) rfl (g_chosen T) kpc kb pass0 (pa_cons (pe_fld (pv 0) rfl) (pa_cons (pe_fld (pv 0) rfl) pa_nil)) (pk_cons (pe_fld (pv 0) rfl) pk_nil)) rfl)
      (pss_cons (ps_expr (pe_bm PySem.F.plainAttrs_list PySem.F.slot_list_append PySem.F.type_list_append mt_append (pe_fld (pv 0) rfl) (pa_cons (pe_fld (pv 0) rfl) pa_nil)))
      (pss_one (ps_expr (pe_bm PySem.F.plainAttrs_list PySem.F.slot_list_append PySem.F.type_list_append mt_append (pe_fld (pv 0) rfl) (pa_cons (pe_fld (pv 0) rfl) pa_nil)))))))) pss_nil), ?_⟩
    refine ⟨_, rfl, a, dx, _, rfl, hw, fW_m2 x, H0, a, x, s, lc, lens, rows, r, b, g, most, rfl, wk, ok, h0, fun H1 s1 => ⟨_, rfl, ?_⟩⟩
    cases ea : asksB lens most s with
    | false => exact iteF (qF ea H1 s1)
    | true =>
      refine iteT ?_
      have wk1 := wk.grow s1
      have hw1 := s1 _ _ hw
      refine ⟨_, rfl, a, _, dx, _, _, rfl, hw1, cl, n_Walk_stand_here T, fW_st x, _, rfl, a, _, dx, _, _, rfl, hw1, cl, n_Walk_rate_last T, fW_rl x, _, rfl, a, _, dx, _, _, rfl, hw1, cl, n_Walk_speed_last T, fW_sl x, ?_⟩
      refine ⟨x.st, s, x.rl, x.sl, rfl, wk1.st, fun p np => ?_⟩
      have s2 := s1.trans (Same.upd (o := .tup [.int s.n, .int s.k, x.rl, x.sl]) np)
      have wk2 := wk.grow s2
      have hw2 := s2 _ _ hw
      have hroom : s.n < (lens.length : Int) := by
        unfold asksB roomB at ea
        rw [Bool.and_eq_true, Bool.and_eq_true] at ea
        exact of_decide_eq_true ea.2.1
      refine ⟨_, rfl, a, _, dx, _, _, rfl, hw2, cl, n_Walk_talk_walked T, fW_tk x, _, rfl, a, _, dx, _, _, rfl, hw2, cl, n_Walk_chooser_asked T, fW_ch x, _, rfl, ?_⟩
      refine ⟨x.tk, x.ch, _, ⟨s.n, s.k, x.rl, x.sl⟩, lens, rows, r, rfl, wk2.tk', ok, hch.same wk2.same, ⟨p, rfl, upd_same, h0, hroom, hrl, hsl.same s2⟩, fun rate H3 r0 r1 s3' => ?_⟩
      have s3 := s2.trans s3'
      have wk3 := wk.grow s3
      have hw3 := s3 _ _ hw
      refine ⟨_, rfl, a, _, dx, _, rfl, hw3, cl, n_Walk_rate_last T, (by rw [fW_length]; decide), ?_⟩
      have wk4 := wk3.fld (x' := { x with rl := .int rate }) (s' := s) hw3 rfl rfl rfl wk3.st
      have sl4 : SlOk K _ x.sl := (hsl.same s3).upd (o := .ins (He.ga K "Walk") dx (fW { x with rl := .int rate })) (sp_ne_w hw3)
      have tp4 : ∀ q xs, H q = some (.tup xs) → upd H3 a (.ins (He.ga K "Walk") dx (fW { x with rl := .int rate })) q = some (.tup xs) := fun q xs e => keep_tup (s3 _ _ e) fun xs z => by rw [hw3] at z; cases z
      have hw4 : upd H3 a (.ins (He.ga K "Walk") dx (fW { x with rl := .int rate })) a = _ := upd_same
      rw [fW_put_rl]
      refine ⟨_, rfl, a, _, dx, _, _, rfl, hw4, cl, n_Walk_stand_here T, fW_st _, _, rfl, a, _, dx, _, _, rfl, hw4, cl, n_Walk_rate_last T, fW_rl _, _, rfl, a, _, dx, _, _, rfl, hw4, cl, n_Walk_waiting T, fW_wait _, rfl, rfl, ?_⟩
      refine ⟨x.st, s, rate, x.wait, rfl, wk4.st, fun st' H5 s5 hp => ?_⟩
      have hw5 := s5 _ _ hw4
      refine ⟨_, rfl, a, _, dx, _, rfl, hw5, cl, n_Walk_stand_here T, (by rw [fW_length]; decide), ?_⟩
      have wk5 := (wk4.grow s5).fld (x' := { x with rl := .int rate, st := st' }) (s' := ⟨s.n, rate, 0 - x.wait, s.k, s.p, s.o⟩) hw5 rfl rfl rfl (SqT.of hp)
      have sl5 : SlOk K _ x.sl := (sl4.same s5).upd (o := .ins (He.ga K "Walk") dx (fW { x with rl := .int rate, st := st' })) (sp_ne_w hw5)
      have tp5 : ∀ q xs, H q = some (.tup xs) → upd H5 a (.ins (He.ga K "Walk") dx (fW { x with rl := .int rate, st := st' })) q = some (.tup xs) := fun q xs e => keep_tup (s5 _ _ (tp4 q xs e)) fun xs z => by rw [hw5] at z; cases z
      have hw6 : upd H5 a (.ins (He.ga K "Walk") dx (fW { x with rl := .int rate, st := st' })) a = _ := upd_same
      rw [fW_put_st]
      have hl0 := wk5.ls 0 (by decide)
      refine ⟨_, rfl, a, _, dx, _, _, rfl, hw6, cl, n_Walk_rates T, fW_0 _, .inl ⟨rfl, _, SqL.of hl0⟩, _, rfl, a, _, dx, _, _, rfl, hw6, cl, n_Walk_rate_last T, fW_rl _, x.li 0, _, _, rfl, rfl, hl0, Nat.lt_of_le_of_lt l0 (by decide), ?_⟩
      have wk7 := wk5.lst (j := 0) (by decide) (lc 0 ++ [.int rate])
      have sl7 := sl5.upd (o := .lst (lc 0 ++ [.int rate])) (sp_ne_lst hl0)
      obtain ⟨dx7, hw7⟩ := wk7.w
      have hl1 := wk7.ls 1 (by decide)
      refine ⟨_, rfl, a, _, dx7, _, _, rfl, hw7, cl, n_Walk_begun T, fW_1 _, .inl ⟨rfl, _, SqL.of hl1⟩, _, rfl, a, _, dx7, _, _, rfl, hw7, cl, n_Walk_beat_here T, fW_beat _, x.li 1, _, _, rfl, rfl, hl1, Nat.lt_of_le_of_lt l1 (by decide), ?_⟩
      have wk8 := wk7.lst (j := 1) (by decide) (lc 1 ++ [.int x.beat])
      exact qT ea rate st' _ r0 r1 (sl7.upd (sp_ne_lst hl1)) (fun q xs e => keep_tup (keep_tup (tp5 q xs e) fun xs z => by rw [hl0] at z; cases z) fun xs z => by rw [hl1] at z; cases z) wk8
end
end Rp
/- RpW3 -/
set_option maxHeartbeats 4000000
/-! RpW3: the walk steps on. -/
namespace Rp
open PySem PySem.Spec PyProof.Rows L2
section
variable {lens : List Int} {rows : List (List Int)} {b g most spd : Int} {s : Stn}
theorem beatF_1 (h : s.c = -1) : beatF lens rows b g most spd s = ⟨s.n, s.c, s.g, (playF lens b g most s).1, (playF lens b g most s).2.1, (playF lens b g most s).2.2⟩ := if_pos h
theorem beatF_2 (h : s.c ≠ -1) (h2 : s.g + (if s.g < 0 then 1 else spd) < szAt rows s.n s.c) : beatF lens rows b g most spd s = ⟨s.n, s.c, s.g + (if s.g < 0 then 1 else spd), (playF lens b g most s).1, (playF lens b g most s).2.1, (playF lens b g most s).2.2⟩ := (if_neg h).trans (if_pos h2)
theorem beatF_3 (h : s.c ≠ -1) (h2 : ¬ s.g + (if s.g < 0 then 1 else spd) < szAt rows s.n s.c) : beatF lens rows b g most spd s = ⟨s.n + 1, -1, 0, (playF lens b g most s).1 + lenAt lens s.n, (playF lens b g most s).2.1, (playF lens b g most s).2.2⟩ := (if_neg h).trans (if_neg h2)
theorem beatF_p : (beatF lens rows b g most spd s).p = (playF lens b g most s).2.1 := by
  by_cases h : s.c = -1
  · rw [beatF_1 h]
  · by_cases h2 : s.g + (if s.g < 0 then 1 else spd) < szAt rows s.n s.c
    · rw [beatF_2 h h2]
    · rw [beatF_3 h h2]
theorem beatF_o : (beatF lens rows b g most spd s).o = (playF lens b g most s).2.2 := by
  by_cases h : s.c = -1
  · rw [beatF_1 h]
  · by_cases h2 : s.g + (if s.g < 0 then 1 else spd) < szAt rows s.n s.c
    · rw [beatF_2 h h2]
    · rw [beatF_3 h h2]
theorem beatF_n (hn : s.n < (beatF lens rows b g most spd s).n) : s.c ≠ -1 := fun h => by
  rw [beatF_1 h] at hn
  exact Int.lt_irrefl _ hn
theorem playF_p (h : s.p < (playF lens b g most s).2.1) : (playF lens b g most s).2.2 = 1 := by
  unfold playF at h ⊢
  split at h
  · exact absurd h (Int.lt_irrefl _)
  · split at h
    · exact absurd h (Int.lt_irrefl _)
    · rename_i h1 h2
      rw [if_neg h1, if_neg h2]
end
def StlOk (H : Hp) (l : List V) : Prop := ∀ v ∈ l, ∃ q i j, v = .ref q ∧ H q = some (.tup [.int i, .int j])
theorem StlOk.same {H H' : Hp} {l : List V} (h : StlOk H l) (k : ∀ q xs, H q = some (.tup xs) → H' q = some (.tup xs)) : StlOk H' l := fun v hv => let ⟨q, i, j, e, z⟩ := h v hv; ⟨q, i, j, e, k _ _ z⟩
section
variable {P : Program} {w : World} {K : PySem.W.Frag} {mg : Str → Option Value} {base : Heap}
abbrev N_Ws : List Str := ["self", "speed", "begin", "again", "most", "ahead", "first", "many", "size"]
theorem sc_Ws : FnScope N_Ws ["self", "speed"] (defScope s_Walk_step_on) := ⟨rfl, rfl, rfl, by decide +kernel, rfl, by decide +kernel, by decide +kernel⟩
def spWs (K : PySem.W.Frag) : Sp := fun vs H Q _ => ∃ H0 a x s lc lens rows r b g most spd, vs = [.ref a, .int spd] ∧ WkH K lens rows b g most H0 H a x s lc ∧ TkOk lens rows r ∧ StV lens.length r s ∧ SlOk K H x.sl ∧ StlOk H (lc 4) ∧ (s.o = 2 → lc 4 ≠ []) ∧
  ((beatF lens rows b g most spd s).o = 2 → s.o = 1 ∨ s.o = 2) ∧ (∀ i, i < 6 → (lc i).length ≤ 100000) ∧ (s.c ≠ -1 → ∃ xs b0, lc 1 = xs ++ [.int b0] ∧ 0 ≤ b0 ∧ b0 ≤ x.beat) ∧ 0 ≤ x.beat ∧ x.beat ≤ 100000 ∧
  ∀ st' sl' lc' H', WkH K lens rows b g most H0 H' a { x with st := st', beat := x.beat + 1, sl := sl' } (beatF lens rows b g most spd s) lc' → SlOk K H' sl' → StlOk H' (lc' 4) → ((beatF lens rows b g most spd s).o = 2 → lc' 4 ≠ []) → lc' 0 = lc 0 → lc' 1 = lc 1 →
    lc' 2 = (if s.n < (beatF lens rows b g most spd s).n then lc 2 ++ [.int (x.beat + 1)] else lc 2) → (∀ i, i < 6 → (lc' i).length ≤ (lc i).length + 1) → Q .non H'
/-- the state behind the plays and the stalls -/
structure StepM (K : PySem.W.Frag) (lens : List Int) (rows : List (List Int)) (b g most : Int) (H0 H' : Hp) (a : Addr) (x : Wk) (s s2 : Stn) (st' : Addr) (lc lc1 : Nat → List V) : Prop where
  wk : WkH K lens rows b g most H0 H' a { x with st := st' } s2 lc1
  old : StAt K H' x.st s
  sl : SlOk K H' x.sl
  stl : StlOk H' (lc1 4)
  e0 : lc1 0 = lc 0
  e1 : lc1 1 = lc 1
  e2 : lc1 2 = lc 2
  e5 : lc1 5 = lc 5
  len : ∀ i, i < 6 → (lc1 i).length ≤ (lc i).length + 1
theorem StepM.grow {lens : List Int} {rows : List (List Int)} {b g most : Int} {H0 H1 H2 : Hp} {a : Addr} {x : Wk} {s s2 : Stn} {st' : Addr} {lc lc1 : Nat → List V} (m : StepM K lens rows b g most H0 H1 a x s s2 st' lc lc1) (k : Same H1 H2) : StepM K lens rows b g most H0 H2 a x s s2 st' lc lc1 :=
  ⟨m.wk.grow k, m.old.same k, m.sl.same k, m.stl.same fun q xs e => k _ _ e, m.e0, m.e1, m.e2, m.e5, m.len⟩
theorem StepM.put {lens : List Int} {rows : List (List Int)} {b g most : Int} {H0 H1 : Hp} {a : Addr} {x : Wk} {s s2 : Stn} {st' : Addr} {lc lc1 : Nat → List V} (m : StepM K lens rows b g most H0 H1 a x s s2 st' lc lc1) {j : Nat} (hj : j = 3 ∨ j = 4) {v : List V}
    (hv : StlOk H1 (setL lc1 j v 4)) (hl : v.length ≤ (lc j).length + 1) : StepM K lens rows b g most H0 (upd H1 (x.li j) (.lst v)) a x s s2 st' lc (setL lc1 j v) := by
  have h6 : j < 6 := by omega
  have e := m.wk.ls j h6
  have ne : ∀ i, i ≠ j → setL lc1 j v i = lc1 i := fun i h => if_neg h
  refine ⟨m.wk.lst h6 v, st_keep m.old (fun xs z => by rw [e] at z; cases z) (fun ob u z => by rw [e] at z; cases z), m.sl.upd (sp_ne_lst e), hv.same (fun q xs h => keep_tup h (fun xs z => by rw [e] at z; cases z)),
    (ne 0 (by omega)).trans m.e0, (ne 1 (by omega)).trans m.e1, (ne 2 (by omega)).trans m.e2, (ne 5 (by omega)).trans m.e5, fun i hi => ?_⟩
  by_cases z : i = j
  · rw [z]
    show (if j = j then v else lc1 j).length ≤ _
    rw [if_pos rfl]
    exact hl
  · rw [ne i z]
    exact m.len i hi
theorem ok_Ws (T : Tx K mg) : Okd P w K mg base 5 (He.fAd K ("Walk", some "step_on")) ["self", "speed"] (spWs K) := by
  obtain ⟨fd, F⟩ := F_Walk_step_on T
  obtain ⟨fdb, GB, kpb, bb⟩ := ok_bo (P := P) (w := w) (base := base) T
  obtain ⟨fds, GS, kps, bs⟩ := ok_Si (P := P) (w := w) (base := base) T
  obtain ⟨tP, gP⟩ := i_PLAYS T
  obtain ⟨tS, gS⟩ := i_STALLS T
  refine ⟨fd, okF F sc_Ws (fun vs H Q E h => ?_) (fun cdv A outer s H vs Q E hr h => ?_), F.kp, FunD.bindsN F fun _ _ _ _ _ _ us hl => match us, hl with | [_, _], _ => rfl⟩
  · obtain ⟨H0, a, x, s, lc, lens, rows, r, b, g, most, spd, rfl, _⟩ := h
    rfl
  · obtain ⟨H0, a, x, s, lc, lens, rows, r, b, g, most, spd, rfl, wk, ok, sv, hsl, hstl, hne, hst, hlen, hbg, hb0, hb1, q⟩ := h
    obtain ⟨dx, hw⟩ := wk.w
    have cl := c_Walk T
    refine ⟨_, pss_cons (ps_asg (pe_fld (pv 0) rfl) (pg_tup rfl (pgs_cons (pg_name (i := 2) sc_Ws.nd rfl (.inl rfl)) (pgs_cons (pg_name (i := 3) sc_Ws.nd rfl (.inl rfl)) (pgs_cons (pg_name (i := 4) sc_Ws.nd rfl (.inl rfl)) pgs_nil)))))
      (pss_cons (ps_set (i := 5) sc_Ws.nd rfl (.inl rfl) (pe_fld (pv 0) rfl))
      (pss_cons (ps_fld (pv 0) (pe_call GB hr rfl (g_beat_on T) kpb bb .nil pass0 (pa_cons (pe_fld (pv 0) rfl) (pa_cons (pv 5) (pa_cons (pv 1) (pa_cons (pv 2) (pa_cons (pv 3) (pa_cons (pv 4) pa_nil))))))) rfl)
      (pss_cut (fun σ' H' => ∃ st' f m lc1, σ' = [some (.ref a), some (.int spd), some (.int b), some (.int g), some (.int most), some (.ref x.st), f, m, none] ∧ StepM K lens rows b g most H0 H' a x s (beatF lens rows b g most spd s) st' lc lc1 ∧ ((beatF lens rows b g most spd s).o = 2 → lc1 4 ≠ []))
        (ps_if (pt_cmpR op_gt (pe_ix ix_tup (pe_fld (pv 0) rfl) pe_int (fun _ _ => rfl)) (pe_ix ix_tup (pv 5) pe_int (fun _ _ => rfl)) (nomark _))
          (pss_one (ps_expr (pe_bm PySem.F.plainAttrs_list PySem.F.slot_list_append PySem.F.type_list_append mt_append (pe_fld (pv 0) rfl) (pa_cons (pe_fld (pv 0) rfl) pa_nil))))
          (pss_one (ps_if (pt_cmpR op_eq (pe_ix ix_tup (pe_fld (pv 0) rfl) pe_int (fun _ _ => rfl)) (pe_glob (v := .int 2) rfl gS ⟨_, rfl⟩) (nomark _))
            (pss_cut (fun σ' H' => ∃ st' lc1 xs y, σ' = [some (.ref a), some (.int spd), some (.int b), some (.int g), some (.int most), some (.ref x.st), none, none, none] ∧ StepM K lens rows b g most H0 H' a x s (beatF lens rows b g most spd s) st' lc lc1 ∧ lc1 4 = xs ++ [y] ∧ xs.length ≤ (lc 4).length)
              (ps_if (pt_cmpR op_eq (pe_ix ix_tup (pv 5) pe_int (fun _ _ => rfl)) (pe_glob (v := .int 1) rfl gP ⟨_, rfl⟩) (nomark _))
                (pss_one (ps_expr (pe_bm PySem.F.plainAttrs_list PySem.F.slot_list_append PySem.F.type_list_append mt_append (pe_fld (pv 0) rfl) (pa_cons (pe_tup (pa_cons (pe_fld (pv 0) rfl) (pa_cons pe_int pa_nil))) pa_nil)))) pss_nil)
            (pss_cons (ps_asg (pe_bm0 PySem.F.plainAttrs_list PySem.F.slot_list_pop PySem.F.type_list_pop mt_pop (pe_fld (pv 0) rfl)) (pg_tup rfl (pgs_cons (pg_name (i := 6) sc_Ws.nd rfl (.inl rfl)) (pgs_cons (pg_name (i := 7) sc_Ws.nd rfl (.inl rfl)) pgs_nil))))
            (pss_one (ps_expr (pe_bm PySem.F.plainAttrs_list PySem.F.slot_list_append PySem.F.type_list_append mt_append (pe_fld (pv 0) rfl) (pa_cons (pe_tup (pa_cons (pv 6) (pa_cons (pe_op op_add (pv 7) pe_int) pa_nil))) pa_nil))))))
            pss_nil)))
      (pss_cons (ps_fldaug (pv 0) pe_int in_add)
      (pss_cons (ps_expr (pe_bm PySem.F.plainAttrs_list PySem.F.slot_list_append PySem.F.type_list_append mt_append (pe_fld (pv 0) rfl) (pa_cons (pe_ix ix_tup (pe_fld (pv 0) rfl) pe_int (fun _ _ => rfl)) pa_nil)))
      (pss_one (ps_if (pt_cmpR op_gt (pe_ix ix_tup (pe_fld (pv 0) rfl) pe_int (fun _ _ => rfl)) (pe_ix ix_tup (pv 5) pe_int (fun _ _ => rfl)) (nomark _))
        (pss_cons (ps_expr (pe_bm PySem.F.plainAttrs_list PySem.F.slot_list_append PySem.F.type_list_append mt_append (pe_fld (pv 0) rfl) (pa_cons (pe_fld (pv 0) rfl) pa_nil)))
        (pss_cons (ps_set (i := 8) sc_Ws.nd rfl (.inl rfl) (pe_ix ix_tup (pe_ix ix_tup (pe_fld (pe_fld (pv 0) rfl) rfl) (pe_ix ix_tup (pv 5) pe_int (fun _ _ => rfl)) (fun _ _ => rfl)) (pe_ix ix_tup (pv 5) pe_int (fun _ _ => rfl)) (fun _ _ => rfl)))
        (pss_one (ps_fld (pv 0) (pe_make (m_Speed T) GS (hr.mono (by decide)) rfl (g_Speed T) bs .nil pass0 (pa_cons (pv 8) (pa_cons (pe_op op_sub (pe_fld (pv 0) rfl) (pe_ix ix_list (pe_fld (pv 0) rfl) (pe_un un_neg pe_int) (fun _ _ => rfl))) pa_nil))) rfl))))
        pss_nil))))))), ?_⟩
    refine ⟨_, rfl, a, _, dx, _, _, rfl, hw, cl, n_Walk_limits T, fW_lim x, x.lim, _, rfl, SqT.of wk.lim, rfl, _, _, rfl, _, _, rfl, _, _, rfl, rfl, ?_⟩
    refine ⟨_, rfl, a, _, dx, _, _, rfl, hw, cl, n_Walk_stand_here T, fW_st x, ?_⟩
    refine ⟨_, rfl, a, _, dx, _, _, rfl, hw, cl, n_Walk_talk_walked T, fW_tk x, _, rfl, _, rfl, _, rfl, _, rfl, _, rfl, ?_⟩
    refine ⟨x.tk, x.st, spd, b, g, most, s, lens, rows, r, rfl, wk.tk', ok, wk.st, sv, fun st' H1 s1 hp => ?_⟩
    have hw1 := s1 _ _ hw
    refine ⟨_, rfl, a, _, dx, _, rfl, hw1, cl, n_Walk_stand_here T, (by rw [fW_length]; decide), ?_⟩
    have wk1 := (wk.grow s1).fld (x' := { x with st := st' }) (s' := beatF lens rows b g most spd s) hw1 rfl rfl rfl (SqT.of hp)
    have sl1 : SlOk K _ x.sl := (hsl.same s1).upd (o := .ins (He.ga K "Walk") dx (fW { x with st := st' })) (sp_ne_w hw1)
    have old1 : StAt K (upd H1 a (.ins (He.ga K "Walk") dx (fW { x with st := st' }))) x.st s := st_keep (wk.st.same s1) (fun xs z => by rw [hw1] at z; cases z) (fun ob u z => by rw [hw1] at z; cases z)
    have stl1 : StlOk (upd H1 a (.ins (He.ga K "Walk") dx (fW { x with st := st' }))) (lc 4) := hstl.same fun q xs e => keep_tup (s1 _ _ e) fun xs z => by rw [hw1] at z; cases z
    have hw2 : upd H1 a (.ins (He.ga K "Walk") dx (fW { x with st := st' })) a = _ := upd_same
    rw [fW_put_st]
    have ep := beatF_p (lens := lens) (rows := rows) (b := b) (g := g) (most := most) (spd := spd) (s := s)
    have eo := beatF_o (lens := lens) (rows := rows) (b := b) (g := g) (most := most) (spd := spd) (s := s)
    have pp := playF_p (lens := lens) (b := b) (g := g) (most := most) (s := s)
    have lt : ∀ i, i < 6 → (lc i).length < sizeLine := fun i hi => Nat.lt_of_le_of_lt (hlen i hi) (by decide)
    have m0 : StepM K lens rows b g most H0 _ a x s (beatF lens rows b g most spd s) st' lc lc := ⟨wk1, old1, sl1, stl1, rfl, rfl, rfl, rfl, fun i _ => Nat.le_succ _⟩
    refine ⟨?_, ?_⟩
    · refine ⟨_, rfl, a, _, dx, _, _, rfl, hw2, cl, n_Walk_stand_here T, fW_st _, st', _, _, _, rfl, rfl, wk1.st, atI_nat (j := 4) rfl, _, rfl, x.st, _, _, _, rfl, rfl, old1, atI_nat (j := 4) rfl, _, _, rfl, rfl, _, rfl, ?_⟩
      by_cases c1 : s.p < (beatF lens rows b g most spd s).p
      · rw [decide_eq_true c1]
        have hl3 := wk1.ls 3 (by decide)
        refine iteT ⟨_, rfl, a, _, dx, _, _, rfl, hw2, cl, n_Walk_plays T, fW_3 _, .inl ⟨rfl, _, SqL.of hl3⟩, _, rfl, a, _, dx, _, _, rfl, hw2, cl, n_Walk_beat_here T, fW_beat _, x.li 3, _, _, rfl, rfl, hl3, lt 3 (by decide), ?_⟩
        refine ⟨st', none, none, _, rfl, m0.put (.inl rfl) (v := lc 3 ++ [.int x.beat]) stl1 (by simp), fun z => ?_⟩
        rw [eo, pp (by rw [← ep]; exact c1)] at z
        cases z
      · rw [decide_eq_false c1]
        refine iteF ⟨_, rfl, a, _, dx, _, _, rfl, hw2, cl, n_Walk_stand_here T, fW_st _, st', _, _, _, rfl, rfl, wk1.st, atI_nat (j := 5) rfl, rfl, _, rfl, ?_⟩
        rw [dec_intV]
        by_cases c2 : (beatF lens rows b g most spd s).o = 2
        · rw [decide_eq_true c2]
          refine iteT ⟨⟨_, rfl, x.st, _, _, _, rfl, rfl, old1, atI_nat (j := 5) rfl, rfl, _, rfl, ?_⟩, ?_⟩
          · rw [dec_intV]
            by_cases c3 : s.o = 1
            · rw [decide_eq_true c3]
              have hl4 := wk1.ls 4 (by decide)
              refine iteT ⟨_, rfl, a, _, dx, _, _, rfl, hw2, cl, n_Walk_stalls T, fW_4 _, .inl ⟨rfl, _, SqL.of hl4⟩, _, rfl, a, _, dx, _, _, rfl, hw2, cl, n_Walk_beat_here T, fW_beat _, (by show 2 ≤ sizeLine; decide), fun p np => ?_⟩
              have k := Same.upd (o := .tup [.int x.beat, .int 0]) np
              refine ⟨x.li 4, _, _, rfl, rfl, k _ _ hl4, lt 4 (by decide), ?_⟩
              refine ⟨st', _, lc 4, .ref p, rfl, (m0.grow k).put (.inr rfl) (v := lc 4 ++ [.ref p]) ?_ (by simp), rfl, Nat.le_refl _⟩
              intro v hv
              rcases List.mem_append.mp (show v ∈ lc 4 ++ [.ref p] from hv) with hv | hv
              · exact (stl1.same fun q xs e => k _ _ e) v hv
              · rw [List.mem_singleton.mp hv]
                exact ⟨p, _, _, rfl, upd_same⟩
            · rw [decide_eq_false c3]
              have h4 : lc 4 ≠ [] := hne ((hst c2).resolve_left c3)
              exact iteF ⟨st', lc, (lc 4).dropLast, (lc 4).getLast h4, rfl, m0, (List.dropLast_concat_getLast h4).symm, by simp⟩
          · rintro σ' H' ⟨st2, lc1, xs, y, rfl, m, e4, hx⟩
            obtain ⟨dy, hwy⟩ := m.wk.w
            have hl4 := m.wk.ls 4 (by decide)
            rw [e4] at hl4
            obtain ⟨q0, i0, j0, rfl, hq0⟩ := m.stl y (by rw [e4]; simp)
            have hxl : xs.length < sizeLine := Nat.lt_of_le_of_lt (Nat.le_trans hx (hlen 4 (by decide))) (by decide)
            refine ⟨_, rfl, a, _, dy, _, _, rfl, hwy, cl, n_Walk_stalls T, fW_4 _, .inl ⟨rfl, _, SqL.of hl4⟩, x.li 4, _, .ref q0, rfl, rfl, hl4, (by simp), ?_⟩
            have ed : (xs ++ [V.ref q0]).dropLast = xs := by simp
            rw [ed]
            have stx : StlOk H' xs := fun v hv => m.stl v (by rw [e4]; exact List.mem_append_left _ hv)
            have m2 := m.put (.inr rfl) (v := xs) stx (by omega)
            have hq1 : upd H' (x.li 4) (.lst xs) q0 = _ := keep_tup hq0 fun xs z => by rw [hl4] at z; cases z
            refine ⟨q0, _, rfl, SqT.of hq1, rfl, _, _, rfl, _, _, rfl, rfl, ?_⟩
            obtain ⟨dz, hwz⟩ := m2.wk.w
            have hl5 : upd H' (x.li 4) (.lst xs) (x.li 4) = some (.lst xs) := upd_same
            refine ⟨_, rfl, a, _, dz, _, _, rfl, hwz, cl, n_Walk_stalls T, fW_4 _, .inl ⟨rfl, _, SqL.of hl5⟩, _, rfl, _, rfl, _, _, rfl, rfl, (by show 2 ≤ sizeLine; decide), fun p np => ?_⟩
            have k := Same.upd (o := .tup [.int i0, .int (j0 + 1)]) np
            refine ⟨x.li 4, _, _, rfl, rfl, k _ _ hl5, hxl, ?_⟩
            have stv : StlOk (upd (upd H' (x.li 4) (.lst xs)) p (.tup [.int i0, .int (j0 + 1)])) (xs ++ [.ref p]) := fun v hv => by
              rcases List.mem_append.mp hv with hv | hv
              · exact ((show StlOk _ xs from m2.stl).same fun q xs e => k _ _ e) v hv
              · rw [List.mem_singleton.mp hv]
                exact ⟨p, _, _, rfl, upd_same⟩
            refine ⟨st2, _, _, _, rfl, (m2.grow k).put (.inr rfl) (v := xs ++ [V.ref p]) stv (by rw [List.length_append, List.length_singleton]; omega), fun _ z => ?_⟩
            have z : xs ++ [V.ref p] = [] := z
            simp at z
        · rw [decide_eq_false c2]
          exact iteF ⟨st', none, none, lc, rfl, m0, fun z => absurd z c2⟩
    · rintro σ' H' ⟨st2, f, m, lc1, rfl, sm, hne1⟩
      obtain ⟨dy, hwy⟩ := sm.wk.w
      refine ⟨_, rfl, a, _, dy, _, _, rfl, hwy, cl, n_Walk_beat_here T, fW_beat _, _, _, rfl, rfl, dy, _, hwy, (by rw [fW_length]; decide), ?_⟩
      rw [fW_put_beat]
      have wk3 := sm.wk.fld (x' := { x with st := st2, beat := x.beat + 1 }) (s' := beatF lens rows b g most spd s) hwy rfl rfl rfl sm.wk.st
      have sl3 : SlOk K _ x.sl := sm.sl.upd (o := .ins (He.ga K "Walk") dy (fW { x with st := st2, beat := x.beat + 1 })) (sp_ne_w hwy)
      have old3 : StAt K (upd H' a (.ins (He.ga K "Walk") dy (fW { x with st := st2, beat := x.beat + 1 }))) x.st s := st_keep sm.old (fun xs z => by rw [hwy] at z; cases z) (fun ob u z => by rw [hwy] at z; cases z)
      have stl3 : StlOk (upd H' a (.ins (He.ga K "Walk") dy (fW { x with st := st2, beat := x.beat + 1 }))) (lc1 4) := sm.stl.same fun q xs e => keep_tup e fun xs z => by rw [hwy] at z; cases z
      have hw3 : upd H' a (.ins (He.ga K "Walk") dy (fW { x with st := st2, beat := x.beat + 1 })) a = _ := upd_same
      have hl5 := wk3.ls 5 (by decide)
      refine ⟨_, rfl, a, _, dy, _, _, rfl, hw3, cl, n_Walk_kept T, fW_5 _, .inl ⟨rfl, _, SqL.of hl5⟩, _, rfl, a, _, dy, _, _, rfl, hw3, cl, n_Walk_stand_here T, fW_st _, st2, _, _, _, rfl, rfl, wk3.st, atI_nat (j := 3) rfl, x.li 5, _, _, rfl, rfl, hl5, (by rw [sm.e5]; exact lt 5 (by decide)), ?_⟩
      have wk4 := wk3.lst (j := 5) (by decide) (lc1 5 ++ [.int (beatF lens rows b g most spd s).k])
      have sl4 := sl3.upd (o := .lst (lc1 5 ++ [.int (beatF lens rows b g most spd s).k])) (sp_ne_lst hl5)
      have old4 : StAt K _ x.st s := st_keep (o := .lst (lc1 5 ++ [.int (beatF lens rows b g most spd s).k])) old3 (fun xs z => by rw [hl5] at z; cases z) (fun ob u z => by rw [hl5] at z; cases z)
      have stl4 : StlOk _ (lc1 4) := stl3.same fun q xs e => keep_tup (o := .lst (lc1 5 ++ [.int (beatF lens rows b g most spd s).k])) (c := x.li 5) e fun xs z => by rw [hl5] at z; cases z
      obtain ⟨dz, hw4⟩ := wk4.w
      have l5 : ∀ i, i < 6 → (setL lc1 5 (lc1 5 ++ [.int (beatF lens rows b g most spd s).k]) i).length ≤ (lc i).length + 1 := fun i hi => by
        by_cases z : i = 5
        · rw [z]
          show (lc1 5 ++ [V.int (beatF lens rows b g most spd s).k]).length ≤ _
          rw [sm.e5]
          simp
        · show (if i = 5 then _ else lc1 i).length ≤ _
          rw [if_neg z]
          exact sm.len i hi
      refine ⟨_, rfl, a, _, dz, _, _, rfl, hw4, cl, n_Walk_stand_here T, fW_st _, st2, _, _, _, rfl, rfl, wk4.st, atI_nat (j := 0) rfl, _, rfl, x.st, _, _, _, rfl, rfl, old4, atI_nat (j := 0) rfl, _, _, rfl, rfl, _, rfl, ?_⟩
      by_cases c1 : s.n < (beatF lens rows b g most spd s).n
      · rw [decide_eq_true c1]
        have hc := sv.c.resolve_left (beatF_n c1)
        obtain ⟨xs, bb0, e1, hb2, hb3⟩ := hbg (beatF_n c1)
        have hl2 := wk4.ls 2 (by decide)
        refine iteT ⟨_, rfl, a, _, dz, _, _, rfl, hw4, cl, n_Walk_whole T, fW_2 _, .inl ⟨rfl, _, SqL.of hl2⟩, _, rfl, a, _, dz, _, _, rfl, hw4, cl, n_Walk_beat_here T, fW_beat _, x.li 2, _, _, rfl, rfl, hl2, (by show (lc1 2).length < sizeLine; rw [sm.e2]; exact lt 2 (by decide)), ?_⟩
        have wk5 := wk4.lst (j := 2) (by decide) (lc1 2 ++ [.int (x.beat + 1)])
        have sl5 := sl4.upd (o := .lst (lc1 2 ++ [.int (x.beat + 1)])) (sp_ne_lst hl2)
        have old5 : StAt K _ x.st s := st_keep (o := .lst (lc1 2 ++ [.int (x.beat + 1)])) old4 (fun xs z => by rw [hl2] at z; cases z) (fun ob u z => by rw [hl2] at z; cases z)
        have stl5 : StlOk _ (lc1 4) := stl4.same fun q xs e => keep_tup (o := .lst (lc1 2 ++ [.int (x.beat + 1)])) (c := x.li 2) e fun xs z => by rw [hl2] at z; cases z
        obtain ⟨dv, hw5⟩ := wk5.w
        obtain ⟨dt, l, z, hta, d⟩ := wk5.tk'
        obtain ⟨zs, hz, rz⟩ := d.hz
        have hn : s.n < (rows.length : Int) := by
          rw [← ok.len]
          exact hc.2.2
        obtain ⟨q', e2, hq'⟩ := atI_ref rz [] sv.n0 hn
        have hk : s.n.toNat < rows.length := by have := sv.n0; omega
        have hrow : rows.getD s.n.toNat [] ∈ rows := by
          rw [List.getD_eq_getElem?_getD, List.getElem?_eq_getElem hk]
          exact List.getElem_mem hk
        have hwl : (rows.getD s.n.toNat []).length = r := ok.row _ hrow
        have hsz : 1 ≤ szAt rows s.n s.c ∧ szAt rows s.n s.c ≤ 1000 := by
          refine ok.sz _ hrow _ ?_
          have hk2 : s.c.toNat < (rows.getD s.n.toNat []).length := by rw [hwl]; omega
          show (rows.getD s.n.toNat []).getD s.c.toNat 0 ∈ _
          rw [List.getD_eq_getElem?_getD (i := s.c.toNat), List.getElem?_eq_getElem hk2]
          exact List.getElem_mem hk2
        refine ⟨_, rfl, a, _, dv, _, _, rfl, hw5, cl, n_Walk_talk_walked T, fW_tk _, x.tk, _, dt, _, _, rfl, hta, c_Talk T, n_Talk_sizes T, fT_z _ _, _, rfl, x.st, _, _, _, rfl, rfl, old5, atI_nat (j := 0) rfl, z, _, _, _, rfl, rfl, SqT.of hz, e2, _, rfl, x.st, _, _, _, rfl, rfl, old5, atI_nat (j := 1) rfl,
          q', _, _, _, rfl, rfl, SqT.of hq', atI_ints hc.1 (by rw [hwl]; exact hc.2.1), ?_⟩
        have hl1 := wk5.ls 1 (by decide)
        have el1 : setL (setL lc1 5 (lc1 5 ++ [.int (beatF lens rows b g most spd s).k])) 2 (lc1 2 ++ [.int (x.beat + 1)]) 1 = xs ++ [.int bb0] := sm.e1.trans e1
        rw [el1] at hl1
        refine ⟨_, rfl, _, rfl, a, _, dv, _, _, rfl, hw5, cl, n_Walk_beat_here T, fW_beat _, _, rfl, a, _, dv, _, _, rfl, hw5, cl, n_Walk_begun T, fW_1 _, _, rfl, x.li 1, _, _, _, rfl, rfl, SqL.of hl1, atI_last _ _, _, _, rfl, rfl, ?_⟩
        intro y dy2 ny ndy ney
        refine ⟨y, dy2, _, _, rfl, upd_same, fun H6 mm => ⟨rfl, ?_⟩⟩
        have s6 := mm.same ny ndy
        have hw6 := s6 _ _ hw5
        refine ⟨_, rfl, a, _, dv, _, rfl, hw6, cl, n_Walk_speed_last T, (by rw [fW_length]; decide), ?_⟩
        rw [fW_put_sl]
        have wk7 := (wk5.grow s6).fld (x' := { x with st := st2, beat := x.beat + 1, sl := .ref y }) (s' := beatF lens rows b g most spd s) hw6 rfl rfl rfl (wk5.grow s6).st
        refine q st2 (.ref y) _ _ wk7 (SlOk.upd (.inr ⟨y, (szAt rows s.n s.c, x.beat + 1 - bb0), rfl, ⟨dy2, mm.1⟩, ⟨by omega, by omega, by show 1 ≤ x.beat + 1 - bb0; omega, by show x.beat + 1 - bb0 ≤ 1000000; omega⟩⟩) (sp_ne_w hw6)) ?_ ?_ ?_ ?_ ?_ ?_
        · exact stl5.same fun q xs e => keep_tup (s6 _ _ e) fun xs z => by rw [hw6] at z; cases z
        · exact hne1
        · exact sm.e0
        · exact sm.e1
        · rw [if_pos c1, ← sm.e2]
          rfl
        · intro i hi
          by_cases z : i = 2
          · rw [z]
            show (lc1 2 ++ [V.int (x.beat + 1)]).length ≤ _
            rw [sm.e2]
            simp
          · show (if i = 2 then _ else setL lc1 5 (lc1 5 ++ [.int (beatF lens rows b g most spd s).k]) i).length ≤ _
            rw [if_neg z]
            exact l5 i hi
      · rw [decide_eq_false c1]
        refine iteF ?_
        refine q st2 x.sl _ _ wk4 sl4 stl4 hne1 sm.e0 sm.e1 ?_ l5
        rw [if_neg c1]
        exact sm.e2
end
end Rp
/- RpRun -/
set_option maxHeartbeats 4000000
/-! RpRun: the plain law of a run: what the walk's numbers are, beat by beat, and that it ends. -/
namespace Rp
/-- stretch k, fetched at rate from begun on, is whole where its bits are, and no sooner -/
def FOk (rows : List (List Int)) (f : Int → Int) (wait : Int) (k : Nat) (rate begun whole : Int) : Prop :=
  0 ≤ begun ∧ ∃ n : Nat, whole = begun + wait + (n : Int) + 1 ∧ bits f (begun + wait) n < szAt rows (k : Int) rate ∧ szAt rows (k : Int) rate ≤ bits f (begun + wait) (n + 1)
/-- the one that is being fetched -/
def GOk (f : Int → Int) (wait b0 beat g size : Int) : Prop := (g < 0 ∧ g = beat - b0 - wait) ∨ ∃ n : Nat, beat = b0 + wait + (n : Int) ∧ g = bits f (b0 + wait) n ∧ g < size
structure RI (lens : List Int) (rows : List (List Int)) (r : Nat) (f : Int → Int) (wait : Int) (s : Stn) (beat : Int) (rs bs ws : List Int) : Prop where
  sv : StV lens.length r s
  b0 : 0 ≤ beat
  k0 : 0 ≤ s.k
  p0 : 0 ≤ s.p
  kp : s.k + s.p = (lens.take s.n.toNat).sum
  o0 : s.o = 0 → s.p = 0
  lb : bs.length = rs.length
  lw : (ws.length : Int) = s.n
  lr : (rs.length : Int) = if s.c = -1 then s.n else s.n + 1
  rr : ∀ x ∈ rs, 0 ≤ x ∧ x < (r : Int)
  fo : ∀ k : Nat, k < ws.length → FOk rows f wait k (rs.getD k 0) (bs.getD k 0) (ws.getD k 0)
  go : s.c ≠ -1 → ∃ rs' bs' b0, rs = rs' ++ [s.c] ∧ bs = bs' ++ [b0] ∧ 0 ≤ b0 ∧ b0 ≤ beat ∧ GOk f wait b0 beat s.g (szAt rows s.n s.c)
theorem getD_app {l : List Int} {x d : Int} {k : Nat} (h : k < l.length) : (l ++ [x]).getD k d = l.getD k d := by
  rw [List.getD_eq_getElem?_getD, List.getD_eq_getElem?_getD, List.getElem?_append_left h]
theorem getD_last {l : List Int} {x d : Int} : (l ++ [x]).getD l.length d = x := by
  rw [List.getD_eq_getElem?_getD]
  simp
theorem sum_take_succ {l : List Int} {k : Nat} (h : k < l.length) : (l.take (k + 1)).sum = (l.take k).sum + l.getD k 0 := by
  rw [List.take_succ, List.getElem?_eq_getElem h, List.sum_append, List.getD_eq_getElem?_getD, List.getElem?_eq_getElem h]
  simp
theorem sum_take_pos {l : List Int} (h : ∀ n ∈ l, 1 ≤ n) : ∀ k, k ≤ l.length → (k : Int) ≤ (l.take k).sum
  | 0, _ => by simp
  | k + 1, hk => by
    have ih := sum_take_pos h k (by omega)
    have hk' : k < l.length := by omega
    have := h _ (List.getElem_mem hk')
    rw [sum_take_succ hk', List.getD_eq_getElem?_getD, List.getElem?_eq_getElem hk']
    show ((k + 1 : Nat) : Int) ≤ (l.take k).sum + l[k]
    omega
theorem sum_take_lt {l : List Int} (h : ∀ n ∈ l, 1 ≤ n) {k : Nat} (hk : k < l.length) : (l.take k).sum < l.sum := by
  have e := List.take_append_drop k l
  have e2 : (l.take k).sum + (l.drop k).sum = l.sum := by rw [← List.sum_append, e]
  have : (1 : Int) ≤ (l.drop k).sum := by
    have := sum_take_pos (l := l.drop k) (fun n hn => h n (List.mem_of_mem_drop hn)) (l.drop k).length (Nat.le_refl _)
    rw [List.take_length, List.length_drop] at this
    omega
  omega
theorem szAt_ok {lens : List Int} {rows : List (List Int)} {r : Nat} (ok : TkOk lens rows r) {n c : Int} (h0 : 0 ≤ n) (h1 : n < (lens.length : Int)) (h2 : 0 ≤ c) (h3 : c < (r : Int)) : 1 ≤ szAt rows n c ∧ szAt rows n c ≤ 1000 := by
  have hk : n.toNat < rows.length := by have := ok.len; omega
  have hrow : rows.getD n.toNat [] ∈ rows := by
    rw [List.getD_eq_getElem?_getD, List.getElem?_eq_getElem hk]
    exact List.getElem_mem hk
  refine ok.sz _ hrow _ ?_
  have hk2 : c.toNat < (rows.getD n.toNat []).length := by rw [ok.row _ hrow]; omega
  show (rows.getD n.toNat []).getD c.toNat 0 ∈ _
  rw [List.getD_eq_getElem?_getD (i := c.toNat), List.getElem?_eq_getElem hk2]
  exact List.getElem_mem hk2
theorem lenAt_ok {lens : List Int} {rows : List (List Int)} {r : Nat} (ok : TkOk lens rows r) {n : Int} (h0 : 0 ≤ n) (h1 : n < (lens.length : Int)) : lenAt lens n ∈ lens := by
  have hk : n.toNat < lens.length := by omega
  show lens.getD n.toNat 0 ∈ _
  rw [List.getD_eq_getElem?_getD, List.getElem?_eq_getElem hk]
  exact List.getElem_mem hk
section
variable {lens : List Int} {rows : List (List Int)} {r : Nat} {f : Int → Int} {wait b g most : Int} {s : Stn} {beat : Int} {rs bs ws : List Int}
theorem asks_n (h : asksB lens most s = true) : s.c = -1 ∧ s.n < (lens.length : Int) := by
  unfold asksB roomB at h
  rw [Bool.and_eq_true, Bool.and_eq_true] at h
  exact ⟨of_decide_eq_true h.1, of_decide_eq_true h.2.1⟩
theorem RI.choose (ok : TkOk lens rows r) (h : RI lens rows r f wait s beat rs bs ws) (ha : asksB lens most s = true) {rate : Int} (h0 : 0 ≤ rate) (h1 : rate < (r : Int)) (hw : 0 ≤ wait) :
    RI lens rows r f wait ⟨s.n, rate, 0 - wait, s.k, s.p, s.o⟩ beat (rs ++ [rate]) (bs ++ [beat]) ws := by
  obtain ⟨hc, hn⟩ := asks_n ha
  have lr := h.lr
  rw [if_pos hc] at lr
  have hne : ¬ rate = -1 := by omega
  have lwn := h.lw
  have lbn := h.lb
  refine ⟨⟨h.sv.n0, h.sv.n1, .inr ⟨h0, h1, hn⟩, h.sv.o⟩, h.b0, h.k0, h.p0, h.kp, h.o0, ?_, h.lw, ?_, fun x hx => ?_, fun k hk => ?_, fun _ => ⟨rs, bs, beat, rfl, rfl, h.b0, Int.le_refl _, ?_⟩⟩
  · rw [List.length_append, List.length_append, h.lb]
    rfl
  · show ((rs ++ [rate]).length : Int) = if rate = -1 then s.n else s.n + 1
    rw [if_neg hne, List.length_append, List.length_singleton]
    omega
  · rcases List.mem_append.mp hx with hx | hx
    · exact h.rr x hx
    · rw [List.mem_singleton.mp hx]
      exact ⟨h0, h1⟩
  · rw [getD_app (by omega), getD_app (by omega)]
    exact h.fo k hk
  · show GOk f wait beat beat (0 - wait) (szAt rows s.n rate)
    by_cases z : wait = 0
    · have := szAt_ok ok h.sv.n0 hn h0 h1
      exact .inr ⟨0, by omega, by rw [z]; rfl, by omega⟩
    · exact .inl ⟨by omega, by omega⟩
theorem playF_k (h0 : 0 ≤ s.k) (h1 : 0 ≤ s.p) : (playF lens b g most s).1 + (playF lens b g most s).2.1 = s.k + s.p ∧ 0 ≤ (playF lens b g most s).1 ∧ s.p ≤ (playF lens b g most s).2.1 := by
  unfold playF
  split
  · exact ⟨rfl, h0, Int.le_refl _⟩
  · split
    · exact ⟨rfl, h0, Int.le_refl _⟩
    · refine ⟨?_, ?_, ?_⟩
      · show s.k - 1 + (s.p + 1) = s.k + s.p
        omega
      · show 0 ≤ s.k - 1
        omega
      · show s.p ≤ s.p + 1
        omega
theorem playF_oc (ho : s.o = 0 ∨ s.o = 1 ∨ s.o = 2) : (playF lens b g most s).2.2 = 0 ∨ (playF lens b g most s).2.2 = 1 ∨ (playF lens b g most s).2.2 = 2 := by
  unfold playF
  split
  · exact ho
  · split
    · exact .inr (.inr rfl)
    · exact .inr (.inl rfl)
theorem playF_o0 (hop : s.o = 0 → s.p = 0) (h : (playF lens b g most s).2.2 = 0) : (playF lens b g most s).2.1 = 0 := by
  unfold playF at h ⊢
  split at h
  · rename_i c
    rw [if_pos c]
    exact hop h
  · split at h
    · cases h
    · cases h
/-- a beat -/
theorem RI.step (ok : TkOk lens rows r) (h : RI lens rows r f wait s beat rs bs ws) (hf : ∀ t, 0 ≤ f t) (hw : 0 ≤ wait) :
    RI lens rows r f wait (beatF lens rows b g most (f beat) s) (beat + 1) rs bs (if s.n < (beatF lens rows b g most (f beat) s).n then ws ++ [beat + 1] else ws) := by
  have pk := playF_k (lens := lens) (b := b) (g := g) (most := most) h.k0 h.p0
  have po := playF_oc (lens := lens) (b := b) (g := g) (most := most) h.sv.o
  have p00 := playF_o0 (lens := lens) (b := b) (g := g) (most := most) h.o0
  have hkp := h.kp
  have hp0 := h.p0
  have hb0 := h.b0
  by_cases c1 : s.c = -1
  · have e := beatF_1 (lens := lens) (rows := rows) (b := b) (g := g) (most := most) (spd := f beat) c1
    rw [e, if_neg (Int.lt_irrefl _)]
    exact ⟨⟨h.sv.n0, h.sv.n1, .inl c1, po⟩, by omega, pk.2.1, by have := pk.2.2; show 0 ≤ (playF lens b g most s).2.1; omega, by rw [← hkp]; exact pk.1, p00, h.lb, h.lw, h.lr, h.rr, h.fo, fun z => absurd c1 z⟩
  · obtain ⟨rs', bs', b0, e1, e2, hb1, hb2, hg⟩ := h.go c1
    have hc := h.sv.c.resolve_left c1
    have hsz := szAt_ok ok h.sv.n0 hc.2.2 hc.1 hc.2.1
    by_cases c2 : s.g + (if s.g < 0 then 1 else f beat) < szAt rows s.n s.c
    · have e := beatF_2 (lens := lens) (rows := rows) (b := b) (g := g) (most := most) (spd := f beat) c1 c2
      rw [e, if_neg (Int.lt_irrefl _)]
      refine ⟨⟨h.sv.n0, h.sv.n1, .inr hc, po⟩, by omega, pk.2.1, by have := pk.2.2; show 0 ≤ (playF lens b g most s).2.1; omega, by rw [← hkp]; exact pk.1, p00, h.lb, h.lw, h.lr, h.rr, h.fo, fun _ => ⟨rs', bs', b0, e1, e2, hb1, by omega, ?_⟩⟩
      show GOk f wait b0 (beat + 1) (s.g + (if s.g < 0 then 1 else f beat)) (szAt rows s.n s.c)
      rcases hg with ⟨g1, g2⟩ | ⟨n, g1, g2, g3⟩
      · rw [if_pos g1] at c2 ⊢
        by_cases z : s.g + 1 < 0
        · exact .inl ⟨z, by omega⟩
        · exact .inr ⟨0, by omega, by show s.g + 1 = 0; omega, c2⟩
      · have gn : ¬ s.g < 0 := by
          have := bits_nn hf (b0 + wait) n
          omega
        rw [if_neg gn] at c2 ⊢
        refine .inr ⟨n + 1, by omega, ?_, c2⟩
        show s.g + f beat = bits f (b0 + wait) n + f (b0 + wait + (n : Int))
        rw [← g1, ← g2]
    · have e := beatF_3 (lens := lens) (rows := rows) (b := b) (g := g) (most := most) (spd := f beat) c1 c2
      rw [e, if_pos (by show s.n < s.n + 1; omega)]
      have hn0 := h.sv.n0
      have hk : s.n.toNat < lens.length := by omega
      have lwn := h.lw
      have lbn := h.lb
      have lr := h.lr
      rw [if_neg c1] at lr
      refine ⟨⟨by show 0 ≤ s.n + 1; omega, by show s.n + 1 ≤ _; omega, .inl rfl, po⟩, by omega, ?_, by have := pk.2.2; show 0 ≤ (playF lens b g most s).2.1; omega, ?_, p00, h.lb, ?_, ?_, h.rr, fun k hk' => ?_, fun z => absurd rfl z⟩
      · have := (ok.lo _ (lenAt_ok ok h.sv.n0 hc.2.2)).1
        have := pk.2.1
        show 0 ≤ (playF lens b g most s).1 + lenAt lens s.n
        omega
      · show (playF lens b g most s).1 + lenAt lens s.n + (playF lens b g most s).2.1 = (lens.take (s.n + 1).toNat).sum
        have et : (s.n + 1).toNat = s.n.toNat + 1 := by omega
        rw [et, sum_take_succ hk, ← hkp]
        have := pk.1
        show (playF lens b g most s).1 + lens.getD s.n.toNat 0 + (playF lens b g most s).2.1 = _
        omega
      · show ((ws ++ [beat + 1]).length : Int) = s.n + 1
        rw [List.length_append, List.length_singleton]
        omega
      · show (rs.length : Int) = if (-1 : Int) = -1 then s.n + 1 else _
        rw [if_pos rfl]
        exact lr
      · rw [List.length_append, List.length_singleton] at hk'
        by_cases z : k < ws.length
        · rw [getD_app z]
          exact h.fo k z
        · have ek : k = ws.length := by omega
          have er : rs'.length = k := by
            rw [e1, List.length_append, List.length_singleton] at lr
            omega
          have eb : bs'.length = k := by
            rw [e1, e2, List.length_append, List.length_append] at lbn
            simp at lbn
            omega
          have r1 : rs.getD k 0 = s.c := by rw [e1, ← er]; exact getD_last
          have r2 : bs.getD k 0 = b0 := by rw [e2, ← eb]; exact getD_last
          have r3 : (ws ++ [beat + 1]).getD k 0 = beat + 1 := by rw [ek]; exact getD_last
          rw [r1, r2, r3]
          have ekn : (k : Int) = s.n := by omega
          refine ⟨hb1, ?_⟩
          rcases hg with ⟨g1, g2⟩ | ⟨n, g1, g2, g3⟩
          · rw [if_pos g1] at c2
            omega
          · have gn : ¬ s.g < 0 := by
              have := bits_nn hf (b0 + wait) n
              omega
            rw [if_neg gn] at c2
            refine ⟨n, by omega, by rw [ekn, ← g2]; exact g3, ?_⟩
            show _ ≤ bits f (b0 + wait) n + f (b0 + wait + (n : Int))
            rw [ekn, ← g1, ← g2]
            omega
/-- no stall while nothing was played -/
theorem stall_ok (ok : TkOk lens rows r) (h : RI lens rows r f wait s beat rs bs ws) (hb : 1 ≤ b) (hm : ∀ n ∈ lens, n ≤ most) (z : (playF lens b g most s).2.2 = 2) : s.o = 1 ∨ s.o = 2 := by
  rcases h.sv.o with o | o | o
  · exfalso
    have hp := h.o0 o
    have hk := h.kp
    have hn0 := h.sv.n0
    have hn1 := h.sv.n1
    unfold playF at z
    split at z
    · have z : s.o = 2 := z
      omega
    · rename_i c
      split at z
      · rename_i ck
        refine c ⟨by omega, ?_⟩
        have tp := sum_take_pos (fun n hn => (ok.lo n hn).1) s.n.toNat (by omega)
        have en : s.n = 0 := by omega
        have hpos := ok.pos
        have hl := hm _ (lenAt_ok ok hn0 (by omega))
        unfold begB roomB
        rw [if_pos o, decide_eq_false (by omega), decide_eq_false (by omega), decide_eq_true (show s.n < (lens.length : Int) by omega), decide_eq_true (show s.k + lenAt lens s.n ≤ most by omega)]
        simp
      · cases z
  · exact .inl o
  · exact .inr o
/-- what is left: it falls with each beat -/
def muI (lens : List Int) (B W : Int) (s : Stn) (beat : Int) : Int := max 0 (B - beat) + ((lens.length : Int) - s.n) * W + (if s.c = -1 then W - 1 else 1000 - s.g) + (lens.sum - s.p)
theorem take_le (ok : TkOk lens rows r) (k : Nat) : (lens.take k).sum ≤ lens.sum := by
  have e := List.take_append_drop k lens
  have e2 : (lens.take k).sum + (lens.drop k).sum = lens.sum := by rw [← List.sum_append, e]
  have := (sum_ints_le (l := lens.drop k) fun n hn => ok.lo n (List.mem_of_mem_drop hn)).1
  omega
theorem GOk.ge {b0 size : Int} (hf : ∀ t, 0 ≤ f t) (hw : 0 ≤ wait) (hb : b0 ≤ beat) (h : GOk f wait b0 beat s.g size) : -wait ≤ s.g ∧ (s.g < 0 ∨ s.g < size) := by
  rcases h with ⟨g1, g2⟩ | ⟨n, g1, g2, g3⟩
  · exact ⟨by omega, .inl g1⟩
  · have := bits_nn hf (b0 + wait) n
    exact ⟨by omega, .inr g3⟩
theorem muI_nn (ok : TkOk lens rows r) (h : RI lens rows r f wait s beat rs bs ws) (hf : ∀ t, 0 ≤ f t) (hw : 0 ≤ wait) {B : Int} : 0 ≤ muI lens B (1002 + wait) s beat := by
  unfold muI
  have h1 : 0 ≤ ((lens.length : Int) - s.n) * (1002 + wait) := Int.mul_nonneg (by have := h.sv.n1; omega) (by omega)
  have h2 := take_le ok s.n.toNat
  have h3 := h.kp
  have h4 := h.k0
  have h5 : 0 ≤ (if s.c = -1 then 1002 + wait - 1 else 1000 - s.g) := by
    split
    · omega
    · rename_i c
      obtain ⟨_, _, b0, _, _, _, hb, hg⟩ := h.go c
      have hc := h.sv.c.resolve_left c
      have := szAt_ok ok h.sv.n0 hc.2.2 hc.1 hc.2.1
      have := (GOk.ge hf hw hb hg).2
      omega
  omega
/-- one turn without a choice -/
theorem muI_step (ok : TkOk lens rows r) (h : RI lens rows r f wait s beat rs bs ws) (hf : ∀ t, 0 ≤ f t) (hw : 0 ≤ wait) {B : Int} (hB : ∀ t, B ≤ t → 1 ≤ f t) (hm : ∀ n ∈ lens, n ≤ most) (hend : s.p ≠ lens.sum) (hna : asksB lens most s = false) :
    muI lens B (1002 + wait) (beatF lens rows b g most (f beat) s) (beat + 1) < muI lens B (1002 + wait) s beat := by
  have pk := playF_k (lens := lens) (b := b) (g := g) (most := most) h.k0 h.p0
  have hkp := h.kp
  have hk0 := h.k0
  by_cases c1 : s.c = -1
  · rw [beatF_1 c1]
    unfold muI
    dsimp only
    rw [if_pos c1]
    have room : roomB lens most s = false := by
      unfold asksB at hna
      rw [decide_eq_true c1, Bool.true_and] at hna
      exact hna
    have hp : s.k ≠ 0 := fun z => by
      by_cases hn : s.n < (lens.length : Int)
      · have hl := hm _ (lenAt_ok ok h.sv.n0 hn)
        unfold roomB at room
        rw [decide_eq_true hn, decide_eq_true (show s.k + lenAt lens s.n ≤ most by omega)] at room
        cases room
      · have en : s.n.toNat = lens.length := by have := h.sv.n1; omega
        rw [en, List.take_length] at hkp
        omega
    have e : (playF lens b g most s).2.1 = s.p + 1 := by
      have hbg : begB lens b g most s = true := by
        unfold begB
        rw [decide_eq_true c1, room]
        simp
      unfold playF
      rw [if_neg (fun z => by rw [hbg] at z; exact Bool.noConfusion z.2), if_neg hp]
    rw [e]
    omega
  · obtain ⟨_, _, b0, _, _, hb1, hb2, hg⟩ := h.go c1
    have hc := h.sv.c.resolve_left c1
    have hsz := szAt_ok ok h.sv.n0 hc.2.2 hc.1 hc.2.1
    have hge := GOk.ge hf hw hb2 hg
    by_cases c2 : s.g + (if s.g < 0 then 1 else f beat) < szAt rows s.n s.c
    · rw [beatF_2 c1 c2]
      unfold muI
      dsimp only
      rw [if_neg c1, if_neg c1]
      by_cases g1 : s.g < 0
      · rw [if_pos g1]
        omega
      · rw [if_neg g1]
        by_cases z : B ≤ beat
        · have := hB beat z
          omega
        · have := hf beat
          omega
    · rw [beatF_3 c1 c2]
      unfold muI
      dsimp only
      rw [if_neg c1, if_pos rfl]
      have em : ((lens.length : Int) - (s.n + 1)) * (1002 + wait) = ((lens.length : Int) - s.n) * (1002 + wait) - (1002 + wait) := by
        have : (lens.length : Int) - (s.n + 1) = (lens.length : Int) - s.n - 1 := by omega
        rw [this, Int.sub_mul ((lens.length : Int) - s.n) 1, Int.one_mul]
      rw [em]
      omega
/-- one turn with a choice -/
theorem muI_choose (ok : TkOk lens rows r) (h : RI lens rows r f wait s beat rs bs ws) (hf : ∀ t, 0 ≤ f t) (hw : 0 ≤ wait) {B : Int} (ha : asksB lens most s = true) {rate : Int} (h0 : 0 ≤ rate) (h1 : rate < (r : Int)) :
    muI lens B (1002 + wait) (beatF lens rows b g most (f beat) ⟨s.n, rate, 0 - wait, s.k, s.p, s.o⟩) (beat + 1) < muI lens B (1002 + wait) s beat := by
  obtain ⟨hc, hn⟩ := asks_n ha
  have h' := h.choose ok ha h0 h1 hw
  have pk := playF_k (lens := lens) (b := b) (g := g) (most := most) h'.k0 h'.p0
  have hne : (⟨s.n, rate, 0 - wait, s.k, s.p, s.o⟩ : Stn).c ≠ -1 := by show rate ≠ -1; omega
  have hsz := szAt_ok ok h.sv.n0 hn h0 h1
  have hfb := hf beat
  by_cases c2 : (⟨s.n, rate, 0 - wait, s.k, s.p, s.o⟩ : Stn).g + (if (⟨s.n, rate, 0 - wait, s.k, s.p, s.o⟩ : Stn).g < 0 then 1 else f beat) < szAt rows s.n rate
  · rw [beatF_2 hne c2]
    unfold muI
    dsimp only at pk ⊢
    rw [if_neg (show ¬ rate = -1 by omega), if_pos hc]
    split <;> omega
  · rw [beatF_3 hne c2]
    unfold muI
    dsimp only at pk ⊢
    rw [if_pos rfl, if_pos hc]
    have em : ((lens.length : Int) - (s.n + 1)) * (1002 + wait) = ((lens.length : Int) - s.n) * (1002 + wait) - (1002 + wait) := by
      have : (lens.length : Int) - (s.n + 1) = (lens.length : Int) - s.n - 1 := by omega
      rw [this, Int.sub_mul ((lens.length : Int) - s.n) 1, Int.one_mul]
    rw [em]
    omega
/-- at the end all is fetched -/
theorem RI.done (ok : TkOk lens rows r) (h : RI lens rows r f wait s beat rs bs ws) (he : s.p = lens.sum) : rs.length = lens.length ∧ bs.length = lens.length ∧ ws.length = lens.length := by
  have hkp := h.kp
  have hk0 := h.k0
  have hn0 := h.sv.n0
  have hn1 := h.sv.n1
  have hn : s.n.toNat = lens.length := by
    by_cases c : s.n.toNat < lens.length
    · have := sum_take_lt (fun n hn => (ok.lo n hn).1) c
      omega
    · omega
  have hc : s.c = -1 := by
    rcases h.sv.c with c | c
    · exact c
    · omega
  have lr := h.lr
  rw [if_pos hc] at lr
  have lw := h.lw
  have lb := h.lb
  omega
end
end Rp
/- RpW4 -/
set_option maxHeartbeats 4000000
/-! RpW4: runs: Run.__init__, run_of. -/
namespace Rp
open PySem PySem.Spec PyProof.Rows L2
def fRn (t : Nat → Addr) (e : Int) : List (Str × V) := [("rates", .ref (t 0)), ("begun", .ref (t 1)), ("whole", .ref (t 2)), ("plays", .ref (t 3)), ("stalls", .ref (t 4)), ("ended", .int e), ("kept", .ref (t 5))]
theorem fRn_0 (t : Nat → Addr) (e : Int) : (fRn t e).lookup ("rates" : Str) = some (.ref (t 0)) := by kernel_rfl
theorem fRn_1 (t : Nat → Addr) (e : Int) : (fRn t e).lookup ("begun" : Str) = some (.ref (t 1)) := by kernel_rfl
theorem fRn_2 (t : Nat → Addr) (e : Int) : (fRn t e).lookup ("whole" : Str) = some (.ref (t 2)) := by kernel_rfl
/-- the run at p: its rates, where they were begun, where they were whole -/
def RnAt (K : PySem.W.Frag) (H : Hp) (p : Addr) (rs bs ws : List Int) : Prop := ∃ dx t e, H p = some (.ins (He.ga K "Run") dx (fRn t e)) ∧ H (t 0) = some (.tup (rs.map V.int)) ∧ H (t 1) = some (.tup (bs.map V.int)) ∧ H (t 2) = some (.tup (ws.map V.int))
theorem RnAt.same {K : PySem.W.Frag} {H H' : Hp} {p : Addr} {rs bs ws : List Int} (h : RnAt K H p rs bs ws) (s : Same H H') : RnAt K H' p rs bs ws := let ⟨dx, t, e, h1, h2, h3, h4⟩ := h; ⟨dx, t, e, s _ _ h1, s _ _ h2, s _ _ h3, s _ _ h4⟩
section
variable {P : Program} {w : World} {K : PySem.W.Frag} {mg : Str → Option Value} {base : Heap}
abbrev N_Ri : List Str := ["self", "rates", "begun", "whole", "plays", "stalls", "ended", "kept"]
theorem sc_Rni : FnScope N_Ri N_Ri (defScope s_Run__init_) := ⟨rfl, rfl, rfl, by decide +kernel, rfl, by decide +kernel, by decide +kernel⟩
def spRni (K : PySem.W.Frag) : Sp := fun vs H Q _ => ∃ a dx t e, vs = [.ref a, .ref (t 0), .ref (t 1), .ref (t 2), .ref (t 3), .ref (t 4), .int e, .ref (t 5)] ∧ H a = some (.ins (He.ga K "Run") dx []) ∧ ∀ H', MadeAt H H' a (He.ga K "Run") dx (fRn t e) → Q .non H'
theorem ok_Rni (T : Tx K mg) : Okd P w K mg base 1 (He.fAd K ("Run", some "__init__")) N_Ri (spRni K) := by
  obtain ⟨fd, F⟩ := F_Run__init_ T
  refine ⟨fd, okF F sc_Rni (fun vs H Q E h => ?_) (fun cdv A outer s H vs Q E hr h => ?_), F.kp, FunD.bindsN F fun _ _ _ _ _ _ us hl => match us, hl with | [_, _, _, _, _, _, _, _], _ => rfl⟩
  · obtain ⟨a, dx, t, e, rfl, _⟩ := h
    rfl
  · obtain ⟨a, dx, t, e, rfl, ha, q⟩ := h
    have cl := c_Run T
    refine ⟨_, pss_cons (ps_fld (pv 0) (pv 1) rfl) (pss_cons (ps_fld (pv 0) (pv 2) rfl) (pss_cons (ps_fld (pv 0) (pv 3) rfl) (pss_cons (ps_fld (pv 0) (pv 4) rfl) (pss_cons (ps_fld (pv 0) (pv 5) rfl) (pss_cons (ps_fld (pv 0) (pv 6) rfl) (pss_one (ps_fld (pv 0) (pv 7) rfl))))))), ?_⟩
    have l1 : (putF "rates" (V.ref (t 0)) []).length ≤ 1 := putF_len _ _ _
    have l2 : (putF "begun" (V.ref (t 1)) (putF "rates" (V.ref (t 0)) [])).length ≤ 2 := Nat.le_trans (putF_len _ _ _) (Nat.succ_le_succ l1)
    have l3 : (putF "whole" (V.ref (t 2)) (putF "begun" (V.ref (t 1)) (putF "rates" (V.ref (t 0)) []))).length ≤ 3 := Nat.le_trans (putF_len _ _ _) (Nat.succ_le_succ l2)
    have l4 : (putF "plays" (V.ref (t 3)) (putF "whole" (V.ref (t 2)) (putF "begun" (V.ref (t 1)) (putF "rates" (V.ref (t 0)) [])))).length ≤ 4 := Nat.le_trans (putF_len _ _ _) (Nat.succ_le_succ l3)
    have l5 : (putF "stalls" (V.ref (t 4)) (putF "plays" (V.ref (t 3)) (putF "whole" (V.ref (t 2)) (putF "begun" (V.ref (t 1)) (putF "rates" (V.ref (t 0)) []))))).length ≤ 5 := Nat.le_trans (putF_len _ _ _) (Nat.succ_le_succ l4)
    have l6 : (putF "ended" (V.int e) (putF "stalls" (V.ref (t 4)) (putF "plays" (V.ref (t 3)) (putF "whole" (V.ref (t 2)) (putF "begun" (V.ref (t 1)) (putF "rates" (V.ref (t 0)) [])))))).length ≤ 6 := Nat.le_trans (putF_len _ _ _) (Nat.succ_le_succ l5)
    refine ⟨_, rfl, _, rfl, a, _, dx, _, rfl, ha, cl, n_Run_rates T, (by decide), ?_⟩
    refine ⟨_, rfl, _, rfl, a, _, dx, _, rfl, upd_same, cl, n_Run_begun T, Nat.lt_of_le_of_lt l1 (by decide), ?_⟩
    refine ⟨_, rfl, _, rfl, a, _, dx, _, rfl, upd_same, cl, n_Run_whole T, Nat.lt_of_le_of_lt l2 (by decide), ?_⟩
    refine ⟨_, rfl, _, rfl, a, _, dx, _, rfl, upd_same, cl, n_Run_plays T, Nat.lt_of_le_of_lt l3 (by decide), ?_⟩
    refine ⟨_, rfl, _, rfl, a, _, dx, _, rfl, upd_same, cl, n_Run_stalls T, Nat.lt_of_le_of_lt l4 (by decide), ?_⟩
    refine ⟨_, rfl, _, rfl, a, _, dx, _, rfl, upd_same, cl, n_Run_ended T, Nat.lt_of_le_of_lt l5 (by decide), ?_⟩
    refine ⟨_, rfl, _, rfl, a, _, dx, _, rfl, upd_same, cl, n_Run_kept T, Nat.lt_of_le_of_lt l6 (by decide), ?_⟩
    have ef : putF "kept" (V.ref (t 5)) (putF "ended" (V.int e) (putF "stalls" (V.ref (t 4)) (putF "plays" (V.ref (t 3)) (putF "whole" (V.ref (t 2)) (putF "begun" (V.ref (t 1)) (putF "rates" (V.ref (t 0)) [])))))) = fRn t e := by kernel_rfl
    refine q _ ⟨by rw [← ef]; exact upd_same, fun b hb => by repeat rw [upd_ne hb]⟩
/-! ### run_of -/
abbrev N_ro : List Str := ["talk", "road", "chooser", "begin", "again", "most", "wait", "opens", "walk", "told", "rates", "begun", "whole", "plays", "stalls", "some"]
abbrev P_ro : List Str := ["talk", "road", "chooser", "begin", "again", "most", "wait", "opens"]
theorem sc_ro : FnScope N_ro P_ro (defScope s_run_of) := ⟨rfl, rfl, rfl, by decide +kernel, rfl, by decide +kernel, by decide +kernel⟩
def spRo (P : Program) (w : World) (K : PySem.W.Frag) (mg : Str → Option Value) (base : Heap) : Sp := fun vs H Q _ => ∃ tk road ch t init bl d b g most wait lens rows r, vs = [.ref tk, .ref road, .ref ch, .int b, .int g, .int most, .int wait, .non] ∧ TkAt K H tk lens rows ∧ TkOk lens rows r ∧
  RoadAt K H road (.ref t) ∧ PcsAt H t (init ++ [(bl, d)]) ∧ PcOk (init ++ [(bl, d)]) ∧ 1 ≤ d ∧ ChOk P w K mg base lens.length r H ch ∧ 1 ≤ b ∧ (∀ n ∈ lens, n ≤ most) ∧ 0 ≤ wait ∧
  max 0 ((init ++ [(bl, d)]).map (·.1)).sum + (lens.length : Int) * (1002 + wait) + (1002 + wait) + lens.sum ≤ 100000 ∧
  ∀ p H' rs bs ws, Same H H' → RnAt K H' p rs bs ws → rs.length = lens.length → bs.length = lens.length → ws.length = lens.length → (∀ x ∈ rs, 0 ≤ x ∧ x < (r : Int)) →
    (∀ k : Nat, k < lens.length → FOk rows (spAt d (init ++ [(bl, d)])) wait k (rs.getD k 0) (bs.getD k 0) (ws.getD k 0)) → Q (.ref p) H'
/-- the loop's state -/
structure LoopS (K : PySem.W.Frag) (lens : List Int) (rows : List (List Int)) (r : Nat) (f : Int → Int) (b g most : Int) (tk ch : Addr) (wait : Int) (H H' : Hp) (a : Addr) (x : Wk) (s : Stn) (lc : Nat → List V) (rs bs ws : List Int) : Prop where
  wk : WkH K lens rows b g most H H' a x s lc
  etk : x.tk = tk
  ech : x.ch = ch
  ewt : x.wait = wait
  ri : RI lens rows r f wait s x.beat rs bs ws
  l0 : lc 0 = rs.map V.int
  l1 : lc 1 = bs.map V.int
  l2 : lc 2 = ws.map V.int
  rl : RlOk x.rl
  sl : SlOk K H' x.sl
  stl : StlOk H' (lc 4)
  ne : s.o = 2 → lc 4 ≠ []
theorem LoopS.grow {lens : List Int} {rows : List (List Int)} {r : Nat} {f : Int → Int} {b g most : Int} {tk ch : Addr} {wait : Int} {H H1 H2 : Hp} {a : Addr} {x : Wk} {s : Stn} {lc : Nat → List V} {rs bs ws : List Int} (h : LoopS K lens rows r f b g most tk ch wait H H1 a x s lc rs bs ws) (k : Same H1 H2) :
    LoopS K lens rows r f b g most tk ch wait H H2 a x s lc rs bs ws := ⟨h.wk.grow k, h.etk, h.ech, h.ewt, h.ri, h.l0, h.l1, h.l2, h.rl, h.sl.same k, h.stl.same fun q xs e => k _ _ e, h.ne⟩
def rTupOf (K : PySem.W.Frag) : List V → Hp → VK → Prop := fun xs H Q => ∃ p ys, xs = [.ref p] ∧ ((SqL K H p ys ∧ ∀ l, H l = none → Q (.ref l) (upd H l (.tup ys))) ∨ (SqT K H p ys ∧ Q (.ref p) H))
theorem ok_ro (T : Tx K mg) : ∃ fd, FnOk P w K mg base CX0 11 (He.fAd K ("run_of", none)) fd P_ro (spRo P w K mg base) ∧ PySem.W.keepIn K (.ref (He.fAd K ("run_of", none))) = true ∧
    ∃ mv, KBn K fd P_ro 3 ["begin", "again", "most", "wait"] (fun us ws => us ++ (ws ++ mv)) (fun vs zs => vs ++ (zs ++ [V.non])) := by
  obtain ⟨fd, F⟩ := F_run_of T
  obtain ⟨mv, B1⟩ := FunD.kbinds0 (ps := P_ro) F 3 ["begin", "again", "most", "wait"] [("opens", V.non)] (fun us mv ws => us ++ (ws ++ mv)) (fun z => by cases z) (fun q hq => by
    rw [List.mem_singleton.mp hq]
    exact List.mem_cons_of_mem _ (List.mem_cons_of_mem _ (List.mem_cons_of_mem _ (List.mem_cons_of_mem _ List.mem_cons_self)))) (fun r1 r2 r3 => r1.append (r3.append r2)) fun D doc pm an cdv ct us mv ws hl hm hw => match us, mv, ws, hl, hm, hw with | [_, _, _], [_], [_, _, _, _], _, _, _ => ⟨_, _, _, _, _, _, rfl, rfl, rfl⟩
  obtain ⟨fdw, GW, kbw⟩ := ok_Wi (P := P) (w := w) (base := base) T
  obtain ⟨fde, GE, kpe, be⟩ := ok_We (P := P) (w := w) (base := base) T
  obtain ⟨fdc, GC, kpc, bc⟩ := ok_Wc (P := P) (w := w) (base := base) T
  obtain ⟨fds, GS, kps, bs⟩ := ok_Ws (P := P) (w := w) (base := base) T
  obtain ⟨fdr, GR, kpr, br⟩ := ok_Rs (P := P) (w := w) (mg := mg) (base := base) T
  obtain ⟨fdn, GN, kpn, bn⟩ := ok_Rni (P := P) (w := w) (mg := mg) (base := base) T
  refine ⟨fd, okF F sc_ro (fun vs H Q E h => ?_) (fun cdv A outer s H vs Q E hr h => ?_), F.kp, mv, B1⟩
  · obtain ⟨tk, road, ch, t, init, bl, d, b, g, most, wait, lens, rows, r, rfl, _⟩ := h
    rfl
  · obtain ⟨tk, road, ch, t, init, bl, d, b, g, most, wait, lens, rows, r, rfl, htk, ok, hroad, hpcs, hpok, hd, hch, hb, hm, hw0, hbound, q⟩ := h
    have cl := c_Walk T
    have hf : ∀ u, 0 ≤ spAt d (init ++ [(bl, d)]) u := fun u => spAt_nn (by omega) u fun p hp => (hpok p hp).2.2.1
    have hB : ∀ u, ((init ++ [(bl, d)]).map (·.1)).sum ≤ u → 1 ≤ spAt d (init ++ [(bl, d)]) u := fun u hu => by
      rw [spAt_far hu fun p hp => (hpok p hp).1]
      exact hd
    refine ⟨_, pss_cons (ps_set (i := 8) sc_ro.nd rfl (.inl rfl) (pe_makeK (m_Walk T) GW (hr.mono (by decide)) rfl (g_Walk T) kbw pass0 (pa_cons (pv 0) (pa_cons (pv 2) pa_nil)) (pk_cons (pv 3) (pk_cons (pv 4) (pk_cons (pv 5) (pk_cons (pv 6) (pk_cons (pv 7) pk_nil)))))))
      (pss_cons (ps_while PassesOwn.never (pt_not (pt_val (pe_meth0 (pv 8) cl (t_Walk_is_at_end T) GE (hr.mono (by decide)) be .nil pass0)))
        (pss_cutE
          (ps_expr (pe_meth0 (pv 8) cl (t_Walk_choose_here T) GC hr bc .nil pass0))
          (pss_one (ps_expr (pe_meth (pv 8) cl (t_Walk_step_on T) GS (hr.mono (by decide)) bs .nil pass0 (pa_cons (pe_meth (pv 1) (c_Road T) (t_Road_speed_at T) GR (hr.mono (by decide)) br .nil pass0 (pa_cons (pe_fld (pv 8) rfl) pa_nil)) pa_nil))))))
      (pss_cons (ps_setLc (i := 9) (own := [("some", 15)]) (g := gName 15) (tt := tYes) (te := tCB (rTupOf K) (tCons (tVar 15) tNil)) (by rfl) sc_ro.nd rfl rfl (sw_true rfl rfl rfl (by decide +kernel))
          (pi_tup (pe_tup (pa_cons (pe_fld (pv 8) rfl) (pa_cons (pe_fld (pv 8) rfl) (pa_cons (pe_fld (pv 8) rfl) (pa_cons (pe_fld (pv 8) rfl) (pa_cons (pe_fld (pv 8) rfl) pa_nil))))))) (blkOk_by (own := [("some", 15)]) (N := N_ro) (sc := defScope s_run_of) (by decide +kernel))
          (fun _ _ _ _ _ => pg_name (i := 15) sc_ro.nd rfl (.inl rfl)) (fun _ _ _ _ _ => pts_nil) (fun _ _ _ _ _ => pe_callTy call_tuple_of (by rfl) (f_tuple T) (by decide +kernel) (pa_cons (pv 15) pa_nil)))
      (pss_cons (ps_asg (pv 9) (pg_unl rfl (pgs_cons (pg_name (i := 10) sc_ro.nd rfl (.inl rfl)) (pgs_cons (pg_name (i := 11) sc_ro.nd rfl (.inl rfl)) (pgs_cons (pg_name (i := 12) sc_ro.nd rfl (.inl rfl)) (pgs_cons (pg_name (i := 13) sc_ro.nd rfl (.inl rfl)) (pgs_cons (pg_name (i := 14) sc_ro.nd rfl (.inl rfl)) pgs_nil)))))))
      (pss_one (ps_ret (pe_make (m_Run T) GN (hr.mono (by decide)) rfl (g_Run T) bn .nil pass0 (pa_cons (pv 10) (pa_cons (pv 11) (pa_cons (pv 12) (pa_cons (pv 13) (pa_cons (pv 14) (pa_cons (pe_fld (pv 8) rfl) (pa_cons (pe_callTy call_tuple_of (by rfl) (f_tuple T) (by decide +kernel) (pa_cons (pe_fld (pv 8) rfl) pa_nil)) pa_nil)))))))))))))  , ?_⟩
    refine ⟨_, rfl, _, rfl, _, rfl, _, rfl, _, rfl, _, rfl, _, rfl, rfl, rfl, fun a dx na ndx nex => ?_⟩
    have sm0 : Same H (upd (upd H dx (.own a)) a (.ins (He.ga K "Walk") dx [])) := fun c o e => by rw [upd_ne (ne_of_none e na), upd_ne (ne_of_none e ndx)]; exact e
    refine ⟨H, a, dx, tk, ch, b, g, most, wait, lens, rows, r, rfl, sm0, na, upd_same, htk, ok, hm, fun H1 x0 wk0 e1 e2 e3 e4 e5 e6 => ⟨rfl, ?_⟩⟩
    refine ⟨fun m σ H' => ∃ x s lc rs bs ws, σ = [some (.ref tk), some (.ref road), some (.ref ch), some (.int b), some (.int g), some (.int most), some (.int wait), some .non, some (.ref a), none, none, none, none, none, none, none] ∧
        LoopS K lens rows r (spAt d (init ++ [(bl, d)])) b g most tk ch wait H H' a x s lc rs bs ws ∧ (∀ i, i < 6 → ((lc i).length : Int) ≤ x.beat) ∧ x.beat + muI lens ((init ++ [(bl, d)]).map (·.1)).sum (1002 + wait) s x.beat ≤ 100000 ∧
        (muI lens ((init ++ [(bl, d)]).map (·.1)).sum (1002 + wait) s x.beat).toNat = m, ⟨_, x0, _, _, [], [], [], rfl, ⟨wk0, e1, e2, e3, ?_, rfl, rfl, rfl, .inl e5, .inl e6, fun v hv => (by cases hv), fun z => (by cases z)⟩, fun i _ => by rw [e4]; simp, ?_, rfl⟩, ?_⟩
    · rw [e4]
      exact ⟨⟨Int.le_refl _, by show (0 : Int) ≤ lens.length; omega, .inl rfl, .inl rfl⟩, Int.le_refl _, Int.le_refl _, Int.le_refl _, rfl, fun _ => rfl, rfl, rfl, rfl, (fun x hx => by cases hx), fun k hk => absurd hk (Nat.not_lt_zero _), fun z => absurd rfl z⟩
    · rw [e4]
      unfold muI
      dsimp only
      rw [if_pos rfl]
      have e : ((lens.length : Int) - 0) = (lens.length : Int) := by omega
      rw [e]
      omega
    · rintro m σ H' ⟨x, s, lc, rs, bs, ws, rfl, ls, hlen, hbd, rfl⟩
      obtain ⟨dxw, hw⟩ := ls.wk.w
      have hmu := muI_nn ok ls.ri hf hw0 (B := ((init ++ [(bl, d)]).map (·.1)).sum)
      refine ⟨_, rfl, a, dxw, _, rfl, hw, fW_m1 x, H, a, x, s, lc, lens, rows, r, b, g, most, rfl, ls.wk, ok, fun H2 s2 => ⟨_, rfl, ?_⟩⟩
      have ls2 := ls.grow s2
      have hw2 := s2 _ _ hw
      by_cases he : s.p = lens.sum
      · rw [decide_eq_true he]
        refine iteF ?_
        obtain ⟨d1, d2, d3⟩ := ls.ri.done ok he
        refine ⟨_, rfl, a, _, dxw, _, _, rfl, hw2, cl, n_Walk_rates T, fW_0 x, _, rfl, a, _, dxw, _, _, rfl, hw2, cl, n_Walk_begun T, fW_1 x, _, rfl, a, _, dxw, _, _, rfl, hw2, cl, n_Walk_whole T, fW_2 x, _, rfl, a, _, dxw, _, _, rfl, hw2, cl, n_Walk_plays T, fW_3 x,
          _, rfl, a, _, dxw, _, _, rfl, hw2, cl, n_Walk_stalls T, fW_4 x, (by show 5 ≤ sizeLine; decide), fun t5 nt5 => ?_⟩
        have s3 := Same.upd (o := .tup [.ref (x.li 0), .ref (x.li 1), .ref (x.li 2), .ref (x.li 3), .ref (x.li 4)]) nt5
        refine ⟨t5, rfl, ⟨_, SqT.of upd_same⟩, fun D nD => ?_⟩
        have exs : ∀ i, i < 5 → [V.ref (x.li 0), .ref (x.li 1), .ref (x.li 2), .ref (x.li 3), .ref (x.li 4)][i]? = some (.ref (x.li i)) := fun i hi => match i, hi with
          | 0, _ => rfl
          | 1, _ => rfl
          | 2, _ => rfl
          | 3, _ => rfl
          | 4, _ => rfl
        refine lc_map (walk_tup (K := K) (a := t5) (xs := [.ref (x.li 0), .ref (x.li 1), .ref (x.li 2), .ref (x.li 3), .ref (x.li 4)])) (fun i y G => ∃ q, y = .ref q ∧ G q = some (.tup (lc i))) (fun i y G G' k ⟨q, e, z⟩ => ⟨q, e, k _ _ z fun xs z => nomatch z⟩) nD (fun G s4 => SqT.of (s4 _ _ upd_same)) (by show 5 < sizeLine; decide)
          (fun i y G G' hi s4 hy Kq hq => ?_) fun acc G s4 hl hacc hD => ?_
        · obtain ⟨rfl, hy⟩ := hy
          have hi5 : i < 5 := hi
          rw [exs i hi5] at hy
          cases hy
          have hli := s4 _ _ (s3 _ _ (ls2.wk.ls i (by omega)))
          exact ⟨rfl, _, rfl, x.li i, lc i, rfl, .inl ⟨SqL.of hli, fun l nl => hq _ _ (Same.upd nl) ⟨l, rfl, upd_same⟩⟩⟩
        · match acc, hl with
          | [y0, y1, y2, y3, y4], _ =>
            obtain ⟨q0, rfl, h0⟩ := hacc 0 y0 rfl
            obtain ⟨q1, rfl, h1⟩ := hacc 1 y1 rfl
            obtain ⟨q2, rfl, h2⟩ := hacc 2 y2 rfl
            obtain ⟨q3, rfl, h3⟩ := hacc 3 y3 rfl
            obtain ⟨q4, rfl, h4⟩ := hacc 4 y4 rfl
            have s5 := s2.trans (s3.trans s4)
            have hw5 := s4 _ _ (s3 _ _ hw2)
            refine ⟨_, rfl, D, _, rfl, SqL.of hD, rfl, _, _, rfl, _, _, rfl, _, _, rfl, _, _, rfl, _, _, rfl, rfl, ?_⟩
            have hl5 := s4 _ _ (s3 _ _ (ls2.wk.ls 5 (by decide)))
            refine ⟨_, rfl, _, rfl, _, rfl, _, rfl, _, rfl, _, rfl, a, _, dxw, _, _, rfl, hw5, cl, n_Walk_beat_here T, fW_beat x, _, rfl, a, _, dxw, _, _, rfl, hw5, cl, n_Walk_kept T, fW_5 x, x.li 5, _, rfl, .inl ⟨SqL.of hl5, fun l6 nl6 => ?_⟩⟩
            have s6 := Same.upd (o := .tup (lc 5)) nl6
            intro y dy ny ndy ney
            refine ⟨y, dy, six q0 q1 q2 q3 q4 l6, x.beat, rfl, upd_same, fun H9 mm => ⟨rfl, ?_⟩⟩
            have s9 := s6.trans (mm.same ny ndy)
            refine q y H9 rs bs ws (ls.wk.same.trans (s5.trans s9)) ⟨dy, six q0 q1 q2 q3 q4 l6, x.beat, mm.1, ?_, ?_, ?_⟩ d1 d2 d3 ls.ri.rr fun k hk => ls.ri.fo k (by omega)
            · show H9 q0 = _
              rw [← ls.l0]
              exact s9 _ _ h0
            · show H9 q1 = _
              rw [← ls.l1]
              exact s9 _ _ h1
            · show H9 q2 = _
              rw [← ls.l2]
              exact s9 _ _ h2
      · rw [decide_eq_false he]
        refine iteT ⟨fun σ' H' => ∃ m', m' < _ ∧ _, fun _ _ h => h, ?_⟩
        refine ⟨fun σ' H3 => σ' = [some (.ref tk), some (.ref road), some (.ref ch), some (.int b), some (.int g), some (.int most), some (.int wait), some .non, some (.ref a), none, none, none, none, none, none, none] ∧ ∃ x1 s1 lc1 rs1 bs1,
          LoopS K lens rows r (spAt d (init ++ [(bl, d)])) b g most tk ch wait H H3 a x1 s1 lc1 rs1 bs1 ws ∧ x1.beat = x.beat ∧ (∀ i, i < 6 → ((lc1 i).length : Int) ≤ x.beat + 1) ∧ (∀ i, 2 ≤ i → i < 6 → ((lc1 i).length : Int) ≤ x.beat) ∧
          muI lens ((init ++ [(bl, d)]).map (·.1)).sum (1002 + wait) (beatF lens rows b g most (spAt d (init ++ [(bl, d)]) x.beat) s1) (x.beat + 1) < muI lens ((init ++ [(bl, d)]).map (·.1)).sum (1002 + wait) s x.beat, ?_, ?_⟩
        · have hbeat : x.beat ≤ 100000 := by omega
          refine ⟨_, rfl, a, dxw, _, rfl, hw2, fW_m3 x, H, a, x, s, lc, lens, rows, r, b, g, most, rfl, ls2.wk, ok, ls.ri.sv.n0, by rw [ls.ech]; exact hch, ls.rl, ls2.sl, by have := hlen 0 (by decide); omega, by have := hlen 1 (by decide); omega, fun ea H3 s3 => ?_, fun ea rate st' H3 r0 r1 sl3 tp3 wk3 => ?_⟩
          · exact ⟨rfl, x, s, lc, rs, bs, ls2.grow s3, rfl, fun i hi => by have := hlen i hi; omega, fun i _ hi => hlen i hi, muI_step ok ls.ri hf hw0 hB hm he ea⟩
          · have ri1 := ls.ri.choose ok ea r0 r1 hw0
            rw [ls.ewt] at wk3
            refine ⟨rfl, _, _, _, rs ++ [rate], bs ++ [x.beat], ⟨wk3, ls.etk, ls.ech, rfl, ri1, ?_, ?_, ls.l2, .inr ⟨rate, rfl⟩, sl3, ls2.stl.same tp3, ls.ne⟩, rfl, fun i hi => ?_, fun i h2 hi => ?_, ?_⟩
            · show lc 0 ++ [V.int rate] = _
              rw [ls.l0, List.map_append]
              rfl
            · show lc 1 ++ [V.int x.beat] = _
              rw [ls.l1, List.map_append]
              rfl
            · by_cases z1 : i = 1
              · rw [z1]
                show ((lc 1 ++ [V.int x.beat]).length : Int) ≤ _
                have := hlen 1 (by decide)
                rw [List.length_append, List.length_singleton]
                omega
              · by_cases z0 : i = 0
                · rw [z0]
                  show ((lc 0 ++ [V.int rate]).length : Int) ≤ _
                  have := hlen 0 (by decide)
                  rw [List.length_append, List.length_singleton]
                  omega
                · have e : setL (setL lc 0 (lc 0 ++ [V.int rate])) 1 (lc 1 ++ [V.int x.beat]) i = lc i := (if_neg z1).trans (if_neg z0)
                  rw [e]
                  have := hlen i hi
                  omega
            · have e : setL (setL lc 0 (lc 0 ++ [V.int rate])) 1 (lc 1 ++ [V.int x.beat]) i = lc i := (if_neg (by omega)).trans (if_neg (by omega))
              rw [e]
              exact hlen i hi
            · exact muI_choose ok ls.ri hf hw0 ea r0 r1
        · rintro σ' H3 ⟨rfl, x1, s1, lc1, rs1, bs1, l1, eb, hl6, hl2, hmu1⟩
          obtain ⟨dx1, hw1⟩ := l1.wk.w
          obtain ⟨dxr, hrd⟩ := hroad.same l1.wk.same
          have ri2 := l1.ri.step (b := b) (g := g) (most := most) ok hf hw0
          rw [eb] at ri2
          have hmu2 := muI_nn ok ri2 hf hw0 (B := ((init ++ [(bl, d)]).map (·.1)).sum)
          have hbeat : x.beat + 1 ≤ 100000 := by omega
          refine ⟨_, rfl, a, dx1, _, rfl, hw1, fW_m4 x1, _, rfl, road, dxr, _, rfl, hrd, fR_no _ (by decide +kernel), _, rfl, a, _, dx1, _, _, rfl, hw1, cl, n_Walk_beat_here T, fW_beat x1, road, t, init, bl, d, x1.beat, rfl, ⟨dxr, hrd⟩, hpcs.same l1.wk.same, ?_⟩
          rw [eb]
          refine ⟨H, a, x1, s1, lc1, lens, rows, r, b, g, most, _, rfl, l1.wk, ok, l1.ri.sv, l1.sl, l1.stl, l1.ne, fun z => stall_ok ok l1.ri hb hm (by rw [← z, beatF_o]), fun i hi => ?_, fun hc => ?_, l1.ri.b0, by rw [eb]; omega, fun st' sl' lc' H4 wk4 sl4 stl4 ne4 e0 e1 e2 l4 => ?_⟩
          · have := hl6 i hi
            omega
          · obtain ⟨rs', bs', b0, _, f2, f3, f4, _⟩ := l1.ri.go hc
            refine ⟨bs'.map V.int, b0, ?_, f3, f4⟩
            rw [l1.l1, f2, List.map_append]
            rfl
          · refine ⟨_, ?_, _, _, lc', rs1, bs1, (if s1.n < (beatF lens rows b g most (spAt d (init ++ [(bl, d)]) x.beat) s1).n then ws ++ [x.beat + 1] else ws), rfl, ⟨wk4, l1.etk, l1.ech, l1.ewt, ?_, by rw [e0]; exact l1.l0, by rw [e1]; exact l1.l1, ?_, l1.rl, sl4, stl4, ne4⟩, fun i hi => ?_, ?_, rfl⟩
            · show (muI _ _ _ _ (x1.beat + 1)).toNat < _
              rw [eb]
              omega
            · show RI _ _ _ _ _ _ (x1.beat + 1) _ _ _
              rw [eb]
              exact ri2
            · rw [e2, l1.l2, eb]
              split
              · rw [List.map_append]
                rfl
              · rfl
            · show ((lc' i).length : Int) ≤ x1.beat + 1
              rw [eb]
              by_cases z : 2 ≤ i
              · have := l4 i hi
                have := hl2 i z hi
                omega
              · by_cases z0 : i = 0
                · rw [z0, e0]
                  exact hl6 0 (by decide)
                · have z1 : i = 1 := by omega
                  rw [z1, e1]
                  exact hl6 1 (by decide)
            · show x1.beat + 1 + muI _ _ _ _ (x1.beat + 1) ≤ 100000
              rw [eb]
              omega
end
end Rp
/- RpL1 -/
set_option maxHeartbeats 4000000
/-! RpL1: the rules: by_store, by_speed, calm. -/
namespace Rp
open PySem PySem.Spec PyProof.Rows L2 LamX NdefX
/-- the tables of the four makers, with what they tell -/
def T4 (K : PySem.W.Frag) : List (Addr × Str) := [((He.cT K ("by_store", none)).2, (("by_store" : Str) ++ ".<locals>.") ++ "rule"), ((He.cT K ("by_speed", none)).2, (("by_speed" : Str) ++ ".<locals>.") ++ "rule"),
  ((He.cT K ("calm", none)).2, (("calm" : Str) ++ ".<locals>.") ++ "calmed"), ((He.cT K ("_law_rule", none)).2, (("_law_rule" : Str) ++ ".<locals>.") ++ "<lambda>")]
def TbOk (K : PySem.W.Frag) (mg : Str → Option Value) (base : Heap) : Prop := ∀ p ∈ tf, TabB base mg (He.cT K p).1 (He.cT K p).2
theorem uniq_fst {α β : Type} : ∀ {l : List (α × β)}, (l.map (·.1)).Nodup → ∀ p ∈ l, ∀ q ∈ l, p.1 = q.1 → p = q
  | [], _, p, hp, _, _, _ => by cases hp
  | x :: l, nd, p, hp, q, hq, e => by
    obtain ⟨n1, n2⟩ := List.nodup_cons.mp nd
    rcases List.mem_cons.mp hp with e1 | h1 <;> rcases List.mem_cons.mp hq with e2 | h2
    · rw [e1, e2]
    · exact (n1 (List.mem_map.mpr ⟨q, h2, by rw [← e, e1]⟩)).elim
    · exact (n1 (List.mem_map.mpr ⟨p, h1, by rw [e, e2]⟩)).elim
    · exact uniq_fst n2 p h1 q h2 e
theorem uq_T4 {K : PySem.W.Frag} {mg : Str → Option Value} (T : Tx K mg) {q : Addr × Str} (hq : q ∈ T4 K) : ∀ p ∈ T4 K, p.1 = q.1 → p.2 = q.2 := fun p hp e => by
  rw [uniq_fst (l := T4 K) (nd_tabs T) p hp q hq e]
def toN (T : List (Addr × Str)) : List NTab := T.map fun p => (p.1, fun _ _ => p.2)
theorem toN_mem {T : List (Addr × Str)} {q : Addr × Str} (h : q ∈ T) : (q.1, (fun _ _ => q.2 : Nat → Nat → Str)) ∈ toN T := List.mem_map.mpr ⟨q, h, rfl⟩
theorem toN_uq {T : List (Addr × Str)} {q : Addr × Str} (h : ∀ p ∈ T, p.1 = q.1 → p.2 = q.2) : ∀ p ∈ toN T, p.1 = q.1 → p.2 = (fun _ _ => q.2 : Nat → Nat → Str) := fun p hp e => by
  obtain ⟨z, hz, rfl⟩ := List.mem_map.mp hp
  exact funext fun _ => funext fun _ => h z hz e
theorem toN_of {T : List (Addr × Str)} {H : Hp} (h : Tabs T H) : TabsN (toN T) H := fun p hp => by
  obtain ⟨z, hz, rfl⟩ := List.mem_map.mp hp
  exact h z hz
theorem toN_to {T : List (Addr × Str)} {H : Hp} (h : TabsN (toN T) H) : Tabs T H := fun p hp => h _ (toN_mem hp)
/-- what may change meanwhile: lists and dicts alone -/
def ExOk (ex : Addr → Prop) (H : Hp) : Prop := ∀ b, ex b → (∃ xs, H b = some (.lst xs)) ∨ ∃ kvs, H b = some (.dK kvs)
theorem ExOk.not {ex : Addr → Prop} {H H1 : Hp} {b : Addr} {o : HO} (h : ExOk ex H) (e : ExtN H H1) (hb : H1 b = some o) (n1 : ∀ xs, o ≠ .lst xs) (n2 : ∀ kvs, o ≠ .dK kvs) : ¬ ex b := fun z => by
  rcases h b z with ⟨xs, q⟩ | ⟨kvs, q⟩
  · rw [e _ _ q fun ps z => nomatch z] at hb
    exact n1 xs (Option.some.inj hb).symm
  · rw [e _ _ q fun ps z => nomatch z] at hb
    exact n2 kvs (Option.some.inj hb).symm
theorem ExOk.ext {ex : Addr → Prop} {H H1 : Hp} {b : Addr} {φ : Heap → Prop} (h : ExOk ex H) (e : ExtN H H1) (hb : H1 b = some (.ext φ)) : ¬ ex b := h.not e hb (fun xs z => nomatch z) fun kvs z => nomatch z
theorem ExOk.tup {ex : Addr → Prop} {H H1 : Hp} {b : Addr} {xs : List V} (h : ExOk ex H) (e : ExtN H H1) (hb : H1 b = some (.tup xs)) : ¬ ex b := h.not e hb (fun xs z => nomatch z) fun kvs z => nomatch z
theorem ExOk.ins {ex : Addr → Prop} {H H1 : Hp} {b C dx : Addr} {fs : List (Str × V)} (h : ExOk ex H) (e : ExtN H H1) (hb : H1 b = some (.ins C dx fs)) : ¬ ex b := h.not e hb (fun xs z => nomatch z) fun kvs z => nomatch z
theorem KeepX.stays {ex : Addr → Prop} {H H3 H0 : Hp} (h : ExOk ex H) (e : ExtN H H3) {cl : List (Str × Addr)} {fr : List Str} {as : List Addr} (C : CPub cl fr as H3) (k : ∀ b o, H3 b = some o → ¬ ex b → (∀ ps, o ≠ .tbl ps) → (∀ y, cl.lookup y ≠ some b) → H0 b = some o) {b : Addr} {o : HO} (hb : H3 b = some o)
    (n1 : ∀ xs, o ≠ .lst xs) (n2 : ∀ kvs, o ≠ .dK kvs) (n3 : ∀ ps, o ≠ .tbl ps) (n4 : ∀ φ, o ≠ .ext φ) : H0 b = some o := k b o hb (h.not e hb n1 n2) n3 fun y z => by
  obtain ⟨a, q⟩ := C.all y b z
  rw [hb] at q
  exact n4 _ (Option.some.inj q)
/-- the code object of the maker -/
theorem code_at {K : PySem.W.Frag} {x qual : Str} {params : Arguments} {body : List Stmt} {scope : Scope} {dvs : List V} {kws : List (Str × V)} {p : Str × Option Str} {fd : FuncData} (F : FunD K x qual params body scope dvs kws (He.fAd K p) fd) {cdv : Value} (hcd : PySem.W.codeIn K cdv qual = true) (e : fd.code = cdv) : cdv = .ref (He.cT K p).1 := by
  obtain ⟨oc, od, dV, kV, doc, pm, an, cdv', ct, osl, ef, lk, _, _, _⟩ := F.ex
  obtain ⟨c, ec⟩ := He.codeIn_ref hcd
  have := He.codeOf_eq lk (c := c) (e.trans ec)
  rw [ec]
  show Value.ref c = .ref (He.codeOf K p)
  rw [this]
section
variable {P : Program} {w : World} {K : PySem.W.Frag} {mg : Str → Option Value} {base : Heap}
/-! ### by_store -/
abbrev s_rule1 : Stmt := (defBody s_by_store).getD 0 (.Pass ⟨0, 0, 0, 0⟩)
theorem sc_bs : FnScope ["steps", "rule"] ["steps"] (defScope s_by_store) := ⟨rfl, rfl, rfl, by decide +kernel, rfl, by decide +kernel, by decide +kernel⟩
abbrev N_r1 : List Str := ["seen", "steps", "step"]
theorem sc_r1 : CScope N_r1 "seen" ["steps"] (C8.fnScope s_rule1) := cscope_by (by decide +kernel)
theorem fr_r1 : ∀ y ∈ (C8.fnScope s_rule1).names, y.2 = .free → (defScope s_by_store).names.lookup y.1 = some .cell ∨ (defScope s_by_store).names.lookup y.1 = some .free := by decide +kernel
theorem ce_r1 : ∀ y ∈ (["steps"] : List Str), (defScope s_by_store).names.lookup y = some .cell := by decide +kernel
theorem fm_r1 : ∀ y ∈ (["steps"] : List Str), (y, NameKind.free) ∈ (C8.fnScope s_rule1).names := by decide +kernel
theorem fi_r1 : ∀ y ∈ (C8.fnScope s_rule1).names, y.2 = .free → y.1 ∈ (["steps"] : List Str) := by decide +kernel
def spBst (P : Program) (w : World) (K : PySem.W.Frag) (mg : Str → Option Value) (base : Heap) : Sp := fun vs H Q _ => ∃ (ex : Addr → Prop) (a : Addr) (ns : List Int) (m : Nat), vs = [.ref a] ∧ H a = some (.tup (ns.map V.int)) ∧ ns.length ≤ 1000 ∧ Tabs (T4 K) H ∧ ExOk ex H ∧
  ∀ f H', ExtN H H' → Tabs (T4 K) H' → Clo P w K mg base 1 ex H' f (spC (PreSeen K m) PostFlat) → Q (.ref f) H'
theorem ok_bst (T : Tx K mg) (TB : TbOk K mg base) : Okd P w K mg base 1 (He.fAd K ("by_store", none)) ["steps"] (spBst P w K mg base) := by
  obtain ⟨fd, F⟩ := F_by_store T
  refine ⟨fd, fn_pub F sc_bs (fun vs H Q E h => ?_) (fun cdv A outer s H vs Q E hcd ecd hr h => ?_), F.kp, FunD.bindsN F fun _ _ _ _ _ _ us hl => match us, hl with | [_], _ => rfl⟩
  · obtain ⟨ex, a, ns, m, rfl, _⟩ := h
    rfl
  · obtain ⟨ex, a, ns, m, rfl, ha, hns, htb, hex, q⟩ := h
    have hcode := code_at F hcd ecd
    have hmem : ((He.cT K ("by_store", none)).2, (("by_store" : Str) ++ ".<locals>.") ++ "rule") ∈ T4 K := List.mem_cons_self
    refine ⟨_, psr_cons (ps_ndefMS (st := s_rule1) (T := toN (T4 K)) (nm := fun _ _ => (("by_store" : Str) ++ ".<locals>.") ++ "rule") (i := 1) rfl (TB ("by_store", none) (by simp [tf])) hcode (toN_mem hmem) rfl (toN_uq (uq_T4 T hmem)) fr_r1 rfl rfl rfl sc_bs.nd rfl (.inl rfl) (.inl rfl))
      (psr_ret (pv 1)), ?_⟩
    refine ⟨toN_of htb, fun f c' H1 eN _ tN f0 hf hc => ?_⟩
    refine ⟨_, rfl, fun H3 pub => ?_⟩
    have eN3 : ExtN H H3 := eN.trans (ExtN.of pub.up)
    have hf3 := pub.up _ _ hf
    have hc3 := pub.up _ _ hc
    have ha3 : H3 a = some (.tup (ns.map V.int)) := eN3 _ _ ha fun ps z => nomatch z
    have C : CPub (cloFrom _ (C8.fnScope s_rule1).names []) ["steps"] [a] H3 := cpub_of pub (Caps.made (js := [0]) pub.ok fr_r1 fm_r1 rfl) ce_r1 (fun y c e => clo_free fi_r1 e) rfl
    refine q f H3 eN3 ((toN_to tN).ext pub.up) (clo_fn (N := N_r1) (p := "seen") (fr := ["steps"]) preSeen_stable hf3 hc3 C (hex.ext eN3 hf3) (hex.ext eN3 hc3) (fun y c e => ?_) sc_r1 (fun _ _ _ _ => rfl) fun A2 outer2 s2 H0 i v E2 hr2 keep pre => ?_)
    · obtain ⟨z, hz⟩ := C.all y c e
      exact hex.ext eN3 hz
    · have ha0 : H0 a = some (.tup (ns.map V.int)) := KeepX.stays hex eN3 C keep ha3 (fun xs z => nomatch z) (fun xs z => nomatch z) (fun xs z => nomatch z) (fun xs z => nomatch z)
      obtain ⟨sa, rfl, hsa, hn0, hn1, hrl, hsl⟩ := pre
      refine ⟨_, pss_one (ps_ret (pe_callB call_len_seq (by rfl) (f_len T) PySem.boot_len (pa_cons (pe_lc (own := [("step", 2)]) (g := gName 2) (te := tVar 2) (tt := tTest (tOp (rI0 fun i j => .bl (decide (i ≤ j))) (tVar 2) (tOp (rIxT K) (tVar 0) (tC (.int 1))))) (by rfl) sc_r1.nd (pi_tup (pv 1)) (blkOk_by (own := [("step", 2)]) (N := N_r1) (sc := C8.fnScope s_rule1) (by decide +kernel))
        (fun _ _ _ _ _ => pg_name (i := 2) sc_r1.nd rfl (.inl rfl)) (fun _ _ _ _ _ => pts_one (pt_cmpR op_le (pv 2) (pe_ix ix_tup (pv 0) pe_int (fun _ _ => rfl)) (nomark _))) (fun _ _ _ _ _ => pv 2)) pa_nil))), ?_⟩
      refine ⟨_, rfl, a, rfl, ⟨_, SqT.of ha0⟩, fun D nD => ?_⟩
      refine lc_filt (walk_tup (K := K) (a := a) (xs := ns.map V.int)) (fun j => (ns[j]?.map fun u => decide (u ≤ i.k)).getD false) (fun j => (ns.map V.int).getD j .non) nD (fun H2 s2 => SqT.of (s2 _ _ ha0)) (by rw [List.length_map]; exact Nat.lt_of_le_of_lt hns (by decide)) (fun j y H2 H4 hj s3 hy Kq Kn k1 k2 => ?_) fun H2 s3 hD => ?_
      · obtain ⟨rfl, hy⟩ := hy
        have hy2 := hy
        rw [List.getElem?_map] at hy
        cases eu : ns[j]? with
        | none =>
          rw [eu] at hy
          cases hy
        | some u =>
          rw [eu] at hy
          cases hy
          have ec : (ns[j]?.map fun u => decide (u ≤ i.k)).getD false = decide (u ≤ i.k) := by rw [eu] <;> rfl
          have ef : (ns.map V.int).getD j V.non = .int u := by rw [List.getD_eq_getElem?_getD, hy2] <;> rfl
          refine ⟨rfl, _, rfl, _, rfl, sa, _, _, _, rfl, rfl, SqT.of (s3 _ _ hsa), atI_nat (j := 1) rfl, _, _, rfl, rfl, _, rfl, ?_⟩
          cases hcc : decide (u ≤ i.k) with
          | true =>
            refine iteT ⟨_, rfl, ?_⟩
            have q1 := k1 (ec.trans hcc) _ (Same.refl _)
            rw [ef] at q1
            exact q1
          | false => exact iteF (k2 (ec.trans hcc) _ (Same.refl _))
      · exact ⟨D, _, rfl, .inl (SqL.of hD), .int _, s3⟩
end
end Rp
/- RpL2 -/
set_option maxHeartbeats 4000000
/-! RpL2: by_speed, calm. -/
namespace Rp
open PySem PySem.Spec PyProof.Rows L2 LamX NdefX
theorem units64 {k : Nat} {A : Around} (r : Room k A) : A.units + 64 < cLine := by
  have := r.un
  omega
/-- tuples and instances stay -/
def KeepI (H H0 : Hp) : Prop := ∀ b o, H b = some o → (∀ xs, o ≠ .lst xs) → (∀ kvs, o ≠ .dK kvs) → (∀ ps, o ≠ .tbl ps) → (∀ φ, o ≠ .ext φ) → H0 b = some o
theorem KeepI.tup {H H0 : Hp} {b : Addr} {xs : List V} (k : KeepI H H0) (h : H b = some (.tup xs)) : H0 b = some (.tup xs) := k _ _ h (fun xs z => nomatch z) (fun xs z => nomatch z) (fun xs z => nomatch z) (fun xs z => nomatch z)
theorem KeepI.ins {H H0 : Hp} {b C dx : Addr} {fs : List (Str × V)} (k : KeepI H H0) (h : H b = some (.ins C dx fs)) : H0 b = some (.ins C dx fs) := k _ _ h (fun xs z => nomatch z) (fun xs z => nomatch z) (fun xs z => nomatch z) (fun xs z => nomatch z)
theorem TkAt.keepI {K : PySem.W.Frag} {H H0 : Hp} {a : Addr} {lens : List Int} {rows : List (List Int)} (h : TkAt K H a lens rows) (k : KeepI H H0) : TkAt K H0 a lens rows := by
  obtain ⟨dx, l, z, e, hl, zs, hz, r⟩ := h
  exact ⟨dx, l, z, k.ins e, k.tup hl, zs, k.tup hz, r.1, fun i a h => let ⟨q, e, z⟩ := r.2 i a h; ⟨q, e, k.tup z⟩⟩
/-- what by_speed's rule gets to see, and what it tells -/
structure SpI where
  n : Int
  k : Int
  r : V
  p : Option (Int × Int)
def PreSp (K : PySem.W.Frag) (m : Nat) : SpI → V → Hp → Prop := fun i v H => ∃ a y, v = .ref a ∧ H a = some (.tup [.int i.n, .int i.k, i.r, y]) ∧ 0 ≤ i.n ∧ i.n < (m : Int) ∧ ((i.p = none ∧ y = .non) ∨ ∃ b p, i.p = some p ∧ y = .ref b ∧ SpAt K H b p ∧ SpOk p)
theorem preSp_stable {K : PySem.W.Frag} {m : Nat} : Stable (PreSp K m) := fun i v H H0 k ⟨a, y, e, h, h0, h1, hy⟩ =>
  ⟨a, y, e, k _ _ h (fun φ z => nomatch z), h0, h1, hy.imp id fun ⟨b, p, e1, e2, ⟨dx, hb⟩, op⟩ => ⟨b, p, e1, e2, ⟨dx, k _ _ hb (fun φ z => nomatch z)⟩, op⟩⟩
def goodF (row : List Int) (bits beats : Int) : Nat → Bool := fun j => (row[j]?.map fun u => decide (u * beats ≤ bits)).getD false
def goodAt (row : List Int) (bits beats : Int) : List Int := ((List.range row.length).filter (goodF row bits beats)).map Int.ofNat
def PostSp (lens : List Int) (rows : List (List Int)) (p0 p1 : Int) : SpI → V → Prop := fun i v => v = .int (match i.p with
  | none => 0
  | some p => mxD 0 (goodAt (rows.getD i.n.toNat []) (p.1 * p0 * lenAt lens i.n) (p.2 * p1)))
theorem sp_flat {K : PySem.W.Frag} {m : Nat} {lens : List Int} {rows : List (List Int)} {p0 p1 : Int} (vs : List V) (H : Hp) (Q : VK) (E : XK) (h : spC (PreSeen K m) PostFlat vs H Q E) : spC (PreSp K m) (PostSp lens rows p0 p1) vs H Q E := by
  obtain ⟨i, v, e, ⟨a, ev, ha, h0, h1, hr, hy⟩, k⟩ := h
  rcases hy with hy | ⟨b, p, hy, sp, ok⟩
  · exact ⟨⟨i.n, i.k, i.r, none⟩, v, e, ⟨a, i.y, ev, ha, h0, h1, .inl ⟨rfl, hy⟩⟩, fun r H1 hr s => k r H1 (by rw [show r = _ from hr]; exact .int _) s⟩
  · exact ⟨⟨i.n, i.k, i.r, some p⟩, v, e, ⟨a, i.y, ev, ha, h0, h1, .inr ⟨b, p, rfl, hy, sp, ok⟩⟩, fun r H1 hr s => k r H1 (by rw [show r = _ from hr]; exact .int _) s⟩
section
variable {P : Program} {w : World} {K : PySem.W.Frag} {mg : Str → Option Value} {base : Heap}
abbrev s_rule2 : Stmt := (defBody s_by_speed).getD 0 (.Pass ⟨0, 0, 0, 0⟩)
theorem sc_bv : FnScope ["talk", "part", "rule"] ["talk", "part"] (defScope s_by_speed) := ⟨rfl, rfl, rfl, by decide +kernel, rfl, by decide +kernel, by decide +kernel⟩
abbrev N_r2 : List Str := ["seen", "part", "talk", "number", "kept", "rate", "speed", "bits", "beats", "at", "size"]
theorem sc_r2 : CScope N_r2 "seen" ["part", "talk"] (C8.fnScope s_rule2) := cscope_by (by decide +kernel)
theorem fr_r2 : ∀ y ∈ (C8.fnScope s_rule2).names, y.2 = .free → (defScope s_by_speed).names.lookup y.1 = some .cell ∨ (defScope s_by_speed).names.lookup y.1 = some .free := by decide +kernel
theorem ce_r2 : ∀ y ∈ (["part", "talk"] : List Str), (defScope s_by_speed).names.lookup y = some .cell := by decide +kernel
theorem fm_r2 : ∀ y ∈ (["part", "talk"] : List Str), (y, NameKind.free) ∈ (C8.fnScope s_rule2).names := by decide +kernel
theorem fi_r2 : ∀ y ∈ (C8.fnScope s_rule2).names, y.2 = .free → y.1 ∈ (["part", "talk"] : List Str) := by decide +kernel
def spBsp (P : Program) (w : World) (K : PySem.W.Frag) (mg : Str → Option Value) (base : Heap) : Sp := fun vs H Q _ => ∃ (ex : Addr → Prop) (tk pt : Addr) (lens : List Int) (rows : List (List Int)) (r : Nat) (p0 p1 : Int), vs = [.ref tk, .ref pt] ∧ TkAt K H tk lens rows ∧ TkOk lens rows r ∧ H pt = some (.tup [.int p0, .int p1]) ∧
  0 ≤ p0 ∧ p0 ≤ 100 ∧ Tabs (T4 K) H ∧ ExOk ex H ∧ ∀ f H', ExtN H H' → Tabs (T4 K) H' → Clo P w K mg base 1 ex H' f (spC (PreSp K lens.length) (PostSp lens rows p0 p1)) → Q (.ref f) H'
theorem ok_bsp (T : Tx K mg) (TB : TbOk K mg base) : ∃ fd, FnOk P w K mg base CX0 1 (He.fAd K ("by_speed", none)) fd ["talk", "part"] (spBsp P w K mg base) ∧ PySem.W.keepIn K (.ref (He.fAd K ("by_speed", none))) = true ∧
    KBn K fd ["talk", "part"] 1 ["part"] (fun us ws => us ++ ws) (fun vs zs => vs ++ zs) := by
  obtain ⟨fd, F⟩ := F_by_speed T
  obtain ⟨mv, B1⟩ := FunD.kbinds0 (ps := ["talk", "part"]) F 1 ["part"] [] (fun us mv ws => us ++ ws) (fun z => by cases z) (fun q hq => by cases hq) (fun r1 _ r3 => r1.append r3) fun D doc pm an cdv ct us mv ws hl hm hw => match us, mv, ws, hl, hm, hw with | [_], [], [_], _, _, _ => rfl
  refine ⟨fd, fn_pub F sc_bv (fun vs H Q E h => ?_) (fun cdv A outer s H vs Q E hcd ecd hr h => ?_), F.kp, B1⟩
  · obtain ⟨ex, tk, pt, lens, rows, r, p0, p1, rfl, _⟩ := h
    rfl
  · obtain ⟨ex, tk, pt, lens, rows, r, p0, p1, rfl, htk, ok, hpt, hp0, hp1, htb, hex, q⟩ := h
    have hcode := code_at F hcd ecd
    have hmem : ((He.cT K ("by_speed", none)).2, (("by_speed" : Str) ++ ".<locals>.") ++ "rule") ∈ T4 K := List.mem_cons_of_mem _ List.mem_cons_self
    refine ⟨_, psr_cons (ps_ndefMS (st := s_rule2) (T := toN (T4 K)) (nm := fun _ _ => (("by_speed" : Str) ++ ".<locals>.") ++ "rule") (i := 2) rfl (TB ("by_speed", none) (by simp [tf])) hcode (toN_mem hmem) rfl (toN_uq (uq_T4 T hmem)) fr_r2 rfl rfl rfl sc_bv.nd rfl (.inl rfl) (.inl rfl))
      (psr_ret (pv 2)), ?_⟩
    refine ⟨toN_of htb, fun f c' H1 eN _ tN f0 hf hc => ?_⟩
    refine ⟨_, rfl, fun H3 pub => ?_⟩
    have eN3 : ExtN H H3 := eN.trans (ExtN.of pub.up)
    have hf3 := pub.up _ _ hf
    have hc3 := pub.up _ _ hc
    have C : CPub (cloFrom _ (C8.fnScope s_rule2).names []) ["part", "talk"] [pt, tk] H3 := cpub_of pub (Caps.made (js := [1, 0]) pub.ok fr_r2 fm_r2 rfl) ce_r2 (fun y c e => clo_free fi_r2 e) rfl
    refine q f H3 eN3 ((toN_to tN).ext pub.up) (clo_fn (N := N_r2) (p := "seen") (fr := ["part", "talk"]) preSp_stable hf3 hc3 C (hex.ext eN3 hf3) (hex.ext eN3 hc3) (fun y c e => ?_) sc_r2 (fun _ _ _ _ => rfl) fun A2 outer2 s2 H0 i v E2 hr2 keep pre => ?_)
    · obtain ⟨z, hz⟩ := C.all y c e
      exact hex.ext eN3 hz
    · have kI : KeepI H H0 := fun b o e n1 n2 n3 n4 => KeepX.stays hex eN3 C keep (eN3 _ _ e n3) n1 n2 n3 n4
      obtain ⟨dx, l, z, hta, d⟩ := htk.keepI kI
      have hpt0 := kI.tup hpt
      obtain ⟨sa, y, rfl, hsa, hn0, hn1, hy⟩ := pre
      obtain ⟨zs, hz, rz⟩ := d.hz
      have hn : i.n < (rows.length : Int) := by
        rw [← ok.len]
        exact hn1
      obtain ⟨q', e1, hq'⟩ := atI_ref rz [] hn0 hn
      have hk : i.n.toNat < rows.length := by omega
      have hrow : rows.getD i.n.toNat [] ∈ rows := by
        rw [List.getD_eq_getElem?_getD, List.getElem?_eq_getElem hk]
        exact List.getElem_mem hk
      have hlen := ok.lo _ (lenAt_ok ok hn0 hn1)
      refine ⟨_, pss_cons (ps_asg (pv 0) (pg_tup rfl (pgs_cons (pg_name (i := 3) sc_r2.nd rfl (.inl rfl)) (pgs_cons (pg_name (i := 4) sc_r2.nd rfl (.inl rfl)) (pgs_cons (pg_name (i := 5) sc_r2.nd rfl (.inl rfl)) (pgs_cons (pg_name (i := 6) sc_r2.nd rfl (.inl rfl)) pgs_nil))))))
        (pss_cons (ps_if (pt_cmpR op_isN (pv 6) pe_non (nomark _)) (pss_one (ps_ret pe_int)) pss_nil)
        (pss_cons (ps_set (i := 7) sc_r2.nd rfl (.inr rfl) (pe_op op_mul (pe_op op_mul (pe_fld (pv 6) rfl) (pe_ix ix_tup (pv 1) pe_int (fun _ _ => rfl))) (pe_ix ix_tup (pe_fld (pv 2) rfl) (pv 3) (fun _ _ => rfl))))
        (pss_cons (ps_set (i := 8) sc_r2.nd rfl (.inr rfl) (pe_op op_mul (pe_fld (pv 6) rfl) (pe_ix ix_tup (pv 1) pe_int (fun _ _ => rfl))))
        (pss_one (ps_ret (pe_callBK (cr_maxD rfl (units64 hr2)) (by rfl) (f_max T) (by decide +kernel) (pa_cons (pe_lc (own := [("at", 9), ("size", 10)]) (g := gTup K 2 (gCons (gName 9) (gCons (gName 10) gNil))) (te := tVar 9)
            (tt := tTest (tOp (rI0 fun i j => .bl (decide (i ≤ j))) (tOp (rI CMul fun i j => .int (i * j)) (tVar 10) (tVar 8)) (tVar 7))) (by rfl) sc_r2.nd (pi_enumT (by rfl) (f_enumerate T) (pa_cons (pe_ix ix_tup (pe_fld (pv 2) rfl) (pv 3) (fun _ _ => rfl)) pa_nil)) (blkOk_by (own := [("at", 9), ("size", 10)]) (N := N_r2) (sc := C8.fnScope s_rule2) (by decide +kernel))
            (fun _ _ _ _ _ => pg_tup rfl (pgs_cons (pg_name (i := 9) sc_r2.nd rfl (.inl rfl)) (pgs_cons (pg_name (i := 10) sc_r2.nd rfl (.inl rfl)) pgs_nil))) (fun _ _ _ _ _ => pts_one (pt_cmpR op_le (pe_op op_mul (pv 10) (pv 8)) (pv 7) (nomark _))) (fun _ _ _ _ _ => pv 9)) pa_nil) (pk_cons pe_int pk_nil))))))), ?_⟩
      refine ⟨_, rfl, sa, _, rfl, SqT.of hsa, rfl, _, _, rfl, _, _, rfl, _, _, rfl, _, _, rfl, rfl, ?_⟩
      rcases hy with ⟨ep, rfl⟩ | ⟨bb, p, ep, rfl, ⟨dxs, hb⟩, sok⟩
      · refine ⟨_, rfl, rfl, _, rfl, iteT ⟨?_, Same.refl _⟩⟩
        show V.int 0 = _
        rw [ep]
      · obtain ⟨k1, k2, k3, k4⟩ := sok
        refine ⟨_, rfl, rfl, _, rfl, ?_⟩
        have nn : decide (V.ref bb = V.non) = false := decide_eq_false fun z => nomatch z
        rw [nn]
        refine iteF ?_
        refine ⟨_, rfl, bb, _, dxs, _, _, rfl, hb, c_Speed T, n_Speed_bits T, fS_b _ _, _, rfl, pt, _, _, _, rfl, rfl, SqT.of hpt0, atI_nat (j := 0) rfl, _, _, rfl, rfl, .inl (small64 k1 k2),
          _, rfl, tk, _, dx, _, _, rfl, hta, c_Talk T, n_Talk_lengths T, fT_l _ _, _, rfl, l, _, _, _, rfl, rfl, SqT.of d.hl, atI_ints hn0 hn1, _, _, rfl, rfl, .inr (small64 (show 0 ≤ lenAt lens i.n by omega) (show lenAt lens i.n ≤ 1000000 by omega)), ?_⟩
        refine ⟨_, rfl, bb, _, dxs, _, _, rfl, hb, c_Speed T, n_Speed_beats T, fS_n _ _, _, rfl, pt, _, _, _, rfl, rfl, SqT.of hpt0, atI_nat (j := 1) rfl, _, _, rfl, rfl, .inl (small64 (by omega) k4), ?_⟩
        refine ⟨_, rfl, tk, _, dx, _, _, rfl, hta, c_Talk T, n_Talk_sizes T, fT_z _ _, _, rfl, z, _, _, _, rfl, rfl, SqT.of hz, e1, q', _, rfl, SqT.of hq', fun D nD => ?_⟩
        refine lc_filt (walk_enumT (K := K) (a := q') (xs := (rows.getD i.n.toNat []).map V.int)) (goodF (rows.getD i.n.toNat []) (p.1 * p0 * lenAt lens i.n) (p.2 * p1)) (fun j => .int (j : Nat)) nD (fun H2 s2 => SqT.of (s2 _ _ hq')) (by rw [List.length_map, ok.row _ hrow]; exact Nat.lt_of_le_of_lt ok.r2 (by decide))
          (fun j x H2 H4 hj s3 hy Kq Kn k1 k2 => ?_) fun H2 s3 hD => ?_
        · obtain ⟨t, x1, x2, rfl, nt, rfl, e1, e2⟩ := hy
          cases e1
          have e2 : ((rows.getD i.n.toNat []).map V.int)[j]? = some x2 := e2
          rw [List.getElem?_map] at e2
          cases eu : (rows.getD i.n.toNat [])[j]? with
          | none =>
            rw [eu] at e2
            cases e2
          | some u =>
            rw [eu] at e2
            cases e2
            have hsz := ok.sz _ hrow u (List.mem_of_getElem? eu)
            have ec : goodF (rows.getD i.n.toNat []) (p.1 * p0 * lenAt lens i.n) (p.2 * p1) j = decide (u * (p.2 * p1) ≤ p.1 * p0 * lenAt lens i.n) := by
              unfold goodF
              rw [eu]
              rfl
            refine ⟨t, _, rfl, SqT.of upd_same, rfl, _, _, rfl, _, _, rfl, rfl, rfl, ?_⟩
            refine ⟨_, rfl, _, rfl, _, _, rfl, rfl, .inl (small64 (by omega) (by omega)), _, rfl, _, _, rfl, rfl, _, rfl, ?_⟩
            show if decide (u * (p.2 * p1) ≤ p.1 * p0 * lenAt lens i.n) = true then _ else _
            cases hcc : decide (u * (p.2 * p1) ≤ p.1 * p0 * lenAt lens i.n) with
            | true => exact iteT ⟨_, rfl, k1 (ec.trans hcc) _ (Same.upd nt)⟩
            | false => exact iteF (k2 (ec.trans hcc) _ (Same.upd nt))
        · have eg : (((List.range ((rows.getD i.n.toNat []).map V.int).length).filter (goodF (rows.getD i.n.toNat []) (p.1 * p0 * lenAt lens i.n) (p.2 * p1))).map fun j => V.int (j : Nat)) = (goodAt (rows.getD i.n.toNat []) (p.1 * p0 * lenAt lens i.n) (p.2 * p1)).map V.int := by
            unfold goodAt
            rw [List.length_map, List.map_map]
            rfl
          rw [eg] at hD
          refine ⟨D, _, 0, rfl, rfl, SqL.of hD, ?_, s3⟩
          show V.int (mxD 0 _) = _
          rw [ep]
end
end Rp
/- RpL3 -/
set_option maxHeartbeats 4000000
/-! RpL3: calm; the deck: _law_deck, _law_draw, _law_pick. -/
namespace Rp
open PySem PySem.Spec PyProof.Rows L2 LamX NdefX
section
variable {P : Program} {w : World} {K : PySem.W.Frag} {mg : Str → Option Value} {base : Heap}
/-! ### calm -/
abbrev s_rule3 : Stmt := (defBody s_calm).getD 0 (.Pass ⟨0, 0, 0, 0⟩)
theorem sc_cm : FnScope ["rule", "calmed"] ["rule"] (defScope s_calm) := ⟨rfl, rfl, rfl, by decide +kernel, rfl, by decide +kernel, by decide +kernel⟩
abbrev N_r3 : List Str := ["seen", "rule", "told", "number"]
theorem sc_r3 : CScope N_r3 "seen" ["rule"] (C8.fnScope s_rule3) := cscope_by (by decide +kernel)
theorem fr_r3 : ∀ y ∈ (C8.fnScope s_rule3).names, y.2 = .free → (defScope s_calm).names.lookup y.1 = some .cell ∨ (defScope s_calm).names.lookup y.1 = some .free := by decide +kernel
theorem ce_r3 : ∀ y ∈ (["rule"] : List Str), (defScope s_calm).names.lookup y = some .cell := by decide +kernel
theorem fm_r3 : ∀ y ∈ (["rule"] : List Str), (y, NameKind.free) ∈ (C8.fnScope s_rule3).names := by decide +kernel
theorem fi_r3 : ∀ y ∈ (C8.fnScope s_rule3).names, y.2 = .free → y.1 ∈ (["rule"] : List Str) := by decide +kernel
def spCm (P : Program) (w : World) (K : PySem.W.Frag) (mg : Str → Option Value) (base : Heap) : Sp := fun vs H Q _ => ∃ (ex : Addr → Prop) (a : Addr) (m : Nat), vs = [.ref a] ∧ Clo P w K mg base 1 ex H a (spC (PreSeen K m) PostFlat) ∧ Tabs (T4 K) H ∧ ExOk ex H ∧
  ∀ f H', ExtN H H' → Tabs (T4 K) H' → Clo P w K mg base 2 ex H' f (spC (PreSeen K m) PostFlat) → Q (.ref f) H'
theorem ok_cm (T : Tx K mg) (TB : TbOk K mg base) : Okd P w K mg base 1 (He.fAd K ("calm", none)) ["rule"] (spCm P w K mg base) := by
  obtain ⟨fd, F⟩ := F_calm T
  obtain ⟨fdi, GI, kpi, bi⟩ := ok_iw (P := P) (w := w) (base := base) T
  refine ⟨fd, fn_pub F sc_cm (fun vs H Q E h => ?_) (fun cdv A outer s H vs Q E hcd ecd hr h => ?_), F.kp, FunD.bindsN F fun _ _ _ _ _ _ us hl => match us, hl with | [_], _ => rfl⟩
  · obtain ⟨ex, a, m, rfl, _⟩ := h
    rfl
  · obtain ⟨ex, a, m, rfl, hclo, htb, hex, q⟩ := h
    have hcode := code_at F hcd ecd
    have hmem : ((He.cT K ("calm", none)).2, (("calm" : Str) ++ ".<locals>.") ++ "calmed") ∈ T4 K := List.mem_cons_of_mem _ (List.mem_cons_of_mem _ List.mem_cons_self)
    refine ⟨_, psr_cons (ps_ndefMS (st := s_rule3) (T := toN (T4 K)) (nm := fun _ _ => (("calm" : Str) ++ ".<locals>.") ++ "calmed") (i := 1) rfl (TB ("calm", none) (by simp [tf])) hcode (toN_mem hmem) rfl (toN_uq (uq_T4 T hmem)) fr_r3 rfl rfl rfl sc_cm.nd rfl (.inl rfl) (.inl rfl))
      (psr_ret (pv 1)), ?_⟩
    refine ⟨toN_of htb, fun f c' H1 eN _ tN f0 hf hc => ?_⟩
    refine ⟨_, rfl, fun H3 pub => ?_⟩
    have eN3 : ExtN H H3 := eN.trans (ExtN.of pub.up)
    have hf3 := pub.up _ _ hf
    have hc3 := pub.up _ _ hc
    have C : CPub (cloFrom _ (C8.fnScope s_rule3).names []) ["rule"] [a] H3 := cpub_of pub (Caps.made (js := [0]) pub.ok fr_r3 fm_r3 rfl) ce_r3 (fun y c e => clo_free fi_r3 e) rfl
    refine q f H3 eN3 ((toN_to tN).ext pub.up) (clo_fn (N := N_r3) (p := "seen") (fr := ["rule"]) preSeen_stable hf3 hc3 C (hex.ext eN3 hf3) (hex.ext eN3 hc3) (fun y c e => ?_) sc_r3 (fun _ _ _ _ => rfl) fun A2 outer2 s2 H0 i v E2 hr2 keep pre => ?_)
    · obtain ⟨z, hz⟩ := C.all y c e
      exact hex.ext eN3 hz
    · have kx : KeepX ex H H0 := fun b o e n t => keep b o (eN3 _ _ e t) n t fun y z => by
        have hcell := clo_cm (cells := (envOfC d_calm.qual (defScope s_calm) s.heap.objs.size (He.fAd K ("calm", none)) cdv).cells) (fun y hy e => (fr_r3 y hy e).elim (fun k => pub.ok.has _ (.inl k)) fun k => pub.ok.has _ (.inr k)) z
        have n0 : H b = none := pub.none0 y b hcell
        rw [e] at n0
        cases n0
      obtain ⟨fn, run⟩ := hclo H0 kx
      have hpre := pre
      obtain ⟨sa, rfl, hsa, hn0, hn1, hrl, hsl⟩ := pre
      refine ⟨_, pss_cons (ps_set (i := 2) sc_r3.nd rfl (.inl rfl) (pe_clo (k := 1) (i := 1) (sp := spC (PreSeen K m) PostFlat) (E := E0) hr2 (by decide) rfl (.inr (.inr rfl)) (pa_cons (pv 0) pa_nil)))
        (pss_cutE (ps_set (i := 3) sc_r3.nd rfl (.inl rfl) (pe_ifExp (pt_val (pe_call GI hr2 rfl (g_is_whole T) kpi bi .nil pass0 (pa_cons (pv 2) pa_nil))) (pv 2) pe_int))
        (pss_cons (ps_if (pt_cmpR op_isN (pe_ix ix_tup (pv 0) pe_int (fun _ _ => rfl)) pe_non (nomark _)) (pss_one (ps_ret (pv 3))) pss_nil)
        (pss_one (ps_ret (pe_callB (call_max2 rfl) (by rfl) (f_max T) (by decide +kernel) (pa_cons (pe_op op_sub (pe_ix ix_tup (pv 0) pe_int (fun _ _ => rfl)) pe_int) (pa_cons (pe_callB (call_min2 rfl) (by rfl) (f_min T) (by decide +kernel) (pa_cons (pe_op op_add (pe_ix ix_tup (pv 0) pe_int (fun _ _ => rfl)) pe_int) (pa_cons (pv 3) pa_nil))) pa_nil))))))), ?_⟩
      refine ⟨a, rfl, fn, _, rfl, fn, run, i, _, rfl, hpre, fun told H4 ht s4 => ?_⟩
      refine ⟨fun σ' H' => ∃ n, σ' = [some (.ref sa), some (.ref a), some told, some (.int n)] ∧ H' = H4, ?_, ?_⟩
      · refine ⟨_, rfl, told, rfl, ht, _, rfl, ?_⟩
        cases ht with
        | int j => exact iteT ⟨_, rfl, j, rfl, rfl⟩
        | non => exact iteF ⟨0, rfl, rfl⟩
        | bl b => exact iteF ⟨0, rfl, rfl⟩
        | str x => exact iteF ⟨0, rfl, rfl⟩
      · rintro σ' H' ⟨n, rfl, rfl⟩
        have hsa4 := s4 _ _ hsa
        refine ⟨_, rfl, sa, _, _, _, rfl, rfl, SqT.of hsa4, atI_nat (j := 2) rfl, rfl, _, rfl, ?_⟩
        rcases hrl with e | ⟨z, e⟩
        · rw [e]
          exact iteT ⟨_, rfl, .int n, s4⟩
        · have nn : decide (i.r = V.non) = false := decide_eq_false fun z => by rw [e] at z; cases z
          rw [nn]
          refine iteF ⟨_, rfl, sa, _, _, _, rfl, rfl, SqT.of hsa4, atI_nat (j := 2) rfl, z, _, e, rfl, _, rfl, sa, _, _, _, rfl, rfl, SqT.of hsa4, atI_nat (j := 2) rfl, z, _, e, rfl, _, rfl, _, _, rfl, _, _, rfl, .int _, s4⟩
end
end Rp
/- RpL4 -/
set_option maxHeartbeats 4000000
/-! RpL4: the deck: _law_deck, _law_draw, _law_pick. -/
namespace Rp
open PySem PySem.Spec PyProof.Rows L2
def dkv (c : Addr) (seed at_ : Int) : List (Key × V) := [(Sum.inr "cells", .ref c), (Sum.inr "seed", .int seed), (Sum.inr "at", .int at_)]
theorem dkv_c (c : Addr) (s a : Int) : valV (dkv c s a) (Sum.inr "cells" : Key) = some (.ref c) := by kernel_rfl
theorem dkv_s (c : Addr) (s a : Int) : valV (dkv c s a) (Sum.inr "seed" : Key) = some (.int s) := by kernel_rfl
theorem dkv_a (c : Addr) (s a : Int) : valV (dkv c s a) (Sum.inr "at" : Key) = some (.int a) := by kernel_rfl
theorem dkv_put (c : Addr) (s a b : Int) : putK (dkv c s a) (Sum.inr "at" : Key) (.int b) = dkv c s b := by kernel_rfl
theorem get_c {H : Hp} {d c : Addr} {s a : Int} (h : H d = some (.dK (dkv c s a))) : DGet H d (.str "cells") (some (.ref c)) := by
  have q := DGet.k (k := Sum.inr "cells") h
  rw [dkv_c] at q
  exact q
theorem get_s {H : Hp} {d c : Addr} {s a : Int} (h : H d = some (.dK (dkv c s a))) : DGet H d (.str "seed") (some (.int s)) := by
  have q := DGet.k (k := Sum.inr "seed") h
  rw [dkv_s] at q
  exact q
theorem get_a {H : Hp} {d c : Addr} {s a : Int} (h : H d = some (.dK (dkv c s a))) : DGet H d (.str "at") (some (.int a)) := by
  have q := DGet.k (k := Sum.inr "at") h
  rw [dkv_a] at q
  exact q
theorem put_a {H : Hp} {d c : Addr} {s a b : Int} (h : H d = some (.dK (dkv c s a))) : DPut H d (.str "at") (.int b) (upd H d (.dK (dkv c s b))) := by
  have q := DPut.k (k := Sum.inr "at") (v := .int b) h (by show 3 < sizeLine; decide)
  rw [dkv_put] at q
  exact q
/-- the deck at d, its cells at c: numbers below 2 ^ e, at most A draws so far -/
def DkS (H : Hp) (d c : Addr) (e : Nat) (A : Int) : Prop := ∃ (ns : List Int) (seed at_ : Int), H d = some (.dK (dkv c seed at_)) ∧ H c = some (.lst (ns.map V.int)) ∧ (∀ z ∈ ns, z.natAbs < 2 ^ e) ∧ 0 ≤ seed ∧ seed < 2 ^ 127 ∧ 0 ≤ at_ ∧ at_ ≤ A ∧ ns.length ≤ 100
/-- all but the deck stays -/
def KeepD (d c : Addr) (H H' : Hp) : Prop := ∀ b o, b ≠ d → b ≠ c → H b = some o → H' b = some o
theorem KeepD.refl {d c : Addr} (H : Hp) : KeepD d c H H := fun _ _ _ _ h => h
theorem KeepD.trans {d c : Addr} {H H1 H2 : Hp} (a : KeepD d c H H1) (b : KeepD d c H1 H2) : KeepD d c H H2 := fun x o h1 h2 h => b x o h1 h2 (a x o h1 h2 h)
theorem KeepD.of {d c : Addr} {H H1 : Hp} (s : Same H H1) : KeepD d c H H1 := fun x o _ _ h => s x o h
theorem DkS.same {H H' : Hp} {d c : Addr} {e : Nat} {A : Int} (h : DkS H d c e A) (s : Same H H') : DkS H' d c e A := let ⟨ns, seed, at_, h1, h2, h3⟩ := h; ⟨ns, seed, at_, s _ _ h1, s _ _ h2, h3⟩
theorem DkS.mono {H : Hp} {d c : Addr} {e : Nat} {A B : Int} (h : DkS H d c e A) (k : A ≤ B) : DkS H d c e B := let ⟨ns, seed, at_, h1, h2, h3, h4, h5, h6, h7, h8⟩ := h; ⟨ns, seed, at_, h1, h2, h3, h4, h5, h6, Int.le_trans h7 k, h8⟩
theorem DkS.neD {H : Hp} {d c b : Addr} {e : Nat} {A : Int} {o : HO} (h : DkS H d c e A) (hb : H b = some o) (n : ∀ kvs, o ≠ .dK kvs) : b ≠ d := fun z => by
  obtain ⟨ns, seed, at_, h1, _⟩ := h
  rw [z, h1] at hb
  exact n _ (Option.some.inj hb).symm
theorem DkS.neC {H : Hp} {d c b : Addr} {e : Nat} {A : Int} {o : HO} (h : DkS H d c e A) (hb : H b = some o) (n : ∀ xs, o ≠ .lst xs) : b ≠ c := fun z => by
  obtain ⟨ns, seed, at_, _, h2, _⟩ := h
  rw [z, h2] at hb
  exact n _ (Option.some.inj hb).symm
theorem KeepD.tup {H H' : Hp} {d c b : Addr} {e : Nat} {A : Int} {xs : List V} (k : KeepD d c H H') (h : DkS H d c e A) (hb : H b = some (.tup xs)) : H' b = some (.tup xs) := k _ _ (h.neD hb fun kvs z => nomatch z) (h.neC hb fun kvs z => nomatch z) hb
theorem dp_ints {K : PySem.W.Frag} {H : Hp} : ∀ ns : List Int, DpAll K H (ns.map V.int) (ns.map PyData.int)
  | [] => .nil
  | n :: ns => .cons (.int n) (dp_ints ns)
theorem eqv_nil (ns : List Int) : PyData.eqv (.list (ns.map PyData.int)) (.list []) = ns.isEmpty := by
  cases ns with
  | nil => rfl
  | cons n ns => rfl
abbrev M127 : Int := 170141183460469231731687303715884105727
theorem pow_pos (e : Nat) : 1 ≤ 2 ^ e := Nat.one_le_two_pow
theorem num_bound {e : Nat} {n0 cell : Int} (h0 : n0.natAbs < 2 ^ 128) (hc : cell.natAbs < 2 ^ e) : (n0 + 69621 * cell).natAbs < 2 ^ (e + 130) := by
  rw [Nat.pow_add]
  have hy := pow_pos e
  generalize 2 ^ e = Y at hc hy
  have h1 : (n0 + 69621 * cell).natAbs ≤ n0.natAbs + 69621 * cell.natAbs := by omega
  have h2 : Y * 2 ^ 130 = Y * 1361129467683753853853498429727072845824 := rfl
  omega
theorem num_bound0 {e : Nat} {n0 : Int} (h0 : n0.natAbs < 2 ^ 128) : n0.natAbs < 2 ^ (e + 130) := by
  rw [Nat.pow_add]
  have hy := pow_pos e
  generalize 2 ^ e = Y at hy
  have h2 : Y * 2 ^ 130 = Y * 1361129467683753853853498429727072845824 := rfl
  omega
theorem num_bound2 {e : Nat} {n a : Int} (h0 : n.natAbs < 2 ^ (e + 130)) (h1 : 0 ≤ a) (h2 : a ≤ 2000000) : (n + 48271 * a).natAbs < 2 ^ (e + 131) := by
  have ee : 2 ^ (e + 131) = 2 * 2 ^ (e + 130) := by rw [show e + 131 = (e + 130) + 1 from rfl, Nat.pow_succ, Nat.mul_comm]
  have hb : 2 ^ 130 ≤ 2 ^ (e + 130) := Nat.pow_le_pow_right (by decide) (by omega)
  rw [ee]
  generalize 2 ^ (e + 130) = Y at h0 hb
  have h3 : (n + 48271 * a).natAbs ≤ n.natAbs + 48271 * a.natAbs := by omega
  omega
theorem sq_bound {a : Int} (h1 : 0 ≤ a) (h2 : a ≤ 2000000) : 0 ≤ 7919 * a * a ∧ 7919 * a * a ≤ 2 ^ 60 := by
  have h3 : 0 ≤ 7919 * a := by omega
  have h4 := Int.mul_nonneg h3 h1
  have h5 : 7919 * a * a ≤ 15838000000 * 2000000 := Int.mul_le_mul (by omega) h2 h1 (by decide)
  exact ⟨h4, by omega⟩
section
variable {P : Program} {w : World} {K : PySem.W.Frag} {mg : Str → Option Value} {base : Heap}
/-! ### _law_draw -/
abbrev N_dr : List Str := ["_law_deck_here", "_law_sides", "_law_at", "_law_number", "_law_cell"]
theorem sc_dr : FnScope N_dr ["_law_deck_here", "_law_sides"] (defScope s_L_draw) := ⟨rfl, rfl, rfl, by decide +kernel, rfl, by decide +kernel, by decide +kernel⟩
def spDr : Sp := fun vs H Q _ => ∃ d c e A sides, vs = [.ref d, .int sides] ∧ DkS H d c e A ∧ e ≤ 2000000 ∧ A ≤ 1000000 ∧ 1 ≤ sides ∧ sides ≤ 2000 ∧ ∀ r H', 0 ≤ r → r < sides → DkS H' d c e (A + 1) → KeepD d c H H' → Q (.int r) H'
theorem ok_dr (T : Tx K mg) : Okd P w K mg base 1 (He.fAd K ("_law_draw", none)) ["_law_deck_here", "_law_sides"] spDr := by
  obtain ⟨fd, F⟩ := F_L_draw T
  refine ⟨fd, okF F sc_dr (fun vs H Q E h => ?_) (fun cdv A outer s H vs Q E hr h => ?_), F.kp, FunD.bindsN F fun _ _ _ _ _ _ us hl => match us, hl with | [_, _], _ => rfl⟩
  · obtain ⟨d, c, e, A, sides, rfl, _⟩ := h
    rfl
  · obtain ⟨d, c, e, B, sides, rfl, ⟨ns, seed, at_, hd, hc, hns, s0, s1, a0, a1, hlen⟩, he, hB, hs1, hs2, q⟩ := h
    have hu := units1 hr
    have hdc : d ≠ c := ne_of hd hc (by intro z; cases z)
    refine ⟨_, pss_cons (ps_dput hu (pv 0) pe_str (pe_op op_add (pe_dget hu (pv 0) pe_str (fun _ _ => rfl)) pe_int) rfl)
      (pss_cons (ps_set (i := 2) sc_dr.nd rfl (.inl rfl) (pe_dget hu (pv 0) pe_str (fun _ _ => rfl)))
      (pss_cons (ps_set (i := 3) sc_dr.nd rfl (.inl rfl) (pe_op op_add (pe_dget hu (pv 0) pe_str (fun _ _ => rfl)) (pe_op op_mul (pe_op op_mul pe_int (pv 2)) (pv 2))))
      (pss_cutE (ps_if (pt_cmpR (op_neD (units64 hr)) (pe_dget hu (pv 0) pe_str (fun _ _ => rfl)) (pe_lst pa_nil) (nomark _))
          (pss_cons (ps_set (i := 4) sc_dr.nd rfl (.inl rfl) (pe_bm0 PySem.F.plainAttrs_list PySem.F.slot_list_pop PySem.F.type_list_pop mt_pop (pe_dget hu (pv 0) pe_str (fun _ _ => rfl))))
          (pss_cons (ps_if (pt_cmpR op_ge (pv 4) (pe_op op_pow pe_int pe_int) (nomark _))
            (pss_cons (ps_expr (pe_bm PySem.F.plainAttrs_list PySem.F.slot_list_append PySem.F.type_list_append mt_append (pe_dget hu (pv 0) pe_str (fun _ _ => rfl)) (pa_cons (pe_op op_fdivN (pv 4) (pv 1)) pa_nil)))
            (pss_one (ps_ret (pe_op op_mod (pv 4) (pv 1))))) pss_nil)
          (pss_one (ps_set (i := 3) sc_dr.nd rfl (.inl rfl) (pe_op op_add (pv 3) (pe_op op_mul pe_int (pv 4))))))) pss_nil)
      (pss_cons (ps_set (i := 3) sc_dr.nd rfl (.inl rfl) (pe_op op_mod (pe_op op_mulX (pv 3) (pe_op op_add (pv 3) (pe_op op_mul pe_int (pv 2)))) pe_int))
      (pss_cons (ps_set (i := 3) sc_dr.nd rfl (.inl rfl) (pe_op op_mod (pe_op op_add (pe_op op_mulX (pv 3) (pv 3)) (pe_op op_mul pe_int (pv 2))) pe_int))
      (pss_one (ps_ret (pe_op op_mod (pe_op op_fdivN (pv 3) pe_int) (pv 1))))))))), ?_⟩
    refine ⟨_, rfl, d, _, rfl, get_a hd, _, _, rfl, rfl, _, rfl, d, _, rfl, put_a hd, ?_⟩
    have hd1 : upd H d (.dK (dkv c seed (at_ + 1))) d = some (.dK (dkv c seed (at_ + 1))) := upd_same
    have hc1 : upd H d (.dK (dkv c seed (at_ + 1))) c = some (.lst (ns.map V.int)) := by rw [upd_ne hdc.symm]; exact hc
    have k1 : KeepD d c H (upd H d (.dK (dkv c seed (at_ + 1)))) := fun b o n1 n2 e => by rw [upd_ne n1]; exact e
    refine ⟨_, rfl, d, _, rfl, get_a hd1, ?_⟩
    have hsq := sq_bound (a := at_ + 1) (by omega) (by omega)
    refine ⟨_, rfl, d, _, rfl, get_s hd1, _, rfl, _, _, rfl, rfl, .inl ⟨by decide, by decide⟩, _, rfl, _, _, rfl, rfl, .inr ⟨by omega, by omega⟩, _, _, rfl, rfl, ?_⟩
    refine ⟨fun σ' H' => ∃ n x, σ' = [some (.ref d), some (.int sides), some (.int (at_ + 1)), some (.int n), x] ∧ n.natAbs < 2 ^ (e + 130) ∧ DkS H' d c e (B + 1) ∧ KeepD d c H H', ?_, ?_⟩
    · refine ⟨_, rfl, d, _, rfl, get_c hd1, Nat.zero_le _, fun l nl => ?_⟩
      have sl := Same.upd (o := .lst []) nl
      refine ⟨_, _, .lst (SqL.of (sl _ _ hc1)) (dp_ints ns), .lst (SqL.of upd_same) .nil, PySem.W.ke_shaped_ints ns, PySem.W.ke_shaped_ints [], _, rfl, ?_⟩
      rw [eqv_nil]
      have k2 : KeepD d c H (upd (upd H d (.dK (dkv c seed (at_ + 1)))) l (.lst [])) := k1.trans (KeepD.of sl)
      cases ns with
      | nil =>
        refine iteF ⟨_, none, rfl, num_bound0 (by omega), ⟨[], seed, at_ + 1, sl _ _ hd1, sl _ _ hc1, hns, s0, s1, by omega, by omega, by simp⟩, k2⟩
      | cons n0 nr =>
        refine iteT ?_
        have hne : (n0 :: nr) ≠ [] := fun z => nomatch z
        have el := List.dropLast_concat_getLast hne
        have hc2 := sl _ _ hc1
        have hlast : ((n0 :: nr).map V.int)[((n0 :: nr).map V.int).length - 1]? = some (.int ((n0 :: nr).getLast hne)) := by
          rw [← List.getLast?_eq_getElem?, List.getLast?_map, List.getLast?_eq_getLast hne]
          rfl
        have edrop : ((n0 :: nr).map V.int).dropLast = ((n0 :: nr).dropLast).map V.int := List.map_dropLast.symm
        have hcell := hns _ (List.getLast_mem hne)
        have hdl : ∀ z ∈ (n0 :: nr).dropLast, z.natAbs < 2 ^ e := fun z hz => hns z (List.dropLast_subset _ hz)
        have hdlen : ((n0 :: nr).dropLast).length ≤ 99 := by
          rw [List.length_dropLast]
          omega
        refine ⟨_, rfl, d, _, rfl, get_c (sl _ _ hd1), .inl ⟨rfl, _, SqL.of hc2⟩, c, _, _, rfl, rfl, hc2, hlast, ?_⟩
        rw [edrop]
        generalize (n0 :: nr).getLast hne = cell at hcell
        generalize (n0 :: nr).dropLast = dl at hdl hdlen
        have hd3 : upd (upd (upd H d (.dK (dkv c seed (at_ + 1)))) l (.lst [])) c (.lst (dl.map V.int)) d = some (.dK (dkv c seed (at_ + 1))) := by rw [upd_ne hdc]; exact sl _ _ hd1
        have k3 : KeepD d c H (upd (upd (upd H d (.dK (dkv c seed (at_ + 1)))) l (.lst [])) c (.lst (dl.map V.int))) := k2.trans fun b o n1 n2 e => by rw [upd_ne n2]; exact e
        refine ⟨_, rfl, _, _, rfl, rfl, ⟨by decide, by decide, by decide⟩, _, _, rfl, rfl, _, rfl, ?_⟩
        refine ite2 (fun hc => ?_) (fun hc => ?_)
        · have hc := of_decide_eq_true hc
          have hc0 : (0 : Int) ≤ cell := Int.le_trans (by decide) hc
          refine ⟨_, rfl, d, _, rfl, get_c hd3, .inl ⟨rfl, _, SqL.of upd_same⟩, _, rfl, _, rfl, _, _, rfl, rfl, ⟨by omega, by omega⟩, c, _, _, rfl, rfl, upd_same, (by rw [List.length_map]; exact Nat.lt_of_le_of_lt hdlen (by decide)), ?_⟩
          refine ⟨_, rfl, _, rfl, _, _, rfl, rfl, (by show 0 < sides; omega), ?_⟩
          refine q _ _ (Int.emod_nonneg _ (by omega)) (Int.emod_lt_of_pos _ (by omega)) ⟨dl ++ [cell.fdiv sides], seed, at_ + 1, ?_, ?_, fun z hz => ?_, s0, s1, by omega, by omega, by rw [List.length_append, List.length_singleton]; omega⟩ (k3.trans fun b o n1 n2 e => by rw [upd_ne n2]; exact e)
          · rw [upd_ne hdc]
            exact hd3
          · rw [upd_same, List.map_append]
            rfl
          · rcases List.mem_append.mp hz with hz | hz
            · exact hdl z hz
            · rw [List.mem_singleton.mp hz, Int.fdiv_eq_ediv_of_nonneg _ (by omega)]
              have h1 := Int.ediv_le_self sides hc0
              have h2 := Int.ediv_nonneg hc0 (show 0 ≤ sides by omega)
              omega
        · refine ⟨_, rfl, _, rfl, _, _, rfl, rfl, .inl ⟨by decide, by decide⟩, _, _, rfl, rfl, ?_⟩
          exact ⟨_, some (.int cell), rfl, num_bound (by omega) hcell, ⟨dl, seed, at_ + 1, hd3, upd_same, hdl, s0, s1, by omega, by omega, by omega⟩, k3⟩
    · rintro σ' H' ⟨n, x, rfl, hn, hdk, hk⟩
      have hM : (0 : Int) < M127 := by decide
      refine ⟨_, rfl, _, rfl, _, rfl, _, _, rfl, rfl, .inl ⟨by decide, by decide⟩, _, _, rfl, rfl, _, _, rfl, rfl, mulX hn (num_bound2 hn (by omega) (by omega)) (by omega), _, _, rfl, rfl, hM, ?_⟩
      have b1 : 0 ≤ n * (n + 48271 * (at_ + 1)) % M127 := Int.emod_nonneg _ (by decide)
      have b2 : n * (n + 48271 * (at_ + 1)) % M127 < 170141183460469231731687303715884105727 := Int.emod_lt_of_pos _ hM
      have hm : (n * (n + 48271 * (at_ + 1)) % M127).natAbs < 2 ^ 127 := by omega
      refine ⟨_, rfl, _, rfl, _, _, rfl, rfl, mulX hm hm (by decide), _, rfl, _, _, rfl, rfl, .inl ⟨by decide, by decide⟩, _, _, rfl, rfl, _, _, rfl, rfl, hM, ?_⟩
      refine ⟨_, rfl, _, _, rfl, rfl, ⟨by decide, by decide⟩, _, rfl, _, _, rfl, rfl, (by show 0 < sides; omega), ?_⟩
      exact q _ _ (Int.emod_nonneg _ (by omega)) (Int.emod_lt_of_pos _ (by omega)) hdk hk
/-! ### _law_pick -/
theorem sc_pk : FnScope ["_law_deck_here", "_law_some"] ["_law_deck_here", "_law_some"] (defScope s_L_pick) := ⟨rfl, rfl, rfl, by decide +kernel, rfl, by decide +kernel, by decide +kernel⟩
def spPk : Sp := fun vs H Q _ => ∃ d c l xs e A, vs = [.ref d, .ref l] ∧ DkS H d c e A ∧ e ≤ 2000000 ∧ A ≤ 1000000 ∧ l ≠ c ∧ H l = some (.lst xs) ∧ 1 ≤ xs.length ∧ xs.length ≤ 100 ∧ ∀ v H', v ∈ xs → DkS H' d c e (A + 1) → KeepD d c H H' → Q v H'
theorem ok_pk (T : Tx K mg) : Okd P w K mg base 2 (He.fAd K ("_law_pick", none)) ["_law_deck_here", "_law_some"] spPk := by
  obtain ⟨fd, F⟩ := F_L_pick T
  obtain ⟨fdd, GD, kpd, bd⟩ := ok_dr (P := P) (w := w) (base := base) T
  refine ⟨fd, okF F sc_pk (fun vs H Q E h => ?_) (fun cdv A outer s H vs Q E hr h => ?_), F.kp, FunD.bindsN F fun _ _ _ _ _ _ us hl => match us, hl with | [_, _], _ => rfl⟩
  · obtain ⟨d, c, l, xs, e, A, rfl, _⟩ := h
    rfl
  · obtain ⟨d, c, l, xs, e, B, rfl, dk, he, hB, hlc, hl, h1, h2, q⟩ := h
    refine ⟨_, pss_one (ps_ret (pe_ix ix_list (pv 1) (pe_call GD hr rfl (g_L_draw T) kpd bd .nil pass0 (pa_cons (pv 0) (pa_cons (pe_callB call_len_seq (by rfl) (f_len T) PySem.boot_len (pa_cons (pv 1) pa_nil)) pa_nil))) (fun _ _ => rfl))), ?_⟩
    refine ⟨_, rfl, _, rfl, _, rfl, l, _, rfl, .inl (SqL.of hl), d, c, e, B, _, rfl, dk, he, hB, by omega, by omega, fun r H' r0 r1 dk' kk => ?_⟩
    obtain ⟨k, rfl⟩ := Int.eq_ofNat_of_zero_le r0
    have hk : k < xs.length := by omega
    have hl' := kk _ _ (dk.neD hl fun kvs z => nomatch z) hlc hl
    exact ⟨l, xs, _, _, rfl, rfl, SqL.of hl', atI_nat (List.getElem?_eq_getElem hk), q _ H' (List.getElem_mem hk) dk' kk⟩
/-! ### _law_deck -/
abbrev N_dk : List Str := ["_law_script", "_law_cells", "_law_seed", "_law_cell"]
theorem sc_dk : FnScope N_dk ["_law_script"] (defScope s_L_deck) := ⟨rfl, rfl, rfl, by decide +kernel, rfl, by decide +kernel, by decide +kernel⟩
def spDk (K : PySem.W.Frag) : Sp := fun vs H Q _ => ∃ (a : Addr) (ns : List Int) (e : Nat), vs = [.ref a] ∧ SqL K H a (ns.map V.int) ∧ ns.length ≤ 63 ∧ (∀ z ∈ ns, z.natAbs < 2 ^ e) ∧ ∀ d c H', Same H H' → DkS H' d c e 0 → Q (.ref d) H'
theorem ok_dk (T : Tx K mg) : Okd P w K mg base 1 (He.fAd K ("_law_deck", none)) ["_law_script"] (spDk K) := by
  obtain ⟨fd, F⟩ := F_L_deck T
  refine ⟨fd, okF F sc_dk (fun vs H Q E h => ?_) (fun cdv A outer s H vs Q E hr h => ?_), F.kp, FunD.bindsN F fun _ _ _ _ _ _ us hl => match us, hl with | [_], _ => rfl⟩
  · obtain ⟨a, ns, e, rfl, _⟩ := h
    rfl
  · obtain ⟨a, ns, e, rfl, ha, hlen, hns, q⟩ := h
    refine ⟨_, pss_cons (ps_set (i := 1) sc_dk.nd rfl (.inl rfl) (pe_callTy call_list_of (by rfl) (f_list T) (by decide +kernel) (pa_cons (pe_slice sl_list (pv 0) po_none (po_some pe_int)) pa_nil)))
      (pss_cons (ps_set (i := 2) sc_dk.nd rfl (.inl rfl) (pe_op op_add pe_int (pe_callB call_len_seq (by rfl) (f_len T) PySem.boot_len (pa_cons (pv 1) pa_nil))))
      (pss_cons (ps_for PassesOwn.never rfl (pi_list (pv 1)) (pg_name (i := 3) sc_dk.nd rfl (.inl rfl)) (pss_one (ps_set (i := 2) sc_dk.nd rfl (.inl rfl) (pe_op op_mod (pe_op op_add (pe_op op_mul (pv 2) pe_int) (pv 3)) pe_int))))
      (pss_one (ps_ret (pe_disp (pps_cons pe_str (pe_revL (pv 1)) (pps_cons pe_str (pv 2) (pps_cons pe_str pe_int pps_nil))) (by rfl) (by rfl) (fun z => by cases z) (by decide)))))), ?_⟩
    refine ⟨_, rfl, _, rfl, a, _, rfl, ha, fun p np => ?_⟩
    have ec : cutV (ns.map V.int) none (some 63) = ns.map V.int := by
      unfold cutV
      have e1 : HT.sIx (ns.map V.int).length (ns.map V.int).length (some 63) = min 63 (ns.map V.int).length := HT.sIx_nat _ _ 63
      rw [e1, HT.sIx_none, List.length_map, List.drop_zero]
      exact List.take_of_length_le (by rw [List.length_map]; omega)
    rw [ec]
    have s1 := Same.upd (o := .lst (ns.map V.int)) np
    refine ⟨p, _, rfl, .inl (SqL.of upd_same), fun l nl => ?_⟩
    have s2 := s1.trans (Same.upd (o := .lst (ns.map V.int)) nl)
    have hM : (0 : Int) < M127 := by decide
    refine ⟨_, rfl, l, _, rfl, .inl (SqL.of upd_same), _, _, rfl, rfl, ?_⟩
    rw [List.length_map]
    refine ⟨_, rfl, l, rfl, ⟨_, SqL.of upd_same⟩, for_list (K := K) (a := l) (xs := ns.map V.int) (fun i σ H' => H' = upd (upd H p (.lst (ns.map V.int))) l (.lst (ns.map V.int)) ∧ ∃ seed x, σ = [some (.ref a), some (.ref l), some (.int seed), x] ∧ 0 ≤ seed ∧ seed < 2 ^ 127)
      ⟨rfl, _, none, rfl, by omega, by omega⟩ (fun i σ H' _ h => by rw [h.1]; exact SqL.of upd_same) ?_ ?_⟩
    · rintro i x σ H' hx ⟨rfl, seed, y, rfl, h0, h1⟩
      rw [List.getElem?_map] at hx
      cases eu : ns[i]? with
      | none =>
        rw [eu] at hx
        cases hx
      | some u =>
        rw [eu] at hx
        cases hx
        have b1 : 0 ≤ (seed * 1000003 + u) % M127 := Int.emod_nonneg _ (by decide)
        have b2 : (seed * 1000003 + u) % M127 < 170141183460469231731687303715884105727 := Int.emod_lt_of_pos _ hM
        refine ⟨_, rfl, _, _, rfl, rfl, .inr ⟨by decide, by decide⟩, _, rfl, _, _, rfl, rfl, _, _, rfl, rfl, hM, ?_⟩
        exact ⟨rfl, _, _, rfl, b1, Int.lt_trans b2 (by decide)⟩
    · rintro σ H' ⟨rfl, seed, y, rfl, h0, h1⟩
      intro d nd
      have s3 := Same.upd (o := .dK []) nd
      refine ⟨_, rfl, l, _, rfl, SqL.of (s3 _ _ upd_same), fun c nc => ?_⟩
      have s4 := Same.upd (o := .lst (ns.map V.int).reverse) nc
      have hd4 := s4 _ _ (show upd _ d (.dK []) d = _ from upd_same)
      refine ⟨_, rfl, hd4, dkv c seed 0, rfl, (by show 3 ≤ 15; decide), ?_⟩
      have em : mergeK [] (dkv c seed 0) = dkv c seed 0 := by kernel_rfl
      rw [em]
      have hcd : c ≠ d := fun z => by rw [z, upd_same] at nc; cases nc
      have sH : ∀ b o, H b = some o → b ≠ d := fun b o hb z => by
        have := s2 _ _ hb
        rw [z, nd] at this
        cases this
      refine q d c _ (fun b o hb => ?_) ⟨ns.reverse, seed, 0, upd_same, ?_, fun z hz => hns z (List.mem_reverse.mp hz), h0, h1, Int.le_refl _, Int.le_refl _, by rw [List.length_reverse]; omega⟩
      · rw [upd_ne (sH b o hb)]
        exact s4 _ _ (s3 _ _ (s2 _ _ hb))
      · rw [upd_ne hcd, upd_same, List.map_reverse]
end
end Rp
/- RpL5 -/
set_option maxHeartbeats 4000000
/-! RpL5: what the law draws: options, a talk, pieces. -/
namespace Rp
open PySem PySem.Spec PyProof.Rows L2
theorem pick_int {l : List Int} {i : Int} (h0 : 0 ≤ i) (h1 : i < (l.length : Int)) {Pz : Int → Prop} (h : ∀ z ∈ l, Pz z) : ∃ z, atI (l.map V.int) i = some (.int z) ∧ Pz z := by
  obtain ⟨k, rfl⟩ := Int.eq_ofNat_of_zero_le h0
  have hk : k < l.length := by omega
  refine ⟨l[k], atI_nat ?_, h _ (List.getElem_mem hk)⟩
  rw [List.getElem?_map, List.getElem?_eq_getElem hk]
  rfl
section
variable {P : Program} {w : World} {K : PySem.W.Frag} {mg : Str → Option Value} {base : Heap}
abbrev N_op : List Str := ["_law_deck_here", "_law_longest", "_law_way", "_law_first", "_law_second", "_law_room"]
theorem sc_op : FnScope N_op ["_law_deck_here", "_law_longest"] (defScope s_L_options) := ⟨rfl, rfl, rfl, by decide +kernel, rfl, by decide +kernel, by decide +kernel⟩
def spOp : Sp := fun vs H Q _ => ∃ d c e A longest, vs = [.ref d, .int longest] ∧ DkS H d c e A ∧ e ≤ 2000000 ∧ A ≤ 100000 ∧ ∀ t H' b g most wait, DkS H' d c e (A + 20) → KeepD d c H H' → H' t = some (.tup [.int b, .int g, .int most, .int wait]) → 1 ≤ b → longest ≤ most → 0 ≤ wait → wait ≤ 20 → Q (.ref t) H'
theorem ok_op (T : Tx K mg) : Okd P w K mg base 2 (He.fAd K ("_law_options", none)) ["_law_deck_here", "_law_longest"] spOp := by
  obtain ⟨fd, F⟩ := F_L_options T
  obtain ⟨fdd, GD, kpd, bd⟩ := ok_dr (P := P) (w := w) (base := base) T
  refine ⟨fd, okF F sc_op (fun vs H Q E h => ?_) (fun cdv A outer s H vs Q E hr h => ?_), F.kp, FunD.bindsN F fun _ _ _ _ _ _ us hl => match us, hl with | [_, _], _ => rfl⟩
  · obtain ⟨d, c, e, A, longest, rfl, _⟩ := h
    rfl
  · obtain ⟨d, c, e, B, longest, rfl, dk, he, hB, q⟩ := h
    refine ⟨_, pss_cons (ps_set (i := 2) sc_op.nd rfl (.inl rfl) (pe_call GD hr rfl (g_L_draw T) kpd bd .nil pass0 (pa_cons (pv 0) (pa_cons pe_int pa_nil))))
      (pss_cons (ps_set (i := 3) sc_op.nd rfl (.inl rfl) (pe_ix ix_list (pe_lst (pa_cons (pe_op op_add pe_int (pe_call GD hr rfl (g_L_draw T) kpd bd .nil pass0 (pa_cons (pv 0) (pa_cons pe_int pa_nil)))) (pa_cons pe_int (pa_cons (pe_op op_add pe_int (pe_call GD hr rfl (g_L_draw T) kpd bd .nil pass0 (pa_cons (pv 0) (pa_cons pe_int pa_nil)))) (pa_cons pe_int pa_nil))))) (pv 2) (fun _ _ => rfl)))
      (pss_cons (ps_set (i := 4) sc_op.nd rfl (.inl rfl) (pe_ix ix_list (pe_lst (pa_cons (pe_op op_add pe_int (pe_call GD hr rfl (g_L_draw T) kpd bd .nil pass0 (pa_cons (pv 0) (pa_cons pe_int pa_nil)))) (pa_cons pe_int (pa_cons pe_int (pa_cons (pe_op op_add pe_int (pe_call GD hr rfl (g_L_draw T) kpd bd .nil pass0 (pa_cons (pv 0) (pa_cons pe_int pa_nil)))) pa_nil))))) (pe_call GD hr rfl (g_L_draw T) kpd bd .nil pass0 (pa_cons (pv 0) (pa_cons pe_int pa_nil))) (fun _ _ => rfl)))
      (pss_cons (ps_set (i := 5) sc_op.nd rfl (.inl rfl) (pe_op op_add (pv 1) (pe_ix ix_list (pe_lst (pa_cons pe_int (pa_cons (pe_call GD hr rfl (g_L_draw T) kpd bd .nil pass0 (pa_cons (pv 0) (pa_cons pe_int pa_nil))) (pa_cons (pe_call GD hr rfl (g_L_draw T) kpd bd .nil pass0 (pa_cons (pv 0) (pa_cons pe_int pa_nil))) (pa_cons pe_int pa_nil))))) (pe_call GD hr rfl (g_L_draw T) kpd bd .nil pass0 (pa_cons (pv 0) (pa_cons pe_int pa_nil))) (fun _ _ => rfl))))
      (pss_one (ps_ret (pe_tup (pa_cons (pv 3) (pa_cons (pv 4) (pa_cons (pv 5) (pa_cons (pe_ix ix_list (pe_lst (pa_cons pe_int (pa_cons pe_int (pa_cons pe_int (pa_cons (pe_call GD hr rfl (g_L_draw T) kpd bd .nil pass0 (pa_cons (pv 0) (pa_cons pe_int pa_nil))) (pa_cons (pe_call GD hr rfl (g_L_draw T) kpd bd .nil pass0 (pa_cons (pv 0) (pa_cons pe_int pa_nil))) pa_nil)))))) (pe_call GD hr rfl (g_L_draw T) kpd bd .nil pass0 (pa_cons (pv 0) (pa_cons pe_int pa_nil))) (fun _ _ => rfl)) pa_nil)))))))))), ?_⟩
    have h4 : 4 ≤ sizeLine := by decide
    have h5 : 5 ≤ sizeLine := by decide
    refine ⟨_, rfl, d, c, e, B, 4, rfl, dk, he, by omega, by decide, by decide, fun r1 H1 r10 r11 dk1 k1 => ?_⟩
    refine ⟨_, rfl, d, c, e, _, 9, rfl, dk1, he, by omega, by decide, by decide, fun r2 H2 r20 r21 dk2 k2 => ⟨_, _, rfl, rfl, ?_⟩⟩
    refine ⟨_, rfl, d, c, e, _, 60, rfl, dk2, he, by omega, by decide, by decide, fun r3 H3 r30 r31 dk3 k3 => ⟨_, _, rfl, rfl, h4, fun l1 n1 => ?_⟩⟩
    obtain ⟨b, eb, hb⟩ := pick_int (l := [1 + r2, 1, 1 + r3, 4]) (Pz := fun z => 1 ≤ z) r10 r11 (fun z hz => by simp only [List.mem_cons, List.mem_nil_iff, or_false] at hz; omega)
    refine ⟨_, rfl, l1, _, _, _, rfl, rfl, SqL.of upd_same, eb, ?_⟩
    have dk4 := dk3.same (Same.upd (o := .lst [.int (1 + r2), .int 1, .int (1 + r3), .int 4]) n1)
    have k4 := k1.trans (k2.trans (k3.trans (KeepD.of (Same.upd (o := .lst [.int (1 + r2), .int 1, .int (1 + r3), .int 4]) n1))))
    refine ⟨_, rfl, d, c, e, _, 12, rfl, dk4, he, by omega, by decide, by decide, fun r5 H5 r50 r51 dk5 k5 => ⟨_, _, rfl, rfl, ?_⟩⟩
    refine ⟨_, rfl, d, c, e, _, 60, rfl, dk5, he, by omega, by decide, by decide, fun r6 H6 r60 r61 dk6 k6 => ⟨_, _, rfl, rfl, h4, fun l2 n2 => ?_⟩⟩
    have s2 := Same.upd (o := .lst [.int (1 + r5), .int 1, .int 8, .int (1 + r6)]) n2
    have dk7 := dk6.same s2
    have nl2 : l2 ≠ c := fun z => by
      obtain ⟨_, _, _, _, hc, _⟩ := dk6
      rw [z, hc] at n2
      cases n2
    refine ⟨_, rfl, d, c, e, _, 4, rfl, dk7, he, by omega, by decide, by decide, fun r8 H8 r80 r81 dk8 k8 => ?_⟩
    have hl2 := k8 _ _ (dk7.neD upd_same fun kvs z => nomatch z) nl2 (show upd H6 l2 (.lst [.int (1 + r5), .int 1, .int 8, .int (1 + r6)]) l2 = _ from upd_same)
    obtain ⟨g, eg, _⟩ := pick_int (l := [1 + r5, 1, 8, 1 + r6]) (Pz := fun _ => True) r80 r81 (fun _ _ => trivial)
    refine ⟨l2, _, _, _, rfl, rfl, SqL.of hl2, eg, ?_⟩
    have k9 := k4.trans (k5.trans (k6.trans ((KeepD.of s2).trans k8)))
    refine ⟨_, rfl, _, rfl, d, c, e, _, 12, rfl, dk8, he, by omega, by decide, by decide, fun r10' H10 r100 r101 dk10 k10 => ?_⟩
    refine ⟨_, rfl, d, c, e, _, 60, rfl, dk10, he, by omega, by decide, by decide, fun r11' H11 r110 r111 dk11 k11 => ⟨h4, fun l3 n3 => ?_⟩⟩
    have s3 := Same.upd (o := .lst [.int 0, .int r10', .int r11', .int 300]) n3
    have dk12 := dk11.same s3
    have nl3 : l3 ≠ c := fun z => by
      obtain ⟨_, _, _, _, hc, _⟩ := dk11
      rw [z, hc] at n3
      cases n3
    refine ⟨_, rfl, d, c, e, _, 4, rfl, dk12, he, by omega, by decide, by decide, fun r13 H13 r130 r131 dk13 k13 => ?_⟩
    have hl3 := k13 _ _ (dk12.neD upd_same fun kvs z => nomatch z) nl3 (show upd H11 l3 (.lst [.int 0, .int r10', .int r11', .int 300]) l3 = _ from upd_same)
    obtain ⟨m, em, hm⟩ := pick_int (l := [0, r10', r11', 300]) (Pz := fun z => 0 ≤ z) r130 r131 (fun z hz => by simp only [List.mem_cons, List.mem_nil_iff, or_false] at hz; omega)
    refine ⟨l3, _, _, _, rfl, rfl, SqL.of hl3, em, _, _, rfl, rfl, ?_⟩
    have k14 := k9.trans (k10.trans (k11.trans ((KeepD.of s3).trans k13)))
    refine ⟨_, rfl, _, rfl, _, rfl, _, rfl, d, c, e, _, 9, rfl, dk13, he, by omega, by decide, by decide, fun r15 H15 r150 r151 dk15 k15 => ?_⟩
    refine ⟨_, rfl, d, c, e, _, 20, rfl, dk15, he, by omega, by decide, by decide, fun r16 H16 r160 r161 dk16 k16 => ⟨h5, fun l4 n4 => ?_⟩⟩
    have s4 := Same.upd (o := .lst [.int 0, .int 0, .int 1, .int r15, .int r16]) n4
    have dk17 := dk16.same s4
    have nl4 : l4 ≠ c := fun z => by
      obtain ⟨_, _, _, _, hc, _⟩ := dk16
      rw [z, hc] at n4
      cases n4
    refine ⟨_, rfl, d, c, e, _, 5, rfl, dk17, he, by omega, by decide, by decide, fun r18 H18 r180 r181 dk18 k18 => ?_⟩
    have hl4 := k18 _ _ (dk17.neD upd_same fun kvs z => nomatch z) nl4 (show upd H16 l4 (.lst [.int 0, .int 0, .int 1, .int r15, .int r16]) l4 = _ from upd_same)
    obtain ⟨wt, ew, hw⟩ := pick_int (l := [0, 0, 1, r15, r16]) (Pz := fun z => 0 ≤ z ∧ z ≤ 20) r180 r181 (fun z hz => by simp only [List.mem_cons, List.mem_nil_iff, or_false] at hz; omega)
    refine ⟨l4, _, _, _, rfl, rfl, SqL.of hl4, ew, h4, fun t nt => ?_⟩
    have s5 := Same.upd (o := .tup [.int b, .int g, .int (longest + m), .int wt]) nt
    refine q t _ b g (longest + m) wt ((dk18.same s5).mono (by omega)) (k14.trans (k15.trans (k16.trans ((KeepD.of s4).trans (k18.trans (KeepD.of s5)))))) upd_same hb (by omega) hw.1 hw.2
end
end Rp
/- RpL6 -/
set_option maxHeartbeats 4000000
/-! RpL6: a talk, drawn. -/
namespace Rp
open PySem PySem.Spec PyProof.Rows L2
theorem DkS.upd {H : Hp} {d c b : Addr} {e : Nat} {A : Int} {o : HO} (h : DkS H d c e A) (n1 : b ≠ d) (n2 : b ≠ c) : DkS (upd H b o) d c e A := by
  obtain ⟨ns, seed, at_, h1, h2, h3⟩ := h
  exact ⟨ns, seed, at_, by rw [upd_ne n1.symm]; exact h1, by rw [upd_ne n2.symm]; exact h2, h3⟩
theorem DkS.fresh {H : Hp} {d c l : Addr} {e : Nat} {A : Int} (h : DkS H d c e A) (n : H l = none) : l ≠ d ∧ l ≠ c := by
  obtain ⟨ns, seed, at_, h1, h2, _⟩ := h
  exact ⟨(fun z => by rw [z, h1] at n; cases n), (fun z => by rw [z, h2] at n; cases n)⟩
/-- the talk so far: its lengths at ll, its rows at ls -/
structure TkS (H : Hp) (d c : Addr) (e : Nat) (ll ls : Addr) (H' : Hp) (A : Int) (lens : List Int) (zs : List V) (rows : List (List Int)) : Prop where
  dk : DkS H' d c e A
  kp : KeepD d c H H'
  hl : H' ll = some (.lst (lens.map V.int))
  hs : H' ls = some (.lst zs)
  rf : RefL rowT H' zs rows
section
variable {H H1 H2 : Hp} {d c ll ls : Addr} {e : Nat} {A A2 : Int} {lens : List Int} {zs : List V} {rows : List (List Int)}
theorem TkS.step (t : TkS H d c e ll ls H1 A lens zs rows) (dk2 : DkS H2 d c e A2) (k : KeepD d c H1 H2) (n1 : ll ≠ c) (n2 : ls ≠ c) : TkS H d c e ll ls H2 A2 lens zs rows :=
  ⟨dk2, t.kp.trans k, k _ _ (t.dk.neD t.hl fun kvs z => nomatch z) n1 t.hl, k _ _ (t.dk.neD t.hs fun kvs z => nomatch z) n2 t.hs, t.rf.1, fun i a h => let ⟨q, e, z⟩ := t.rf.2 i a h; ⟨q, e, k.tup t.dk z⟩⟩
theorem TkS.same (t : TkS H d c e ll ls H1 A lens zs rows) (s : Same H1 H2) (n1 : ll ≠ c) (n2 : ls ≠ c) : TkS H d c e ll ls H2 A lens zs rows := t.step (t.dk.same s) (KeepD.of s) n1 n2
theorem RefL.lstT {H : Hp} {l : Addr} {xs v : List V} {zs : List V} {rows : List (List Int)} (r : RefL rowT H zs rows) (h : H l = some (.lst xs)) : RefL rowT (upd H l (.lst v)) zs rows :=
  ⟨r.1, fun i a hh => let ⟨q, e, z⟩ := r.2 i a hh; ⟨q, e, keep_tup z fun xs z => by rw [h] at z; cases z⟩⟩
theorem TkS.putL (t : TkS H d c e ll ls H1 A lens zs rows) (n1 : ll ≠ c) (nls : ll ≠ ls) (h0 : H ll = none) {lens' : List Int} : TkS H d c e ll ls (upd H1 ll (.lst (lens'.map V.int))) A lens' zs rows :=
  ⟨t.dk.upd (t.dk.neD t.hl fun kvs z => nomatch z) n1, fun b o x y h => by rw [upd_ne (ne_of_none h h0)]; exact t.kp b o x y h, upd_same, by rw [upd_ne nls.symm]; exact t.hs, t.rf.lstT t.hl⟩
theorem TkS.putR (t : TkS H d c e ll ls H1 A lens zs rows) (n2 : ls ≠ c) (nls : ll ≠ ls) (h0 : H ls = none) {q : Addr} {row : List Int} (hq : rowT H1 q row) : TkS H d c e ll ls (upd H1 ls (.lst (zs ++ [.ref q]))) A lens (zs ++ [.ref q]) (rows ++ [row]) :=
  ⟨t.dk.upd (t.dk.neD t.hs fun kvs z => nomatch z) n2, fun b o x y h => by rw [upd_ne (ne_of_none h h0)]; exact t.kp b o x y h, by rw [upd_ne nls]; exact t.hl, upd_same, (t.rf.snoc hq).lstT t.hs⟩
theorem TkS.other (t : TkS H d c e ll ls H1 A lens zs rows) {b : Addr} {xs v : List V} (hb : H1 b = some (.lst xs)) (h0 : H b = none) (n : b ≠ c) (n1 : b ≠ ll) (n2 : b ≠ ls) : TkS H d c e ll ls (upd H1 b (.lst v)) A lens zs rows :=
  ⟨t.dk.upd (t.dk.neD hb fun kvs z => nomatch z) n, fun x o y z h => by rw [upd_ne (ne_of_none h h0)]; exact t.kp x o y z h, by rw [upd_ne n1.symm]; exact t.hl, by rw [upd_ne n2.symm]; exact t.hs, t.rf.lstT hb⟩
end
section
variable {P : Program} {w : World} {K : PySem.W.Frag} {mg : Str → Option Value} {base : Heap}
abbrev N_tk : List Str := ["_law_deck_here", "_law_stretches", "_law_rates", "_law_longest", "_law_way", "_law_kind", "_law_lengths", "_law_sizes", "_law_k", "_law_row", "_law_rate", "_law_some"]
abbrev P_tk : List Str := ["_law_deck_here", "_law_stretches", "_law_rates", "_law_longest"]
theorem sc_tk : FnScope N_tk P_tk (defScope s_L_talk) := ⟨rfl, rfl, rfl, by decide +kernel, rfl, by decide +kernel, by decide +kernel⟩
def spTk : Sp := fun vs H Q _ => ∃ (d c : Addr) (e : Nat) (A : Int) (m r : Nat) (longest : Int), vs = [.ref d, .int m, .int r, .int longest] ∧ DkS H d c e A ∧ e ≤ 2000000 ∧ A ≤ 100000 ∧ 1 ≤ m ∧ m ≤ 12 ∧ 1 ≤ r ∧ r ≤ 4 ∧ 1 ≤ longest ∧ longest ≤ 20 ∧
  ∀ t H' l z lens rows, DkS H' d c e (A + 200) → KeepD d c H H' → H' t = some (.tup [.ref l, .ref z]) → TkD H' l z lens rows → TkOk lens rows r → lens.length = m → (∀ n ∈ lens, n ≤ 20) → Q (.ref t) H'
theorem ok_tk (T : Tx K mg) : Okd P w K mg base 2 (He.fAd K ("_law_talk", none)) P_tk spTk := by
  obtain ⟨fd, F⟩ := F_L_talk T
  obtain ⟨fdd, GD, kpd, bd⟩ := ok_dr (P := P) (w := w) (base := base) T
  refine ⟨fd, okF F sc_tk (fun vs H Q E h => ?_) (fun cdv A outer s H vs Q E hr h => ?_), F.kp, FunD.bindsN F fun _ _ _ _ _ _ us hl => match us, hl with | [_, _, _, _], _ => rfl⟩
  · obtain ⟨d, c, e, A, m, r, longest, rfl, _⟩ := h
    rfl
  · obtain ⟨d, c, e, B, m, r, longest, rfl, dk, he, hB, hm1, hm2, hr1, hr2, hl1, hl2, q⟩ := h
    refine ⟨_, pss_cons (ps_set (i := 4) sc_tk.nd rfl (.inl rfl) (pe_call GD hr rfl (g_L_draw T) kpd bd .nil pass0 (pa_cons (pv 0) (pa_cons pe_int pa_nil))))
      (pss_cons (ps_set (i := 5) sc_tk.nd rfl (.inl rfl) (pe_call GD hr rfl (g_L_draw T) kpd bd .nil pass0 (pa_cons (pv 0) (pa_cons pe_int pa_nil))))
      (pss_cons (ps_set (i := 6) sc_tk.nd rfl (.inl rfl) (pe_lst pa_nil))
      (pss_cons (ps_set (i := 7) sc_tk.nd rfl (.inl rfl) (pe_lst pa_nil))
      (pss_cons (ps_for PassesOwn.never rfl (pi_range1 rfl (f_range T) (pa_cons (pv 1) pa_nil)) (pg_name (i := 8) sc_tk.nd rfl (.inl rfl))
        (pss_cons (ps_expr (pe_bm PySem.F.plainAttrs_list PySem.F.slot_list_append PySem.F.type_list_append mt_append (pv 6) (pa_cons (pe_ix ix_list (pe_lst (pa_cons (pe_op op_add pe_int (pe_call GD hr rfl (g_L_draw T) kpd bd .nil pass0 (pa_cons (pv 0) (pa_cons (pv 3) pa_nil)))) (pa_cons pe_int (pa_cons (pe_callB (call_min2 rfl) (by rfl) (f_min T) (by decide +kernel) (pa_cons pe_int (pa_cons (pv 3) pa_nil))) (pa_cons (pv 3) pa_nil))))) (pv 5) (fun _ _ => rfl)) pa_nil)))
        (pss_cons (ps_set (i := 9) sc_tk.nd rfl (.inl rfl) (pe_lst pa_nil))
        (pss_cons (ps_for PassesOwn.never rfl (pi_range1 rfl (f_range T) (pa_cons (pv 2) pa_nil)) (pg_name (i := 10) sc_tk.nd rfl (.inl rfl))
          (pss_cons (ps_set (i := 11) sc_tk.nd rfl (.inl rfl) (pe_lst (pa_cons (pe_op op_add pe_int (pe_call GD hr rfl (g_L_draw T) kpd bd .nil pass0 (pa_cons (pv 0) (pa_cons pe_int pa_nil)))) (pa_cons (pe_op op_mul (pe_op op_add (pv 10) pe_int) (pe_op op_add pe_int (pe_call GD hr rfl (g_L_draw T) kpd bd .nil pass0 (pa_cons (pv 0) (pa_cons pe_int pa_nil))))) (pa_cons (pe_op op_add pe_int (pe_call GD hr rfl (g_L_draw T) kpd bd .nil pass0 (pa_cons (pv 0) (pa_cons pe_int pa_nil)))) pa_nil)))))
          (pss_one (ps_expr (pe_bm PySem.F.plainAttrs_list PySem.F.slot_list_append PySem.F.type_list_append mt_append (pv 9) (pa_cons (pe_ix ix_list (pe_op op_cat (pv 11) (pe_lst (pa_cons pe_int (pa_cons pe_int pa_nil)))) (pv 4) (fun _ _ => rfl)) pa_nil))))))
        (pss_one (ps_expr (pe_bm PySem.F.plainAttrs_list PySem.F.slot_list_append PySem.F.type_list_append mt_append (pv 7) (pa_cons (pe_callTy call_tuple_of (by rfl) (f_tuple T) (by decide +kernel) (pa_cons (pv 9) pa_nil)) pa_nil))))))))
      (pss_one (ps_ret (pe_tup (pa_cons (pe_callTy call_tuple_of (by rfl) (f_tuple T) (by decide +kernel) (pa_cons (pv 6) pa_nil)) (pa_cons (pe_callTy call_tuple_of (by rfl) (f_tuple T) (by decide +kernel) (pa_cons (pv 7) pa_nil)) pa_nil))))))))), ?_⟩
    have h4 : 4 ≤ sizeLine := by decide
    have h3 : 3 ≤ sizeLine := by decide
    have h2 : 2 ≤ sizeLine := by decide
    have h5 : 5 ≤ sizeLine := by decide
    refine ⟨_, rfl, d, c, e, B, 5, rfl, dk, he, by omega, by decide, by decide, fun way H1 w0 w1 dk1 k1 => ?_⟩
    refine ⟨_, rfl, d, c, e, _, 4, rfl, dk1, he, by omega, by decide, by decide, fun kind H2 q0 q1 dk2 k2 => ?_⟩
    refine ⟨Nat.zero_le _, fun ll n1 => ⟨Nat.zero_le _, fun ls n2 => ?_⟩⟩
    have s1 := Same.upd (o := .lst []) n1
    have s2 := Same.upd (o := .lst []) n2
    have k3 : KeepD d c H (upd (upd H2 ll (.lst [])) ls (.lst [])) := k1.trans (k2.trans (KeepD.of (s1.trans s2)))
    have f1 := dk2.fresh n1
    have f2 := (dk2.same s1).fresh n2
    have nls : ll ≠ ls := fun z => by rw [← z, upd_same] at n2; cases n2
    have h0l : H ll = none := by
      cases z : H ll with
      | none => rfl
      | some o =>
        have := k2 _ _ f1.1 f1.2 (k1 _ _ f1.1 f1.2 z)
        rw [n1] at this
        cases this
    have h0s : H ls = none := by
      cases z : H ls with
      | none => rfl
      | some o =>
        have := s1 _ _ (k2 _ _ f2.1 f2.2 (k1 _ _ f2.1 f2.2 z))
        rw [n2] at this
        cases this
    have t0 : TkS H d c e ll ls (upd (upd H2 ll (.lst [])) ls (.lst [])) (B + 2) [] [] [] := ⟨((dk2.same s1).same s2).mono (by omega), k3, s2 _ _ upd_same, upd_same, RefL.nil⟩
    refine ⟨_, rfl, (m : Int), rfl, by omega, by omega, ?_⟩
    rw [show (m : Int).toNat = m from rfl]
    refine for_range (lo := 0) (n := m) (fun i σ H' => ∃ lens zs rows x8 x9 x10 x11, σ = [some (.ref d), some (.int m), some (.int r), some (.int longest), some (.int way), some (.int kind), some (.ref ll), some (.ref ls), x8, x9, x10, x11] ∧ TkS H d c e ll ls H' (B + 2 + 14 * (i : Int)) lens zs rows ∧
        lens.length = i ∧ rows.length = i ∧ (∀ n ∈ lens, 1 ≤ n ∧ n ≤ 20) ∧ ∀ w ∈ rows, w.length = r ∧ ∀ s ∈ w, 1 ≤ s ∧ s ≤ 1000) ⟨[], [], [], none, none, none, none, rfl, by simpa using t0, rfl, rfl, (fun n hn => by cases hn), fun w hw => by cases hw⟩ ?_ ?_
    · rintro i σ H3 hi ⟨lens, zs, rows, x8, x9, x10, x11, rfl, t, el, er, hlens, hrows⟩
      refine ⟨_, rfl, .inl ⟨rfl, _, SqL.of t.hl⟩, _, rfl, _, rfl, d, c, e, _, longest, rfl, t.dk, he, by omega, hl1, by omega, fun r5 H5 r50 r51 dk5 k5 => ⟨_, _, rfl, rfl, ?_⟩⟩
      refine ⟨_, rfl, _, _, rfl, _, rfl, h4, fun l1 nl1 => ?_⟩
      rw [mn_eq]
      have hkk : kind < (([1 + r5, 1, min 4 longest, longest] : List Int).length : Int) := q1
      obtain ⟨v, ev, hv⟩ := pick_int (l := [1 + r5, 1, min 4 longest, longest]) (Pz := fun z => 1 ≤ z ∧ z ≤ 20) q0 hkk (fun z hz => by simp only [List.mem_cons, List.mem_nil_iff, or_false] at hz; omega)
      have t5 := (t.step dk5 k5 f1.2 f2.2).same (Same.upd (o := .lst [.int (1 + r5), .int 1, .int (min 4 longest), .int longest]) nl1) f1.2 f2.2
      refine ⟨_, rfl, l1, _, _, _, rfl, rfl, SqL.of upd_same, ev, ll, _, _, rfl, rfl, t5.hl, (by rw [List.length_map]; exact Nat.lt_of_le_of_lt (show lens.length ≤ 12 by omega) (by decide)), ?_⟩
      have eap : lens.map V.int ++ [V.int v] = (lens ++ [v]).map V.int := by
        rw [List.map_append]
        rfl
      rw [eap]
      have t6 := t5.putL f1.2 nls h0l (lens' := lens ++ [v])
      refine ⟨Nat.zero_le _, fun lr nr => ?_⟩
      have t7 := t6.same (Same.upd (o := .lst []) nr) f1.2 f2.2
      have fr := t6.dk.fresh nr
      have nrl : lr ≠ ll := fun z => by rw [z, t6.hl] at nr; cases nr
      have nrs : lr ≠ ls := fun z => by rw [z, t6.hs] at nr; cases nr
      have h0r : H lr = none := by
        cases z : H lr with
        | none => rfl
        | some o =>
          have := t6.kp _ _ fr.1 fr.2 z
          rw [nr] at this
          cases this
      refine ⟨_, rfl, (r : Int), rfl, by omega, by omega, ?_⟩
      rw [show (r : Int).toNat = r from rfl]
      refine for_range (lo := 0) (n := r) (fun j σ H' => ∃ row y10 y11, σ = [some (.ref d), some (.int m), some (.int r), some (.int longest), some (.int way), some (.int kind), some (.ref ll), some (.ref ls), some (.int (0 + (i : Int))), some (.ref lr), y10, y11] ∧ TkS H d c e ll ls H' (B + 2 + 14 * (i : Int) + 1 + 3 * (j : Int)) (lens ++ [v]) zs rows ∧
          H' lr = some (.lst (row.map V.int)) ∧ row.length = j ∧ ∀ s ∈ row, 1 ≤ s ∧ s ≤ 1000) ⟨[], x10, x11, rfl, by simpa using t7, upd_same, rfl, fun s hs => by cases hs⟩ ?_ ?_
      · rintro j σ H8 hj ⟨row, y10, y11, rfl, t8, hrow, ej, hsz⟩
        refine ⟨_, rfl, d, c, e, _, 12, rfl, t8.dk, he, by omega, by decide, by decide, fun a1 H9 a10 a11 dk9 k9 => ⟨_, _, rfl, rfl, ?_⟩⟩
        have t9 := t8.step dk9 k9 f1.2 f2.2
        have hrow9 := k9 _ _ (t8.dk.neD hrow fun kvs z => nomatch z) fr.2 hrow
        refine ⟨_, rfl, _, _, rfl, rfl, _, rfl, d, c, e, _, 20, rfl, t9.dk, he, by omega, by decide, by decide, fun a2 H10 a20 a21 dk10 k10 => ⟨_, _, rfl, rfl, _, _, rfl, rfl, .inl ⟨by omega, by omega⟩, ?_⟩⟩
        have t10 := t9.step dk10 k10 f1.2 f2.2
        have hrow10 := k10 _ _ (t9.dk.neD hrow9 fun kvs z => nomatch z) fr.2 hrow9
        refine ⟨_, rfl, d, c, e, _, 1000, rfl, t10.dk, he, by omega, by decide, by decide, fun a3 H11 a30 a31 dk11 k11 => ⟨_, _, rfl, rfl, h3, fun lso nso => ?_⟩⟩
        have t11 := t10.step dk11 k11 f1.2 f2.2
        have hrow11 := k11 _ _ (t10.dk.neD hrow10 fun kvs z => nomatch z) fr.2 hrow10
        have s12 := Same.upd (o := .lst [.int (1 + a1), .int ((0 + (j : Int) + 1) * (1 + a2)), .int (1 + a3)]) nso
        have t12 := t11.same s12 f1.2 f2.2
        have hrow12 := s12 _ _ hrow11
        refine ⟨_, rfl, .inl ⟨rfl, _, SqL.of hrow12⟩, _, rfl, h2, fun l2 nl2 => ?_⟩
        have s13 := Same.upd (o := .lst [.int 30, .int 1000]) nl2
        refine ⟨lso, l2, _, _, rfl, rfl, s13 _ _ upd_same, upd_same, h5, fun l3 nl3 => ?_⟩
        have s14 := Same.upd (o := .lst ([.int (1 + a1), .int ((0 + (j : Int) + 1) * (1 + a2)), .int (1 + a3)] ++ [.int 30, .int 1000])) nl3
        have t14 := (t12.same s13 f1.2 f2.2).same s14 f1.2 f2.2
        have hrow14 := s14 _ _ (s13 _ _ hrow12)
        have hp : 1 ≤ (0 + (j : Int) + 1) * (1 + a2) ∧ (0 + (j : Int) + 1) * (1 + a2) ≤ 1000 := by
          have e0 : 0 + (j : Int) + 1 = (j : Int) + 1 := by omega
          rw [e0]
          have p1 : 1 * 1 ≤ ((j : Int) + 1) * (1 + a2) := Int.mul_le_mul (by omega) (by omega) (by decide) (by omega)
          have p2 : ((j : Int) + 1) * (1 + a2) ≤ 4 * 20 := Int.mul_le_mul (by omega) (by omega) (by omega) (by decide)
          omega
        have hww : way < (([1 + a1, (0 + (j : Int) + 1) * (1 + a2), 1 + a3, 30, 1000] : List Int).length : Int) := w1
        obtain ⟨u, eu, hu⟩ := pick_int (l := [1 + a1, (0 + (j : Int) + 1) * (1 + a2), 1 + a3, 30, 1000]) (Pz := fun z => 1 ≤ z ∧ z ≤ 1000) w0 hww (fun z hz => by
          simp only [List.mem_cons, List.mem_nil_iff, or_false] at hz
          rcases hz with z1 | z1 | z1 | z1 | z1
          · omega
          · rw [z1]
            exact hp
          · omega
          · omega
          · omega)
        refine ⟨_, rfl, l3, _, _, _, rfl, rfl, SqL.of upd_same, eu, lr, _, _, rfl, rfl, hrow14, (by rw [List.length_map]; exact Nat.lt_of_le_of_lt (show row.length ≤ 4 by omega) (by decide)), ?_⟩
        refine ⟨row ++ [u], _, _, rfl, ?_, ?_, by rw [List.length_append, List.length_singleton]; omega, fun z hz => ?_⟩
        · have t15 := t14.other (v := row.map V.int ++ [V.int u]) hrow14 h0r fr.2 nrl nrs
          exact ⟨t15.dk.mono (by omega), t15.kp, t15.hl, t15.hs, t15.rf⟩
        · rw [upd_same, List.map_append]
          rfl
        · rcases List.mem_append.mp hz with hz | hz
          · exact hsz z hz
          · rw [List.mem_singleton.mp hz]
            exact hu
      · rintro σ H8 ⟨row, y10, y11, rfl, t8, hrow, ej, hsz⟩
        refine ⟨_, rfl, .inl ⟨rfl, _, SqL.of t8.hs⟩, _, rfl, lr, _, rfl, .inl ⟨SqL.of hrow, fun tq ntq => ?_⟩⟩
        have s9 := Same.upd (o := .tup (row.map V.int)) ntq
        have t9 := t8.same s9 f1.2 f2.2
        refine ⟨ls, _, _, rfl, rfl, t9.hs, (by rw [t9.rf.1]; exact Nat.lt_of_le_of_lt (show rows.length ≤ 12 by omega) (by decide)), ?_⟩
        have t10 := t9.putR f2.2 nls h0s (q := tq) (row := row) (show upd H8 tq (.tup (row.map V.int)) tq = _ from upd_same)
        refine ⟨lens ++ [v], _, rows ++ [row], _, _, _, _, rfl, ⟨t10.dk.mono (by omega), t10.kp, t10.hl, t10.hs, t10.rf⟩, by rw [List.length_append, List.length_singleton, el], by rw [List.length_append, List.length_singleton, er], fun n hn => ?_, fun w hw => ?_⟩
        · rcases List.mem_append.mp hn with hn | hn
          · exact hlens n hn
          · rw [List.mem_singleton.mp hn]
            exact hv
        · rcases List.mem_append.mp hw with hw | hw
          · exact hrows w hw
          · rw [List.mem_singleton.mp hw]
            exact ⟨ej, hsz⟩
    · rintro σ H3 ⟨lens, zs, rows, x8, x9, x10, x11, rfl, t, el, er, hlens, hrows⟩
      refine ⟨_, rfl, ll, _, rfl, .inl ⟨SqL.of t.hl, fun t1 nt1 => ?_⟩⟩
      have s3 := Same.upd (o := .tup (lens.map V.int)) nt1
      refine ⟨_, rfl, ls, _, rfl, .inl ⟨SqL.of (s3 _ _ t.hs), fun t2 nt2 => ⟨h2, fun t3 nt3 => ?_⟩⟩⟩
      have s4 := Same.upd (o := .tup zs) nt2
      have s5 := Same.upd (o := .tup [.ref t1, .ref t2]) nt3
      have s345 := s3.trans (s4.trans s5)
      refine q t3 _ t1 t2 lens rows ((t.dk.same s345).mono (by omega)) (t.kp.trans (KeepD.of s345)) upd_same ⟨s5 _ _ (s4 _ _ upd_same), zs, s5 _ _ upd_same, t.rf.same rowT_mono s345⟩ ⟨by omega, by omega, by omega, fun n hn => ⟨(hlens n hn).1, by have := (hlens n hn).2; omega⟩, fun w hw => (hrows w hw).1, fun w hw => (hrows w hw).2, hr1, by omega⟩ el fun n hn => (hlens n hn).2
end
end Rp
/- RpL7 -/
set_option maxHeartbeats 4000000
/-! RpL7: the pieces of a road, drawn. -/
namespace Rp
open PySem PySem.Spec PyProof.Rows L2
theorem ints_of {Pz : Int → Prop} : ∀ (acc : List V), (∀ y ∈ acc, ∃ n, y = .int n ∧ Pz n) → ∃ ns : List Int, acc = ns.map V.int ∧ ∀ n ∈ ns, Pz n
  | [], _ => ⟨[], rfl, fun n hn => by cases hn⟩
  | y :: acc, h => by
    obtain ⟨n, rfl, hn⟩ := h y List.mem_cons_self
    obtain ⟨ns, e, hns⟩ := ints_of acc fun z hz => h z (List.mem_cons_of_mem _ hz)
    refine ⟨n :: ns, by rw [e]; rfl, fun m hm => ?_⟩
    rcases List.mem_cons.mp hm with e1 | hm
    · rw [e1]
      exact hn
    · exact hns m hm
theorem ints_at {Pz : Int → Prop} {acc : List V} (h : ∀ (i : Nat) (y : V), acc[i]? = some y → ∃ n, y = .int n ∧ Pz n) : ∃ ns : List Int, acc = ns.map V.int ∧ ∀ n ∈ ns, Pz n := ints_of acc fun y hy => by
  obtain ⟨i, hi⟩ := List.mem_iff_getElem?.mp hy
  exact h i y hi
theorem mxD_in {Pz : Int → Prop} {n : Int} {ns : List Int} (h : ∀ m ∈ n :: ns, Pz m) : Pz (mxD 0 (n :: ns)) := by
  show Pz (ns.foldl max n)
  rcases (foldl_max_le n ns).2.2 with e | e
  · rw [e]
    exact h n List.mem_cons_self
  · exact h _ (List.mem_cons_of_mem _ e)
/-- the pieces so far -/
structure PcS (H : Hp) (d c : Addr) (e : Nat) (lf : Addr) (H' : Hp) (A : Int) (xs : List V) (ps : List Pc) : Prop where
  dk : DkS H' d c e A
  kp : KeepD d c H H'
  hl : H' lf = some (.lst xs)
  rf : RefL pairT H' xs ps
theorem PcS.step {H H1 H2 : Hp} {d c lf : Addr} {e : Nat} {A A2 : Int} {xs : List V} {ps : List Pc} (t : PcS H d c e lf H1 A xs ps) (dk2 : DkS H2 d c e A2) (k : KeepD d c H1 H2) (n1 : lf ≠ c) : PcS H d c e lf H2 A2 xs ps :=
  ⟨dk2, t.kp.trans k, k _ _ (t.dk.neD t.hl fun kvs z => nomatch z) n1 t.hl, t.rf.1, fun i a h => let ⟨q, e, z⟩ := t.rf.2 i a h; ⟨q, e, k.tup t.dk z⟩⟩
theorem PcS.same {H H1 H2 : Hp} {d c lf : Addr} {e : Nat} {A : Int} {xs : List V} {ps : List Pc} (t : PcS H d c e lf H1 A xs ps) (s : Same H1 H2) (n1 : lf ≠ c) : PcS H d c e lf H2 A xs ps := t.step (t.dk.same s) (KeepD.of s) n1
theorem pair_lst {H : Hp} {l : Addr} {xs v zs : List V} {ps : List Pc} (r : RefL pairT H zs ps) (h : H l = some (.lst xs)) : RefL pairT (upd H l (.lst v)) zs ps :=
  ⟨r.1, fun i a hh => let ⟨q, e, z⟩ := r.2 i a hh; ⟨q, e, keep_tup z fun xs z => by rw [h] at z; cases z⟩⟩
section
variable {P : Program} {w : World} {K : PySem.W.Frag} {mg : Str → Option Value} {base : Heap}
abbrev sc_9 : Scope := { kind := .function, names := [(".0", .local), ("_law_talk_here", .local), ("max", .globalImplicit)], isGenerator := false, isCoroutine := false }
abbrev N_pc : List Str := ["_law_deck_here", "_law_talks", "_law_many", "_law_way", "_law_found", "_law_k", "_law_some", "_law_greatest", "_law_row", "_law_talk_here"]
theorem sc_pc : FnScope N_pc ["_law_deck_here", "_law_talks"] (defScope s_L_pieces) := ⟨rfl, rfl, rfl, by decide +kernel, rfl, by decide +kernel, by decide +kernel⟩
def spPc : Sp := fun vs H Q _ => ∃ (d c : Addr) (e : Nat) (A : Int) (tl t l z : Addr) (lens : List Int) (rows : List (List Int)) (r : Nat), vs = [.ref d, .ref tl] ∧ DkS H d c e A ∧ e ≤ 2000000 ∧ A ≤ 100000 ∧ tl ≠ c ∧ H tl = some (.lst [.ref t]) ∧ H t = some (.tup [.ref l, .ref z]) ∧ TkD H l z lens rows ∧ TkOk lens rows r ∧
  ∀ p H' init b dd, DkS H' d c e (A + 100) → KeepD d c H H' → PcsAt H' p (init ++ [(b, dd)]) → PcOk (init ++ [(b, dd)]) → 1 ≤ dd → ((init ++ [(b, dd)]).map (·.1)).sum ≤ 600 → Q (.ref p) H'
theorem sum_le_50 : ∀ {l : List Pc}, (∀ p ∈ l, p.1 ≤ 50) → (l.map (·.1)).sum ≤ 50 * (l.length : Int)
  | [], _ => by simp
  | p :: l, h => by
    have ih := sum_le_50 (l := l) fun q hq => h q (List.mem_cons_of_mem _ hq)
    have h0 := h p List.mem_cons_self
    rw [List.map_cons, List.sum_cons, List.length_cons]
    omega
theorem ok_pc (T : Tx K mg) : Okd P w K mg base 2 (He.fAd K ("_law_pieces", none)) ["_law_deck_here", "_law_talks"] spPc := by
  obtain ⟨fd, F⟩ := F_L_pieces T
  obtain ⟨fdd, GD, kpd, bd⟩ := ok_dr (P := P) (w := w) (base := base) T
  refine ⟨fd, okF F sc_pc (fun vs H Q E h => ?_) (fun cdv A outer s H vs Q E hr h => ?_), F.kp, FunD.bindsN F fun _ _ _ _ _ _ us hl => match us, hl with | [_, _], _ => rfl⟩
  · obtain ⟨d, c, e, A, tl, t, l, z, lens, rows, r, rfl, _⟩ := h
    rfl
  · obtain ⟨d, c, e, B, tl, t, l, z, lens, rows, r, rfl, dk, he, hB, htlc, htl, ht, td, ok, q⟩ := h
    refine ⟨_, pss_cons (ps_set (i := 2) sc_pc.nd rfl (.inl rfl) (pe_ix ix_list (pe_lst (pa_cons (pe_op op_add pe_int (pe_call GD hr rfl (g_L_draw T) kpd bd .nil pass0 (pa_cons (pv 0) (pa_cons pe_int pa_nil)))) (pa_cons pe_int pa_nil)))
        (pe_callTy call_int1 (by rfl) (f_int T) (by decide +kernel) (pa_cons (pe_cmpR op_eq (pe_call GD hr rfl (g_L_draw T) kpd bd .nil pass0 (pa_cons (pv 0) (pa_cons pe_int pa_nil))) pe_int (nomark _)) pa_nil)) (fun _ _ => rfl)))
      (pss_cons (ps_set (i := 3) sc_pc.nd rfl (.inl rfl) (pe_call GD hr rfl (g_L_draw T) kpd bd .nil pass0 (pa_cons (pv 0) (pa_cons pe_int pa_nil))))
      (pss_cons (ps_set (i := 4) sc_pc.nd rfl (.inl rfl) (pe_lst pa_nil))
      (pss_cons (ps_for PassesOwn.never rfl (pi_range1 rfl (f_range T) (pa_cons (pv 2) pa_nil)) (pg_name (i := 5) sc_pc.nd rfl (.inl rfl))
        (pss_cons (ps_set (i := 6) sc_pc.nd rfl (.inl rfl) (pe_lst (pa_cons (pe_call GD hr rfl (g_L_draw T) kpd bd .nil pass0 (pa_cons (pv 0) (pa_cons pe_int pa_nil))) (pa_cons (pe_call GD hr rfl (g_L_draw T) kpd bd .nil pass0 (pa_cons (pv 0) (pa_cons pe_int pa_nil))) (pa_cons (pe_call GD hr rfl (g_L_draw T) kpd bd .nil pass0 (pa_cons (pv 0) (pa_cons pe_int pa_nil))) (pa_cons (pe_op op_mul pe_int (pe_call GD hr rfl (g_L_draw T) kpd bd .nil pass0 (pa_cons (pv 0) (pa_cons pe_int pa_nil)))) pa_nil))))))
        (pss_one (ps_expr (pe_bm PySem.F.plainAttrs_list PySem.F.slot_list_append PySem.F.type_list_append mt_append (pv 4) (pa_cons (pe_tup (pa_cons (pe_op op_add pe_int (pe_call GD hr rfl (g_L_draw T) kpd bd .nil pass0 (pa_cons (pv 0) (pa_cons (pe_ix ix_list (pe_lst (pa_cons pe_int (pa_cons pe_int (pa_cons pe_int pa_nil)))) (pe_call GD hr rfl (g_L_draw T) kpd bd .nil pass0 (pa_cons (pv 0) (pa_cons pe_int pa_nil))) (fun _ _ => rfl)) pa_nil))))
          (pa_cons (pe_ix ix_list (pv 6) (pv 3) (fun _ _ => rfl)) pa_nil))) pa_nil))))))
      (pss_cons (ps_set (i := 7) sc_pc.nd rfl (.inl rfl) (pe_callB (cr_maxL rfl (units64 hr)) (by rfl) (f_max T) (by decide +kernel) (pa_cons (pe_lc (own := [("_law_talk_here", 9)]) (g := gName 9) (tt := tYes)
          (te := tCB (rMaxL K) (tCons (tLc (iTup K (tOp (rIxT K) (tVar 9) (tC (.int 1)))) (gName 8) tYes (tCB (rMaxT K) (tCons (tVar 8) tNil)) [8]) tNil)) (by rfl) sc_pc.nd (pi_list (pv 1)) (blkOk_by (own := [("_law_talk_here", 9)]) (N := N_pc) (sc := defScope s_L_pieces) (by decide +kernel)) (fun _ _ _ _ _ => pg_name (i := 9) sc_pc.nd rfl (.inl rfl)) (fun _ _ _ _ _ => pts_nil)
          (fun _ _ _ _ _ => pe_callB (cr_maxL rfl (units64 hr)) (by rfl) (f_max T) (by decide +kernel) (pa_cons (pe_lc (own := [("_law_row", 8)]) (g := gName 8) (tt := tYes) (te := tCB (rMaxT K) (tCons (tVar 8) tNil)) (by rfl) sc_pc.nd (pi_tup (pe_ix ix_tup (pv 9) pe_int (fun _ _ => rfl))) (blkOk_by (own := [("_law_row", 8)]) (N := N_pc) (sc := sc_9) (by decide +kernel))
            (fun _ _ _ _ _ => pg_name (i := 8) sc_pc.nd rfl (.inl rfl)) (fun _ _ _ _ _ => pts_nil) (fun _ _ _ _ _ => pe_callB (cr_maxT rfl (units64 hr)) (by rfl) (f_max T) (by decide +kernel) (pa_cons (pv 8) pa_nil))) pa_nil))) pa_nil)))
      (pss_cons (ps_asg (pe_tup (pa_cons (pe_ix ix_tup (pe_ix ix_list (pv 4) (pe_un un_neg pe_int) (fun _ _ => rfl)) pe_int (fun _ _ => rfl)) (pa_cons (pe_callB (call_max2 rfl) (by rfl) (f_max T) (by decide +kernel) (pa_cons (pe_ix ix_tup (pe_ix ix_list (pv 4) (pe_un un_neg pe_int) (fun _ _ => rfl)) pe_int (fun _ _ => rfl)) (pa_cons (pe_op op_add pe_int (pe_op op_fdivN (pv 7) pe_int)) pa_nil))) pa_nil)))
          (pg_sub (pv 4) (pe_un un_neg pe_int) set_list))
      (pss_one (ps_ret (pe_callTy call_tuple_of (by rfl) (f_tuple T) (by decide +kernel) (pa_cons (pv 4) pa_nil))))))))), ?_⟩
    have h2 : 2 ≤ sizeLine := by decide
    have h3 : 3 ≤ sizeLine := by decide
    have h4 : 4 ≤ sizeLine := by decide
    refine ⟨_, rfl, d, c, e, B, 6, rfl, dk, he, by omega, by decide, by decide, fun r1 H1 r10 r11 dk1 k1 => ⟨_, _, rfl, rfl, h2, fun l1 nl1 => ?_⟩⟩
    have s1 := Same.upd (o := .lst [.int (1 + r1), .int 12]) nl1
    have f1 := dk1.fresh nl1
    refine ⟨_, rfl, d, c, e, _, 8, rfl, dk1.same s1, he, by omega, by decide, by decide, fun r2 H2 r20 r21 dk2 k2 => ⟨rfl, .inr ⟨_, rfl, ?_⟩⟩⟩
    have hl1 := k2 _ _ f1.1 f1.2 (show upd H1 l1 (.lst [.int (1 + r1), .int 12]) l1 = _ from upd_same)
    have hix : 0 ≤ (if decide (V.int r2 = V.int 5) = true then (1 : Int) else 0) ∧ (if decide (V.int r2 = V.int 5) = true then (1 : Int) else 0) < (([1 + r1, 12] : List Int).length : Int) := by
      split
      · exact ⟨by decide, by show (1 : Int) < 2; decide⟩
      · exact ⟨by decide, by show (0 : Int) < 2; decide⟩
    obtain ⟨many, em, hm1, hm2⟩ := pick_int (l := [1 + r1, 12]) (Pz := fun z => 1 ≤ z ∧ z ≤ 12) hix.1 hix.2 (fun z hz => by simp only [List.mem_cons, List.mem_nil_iff, or_false] at hz; omega)
    refine ⟨l1, _, _, _, rfl, rfl, SqL.of hl1, em, ?_⟩
    have k3 := k1.trans ((KeepD.of s1).trans k2)
    refine ⟨_, rfl, d, c, e, _, 4, rfl, dk2, he, by omega, by decide, by decide, fun way H4 w0 w1 dk4 k4 => ?_⟩
    refine ⟨Nat.zero_le _, fun lf nlf => ?_⟩
    have ff := dk4.fresh nlf
    have s4 := Same.upd (o := .lst []) nlf
    have h0f : H lf = none := by
      cases z : H lf with
      | none => rfl
      | some o =>
        have := k4 _ _ ff.1 ff.2 (k3 _ _ ff.1 ff.2 z)
        rw [nlf] at this
        cases this
    have t0 : PcS H d c e lf (upd H4 lf (.lst [])) (B + 3) [] [] := ⟨(dk4.same s4).mono (by omega), k3.trans (k4.trans (KeepD.of s4)), upd_same, RefL.nil⟩
    obtain ⟨mm, rfl⟩ := Int.eq_ofNat_of_zero_le (show 0 ≤ many by omega)
    refine ⟨_, rfl, (mm : Int), rfl, by omega, by omega, ?_⟩
    rw [show (mm : Int).toNat = mm from rfl]
    refine for_range (lo := 0) (n := mm) (fun i σ H' => ∃ xs ps x5 x6, σ = [some (.ref d), some (.ref tl), some (.int mm), some (.int way), some (.ref lf), x5, x6, none, none, none] ∧ PcS H d c e lf H' (B + 3 + 6 * (i : Int)) xs ps ∧ ps.length = i ∧ ∀ p ∈ ps, 1 ≤ p.1 ∧ p.1 ≤ 50 ∧ 0 ≤ p.2 ∧ p.2 ≤ 1000)
      ⟨[], [], none, none, rfl, by simpa using t0, rfl, fun p hp => by cases hp⟩ ?_ ?_
    · rintro i σ H5 hi ⟨xs, ps, x5, x6, rfl, t5, el, hps⟩
      refine ⟨_, rfl, d, c, e, _, 12, rfl, t5.dk, he, by omega, by decide, by decide, fun a1 H6 a10 a11 dk6 k6 => ?_⟩
      have t6 := t5.step dk6 k6 ff.2
      refine ⟨_, rfl, d, c, e, _, 60, rfl, t6.dk, he, by omega, by decide, by decide, fun a2 H7 a20 a21 dk7 k7 => ?_⟩
      have t7 := t6.step dk7 k7 ff.2
      refine ⟨_, rfl, d, c, e, _, 1001, rfl, t7.dk, he, by omega, by decide, by decide, fun a3 H8 a30 a31 dk8 k8 => ?_⟩
      have t8 := t7.step dk8 k8 ff.2
      refine ⟨_, rfl, d, c, e, _, 2, rfl, t8.dk, he, by omega, by decide, by decide, fun a4 H9 a40 a41 dk9 k9 => ⟨_, _, rfl, rfl, .inl ⟨by decide, by decide⟩, h4, fun ls nls => ?_⟩⟩
      have s9 := Same.upd (o := .lst [.int a1, .int a2, .int a3, .int (30 * a4)]) nls
      have t9 := (t8.step dk9 k9 ff.2).same s9 ff.2
      have fs := dk9.fresh nls
      refine ⟨_, rfl, .inl ⟨rfl, _, SqL.of t9.hl⟩, ?_⟩
      refine ⟨_, rfl, h3, fun l3 nl3 => ?_⟩
      have s10 := Same.upd (o := .lst [.int 4, .int 12, .int 50]) nl3
      have t10 := t9.same s10 ff.2
      have f3 := t9.dk.fresh nl3
      refine ⟨_, rfl, d, c, e, _, 3, rfl, t10.dk, he, by omega, by decide, by decide, fun a5 H11 a50 a51 dk11 k11 => ?_⟩
      have t11 := t10.step dk11 k11 ff.2
      have hl3 := k11 _ _ f3.1 f3.2 (show upd _ l3 (.lst [.int 4, .int 12, .int 50]) l3 = _ from upd_same)
      have hls := k11 _ _ fs.1 fs.2 (s10 _ _ (show upd H9 ls (.lst [.int a1, .int a2, .int a3, .int (30 * a4)]) ls = _ from upd_same))
      obtain ⟨sd, esd, hsd1, hsd2⟩ := pick_int (l := [4, 12, 50]) (Pz := fun z => 1 ≤ z ∧ z ≤ 50) a50 a51 (fun z hz => by simp only [List.mem_cons, List.mem_nil_iff, or_false] at hz; omega)
      refine ⟨l3, _, _, _, rfl, rfl, SqL.of hl3, esd, d, c, e, _, sd, rfl, t11.dk, he, by omega, by omega, by omega, fun a6 H12 a60 a61 dk12 k12 => ⟨_, _, rfl, rfl, ?_⟩⟩
      have t12 := t11.step dk12 k12 ff.2
      have hls2 := k12 _ _ fs.1 fs.2 hls
      have hww : way < (([a1, a2, a3, 30 * a4] : List Int).length : Int) := w1
      obtain ⟨u, eu, hu1, hu2⟩ := pick_int (l := [a1, a2, a3, 30 * a4]) (Pz := fun z => 0 ≤ z ∧ z ≤ 1000) w0 hww (fun z hz => by simp only [List.mem_cons, List.mem_nil_iff, or_false] at hz; omega)
      refine ⟨_, rfl, _, rfl, ls, _, _, _, rfl, rfl, SqL.of hls2, eu, h2, fun pq npq => ?_⟩
      have s13 := Same.upd (o := .tup [.int (1 + a6), .int u]) npq
      have t13 := t12.same s13 ff.2
      refine ⟨lf, _, _, rfl, rfl, t13.hl, (by rw [t13.rf.1]; exact Nat.lt_of_le_of_lt (show ps.length ≤ 12 by omega) (by decide)), ?_⟩
      refine ⟨xs ++ [.ref pq], ps ++ [(1 + a6, u)], _, _, rfl, ⟨(t13.dk.upd ff.1 ff.2).mono (by omega), fun b o n1 n2 h => by rw [upd_ne (ne_of_none h h0f)]; exact t13.kp b o n1 n2 h, upd_same, pair_lst (t13.rf.snoc (show pairT _ pq (1 + a6, u) from upd_same)) t13.hl⟩, by rw [List.length_append, List.length_singleton, el], fun p hp => ?_⟩
      rcases List.mem_append.mp hp with hp | hp
      · exact hps p hp
      · rw [List.mem_singleton.mp hp]
        exact ⟨by show 1 ≤ 1 + a6; omega, by show 1 + a6 ≤ 50; omega, hu1, hu2⟩
    · rintro σ H5 ⟨xs, ps, x5, x6, rfl, t5, el, hps⟩
      have htl5 := t5.kp _ _ (dk.neD htl fun kvs z => nomatch z) htlc htl
      have ht5 := t5.kp.tup dk ht
      obtain ⟨zs, hz, rz⟩ := td.hz
      have hz5 := t5.kp.tup dk hz
      have rz5 : ∀ (i : Nat) (row : List Int), rows[i]? = some row → ∃ qq, zs[i]? = some (.ref qq) ∧ rowT H5 qq row := fun i a h => let ⟨qq, e, z⟩ := rz.2 i a h; ⟨qq, e, t5.kp.tup dk z⟩
      refine ⟨_, rfl, tl, rfl, ⟨_, SqL.of htl5⟩, fun D1 nD1 => ?_⟩
      refine lc_map (walk_list (K := K) (a := tl) (xs := [.ref t])) (fun i y _ => ∃ n, y = .int n ∧ 0 ≤ n ∧ n ≤ 1000) (fun _ _ _ _ _ h => h) nD1 (fun G s6 => SqL.of (s6 _ _ htl5)) (by show 1 < sizeLine; decide) (fun i x G G' hi s6 hy Kq hq => ?_) fun acc G s6 hl hacc hD1 => ?_
      · obtain ⟨rfl, hy⟩ := hy
        have hi1 : i < 1 := hi
        have ei : i = 0 := by omega
        subst ei
        cases hy
        refine ⟨rfl, _, rfl, t, _, _, _, rfl, rfl, SqT.of (s6 _ _ ht5), atI_nat (j := 1) rfl, z, rfl, ⟨_, SqT.of (s6 _ _ hz5)⟩, fun D2 nD2 => ?_⟩
        have hrl : zs.length < sizeLine := Nat.lt_of_le_of_lt (by rw [rz.1, ← ok.len]; exact ok.few) (by decide)
        refine lc_map (walk_tup (K := K) (a := z) (xs := zs)) (fun i y _ => ∃ n, y = .int n ∧ 0 ≤ n ∧ n ≤ 1000) (fun _ _ _ _ _ h => h) nD2 (fun G2 s7 => SqT.of (s7 _ _ (s6 _ _ hz5))) hrl (fun j y G2 G3 hj s7 hy Kq2 hq2 => ?_) fun acc G2 s7 hl2 hacc2 hD2 => ?_
        · obtain ⟨rfl, hy⟩ := hy
          have hjr : j < rows.length := by rw [← rz.1]; exact hj
          obtain ⟨qq, e1, hqq⟩ := rz5 j _ (List.getElem?_eq_getElem hjr)
          rw [e1] at hy
          cases hy
          have hqq2 := s7 _ _ (s6 _ _ hqq)
          have hrm := List.getElem_mem hjr
          have hrlen := ok.row _ hrm
          have hrsz := ok.sz _ hrm
          have hr1 := ok.r1
          generalize rows[j] = row at hqq2 hrlen hrsz
          cases row with
          | nil =>
            have : 0 = r := hrlen
            omega
          | cons n nr =>
            refine ⟨rfl, _, rfl, qq, n, nr, rfl, SqT.of hqq2, hq2 _ _ (Same.refl _) ⟨_, rfl, ?_⟩⟩
            exact mxD_in (Pz := fun z => 0 ≤ z ∧ z ≤ 1000) fun m hm => by have := hrsz m hm; omega
        · obtain ⟨ns, rfl, hns⟩ := ints_at (Pz := fun z => 0 ≤ z ∧ z ≤ 1000) hacc2
          have hnl : 0 < ns.length := by
            rw [List.length_map] at hl2
            rw [hl2, rz.1, ← ok.len]
            exact ok.pos
          cases ns with
          | nil => exact absurd hnl (Nat.lt_irrefl _)
          | cons n nr => exact ⟨D2, n, nr, rfl, SqL.of hD2, hq _ _ s7 ⟨_, rfl, mxD_in hns⟩⟩
      · obtain ⟨ns, rfl, hns⟩ := ints_at (Pz := fun z => 0 ≤ z ∧ z ≤ 1000) hacc
        have hnl : ns.length = 1 := by
          rw [List.length_map] at hl
          exact hl
        cases ns with
        | nil => cases hnl
        | cons n nr =>
          have hg := mxD_in hns
          refine ⟨D1, n, nr, rfl, SqL.of hD1, ?_⟩
          generalize mxD 0 (n :: nr) = gr at hg
          have t6 := t5.same s6 ff.2
          have hpl : 0 < ps.length := by omega
          have ep := List.dropLast_concat_getLast (List.length_pos_iff.mp hpl)
          have hlm := hps _ (List.getLast_mem (List.length_pos_iff.mp hpl))
          have hdm : ∀ p ∈ ps.dropLast, p ∈ ps := fun p hp => List.dropLast_subset _ hp
          have hdl : ps.dropLast.length + 1 = mm := by rw [List.length_dropLast]; omega
          generalize hpl2 : ps.getLast (List.length_pos_iff.mp hpl) = pl at ep hlm
          obtain ⟨pb, psd⟩ := pl
          generalize ps.dropLast = init at ep hdm hdl
          subst ep
          obtain ⟨ql, exs, hql⟩ := refs_last t6.rf
          have hx0 : RefL pairT G (xs.take init.length) init := by
            have r0 := t6.rf.take init.length
            rwa [List.take_left] at r0
          have hxl : (xs.take init.length).length = init.length := hx0.1
          have hlf := t6.hl
          rw [exs] at hlf
          have hdivp : 0 ≤ gr.fdiv 40 ∧ gr.fdiv 40 ≤ 1000 := by
            rw [Int.fdiv_eq_ediv_of_nonneg _ (by decide)]
            omega
          refine ⟨_, rfl, _, rfl, lf, _, _, _, rfl, rfl, SqL.of hlf, atI_last _ _, ql, _, _, _, rfl, rfl, SqT.of hql, atI_nat (j := 0) rfl,
            _, rfl, _, rfl, lf, _, _, _, rfl, rfl, SqL.of hlf, atI_last _ _, ql, _, _, _, rfl, rfl, SqT.of hql, atI_nat (j := 1) rfl, _, rfl, _, _, rfl, rfl, ⟨by decide, by decide⟩, _, _, rfl, rfl, _, _, rfl, h2, fun pn npn => ?_⟩
          rw [mx_eq]
          have s7 := Same.upd (o := .tup [.int pb, .int (max psd (1 + gr.fdiv 40))]) npn
          have t7 := t6.same s7 ff.2
          have hlf7 := s7 _ _ hlf
          refine ⟨_, rfl, _, rfl, lf, _, _, init.length, rfl, rfl, hlf7, ?_, ?_⟩
          · rw [List.length_append, hxl]
            show ixN (init.length + 1) (-1) = _
            unfold ixN
            rw [if_neg (by decide), if_pos (by omega)]
            congr 1
            omega
          · have eset : (xs.take init.length ++ [V.ref ql]).set init.length (V.ref pn) = xs.take init.length ++ [V.ref pn] := by
              rw [List.set_append_right _ _ (by omega), hxl, Nat.sub_self]
              rfl
            rw [eset]
            have hp7 : pairT _ pn (pb, max psd (1 + gr.fdiv 40)) := (show upd G pn (.tup [.int pb, .int (max psd (1 + gr.fdiv 40))]) pn = _ from upd_same)
            have r8 : RefL pairT (upd (upd G pn (.tup [.int pb, .int (max psd (1 + gr.fdiv 40))])) lf (.lst (xs.take init.length ++ [.ref pn]))) (xs.take init.length ++ [.ref pn]) (init ++ [(pb, max psd (1 + gr.fdiv 40))]) :=
              pair_lst ((hx0.same pairT_mono s7).snoc hp7) hlf7
            refine ⟨_, rfl, lf, _, rfl, .inl ⟨SqL.of upd_same, fun pt npt => ?_⟩⟩
            have s9 := Same.upd (o := .tup (xs.take init.length ++ [.ref pn])) npt
            have hok : ∀ p ∈ init ++ [(pb, max psd (1 + gr.fdiv 40))], 1 ≤ p.1 ∧ p.1 ≤ 50 ∧ 0 ≤ p.2 ∧ p.2 ≤ 1001 := fun p hp => by
              rcases List.mem_append.mp hp with hp | hp
              · have := hps p (List.mem_append_left _ hp)
                omega
              · rw [List.mem_singleton.mp hp]
                exact ⟨hlm.1, hlm.2.1, by show 0 ≤ max psd (1 + gr.fdiv 40); omega, by have := hlm.2.2.2; show max psd (1 + gr.fdiv 40) ≤ 1001; omega⟩
            refine q pt _ init pb (max psd (1 + gr.fdiv 40)) (((t7.dk.upd ff.1 ff.2).same s9).mono (by omega)) (fun b o n1 n2 h => s9 _ _ (by rw [upd_ne (ne_of_none h h0f)]; exact t7.kp b o n1 n2 h)) ⟨_, upd_same, r8.same pairT_mono s9⟩ (fun p hp => by have := hok p hp; exact ⟨this.1, by omega, this.2.2.1, by omega⟩) (by omega) ?_
            have hs := sum_le_50 (l := init ++ [(pb, max psd (1 + gr.fdiv 40))]) fun p hp => (hok p hp).2.1
            rw [List.length_append, List.length_singleton] at hs
            exact Int.le_trans hs (by omega)
end
end Rp
/- RpL8 -/
set_option maxHeartbeats 4000000
/-! RpL8: a rule, drawn. -/
namespace Rp
open PySem PySem.Spec PyProof.Rows L2 LamX NdefX
def exD (d c : Addr) : Addr → Prop := fun b => b = d ∨ b = c
theorem pick_v {l : List V} {i : Int} (h0 : 0 ≤ i) (h1 : i < (l.length : Int)) : ∃ v ∈ l, atI l i = some v := by
  obtain ⟨k, rfl⟩ := Int.eq_ofNat_of_zero_le h0
  have hk : k < l.length := by omega
  exact ⟨l[k], List.getElem_mem hk, atI_nat (List.getElem?_eq_getElem hk)⟩
/-- the state while a rule is drawn -/
structure RlS (K : PySem.W.Frag) (H : Hp) (d c : Addr) (e : Nat) (H' : Hp) (A : Int) : Prop where
  dk : DkS H' d c e A
  kx : KeepX (exD d c) H H'
  tb : Tabs (T4 K) H'
theorem DkS.exOk {H : Hp} {d c : Addr} {e : Nat} {A : Int} (h : DkS H d c e A) : ExOk (exD d c) H := fun b hb => by
  obtain ⟨ns, seed, at_, h1, h2, _⟩ := h
  rcases hb with e | e
  · rw [e]
    exact .inr ⟨_, h1⟩
  · rw [e]
    exact .inl ⟨_, h2⟩
theorem KeepD.x {d c : Addr} {H H' : Hp} (k : KeepD d c H H') : KeepX (exD d c) H H' := fun b o h n _ => k b o (fun z => n (.inl z)) (fun z => n (.inr z)) h
theorem DkS.extN {H H' : Hp} {d c : Addr} {e : Nat} {A : Int} (h : DkS H d c e A) (s : ExtN H H') : DkS H' d c e A := let ⟨ns, seed, at_, h1, h2, h3⟩ := h; ⟨ns, seed, at_, s _ _ h1 (fun ps z => nomatch z), s _ _ h2 (fun ps z => nomatch z), h3⟩
theorem Tabs.keepD {T : List (Addr × Str)} {H H' : Hp} {d c : Addr} {e : Nat} {A : Int} (t : Tabs T H) (dk : DkS H d c e A) (k : KeepD d c H H') : Tabs T H' := fun p hp => by
  obtain ⟨ps, h1, h2, h3⟩ := t p hp
  refine ⟨ps, k _ _ (dk.neD h1 fun kvs z => nomatch z) (dk.neC h1 fun kvs z => nomatch z) h1, h2, fun pos cv hc => ?_⟩
  obtain ⟨cc, e1, e2⟩ := h3 pos cv hc
  refine ⟨cc, e1, k _ _ (dk.neD e2 fun kvs z => ?_) (dk.neC e2 fun kvs z => ?_) e2⟩
  · exact nomatch (show HO.ext _ = HO.dK _ from z)
  · exact nomatch (show HO.ext _ = HO.lst _ from z)
section
variable {K : PySem.W.Frag} {H H1 H2 : Hp} {d c : Addr} {e : Nat} {A A2 : Int}
theorem RlS.step (t : RlS K H d c e H1 A) (dk2 : DkS H2 d c e A2) (k : KeepD d c H1 H2) : RlS K H d c e H2 A2 := ⟨dk2, t.kx.trans k.x, Tabs.keepD t.tb t.dk k⟩
theorem RlS.same (t : RlS K H d c e H1 A) (s : Same H1 H2) : RlS K H d c e H2 A := t.step (t.dk.same s) (KeepD.of s)
theorem RlS.ext (t : RlS K H d c e H1 A) (s : ExtN H1 H2) (tb : Tabs (T4 K) H2) : RlS K H d c e H2 A := ⟨t.dk.extN s, t.kx.trans (KeepX.ofN s), tb⟩
theorem RlS.keepI (t : RlS K H d c e H1 A) (dk : DkS H d c e A2) : KeepI H H1 := fun b o h n1 n2 n3 n4 => t.kx b o h (dk.exOk.not (ExtN.refl H) h n1 n2) n3
theorem RlS.lst (t : RlS K H d c e H1 A) {D : Addr} {xs v : List V} (hD : H1 D = some (.lst xs)) (h0 : H D = none ∨ ∃ ps, H D = some (.tbl ps)) (n1 : D ≠ d) (n2 : D ≠ c) : RlS K H d c e (upd H1 D (.lst v)) A := by
  refine ⟨t.dk.upd n1 n2, fun b o h n tt => by
    rw [upd_ne]
    · exact t.kx b o h n tt
    · rintro rfl
      rcases h0 with z | ⟨ps, z⟩
      · rw [z] at h
        cases h
      · rw [z] at h
        exact tt ps (Option.some.inj h).symm, fun p hp => ?_⟩
  obtain ⟨ps, h1, h2, h3⟩ := t.tb p hp
  refine ⟨ps, by rw [upd_ne (ne_of h1 hD (by intro z; cases z))]; exact h1, h2, fun pos cv hc => ?_⟩
  obtain ⟨cc, e1, e2⟩ := h3 pos cv hc
  exact ⟨cc, e1, by rw [upd_ne (ne_of e2 hD (fun z => nomatch (show HO.ext _ = HO.lst _ from z)))]; exact e2⟩
theorem RlS.none (t : RlS K H d c e H1 A) (h : DkS H d c e A2) {D : Addr} (hD : H1 D = none) (tb : Tabs (T4 K) H) : H D = none ∨ ∃ ps, H D = some (.tbl ps) := by
  have f := t.dk.fresh hD
  cases z : H D with
  | none => exact .inl rfl
  | some o =>
    cases o with
    | tbl ps => exact .inr ⟨ps, rfl⟩
    | _ =>
      have := t.kx D _ z (fun q => q.elim f.1 f.2) (fun ps q => nomatch q)
      rw [hD] at this
      cases this
theorem TkD.keepI {H H0 : Hp} {l z : Addr} {lens : List Int} {rows : List (List Int)} (h : TkD H l z lens rows) (k : KeepI H H0) : TkD H0 l z lens rows := by
  obtain ⟨hl, zs, hz, r⟩ := h
  exact ⟨k.tup hl, zs, k.tup hz, r.1, fun i a h => let ⟨q, e, z⟩ := r.2 i a h; ⟨q, e, k.tup z⟩⟩
end
section
variable {P : Program} {w : World} {K : PySem.W.Frag} {mg : Str → Option Value} {base : Heap}
abbrev sc_lam : Scope := { kind := .function, names := [("_law_seen", .local), ("_law_row", .free)], isGenerator := false, isCoroutine := false }
abbrev N_lam : List Str := ["_law_seen", "_law_row"]
theorem cs_lam : CScope N_lam "_law_seen" ["_law_row"] sc_lam := cscope_by (by decide +kernel)
abbrev N_rl : List Str := ["_law_deck_here", "_law_talk_here", "_law_way", "_law_base", "_law_store", "_law_speedy", "_law_row", "_law_k"]
theorem sc_rl : FnScope N_rl ["_law_deck_here", "_law_talk_here"] (defScope s_L_rule) := ⟨rfl, rfl, rfl, by decide +kernel, rfl, by decide +kernel, by decide +kernel⟩
theorem fr_lam : ∀ y ∈ sc_lam.names, y.2 = .free → (defScope s_L_rule).names.lookup y.1 = some .cell ∨ (defScope s_L_rule).names.lookup y.1 = some .free := by decide +kernel
theorem ce_lam : ∀ y ∈ (["_law_row"] : List Str), (defScope s_L_rule).names.lookup y = some .cell := by decide +kernel
theorem fm_lam : ∀ y ∈ (["_law_row"] : List Str), (y, NameKind.free) ∈ sc_lam.names := by decide +kernel
theorem fi_lam : ∀ y ∈ sc_lam.names, y.2 = .free → y.1 ∈ (["_law_row"] : List Str) := by decide +kernel
def spRl (P : Program) (w : World) (K : PySem.W.Frag) (mg : Str → Option Value) (base : Heap) : Sp := fun vs H Q _ => ∃ (d c : Addr) (e : Nat) (A : Int) (t l z : Addr) (lens : List Int) (rows : List (List Int)) (r : Nat), vs = [.ref d, .ref t] ∧ DkS H d c e A ∧ e ≤ 2000000 ∧ A ≤ 100000 ∧ H t = some (.tup [.ref l, .ref z]) ∧ TkD H l z lens rows ∧ TkOk lens rows r ∧
  Tabs (T4 K) H ∧ ∀ f H', RlS K H d c e H' (A + 100) → Clo P w K mg base 8 (exD d c) H' f (spC (PreSeen K lens.length) PostFlat) → Q (.ref f) H'
abbrev tPick : TE := tCall spPk [] E0 (tCons (tVar 0) (tCons (tLst (tCons (tC (.int 0)) (tCons (tC (.int 1)) (tCons (tC (.int 2)) (tCons (tC (.int 3)) (tCons (tC .non) (tCons (tC (.bl true)) (tCons (tC (.int 9)) (tCons (tUn (rU fun i => .int (-i)) (tC (.int 1))) (tCons (tC (.str "1")) tNil)))))))))) tNil))
theorem ok_rl (T : Tx K mg) (TB : TbOk K mg base) : Okd P w K mg base 3 (He.fAd K ("_law_rule", none)) ["_law_deck_here", "_law_talk_here"] (spRl P w K mg base) := by
  obtain ⟨fd, F⟩ := F_L_rule T
  obtain ⟨fdd, GD, kpd, bd⟩ := ok_dr (P := P) (w := w) (base := base) T
  obtain ⟨fdp, GP, kpp, bp⟩ := ok_pk (P := P) (w := w) (base := base) T
  obtain ⟨fds, GS, kps, bs⟩ := ok_bst (P := P) (w := w) T TB
  obtain ⟨fdv, GV, kpv, kbv⟩ := ok_bsp (P := P) (w := w) T TB
  obtain ⟨fdc, GC, kpc, bc⟩ := ok_cm (P := P) (w := w) T TB
  obtain ⟨fdt, GT, kpt, bt⟩ := ok_Ti (P := P) (w := w) (base := base) T
  refine ⟨fd, fn_pub F sc_rl (fun vs H Q E h => ?_) (fun cdv A outer s H vs Q E hcd ecd hr h => ?_), F.kp, FunD.bindsN F fun _ _ _ _ _ _ us hl => match us, hl with | [_, _], _ => rfl⟩
  · obtain ⟨d, c, e, A, t, l, z, lens, rows, r, rfl, _⟩ := h
    rfl
  · obtain ⟨d, c, e, B, t, l, z, lens, rows, r, rfl, dk, he, hB, ht, td, ok, htb, q⟩ := h
    have hcode := code_at F hcd ecd
    have hmem : ((He.cT K ("_law_rule", none)).2, (("_law_rule" : Str) ++ ".<locals>.") ++ "<lambda>") ∈ T4 K := List.mem_cons_of_mem _ (List.mem_cons_of_mem _ (List.mem_cons_of_mem _ List.mem_cons_self))
    have hr1 := hr.mono (show 1 ≤ 2 by decide)
    refine ⟨_, psr_cons (ps_set (i := 2) sc_rl.nd rfl (.inl rfl) (pe_call GD hr1 rfl (g_L_draw T) kpd bd .nil pass0 (pa_cons (pv 0) (pa_cons pe_int pa_nil))))
      (psr_cons (ps_set (i := 3) sc_rl.nd rfl (.inr rfl) (pe_op op_add pe_int (pe_call GD hr1 rfl (g_L_draw T) kpd bd .nil pass0 (pa_cons (pv 0) (pa_cons pe_int pa_nil)))))
      (psr_cons (ps_set (i := 4) sc_rl.nd rfl (.inl rfl) (pe_call GS hr1 rfl (g_by_store T) kps bs .nil pass0 (pa_cons (pe_callTy call_tuple_of (by rfl) (f_tuple T) (by decide +kernel) (pa_cons (pe_lc (own := [("_law_k", 7)]) (g := gName 7) (tt := tYes) (te := tOp (rI CMul fun i j => .int (i * j)) (tVar 3) (tOp (rI0 fun i j => .int (i + j)) (tVar 7) (tC (.int 1)))) (by rfl) sc_rl.nd
          (pi_range1 rfl (f_range T) (pa_cons (pe_op op_sub (pe_callB call_len_seq (by rfl) (f_len T) PySem.boot_len (pa_cons (pe_ix ix_tup (pe_ix ix_tup (pv 1) pe_int (fun _ _ => rfl)) pe_int (fun _ _ => rfl)) pa_nil)) pe_int) pa_nil)) (blkOk_by (own := [("_law_k", 7)]) (N := N_rl) (sc := defScope s_L_rule) (by decide +kernel))
          (fun _ _ _ _ _ => pg_name (i := 7) sc_rl.nd rfl (.inl rfl)) (fun _ _ _ _ _ => pts_nil) (fun _ _ _ _ _ => pe_op op_mul (pv 3) (pe_op op_add (pv 7) pe_int))) pa_nil)) pa_nil)))
      (psr_cons (ps_set (i := 5) sc_rl.nd rfl (.inl rfl) (pe_callN GV hr1 rfl (g_by_speed T) kpv kbv pass0 (pa_cons (pe_make (m_Talk T) GT hr rfl (g_Talk T) bt .nil pass0 (pa_cons (pe_ix ix_tup (pv 1) pe_int (fun _ _ => rfl)) (pa_cons (pe_ix ix_tup (pv 1) pe_int (fun _ _ => rfl)) pa_nil))) pa_nil)
          (pk_cons (pe_call GP hr rfl (g_L_pick T) kpp bp .nil pass0 (pa_cons (pv 0) (pa_cons (pe_lst (pa_cons (pe_tup (pa_cons pe_int (pa_cons pe_int pa_nil))) (pa_cons (pe_tup (pa_cons pe_int (pa_cons pe_int pa_nil))) (pa_cons (pe_tup (pa_cons pe_int (pa_cons pe_int pa_nil))) (pa_cons (pe_tup (pa_cons pe_int (pa_cons pe_int pa_nil))) pa_nil))))) pa_nil))) pk_nil)))
      (psr_cons (ps_set (i := 6) sc_rl.nd rfl (.inr rfl) (pe_lc (own := [("_law_k", 7)]) (g := gName 7) (tt := tYes) (te := tPick) (by rfl) sc_rl.nd (pi_range1 rfl (f_range T) (pa_cons pe_int pa_nil)) (blkOk_by (own := [("_law_k", 7)]) (N := N_rl) (sc := defScope s_L_rule) (by decide +kernel))
          (fun _ _ _ _ _ => pg_name (i := 7) sc_rl.nd rfl (.inl rfl)) (fun _ _ _ _ _ => pts_nil) (fun _ _ _ _ _ => pe_call GP hr rfl (g_L_pick T) kpp bp .nil pass0 (pa_cons (pv 0) (pa_cons (pe_lst (pa_cons pe_int (pa_cons pe_int (pa_cons pe_int (pa_cons pe_int (pa_cons pe_non (pa_cons pe_bl (pa_cons pe_int (pa_cons (pe_un un_neg pe_int) (pa_cons pe_str pa_nil)))))))))) pa_nil)))))
      (psr_ret (pe_ix ix_list (pe_lst (pa_cons (pv 4) (pa_cons (pv 5) (pa_cons (pe_call GC hr1 rfl (g_calm T) kpc bc .nil pass0 (pa_cons (pv 4) pa_nil)) (pa_cons (pe_call GC hr1 rfl (g_calm T) kpc bc .nil pass0 (pa_cons (pv 5) pa_nil))
          (pa_cons (pe_lam1 (T := T4 K) (TB ("_law_rule", none) (by simp [tf])) hcode hmem (uq_T4 T hmem) rfl fr_lam) pa_nil)))))) (pv 2) (fun _ _ => rfl))))))), ?_⟩
    have h2 : 2 ≤ sizeLine := by decide
    have h4 : 4 ≤ sizeLine := by decide
    have h5 : 5 ≤ sizeLine := by decide
    have h9 : 9 ≤ sizeLine := by decide
    have t0 : RlS K H d c e H B := ⟨dk, KeepX.refl H, htb⟩
    refine ⟨_, rfl, d, c, e, B, 5, rfl, dk, he, by omega, by decide, by decide, fun way H1 w0 w1 dk1 k1 => ?_⟩
    have t1 := t0.step dk1 k1
    refine ⟨_, rfl, d, c, e, _, 9, rfl, dk1, he, by omega, by decide, by decide, fun b1 H2 b10 b11 dk2 k2 => ⟨_, _, rfl, rfl, ?_⟩⟩
    have t2 := t1.step dk2 k2
    have kI2 := t2.keepI dk
    have ht2 := kI2.tup ht
    have td2 := td.keepI kI2
    obtain ⟨zs, hz2, rz2⟩ := td2.hz
    have hrpos : 0 < rows.length := by have := ok.pos; have := ok.len; omega
    obtain ⟨q0, e0, hq0⟩ := atI_ref rz2 (i := 0) [] (Int.le_refl _) (by omega)
    have hrow0 : (rows.getD (0 : Int).toNat []).length = r := by
      show (rows.getD 0 []).length = r
      rw [List.getD_eq_getElem?_getD, List.getElem?_eq_getElem hrpos]
      exact ok.row _ (List.getElem_mem hrpos)
    have hr12 := ok.r1
    have hr13 := ok.r2
    refine ⟨_, rfl, t, _, _, _, rfl, rfl, SqT.of ht2, atI_nat (j := 1) rfl, z, _, _, _, rfl, rfl, SqT.of hz2, e0, q0, _, rfl, .inr (SqT.of hq0), ?_⟩
    rw [List.length_map, hrow0]
    refine ⟨_, _, rfl, rfl, _, rfl, by omega, by omega, fun D nD => ?_⟩
    refine lc_map (walk_range (lo := 0) (n := ((r : Nat) - 1 : Int).toNat)) (fun i y _ => ∃ n, y = .int n ∧ True) (fun _ _ _ _ _ h => h) nD (fun _ _ => trivial) (Nat.lt_of_le_of_lt (show ((r : Nat) - 1 : Int).toNat ≤ 100 by omega) (by decide)) (fun i x G G' hi s3 hy Kq hq => ?_) fun acc G s3 hl hacc hD => ?_
    · obtain ⟨rfl, rfl⟩ := hy
      exact ⟨rfl, _, rfl, _, rfl, _, _, rfl, rfl, _, _, rfl, rfl, .inl ⟨by omega, by omega⟩, hq _ _ (Same.refl _) ⟨_, rfl, trivial⟩⟩
    obtain ⟨ns, rfl, _⟩ := ints_at (Pz := fun _ => True) hacc
    refine ⟨D, _, rfl, .inl ⟨SqL.of hD, fun tp ntp => ?_⟩⟩
    have t3 := (t2.same s3).same (Same.upd (o := .tup (ns.map V.int)) ntp)
    refine ⟨exD d c, tp, ns, lens.length, rfl, upd_same, by rw [List.length_map] at hl; omega, t3.tb, t3.dk.exOk, fun fs H5 eN5 tb5 clo5 => ?_⟩
    have t5 := t3.ext eN5 tb5
    have kI5 := t5.keepI dk
    have ht5 := kI5.tup ht
    refine ⟨_, rfl, t, _, _, _, rfl, rfl, SqT.of ht5, atI_nat (j := 0) rfl, _, rfl, t, _, _, _, rfl, rfl, SqT.of ht5, atI_nat (j := 1) rfl, ?_⟩
    intro tk dxk ntk ndk nek
    refine ⟨tk, dxk, l, z, rfl, upd_same, fun H6 mm => ⟨rfl, ?_⟩⟩
    have s6 := mm.same ntk ndk
    have t6 := t5.same s6
    have htk6 : TkAt K H6 tk lens rows := ⟨dxk, l, z, mm.1, (td.keepI kI5).same s6⟩
    refine ⟨_, rfl, h2, fun p1 np1 => ⟨h2, fun p2 np2 => ⟨h2, fun p3 np3 => ⟨h2, fun p4 np4 => ⟨h4, fun lp nlp => ?_⟩⟩⟩⟩⟩
    have sp1 := Same.upd (o := .tup [.int 1, .int 1]) np1
    have sp2 := Same.upd (o := .tup [.int 4, .int 5]) np2
    have sp3 := Same.upd (o := .tup [.int 1, .int 2]) np3
    have sp4 := Same.upd (o := .tup [.int 2, .int 1]) np4
    have slp := Same.upd (o := .lst [.ref p1, .ref p2, .ref p3, .ref p4]) nlp
    have s7 := sp1.trans (sp2.trans (sp3.trans (sp4.trans slp)))
    have t7 := t6.same s7
    have flp := (((((t6.same sp1).same sp2).same sp3).same sp4).dk).fresh nlp
    refine ⟨d, c, lp, _, e, _, rfl, t7.dk, he, by omega, flp.2, upd_same, (by show 1 ≤ 4; decide), (by show 4 ≤ 100; decide), fun v H8 hv dk8 k8 => ?_⟩
    have t8 := t7.step dk8 k8
    obtain ⟨pt, p0, p1', ev, hpt, hp0, hp1⟩ : ∃ pt p0 p1, v = .ref pt ∧ H8 pt = some (.tup [.int p0, .int p1]) ∧ 0 ≤ p0 ∧ p0 ≤ 100 := by
      simp only [List.mem_cons, List.mem_nil_iff, or_false] at hv
      rcases hv with e1 | e1 | e1 | e1
      · exact ⟨p1, 1, 1, e1, k8.tup t7.dk (slp _ _ (sp4 _ _ (sp3 _ _ (sp2 _ _ upd_same)))), by decide, by decide⟩
      · exact ⟨p2, 4, 5, e1, k8.tup t7.dk (slp _ _ (sp4 _ _ (sp3 _ _ upd_same))), by decide, by decide⟩
      · exact ⟨p3, 1, 2, e1, k8.tup t7.dk (slp _ _ (sp4 _ _ upd_same)), by decide, by decide⟩
      · exact ⟨p4, 2, 1, e1, k8.tup t7.dk (slp _ _ upd_same), by decide, by decide⟩
    subst ev
    have htk8 : TkAt K H8 tk lens rows := (htk6.same s7).keepI fun b o h n1 n2 n3 n4 => k8 _ _ (t7.dk.neD h n2) (t7.dk.neC h n1) h
    refine ⟨rfl, rfl, exD d c, tk, pt, lens, rows, r, p0, p1', rfl, htk8, ok, hpt, hp0, hp1, t8.tb, t8.dk.exOk, fun fv H9 eN9 tb9 clo9 => ?_⟩
    have t9 := t8.ext eN9 tb9
    have kx59 : KeepX (exD d c) H5 H9 := (KeepX.of (s6.trans s7)).trans (k8.x.trans (KeepX.ofN eN9))
    refine ⟨7, rfl, by decide, by decide, fun Dr nDr => ?_⟩
    have sD := Same.upd (o := .lst []) nDr
    have fD := t9.dk.fresh nDr
    have h0D := t9.none dk nDr htb
    refine lc_it (walk_range (lo := 0) (n := 7)) (fun j H' => ∃ acc, RlS K H d c e H' (B + 3 + (j : Int)) ∧ H' Dr = some (.lst acc) ∧ acc.length = j ∧ (∀ v ∈ acc, Flat v) ∧ KeepX (exD d c) H9 H')
      ⟨[], ⟨(t9.same sD).dk.mono (by omega), (t9.same sD).kx, (t9.same sD).tb⟩, upd_same, rfl, (fun v hv => by cases hv), KeepX.of sD⟩ (fun _ _ _ _ => trivial) (fun j x G G' hj ⟨acc, tj, hacc, ej, hfl, kx9⟩ hy => ?_) fun G ⟨acc, tj, hacc, ej, hfl, kx9⟩ => ?_
    · obtain ⟨rfl, rfl⟩ := hy
      refine ⟨rfl, _, rfl, _, rfl, h9, fun lq nlq => ?_⟩
      have sq := Same.upd (o := .lst [.int 0, .int 1, .int 2, .int 3, .non, .bl true, .int 9, .int (-1), .str "1"]) nlq
      have tq := tj.same sq
      have fq := tj.dk.fresh nlq
      refine ⟨d, c, lq, _, e, _, rfl, tq.dk, he, by omega, fq.2, upd_same, by decide, by decide, fun v H' hv dk' kk => ?_⟩
      have t' := tq.step dk' kk
      have hacc' := kk _ _ fD.1 fD.2 (sq _ _ hacc)
      refine ⟨acc, hacc', Nat.lt_of_le_of_lt (show acc.length ≤ 7 by omega) (by decide), acc ++ [v], ?_, upd_same, by rw [List.length_append, List.length_singleton, ej], fun u hu => ?_, ?_⟩
      · have tl := t'.lst (v := acc ++ [v]) hacc' h0D fD.1 fD.2
        exact ⟨tl.dk.mono (by omega), tl.kx, tl.tb⟩
      · rcases List.mem_append.mp hu with hu | hu
        · exact hfl u hu
        · rw [List.mem_singleton.mp hu]
          simp only [List.mem_cons, List.mem_nil_iff, or_false] at hv
          rcases hv with e1 | e1 | e1 | e1 | e1 | e1 | e1 | e1 | e1 <;> rw [e1]
          · exact .int _
          · exact .int _
          · exact .int _
          · exact .int _
          · exact .non
          · exact .bl _
          · exact .int _
          · exact .int _
          · exact .str _
      · exact fun b o h n tt => by rw [upd_ne (ne_of_none h nDr)]; exact (kx9.trans ((KeepX.of sq).trans kk.x)) b o h n tt
    · have exok := tj.dk.exOk
      have kxs : KeepX (exD d c) H5 G := kx59.trans kx9
      have cs : Clo P w K mg base 1 (exD d c) G fs (spC (PreSeen K lens.length) PostFlat) := clo5.grow kxs
      have cv : Clo P w K mg base 1 (exD d c) G fv (spC (PreSeen K lens.length) PostFlat) := (clo9.grow kx9).imp fun vs H Q E h => sp_flat vs H Q E h
      refine ⟨_, rfl, _, rfl, _, rfl, exD d c, fs, lens.length, rfl, cs, tj.tb, exok, fun f3 H11 eN11 tb11 clo11 => ?_⟩
      have t11 := tj.ext eN11 tb11
      refine ⟨_, rfl, exD d c, fv, lens.length, rfl, cv.grow (KeepX.ofN eN11), t11.tb, t11.dk.exOk, fun f4 H12 eN12 tb12 clo12 => ?_⟩
      have t12 := t11.ext eN12 tb12
      refine ⟨t12.tb, fun f5 c5 H13 eN13 tb13 nf5 nc5 hf5 hc5 => ⟨h5, fun lr nlr => ?_⟩⟩
      have t13 := t12.ext eN13 tb13
      have sr := Same.upd (o := .lst [.ref fs, .ref fv, .ref f3, .ref f4, .ref f5]) nlr
      have t14 := t13.same sr
      obtain ⟨v, hv, ev⟩ := pick_v (l := [.ref fs, .ref fv, .ref f3, .ref f4, .ref f5]) w0 w1
      refine ⟨_, rfl, lr, _, _, v, rfl, rfl, SqL.of upd_same, ev, fun H15 pub => ?_⟩
      have t15 := t14.same pub.up
      have e12 : ExtN H12 H15 := eN13.trans (ExtN.of (sr.trans pub.up))
      have e11 : ExtN H11 H15 := eN12.trans e12
      have eG : ExtN G H15 := eN11.trans e11
      have fin : ∀ f, v = .ref f → Clo P w K mg base 8 (exD d c) H15 f (spC (PreSeen K lens.length) PostFlat) → Q v H15 := fun f e h => by
        rw [e]
        exact q f H15 ⟨t15.dk.mono (by omega), t15.kx, t15.tb⟩ h
      simp only [List.mem_cons, List.mem_nil_iff, or_false] at hv
      rcases hv with e1 | e1 | e1 | e1 | e1
      · exact fin _ e1 ((cs.grow (KeepX.ofN eG)).mono (by decide))
      · exact fin _ e1 ((cv.grow (KeepX.ofN eG)).mono (by decide))
      · exact fin _ e1 ((clo11.grow (KeepX.ofN e11)).mono (by decide))
      · exact fin _ e1 ((clo12.grow (KeepX.ofN e12)).mono (by decide))
      · have hf15 := pub.up _ _ (sr _ _ hf5)
        have hc15 := pub.up _ _ (sr _ _ hc5)
        have hD15 : H15 Dr = some (.lst acc) := pub.up _ _ (sr _ _ (eN13 _ _ (eN12 _ _ (eN11 _ _ hacc fun ps z => nomatch z) fun ps z => nomatch z) fun ps z => nomatch z))
        have C : CPub (cloFrom _ sc_lam.names []) ["_law_row"] [Dr] H15 := cpub_of pub (Caps.made (js := [6]) pub.ok fr_lam fm_lam rfl) ce_lam (fun y c e => clo_free fi_lam e) rfl
        refine fin _ e1 (Clo.mono (clo_lam (N := N_lam) (p := "_law_seen") (fr := ["_law_row"]) preSeen_stable hf15 hc15 C (t12.dk.exOk.ext e12 hf15) (t12.dk.exOk.ext e12 hc15) (fun y c e => ?_) cs_lam (fun _ _ _ _ => rfl) fun A2 outer2 s2 H0 i v E2 hr2 keep pre => ?_) (j := 1) (by decide))
        · obtain ⟨zz, hz⟩ := C.all y c e
          exact t12.dk.exOk.ext e12 hz
        · obtain ⟨sa, rfl, hsa, hn0, hn1, hrl, hsl⟩ := pre
          have hD0 : H0 Dr = some (.lst acc) := keep _ _ hD15 (fun z => z.elim fD.1 fD.2) (fun ps z => nomatch z) fun y z => by
            obtain ⟨zz, hz⟩ := C.all y _ z
            rw [hD15] at hz
            exact nomatch (show HO.lst _ = HO.ext _ from Option.some.inj hz)
          obtain ⟨u, hu, eu⟩ := pick_v (l := acc) (i := (i.n + i.k) % 7) (Int.emod_nonneg _ (by decide)) (by rw [ej]; exact Int.emod_lt_of_pos _ (by decide))
          refine ⟨_, pe_ix ix_list (pv 1) (pe_op op_mod (pe_op op_add (pe_ix ix_tup (pv 0) pe_int (fun _ _ => rfl)) (pe_ix ix_tup (pv 0) pe_int (fun _ _ => rfl))) pe_int) (fun _ _ => rfl), ?_⟩
          exact ⟨_, rfl, _, rfl, sa, _, _, _, rfl, rfl, SqT.of hsa, atI_nat (j := 0) rfl, _, rfl, sa, _, _, _, rfl, rfl, SqT.of hsa, atI_nat (j := 1) rfl, _, _, rfl, rfl, _, _, rfl, rfl, (by show (0 : Int) < 7; decide), Dr, acc, _, u, rfl, rfl, SqL.of hD0, eu, hfl u hu, Same.refl _⟩
end
end Rp
/- RpL9 -/
set_option maxHeartbeats 4000000
/-! RpL9: _law_fetched_right. -/
namespace Rp
open PySem PySem.Spec PyProof.Rows L2
theorem ne_int (i j : Int) : (!decide (V.int i = V.int j)) = !decide (i = j) := by rw [dec_intV]
/-- a fetch's numbers: fetched and sum_of tell the same beat -/
theorem fetch_all {rows : List (List Int)} {init : List Pc} {b d wait : Int} {k : Nat} {rate begun whole : Int} (h : FOk rows (spAt d (init ++ [(b, d)])) wait k rate begun whole) (hp : PcOk (init ++ [(b, d)])) (hd : 0 < d) (hw : 0 ≤ wait) (hs : 0 < szAt rows k rate) :
    fetchGo d init (begun + wait) (szAt rows k rate) 0 = whole ∧ szAt rows k rate ≤ bits (spAt d (init ++ [(b, d)])) (begun + wait) (whole - (begun + wait)).toNat ∧ bits (spAt d (init ++ [(b, d)])) (begun + wait) (whole - 1 - (begun + wait)).toNat < szAt rows k rate := by
  obtain ⟨h0, n, e, h1, h2⟩ := h
  have eb : ∀ n, bits (fun t => spAt d init (t - 0)) (begun + wait) n = bits (spAt d (init ++ [(b, d)])) (begun + wait) n := fun n => bits_congr fun i _ => by rw [Int.sub_zero, spAt_last]
  have f := fetch_ok (d := d) (ps := init) (here := begun + wait) (left := szAt rows k rate) (at_ := 0) (n := n) (fun p hp' => by have := hp p (List.mem_append_left _ hp'); exact ⟨this.1, this.2.2.1⟩) (by omega) (by omega) hs (by rw [eb]; exact h1) (by rw [eb]; exact h2)
  have e1 : (whole - (begun + wait)).toNat = n + 1 := by omega
  have e2 : (whole - 1 - (begun + wait)).toNat = n := by omega
  rw [e1, e2]
  exact ⟨by rw [f, e], h2, h1⟩
section
variable {P : Program} {w : World} {K : PySem.W.Frag} {mg : Str → Option Value} {base : Heap}
abbrev N_fr : List Str := ["_law_talk_here", "_law_road", "_law_run", "_law_ahead", "_law_k", "_law_start", "_law_behind", "_law_size"]
abbrev P_fr : List Str := ["_law_talk_here", "_law_road", "_law_run", "_law_ahead"]
theorem sc_fr : FnScope N_fr P_fr (defScope s_L_fetched_right) := ⟨rfl, rfl, rfl, by decide +kernel, rfl, by decide +kernel, by decide +kernel⟩
def spFr (K : PySem.W.Frag) : Sp := fun vs H Q _ => ∃ t l z road tp rn init b d wait lens rows r rs bs ws, vs = [.ref t, .ref road, .ref rn, .int wait] ∧ H t = some (.tup [.ref l, .ref z]) ∧ TkD H l z lens rows ∧ TkOk lens rows r ∧ RoadAt K H road (.ref tp) ∧ PcsAt H tp (init ++ [(b, d)]) ∧ PcOk (init ++ [(b, d)]) ∧ 0 < d ∧
  RnAt K H rn rs bs ws ∧ rs.length = lens.length ∧ bs.length = lens.length ∧ ws.length = lens.length ∧ (∀ x ∈ rs, 0 ≤ x ∧ x < (r : Int)) ∧ 0 ≤ wait ∧ (∀ k : Nat, k < lens.length → FOk rows (spAt d (init ++ [(b, d)])) wait k (rs.getD k 0) (bs.getD k 0) (ws.getD k 0)) ∧ ∀ H', Same H H' → Q (.bl true) H'
theorem ok_fr (T : Tx K mg) : Okd P w K mg base 2 (He.fAd K ("_law_fetched_right", none)) P_fr (spFr K) := by
  obtain ⟨fd, F⟩ := F_L_fetched_right T
  obtain ⟨fdf, GF, _, kbf⟩ := ok_Rf (P := P) (w := w) (mg := mg) (base := base) T
  obtain ⟨fdm, GM, kpm, bm⟩ := ok_Rm (P := P) (w := w) (base := base) T
  refine ⟨fd, okF F sc_fr (fun vs H Q E h => ?_) (fun cdv A outer s H vs Q E hr h => ?_), F.kp, FunD.bindsN F fun _ _ _ _ _ _ us hl => match us, hl with | [_, _, _, _], _ => rfl⟩
  · obtain ⟨t, l, z, road, tp, rn, init, b, d, wait, lens, rows, r, rs, bs, ws, rfl, _⟩ := h
    rfl
  · obtain ⟨t, l, z, road, tp, rn, init, b, d, wait, lens, rows, r, rs, bs, ws, rfl, ht, td, ok, hroad, hpcs, hpok, hd, hrn, l1, l2, l3, hrr, hw, hfo, q⟩ := h
    obtain ⟨dxn, tn, en, hn, hn0, hn1, hn2⟩ := hrn
    refine ⟨_, pss_cons (ps_for PassesOwn.never rfl (pi_enumZ (by rfl) (f_enumerate T) (by rfl) (f_zip T) (pa_cons (pe_fld (pv 2) rfl) (pa_cons (pe_fld (pv 2) rfl) pa_nil)))
          (pg_tup rfl (pgs_cons (pg_name (i := 4) sc_fr.nd rfl (.inl rfl)) (pgs_cons (pg_tup rfl (pgs_cons (pg_name (i := 5) sc_fr.nd rfl (.inl rfl)) (pgs_cons (pg_name (i := 6) sc_fr.nd rfl (.inl rfl)) pgs_nil))) pgs_nil)))
        (pss_cons (ps_set (i := 7) sc_fr.nd rfl (.inl rfl) (pe_ix ix_tup (pe_ix ix_tup (pe_ix ix_tup (pv 0) pe_int (fun _ _ => rfl)) (pv 4) (fun _ _ => rfl)) (pe_ix ix_tup (pe_fld (pv 2) rfl) (pv 4) (fun _ _ => rfl)) (fun _ _ => rfl)))
        (pss_cons (ps_if (pt_cmpR op_ne (pe_methN (pv 1) (c_Road T) (t_Road_fetched T) GF hr kbf pass0 (pa_cons (pv 5) (pa_cons (pv 7) pa_nil)) (pk_cons (pv 3) pk_nil)) (pv 6) (nomark _)) (pss_one (ps_ret pe_bl)) pss_nil)
        (pss_one (ps_if (PW.pt (pw_or (pt_cmpR op_lt (pe_meth (pv 1) (c_Road T) (t_Road_sum_of T) GM hr bm .nil pass0 (pa_cons (pe_op op_add (pv 5) (pv 3)) (pa_cons (pv 6) pa_nil))) (pv 7) (nomark _))
          (pw_or1 (pt_cmpR op_ge (pe_meth (pv 1) (c_Road T) (t_Road_sum_of T) GM hr bm .nil pass0 (pa_cons (pe_op op_add (pv 5) (pv 3)) (pa_cons (pe_op op_sub (pv 6) pe_int) pa_nil))) (pv 7) (nomark _))))) (pss_one (ps_ret pe_bl)) pss_nil)))))
      (pss_one (ps_ret pe_bl)), ?_⟩
    have cl := c_Run T
    have hbl : (bs.map V.int).length = (ws.map V.int).length := by rw [List.length_map, List.length_map, l2, l3]
    refine ⟨_, rfl, rn, _, dxn, _, _, rfl, hn, cl, n_Run_begun T, fRn_1 _ _, _, rfl, rn, _, dxn, _, _, rfl, hn, cl, n_Run_whole T, fRn_2 _ _, tn 1, tn 2, _, _, rfl, SqT.of hn1, SqT.of hn2, ?_⟩
    refine for_it (walk_enumZ (K := K) (a := tn 1) (b := tn 2) (xs := bs.map V.int) (ys := ws.map V.int) hbl) (fun i σ H' => Same H H' ∧ ∃ x4 x5 x6 x7, σ = [some (.ref t), some (.ref road), some (.ref rn), some (.int wait), x4, x5, x6, x7]) ⟨Same.refl H, none, none, none, none, rfl⟩
      (fun i σ H' _ h => ⟨SqT.of (h.1 _ _ hn1), SqT.of (h.1 _ _ hn2)⟩) ?_ fun σ H' h => q H' h.1
    rintro i x σ H1 H2 hi ⟨s1, x4, x5, x6, x7, rfl⟩ ⟨TT, U, x1, x2, rfl, nU, nT, rfl, e1, e2⟩
    rw [List.length_map] at hi
    have hil : i < lens.length := by rw [← l2]; exact hi
    have hiw : i < ws.length := by rw [l3]; exact hil
    have hir : i < rs.length := by rw [l1]; exact hil
    have ex1 : x1 = .int (bs.getD i 0) := by
      rw [List.getElem?_map, List.getElem?_eq_getElem hi] at e1
      rw [List.getD_eq_getElem?_getD, List.getElem?_eq_getElem hi]
      exact (Option.some.inj e1).symm
    have ex2 : x2 = .int (ws.getD i 0) := by
      rw [List.getElem?_map, List.getElem?_eq_getElem hiw] at e2
      rw [List.getD_eq_getElem?_getD, List.getElem?_eq_getElem hiw]
      exact (Option.some.inj e2).symm
    subst ex1 ex2
    have fo := hfo i hil
    have hrm : rs.getD i 0 ∈ rs := by
      rw [List.getD_eq_getElem?_getD, List.getElem?_eq_getElem hir]
      exact List.getElem_mem hir
    have hrt := hrr _ hrm
    have hsz := szAt_ok ok (n := (i : Int)) (by omega) (by omega) hrt.1 hrt.2
    have fa := fetch_all fo hpok hd hw (by omega)
    have fo0 := fo.1
    have sU := Same.upd (o := .tup [.int (bs.getD i 0), .int (ws.getD i 0)]) nU
    have sT := Same.upd (o := .tup [.int (i : Nat), .ref U]) nT
    have s2 := s1.trans (sU.trans sT)
    have td2 := td.same s2
    obtain ⟨zs, hz, rz⟩ := td2.hz
    obtain ⟨q', eq', hq'⟩ := atI_ref rz (i := (i : Int)) [] (by omega) (by rw [← ok.len]; omega)
    have hrow : (rows.getD (i : Int).toNat []).length = r := by
      have hk : i < rows.length := by rw [← ok.len]; exact hil
      rw [Int.toNat_natCast, List.getD_eq_getElem?_getD, List.getElem?_eq_getElem hk]
      exact ok.row _ (List.getElem_mem hk)
    have ers : rs.getD i 0 = rs.getD (i : Int).toNat 0 := by rw [Int.toNat_natCast]
    obtain ⟨dxr, hrd⟩ := hroad.same s2
    refine ⟨TT, _, rfl, SqT.of upd_same, rfl, _, _, rfl, _, _, rfl, ⟨U, _, rfl, SqT.of (sT _ _ upd_same), rfl, _, _, rfl, _, _, rfl, rfl, rfl, ?_⟩⟩
    refine ⟨_, rfl, t, _, _, _, rfl, rfl, SqT.of (s2 _ _ ht), atI_nat (j := 1) rfl, _, rfl, z, _, _, _, rfl, rfl, SqT.of hz, eq', _, rfl, rn, _, dxn, _, _, rfl, s2 _ _ hn, cl, n_Run_rates T, fRn_0 _ _, _, rfl, tn 0, _, _, _, rfl, rfl, SqT.of (s2 _ _ hn0), atI_ints (by omega) (by omega),
      q', _, _, _, rfl, rfl, SqT.of hq', atI_ints (by rw [← ers]; exact hrt.1) (by rw [← ers, hrow]; exact hrt.2), ?_⟩
    have esz : (rows.getD (i : Int).toNat []).getD (rs.getD (i : Int).toNat 0).toNat 0 = szAt rows (i : Int) (rs.getD i 0) := by rw [← ers]; rfl
    rw [esz]
    refine ⟨_, rfl, road, dxr, _, rfl, hrd, fR_no _ (by decide +kernel), _, rfl, _, rfl, _, rfl, rfl, rfl, road, tp, init, b, d, bs.getD i 0, _, wait, rfl, ⟨dxr, hrd⟩, hpcs.same s2, hpok, hd, by omega, fun H3 s3 => ?_⟩
    rw [fa.1]
    refine ⟨_, rfl, rfl, _, rfl, ?_⟩
    rw [ne_int, decide_eq_true (rfl : ws.getD i 0 = ws.getD i 0)]
    refine iteF ?_
    have s4 := s2.trans s3
    obtain ⟨dxr4, hrd4⟩ := hroad.same s4
    refine ⟨_, rfl, road, dxr4, _, rfl, hrd4, fR_no _ (by decide +kernel), _, rfl, _, rfl, _, _, rfl, rfl, _, rfl, road, tp, init, b, d, _, _, rfl, ⟨dxr4, hrd4⟩, hpcs.same s4, hpok, by show 0 ≤ bs.getD i 0 + wait; omega, ?_⟩
    refine ⟨_, rfl, _, _, rfl, rfl, _, rfl, ?_⟩
    have c1 : decide (bits (spAt d (init ++ [(b, d)])) (bs.getD i 0 + wait) (ws.getD i 0 - (bs.getD i 0 + wait)).toNat < szAt rows (i : Int) (rs.getD i 0)) = false := decide_eq_false (by have := fa.2.1; omega)
    show if decide (bits (spAt d (init ++ [(b, d)])) (bs.getD i 0 + wait) (ws.getD i 0 - (bs.getD i 0 + wait)).toNat < szAt rows (i : Int) (rs.getD i 0)) = true then _ else _
    rw [c1]
    refine iteF ?_
    refine ⟨_, rfl, road, dxr4, _, rfl, hrd4, fR_no _ (by decide +kernel), _, rfl, _, rfl, _, _, rfl, rfl, _, rfl, _, _, rfl, rfl, road, tp, init, b, d, _, _, rfl, ⟨dxr4, hrd4⟩, hpcs.same s4, hpok, by show 0 ≤ bs.getD i 0 + wait; omega, ?_⟩
    refine ⟨_, rfl, _, _, rfl, rfl, _, rfl, ?_⟩
    have c2 : decide (szAt rows (i : Int) (rs.getD i 0) ≤ bits (spAt d (init ++ [(b, d)])) (bs.getD i 0 + wait) (ws.getD i 0 - 1 - (bs.getD i 0 + wait)).toNat) = false := decide_eq_false (by have := fa.2.2; omega)
    show if decide (szAt rows (i : Int) (rs.getD i 0) ≤ bits (spAt d (init ++ [(b, d)])) (bs.getD i 0 + wait) (ws.getD i 0 - 1 - (bs.getD i 0 + wait)).toNat) = true then _ else _
    rw [c2]
    exact iteF ⟨s4, _, _, _, _, rfl⟩
end
end Rp
/- RpL10 -/
set_option maxHeartbeats 4000000
/-! RpL10: _law_means_right. -/
namespace Rp
open PySem PySem.Spec PyProof.Rows L2
def SpIn (p : Int × Int) : Prop := 0 ≤ p.1 ∧ p.1 ≤ 1000 ∧ 1 ≤ p.2 ∧ p.2 ≤ 2000
theorem SpIn.ok {p : Int × Int} (h : SpIn p) : SpOk p := ⟨h.1, by have := h.2.1; omega, h.2.2.1, by have := h.2.2.2; omega⟩
theorem sum_in : ∀ {l : List (Int × Int)}, (∀ p ∈ l, SpIn p) → 0 ≤ (l.map (·.1)).sum ∧ (l.map (·.1)).sum ≤ 1000 * (l.length : Int) ∧ (l.length : Int) ≤ (l.map (·.2)).sum ∧ (l.map (·.2)).sum ≤ 2000 * (l.length : Int)
  | [], _ => by simp
  | p :: l, h => by
    have ih := sum_in (l := l) fun q hq => h q (List.mem_cons_of_mem _ hq)
    obtain ⟨h1, h2, h3, h4⟩ := h p List.mem_cons_self
    rw [List.map_cons, List.sum_cons, List.map_cons, List.sum_cons, List.length_cons]
    have e : ((l.length + 1 : Nat) : Int) = (l.length : Int) + 1 := by omega
    rw [e]
    refine ⟨?_, ?_, ?_, ?_⟩ <;> omega
theorem sp_sum {l : List (Int × Int)} (h : ∀ p ∈ l, SpIn p) (h0 : 0 < l.length) (h1 : l.length ≤ 100) : SpOk ((l.map (·.1)).sum, (l.map (·.2)).sum) := by
  have := sum_in h
  exact ⟨this.1, Int.le_trans this.2.1 (by omega), Int.le_trans (by omega) this.2.2.1, Int.le_trans this.2.2.2 (by omega)⟩
theorem filt_none {n : Nat} {f : Nat → V} : ((List.range n).filter (fun _ => false)).map f = [] := by
  have e : (List.range n).filter (fun _ => false) = [] := List.filter_eq_nil_iff.mpr fun a _ => by simp
  rw [e]
  rfl
section
variable {P : Program} {w : World} {K : PySem.W.Frag} {mg : Str → Option Value} {base : Heap}
abbrev N_mr : List Str := ["_law_deck_here", "_law_pairs", "_law_speeds", "_law_few", "_law_some", "_law_found", "_law_due", "_law_low", "_law_mid", "_law_lesser", "_law_more", "_law_bits", "_law_beats", "_law_pair", "_law_one"]
theorem sc_mr : FnScope N_mr ["_law_deck_here", "_law_pairs"] (defScope s_L_means_right) := ⟨rfl, rfl, rfl, by decide +kernel, rfl, by decide +kernel, by decide +kernel⟩
def spMr : Sp := fun vs H Q _ => ∃ (d c : Addr) (e : Nat) (A : Int) (lp : Addr) (xs : List V) (as : List (Int × Int)), vs = [.ref d, .ref lp] ∧ DkS H d c e A ∧ e ≤ 2000000 ∧ A ≤ 100000 ∧ lp ≠ c ∧ H lp = some (.lst xs) ∧ RefL pairT H xs as ∧ as ≠ [] ∧ as.length ≤ 100 ∧ (∀ p ∈ as, SpIn p) ∧
  ∀ H', DkS H' d c e (A + 1) → KeepD d c H H' → Q (.bl true) H'
abbrev tBits : TE := tLc (iList K (tVar 6)) (gName 13) tYes (tOp (rIxT K) (tVar 13) (tC (.int 0))) [13]
theorem ok_mr (T : Tx K mg) : Okd P w K mg base 4 (He.fAd K ("_law_means_right", none)) ["_law_deck_here", "_law_pairs"] spMr := by
  obtain ⟨fd, F⟩ := F_L_means_right T
  obtain ⟨fdd, GD, kpd, bd⟩ := ok_dr (P := P) (w := w) (base := base) T
  obtain ⟨fdi, GI, kpi, bi⟩ := ok_Si (P := P) (w := w) (base := base) T
  obtain ⟨fdb, GB, kpb, bb⟩ := ok_Sb (P := P) (w := w) (base := base) T
  obtain ⟨fdm, GM, kpm, ⟨ds, vds, bds⟩, kbm⟩ := ok_mean (P := P) (w := w) (mg := mg) (base := base) T
  obtain ⟨fdl, GL, kpl, ⟨dl, vdl, bdl⟩⟩ := ok_sl (P := P) (w := w) (mg := mg) (base := base) T
  obtain ⟨fdq, GQ, kpq, bq⟩ := ok_mid (P := P) (w := w) (base := base) T
  refine ⟨fd, okF F sc_mr (fun vs H Q E h => ?_) (fun cdv A outer s H vs Q E hr h => ?_), F.kp, FunD.bindsN F fun _ _ _ _ _ _ us hl => match us, hl with | [_, _], _ => rfl⟩
  · obtain ⟨d, c, e, A, lp, xs, as, rfl, _⟩ := h
    rfl
  · obtain ⟨d, c, e, B, lp, xs, as, rfl, dk, he, hB, hlpc, hlp, rf, hne, hlen, hin, q⟩ := h
    have hr1 := hr.mono (show 1 ≤ 3 by decide)
    have hn0 : 0 < as.length := List.length_pos_iff.mpr hne
    refine ⟨_, pss_cons (ps_set (i := 2) sc_mr.nd rfl (.inl rfl) (pe_callTy call_tuple_of (by rfl) (f_tuple T) (by decide +kernel) (pa_cons (pe_lc (own := [("_law_bits", 11), ("_law_beats", 12)]) (g := gTup K 2 (gCons (gName 11) (gCons (gName 12) gNil))) (tt := tYes) (te := tMake (He.ga K "Speed") (spSi K) [] E0 (tCons (tVar 11) (tCons (tVar 12) tNil))) (by rfl) sc_mr.nd (pi_list (pv 1)) (blkOk_by (own := [("_law_bits", 11), ("_law_beats", 12)]) (N := N_mr) (sc := defScope s_L_means_right) (by decide +kernel))
          (fun _ _ _ _ _ => pg_tup rfl (pgs_cons (pg_name (i := 11) sc_mr.nd rfl (.inl rfl)) (pgs_cons (pg_name (i := 12) sc_mr.nd rfl (.inl rfl)) pgs_nil))) (fun _ _ _ _ _ => pts_nil) (fun _ _ _ _ _ => pe_make (m_Speed T) GI (hr.mono (by decide)) rfl (g_Speed T) bi .nil pass0 (pa_cons (pv 11) (pa_cons (pv 12) pa_nil)))) pa_nil)))
      (pss_cons (ps_set (i := 3) sc_mr.nd rfl (.inl rfl) (pe_op op_add pe_int (pe_call GD hr1 rfl (g_L_draw T) kpd bd .nil pass0 (pa_cons (pv 0) (pa_cons (pe_callB call_len_seq (by rfl) (f_len T) PySem.boot_len (pa_cons (pv 1) pa_nil)) pa_nil)))))
      (pss_cons (ps_set (i := 4) sc_mr.nd rfl (.inl rfl) (pe_slice sl_list (pv 1) (po_some (pe_op op_sub (pe_callB call_len_seq (by rfl) (f_len T) PySem.boot_len (pa_cons (pv 1) pa_nil)) (pv 3))) po_none))
      (pss_cons (ps_for PassesOwn.never rfl (pi_list (pe_lst (pa_cons (pe_tup (pa_cons (pe_call GM hr rfl (g_mean T) kpm bds vds pass0 (pa_cons (pv 2) pa_nil)) (pa_cons (pv 1) pa_nil))) (pa_cons (pe_tup (pa_cons (pe_callN GM hr rfl (g_mean T) kpm kbm pass0 (pa_cons (pv 2) pa_nil) (pk_cons (pv 3) pk_nil)) (pa_cons (pv 4) pa_nil))) pa_nil))))
          (pg_tup rfl (pgs_cons (pg_name (i := 5) sc_mr.nd rfl (.inl rfl)) (pgs_cons (pg_name (i := 6) sc_mr.nd rfl (.inl rfl)) pgs_nil)))
        (pss_one (ps_if (pt_cmpR (op_neD (units64 hr)) (pe_tup (pa_cons (pe_fld (pv 5) rfl) (pa_cons (pe_fld (pv 5) rfl) pa_nil)))
          (pe_tup (pa_cons (pe_callB (cr_sum rfl) (by rfl) (f_sum T) (by decide +kernel) (pa_cons (pe_lc (own := [("_law_pair", 13)]) (g := gName 13) (tt := tYes) (te := tOp (rIxT K) (tVar 13) (tC (.int 0))) (by rfl) sc_mr.nd (pi_list (pv 6)) (blkOk_by (own := [("_law_pair", 13)]) (N := N_mr) (sc := defScope s_L_means_right) (by decide +kernel)) (fun _ _ _ _ _ => pg_name (i := 13) sc_mr.nd rfl (.inl rfl)) (fun _ _ _ _ _ => pts_nil) (fun _ _ _ _ _ => pe_ix ix_tup (pv 13) pe_int (fun _ _ => rfl))) pa_nil))
            (pa_cons (pe_callB (cr_sum rfl) (by rfl) (f_sum T) (by decide +kernel) (pa_cons (pe_lc (own := [("_law_pair", 13)]) (g := gName 13) (tt := tYes) (te := tOp (rIxT K) (tVar 13) (tC (.int 1))) (by rfl) sc_mr.nd (pi_list (pv 6)) (blkOk_by (own := [("_law_pair", 13)]) (N := N_mr) (sc := defScope s_L_means_right) (by decide +kernel)) (fun _ _ _ _ _ => pg_name (i := 13) sc_mr.nd rfl (.inl rfl)) (fun _ _ _ _ _ => pts_nil) (fun _ _ _ _ _ => pe_ix ix_tup (pv 13) pe_int (fun _ _ => rfl))) pa_nil)) pa_nil))) (nomark _)) (pss_one (ps_ret pe_bl)) pss_nil)))
      (pss_cons (ps_asg (pe_tup (pa_cons (pe_call GL hr rfl (g_slowest T) kpl bdl vdl pass0 (pa_cons (pv 2) pa_nil)) (pa_cons (pe_call GQ (hr.mono (by decide)) rfl (g_middle T) kpq bq .nil pass0 (pa_cons (pv 2) pa_nil)) pa_nil))) (pg_tup rfl (pgs_cons (pg_name (i := 7) sc_mr.nd rfl (.inr rfl)) (pgs_cons (pg_name (i := 8) sc_mr.nd rfl (.inr rfl)) pgs_nil))))
      (pss_cons (ps_setLc (i := 9) (own := [("_law_one", 14)]) (g := gName 14) (te := tVar 14) (by rfl) sc_mr.nd rfl rfl (sw_true rfl rfl rfl (by decide +kernel)) (pi_tup (pv 2)) (blkOk_by (own := [("_law_one", 14)]) (N := N_mr) (sc := defScope s_L_means_right) (by decide +kernel))
          (fun _ _ _ _ _ => pg_name (i := 14) sc_mr.nd rfl (.inl rfl)) (fun _ _ _ _ _ => pts_one (pt_val (pe_meth (pv 14) (c_Speed T) (t_Speed_below T) GB hr1 bb .nil pass0 (pa_cons (pv 8) pa_nil)))) (fun _ _ _ _ _ => pv 14))
      (pss_cons (ps_setLc (i := 10) (own := [("_law_one", 14)]) (g := gName 14) (te := tVar 14) (by rfl) sc_mr.nd rfl rfl (sw_true rfl rfl rfl (by decide +kernel)) (pi_tup (pv 2)) (blkOk_by (own := [("_law_one", 14)]) (N := N_mr) (sc := defScope s_L_means_right) (by decide +kernel))
          (fun _ _ _ _ _ => pg_name (i := 14) sc_mr.nd rfl (.inl rfl)) (fun _ _ _ _ _ => pts_one (pt_val (pe_meth (pv 8) (c_Speed T) (t_Speed_below T) GB hr1 bb .nil pass0 (pa_cons (pv 14) pa_nil)))) (fun _ _ _ _ _ => pv 14))
      (pss_cons (ps_if (PW.pt (pw_or (pt_cmpR (op_neD (units64 hr)) (pe_lc (own := [("_law_one", 14)]) (g := gName 14) (te := tVar 14) (by rfl) sc_mr.nd (pi_tup (pv 2)) (blkOk_by (own := [("_law_one", 14)]) (N := N_mr) (sc := defScope s_L_means_right) (by decide +kernel))
          (fun _ _ _ _ _ => pg_name (i := 14) sc_mr.nd rfl (.inl rfl)) (fun _ _ _ _ _ => pts_one (pt_val (pe_meth (pv 14) (c_Speed T) (t_Speed_below T) GB hr1 bb .nil pass0 (pa_cons (pv 7) pa_nil)))) (fun _ _ _ _ _ => pv 14)) (pe_lst pa_nil) (nomark _))
          (pw_or1 (pt_val (pe_meth (pe_call GM hr rfl (g_mean T) kpm bds vds pass0 (pa_cons (pv 2) pa_nil)) (c_Speed T) (t_Speed_below T) GB hr1 bb .nil pass0 (pa_cons (pv 7) pa_nil)))))) (pss_one (ps_ret pe_bl)) pss_nil)
      (pss_one (ps_ret (pe_and (pe_cmpR op_lt (pe_op op_mul pe_int (pe_callB call_len_seq (by rfl) (f_len T) PySem.boot_len (pa_cons (pv 9) pa_nil))) (pe_callB call_len_seq (by rfl) (f_len T) PySem.boot_len (pa_cons (pv 2) pa_nil)) (nomark _))
        (pe_one (pe_cmpR op_le (pe_op op_mul pe_int (pe_callB call_len_seq (by rfl) (f_len T) PySem.boot_len (pa_cons (pv 10) pa_nil))) (pe_callB call_len_seq (by rfl) (f_len T) PySem.boot_len (pa_cons (pv 2) pa_nil)) (nomark _))))))))))))), ?_⟩
    have hsl : xs.length < sizeLine := Nat.lt_of_le_of_lt (by rw [rf.1]; exact hlen) (by decide)
    refine ⟨_, rfl, lp, rfl, ⟨_, SqL.of hlp⟩, fun D nD => ?_⟩
    have pk : ∀ {i : Nat} {x : V} {H2 : Hp}, Same H H2 → xs[i]? = some x → ∃ q a, x = .ref q ∧ as[i]? = some a ∧ pairT H2 q a := fun {i x H2} s2 hx => (rf.same pairT_mono s2).get hx
    refine lc_map (walk_list (K := K) (a := lp) (xs := xs)) (fun i y H => ∃ q a, as[i]? = some a ∧ y = .ref q ∧ SpAt K H q a) (fun i y H H' k => fun ⟨q, a, h1, h2, h3⟩ => ⟨q, a, h1, h2, h3.nl k⟩) nD (fun H2 s2 => SqL.of (s2 _ _ hlp)) hsl (fun i x H2 H3 hi s2 hy Kq hq => ?_) fun acc H2 s2 hl hacc hD => ?_
    · obtain ⟨rfl, hx⟩ := hy
      obtain ⟨q', a, rfl, ha, hq'⟩ := pk s2 hx
      refine ⟨q', _, rfl, SqT.of hq', rfl, _, _, rfl, _, _, rfl, rfl, rfl, _, rfl, _, rfl, ?_⟩
      intro x dx nx ndx nex
      refine ⟨x, dx, _, _, rfl, upd_same, fun H4 m => ⟨rfl, ?_⟩⟩
      exact hq _ _ (m.same nx ndx) ⟨x, a, ha, rfl, dx, m.1⟩
    have racc : RefL (SpAt K) H2 acc as := ⟨by rw [hl, rf.1], fun i a h => by
      have hi : i < acc.length := by rw [hl, rf.1]; exact (List.getElem?_eq_some_iff.mp h).1
      obtain ⟨q', a', h1, h2, h3⟩ := hacc i _ (List.getElem?_eq_getElem hi)
      rw [h] at h1
      cases h1
      exact ⟨q', by rw [List.getElem?_eq_getElem hi, h2], h3⟩⟩
    refine ⟨D, _, rfl, .inl ⟨SqL.of hD, fun ts nts => ?_⟩⟩
    have s3 : Same H (upd H2 ts (.tup acc)) := s2.trans (Same.upd nts)
    have sps : SpsAt K (upd H2 ts (.tup acc)) ts as := ⟨acc, upd_same, racc.same SpAt.same (Same.upd nts)⟩
    generalize upd H2 ts (.tup acc) = H3 at s3 sps ⊢
    clear hD hacc
    have dk3 := dk.same s3
    have hlp3 := s3 _ _ hlp
    have exl : xs.length = as.length := rf.1
    refine ⟨_, rfl, _, rfl, lp, _, rfl, .inl (SqL.of hlp3), d, c, e, B, _, rfl, dk3, he, by omega, by rw [exl]; omega, by rw [exl]; omega, fun r H4 r0 r1 dk4 k4 => ?_⟩
    rw [exl] at r1
    have hlp4 : H4 lp = some (.lst xs) := k4 _ _ (dk3.neD hlp3 fun kvs z => nomatch z) hlpc hlp3
    obtain ⟨xts, hts, rts⟩ := sps
    have hts4 := k4.tup dk3 hts
    have mono4 : ∀ q p, SpAt K H3 q p → SpAt K H4 q p := fun q p ⟨dx, h⟩ => ⟨dx, k4 _ _ (dk3.neD h fun kvs z => nomatch z) (dk3.neC h fun kvs z => nomatch z) h⟩
    have rts4 : RefL (SpAt K) H4 xts as := ⟨rts.1, fun i a h => let ⟨q, e, z⟩ := rts.2 i a h; ⟨q, e, mono4 _ _ z⟩⟩
    have rf4 : RefL pairT H4 xs as := ⟨rf.1, fun i a h => let ⟨q, e, z⟩ := rf.2 i a h; ⟨q, e, k4.tup dk3 (s3 _ _ z)⟩⟩
    have kd : KeepD d c H H4 := (KeepD.of s3).trans k4
    have sps4 : SpsAt K H4 ts as := ⟨xts, hts4, rts4⟩
    clear hts rts mono4 k4 s3 dk3 hlp3
    obtain ⟨fw, hfw⟩ : ∃ fw : Nat, 1 + r = (fw : Int) := ⟨(1 + r).toNat, by omega⟩
    have hf1 : 1 ≤ fw := by omega
    have hf2 : fw ≤ as.length := by omega
    refine ⟨_, _, rfl, rfl, ?_⟩
    have ecut : ∀ u : Int, u = ((xs.length : Nat) : Int) - (1 + r) → cutV xs (some u) none = xs.drop (as.length - fw) := fun u hu => by
      have e1 : u = ((as.length - fw : Nat) : Int) := by rw [hu, exl, hfw]; omega
      rw [e1]
      unfold cutV
      rw [HT.sIx_nat, HT.sIx_none, exl, Nat.min_eq_left (Nat.sub_le _ _)]
      exact List.take_of_length_le (by rw [List.length_drop, exl]; exact Nat.le_refl _)
    refine ⟨_, rfl, _, rfl, lp, _, rfl, .inl (SqL.of hlp4), _, rfl, _, _, rfl, rfl, _, rfl, lp, xs, rfl, SqL.of hlp4, fun sm nsm => ?_⟩
    rw [ecut _ rfl]
    have s5 := Same.upd (o := .lst (xs.drop (as.length - fw))) nsm
    have h5 : upd H4 sm (.lst (xs.drop (as.length - fw))) sm = some (.lst (xs.drop (as.length - fw))) := upd_same
    generalize upd H4 sm (.lst (xs.drop (as.length - fw))) = H5 at s5 h5 ⊢
    refine ⟨_, rfl, ts, _, _, as, rfl, sps4.same s5, hne, by omega, .inl ⟨rfl, rfl⟩, fun m1 H6 s6 hm1 => ?_⟩
    refine ⟨_, rfl, by show 2 ≤ sizeLine; decide, fun p1 n1 => ?_⟩
    have s7 := Same.upd (o := .tup [.ref m1, .ref lp]) n1
    have h7 : upd H6 p1 (.tup [.ref m1, .ref lp]) p1 = some (.tup [.ref m1, .ref lp]) := upd_same
    generalize upd H6 p1 (.tup [.ref m1, .ref lp]) = H7 at s7 h7 ⊢
    have s57 := s6.trans s7
    have s47 := s5.trans s57
    refine ⟨_, rfl, _, rfl, rfl, rfl, ts, _, as, as.drop (as.length - fw), rfl, sps4.same s47, hne, by omega, .inr ⟨fw, congrArg V.int hfw, hf1, hf2, rfl⟩, fun m2 H8 s8 hm2 => ?_⟩
    refine ⟨_, rfl, by show 2 ≤ sizeLine; decide, fun p2 n2 => ?_⟩
    have s9 := Same.upd (o := .tup [.ref m2, .ref sm]) n2
    have h9 : upd H8 p2 (.tup [.ref m2, .ref sm]) p2 = some (.tup [.ref m2, .ref sm]) := upd_same
    generalize upd H8 p2 (.tup [.ref m2, .ref sm]) = H9 at s9 h9 ⊢
    refine ⟨by show 2 ≤ sizeLine; decide, fun L nL => ?_⟩
    have s10 := Same.upd (o := .lst [.ref p1, .ref p2]) nL
    have h10 : upd H9 L (.lst [.ref p1, .ref p2]) L = some (.lst [.ref p1, .ref p2]) := upd_same
    generalize upd H9 L (.lst [.ref p1, .ref p2]) = HB at s10 h10 ⊢
    have s7b := s8.trans (s9.trans s10)
    have s4b := s47.trans s7b
    have item : ∀ (i : Nat) (x : V), [V.ref p1, V.ref p2][i]? = some x → ∃ (p m l : Addr) (xs' : List V) (as' : List (Int × Int)), x = V.ref p ∧ HB p = some (.tup [.ref m, .ref l]) ∧ SpAt K HB m ((as'.map (·.1)).sum, (as'.map (·.2)).sum) ∧ HB l = some (.lst xs') ∧ RefL pairT HB xs' as' ∧ as'.length ≤ 100 := by
      intro i x hx
      match i, hx with
      | 0, hx =>
        cases hx
        exact ⟨p1, m1, lp, xs, as, rfl, s7b _ _ h7, SpAt.same _ _ _ _ (s7.trans s7b) hm1, s4b _ _ hlp4, rf4.same pairT_mono s4b, hlen⟩
      | 1, hx =>
        cases hx
        exact ⟨p2, m2, sm, _, as.drop (as.length - fw), rfl, s10 _ _ h9, SpAt.same _ _ _ _ (s9.trans s10) hm2, (s57.trans s7b) _ _ h5, (rf4.same pairT_mono s4b).drop _, by rw [List.length_drop]; omega⟩
    refine ⟨L, rfl, ⟨_, SqL.of h10⟩, for_list (K := K) (a := L) (xs := [.ref p1, .ref p2])
      (fun i σ H' => Same HB H' ∧ ∃ x5 x6, σ = [some (.ref d), some (.ref lp), some (.ref ts), some (.int (1 + r)), some (.ref sm), x5, x6, none, none, none, none, none, none, none, none]) ⟨Same.refl _, none, none, rfl⟩
      (fun i σ H' _ h => SqL.of (h.1 _ _ h10)) ?_ ?_⟩
    · rintro i x σ H' hx ⟨sl, x5, x6, rfl⟩
      obtain ⟨p, m, l, xs', as', rfl, hp, hm, hl', rl, hlen'⟩ := item i x hx
      refine ⟨p, _, rfl, SqT.of (sl _ _ hp), rfl, _, _, rfl, _, _, rfl, rfl, ?_⟩
      obtain ⟨dxm, hm'⟩ := SpAt.same _ _ _ _ sl hm
      have exl' : xs'.length = as'.length := rl.1
      have hsl' : xs'.length < sizeLine := Nat.lt_of_le_of_lt (by rw [exl']; exact hlen') (by decide)
      refine ⟨_, rfl, m, _, dxm, _, _, rfl, hm', c_Speed T, n_Speed_bits T, fS_b _ _, _, rfl, m, _, dxm, _, _, rfl, hm', c_Speed T, n_Speed_beats T, fS_n _ _, by show 2 ≤ sizeLine; decide, fun t1 nt1 => ?_⟩
      have su1 := Same.upd (o := .tup [.int (as'.map (·.1)).sum, .int (as'.map (·.2)).sum]) nt1
      have hu1 : upd H' t1 (.tup [.int (as'.map (·.1)).sum, .int (as'.map (·.2)).sum]) t1 = some (.tup [.int (as'.map (·.1)).sum, .int (as'.map (·.2)).sum]) := upd_same
      generalize upd H' t1 (.tup [.int (as'.map (·.1)).sum, .int (as'.map (·.2)).sum]) = H1 at su1 hu1 ⊢
      have sl1 := sl.trans su1
      have hl1 := sl1 _ _ hl'
      have rl1 := rl.same pairT_mono sl1
      refine ⟨_, rfl, l, rfl, ⟨_, SqL.of hl1⟩, fun D1 nD1 => ?_⟩
      refine lc_map (walk_list (K := K) (a := l) (xs := xs')) (fun i y _ => ∃ a, as'[i]? = some a ∧ y = .int a.1) (fun _ _ _ _ _ h => h) nD1 (fun H2 s2 => SqL.of (s2 _ _ hl1)) hsl' (fun i x H2 H3 hi s2 hy Kq hq => ?_) fun acc H2 s2 hl2 hacc hD => ?_
      · obtain ⟨rfl, hx⟩ := hy
        obtain ⟨q', a, rfl, ha, hq'⟩ := (rl1.same pairT_mono s2).get hx
        refine ⟨rfl, _, rfl, q', _, _, _, rfl, rfl, SqT.of hq', rfl, hq _ _ (Same.refl _) ⟨a, ha, rfl⟩⟩
      have e1 := map_ints (f := fun p : Int × Int => p.1) (as := as') (H := H2) (by rw [hl2, exl']) hacc
      subst e1
      refine ⟨D1, _, rfl, SqL.of hD, ?_⟩
      have hl2' := s2 _ _ hl1
      have rl2 := rl1.same pairT_mono s2
      refine ⟨_, rfl, l, rfl, ⟨_, SqL.of hl2'⟩, fun D2 nD2 => ?_⟩
      refine lc_map (walk_list (K := K) (a := l) (xs := xs')) (fun i y _ => ∃ a, as'[i]? = some a ∧ y = .int a.2) (fun _ _ _ _ _ h => h) nD2 (fun H2 s2 => SqL.of (s2 _ _ hl2')) hsl' (fun i x H3 H4 hi s3 hy Kq hq => ?_) fun acc H3 s3 hl3 hacc hD2 => ?_
      · obtain ⟨rfl, hx⟩ := hy
        obtain ⟨q', a, rfl, ha, hq'⟩ := (rl2.same pairT_mono s3).get hx
        refine ⟨rfl, _, rfl, q', _, _, _, rfl, rfl, SqT.of hq', rfl, hq _ _ (Same.refl _) ⟨a, ha, rfl⟩⟩
      have e2 := map_ints (f := fun p : Int × Int => p.2) (as := as') (H := H3) (by rw [hl3, exl']) hacc
      subst e2
      refine ⟨D2, _, rfl, SqL.of hD2, by show 2 ≤ sizeLine; decide, fun t2 nt2 => ?_⟩
      have su2 := Same.upd (o := .tup [.int (as'.map (·.1)).sum, .int (as'.map (·.2)).sum]) nt2
      have hu2 : upd H3 t2 (.tup [.int (as'.map (·.1)).sum, .int (as'.map (·.2)).sum]) t2 = some (.tup [.int (as'.map (·.1)).sum, .int (as'.map (·.2)).sum]) := upd_same
      generalize upd H3 t2 (.tup [.int (as'.map (·.1)).sum, .int (as'.map (·.2)).sum]) = H4 at su2 hu2 ⊢
      refine ⟨_, _, .tup (SqT.of ((s2.trans (s3.trans su2)) _ _ hu1)) (.cons (.int _) (.cons (.int _) .nil)), .tup (SqT.of hu2) (.cons (.int _) (.cons (.int _) .nil)), rfl, rfl, _, rfl, ?_⟩
      have ez : ∀ a b : Int, PyData.eqv (.tuple [.int a, .int b]) (.tuple [.int a, .int b]) = true := fun a b => by simp [PyData.eqv, PyData.eqvAll]
      rw [ez]
      exact iteF ⟨sl1.trans (s2.trans (s3.trans su2)), _, _, rfl⟩
    · rintro σ H' ⟨sl, x5, x6, rfl⟩
      have spsA : ∀ {G : Hp}, Same H' G → SpsAt K G ts as := fun {G} sg => sps4.same (s4b.trans (sl.trans sg))
      have okA : ∀ p ∈ as, SpOk p := fun p hp => (hin p hp).ok
      refine ⟨_, rfl, ts, as, rfl, spsA (Same.refl _), hne, by omega, okA, fun lo pl J1 t1 hlo oklo minlo => ?_⟩
      refine ⟨_, rfl, ts, as, rfl, spsA t1, hne, by omega, okA, fun mi pm J2 t2 hmi okmi c1 c2 => ?_⟩
      refine ⟨by show 2 ≤ sizeLine; decide, fun tt ntt => ?_⟩
      have su := Same.upd (o := .tup [.ref lo, .ref mi]) ntt
      have hu : upd J2 tt (.tup [.ref lo, .ref mi]) tt = some (.tup [.ref lo, .ref mi]) := upd_same
      generalize upd J2 tt (.tup [.ref lo, .ref mi]) = J3 at su hu ⊢
      refine ⟨tt, _, rfl, SqT.of hu, rfl, _, _, rfl, _, _, rfl, rfl, ?_⟩
      have hlo3 := SpAt.same _ _ _ _ (t2.trans su) hlo
      have hmi3 := SpAt.same _ _ _ _ su hmi
      obtain ⟨ys, hts3, rts3⟩ := spsA (t1.trans (t2.trans su))
      have t3 := t1.trans (t2.trans su)
      have eyl : ys.length = as.length := rts3.1
      have hsy : ys.length < sizeLine := Nat.lt_of_le_of_lt (by rw [eyl]; exact hlen) (by decide)
      have rt1 := rts3.same SpAt.same (Same.refl J3)
      refine ⟨_, rfl, ts, rfl, ⟨_, SqT.of ((Same.refl J3) _ _ hts3)⟩, fun D1 nD1 => ?_⟩
      refine lc_filt (walk_tup (K := K) (a := ts) (xs := ys)) (fun j => (as[j]?.map fun u => !decide (le pm u)).getD false) (fun j => ys.getD j .non) nD1 (fun G2 g2 => SqT.of (((Same.refl J3).trans g2) _ _ hts3)) hsy (fun j y G2 G3 hj g2 hy Kq Kn k1 k2 => ?_) fun J4 g1 hD1 => ?_
      · obtain ⟨rfl, hy⟩ := hy
        obtain ⟨qy, u, rfl, hu, hqu⟩ := (rt1.same SpAt.same g2).get hy
        have oku := okA u (List.mem_of_getElem? hu)
        have hx0 := SpAt.same _ _ _ _ ((Same.refl J3).trans g2) hmi3
        obtain ⟨dxv, hrv⟩ := hqu
        refine ⟨rfl, ?_⟩
        refine ⟨_, rfl, _, dxv, _, rfl, hrv, fS_no _ _ (by decide +kernel) (by decide +kernel), _, rfl, _, _, _, _, rfl, ⟨dxv, hrv⟩, hx0, oku, okmi, _, rfl, ?_⟩
        have ef : ys.getD j V.non = .ref qy := by rw [List.getD_eq_getElem?_getD, hy] <;> rfl
        cases hc : decide (le pm u) with
        | true =>
          refine iteF (k2 ?_ _ (Same.refl _))
          rw [hu]
          show (!decide (le pm u)) = false
          rw [hc]
          rfl
        | false =>
          refine iteT ⟨_, rfl, ?_⟩
          have q1 := k1 (by rw [hu]; show (!decide (le pm u)) = true; rw [hc]; rfl) _ (Same.refl _)
          rw [ef] at q1
          exact q1
      have rt2 := rts3.same SpAt.same g1
      refine ⟨_, rfl, ts, rfl, ⟨_, SqT.of (g1 _ _ hts3)⟩, fun D2 nD2 => ?_⟩
      refine lc_filt (walk_tup (K := K) (a := ts) (xs := ys)) (fun j => (as[j]?.map fun u => !decide (le u pm)).getD false) (fun j => ys.getD j .non) nD2 (fun G2 g2 => SqT.of ((g1.trans g2) _ _ hts3)) hsy (fun j y G2 G3 hj g2 hy Kq Kn k1 k2 => ?_) fun J5 g2 hD2 => ?_
      · obtain ⟨rfl, hy⟩ := hy
        obtain ⟨qy, u, rfl, hu, hqu⟩ := (rt2.same SpAt.same g2).get hy
        have oku := okA u (List.mem_of_getElem? hu)
        have hx0 := SpAt.same _ _ _ _ (g1.trans g2) hmi3
        obtain ⟨dxv, hrv⟩ := hx0
        refine ⟨rfl, ?_⟩
        refine ⟨_, rfl, _, dxv, _, rfl, hrv, fS_no _ _ (by decide +kernel) (by decide +kernel), _, rfl, _, _, _, _, rfl, ⟨dxv, hrv⟩, hqu, okmi, oku, _, rfl, ?_⟩
        have ef : ys.getD j V.non = .ref qy := by rw [List.getD_eq_getElem?_getD, hy] <;> rfl
        cases hc : decide (le u pm) with
        | true =>
          refine iteF (k2 ?_ _ (Same.refl _))
          rw [hu]
          show (!decide (le u pm)) = false
          rw [hc]
          rfl
        | false =>
          refine iteT ⟨_, rfl, ?_⟩
          have q1 := k1 (by rw [hu]; show (!decide (le u pm)) = true; rw [hc]; rfl) _ (Same.refl _)
          rw [ef] at q1
          exact q1
      have g12 := g1.trans g2
      have rt3 := rts3.same SpAt.same g12
      refine ⟨_, rfl, ts, rfl, ⟨_, SqT.of (g12 _ _ hts3)⟩, fun D3 nD3 => ?_⟩
      refine lc_filt (walk_tup (K := K) (a := ts) (xs := ys)) (fun _ => false) (fun j => ys.getD j .non) nD3 (fun G2 g3 => SqT.of ((g12.trans g3) _ _ hts3)) hsy (fun j y G2 G3 hj g3 hy Kq Kn k1 k2 => ?_) fun J6 g3 hD3 => ?_
      · obtain ⟨rfl, hy⟩ := hy
        obtain ⟨qy, u, rfl, hu, hqu⟩ := (rt3.same SpAt.same g3).get hy
        have hum := List.mem_of_getElem? hu
        have oku := okA u hum
        have hx0 := SpAt.same _ _ _ _ (g12.trans g3) hlo3
        obtain ⟨dxv, hrv⟩ := hqu
        refine ⟨rfl, ?_⟩
        refine ⟨_, rfl, _, dxv, _, rfl, hrv, fS_no _ _ (by decide +kernel) (by decide +kernel), _, rfl, _, _, _, _, rfl, ⟨dxv, hrv⟩, hx0, oku, oklo, _, rfl, ?_⟩
        rw [decide_eq_true (minlo u hum)]
        exact iteF (k2 rfl _ (Same.refl _))
      rw [filt_none] at hD3
      refine ⟨by show 0 ≤ sizeLine; decide, fun em nem => ?_⟩
      have suE := Same.upd (o := .lst []) nem
      have huE : upd J6 em (.lst []) em = some (.lst []) := upd_same
      generalize upd J6 em (.lst []) = J7 at suE huE ⊢
      refine ⟨_, _, .lst (SqL.of (suE _ _ hD3)) .nil, .lst (SqL.of huE) .nil, rfl, rfl, _, rfl, ?_⟩
      have ez : PyData.eqv (.list []) (.list []) = true := by simp [PyData.eqv, PyData.eqvAll]
      rw [ez]
      have g7 := g12.trans (g3.trans suE)
      refine iteF ?_
      refine ⟨_, rfl, ts, _, as, as, rfl, spsA (t3.trans g7), hne, by omega, .inl ⟨rfl, rfl⟩, fun mm J8 g8 hmm => ?_⟩
      obtain ⟨dmm, hmm'⟩ := hmm
      refine ⟨mm, dmm, _, rfl, hmm', fS_no _ _ (by decide +kernel) (by decide +kernel), _, rfl, _, _, _, _, rfl, ⟨dmm, hmm'⟩, SpAt.same _ _ _ _ (g7.trans g8) hlo3, sp_sum hin hn0 hlen, oklo, _, rfl, ?_⟩
      rw [decide_eq_true (mean_le minlo)]
      refine iteF ?_
      have g18 := g2.trans (g3.trans (suE.trans g8))
      have g28 := g3.trans (suE.trans g8)
      have el1 : (((List.range ys.length).filter fun j => (as[j]?.map fun u => !decide (le pm u)).getD false).map fun j => ys.getD j V.non).length = (as.filter fun u => !decide (le pm u)).length := by
        rw [List.length_map, eyl, range_filt_all]
      have el2 : (((List.range ys.length).filter fun j => (as[j]?.map fun u => !decide (le u pm)).getD false).map fun j => ys.getD j V.non).length = (as.filter fun u => !decide (le u pm)).length := by
        rw [List.length_map, eyl, range_filt_all]
      rw [← el1] at c1
      rw [← el2] at c2
      have hts8 := (g7.trans g8) _ _ hts3
      refine ⟨_, rfl, D1, _, rfl, .inl (SqL.of (g18 _ _ hD1)), _, _, rfl, rfl, .inl (small64 (by decide) (by decide)), _, rfl, ts, _, rfl, .inr (SqT.of hts8), _, _, rfl, rfl, _, rfl, ?_⟩
      rw [decide_eq_true (by have := eyl; omega)]
      refine iteT ?_
      refine ⟨_, rfl, D2, _, rfl, .inl (SqL.of (g28 _ _ hD2)), _, _, rfl, rfl, .inl (small64 (by decide) (by decide)), _, rfl, ts, _, rfl, .inr (SqT.of hts8), _, _, rfl, rfl, ?_⟩
      show Q (.bl (decide _)) J8
      rw [decide_eq_true (by have := eyl; omega)]
      have gall := sl.trans (t3.trans (g7.trans g8))
      exact q J8 (dk4.same (s4b.trans gall)) (kd.trans (KeepD.of (s4b.trans gall)))
end
end Rp
/- RpL11 -/
set_option maxHeartbeats 4000000
/-! RpL11: _law_in_time. -/
namespace Rp
open PySem PySem.Spec PyProof.Rows L2 LamX NdefX
theorem in_time2 {s p L : Int} (h : 0 < p) : decide (fetchGo p [] (0 + 0) s 0 ≤ L) = decide (s * (1 * 1) ≤ p * 1 * L) := by
  have e : fetchGo p [] (0 + 0) s 0 = 0 + 0 - (-s).fdiv p := rfl
  have e2 : (-s).fdiv p = (-s) / p := Int.fdiv_eq_ediv_of_nonneg _ (Int.le_of_lt h)
  have k : -L ≤ (-s) / p ↔ -L * p ≤ -s := Int.le_ediv_iff_mul_le h
  rw [e, e2]
  have k2 : p * 1 * L = L * p := by rw [Int.mul_one, Int.mul_comm]
  have k3 : -L * p = -(L * p) := Int.neg_mul _ _
  rw [k2]
  rw [k3] at k
  by_cases c : -L ≤ (-s) / p
  · have := k.mp c
    rw [decide_eq_true (by omega), decide_eq_true (by omega)]
  · have c2 : ¬ -(L * p) ≤ -s := fun z => c (k.mpr z)
    rw [decide_eq_false (by omega), decide_eq_false (by omega)]
section
variable {P : Program} {w : World} {K : PySem.W.Frag} {mg : Str → Option Value} {base : Heap}
abbrev N_it : List Str := ["_law_talk_here", "_law_pairs", "_law_does", "_law_k", "_law_pace", "_law_rate", "_law_takes", "_law_good", "_law_size", "_law_at"]
theorem sc_it : FnScope N_it ["_law_talk_here", "_law_pairs"] (defScope s_L_in_time) := ⟨rfl, rfl, rfl, by decide +kernel, rfl, by decide +kernel, by decide +kernel⟩
def spIt (K : PySem.W.Frag) : Sp := fun vs H Q _ => ∃ (t l z lp : Addr) (lens : List Int) (rows : List (List Int)) (r : Nat) (xs : List V) (as : List (Int × Int)), vs = [.ref t, .ref lp] ∧ H t = some (.tup [.ref l, .ref z]) ∧ TkD H l z lens rows ∧ TkOk lens rows r ∧ H lp = some (.lst xs) ∧ RefL pairT H xs as ∧ as.length = lens.length ∧ (∀ p ∈ as, SpIn p) ∧ Tabs (T4 K) H ∧
  ∀ H', Q (.bl true) H'
theorem ok_it (T : Tx K mg) (TB : TbOk K mg base) : Okd P w K mg base 3 (He.fAd K ("_law_in_time", none)) ["_law_talk_here", "_law_pairs"] (spIt K) := by
  obtain ⟨fd, F⟩ := F_L_in_time T
  obtain ⟨fdv, GV, kpv, kbv⟩ := ok_bsp (P := P) (w := w) T TB
  obtain ⟨fdt, GT, kpt, bt⟩ := ok_Ti (P := P) (w := w) (base := base) T
  obtain ⟨fdi, GI, kpi, bi⟩ := ok_Si (P := P) (w := w) (base := base) T
  obtain ⟨fdf, GF, kpf, bf⟩ := ok_Sf (P := P) (w := w) (base := base) T
  obtain ⟨fdo, GO, kpo, bo⟩ := ok_Ri (P := P) (w := w) (base := base) T
  obtain ⟨fdr, GR, ⟨dr, vdr, bdr⟩, _⟩ := ok_Rf (P := P) (w := w) (mg := mg) (base := base) T
  refine ⟨fd, okF F sc_it (fun vs H Q E h => ?_) (fun cdv A outer s H vs Q E hr h => ?_), F.kp, FunD.bindsN F fun _ _ _ _ _ _ us hl => match us, hl with | [_, _], _ => rfl⟩
  · obtain ⟨t, l, z, lp, lens, rows, r, xs, as, rfl, _⟩ := h
    rfl
  · obtain ⟨t, l, z, lp, lens, rows, r, xs, as, rfl, ht, td, ok, hlp, rf, hal, hin, htb, q⟩ := h
    have hr1 := hr.mono (show 1 ≤ 2 by decide)
    refine ⟨_, pss_cons (ps_set (i := 2) sc_it.nd rfl (.inl rfl) (pe_callN GV hr1 rfl (g_by_speed T) kpv kbv pass0 (pa_cons (pe_make (m_Talk T) GT hr rfl (g_Talk T) bt .nil pass0 (pa_cons (pe_ix ix_tup (pv 0) pe_int (fun _ _ => rfl)) (pa_cons (pe_ix ix_tup (pv 0) pe_int (fun _ _ => rfl)) pa_nil))) pa_nil)
          (pk_cons (pe_tup (pa_cons pe_int (pa_cons pe_int pa_nil))) pk_nil)))
      (pss_cons (ps_for PassesOwn.never rfl (pi_range2 rfl (f_range T) (pa_cons pe_int (pa_cons (pe_callB call_len_seq (by rfl) (f_len T) PySem.boot_len (pa_cons (pv 1) pa_nil)) pa_nil))) (pg_name (i := 3) sc_it.nd rfl (.inr rfl))
        (pss_cons (ps_set (i := 4) sc_it.nd rfl (.inr rfl) (pe_callB (call_max2 rfl) (by rfl) (f_max T) (by decide +kernel) (pa_cons pe_int (pa_cons (pe_meth0 (pe_make (m_Speed T) GI hr rfl (g_Speed T) bi .nil pass0
            (pa_cons (pe_ix ix_tup (pe_ix ix_list (pv 1) (pv 3) (fun _ _ => rfl)) pe_int (fun _ _ => rfl)) (pa_cons (pe_ix ix_tup (pe_ix ix_list (pv 1) (pv 3) (fun _ _ => rfl)) pe_int (fun _ _ => rfl)) pa_nil))) (c_Speed T) (t_Speed_floor T) GF hr1 bf .nil pass0) pa_nil))))
        (pss_cons (ps_set (i := 5) sc_it.nd rfl (.inl rfl) (pe_clo (k := 1) (i := 2) (sp := spC (PreSp K lens.length) (PostSp lens rows 1 1)) (E := E0) hr (by decide) rfl (.inl rfl)
            (pa_cons (pe_tup (pa_cons (pv 3) (pa_cons pe_int (pa_cons pe_int (pa_cons (pe_make (m_Speed T) GI hr rfl (g_Speed T) bi .nil pass0 (pa_cons (pv 4) (pa_cons pe_int pa_nil))) pa_nil))))) pa_nil)))
        (pss_cons (ps_set (i := 6) sc_it.nd rfl (.inr rfl) (pe_lc (own := [("_law_size", 8)]) (g := gName 8) (tt := tYes) (te := tMeth (He.ga K "Road") "fetched" (spRf K) [V.int 0] E0 (tMake (He.ga K "Road") (spRi K) [] E0 (tCons (tTup (tCons (tTup (tCons (tC (.int 1)) (tCons (tVar 4) tNil))) tNil)) tNil)) (tCons (tC (.int 0)) (tCons (tVar 8) tNil))) (by rfl) sc_it.nd
            (pi_tup (pe_ix ix_tup (pe_ix ix_tup (pv 0) pe_int (fun _ _ => rfl)) (pv 3) (fun _ _ => rfl))) (blkOk_by (own := [("_law_size", 8)]) (N := N_it) (sc := defScope s_L_in_time) (by decide +kernel)) (fun _ _ _ _ _ => pg_name (i := 8) sc_it.nd rfl (.inl rfl)) (fun _ _ _ _ _ => pts_nil)
            (fun _ _ _ _ _ => pe_meth (pe_make (m_Road T) GO hr rfl (g_Road T) bo .nil pass0 (pa_cons (pe_tup (pa_cons (pe_tup (pa_cons pe_int (pa_cons (pv 4) pa_nil))) pa_nil)) pa_nil)) (c_Road T) (t_Road_fetched T) GR hr1 bdr vdr pass0 (pa_cons pe_int (pa_cons (pv 8) pa_nil)))))
        (pss_cons (ps_setLc (i := 7) (own := [("_law_at", 9)]) (g := gName 9) (tt := tTest (tOp (rI0 fun i j => .bl (decide (i ≤ j))) (tOp (rIxL K) (tVar 6) (tVar 9)) (tOp (rIxT K) (tOp (rIxT K) (tVar 0) (tC (.int 0))) (tVar 3)))) (te := tVar 9) (by rfl) sc_it.nd rfl rfl (sw_true rfl rfl rfl (by decide +kernel))
            (pi_range1 rfl (f_range T) (pa_cons (pe_callB call_len_seq (by rfl) (f_len T) PySem.boot_len (pa_cons (pv 6) pa_nil)) pa_nil)) (blkOk_by (own := [("_law_at", 9)]) (N := N_it) (sc := defScope s_L_in_time) (by decide +kernel)) (fun _ _ _ _ _ => pg_name (i := 9) sc_it.nd rfl (.inl rfl))
            (fun _ _ _ _ _ => pts_one (pt_cmpR op_le (pe_ix ix_list (pv 6) (pv 9) (fun _ _ => rfl)) (pe_ix ix_tup (pe_ix ix_tup (pv 0) pe_int (fun _ _ => rfl)) (pv 3) (fun _ _ => rfl)) (nomark _))) (fun _ _ _ _ _ => pv 9))
        (pss_one (ps_if (pt_cmpR op_ne (pv 5) (pe_callBK (cr_maxD rfl (units64 hr)) (by rfl) (f_max T) (by decide +kernel) (pa_cons (pv 7) pa_nil) (pk_cons pe_int pk_nil)) (nomark _)) (pss_one (ps_ret pe_bl)) pss_nil)))))))
      (pss_one (ps_ret pe_bl))), ?_⟩
    have h2 : 2 ≤ sizeLine := by decide
    have h1 : 1 ≤ sizeLine := by decide
    have h4 : 4 ≤ sizeLine := by decide
    refine ⟨_, rfl, t, _, _, _, rfl, rfl, SqT.of ht, atI_nat (j := 0) rfl, _, rfl, t, _, _, _, rfl, rfl, SqT.of ht, atI_nat (j := 1) rfl, ?_⟩
    intro tk dxk ntk ndk nek
    refine ⟨tk, dxk, l, z, rfl, upd_same, fun H1 mm => ⟨rfl, h2, fun pt npt => ?_⟩⟩
    have s1 := mm.same ntk ndk
    have htk1 : TkAt K H1 tk lens rows := ⟨dxk, l, z, mm.1, td.same s1⟩
    have s2 := Same.upd (o := .tup [.int 1, .int 1]) npt
    refine ⟨rfl, rfl, (fun _ => False), tk, pt, lens, rows, r, 1, 1, rfl, htk1.same s2, ok, upd_same, by decide, by decide, htb.ext (s1.trans s2), (fun b hb => hb.elim), fun f HB eN tN clo => ?_⟩
    have kB : ∀ {b : Addr} {o : HO}, H b = some o → (∀ ps, o ≠ .tbl ps) → HB b = some o := fun {b o} e n => eN _ _ ((s1.trans s2) _ _ e) n
    have htB : HB t = some (.tup [.ref l, .ref z]) := kB ht fun ps z => nomatch z
    have hlB : HB l = some (.tup (lens.map V.int)) := kB td.hl fun ps z => nomatch z
    obtain ⟨zs, hz0, rz0⟩ := td.hz
    have hzB : HB z = some (.tup zs) := kB hz0 fun ps z => nomatch z
    have rzB : RefL rowT HB zs rows := ⟨rz0.1, fun i a h => let ⟨q, e, y⟩ := rz0.2 i a h; ⟨q, e, kB y fun ps z => nomatch z⟩⟩
    have hlpB : HB lp = some (.lst xs) := kB hlp fun ps z => nomatch z
    have rfB : RefL pairT HB xs as := ⟨rf.1, fun i a h => let ⟨q, e, y⟩ := rf.2 i a h; ⟨q, e, kB y fun ps z => nomatch z⟩⟩
    clear kB eN tN htb htk1 s1 s2 mm
    have exl : xs.length = as.length := rf.1
    have hm := ok.few
    refine ⟨_, rfl, lp, _, rfl, .inl (SqL.of hlpB), _, _, rfl, ⟨by decide, by decide, by omega, by omega⟩, ?_⟩
    refine for_range (lo := 1) (n := (((xs.length : Nat) : Int) - 1).toNat) (fun i σ H' => Same HB H' ∧ ∃ x3 x4 x5 x6 x7, σ = [some (.ref t), some (.ref lp), some (.ref f), x3, x4, x5, x6, x7, none, none]) ⟨Same.refl _, none, none, none, none, none, rfl⟩ ?_ fun σ H' h => q H'
    rintro i σ H' hi ⟨sB, x3, x4, x5, x6, x7, rfl⟩
    have hk0 : (0 : Int) ≤ 1 + (i : Int) := by omega
    have hk1 : (1 : Int) + (i : Int) < (lens.length : Int) := by omega
    obtain ⟨qp, eqp, hqp⟩ := atI_ref (rfB.same pairT_mono sB) (i := 1 + (i : Int)) (0, 1) hk0 (by omega)
    have hpin : SpIn (as.getD (1 + (i : Int)).toNat (0, 1)) := by
      have hk : (1 + (i : Int)).toNat < as.length := by omega
      rw [List.getD_eq_getElem?_getD, List.getElem?_eq_getElem hk]
      exact hin _ (List.getElem_mem hk)
    generalize as.getD (1 + (i : Int)).toNat (0, 1) = p at hqp hpin
    have hlp' := sB _ _ hlpB
    refine ⟨_, rfl, _, rfl, lp, _, _, _, rfl, rfl, SqL.of hlp', eqp, qp, _, _, _, rfl, rfl, SqT.of hqp, atI_nat (j := 0) rfl, _, rfl, _, rfl, lp, _, _, _, rfl, rfl, SqL.of hlp', eqp, qp, _, _, _, rfl, rfl, SqT.of hqp, atI_nat (j := 1) rfl, ?_⟩
    intro x dx nx ndx nex
    refine ⟨x, dx, _, _, rfl, upd_same, fun H1 mm => ⟨rfl, ?_⟩⟩
    refine ⟨x, dx, _, rfl, mm.1, fS_no _ _ (by decide +kernel) (by decide +kernel), x, p, rfl, ⟨dx, mm.1⟩, hpin.ok, ?_⟩
    have s1 := sB.trans (mm.same nx ndx)
    clear mm
    refine ⟨_, _, rfl, ?_⟩
    have hpace : 1 ≤ (if p.1.fdiv p.2 > 1 then p.1.fdiv p.2 else 1) ∧ (if p.1.fdiv p.2 > 1 then p.1.fdiv p.2 else 1) ≤ 1000 := by
      have e2 : p.1.fdiv p.2 = p.1 / p.2 := Int.fdiv_eq_ediv_of_nonneg _ (by have := hpin.2.2.1; omega)
      have := Int.ediv_le_self p.2 hpin.1
      have := hpin.2.1
      split <;> omega
    generalize (if p.1.fdiv p.2 > 1 then p.1.fdiv p.2 else 1) = pace at hpace ⊢
    obtain ⟨fn, run⟩ := (clo.grow (KeepX.of s1)) _ (KeepX.refl _)
    refine ⟨f, rfl, fn, _, rfl, _, rfl, ?_⟩
    intro y dy ny ndy ney
    refine ⟨y, dy, _, _, rfl, upd_same, fun H2 mm => ⟨rfl, h4, fun sa nsa => ?_⟩⟩
    have s12 := mm.same ny ndy
    have s3 := Same.upd (o := .tup [.int (1 + (i : Int)), .int 5, .int 0, .ref y]) nsa
    have s13 := s12.trans s3
    obtain ⟨fn3, run3⟩ := (clo.grow (KeepX.of (s1.trans s13))) _ (KeepX.refl _)
    refine ⟨fn3, run3, ⟨1 + (i : Int), 5, .int 0, some (pace, 1)⟩, _, rfl, ⟨sa, .ref y, rfl, upd_same, hk0, hk1, .inr ⟨y, (pace, 1), rfl, rfl, ⟨dy, s3 _ _ mm.1⟩, ⟨by show 0 ≤ pace; omega, by show pace ≤ 1000000; omega, by show (1 : Int) ≤ 1; decide, by show (1 : Int) ≤ 1000000; decide⟩⟩⟩, fun v H4 hv s4 => ?_⟩
    have ev : v = .int (mxD 0 (goodAt (rows.getD (1 + (i : Int)).toNat []) (pace * 1 * lenAt lens (1 + (i : Int))) (1 * 1))) := hv
    subst ev
    have sB4 := s1.trans (s13.trans s4)
    clear hv s4 s13 s3 s12 mm fn run fn3 run3
    have ht4 := sB4 _ _ htB
    have hl4 := sB4 _ _ hlB
    have hz4 := sB4 _ _ hzB
    have hkr : (1 : Int) + (i : Int) < (rows.length : Int) := by rw [← ok.len]; exact hk1
    obtain ⟨qr, eqr, hqr⟩ := atI_ref (rzB.same rowT_mono sB4) (i := 1 + (i : Int)) [] hk0 hkr
    have hrow : rows.getD (1 + (i : Int)).toNat [] ∈ rows := by
      have hk : (1 + (i : Int)).toNat < rows.length := by omega
      rw [List.getD_eq_getElem?_getD, List.getElem?_eq_getElem hk]
      exact List.getElem_mem hk
    have hrl := ok.row _ hrow
    have hrs := ok.sz _ hrow
    have hr2 := ok.r2
    generalize rows.getD (1 + (i : Int)).toNat [] = row at hqr hrl hrs ⊢
    have hqr' : H4 qr = some (.tup (row.map V.int)) := hqr
    refine ⟨_, rfl, t, _, _, _, rfl, rfl, SqT.of ht4, atI_nat (j := 1) rfl, _, rfl, z, _, _, _, rfl, rfl, SqT.of hz4, eqr, qr, rfl, ⟨_, SqT.of hqr'⟩, fun D nD => ?_⟩
    refine lc_map (walk_tup (K := K) (a := qr) (xs := row.map V.int)) (fun j y _ => ∃ u, row[j]? = some u ∧ y = .int (fetchGo pace [] (0 + 0) u 0)) (fun _ _ _ _ _ h => h) nD (fun H2 s2 => SqT.of (s2 _ _ hqr')) (by rw [List.length_map, hrl]; exact Nat.lt_of_le_of_lt hr2 (by decide))
      (fun j y G2 G3 hj s2 hy Kq hq => ?_) fun acc H5 s5 hl hacc hD => ?_
    · obtain ⟨rfl, hy⟩ := hy
      rw [List.getElem?_map] at hy
      cases eu : row[j]? with
      | none =>
        rw [eu] at hy
        cases hy
      | some u =>
        rw [eu] at hy
        cases hy
        have hu := hrs u (List.mem_of_getElem? eu)
        refine ⟨rfl, ?_⟩
        refine ⟨_, rfl, h2, fun p1 np1 => ⟨h1, fun p2 np2 => ?_⟩⟩
        have g1 := Same.upd (o := .tup [.int 1, .int pace]) np1
        have g2 := Same.upd (o := .tup [.ref p1]) np2
        intro ro dro nro ndro nero
        have mm : MadeAt (upd (upd (upd (upd G3 p1 (.tup [.int 1, .int pace])) p2 (.tup [.ref p1])) dro (.own ro)) ro (.ins (He.ga K "Road") dro [])) (upd (upd (upd (upd (upd G3 p1 (.tup [.int 1, .int pace])) p2 (.tup [.ref p1])) dro (.own ro)) ro (.ins (He.ga K "Road") dro [])) ro (.ins (He.ga K "Road") dro (fR (.ref p2)))) ro (He.ga K "Road") dro (fR (.ref p2)) := ⟨upd_same, fun b hb => upd_ne hb⟩
        have g3 := mm.same nro ndro
        refine ⟨ro, dro, .ref p2, rfl, upd_same, rfl, ?_⟩
        refine ⟨ro, dro, _, rfl, upd_same, fR_no _ (by decide +kernel), _, rfl, ro, p2, [], 1, pace, 0, u, 0, rfl, ⟨dro, upd_same⟩, ⟨[.ref p1], g3 _ _ upd_same, RefL.cons RefL.nil (show _ = _ from (g2.trans g3) _ _ upd_same)⟩, ?_, by omega, by omega, fun G4 g4 => ?_⟩
        · intro pc hpc
          have : pc = (1, pace) := by simpa using hpc
          subst this
          exact ⟨by show (1 : Int) ≤ 1; decide, by show (1 : Int) ≤ 1000; decide, by show 0 ≤ pace; omega, by show pace ≤ 1000000; omega⟩
        · exact hq _ _ (g1.trans (g2.trans (g3.trans g4))) ⟨u, eu, rfl⟩
    have ea := map_ints (f := fun u : Int => fetchGo pace [] (0 + 0) u 0) (as := row) (H := H5) (by rw [hl, List.length_map]) hacc
    subst ea
    clear hacc
    generalize hL : lenAt lens (1 + (i : Int)) = L
    have hll : (((row.map fun u => fetchGo pace [] (0 + 0) u 0).map V.int).length : Nat) = row.length := by rw [List.length_map, List.length_map]
    refine ⟨_, rfl, D, _, rfl, .inl (SqL.of hD), _, rfl, by omega, by omega, fun D2 nD2 => ?_⟩
    have ht5 := s5 _ _ ht4
    have hl5 := s5 _ _ hl4
    refine lc_filt (walk_range (lo := 0) (n := (((((row.map fun u => fetchGo pace [] (0 + 0) u 0).map V.int).length : Nat) : Int)).toNat)) (goodF row (pace * 1 * L) (1 * 1)) (fun j => .int (0 + (j : Int))) nD2 (fun _ _ => trivial) (by rw [hll]; exact Nat.lt_of_le_of_lt (show ((row.length : Nat) : Int).toNat ≤ 100 by omega) (by decide))
      (fun j y G2 G3 hj s2 hy Kq Kn k1 k2 => ?_) fun H6 s6 hD2 => ?_
    · obtain ⟨rfl, rfl⟩ := hy
      have hjr : j < row.length := by omega
      have eat : atI ((row.map fun u => fetchGo pace [] (0 + 0) u 0).map V.int) (0 + (j : Int)) = some (.int (fetchGo pace [] (0 + 0) row[j] 0)) := by
        have e0 : (0 + (j : Int)) = (j : Int) := Int.zero_add _
        rw [e0]
        exact atI_nat (by rw [List.getElem?_map, List.getElem?_map, List.getElem?_eq_getElem hjr]; rfl)
      have ec : goodF row (pace * 1 * L) (1 * 1) j = decide (fetchGo pace [] (0 + 0) row[j] 0 ≤ L) := by
        rw [in_time2 (by omega)]
        unfold goodF
        rw [List.getElem?_eq_getElem hjr]
        rfl
      refine ⟨rfl, ?_⟩
      refine ⟨_, rfl, _, rfl, D, _, _, _, rfl, rfl, SqL.of (s2 _ _ hD), eat, _, rfl, t, _, _, _, rfl, rfl, SqT.of (s2 _ _ ht5), atI_nat (j := 0) rfl, _, rfl, l, _, _, _, rfl, rfl, SqT.of (s2 _ _ hl5), atI_ints hk0 hk1, _, _, rfl, rfl, _, rfl, ?_⟩
      have hL2 : lens.getD (1 + (i : Int)).toNat 0 = L := hL
      rw [hL2]
      cases hc : decide (fetchGo pace [] (0 + 0) row[j] 0 ≤ L) with
      | true => exact iteT ⟨_, rfl, k1 (ec.trans hc) _ (Same.refl _)⟩
      | false => exact iteF (k2 (ec.trans hc) _ (Same.refl _))
    have eg : (((List.range (((((row.map fun u => fetchGo pace [] (0 + 0) u 0).map V.int).length : Nat) : Int)).toNat).filter (goodF row (pace * 1 * L) (1 * 1))).map fun (j : Nat) => V.int (0 + (j : Int))) = (goodAt row (pace * 1 * L) (1 * 1)).map V.int := by
      unfold goodAt
      rw [hll, Int.toNat_natCast, List.map_map]
      refine List.map_congr_left fun j _ => ?_
      show V.int (0 + (j : Int)) = V.int (Int.ofNat j)
      rw [Int.zero_add]
      rfl
    rw [eg] at hD2
    refine ⟨_, rfl, _, rfl, D2, _, 0, rfl, rfl, SqL.of hD2, rfl, _, rfl, ?_⟩
    rw [ne_int, decide_eq_true rfl]
    exact iteF ⟨(sB4.trans s5).trans s6, _, _, _, _, _, rfl⟩
end
end Rp
/- RpL12 -/
set_option maxHeartbeats 4000000
/-! RpL12: the law. -/
namespace Rp
open PySem PySem.Spec PyProof.Rows L2 LamX NdefX
theorem span_le {rows : List (List Int)} {ps : List Pc} {d wait begun whole rate : Int} {k : Nat} (h : FOk rows (spAt d ps) wait k rate begun whole) (hp : ∀ p ∈ ps, 1 ≤ p.1 ∧ 0 ≤ p.2) (hd : 1 ≤ d) (hs : (ps.map (·.1)).sum ≤ 600) (hw : 0 ≤ wait) (hw2 : wait ≤ 20) (hz : szAt rows (k : Int) rate ≤ 1000) :
    1 ≤ whole - begun ∧ whole - begun ≤ 2000 := by
  obtain ⟨h0, n, e, h1, _⟩ := h
  by_cases c : n ≤ 600
  · omega
  · obtain ⟨m, rfl⟩ : ∃ m : Nat, n = 600 + m := ⟨n - 600, by omega⟩
    rw [bits_add] at h1
    have n1 := bits_nn (f := spAt d ps) (fun t => spAt_nn (by omega) t fun p hp' => (hp p hp').2) (begun + wait) 600
    have e2 : bits (spAt d ps) (begun + wait + ((600 : Nat) : Int)) m = d * (m : Int) := bits_const fun i _ => spAt_far (by omega) fun p hp' => (hp p hp').1
    rw [e2] at h1
    have h2 : 1 * (m : Int) ≤ d * (m : Int) := Int.mul_le_mul_of_nonneg_right hd (by omega)
    omega
theorem kI {H1 H2 : Hp} {d c : Addr} {e : Nat} {A : Int} (kx : KeepX (exD d c) H1 H2) (dk : DkS H1 d c e A) : KeepI H1 H2 := fun b o h n1 n2 n3 n4 => kx b o h (dk.exOk.not (ExtN.refl H1) h n1 n2) n3
theorem TkD.kI {H1 H2 : Hp} {l z : Addr} {lens : List Int} {rows : List (List Int)} (h : TkD H1 l z lens rows) (k : KeepI H1 H2) : TkD H2 l z lens rows := by
  obtain ⟨zs, hz, r⟩ := h.hz
  exact ⟨k.tup h.hl, zs, k.tup hz, r.1, fun i a h => let ⟨q, e, y⟩ := r.2 i a h; ⟨q, e, k.tup y⟩⟩
theorem PcsAt.kI {H1 H2 : Hp} {t : Addr} {ps : List Pc} (h : PcsAt H1 t ps) (k : KeepI H1 H2) : PcsAt H2 t ps := by
  obtain ⟨xs, e, r⟩ := h
  exact ⟨xs, k.tup e, r.1, fun i a h => let ⟨q, e, y⟩ := r.2 i a h; ⟨q, e, k.tup y⟩⟩
theorem road_make {K : PySem.W.Frag} {v : V} {Q : Addr → Hp → Prop} {H : Hp} (h : ∀ x H', Same H H' → RoadAt K H' x v → Q x H') : ∀ x dx, H x = none → H dx = none → dx ≠ x → spRi K (V.ref x :: ([v] ++ [])) (upd (upd H dx (.own x)) x (.ins (He.ga K "Road") dx [])) (fun u H2 => u = V.non ∧ Q x H2) E0 := by
  intro ro dro nro ndro _
  have mm : MadeAt (upd (upd H dro (.own ro)) ro (.ins (He.ga K "Road") dro [])) (upd (upd (upd H dro (.own ro)) ro (.ins (He.ga K "Road") dro [])) ro (.ins (He.ga K "Road") dro (fR v))) ro (He.ga K "Road") dro (fR v) := ⟨upd_same, fun b hb => upd_ne hb⟩
  exact ⟨ro, dro, v, rfl, upd_same, rfl, h _ _ (mm.same nro ndro) ⟨dro, upd_same⟩⟩
section
variable {P : Program} {w : World} {K : PySem.W.Frag} {mg : Str → Option Value} {base : Heap}
abbrev N_law : List Str := ["_law_script", "_law_deck_here", "_law_many", "_law_talk_here", "_law_pieces_here", "_law_first", "_law_second", "_law_room", "_law_ahead", "_law_plan", "_law_chooser", "_law_road", "_law_run", "_law_pairs", "_law_k"]
theorem sc_law : FnScope N_law ["_law_script"] (defScope s_law) := ⟨rfl, rfl, rfl, by decide +kernel, rfl, by decide +kernel, by decide +kernel⟩
def spLaw (K : PySem.W.Frag) : Sp := fun vs H Q _ => ∃ (a : Addr) (ns : List Int) (e : Nat), vs = [.ref a] ∧ SqL K H a (ns.map V.int) ∧ ns.length ≤ 63 ∧ e ≤ 2000000 ∧ (∀ z ∈ ns, z.natAbs < 2 ^ e) ∧ Tabs (T4 K) H ∧ ∀ H', Q (.bl true) H'
abbrev rLen (K : PySem.W.Frag) : List V → Hp → VK → Prop := fun xs H Q => ∃ p ys, xs = [.ref p] ∧ (SqL K H p ys ∨ SqT K H p ys) ∧ Q (.int ((ys.length : Nat) : Int)) H
abbrev tPlan (K : PySem.W.Frag) : TE := tCall spDr [] E0 (tCons (tVar 1) (tCons (tCB (rLen K) (tCons (tOp (rIxT K) (tOp (rIxT K) (tVar 3) (tC (.int 1))) (tC (.int 0))) tNil)) tNil))
abbrev tPair (K : PySem.W.Frag) : TE := tTup (tCons (tOp (rIxT K) (tOp (rIxT K) (tOp (rIxT K) (tVar 3) (tC (.int 1))) (tVar 14)) (tOp (rIxT K) (tFld K (tVar 12) "rates") (tVar 14)))
  (tCons (tOp (rI0 fun i j => .int (i - j)) (tOp (rIxT K) (tFld K (tVar 12) "whole") (tVar 14)) (tOp (rIxT K) (tFld K (tVar 12) "begun") (tVar 14))) tNil))
theorem ok_lawF (T : Tx K mg) (TB : TbOk K mg base) {fd : FuncData} (F : FunD K d_law.name d_law.qual (defArgs s_law) (defBody s_law) (defScope s_law) (d_law.dvs K) (d_law.kws K) (He.fAd K ("law", none)) fd) : FnOk P w K mg base CX0 40 (He.fAd K ("law", none)) fd ["_law_script"] (spLaw K) := by
  obtain ⟨fdk, GK, kpk, bk⟩ := ok_dk (P := P) (w := w) (base := base) T
  obtain ⟨fdd, GD, kpd, bd⟩ := ok_dr (P := P) (w := w) (base := base) T
  obtain ⟨fdt, GT, kpt, bt⟩ := ok_tk (P := P) (w := w) (base := base) T
  obtain ⟨fdp, GP, kpp, bp⟩ := ok_pc (P := P) (w := w) (base := base) T
  obtain ⟨fdo, GO, kpo, bo⟩ := ok_op (P := P) (w := w) (base := base) T
  obtain ⟨fdl, GL, kpl, bl⟩ := ok_rl (P := P) (w := w) T TB
  obtain ⟨fdr, GR, kpr, mv, kbr⟩ := ok_ro (P := P) (w := w) (mg := mg) (base := base) T
  obtain ⟨fda, GA, kpa, ba⟩ := ok_Ri (P := P) (w := w) (base := base) T
  obtain ⟨fdi, GI, kpi, bi⟩ := ok_Ti (P := P) (w := w) (base := base) T
  obtain ⟨fdf, GF, kpf, bf⟩ := ok_fr (P := P) (w := w) (base := base) T
  obtain ⟨fdm, GM, kpm, bm⟩ := ok_mr (P := P) (w := w) (base := base) T
  obtain ⟨fdn, GN, kpn, bn⟩ := ok_it (P := P) (w := w) T TB
  refine okF F sc_law (fun vs H Q E h => ?_) (fun cdv A outer s H vs Q E hr h => ?_)
  · obtain ⟨a, ns, e, rfl, _⟩ := h
    rfl
  · obtain ⟨a, ns, e, rfl, ha, hns, he, hz, htb, q⟩ := h
    have hr1 := hr.mono (show 1 ≤ 39 by decide)
    have hr2 := hr.mono (show 2 ≤ 39 by decide)
    refine ⟨_, pss_cons (ps_set (i := 1) sc_law.nd rfl (.inr rfl) (pe_call GK hr1 rfl (g_L_deck T) kpk bk .nil pass0 (pa_cons (pv 0) pa_nil)))
      (pss_cons (ps_set (i := 2) sc_law.nd rfl (.inl rfl) (pe_ix ix_list (pe_lst (pa_cons (pe_op op_add pe_int (pe_call GD hr1 rfl (g_L_draw T) kpd bd .nil pass0 (pa_cons (pv 1) (pa_cons pe_int pa_nil)))) (pa_cons pe_int pa_nil))) (pe_callTy call_int1 (by rfl) (f_int T) (by decide +kernel) (pa_cons (pe_cmpR op_eq (pe_call GD hr1 rfl (g_L_draw T) kpd bd .nil pass0 (pa_cons (pv 1) (pa_cons pe_int pa_nil))) pe_int (nomark _)) pa_nil)) (fun _ _ => rfl)))
      (pss_cons (ps_set (i := 3) sc_law.nd rfl (.inr rfl) (pe_call GT hr2 rfl (g_L_talk T) kpt bt .nil pass0 (pa_cons (pv 1) (pa_cons (pv 2) (pa_cons (pe_op op_add pe_int (pe_call GD hr1 rfl (g_L_draw T) kpd bd .nil pass0 (pa_cons (pv 1) (pa_cons pe_int pa_nil))))
          (pa_cons (pe_ix ix_list (pe_lst (pa_cons pe_int (pa_cons pe_int pa_nil))) (pe_call GD hr1 rfl (g_L_draw T) kpd bd .nil pass0 (pa_cons (pv 1) (pa_cons pe_int pa_nil))) (fun _ _ => rfl)) pa_nil))))))
      (pss_cons (ps_set (i := 4) sc_law.nd rfl (.inl rfl) (pe_call GP hr2 rfl (g_L_pieces T) kpp bp .nil pass0 (pa_cons (pv 1) (pa_cons (pe_lst (pa_cons (pv 3) pa_nil)) pa_nil))))
      (pss_cons (ps_asg (pe_call GO hr2 rfl (g_L_options T) kpo bo .nil pass0 (pa_cons (pv 1) (pa_cons (pe_callB (cr_maxT rfl (units64 hr)) (by rfl) (f_max T) (by decide +kernel) (pa_cons (pe_ix ix_tup (pv 3) pe_int (fun _ _ => rfl)) pa_nil)) pa_nil)))
          (pg_tup rfl (pgs_cons (pg_name (i := 5) sc_law.nd rfl (.inl rfl)) (pgs_cons (pg_name (i := 6) sc_law.nd rfl (.inl rfl)) (pgs_cons (pg_name (i := 7) sc_law.nd rfl (.inl rfl)) (pgs_cons (pg_name (i := 8) sc_law.nd rfl (.inl rfl)) pgs_nil))))))
      (pss_cons (ps_set (i := 9) sc_law.nd rfl (.inl rfl) (pe_callTy call_tuple_of (by rfl) (f_tuple T) (by decide +kernel) (pa_cons (pe_lc (own := [("_law_k", 14)]) (g := gName 14) (tt := tYes) (te := tPlan K) (by rfl) sc_law.nd (pi_range1 rfl (f_range T) (pa_cons (pv 2) pa_nil)) (blkOk_by (own := [("_law_k", 14)]) (N := N_law) (sc := defScope s_law) (by decide +kernel))
          (fun _ _ _ _ _ => pg_name (i := 14) sc_law.nd rfl (.inl rfl)) (fun _ _ _ _ _ => pts_nil) (fun _ _ _ _ _ => pe_call GD hr1 rfl (g_L_draw T) kpd bd .nil pass0 (pa_cons (pv 1) (pa_cons (pe_callB call_len_seq (by rfl) (f_len T) PySem.boot_len (pa_cons (pe_ix ix_tup (pe_ix ix_tup (pv 3) pe_int (fun _ _ => rfl)) pe_int (fun _ _ => rfl)) pa_nil)) pa_nil)))) pa_nil)))
      (pss_cons (ps_set (i := 10) sc_law.nd rfl (.inl rfl) (pe_ix ix_list (pe_lst (pa_cons (pe_call GL (hr.mono (by decide)) rfl (g_L_rule T) kpl bl .nil pass0 (pa_cons (pv 1) (pa_cons (pv 3) pa_nil))) (pa_cons (pv 9) pa_nil))) (pe_call GD hr1 rfl (g_L_draw T) kpd bd .nil pass0 (pa_cons (pv 1) (pa_cons pe_int pa_nil))) (fun _ _ => rfl)))
      (pss_cons (ps_set (i := 11) sc_law.nd rfl (.inl rfl) (pe_make (m_Road T) GA hr2 rfl (g_Road T) ba .nil pass0 (pa_cons (pv 4) pa_nil)))
      (pss_cutE (ps_set (i := 12) sc_law.nd rfl (.inr rfl) (pe_callN GR (hr.mono (by decide)) rfl (g_run_of T) kpr kbr pass0 (pa_cons (pe_make (m_Talk T) GI hr2 rfl (g_Talk T) bi .nil pass0 (pa_cons (pe_ix ix_tup (pv 3) pe_int (fun _ _ => rfl)) (pa_cons (pe_ix ix_tup (pv 3) pe_int (fun _ _ => rfl)) pa_nil))) (pa_cons (pv 11) (pa_cons (pv 10) pa_nil)))
          (pk_cons (pv 5) (pk_cons (pv 6) (pk_cons (pv 7) (pk_cons (pv 8) pk_nil))))))
      (pss_cons (ps_if (pt_not (pt_val (pe_call GF hr2 rfl (g_L_fetched_right T) kpf bf .nil pass0 (pa_cons (pv 3) (pa_cons (pv 11) (pa_cons (pv 12) (pa_cons (pv 8) pa_nil))))))) (pss_one (ps_ret pe_bl)) pss_nil)
      (pss_cons (ps_setLc (i := 13) (own := [("_law_k", 14)]) (g := gName 14) (tt := tYes) (te := tPair K) (by rfl) sc_law.nd rfl rfl (sw_true rfl rfl rfl (by decide +kernel)) (pi_range1 rfl (f_range T) (pa_cons (pv 2) pa_nil)) (blkOk_by (own := [("_law_k", 14)]) (N := N_law) (sc := defScope s_law) (by decide +kernel))
          (fun _ _ _ _ _ => pg_name (i := 14) sc_law.nd rfl (.inl rfl)) (fun _ _ _ _ _ => pts_nil) (fun _ _ _ _ _ => pe_tup (pa_cons (pe_ix ix_tup (pe_ix ix_tup (pe_ix ix_tup (pv 3) pe_int (fun _ _ => rfl)) (pv 14) (fun _ _ => rfl)) (pe_ix ix_tup (pe_fld (pv 12) rfl) (pv 14) (fun _ _ => rfl)) (fun _ _ => rfl))
            (pa_cons (pe_op op_sub (pe_ix ix_tup (pe_fld (pv 12) rfl) (pv 14) (fun _ _ => rfl)) (pe_ix ix_tup (pe_fld (pv 12) rfl) (pv 14) (fun _ _ => rfl))) pa_nil))))
      (pss_one (ps_ret (pe_and (pe_call GM (hr.mono (by decide)) rfl (g_L_means_right T) kpm bm .nil pass0 (pa_cons (pv 1) (pa_cons (pv 13) pa_nil))) (pe_one (pe_call GN (hr.mono (by decide)) rfl (g_L_in_time T) kpn bn .nil pass0 (pa_cons (pv 3) (pa_cons (pv 13) pa_nil))))))))))))))))), ?_⟩
    have h1 : 1 ≤ sizeLine := by decide
    have h2 : 2 ≤ sizeLine := by decide
    refine ⟨_, rfl, a, ns, e, rfl, ha, hns, hz, fun d c H1 s1 dk1 => ?_⟩
    have t1 : RlS K H1 d c e H1 0 := ⟨dk1, KeepX.refl H1, htb.ext s1⟩
    have tb1 := t1.tb
    refine ⟨_, rfl, d, c, e, _, 6, rfl, dk1, he, by decide, by decide, by decide, fun m0 H2 m00 m01 dk2 k2 => ⟨_, _, rfl, rfl, h2, fun lm nlm => ?_⟩⟩
    have t2 := t1.step dk2 k2
    have sm := Same.upd (o := .lst [.int (1 + m0), .int 12]) nlm
    have hlm : upd H2 lm (.lst [.int (1 + m0), .int 12]) lm = some (.lst [.int (1 + m0), .int 12]) := upd_same
    have flm := dk2.fresh nlm
    have t3 := t2.same sm
    refine ⟨_, rfl, d, c, e, _, 8, rfl, t3.dk, he, by decide, by decide, by decide, fun w0 H3 w00 w01 dk3 k3 => ⟨rfl, .inr ⟨_, rfl, ?_⟩⟩⟩
    have t4 := t3.step dk3 k3
    obtain ⟨v, hv, ev⟩ := pick_v (l := [V.int (1 + m0), .int 12]) (i := if decide (V.int w0 = V.int 5) = true then 1 else 0) (by split <;> decide) (by show _ < (2 : Int); split <;> decide)
    obtain ⟨m, rfl, hm1, hm2⟩ : ∃ m : Nat, v = V.int (m : Int) ∧ 1 ≤ m ∧ m ≤ 12 := by
      simp only [List.mem_cons, List.mem_nil_iff, or_false] at hv
      rcases hv with e1 | e1
      · exact ⟨(1 + m0).toNat, by rw [e1, Int.toNat_of_nonneg (by omega)], by omega, by omega⟩
      · exact ⟨12, e1, by decide, by decide⟩
    refine ⟨lm, _, _, _, rfl, rfl, SqL.of (k3 _ _ flm.1 flm.2 hlm), ev, ?_⟩
    clear ev hv hlm flm sm nlm k3
    refine ⟨_, rfl, _, rfl, _, rfl, d, c, e, _, 4, rfl, t4.dk, he, by decide, by decide, by decide, fun r0 H4 r00 r01 dk5 k5 => ⟨_, _, rfl, rfl, h2, fun lq nlq => ?_⟩⟩
    have t5 := t4.step dk5 k5
    have sq := Same.upd (o := .lst [.int 6, .int 20]) nlq
    have hlq : upd H4 lq (.lst [.int 6, .int 20]) lq = some (.lst [.int 6, .int 20]) := upd_same
    have flq := dk5.fresh nlq
    have t6 := t5.same sq
    refine ⟨_, rfl, d, c, e, _, 2, rfl, t6.dk, he, by decide, by decide, by decide, fun l0 H5 l00 l01 dk7 k7 => ?_⟩
    have t7 := t6.step dk7 k7
    obtain ⟨v, hv, ev⟩ := pick_v (l := [V.int 6, .int 20]) l00 l01
    obtain ⟨lg, rfl, hg1, hg2⟩ : ∃ m, v = V.int m ∧ 1 ≤ m ∧ m ≤ 20 := by
      simp only [List.mem_cons, List.mem_nil_iff, or_false] at hv
      rcases hv with e1 | e1
      · exact ⟨_, e1, by decide, by decide⟩
      · exact ⟨_, e1, by decide, by decide⟩
    obtain ⟨r, hr0⟩ : ∃ r : Nat, 1 + r0 = (r : Int) := ⟨(1 + r0).toNat, by omega⟩
    refine ⟨lq, _, _, _, rfl, rfl, SqL.of (k7 _ _ flq.1 flq.2 hlq), ev, ?_⟩
    refine ⟨d, c, e, _, m, r, lg, congrArg (fun u => [V.ref d, .int m, .int u, .int lg]) hr0, t7.dk, he, by decide, hm1, hm2, by omega, by omega, hg1, hg2, fun t H6 l z lens rows dk8 k8 ht td ok hlen hle => ?_⟩
    clear ev hv hlq flq sq nlq k7
    have t8 := t7.step dk8 k8
    refine ⟨_, rfl, _, rfl, h1, fun tl ntl => ?_⟩
    have stl := Same.upd (o := .lst [.ref t]) ntl
    have ftl := dk8.fresh ntl
    have t9 := t8.same stl
    refine ⟨d, c, e, _, tl, t, l, z, lens, rows, r, rfl, t9.dk, he, by decide, ftl.2, upd_same, stl _ _ ht, td.same stl, ok, fun p H7 init bl dd dk10 k10 hpcs hpok hdd hsum => ?_⟩
    have t10 := t9.step dk10 k10
    have kI10 : KeepI H6 H7 := kI ((KeepX.of stl).trans k10.x) t8.dk
    have ht10 := kI10.tup ht
    have td10 := td.kI kI10
    obtain ⟨n0, ns0, elens⟩ : ∃ n ns, lens = n :: ns := by
      cases lens with
      | nil => exact absurd hlen (by show ¬ 0 = m; omega)
      | cons n ns => exact ⟨n, ns, rfl⟩
    refine ⟨_, rfl, _, rfl, t, _, _, _, rfl, rfl, SqT.of ht10, atI_nat (j := 0) rfl, l, n0, ns0, rfl, SqT.of (by rw [← elens]; exact td10.hl), ?_⟩
    have hmx : ∀ n ∈ lens, n ≤ mxD 0 (n0 :: ns0) := fun n hn => by
      rw [elens] at hn
      obtain ⟨f1, f2, _⟩ := foldl_max_le n0 ns0
      rcases List.mem_cons.mp hn with e1 | hn
      · rw [e1]
        exact f1
      · exact f2 n hn
    generalize mxD 0 (n0 :: ns0) = mx at hmx ⊢
    refine ⟨d, c, e, _, mx, rfl, t10.dk, he, by decide, fun tO H8 b g most wait dk11 k11 hto hb hmost hw0 hw1 => ?_⟩
    have t11 := t10.step dk11 k11
    have kI11 : KeepI H7 H8 := kI k11.x t10.dk
    have ht11 := kI11.tup ht10
    have td11 := td10.kI kI11
    have pcs11 := hpcs.kI kI11
    refine ⟨tO, _, rfl, SqT.of hto, rfl, _, _, rfl, _, _, rfl, _, _, rfl, _, _, rfl, rfl, ?_⟩
    clear hto kI10 kI11 k10 k11 dk10 dk11 ht ht10 td td10 hpcs ftl stl ntl
    refine ⟨_, rfl, (m : Int), rfl, by omega, by omega, fun D nD => ?_⟩
    have sD := Same.upd (o := .lst []) nD
    have fD := t11.dk.fresh nD
    have h0D := t11.none dk1 nD tb1
    have hrows : 0 < rows.length := by have := ok.len; omega
    have hrow0 : (rows.getD (0 : Int).toNat []).length = r := by
      show (rows.getD 0 []).length = r
      rw [List.getD_eq_getElem?_getD, List.getElem?_eq_getElem hrows]
      exact ok.row _ (List.getElem_mem hrows)
    refine lc_it (walk_range (lo := 0) (n := (m : Int).toNat)) (fun j G => ∃ ps : List Int, RlS K H1 d c e G (1000 + (j : Int)) ∧ G D = some (.lst (ps.map V.int)) ∧ ps.length = j ∧ (∀ i ∈ ps, 0 ≤ i ∧ i < (r : Int)) ∧ KeepX (exD d c) H8 G)
      ⟨[], ⟨(t11.same sD).dk.mono (by decide), (t11.same sD).kx, (t11.same sD).tb⟩, upd_same, rfl, (fun i hi => by cases hi), KeepX.of sD⟩ (fun _ _ _ _ => trivial) (fun j x G G' hj ⟨ps, tj, hps, ej, hpb, kx8⟩ hy => ?_) fun G ⟨ps, tj, hps, ej, hpb, kx8⟩ => ?_
    · obtain ⟨rfl, rfl⟩ := hy
      have kIG := kI kx8 t11.dk
      have htG := kIG.tup ht11
      have tdG := td11.kI kIG
      obtain ⟨zs, hzG, rzG⟩ := tdG.hz
      obtain ⟨q0, e0, hq0⟩ := atI_ref rzG (i := 0) [] (Int.le_refl _) (by omega)
      refine ⟨rfl, _, rfl, _, rfl, t, _, _, _, rfl, rfl, SqT.of htG, atI_nat (j := 1) rfl, z, _, _, _, rfl, rfl, SqT.of hzG, e0, q0, _, rfl, .inr (SqT.of hq0), ?_⟩
      rw [List.length_map, hrow0]
      refine ⟨d, c, e, _, (r : Int), rfl, tj.dk, he, by omega, by omega, by omega, fun x0 G2 x00 x01 dk' k' => ?_⟩
      have hps' := k' _ _ fD.1 fD.2 hps
      have t' := tj.step dk' k'
      have tl' := t'.lst (v := ps.map V.int ++ [.int x0]) hps' h0D fD.1 fD.2
      refine ⟨ps.map V.int, hps', by rw [List.length_map]; exact Nat.lt_of_le_of_lt (show ps.length ≤ 12 by omega) (by decide), ps ++ [x0], ⟨tl'.dk.mono (by omega), tl'.kx, tl'.tb⟩, by rw [List.map_append]; exact upd_same, by rw [List.length_append, List.length_singleton, ej], fun u hu => ?_, fun b o h n tt => by rw [upd_ne (ne_of_none h nD)]; exact (kx8.trans k'.x) b o h n tt⟩
      rcases List.mem_append.mp hu with hu | hu
      · exact hpb u hu
      · rw [List.mem_singleton.mp hu]
        exact ⟨x00, x01⟩
    refine ⟨D, _, rfl, .inl ⟨SqL.of hps, fun pl npl => ?_⟩⟩
    have spl := Same.upd (o := .tup (ps.map V.int)) npl
    have hpl : upd G pl (.tup (ps.map V.int)) pl = some (.tup (ps.map V.int)) := upd_same
    have t12 := tj.same spl
    have kI12 := kI (kx8.trans (KeepX.of spl)) t11.dk
    have ht12 := kI12.tup ht11
    have td12 := td11.kI kI12
    have pcs12 := pcs11.kI kI12
    generalize upd G pl (.tup (ps.map V.int)) = H9 at spl hpl t12 kI12 ht12 td12 pcs12 ⊢
    clear kx8 tj hps kI12 ht11 td11 pcs11 t11 fD h0D sD nD
    refine ⟨_, rfl, _, rfl, d, c, e, _, t, l, z, lens, rows, r, rfl, t12.dk, he, by omega, ht12, td12, ok, t12.tb, fun fr H10 tr clo => ⟨_, rfl, h2, fun lc nlc => ?_⟩⟩
    have t13 : RlS K H1 d c e H10 (1000 + ((m : Int).toNat : Int) + 100) := ⟨tr.dk, t12.kx.trans tr.kx, tr.tb⟩
    have slc := Same.upd (o := .lst [.ref fr, .ref pl]) nlc
    have hlc : upd H10 lc (.lst [.ref fr, .ref pl]) lc = some (.lst [.ref fr, .ref pl]) := upd_same
    have flc := t13.dk.fresh nlc
    have t14 := t13.same slc
    generalize upd H10 lc (.lst [.ref fr, .ref pl]) = H11 at slc hlc t14 ⊢
    refine ⟨_, rfl, d, c, e, _, 2, rfl, t14.dk, he, by omega, by decide, by decide, fun c0 H12 c00 c01 dk15 k15 => ?_⟩
    have t15 := t14.step dk15 k15
    have kx1 : KeepX (exD d c) H10 H12 := (KeepX.of slc).trans k15.x
    have kI15 := kI (tr.kx.trans kx1) t12.dk
    have ht15 := kI15.tup ht12
    have td15 := td12.kI kI15
    have pcs15 := pcs12.kI kI15
    have hpl15 := kI15.tup hpl
    obtain ⟨v, hv, ev⟩ := pick_v (l := [V.ref fr, .ref pl]) c00 c01
    obtain ⟨ch, rfl, hch⟩ : ∃ ch, v = V.ref ch ∧ ChOk P w K mg base lens.length r H12 ch := by
      simp only [List.mem_cons, List.mem_nil_iff, or_false] at hv
      rcases hv with e1 | e1
      · exact ⟨_, e1, .inr ⟨_, clo.grow kx1⟩⟩
      · exact ⟨_, e1, .inl ⟨ps, hpl15, by omega, hpb⟩⟩
    refine ⟨lc, _, _, _, rfl, rfl, SqL.of (k15 _ _ flc.1 flc.2 hlc), ev, ?_⟩
    clear ev hv flc hlc slc nlc t14 k15 clo tr t13 kx1 kI15 ht12 td12 pcs12 hpl15 hpl spl npl
    refine ⟨_, rfl, ?_⟩
    intro ro dro nro ndro nero
    revert nero ndro nro dro ro
    refine road_make (K := K) (v := .ref p) fun ro H13 g3 hro => ?_
    have ht13 := g3 _ _ ht15
    have td13 := td15.same g3
    refine ⟨fun σ' H' => ∃ rn rs bs ws, σ' = [some (.ref a), some (.ref d), some (.int (m : Int)), some (.ref t), some (.ref p), some (.int b), some (.int g), some (.int most), some (.int wait), some (.ref pl), some (.ref ch), some (.ref ro), some (.ref rn), none, none] ∧ Same H13 H' ∧ RnAt K H' rn rs bs ws ∧ rs.length = lens.length ∧ bs.length = lens.length ∧ ws.length = lens.length ∧ (∀ x ∈ rs, 0 ≤ x ∧ x < (r : Int)) ∧
      (∀ k : Nat, k < lens.length → FOk rows (spAt dd (init ++ [(bl, dd)])) wait k (rs.getD k 0) (bs.getD k 0) (ws.getD k 0)), ?_, ?_⟩
    rotate_left
    · rintro σ' H15 ⟨rn, rs, bs, ws, rfl, s15, hrn, l1, l2, l3, hrr, hfo⟩
      have sg15 := g3.trans s15
      refine ⟨_, rfl, _, rfl, _, rfl, _, rfl, t, l, z, ro, p, rn, init, bl, dd, wait, lens, rows, r, rs, bs, ws, rfl, sg15 _ _ ht15, td15.same sg15, ok, hro.same s15, pcs15.same sg15, hpok, by omega, hrn, l1, l2, l3, hrr, hw0, hfo, fun H16 s16 => ⟨_, rfl, iteF ?_⟩⟩
      have sg16 := sg15.trans s16
      have ht16 := sg16 _ _ ht15
      have td16 := td15.same sg16
      have t16 := t15.same sg16
      have hrn16 := hrn.same s16
      clear ht13 td13 g3 hro hch sg15 hrn s15 s16 ht15 td15 pcs15 sg16
      refine ⟨_, rfl, (m : Int), rfl, by omega, by omega, fun D2 nD2 => ?_⟩
      obtain ⟨dxn, tn, en, hn, hn0, hn1, hn2⟩ := hrn16
      have cl := c_Run T
      have hmI : ((m : Int)).toNat = lens.length := by omega
      have fD2 := t16.dk.fresh nD2
      have hps : ∀ pc ∈ init ++ [(bl, dd)], 1 ≤ pc.1 ∧ 0 ≤ pc.2 := fun pc hp => by
        have := hpok pc hp
        exact ⟨this.1, this.2.2.1⟩
      have hrat : ∀ i : Nat, i < lens.length → 0 ≤ rs.getD i 0 ∧ rs.getD i 0 < (r : Int) := fun i hi => by
        have hir : i < rs.length := by omega
        refine hrr _ ?_
        rw [List.getD_eq_getElem?_getD, List.getElem?_eq_getElem hir]
        exact List.getElem_mem hir
      have hsp : ∀ i : Nat, i < lens.length → SpIn (szAt rows (i : Int) (rs.getD i 0), ws.getD i 0 - bs.getD i 0) := fun i hi => by
        have h3 := szAt_ok ok (n := (i : Int)) (by omega) (by omega) (hrat i hi).1 (hrat i hi).2
        have h4 := span_le (hfo i hi) hps hdd hsum hw0 hw1 h3.2
        exact ⟨Int.le_trans (by decide) h3.1, h3.2, h4.1, h4.2⟩
      obtain ⟨zs, hz16, rz16⟩ := id td16.hz
      refine lc_map (walk_range (lo := 0) (n := (m : Int).toNat)) (fun i y G => ∃ q, y = .ref q ∧ pairT G q (szAt rows (i : Int) (rs.getD i 0), ws.getD i 0 - bs.getD i 0)) (fun i y G G' k => fun ⟨q, e, h⟩ => ⟨q, e, k _ _ h fun xs z => nomatch z⟩) nD2 (fun _ _ => trivial) (Nat.lt_of_le_of_lt (show (m : Int).toNat ≤ 12 by omega) (by decide))
        (fun i x G G' hi s2 hy Kq hq => ?_) fun acc G s17 hl hacc hD2 => ?_
      · obtain ⟨rfl, hx⟩ := hy
        have hx : x = .int (i : Int) := by
          rw [hx]
          exact congrArg V.int (Int.zero_add _)
        subst hx
        have hil : i < lens.length := by omega
        obtain ⟨q', eq', hq'⟩ := atI_ref (rz16.same rowT_mono s2) (i := (i : Int)) [] (by omega) (by rw [← ok.len]; omega)
        have hrt := hrat i hil
        have hrow : (rows.getD (i : Int).toNat []).length = r := by
          have hk : i < rows.length := by rw [← ok.len]; exact hil
          rw [Int.toNat_natCast, List.getD_eq_getElem?_getD, List.getElem?_eq_getElem hk]
          exact ok.row _ (List.getElem_mem hk)
        have ers : rs.getD i 0 = rs.getD (i : Int).toNat 0 := by rw [Int.toNat_natCast]
        refine ⟨rfl, ?_⟩
        refine ⟨_, rfl, t, _, _, _, rfl, rfl, SqT.of (s2 _ _ ht16), atI_nat (j := 1) rfl, _, rfl, z, _, _, _, rfl, rfl, SqT.of (s2 _ _ hz16), eq', _, rfl, rn, _, dxn, _, _, rfl, s2 _ _ hn, cl, n_Run_rates T, fRn_0 _ _, _, rfl, tn 0, _, _, _, rfl, rfl, SqT.of (s2 _ _ hn0), atI_ints (by omega) (by omega),
          q', _, _, _, rfl, rfl, SqT.of hq', atI_ints (by rw [← ers]; exact hrt.1) (by rw [← ers, hrow]; exact hrt.2), ?_⟩
        refine ⟨_, rfl, rn, _, dxn, _, _, rfl, s2 _ _ hn, cl, n_Run_whole T, fRn_2 _ _, _, rfl, tn 2, _, _, _, rfl, rfl, SqT.of (s2 _ _ hn2), atI_ints (by omega) (by omega), _, rfl, rn, _, dxn, _, _, rfl, s2 _ _ hn, cl, n_Run_begun T, fRn_1 _ _, _, rfl, tn 1, _, _, _, rfl, rfl, SqT.of (s2 _ _ hn1), atI_ints (by omega) (by omega), _, _, rfl, rfl, h2, fun q nq => ?_⟩
        exact hq _ _ (Same.upd nq) ⟨q, rfl, upd_same⟩
      have eal : ((List.range lens.length).map fun i : Nat => (szAt rows (i : Int) (rs.getD i 0), ws.getD i 0 - bs.getD i 0)).length = lens.length := by rw [List.length_map, List.length_range]
      have rf : RefL pairT G acc ((List.range lens.length).map fun i : Nat => (szAt rows (i : Int) (rs.getD i 0), ws.getD i 0 - bs.getD i 0)) := by
        refine ⟨by rw [eal, hl, hmI], fun i pa h => ?_⟩
        have hi : i < lens.length := by
          have := (List.getElem?_eq_some_iff.mp h).1
          rw [eal] at this
          exact this
        have hia : i < acc.length := by rw [hl, hmI]; exact hi
        rw [List.getElem?_map, List.getElem?_range hi] at h
        cases h
        obtain ⟨q', e1, e2⟩ := hacc i _ (List.getElem?_eq_getElem hia)
        exact ⟨q', by rw [List.getElem?_eq_getElem hia, e1], e2⟩
      have hin : ∀ pa ∈ ((List.range lens.length).map fun i : Nat => (szAt rows (i : Int) (rs.getD i 0), ws.getD i 0 - bs.getD i 0)), SpIn pa := fun pa hpa => by
        obtain ⟨i, hi, rfl⟩ := List.mem_map.mp hpa
        exact hsp i (List.mem_range.mp hi)
      generalize ((List.range lens.length).map fun i : Nat => (szAt rows (i : Int) (rs.getD i 0), ws.getD i 0 - bs.getD i 0)) = as at eal rf hin
      have t17 := t16.same s17
      refine ⟨_, rfl, _, rfl, d, c, e, _, D2, acc, as, rfl, t17.dk, he, by omega, fD2.2, hD2, rf, fun z => ?_, by omega, hin, fun H18 dk18 k18 => ⟨_, rfl, iteT ?_⟩⟩
      · rw [z] at eal
        have : (0 : Nat) = lens.length := eal
        omega
      have kI18 : KeepI H16 H18 := kI ((KeepX.of s17).trans k18.x) t16.dk
      have kI17 : KeepI G H18 := kI k18.x t17.dk
      exact ⟨_, rfl, _, rfl, t, l, z, D2, lens, rows, r, acc, as, rfl, kI18.tup ht16, td16.kI kI18, ok, k18 _ _ fD2.1 fD2.2 hD2, ⟨rf.1, fun i a h => let ⟨q, e, y⟩ := rf.2 i a h; ⟨q, e, kI17.tup y⟩⟩, eal, hin, Tabs.keepD t17.tb t17.dk k18, q⟩
    refine ⟨_, rfl, t, _, _, _, rfl, rfl, SqT.of ht13, atI_nat (j := 0) rfl, _, rfl, t, _, _, _, rfl, rfl, SqT.of ht13, atI_nat (j := 1) rfl, ?_⟩
    intro tk dxk ntk ndk nek
    refine ⟨tk, dxk, l, z, rfl, upd_same, fun H14 mm => ⟨rfl, ?_⟩⟩
    have s14 := mm.same ntk ndk
    have sg := g3.trans s14
    have htk : TkAt K H14 tk lens rows := ⟨dxk, l, z, mm.1, td13.same s14⟩
    have hsm := sum_ints_le ok.lo
    have hmw : (lens.length : Int) * (1002 + wait) ≤ 12 * 1022 := Int.mul_le_mul (by omega) (by omega) (by omega) (by decide)
    refine ⟨_, rfl, _, rfl, _, rfl, _, rfl, _, rfl, _, rfl, rfl, rfl, tk, ro, ch, p, init, bl, dd, b, g, most, wait, lens, rows, r, rfl, htk, ok, hro.same s14, pcs15.same sg, hpok, hdd, hch.same sg, hb, fun n hn => Int.le_trans (hmx n hn) hmost, hw0, ?_, fun rn H15 rs bs ws s15 hrn l1 l2 l3 hrr hfo => ⟨rn, rs, bs, ws, rfl, s14.trans s15, hrn, l1, l2, l3, hrr, hfo⟩⟩
    have : max 0 ((init ++ [(bl, dd)]).map (·.1)).sum ≤ 600 := Int.max_le.mpr ⟨by decide, hsum⟩
    omega
end
end Rp
/- RpHead -/
set_option maxHeartbeats 0
/-! RpHead: the top run once. -/
namespace Rp
open PySem PySem.Spec PyProof.Rows L2
abbrev R : PySem.W.OpenRow := PySem.W.OpenLaw.row PySem.Challenge.rw_rateplan_k32_whole_speeds_of_runs
abbrev hk : PySem.W.Hook := He.hookX 5 fa fn [] tf more
def ob (s : PySem.W.SharedT) : He.AlX := He.obsX 5 fa fn [] tf more (HandSHeadRun.getT s)
theorem ob_eq (s : PySem.W.SharedT) : ob s = hk.obs s.abs := He.obsX_eq (HandSHeadRun.getT_eq s)
def namesA : List PySem.Str := ["_wall", "__name__", "turns_of", "pieces_by", "Road", "BEGIN", "AGAIN", "MOST", "PART", "is_whole", "by_store", "by_speed", "calm", "is_rate", "rate_by", "seen_at", "NoSpeed", "RateError", "NoRoom", "divisor_of", "Speed", "mean", "middle", "is_slower", "slowest", "FIRST", "NONE"]
def namesB : List PySem.Str := ["AHEAD", "PLAYS", "STALLS", "look_room", "first_stand", "is_over", "has_room", "chosen", "begins", "played_on", "beat_on", "Walk", "Run", "run_of", "Talk", "_law_deck", "_law_draw", "_law_pick", "_law_talk", "_law_pieces", "_law_options", "_law_rule", "_law_fetched_right", "_law_means_right", "_law_in_time"]
def names : List PySem.Str := namesA ++ namesB
theorem run (w : World) : HandSHeadRun.RunEq R (PySem.W.view R.prog [61]) hk ob 40000 names w := by
  intro os
  kernel_rfl
end Rp
/- RpEnd -/
set_option maxHeartbeats 4000000
/-! RpEnd: the statement. -/
namespace Rp
open PySem PySem.Spec PyProof.Rows L2 LamX NdefX
theorem tabs_nil {K : PySem.W.Frag} {H : Hp} (h : ∀ p ∈ tf, H (He.cT K p).2 = some (.tbl #[])) : Tabs (T4 K) H := fun q hq => by
  have one : ∀ p ∈ tf, ∀ s : Str, TabS H (He.cT K p).2 s := fun p hp s => TabS.nil (h p hp)
  simp only [T4, List.mem_cons, List.mem_nil_iff, or_false] at hq
  rcases hq with rfl | rfl | rfl | rfl
  · exact one ("by_store", none) (by simp [tf]) _
  · exact one ("by_speed", none) (by simp [tf]) _
  · exact one ("calm", none) (by simp [tf]) _
  · exact one ("_law_rule", none) (by simp [tf]) _
theorem nat_bits : ∃ e : Nat, e ≤ 2000000 ∧ ∀ z : Int, Builtin.Int.intBits z ≤ 1048576 → z.natAbs < 2 ^ e := ⟨1048576, by decide, fun z h => PySem.intBits_le_iff.mp h⟩
theorem law_sp {K : PySem.W.Frag} {H : Hp} {a : Addr} {ns : List Int} (hl : ns.length ≤ 63) (hb : ∀ z ∈ ns, Builtin.Int.intBits z ≤ 1048576) (hT : ∀ p ∈ tf, H (He.cT K p).2 = some (.tbl #[])) (hS : SqL K H a (ns.map V.int)) :
    spLaw K [.ref a] H (fun v _ => v = .bl true) fun _ _ _ => False := by
  obtain ⟨e, he, h⟩ := nat_bits
  exact ⟨a, ns, e, rfl, hS, hl, he, fun z hz => h z (hb z hz), tabs_nil hT, fun _ => rfl⟩
end Rp
open PySem PySem.W PySem.Calls PyProof.Rows
theorem PySem.Challenge.cw_rateplan_k32_whole_speeds_of_runs_holds : PySem.Challenge.rw_rateplan_k32_whole_speeds_of_runs.Holds := by
  w_on; o_law
  refine HandSHeadRun.head_any (r := Rp.R) (q := view Rp.R.prog [61]) (H := Rp.hk) (ob := Rp.ob) (M := 40000) (loose := Rp.names) (d := HandSHeadRun.topDef Rp.R.prog 61) (kwd := []) Rp.ob_eq
    (by kernel_rfl) (fun s => by kernel_rfl) Rp.run (by kernel_rfl) (by kernel_rfl) (by kernel_rfl) (by rfl) (by first | assumption | decide +kernel) (by decide +kernel) ⟨rfl, rfl, rfl, rfl, rfl, by decide +kernel⟩ ?hw ?hc
  case hw => w_witness2
  case hc =>
    refine LamX.walk_ofTsE (l := PySem.Challenge.rw_rateplan_k32_whole_speeds_of_runs) (n := 63) (k := 40) (x := "_law_script") (CX := fun _ => L2.CX0) rfl (by decide) (by kernel_rfl) ⟨rfl, by decide, by decide⟩ ?F (fun _ _ _ _ _ z => z)
    intro w mg fa h Y G hmg0
    obtain ⟨K, KX, c⟩ := Y
    have hmg : mg ("law" : PySem.Str) = some (.ref fa) := by
      have e : (HandSHeadRun.topDef Rp.R.prog 61).name = ("law" : PySem.Str) := by kernel_rfl
      rw [← e]
      exact hmg0
    have T : Rp.Tx K mg := ⟨c.t.d, c.more, h, KX, G⟩
    have ef : fa = He.ga K "law" := by
      have q := hmg.symm.trans (Rp.g_law T)
      cases q
      rfl
    obtain ⟨fd, F⟩ := Rp.F_law T
    have b := L2.FunD.bindsA (ps := ["_law_script"]) F fun _ _ _ _ _ _ us hl => match us, hl with | [_], _ => rfl
    refine ⟨K, KX, fd, Rp.tf.map (He.cT K), Rp.spLaw K, ?_, ?_, ?_, fun s v => b s [v] rfl, ?_, fun base KB GB TB => ?_⟩
    · intro p hp
      obtain ⟨q, hq, rfl⟩ := List.mem_map.mp hp
      exact c.empty q hq
    · intro p hp
      obtain ⟨q, hq, rfl⟩ := List.mem_map.mp hp
      exact c.out q hq
    · intro p hp
      obtain ⟨q, hq, rfl⟩ := List.mem_map.mp hp
      exact PySem.W.codeHd_of_K KX (c.hd q hq)
    · intro H a ns hl hb hT hS
      exact Rp.law_sp hl hb (fun q hq => hT (He.cT K q) (List.mem_map.mpr ⟨q, hq, rfl⟩)) hS
    · rw [ef]
      exact Rp.ok_lawF T (fun p hp => TB (He.cT K p) (List.mem_map.mpr ⟨p, hp, rfl⟩)) F
