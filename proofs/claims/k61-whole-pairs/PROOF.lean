import PyProof.Rows.All
import Wide.All
import OpenK.AllK
import Wide.FinOn
import KE.KStateDown
import HandS.ForMost
import HandS.Defaults
import HandS.HeadHook1
import HandS.HeadHook2
import HandS.IsInst
import HandS.Style
import HandS.SortRule
import HandS.Wide
import Lean
import HandS.Head0
import HandS.Head1
import HandS.Head2
import HandS.HeadEnd
import PySem.Challenge.RW_unlikepairs_k61_whole_pairs_cover_everyt
set_option Elab.async false
set_option linter.all false
set_option maxRecDepth 100000
set_option maxHeartbeats 0
/-! Pairs of unlike items: the plain mathematics. Items one by one; a queue in blocks; ranges that tile. -/
namespace Uk

/-! ### runs of whole numbers -/
def rng (f : Int) : Nat → List Int
  | 0 => []
  | n + 1 => f :: rng (f + 1) n
theorem rng_len (f : Int) : ∀ n, (rng f n).length = n
  | 0 => rfl
  | n + 1 => by show (rng (f + 1) n).length + 1 = n + 1; rw [rng_len]
theorem rng_add : ∀ (a b : Nat) (f : Int), rng f (a + b) = rng f a ++ rng (f + a) b
  | 0, b, f => by simp [rng]
  | a + 1, b, f => by
    rw [show a + 1 + b = (a + b) + 1 by omega]
    show f :: rng (f + 1) (a + b) = f :: (rng (f + 1) a ++ rng (f + (a + 1 : Nat)) b)
    rw [rng_add a b (f + 1), show f + 1 + (a : Int) = f + ((a + 1 : Nat) : Int) by omega]
theorem rng_count (x : Int) : ∀ (n : Nat) (f : Int), (rng f n).count x = if f ≤ x ∧ x < f + n then 1 else 0
  | 0, f => by
    show (0 : Nat) = _
    rw [if_neg (by omega)]
  | n + 1, f => by
    show (f :: rng (f + 1) n).count x = _
    rw [List.count_cons, rng_count x n (f + 1)]
    by_cases h : f = x
    · subst h
      rw [if_neg (by omega), if_pos (by simp), if_pos (by omega)]
    · rw [if_neg (show ¬ ((f == x) = true) by simpa using h)]
      by_cases h2 : f + 1 ≤ x ∧ x < f + 1 + n
      · rw [if_pos h2, if_pos (by omega)]
      · rw [if_neg h2, if_neg (by omega)]
theorem rng_mem {x f : Int} {n : Nat} : x ∈ rng f n ↔ f ≤ x ∧ x < f + n := by
  rw [← List.count_pos_iff, rng_count]
  by_cases h : f ≤ x ∧ x < f + n
  · rw [if_pos h]; simp [h]
  · rw [if_neg h]; simp [h]

/-- the positions of blocks (first, count) -/
def ex (bs : List (Int × Int)) : List Int := bs.flatMap fun b => rng b.1 b.2.toNat
theorem ex_cons (b : Int × Int) (bs : List (Int × Int)) : ex (b :: bs) = rng b.1 b.2.toNat ++ ex bs := rfl
theorem ex_append (a b : List (Int × Int)) : ex (a ++ b) = ex a ++ ex b := List.flatMap_append
/-- pairs that go up side by side -/
def prs (f s : Int) : Nat → List (Int × Int)
  | 0 => []
  | n + 1 => (f, s) :: prs (f + 1) (s + 1) n
theorem prs_len : ∀ (n : Nat) (f s : Int), (prs f s n).length = n
  | 0, _, _ => rfl
  | n + 1, f, s => by show (prs (f + 1) (s + 1) n).length + 1 = n + 1; rw [prs_len]
theorem prs_add : ∀ (a b : Nat) (f s : Int), prs f s (a + b) = prs f s a ++ prs (f + a) (s + a) b
  | 0, b, f, s => by simp [prs]
  | a + 1, b, f, s => by
    rw [show a + 1 + b = (a + b) + 1 by omega]
    show (f, s) :: prs (f + 1) (s + 1) (a + b) = (f, s) :: (prs (f + 1) (s + 1) a ++ prs (f + (a + 1 : Nat)) (s + (a + 1 : Nat)) b)
    rw [prs_add a b (f + 1) (s + 1), show f + 1 + (a : Int) = f + ((a + 1 : Nat) : Int) by omega, show s + 1 + (a : Int) = s + ((a + 1 : Nat) : Int) by omega]
theorem prs_get : ∀ (n : Nat) (f s : Int) (i : Nat), i < n → (prs f s n)[i]? = some (f + i, s + i)
  | 0, _, _, _, h => absurd h (by omega)
  | n + 1, f, s, 0, _ => by simp [prs]
  | n + 1, f, s, i + 1, h => by
    show (prs (f + 1) (s + 1) n)[i]? = _
    rw [prs_get n (f + 1) (s + 1) i (by omega)]
    rw [show f + 1 + (i : Int) = f + ((i + 1 : Nat) : Int) by omega, show s + 1 + (i : Int) = s + ((i + 1 : Nat) : Int) by omega]
theorem prs_mem {n : Nat} {f s : Int} {q : Int × Int} : q ∈ prs f s n ↔ ∃ i : Nat, i < n ∧ q = (f + i, s + i) := by
  constructor
  · intro h
    obtain ⟨i, hi, e⟩ := List.mem_iff_getElem.mp h
    rw [prs_len] at hi
    refine ⟨i, hi, ?_⟩
    have g := prs_get n f s i hi
    rw [List.getElem?_eq_getElem (by rw [prs_len]; exact hi)] at g
    rw [← e]
    exact Option.some.inj g
  · rintro ⟨i, hi, rfl⟩
    exact List.mem_of_getElem? (prs_get n f s i hi)
theorem prs_fst : ∀ (n : Nat) (f s : Int), (prs f s n).map (·.1) = rng f n
  | 0, _, _ => rfl
  | n + 1, f, s => by show f :: (prs (f + 1) (s + 1) n).map (·.1) = _; rw [prs_fst]; rfl
theorem prs_snd : ∀ (n : Nat) (f s : Int), (prs f s n).map (·.2) = rng s n
  | 0, _, _ => rfl
  | n + 1, f, s => by show s :: (prs (f + 1) (s + 1) n).map (·.2) = _; rw [prs_snd]; rfl
/-- the pairs of runs of pairs (first, second, count) -/
def exP (ps : List (Int × Int × Int)) : List (Int × Int) := ps.flatMap fun t => prs t.1 t.2.1 t.2.2.toNat
theorem exP_cons (b : Int × Int × Int) (bs : List (Int × Int × Int)) : exP (b :: bs) = prs b.1 b.2.1 b.2.2.toNat ++ exP bs := rfl
theorem exP_append (a b : List (Int × Int × Int)) : exP (a ++ b) = exP a ++ exP b := List.flatMap_append
theorem exP_len : ∀ ps : List (Int × Int × Int), (∀ t ∈ ps, 1 ≤ t.2.2) → ((exP ps).length : Int) = (ps.map (·.2.2)).sum
  | [], _ => rfl
  | t :: ps, h => by
    rw [exP_cons, List.length_append, prs_len, List.map_cons, List.sum_cons, ← exP_len ps fun u hu => h u (List.mem_cons_of_mem _ hu)]
    have := h t List.mem_cons_self
    omega

/-! ### items, one by one -/
structure It (κ : Type) where
  kind : Option κ
  w : List Int
  p : List (Int × Int)
  n : Int
variable {κ : Type} [DecidableEq κ]
def It.nil : It κ := ⟨none, [], [], 0⟩
def step (s : It κ) (k : κ) : It κ := match s.w with
  | [] => ⟨some k, [s.n], s.p, s.n + 1⟩
  | x :: xs => if s.kind = some k then ⟨s.kind, x :: (xs ++ [s.n]), s.p, s.n + 1⟩ else ⟨s.kind, xs, s.p ++ [(x, s.n)], s.n + 1⟩
def stepN (k : κ) : Nat → It κ → It κ
  | 0, s => s
  | n + 1, s => stepN k n (step s k)
theorem stepN_add (k : κ) : ∀ (a b : Nat) (s : It κ), stepN k (a + b) s = stepN k b (stepN k a s)
  | 0, b, s => by rw [Nat.zero_add]; rfl
  | a + 1, b, s => by
    rw [show a + 1 + b = (a + b) + 1 by omega]
    exact stepN_add k a b (step s k)
theorem stepN_fold (k : κ) : ∀ (n : Nat) (s : It κ), (List.replicate n k).foldl step s = stepN k n s
  | 0, _ => rfl
  | n + 1, s => by
    rw [List.replicate_succ, List.foldl_cons]
    exact stepN_fold k n (step s k)
theorem step_take {k : κ} : ∀ (t : Nat) (s : It κ) (f : Int) (W : List Int), s.kind ≠ some k → s.w = rng f t ++ W → stepN k t s = ⟨s.kind, W, s.p ++ prs f s.n t, s.n + t⟩
  | 0, ⟨kd, w, p, n⟩, f, W, hk, hw => by
    have hw : w = W := hw
    subst hw
    simp [stepN, prs]
  | t + 1, ⟨kd, w, p, n⟩, f, W, hk, hw => by
    have hw : w = f :: (rng (f + 1) t ++ W) := hw
    subst hw
    have e : step ⟨kd, f :: (rng (f + 1) t ++ W), p, n⟩ k = ⟨kd, rng (f + 1) t ++ W, p ++ [(f, n)], n + 1⟩ := if_neg hk
    have e2 : stepN k (t + 1) ⟨kd, f :: (rng (f + 1) t ++ W), p, n⟩ = stepN k t (step ⟨kd, f :: (rng (f + 1) t ++ W), p, n⟩ k) := rfl
    rw [e2, e, step_take t ⟨kd, rng (f + 1) t ++ W, p ++ [(f, n)], n + 1⟩ (f + 1) W hk rfl]
    simp only [prs, List.append_assoc, List.singleton_append]
    rw [show n + 1 + (t : Int) = n + ((t + 1 : Nat) : Int) by omega]
theorem step_same {k : κ} : ∀ (t : Nat) (s : It κ), s.w ≠ [] → s.kind = some k → stepN k t s = ⟨some k, s.w ++ rng s.n t, s.p, s.n + t⟩
  | 0, ⟨kd, w, p, n⟩, _, hk => by
    have hk : kd = some k := hk
    subst hk
    simp [stepN, rng]
  | t + 1, ⟨kd, w, p, n⟩, hw, hk => by
    have hk : kd = some k := hk
    subst hk
    cases w with
    | nil => exact absurd rfl hw
    | cons x xs =>
      have e : step ⟨some k, x :: xs, p, n⟩ k = ⟨some k, x :: (xs ++ [n]), p, n + 1⟩ := if_pos rfl
      have e2 : stepN k (t + 1) ⟨some k, x :: xs, p, n⟩ = stepN k t (step ⟨some k, x :: xs, p, n⟩ k) := rfl
      rw [e2, e, step_same t _ (by simp) rfl]
      simp only [rng, List.append_assoc, List.singleton_append, List.cons_append, List.nil_append]
      rw [show n + 1 + (t : Int) = n + ((t + 1 : Nat) : Int) by omega]
theorem step_push {k : κ} {t : Nat} {s : It κ} (ht : 1 ≤ t) (h : s.w = [] ∨ s.kind = some k) : stepN k t s = ⟨some k, s.w ++ rng s.n t, s.p, s.n + t⟩ := by
  by_cases hw : s.w = []
  · obtain ⟨t, rfl⟩ : ∃ u, t = u + 1 := ⟨t - 1, by omega⟩
    obtain ⟨kd, w, p, n⟩ := s
    have hw : w = [] := hw
    subst hw
    show stepN k t ⟨some k, [n], p, n + 1⟩ = _
    rw [step_same t _ (by simp) rfl]
    simp only [rng, List.nil_append, List.singleton_append]
    rw [show n + 1 + (t : Int) = n + ((t + 1 : Nat) : Int) by omega]
  · exact step_same t s hw (h.resolve_left hw)

/-- what stands of s as it was told (kind, number) -/
def stOf (s : It κ) : Option (κ × Int) := if s.w = [] then none else s.kind.map fun k => (k, (s.w.length : Int))
def afterRun (s : Option (κ × Int)) (k : κ) (c : Int) : Option (κ × Int) := match s with
  | none => some (k, c)
  | some (z, n) => if z = k then some (k, n + c) else if n > c then some (z, n - c) else if c > n then some (k, c - n) else none

/-! ### what holds of the items that have arrived -/
structure Ok (its : List κ) (s : It κ) : Prop where
  n : s.n = (its.length : Int)
  kind : s.w ≠ [] → ∃ k, s.kind = some k ∧ ∀ x ∈ s.w, 0 ≤ x ∧ its[x.toNat]? = some k
  cnt : ∀ x, s.w.count x + (s.p.map (·.1)).count x + (s.p.map (·.2)).count x = if 0 ≤ x ∧ x < (its.length : Int) then 1 else 0
  lt : ∀ q ∈ s.p, q.1 < q.2
  asc : (s.p.map (·.2)).Pairwise (· < ·)
def F (its : List κ) : It κ := its.foldl step It.nil
theorem F_snoc (its : List κ) (k : κ) : F (its ++ [k]) = step (F its) k := by
  unfold F
  rw [List.foldl_append]
  rfl
theorem snoc_ind {α : Type} {P : List α → Prop} (h0 : P []) (h1 : ∀ l x, P l → P (l ++ [x])) : ∀ l, P l := by
  intro l
  have : ∀ n (l : List α), l.length = n → P l := by
    intro n
    induction n with
    | zero => intro l h; rw [List.length_eq_zero_iff.mp h]; exact h0
    | succ n ih =>
      intro l h
      have hne : l ≠ [] := fun e => by rw [e] at h; cases h
      rw [← List.dropLast_concat_getLast hne]
      exact h1 _ _ (ih _ (by rw [List.length_dropLast, h]; rfl))
  exact this _ l rfl
theorem in_of_cnt {a b c : Nat} {P : Prop} [Decidable P] (h : a + b + c = if P then 1 else 0) (hp : 0 < a ∨ 0 < b ∨ 0 < c) : P := by
  by_cases h' : P
  · exact h'
  · rw [if_neg h'] at h; omega
theorem Ok.wlt {its : List κ} {s : It κ} (o : Ok its s) {x : Int} (h : x ∈ s.w) : 0 ≤ x ∧ x < (its.length : Int) :=
  in_of_cnt (o.cnt x) (.inl (List.count_pos_iff.mpr h))
theorem Ok.p1 {its : List κ} {s : It κ} (o : Ok its s) {q : Int × Int} (h : q ∈ s.p) : 0 ≤ q.1 ∧ q.1 < (its.length : Int) :=
  in_of_cnt (o.cnt q.1) (.inr (.inl (List.count_pos_iff.mpr (List.mem_map_of_mem h))))
theorem Ok.p2 {its : List κ} {s : It κ} (o : Ok its s) {q : Int × Int} (h : q ∈ s.p) : 0 ≤ q.2 ∧ q.2 < (its.length : Int) :=
  in_of_cnt (o.cnt q.2) (.inr (.inr (List.count_pos_iff.mpr (List.mem_map_of_mem h))))
theorem cnt1 (x y : Int) : [y].count x = if x = y then 1 else 0 := by
  rw [List.count_singleton]
  by_cases h : x = y
  · subst h; simp
  · rw [if_neg h, if_neg (by simpa using fun e => h e.symm)]
theorem get_snoc {its : List κ} {k z : κ} {i : Nat} (h : its[i]? = some z) : (its ++ [k])[i]? = some z := by
  rw [List.getElem?_append_left (List.getElem?_eq_some_iff.mp h).1]
  exact h
theorem ok_step {its : List κ} {s : It κ} (o : Ok its s) (k : κ) : Ok (its ++ [k]) (step s k) := by
  obtain ⟨kd, w, p, n⟩ := s
  have en : n = (its.length : Int) := o.n
  subst en
  have hl : ((its ++ [k]).length : Int) = (its.length : Int) + 1 := by rw [List.length_append, List.length_singleton]; omega
  have hk : (its ++ [k])[its.length]? = some k := by simp
  cases w with
  | nil =>
    refine ⟨hl.symm, fun _ => ⟨k, rfl, fun x hx => ?_⟩, fun x => ?_, o.lt, o.asc⟩
    · have hx : x = (its.length : Int) := List.mem_singleton.mp hx
      subst hx
      exact ⟨by omega, by rw [Int.toNat_natCast]; exact hk⟩
    · have c := o.cnt x
      show [(its.length : Int)].count x + (p.map (·.1)).count x + (p.map (·.2)).count x = _
      have c' : (p.map (·.1)).count x + (p.map (·.2)).count x = if 0 ≤ x ∧ x < (its.length : Int) then 1 else 0 := by simpa using c
      rw [cnt1, hl]
      split at c' <;> split <;> split <;> omega
  | cons x xs =>
    obtain ⟨z, hz, hm⟩ := o.kind (by simp)
    have hz : kd = some z := hz
    subst hz
    by_cases e : z = k
    · subst e
      have es : step ⟨some z, x :: xs, p, (its.length : Int)⟩ z = ⟨some z, x :: (xs ++ [(its.length : Int)]), p, (its.length : Int) + 1⟩ := if_pos rfl
      rw [es]
      refine ⟨hl.symm, fun _ => ⟨z, rfl, fun y hy => ?_⟩, fun y => ?_, o.lt, o.asc⟩
      · have hy' : y ∈ (x :: xs) ∨ y = (its.length : Int) := by
          rcases List.mem_cons.mp hy with h | h
          · exact .inl (by rw [h]; exact List.mem_cons_self)
          · rcases List.mem_append.mp h with h | h
            · exact .inl (List.mem_cons_of_mem _ h)
            · exact .inr (List.mem_singleton.mp h)
        rcases hy' with h | h
        · exact ⟨(hm y h).1, get_snoc (hm y h).2⟩
        · rw [h]
          exact ⟨by omega, by rw [Int.toNat_natCast]; exact hk⟩
      · have c : (x :: xs).count y + (p.map (·.1)).count y + (p.map (·.2)).count y = _ := o.cnt y
        show ((x :: xs) ++ [(its.length : Int)]).count y + (p.map (·.1)).count y + (p.map (·.2)).count y = _
        rw [List.count_append, cnt1, hl]
        split at c <;> split <;> split <;> omega
    · have es : step ⟨some z, x :: xs, p, (its.length : Int)⟩ k = ⟨some z, xs, p ++ [(x, (its.length : Int))], (its.length : Int) + 1⟩ := if_neg fun h => e (Option.some.inj h)
      rw [es]
      have hx := o.wlt (x := x) List.mem_cons_self
      refine ⟨hl.symm, fun _ => ⟨z, rfl, fun y hy => ?_⟩, fun y => ?_, fun q hq => ?_, ?_⟩
      · have h := hm y (List.mem_cons_of_mem _ hy)
        exact ⟨h.1, get_snoc h.2⟩
      · have c : (x :: xs).count y + (p.map (·.1)).count y + (p.map (·.2)).count y = _ := o.cnt y
        show xs.count y + ((p ++ [(x, (its.length : Int))]).map (·.1)).count y + ((p ++ [(x, (its.length : Int))]).map (·.2)).count y = _
        rw [List.map_append, List.map_append, List.count_append, List.count_append]
        show xs.count y + ((p.map (·.1)).count y + [x].count y) + ((p.map (·.2)).count y + [(its.length : Int)].count y) = _
        rw [List.count_cons] at c
        rw [cnt1, cnt1, hl]
        have eb : (if (x == y) = true then 1 else 0 : Nat) = if y = x then 1 else 0 := by
          by_cases h : y = x
          · subst h; simp
          · rw [if_neg h, if_neg (by simpa using fun e => h e.symm)]
        rw [eb] at c
        split at c <;> split at c <;> split <;> split <;> split <;> omega
      · rcases List.mem_append.mp hq with h | h
        · exact o.lt q h
        · rw [List.mem_singleton.mp h]
          exact hx.2
      · show ((p ++ [(x, (its.length : Int))]).map (·.2)).Pairwise (· < ·)
        rw [List.map_append, List.pairwise_append]
        refine ⟨o.asc, by simp, fun a ha b hb => ?_⟩
        obtain ⟨q, hq, rfl⟩ := List.mem_map.mp ha
        have hb : b = (its.length : Int) := by simpa using hb
        rw [hb]
        exact (o.p2 hq).2
theorem ok_F (its : List κ) : Ok its (F its) := by
  refine snoc_ind (P := fun its => Ok its (F its)) ?_ (fun l k h => ?_) its
  · refine ⟨rfl, fun h => absurd rfl h, fun x => ?_, fun q h => (nomatch h), List.Pairwise.nil⟩
    show 0 + 0 + 0 = _
    rw [if_neg (by show ¬ (0 ≤ x ∧ x < ((0 : Nat) : Int)); omega)]
  · rw [F_snoc]
    exact ok_step h k

/-- a pair (f, s) at place i: how things stood when s arrived -/
structure Was (its : List κ) (i : Nat) (q : Int × Int) : Prop where
  lt : q.2 < (its.length : Int)
  f0 : 0 ≤ q.1
  fs : q.1 < q.2
  hd : (F (its.take q.2.toNat)).w.head? = some q.1
  len : (F (its.take q.2.toNat)).p.length = i
  len1 : (F (its.take (q.2 + 1).toNat)).p.length = i + 1
  un : ∃ a b, its[q.1.toNat]? = some a ∧ its[q.2.toNat]? = some b ∧ a ≠ b ∧ stOf (F (its.take q.2.toNat)) = some (a, ((F (its.take q.2.toNat)).w.length : Int))
theorem was_of : ∀ (its : List κ) (i : Nat) (q : Int × Int), (F its).p[i]? = some q → Was its i q := by
  refine snoc_ind (P := fun its => ∀ i q, (F its).p[i]? = some q → Was its i q) (fun i q h => by cases h) fun its k ih i q h => ?_
  have o := ok_F its
  have keep : (F its).p[i]? = some q → Was (its ++ [k]) i q := fun h => by
    have a := ih i q h
    obtain ⟨x, y, u1, u2, u3, u4⟩ := a.un
    have l := a.lt
    have l0 := a.f0
    have l1 := a.fs
    have t1 : (its ++ [k]).take q.2.toNat = its.take q.2.toNat := by rw [List.take_append_of_le_length (by omega)]
    have t2 : (its ++ [k]).take (q.2 + 1).toNat = its.take (q.2 + 1).toNat := by rw [List.take_append_of_le_length (by omega)]
    refine ⟨?_, a.f0, a.fs, ?_, ?_, ?_, x, y, get_snoc u1, get_snoc u2, u3, ?_⟩
    · rw [List.length_append, List.length_singleton]; omega
    · rw [t1]; exact a.hd
    · rw [t1]; exact a.len
    · rw [t2]; exact a.len1
    · rw [t1]; exact u4
  rw [F_snoc] at h
  cases hw : (F its).w with
  | nil =>
    have e : (step (F its) k).p = (F its).p := by unfold step; rw [hw]
    rw [e] at h
    exact keep h
  | cons x xs =>
    obtain ⟨z, hz, hm⟩ := o.kind (by rw [hw]; simp)
    by_cases hk : z = k
    · have e : (step (F its) k).p = (F its).p := by
        unfold step; rw [hw]
        show (if (F its).kind = some k then _ else _ : It κ).p = _
        rw [if_pos (by rw [hz, hk])]
      rw [e] at h
      exact keep h
    · have e : (step (F its) k).p = (F its).p ++ [(x, (F its).n)] := by
        unfold step; rw [hw]
        show (if (F its).kind = some k then _ else _ : It κ).p = _
        rw [if_neg (by rw [hz]; exact fun e => hk (Option.some.inj e))]
      rw [e] at h
      by_cases hi : i < (F its).p.length
      · rw [List.getElem?_append_left hi] at h
        exact keep h
      · have hi2 : i = (F its).p.length := by
          have := (List.getElem?_eq_some_iff.mp h).1
          rw [List.length_append, List.length_singleton] at this
          omega
        subst hi2
        rw [List.getElem?_append_right (Nat.le_refl _), Nat.sub_self] at h
        have eq : q = (x, (F its).n) := (Option.some.inj h).symm
        rw [o.n] at eq
        subst eq
        have hx := o.wlt (x := x) (by rw [hw]; exact List.mem_cons_self)
        have t1 : (its ++ [k]).take its.length = its := by simp
        have t2 : (its ++ [k]).take (its.length + 1) = its ++ [k] := by rw [List.take_of_length_le (by simp)]
        have n1 : ((its.length : Int)).toNat = its.length := Int.toNat_natCast _
        have n2 : ((its.length : Int) + 1).toNat = its.length + 1 := by omega
        refine ⟨?_, hx.1, hx.2, ?_, ?_, ?_, z, k, get_snoc (hm x (by rw [hw]; exact List.mem_cons_self)).2, ?_, hk, ?_⟩
        · rw [List.length_append, List.length_singleton]; show (its.length : Int) < _; omega
        · show (F ((its ++ [k]).take ((its.length : Int)).toNat)).w.head? = _
          rw [n1, t1, hw]; rfl
        · show (F ((its ++ [k]).take ((its.length : Int)).toNat)).p.length = _
          rw [n1, t1]
        · show (F ((its ++ [k]).take ((its.length : Int) + 1).toNat)).p.length = _
          rw [n2, t2, F_snoc, e, List.length_append, List.length_singleton]
        · show (its ++ [k])[((its.length : Int)).toNat]? = _
          rw [n1]; simp
        · show stOf (F ((its ++ [k]).take ((its.length : Int)).toNat)) = some (z, ((F ((its ++ [k]).take ((its.length : Int)).toNat)).w.length : Int))
          rw [n1, t1]
          unfold stOf
          rw [if_neg (by rw [hw]; simp), hz]
          rfl
end Uk
/-! Runs and their items; a queue in blocks against the items one by one; ranges. -/
namespace Uk
variable {κ : Type} [DecidableEq κ]
/-! ### runs -/
def items (rs : List (κ × Int)) : List κ := rs.flatMap fun r => List.replicate r.2.toNat r.1
theorem items_append (a b : List (κ × Int)) : items (a ++ b) = items a ++ items b := List.flatMap_append
theorem items_one (k : κ) (c : Int) : items [(k, c)] = List.replicate c.toNat k := by simp [items]
theorem items_len : ∀ rs : List (κ × Int), (∀ r ∈ rs, 1 ≤ r.2) → ((items rs).length : Int) = (rs.map (·.2)).sum
  | [], _ => rfl
  | r :: rs, h => by
    have ih := items_len rs fun u hu => h u (List.mem_cons_of_mem _ hu)
    have h1 := h r List.mem_cons_self
    have e : items (r :: rs) = List.replicate r.2.toNat r.1 ++ items rs := rfl
    rw [e, List.length_append, List.length_replicate, List.map_cons, List.sum_cons, ← ih]
    omega
theorem part_step {pre rs' : List (κ × Int)} {s l b c : Int} {k : κ} (h : items rs' = ((items pre).drop s.toNat).take l.toNat) (hb : b = ((items pre).length : Int)) (hs : 0 ≤ s) (hl : 0 ≤ l) (hc : 1 ≤ c) :
    items (if (if s > b then s else b) < (if s + l < b + c then s + l else b + c) then rs' ++ [(k, (if s + l < b + c then s + l else b + c) - (if s > b then s else b))] else rs') = ((items (pre ++ [(k, c)])).drop s.toNat).take l.toNat := by
  rw [items_append, items_one, List.drop_append, List.take_append, ← h, List.drop_replicate, List.take_replicate, List.length_drop]
  have key : ∀ (M m : Int), (if s > b then s else b) = M → (if s + l < b + c then s + l else b + c) = m → min (l.toNat - ((items pre).length - s.toNat)) (c.toNat - (s.toNat - (items pre).length)) = (m - M).toNat := by
    intro M m h1 h2
    split at h1 <;> split at h2 <;> omega
  by_cases ht : (if s > b then s else b) < (if s + l < b + c then s + l else b + c)
  · rw [if_pos ht, items_append, items_one, key _ _ rfl rfl]
  · rw [if_neg ht, key _ _ rfl rfl]
    have z : ((if s + l < b + c then s + l else b + c) - (if s > b then s else b)).toNat = 0 := by omega
    rw [z]
    simp
/-- a part: its items, its runs -/
structure PartOk (rs : List (κ × Int)) (s l : Int) (rs' : List (κ × Int)) : Prop where
  pos : ∀ r ∈ rs', 1 ≤ r.2
  len : rs'.length ≤ rs.length
  its : items rs' = ((items rs).drop s.toNat).take l.toNat
theorem part_head {rs rs' : List (κ × Int)} {p : Int} (h : PartOk rs p 1 rs') (h0 : 0 ≤ p) (h1 : p < ((items rs).length : Int)) : ∃ z c r, rs' = (z, c) :: r ∧ (items rs)[p.toNat]? = some z := by
  have hp : p.toNat < (items rs).length := by omega
  have e : items rs' = [(items rs)[p.toNat]] := by
    rw [h.its, show (1 : Int).toNat = 1 from rfl, List.drop_eq_getElem_cons hp]
    rfl
  cases rs' with
  | nil => cases e
  | cons r rr =>
    obtain ⟨z, c⟩ := r
    have hc : 1 ≤ c := h.pos (z, c) List.mem_cons_self
    have e2 : items ((z, c) :: rr) = List.replicate c.toNat z ++ items rr := rfl
    rw [e2] at e
    obtain ⟨n, hn⟩ : ∃ n, c.toNat = n + 1 := ⟨c.toNat - 1, by omega⟩
    rw [hn, List.replicate_succ] at e
    have e3 : z = (items rs)[p.toNat] := (List.cons.inj e).1
    exact ⟨z, c, rr, rfl, by rw [e3]; exact List.getElem?_eq_getElem hp⟩
theorem F_items_snoc (pre : List (κ × Int)) (k : κ) (c : Int) : F (items (pre ++ [(k, c)])) = stepN k c.toNat (F (items pre)) := by
  rw [items_append, items_one]
  unfold F
  rw [List.foldl_append, stepN_fold]

/-! ### a state of the function after_run -/
theorem step_drop {k : κ} : ∀ (t : Nat) (s : It κ), s.kind ≠ some k → t ≤ s.w.length → (stepN k t s).kind = s.kind ∧ (stepN k t s).w = s.w.drop t
  | 0, s, _, _ => ⟨rfl, rfl⟩
  | t + 1, ⟨kd, w, p, n⟩, hk, hl => by
    cases w with
    | nil => exact absurd hl (by simp)
    | cons x xs =>
      have e : step ⟨kd, x :: xs, p, n⟩ k = ⟨kd, xs, p ++ [(x, n)], n + 1⟩ := if_neg hk
      have e2 : stepN k (t + 1) ⟨kd, x :: xs, p, n⟩ = stepN k t (step ⟨kd, x :: xs, p, n⟩ k) := rfl
      have ih := step_drop t ⟨kd, xs, p ++ [(x, n)], n + 1⟩ hk (by have : t + 1 ≤ (x :: xs).length := hl; rw [List.length_cons] at this; show t ≤ xs.length; omega)
      rw [e2, e]
      exact ih
theorem afterRun_F {its : List κ} (o : Ok its (F its)) {k : κ} {c : Int} (hc : 1 ≤ c) : afterRun (stOf (F its)) k c = stOf (stepN k c.toNat (F its)) := by
  by_cases hw : (F its).w = []
  · have e : stOf (F its) = none := if_pos hw
    rw [e, step_push (by omega) (.inl hw), hw]
    unfold stOf
    show some (k, c) = if ([] : List Int) ++ rng _ _ = [] then none else some (k, _)
    have hl : ([] ++ rng (F its).n c.toNat).length = c.toNat := by rw [List.nil_append, rng_len]
    rw [if_neg (fun z => by rw [z] at hl; simp at hl; omega)]
    show some (k, c) = some (k, ((([] : List Int) ++ rng (F its).n c.toNat).length : Int))
    rw [hl]
    congr 2
    omega
  · obtain ⟨z, hz, _⟩ := o.kind hw
    have e : stOf (F its) = some (z, ((F its).w.length : Int)) := by
      unfold stOf
      rw [if_neg hw, hz]
      rfl
    rw [e]
    show (if z = k then some (k, ((F its).w.length : Int) + c) else if ((F its).w.length : Int) > c then some (z, ((F its).w.length : Int) - c) else if c > ((F its).w.length : Int) then some (k, c - ((F its).w.length : Int)) else none) = _
    by_cases hk : z = k
    · subst hk
      rw [if_pos rfl, step_same c.toNat _ hw hz]
      unfold stOf
      show _ = if (F its).w ++ rng _ _ = [] then none else some (z, (((F its).w ++ rng (F its).n c.toNat).length : Int))
      rw [if_neg (by simp [hw]), List.length_append, rng_len]
      congr 2
      omega
    · rw [if_neg hk]
      have hk' : (F its).kind ≠ some k := by rw [hz]; exact fun e => hk (Option.some.inj e)
      have hL : 0 < (F its).w.length := List.length_pos_iff.mpr hw
      by_cases h1 : ((F its).w.length : Int) > c
      · rw [if_pos h1]
        obtain ⟨e1, e2⟩ := step_drop c.toNat (F its) hk' (by omega)
        unfold stOf
        rw [e1, e2, hz, if_neg (fun z => by have := congrArg List.length z; rw [List.length_drop] at this; simp at this; omega), List.length_drop]
        show some (z, _) = some (z, _)
        congr 2
        omega
      · rw [if_neg h1]
        obtain ⟨e1, e2⟩ := step_drop (F its).w.length (F its) hk' (Nat.le_refl _)
        rw [List.drop_length] at e2
        by_cases h2 : c > ((F its).w.length : Int)
        · rw [if_pos h2, show c.toNat = (F its).w.length + (c.toNat - (F its).w.length) by omega, stepN_add, step_push (by omega) (.inl e2), e2]
          unfold stOf
          have hl : ([] ++ rng (stepN k (F its).w.length (F its)).n (c.toNat - (F its).w.length)).length = c.toNat - (F its).w.length := by rw [List.nil_append, rng_len]
          show _ = if ([] : List Int) ++ rng _ _ = [] then none else some (k, _)
          rw [if_neg (fun z => by rw [z] at hl; simp at hl; omega), hl]
          congr 2
          omega
        · rw [if_neg h2, show c.toNat = (F its).w.length by omega]
          unfold stOf
          rw [if_pos e2]
end Uk
/-! The queue in blocks; ranges; what the law's tests ask of them. -/
namespace Uk
variable {κ : Type} [DecidableEq κ]
/-! ### pairs joined -/
def addP (ps : List (Int × Int × Int)) (f s c : Int) : List (Int × Int × Int) := match ps.getLast? with
  | none => [(f, s, c)]
  | some (o, t, b) => if o + b = f ∧ t + b = s then ps.dropLast ++ [(o, t, b + c)] else ps ++ [(f, s, c)]
theorem addP_nil (f s c : Int) : addP [] f s c = [(f, s, c)] := rfl
theorem addP_snoc (pre : List (Int × Int × Int)) (o t b f s c : Int) : addP (pre ++ [(o, t, b)]) f s c = if o + b = f ∧ t + b = s then pre ++ [(o, t, b + c)] else pre ++ [(o, t, b)] ++ [(f, s, c)] := by
  unfold addP
  rw [List.getLast?_concat]
  show (if _ then _ else _) = _
  rw [List.dropLast_concat]
theorem snoc_cases {α : Type} (l : List α) : l = [] ∨ ∃ pre x, l = pre ++ [x] := by
  by_cases h : l = []
  · exact .inl h
  · exact .inr ⟨_, _, (List.dropLast_concat_getLast h).symm⟩
theorem addP_len (ps : List (Int × Int × Int)) (f s c : Int) : (addP ps f s c).length ≤ ps.length + 1 := by
  rcases snoc_cases ps with rfl | ⟨pre, ⟨o, t, b⟩, rfl⟩
  · rw [addP_nil]; exact Nat.le_refl _
  · rw [addP_snoc]
    split <;> simp
theorem addP_pos {ps : List (Int × Int × Int)} {f s c : Int} (h : ∀ t ∈ ps, 1 ≤ t.2.2) (hc : 1 ≤ c) : ∀ t ∈ addP ps f s c, 1 ≤ t.2.2 := by
  rcases snoc_cases ps with rfl | ⟨pre, ⟨o, t, b⟩, rfl⟩
  · rw [addP_nil]
    intro u hu
    rw [List.mem_singleton.mp hu]
    exact hc
  · have hb : 1 ≤ b := h (o, t, b) (by simp)
    rw [addP_snoc]
    split
    · intro u hu
      rcases List.mem_append.mp hu with hu | hu
      · exact h u (List.mem_append_left _ hu)
      · rw [List.mem_singleton.mp hu]
        show 1 ≤ b + c
        omega
    · intro u hu
      rcases List.mem_append.mp hu with hu | hu
      · exact h u hu
      · rw [List.mem_singleton.mp hu]
        exact hc
theorem exP_one (f s c : Int) : exP [(f, s, c)] = prs f s c.toNat := by simp [exP]
theorem addP_ex {ps : List (Int × Int × Int)} {f s c : Int} (h : ∀ t ∈ ps, 1 ≤ t.2.2) (hc : 1 ≤ c) : exP (addP ps f s c) = exP ps ++ prs f s c.toNat := by
  rcases snoc_cases ps with rfl | ⟨pre, ⟨o, t, b⟩, rfl⟩
  · rw [addP_nil, exP_one]; rfl
  · have hb : 1 ≤ b := h (o, t, b) (by simp)
    rw [addP_snoc]
    split
    · rename_i e
      rw [exP_append, exP_append, exP_one, exP_one, List.append_assoc, show (b + c).toNat = b.toNat + c.toNat by omega, prs_add, ← e.1, ← e.2, show ((b.toNat : Nat) : Int) = b by omega]
    · rw [exP_append, exP_one]

/-! ### the queue -/
structure Good (its : List κ) (kd : Option κ) (bs : List (Int × Int)) (ps : List (Int × Int × Int)) (n : Int) : Prop where
  bp : ∀ b ∈ bs, 1 ≤ b.2
  pp : ∀ t ∈ ps, 1 ≤ t.2.2
  eq : (⟨kd, ex bs, exP ps, n⟩ : It κ) = F its
theorem good_nil : Good ([] : List κ) none [] [] 0 := ⟨fun _ h => (nomatch h), fun _ h => (nomatch h), rfl⟩
theorem F_rep (its : List κ) (k : κ) (n : Nat) : F (its ++ List.replicate n k) = stepN k n (F its) := by
  unfold F
  rw [List.foldl_append, stepN_fold]
theorem ex_ne {bs : List (Int × Int)} (h : ∀ b ∈ bs, 1 ≤ b.2) (hb : bs ≠ []) : ex bs ≠ [] := by
  cases bs with
  | nil => exact absurd rfl hb
  | cons b r =>
    rw [ex_cons]
    intro e
    have := congrArg List.length e
    rw [List.length_append, rng_len] at this
    have h1 := h b List.mem_cons_self
    simp at this
    omega
theorem Good.kind {its : List κ} {kd : Option κ} {bs : List (Int × Int)} {ps : List (Int × Int × Int)} {n : Int} (g : Good its kd bs ps n) (hb : bs ≠ []) : ∃ z, kd = some z := by
  have o := ok_F its
  rw [← g.eq] at o
  obtain ⟨z, hz, _⟩ := o.kind (ex_ne g.bp hb)
  exact ⟨z, hz⟩
theorem good_push {its : List κ} {kd : Option κ} {bs : List (Int × Int)} {ps : List (Int × Int × Int)} {n l : Int} {k : κ} (g : Good its kd bs ps n) (h : bs = [] ∨ kd = some k) (hl : 1 ≤ l) :
    Good (its ++ List.replicate l.toNat k) (some k) (bs ++ [(n, l)]) ps (n + l) := by
  refine ⟨fun b hb => ?_, g.pp, ?_⟩
  · rcases List.mem_append.mp hb with hb | hb
    · exact g.bp b hb
    · rw [List.mem_singleton.mp hb]; exact hl
  · rw [F_rep, ← g.eq, step_push (by omega) (h.elim (fun e => .inl (by rw [e]; rfl)) .inr), ex_append]
    have e1 : ex [(n, l)] = rng n l.toNat := by simp [ex]
    rw [e1, show n + l = n + (l.toNat : Int) by omega]
theorem good_take {its : List κ} {z k : κ} {f c : Int} {bs : List (Int × Int)} {ps : List (Int × Int × Int)} {n t : Int} (g : Good its (some z) ((f, c) :: bs) ps n) (hk : z ≠ k) (ht : 1 ≤ t) (htc : t ≤ c) :
    Good (its ++ List.replicate t.toNat k) (some z) (if t = c then bs else (f + t, c - t) :: bs) (addP ps f n t) (n + t) := by
  refine ⟨fun b hb => ?_, addP_pos g.pp ht, ?_⟩
  · split at hb
    · exact g.bp b (List.mem_cons_of_mem _ hb)
    · rcases List.mem_cons.mp hb with hb | hb
      · rw [hb]; show 1 ≤ c - t; omega
      · exact g.bp b (List.mem_cons_of_mem _ hb)
  · have hw : ex ((f, c) :: bs) = rng f t.toNat ++ ex (if t = c then bs else (f + t, c - t) :: bs) := by
      rw [ex_cons]
      split
      · rename_i e; rw [← e]
      · rw [ex_cons, ← List.append_assoc]
        congr 1
        show rng f c.toNat = rng f t.toNat ++ rng (f + t) (c - t).toNat
        rw [show c.toNat = t.toNat + (c - t).toNat by omega, rng_add, show f + (t.toNat : Int) = f + t by omega]
    rw [F_rep, ← g.eq, step_take t.toNat _ f (ex (if t = c then bs else (f + t, c - t) :: bs)) (fun e => hk (Option.some.inj e)) hw, addP_ex g.pp ht]
    rw [show n + (t.toNat : Int) = n + t by omega]

/-! ### ranges (first, last) -/
def inR (x : Int) (r : Int × Int) : Bool := decide (r.1 ≤ x ∧ x ≤ r.2)
def addR (R : List (Int × Int)) (f c : Int) : List (Int × Int) := match R.getLast? with
  | none => [(f, f + c - 1)]
  | some (a, b) => if b + 1 = f then R.dropLast ++ [(a, f + c - 1)] else R ++ [(f, f + c - 1)]
theorem addR_nil (f c : Int) : addR [] f c = [(f, f + c - 1)] := rfl
theorem addR_snoc (pre : List (Int × Int)) (a b f c : Int) : addR (pre ++ [(a, b)]) f c = if b + 1 = f then pre ++ [(a, f + c - 1)] else pre ++ [(a, b)] ++ [(f, f + c - 1)] := by
  unfold addR
  rw [List.getLast?_concat]
  show (if _ then _ else _) = _
  rw [List.dropLast_concat]
/-- the ranges R hold what the list of positions W holds -/
structure RngOk (R : List (Int × Int)) (W : List Int) : Prop where
  le : ∀ r ∈ R, r.1 ≤ r.2
  cnt : ∀ x, R.countP (inR x) = W.count x
  hd : ∀ v, W.head? = some v → ∃ l R', R = (v, l) :: R'
theorem cnt_one (x a b : Int) : [(a, b)].countP (inR x) = if a ≤ x ∧ x ≤ b then 1 else 0 := by
  rw [List.countP_singleton]
  unfold inR
  by_cases h : a ≤ x ∧ x ≤ b
  · rw [if_pos h, if_pos (decide_eq_true h)]
  · rw [if_neg h, if_neg (by simpa using h)]
theorem rngOk_nil : RngOk [] [] := ⟨fun _ h => (nomatch h), fun _ => rfl, fun _ h => (nomatch h)⟩
theorem rngOk_add {R : List (Int × Int)} {W : List Int} {f c : Int} (h : RngOk R W) (hc : 1 ≤ c) : RngOk (addR R f c) (W ++ rng f c.toNat) := by
  have hcount : ∀ x, (rng f c.toNat).count x = if f ≤ x ∧ x ≤ f + c - 1 then 1 else 0 := fun x => by
    rw [rng_count]
    by_cases e : f ≤ x ∧ x < f + (c.toNat : Int)
    · rw [if_pos e, if_pos (by omega)]
    · rw [if_neg e, if_neg (by omega)]
  rcases snoc_cases R with rfl | ⟨pre, ⟨a, b⟩, rfl⟩
  · rw [addR_nil]
    have hW : W = [] := by
      cases W with
      | nil => rfl
      | cons y ys =>
        obtain ⟨l, R', e⟩ := h.hd y rfl
        cases e
    subst hW
    refine ⟨fun r hr => ?_, fun x => ?_, fun v hv => ?_⟩
    · rw [List.mem_singleton.mp hr]; show f ≤ f + c - 1; omega
    · rw [List.nil_append, cnt_one, hcount]
    · obtain ⟨m, hm⟩ : ∃ m, c.toNat = m + 1 := ⟨c.toNat - 1, by omega⟩
      rw [List.nil_append, hm] at hv
      have e : f = v := Option.some.inj hv
      exact ⟨f + c - 1, [], by rw [e]⟩
  · have hab : a ≤ b := h.le (a, b) (by simp)
    have hne : W ≠ [] := fun e => by
      have := h.cnt a
      rw [e, List.countP_append, cnt_one, if_pos ⟨Int.le_refl _, hab⟩] at this
      simp at this
    have hd : ∀ v, (W ++ rng f c.toNat).head? = some v → ∃ l R', pre ++ [(a, b)] = (v, l) :: R' := fun v hv => by
      refine h.hd v ?_
      cases W with
      | nil => exact absurd rfl hne
      | cons y ys => exact hv
    rw [addR_snoc]
    split
    · rename_i e
      refine ⟨fun r hr => ?_, fun x => ?_, fun v hv => ?_⟩
      · rcases List.mem_append.mp hr with hr | hr
        · exact h.le r (List.mem_append_left _ hr)
        · rw [List.mem_singleton.mp hr]; show a ≤ f + c - 1; omega
      · have q := h.cnt x
        rw [List.countP_append, cnt_one] at q
        rw [List.countP_append, cnt_one, List.count_append, hcount, ← q]
        split <;> split <;> split <;> omega
      · obtain ⟨l, R', e2⟩ := hd v hv
        cases pre with
        | nil =>
          have e3 : (a, b) = (v, l) := (List.cons.inj e2).1
          cases e3
          exact ⟨_, [], rfl⟩
        | cons y ys =>
          have e3 := (List.cons.inj e2).1
          subst e3
          exact ⟨l, _, rfl⟩
    · refine ⟨fun r hr => ?_, fun x => ?_, fun v hv => ?_⟩
      · rcases List.mem_append.mp hr with hr | hr
        · exact h.le r hr
        · rw [List.mem_singleton.mp hr]; show f ≤ f + c - 1; omega
      · rw [List.countP_append, cnt_one, List.count_append, hcount, h.cnt x]
      · obtain ⟨l, R', e2⟩ := hd v hv
        exact ⟨l, R' ++ [(f, f + c - 1)], by rw [e2]; rfl⟩
theorem addR_len (R : List (Int × Int)) (f c : Int) : (addR R f c).length ≤ R.length + 1 := by
  rcases snoc_cases R with rfl | ⟨pre, ⟨a, b⟩, rfl⟩
  · rw [addR_nil]; exact Nat.le_refl _
  · rw [addR_snoc]
    split <;> simp
theorem RngOk.mem {R : List (Int × Int)} {W : List Int} (h : RngOk R W) {r : Int × Int} (hr : r ∈ R) : r.1 ∈ W ∧ r.2 ∈ W := by
  have hle := h.le r hr
  constructor
  · rw [← List.count_pos_iff, ← h.cnt, List.countP_pos_iff]
    exact ⟨r, hr, by unfold inR; exact decide_eq_true ⟨Int.le_refl _, hle⟩⟩
  · rw [← List.count_pos_iff, ← h.cnt, List.countP_pos_iff]
    exact ⟨r, hr, by unfold inR; exact decide_eq_true ⟨hle, Int.le_refl _⟩⟩

/-! ### tiles -/
/-- sorted ranges that hold each of a, .., n - 1 once: the next one begins where the last one ended -/
structure Tile (R : List (Int × Int)) (a n : Int) : Prop where
  le : ∀ r ∈ R, r.1 ≤ r.2
  cnt : ∀ x, R.countP (inR x) = if a ≤ x ∧ x < n then 1 else 0
  srt : R.Pairwise fun r q => r.1 ≤ q.1
theorem tile_nil {a n : Int} (h : Tile [] a n) (hn : a ≤ n) : a = n := by
  have := h.cnt a
  by_cases e : a ≤ a ∧ a < n
  · rw [if_pos e] at this; cases this
  · omega
theorem tile_cons {f l a n : Int} {R : List (Int × Int)} (h : Tile ((f, l) :: R) a n) : f = a ∧ f ≤ l ∧ l < n ∧ Tile R (l + 1) n := by
  have hfl : f ≤ l := h.le (f, l) List.mem_cons_self
  have c := h.cnt
  have cf := c f
  have cl := c l
  rw [List.countP_cons] at cf cl
  have e1 : inR f (f, l) = true := by unfold inR; exact decide_eq_true ⟨Int.le_refl _, hfl⟩
  have e2 : inR l (f, l) = true := by unfold inR; exact decide_eq_true ⟨hfl, Int.le_refl _⟩
  rw [if_pos e1] at cf
  rw [if_pos e2] at cl
  have hf : a ≤ f ∧ f < n := by
    by_cases z : a ≤ f ∧ f < n
    · exact z
    · rw [if_neg z] at cf; omega
  have hl : a ≤ l ∧ l < n := by
    by_cases z : a ≤ l ∧ l < n
    · exact z
    · rw [if_neg z] at cl; omega
  have hfa : f = a := by
    have ca := c a
    rw [if_pos (by omega)] at ca
    have hp : 0 < ((f, l) :: R).countP (inR a) := by omega
    obtain ⟨r, hr, hi⟩ := List.countP_pos_iff.mp hp
    have hi := of_decide_eq_true hi
    rcases List.mem_cons.mp hr with e | hr
    · rw [e] at hi
      have : f ≤ a := hi.1
      omega
    · have := List.rel_of_pairwise_cons h.srt hr
      have : f ≤ r.1 := this
      omega
  refine ⟨hfa, hfl, hl.2, ⟨fun r hr => h.le r (List.mem_cons_of_mem _ hr), fun x => ?_, (List.pairwise_cons.mp h.srt).2⟩⟩
  have cx := c x
  rw [List.countP_cons] at cx
  by_cases e : f ≤ x ∧ x ≤ l
  · have e3 : inR x (f, l) = true := by unfold inR; exact decide_eq_true e
    rw [if_pos e3, if_pos (by omega)] at cx
    rw [if_neg (by omega)]
    omega
  · have e3 : ¬ inR x (f, l) = true := by unfold inR; simpa using e
    rw [if_neg e3] at cx
    rw [Nat.add_zero] at cx
    rw [cx]
    by_cases e4 : a ≤ x ∧ x < n
    · rw [if_pos e4, if_pos (by omega)]
    · rw [if_neg e4, if_neg (by omega)]
/-- the ranges of runs of pairs -/
def rngsP (ps : List (Int × Int × Int)) : List (Int × Int) := ps.flatMap fun t => [(t.1, t.1 + t.2.2 - 1), (t.2.1, t.2.1 + t.2.2 - 1)]
theorem rngsP_snoc (ps : List (Int × Int × Int)) (f s c : Int) : rngsP (ps ++ [(f, s, c)]) = rngsP ps ++ [(f, f + c - 1), (s, s + c - 1)] := by
  unfold rngsP
  rw [List.flatMap_append]
  rfl
theorem rngsP_len (ps : List (Int × Int × Int)) : (rngsP ps).length = 2 * ps.length := by
  induction ps with
  | nil => rfl
  | cons t ps ih =>
    show ([_, _] ++ rngsP ps).length = _
    rw [List.length_append, ih, List.length_cons]
    simp
    omega
theorem rngsP_le {ps : List (Int × Int × Int)} (h : ∀ t ∈ ps, 1 ≤ t.2.2) : ∀ r ∈ rngsP ps, r.1 ≤ r.2 := by
  intro r hr
  obtain ⟨t, ht, hr⟩ := List.mem_flatMap.mp hr
  have := h t ht
  rcases List.mem_cons.mp hr with e | hr
  · rw [e]; show t.1 ≤ t.1 + t.2.2 - 1; omega
  · rw [List.mem_singleton.mp hr]; show t.2.1 ≤ t.2.1 + t.2.2 - 1; omega
theorem rngsP_cnt (x : Int) : ∀ ps : List (Int × Int × Int), (∀ t ∈ ps, 1 ≤ t.2.2) → (rngsP ps).countP (inR x) = ((exP ps).map (·.1)).count x + ((exP ps).map (·.2)).count x
  | [], _ => rfl
  | (f, s, c) :: ps, h => by
    have hc : 1 ≤ c := h (f, s, c) List.mem_cons_self
    have ih := rngsP_cnt x ps fun u hu => h u (List.mem_cons_of_mem _ hu)
    show ([(f, f + c - 1)] ++ ([(s, s + c - 1)] ++ rngsP ps)).countP (inR x) = _
    rw [List.countP_append, List.countP_append, cnt_one, cnt_one, ih, exP_cons, List.map_append, List.map_append, List.count_append, List.count_append]
    show _ = ((prs f s c.toNat).map (·.1)).count x + _ + (((prs f s c.toNat).map (·.2)).count x + _)
    rw [prs_fst, prs_snd, rng_count, rng_count]
    have k1 : (if f ≤ x ∧ x ≤ f + c - 1 then 1 else 0 : Nat) = if f ≤ x ∧ x < f + (c.toNat : Int) then 1 else 0 := by
      by_cases e : f ≤ x ∧ x ≤ f + c - 1
      · rw [if_pos e, if_pos (by omega)]
      · rw [if_neg e, if_neg (by omega)]
    have k2 : (if s ≤ x ∧ x ≤ s + c - 1 then 1 else 0 : Nat) = if s ≤ x ∧ x < s + (c.toNat : Int) then 1 else 0 := by
      by_cases e : s ≤ x ∧ x ≤ s + c - 1
      · rw [if_pos e, if_pos (by omega)]
      · rw [if_neg e, if_neg (by omega)]
    rw [k1, k2]
    omega
/-- all ranges, in any order that is sorted, tile -/
theorem tile_all {its : List κ} {R S : List (Int × Int)} {ps : List (Int × Int × Int)} (hR : RngOk R (F its).w) (hp : ∀ t ∈ ps, 1 ≤ t.2.2) (he : exP ps = (F its).p) (hS : S.Perm (R ++ rngsP ps)) (srt : S.Pairwise fun r q => r.1 ≤ q.1) :
    Tile S 0 (its.length : Int) := by
  refine ⟨fun r hr => ?_, fun x => ?_, srt⟩
  · rcases List.mem_append.mp (hS.mem_iff.mp hr) with h | h
    · exact hR.le r h
    · exact rngsP_le hp r h
  · rw [hS.countP_eq, List.countP_append, hR.cnt, rngsP_cnt x ps hp, he, ← Nat.add_assoc]
    exact (ok_F its).cnt x
/-! ### the runs of pairs in their order -/
/-- each run of pairs begins behind the end of the last one -/
theorem chain_ps {its : List κ} {ps : List (Int × Int × Int)} (hp : ∀ t ∈ ps, 1 ≤ t.2.2) (he : exP ps = (F its).p) {i : Nat} {f s c : Int} (h : ps[i]? = some (f, s, c)) :
    1 ≤ c ∧ f < s ∧ 0 ≤ s ∧ (∀ (j : Nat) (f' s' c' : Int), j + 1 = i → ps[j]? = some (f', s', c') → s' + c' - 1 < s) := by
  have hm := List.mem_of_getElem? h
  have hc : 1 ≤ c := hp _ hm
  have o := ok_F its
  have hq : (f, s) ∈ (F its).p := by
    rw [← he]
    refine List.mem_flatMap.mpr ⟨_, hm, ?_⟩
    exact prs_mem.mpr ⟨0, by show 0 < c.toNat; omega, by simp⟩
  refine ⟨hc, o.lt _ hq, (o.p2 hq).1, fun j f' s' c' hj h' => ?_⟩
  subst hj
  have hl := (List.getElem?_eq_some_iff.mp h).1
  obtain ⟨A, B, e⟩ : ∃ A B, ps = A ++ (f', s', c') :: (f, s, c) :: B := by
    refine ⟨ps.take j, ps.drop (j + 2), ?_⟩
    have e1 : ps.drop j = (f', s', c') :: ps.drop (j + 1) := by
      rw [List.drop_eq_getElem_cons (by omega)]
      congr 1
      exact (List.getElem?_eq_some_iff.mp h').2
    have e2 : ps.drop (j + 1) = (f, s, c) :: ps.drop (j + 2) := by
      rw [List.drop_eq_getElem_cons hl]
      congr 1
      exact (List.getElem?_eq_some_iff.mp h).2
    rw [← e2, ← e1, List.take_append_drop]
  have hc' : 1 ≤ c' := hp (f', s', c') (List.mem_of_getElem? h')
  have a := o.asc
  rw [← he, e, exP_append, List.map_append, exP_cons, exP_cons, List.map_append] at a
  have a2 := (List.pairwise_append.mp a).2.1
  have a3 := (List.pairwise_append.mp a2).2.2
  refine a3 (s' + c' - 1) ?_ s ?_
  · show _ ∈ (prs f' s' c'.toNat).map (·.2)
    rw [prs_snd, rng_mem]
    omega
  · rw [List.map_append]
    refine List.mem_append_left _ ?_
    show _ ∈ (prs f s c.toNat).map (·.2)
    rw [prs_snd, rng_mem]
    omega
end Uk
/-! Partners, the n-th pair, the longest wait. -/
namespace Uk
variable {κ : Type} [DecidableEq κ]
theorem prs_mem1 {f s p c : Int} (h1 : f ≤ p) (h2 : p < f + c) : (p, s + p - f) ∈ prs f s c.toNat := by
  refine prs_mem.mpr ⟨(p - f).toNat, by omega, ?_⟩
  rw [show f + (((p - f).toNat : Nat) : Int) = p by omega, show s + (((p - f).toNat : Nat) : Int) = s + p - f by omega]
theorem prs_mem2 {f s p c : Int} (h1 : s ≤ p) (h2 : p < s + c) : (f + p - s, p) ∈ prs f s c.toNat := by
  refine prs_mem.mpr ⟨(p - s).toNat, by omega, ?_⟩
  rw [show s + (((p - s).toNat : Nat) : Int) = p by omega, show f + (((p - s).toNat : Nat) : Int) = f + p - s by omega]
theorem prs_no1 {f s p c x : Int} (hc : 1 ≤ c) (h : (p, x) ∈ prs f s c.toNat) : f ≤ p ∧ p < f + c := by
  obtain ⟨i, hi, e⟩ := prs_mem.mp h
  have e1 : p = f + i := congrArg (·.1) e
  omega
theorem prs_no2 {f s p c x : Int} (hc : 1 ≤ c) (h : (x, p) ∈ prs f s c.toNat) : s ≤ p ∧ p < s + c := by
  obtain ⟨i, hi, e⟩ := prs_mem.mp h
  have e1 : p = s + i := congrArg (·.2) e
  omega
theorem exP_snoc (ps : List (Int × Int × Int)) (f s c : Int) : exP (ps ++ [(f, s, c)]) = exP ps ++ prs f s c.toNat := by rw [exP_append, exP_one]
theorem exP_take_mem {ps : List (Int × Int × Int)} {i : Nat} {f s c : Int} {q : Int × Int} (h : ps[i]? = some (f, s, c)) (hq : q ∈ prs f s c.toNat) : q ∈ exP ps :=
  List.mem_flatMap.mpr ⟨_, List.mem_of_getElem? h, hq⟩
/-- who left with p -/
def Lone (P : List (Int × Int)) (p : Int) : Prop := ∀ x, (p, x) ∉ P ∧ (x, p) ∉ P
def Mate (P : List (Int × Int)) (p x : Int) : Prop := (p, x) ∈ P ∨ (x, p) ∈ P
theorem lone_nil (p : Int) : Lone [] p := fun _ => ⟨fun h => (nomatch h), fun h => (nomatch h)⟩
theorem lone_add {P : List (Int × Int)} {p f s c : Int} (h : Lone P p) (hc : 1 ≤ c) (h1 : ¬ (f ≤ p ∧ p < f + c)) (h2 : ¬ (s ≤ p ∧ p < s + c)) : Lone (P ++ prs f s c.toNat) p := fun x => by
  refine ⟨fun z => ?_, fun z => ?_⟩
  · rcases List.mem_append.mp z with z | z
    · exact (h x).1 z
    · exact h1 (prs_no1 hc z)
  · rcases List.mem_append.mp z with z | z
    · exact (h x).2 z
    · exact h2 (prs_no2 hc z)
theorem count_two {α : Type} [BEq α] [LawfulBEq α] {β : Type} (f : β → α) : ∀ {l : List β} {a b : β}, a ∈ l → b ∈ l → a ≠ b → f a = f b → 2 ≤ (l.map f).count (f a)
  | [], a, b, ha, _, _, _ => (nomatch ha)
  | x :: l, a, b, ha, hb, hne, e => by
    rw [List.map_cons, List.count_cons]
    rcases List.mem_cons.mp ha with e1 | h1
    · rcases List.mem_cons.mp hb with e2 | h2
      · exact absurd (e1.trans e2.symm) hne
      · have : 0 < (l.map f).count (f a) := by
          rw [e]
          exact List.count_pos_iff.mpr (List.mem_map_of_mem h2)
        rw [if_pos (by rw [e1]; simp)]
        omega
    · rcases List.mem_cons.mp hb with e2 | h2
      · have : 0 < (l.map f).count (f a) := List.count_pos_iff.mpr (List.mem_map_of_mem h1)
        rw [if_pos (by rw [e, e2]; simp)]
        omega
      · have := count_two f h1 h2 hne e
        omega
/-- an item has one partner at most -/
theorem mate_one {its : List κ} {p x y : Int} (h1 : Mate (F its).p p x) (h2 : Mate (F its).p p y) : x = y := by
  have o := ok_F its
  have c := o.cnt p
  have le1 : (F its).w.count p + ((F its).p.map (·.1)).count p + ((F its).p.map (·.2)).count p ≤ 1 := by
    rw [c]
    split <;> omega
  have m1 : ∀ {z : Int}, (p, z) ∈ (F its).p → 0 < ((F its).p.map (·.1)).count p := fun h => List.count_pos_iff.mpr (List.mem_map.mpr ⟨_, h, rfl⟩)
  have m2 : ∀ {z : Int}, (z, p) ∈ (F its).p → 0 < ((F its).p.map (·.2)).count p := fun h => List.count_pos_iff.mpr (List.mem_map.mpr ⟨_, h, rfl⟩)
  rcases h1 with h1 | h1 <;> rcases h2 with h2 | h2
  · refine Classical.byContradiction fun hne => ?_
    have : 2 ≤ ((F its).p.map (·.1)).count p := count_two (·.1) h1 h2 (fun e => hne (congrArg (·.2) e)) rfl
    omega
  · have := m1 h1
    have := m2 h2
    omega
  · have := m2 h1
    have := m1 h2
    omega
  · refine Classical.byContradiction fun hne => ?_
    have : 2 ≤ ((F its).p.map (·.2)).count p := count_two (·.2) h1 h2 (fun e => hne (congrArg (·.1) e)) rfl
    omega
/-- who waits at the end has none -/
theorem lone_w {its : List κ} {p : Int} (h : p ∈ (F its).w) : Lone (F its).p p := by
  have o := ok_F its
  have c := o.cnt p
  have le1 : (F its).w.count p + ((F its).p.map (·.1)).count p + ((F its).p.map (·.2)).count p ≤ 1 := by
    rw [c]
    split <;> omega
  have hw : 0 < (F its).w.count p := List.count_pos_iff.mpr h
  refine fun x => ⟨fun z => ?_, fun z => ?_⟩
  · have : 0 < ((F its).p.map (·.1)).count p := List.count_pos_iff.mpr (List.mem_map.mpr ⟨_, z, rfl⟩)
    omega
  · have : 0 < ((F its).p.map (·.2)).count p := List.count_pos_iff.mpr (List.mem_map.mpr ⟨_, z, rfl⟩)
    omega
/-- the runs of pairs by their number -/
theorem exP_drop {ps : List (Int × Int × Int)} {i : Nat} {f s c : Int} (h : ps[i]? = some (f, s, c)) : exP (ps.drop i) = prs f s c.toNat ++ exP (ps.drop (i + 1)) := by
  rw [List.drop_eq_getElem_cons (List.getElem?_eq_some_iff.mp h).1, (List.getElem?_eq_some_iff.mp h).2, exP_cons]
theorem nth_here {f s c l : Int} {B : List (Int × Int)} {q : Int × Int} (h : (prs f s c.toNat ++ B)[l.toNat]? = some q) (h0 : 0 ≤ l) (hl : l < c) : q = (f + l, s + l) := by
  rw [List.getElem?_append_left (by rw [prs_len]; omega), prs_get _ _ _ _ (by omega)] at h
  have e := (Option.some.inj h).symm
  rw [e, show ((l.toNat : Nat) : Int) = l by omega]
theorem nth_next {f s c l : Int} {B : List (Int × Int)} {q : Int × Int} (h : (prs f s c.toNat ++ B)[l.toNat]? = some q) (h0 : 0 ≤ l) (hc : 1 ≤ c) (hl : ¬ l < c) : B[(l - c).toNat]? = some q := by
  rw [List.getElem?_append_right (by rw [prs_len]; omega), prs_len, show l.toNat - c.toNat = (l - c).toNat by omega] at h
  exact h
theorem exP_mem {ps : List (Int × Int × Int)} {q : Int × Int} (h : q ∈ exP ps) : ∃ t ∈ ps, q.2 - q.1 = t.2.1 - t.1 := by
  obtain ⟨t, ht, hq⟩ := List.mem_flatMap.mp h
  obtain ⟨i, _, e⟩ := prs_mem.mp hq
  refine ⟨t, ht, ?_⟩
  rw [e]
  show t.2.1 + (i : Int) - (t.1 + (i : Int)) = _
  omega
theorem exP_first {ps : List (Int × Int × Int)} {t : Int × Int × Int} (h : t ∈ ps) (hc : 1 ≤ t.2.2) : (t.1, t.2.1) ∈ exP ps :=
  List.mem_flatMap.mpr ⟨t, h, prs_mem.mpr ⟨0, by omega, by simp⟩⟩
/-- a run of pairs is no longer than all pairs -/
theorem run_len {ps : List (Int × Int × Int)} {i : Nat} {f s c : Int} (hp : ∀ t ∈ ps, 1 ≤ t.2.2) (h : ps[i]? = some (f, s, c)) : (exP (ps.take (i + 1))).length ≤ (exP ps).length ∧ c ≤ ((exP ps).length : Int) := by
  have e : exP ps = exP (ps.take (i + 1)) ++ exP (ps.drop (i + 1)) := by rw [← exP_append, List.take_append_drop]
  have e2 : ps.take (i + 1) = ps.take i ++ [(f, s, c)] := by rw [List.take_add_one, h]; rfl
  have hc := hp _ (List.mem_of_getElem? h)
  constructor
  · rw [e, List.length_append]; omega
  · rw [e, e2, exP_snoc, List.length_append, List.length_append, prs_len]
    omega
/-- pairs by their places: the seconds go up -/
theorem snd_up {its : List κ} {i j : Nat} {q r : Int × Int} (hi : (F its).p[i]? = some q) (hj : (F its).p[j]? = some r) (h : i < j) : q.2 < r.2 := by
  have a := List.pairwise_iff_getElem.mp (ok_F its).asc
  have li := (List.getElem?_eq_some_iff.mp hi)
  have lj := (List.getElem?_eq_some_iff.mp hj)
  obtain ⟨li, ei⟩ := li
  obtain ⟨lj, ej⟩ := lj
  have := a i j (by rw [List.length_map]; exact li) (by rw [List.length_map]; exact lj) h
  rw [List.getElem_map, List.getElem_map, ei, ej] at this
  exact this
theorem rev_ne {its : List κ} (h : 2 ≤ (F its).p.length) : (F its).p.reverse ≠ (F its).p := fun e => by
  have h0 : (F its).p[0]? = some (F its).p[0] := List.getElem?_eq_getElem (by omega)
  have h1 : (F its).p[(F its).p.length - 1]? = some (F its).p[(F its).p.length - 1] := List.getElem?_eq_getElem (by omega)
  have up := snd_up h0 h1 (by omega)
  have r0 : (F its).p.reverse[0]? = (F its).p[(F its).p.length - 1 - 0]? := List.getElem?_reverse (by omega)
  rw [e, h0, Nat.sub_zero, h1] at r0
  have := Option.some.inj r0
  rw [this] at up
  omega
end Uk
/-! Where each def of the linked text stands; the facts that the head tells of them. Printed by gen_text.py. -/
namespace Uk
open PySem PySem.Spec PyProof.Rows L2
def top (i : Nat) : Stmt := PySem.Challenge.pw_unlikepairs_k61_whole_pairs_cover_everyt.main.body.getD i (.Pass ⟨0, 0, 0, 0⟩)
abbrev s_is_integer : Stmt := top 12
abbrev s_is_listed : Stmt := top 13
abbrev s_is_kind : Stmt := top 14
abbrev s_is_run : Stmt := top 15
abbrev s_is_sequence : Stmt := top 16
abbrev s_is_state : Stmt := top 17
abbrev s_check_state : Stmt := top 18
abbrev s_check_sequence : Stmt := top 19
abbrev s_checked_runs : Stmt := top 20
abbrev s_length_of : Stmt := top 21
abbrev s_check_position : Stmt := top 22
abbrev s_part_by : Stmt := top 23
abbrev s_kind_at : Stmt := top 24
abbrev s_own_state : Stmt := top 26
abbrev s_checked_state : Stmt := top 27
abbrev s_after_run : Stmt := top 28
abbrev s_after_runs : Stmt := top 29
abbrev s_state_at : Stmt := top 30
abbrev s_q_init : Stmt := inClass (top 31) 0
abbrev s_q_take_front : Stmt := inClass (top 31) 1
abbrev s_q_add_pairs : Stmt := inClass (top 31) 2
abbrev s_q_arrive : Stmt := inClass (top 31) 3
abbrev s_queue_after : Stmt := top 32
abbrev s_ranges_of : Stmt := top 33
abbrev s_waiting_at : Stmt := top 34
abbrev s_pairs_by : Stmt := top 36
abbrev s_number_of : Stmt := top 37
abbrev s_partner_of : Stmt := top 38
abbrev s_pair_count : Stmt := top 39
abbrev s_pairs_of : Stmt := top 40
abbrev s_nth_pair : Stmt := top 41
abbrev s_longest_wait : Stmt := top 42
abbrev s_is_pair : Stmt := top 43
abbrev s_is_pairing : Stmt := top 44
abbrev s_law_stream : Stmt := top 46
abbrev s_law_draw : Stmt := top 47
abbrev s_law_sequence : Stmt := top 48
abbrev s_law_scale : Stmt := top 50
abbrev s_law_length : Stmt := top 51
abbrev s_law_covered : Stmt := top 52
abbrev s_law_pair_holds : Stmt := top 53
abbrev s_law_holds : Stmt := top 54
abbrev s_law : Stmt := top 55
abbrev FnP (K : PySem.W.Frag) (x q : Str) (st : Stmt) (dvs : List V) (f : Addr) (fd : FuncData) : Prop := FunD K x q (defArgs st) (defBody st) (defScope st) dvs [] f fd
def d_is_integer : He.DefD := ⟨("is_integer", none), "is_integer", "is_integer", defArgs s_is_integer, defBody s_is_integer, defScope s_is_integer, [.non], []⟩
def d_is_listed : He.DefD := ⟨("is_listed", none), "is_listed", "is_listed", defArgs s_is_listed, defBody s_is_listed, defScope s_is_listed, [], []⟩
def d_is_kind : He.DefD := ⟨("is_kind", none), "is_kind", "is_kind", defArgs s_is_kind, defBody s_is_kind, defScope s_is_kind, [], []⟩
def d_is_run : He.DefD := ⟨("is_run", none), "is_run", "is_run", defArgs s_is_run, defBody s_is_run, defScope s_is_run, [], []⟩
def d_is_sequence : He.DefD := ⟨("is_sequence", none), "is_sequence", "is_sequence", defArgs s_is_sequence, defBody s_is_sequence, defScope s_is_sequence, [], []⟩
def d_is_state : He.DefD := ⟨("is_state", none), "is_state", "is_state", defArgs s_is_state, defBody s_is_state, defScope s_is_state, [], []⟩
def d_check_state : He.DefD := ⟨("check_state", none), "check_state", "check_state", defArgs s_check_state, defBody s_check_state, defScope s_check_state, [], []⟩
def d_check_sequence : He.DefD := ⟨("check_sequence", none), "check_sequence", "check_sequence", defArgs s_check_sequence, defBody s_check_sequence, defScope s_check_sequence, [], []⟩
def d_checked_runs : He.DefD := ⟨("checked_runs", none), "checked_runs", "checked_runs", defArgs s_checked_runs, defBody s_checked_runs, defScope s_checked_runs, [], []⟩
def d_length_of : He.DefD := ⟨("length_of", none), "length_of", "length_of", defArgs s_length_of, defBody s_length_of, defScope s_length_of, [], []⟩
def d_check_position : He.DefD := ⟨("check_position", none), "check_position", "check_position", defArgs s_check_position, defBody s_check_position, defScope s_check_position, [], []⟩
def d_part_by : He.DefD := ⟨("part_by", none), "part_by", "part_by", defArgs s_part_by, defBody s_part_by, defScope s_part_by, [], []⟩
def d_kind_at : He.DefD := ⟨("kind_at", none), "kind_at", "kind_at", defArgs s_kind_at, defBody s_kind_at, defScope s_kind_at, [], []⟩
def d_own_state : He.DefD := ⟨("own_state", none), "own_state", "own_state", defArgs s_own_state, defBody s_own_state, defScope s_own_state, [], []⟩
def d_checked_state : He.DefD := ⟨("checked_state", none), "checked_state", "checked_state", defArgs s_checked_state, defBody s_checked_state, defScope s_checked_state, [], []⟩
def d_after_run : He.DefD := ⟨("after_run", none), "after_run", "after_run", defArgs s_after_run, defBody s_after_run, defScope s_after_run, [], []⟩
def d_after_runs : He.DefD := ⟨("after_runs", none), "after_runs", "after_runs", defArgs s_after_runs, defBody s_after_runs, defScope s_after_runs, [], []⟩
def d_state_at : He.DefD := ⟨("state_at", none), "state_at", "state_at", defArgs s_state_at, defBody s_state_at, defScope s_state_at, [.non], []⟩
def d_q_init : He.DefD := ⟨("Queue", some "__init__"), "__init__", "Queue.__init__", defArgs s_q_init, defBody s_q_init, defScope s_q_init, [], []⟩
def d_q_take_front : He.DefD := ⟨("Queue", some "take_front"), "take_front", "Queue.take_front", defArgs s_q_take_front, defBody s_q_take_front, defScope s_q_take_front, [], []⟩
def d_q_add_pairs : He.DefD := ⟨("Queue", some "add_pairs"), "add_pairs", "Queue.add_pairs", defArgs s_q_add_pairs, defBody s_q_add_pairs, defScope s_q_add_pairs, [], []⟩
def d_q_arrive : He.DefD := ⟨("Queue", some "arrive"), "arrive", "Queue.arrive", defArgs s_q_arrive, defBody s_q_arrive, defScope s_q_arrive, [], []⟩
def d_queue_after : He.DefD := ⟨("queue_after", none), "queue_after", "queue_after", defArgs s_queue_after, defBody s_queue_after, defScope s_queue_after, [], []⟩
def d_ranges_of : He.DefD := ⟨("ranges_of", none), "ranges_of", "ranges_of", defArgs s_ranges_of, defBody s_ranges_of, defScope s_ranges_of, [], []⟩
def d_waiting_at : He.DefD := ⟨("waiting_at", none), "waiting_at", "waiting_at", defArgs s_waiting_at, defBody s_waiting_at, defScope s_waiting_at, [], []⟩
def d_pairs_by : He.DefD := ⟨("pairs_by", none), "pairs_by", "pairs_by", defArgs s_pairs_by, defBody s_pairs_by, defScope s_pairs_by, [], []⟩
def d_number_of : He.DefD := ⟨("number_of", none), "number_of", "number_of", defArgs s_number_of, defBody s_number_of, defScope s_number_of, [], []⟩
def d_partner_of : He.DefD := ⟨("partner_of", none), "partner_of", "partner_of", defArgs s_partner_of, defBody s_partner_of, defScope s_partner_of, [], []⟩
def d_pair_count : He.DefD := ⟨("pair_count", none), "pair_count", "pair_count", defArgs s_pair_count, defBody s_pair_count, defScope s_pair_count, [.non], []⟩
def d_pairs_of : He.DefD := ⟨("pairs_of", none), "pairs_of", "pairs_of", defArgs s_pairs_of, defBody s_pairs_of, defScope s_pairs_of, [], []⟩
def d_nth_pair : He.DefD := ⟨("nth_pair", none), "nth_pair", "nth_pair", defArgs s_nth_pair, defBody s_nth_pair, defScope s_nth_pair, [], []⟩
def d_longest_wait : He.DefD := ⟨("longest_wait", none), "longest_wait", "longest_wait", defArgs s_longest_wait, defBody s_longest_wait, defScope s_longest_wait, [], []⟩
def d_is_pair : He.DefD := ⟨("is_pair", none), "is_pair", "is_pair", defArgs s_is_pair, defBody s_is_pair, defScope s_is_pair, [], []⟩
def d_is_pairing : He.DefD := ⟨("is_pairing", none), "is_pairing", "is_pairing", defArgs s_is_pairing, defBody s_is_pairing, defScope s_is_pairing, [], []⟩
def d_law_stream : He.DefD := ⟨("_law_stream", none), "_law_stream", "_law_stream", defArgs s_law_stream, defBody s_law_stream, defScope s_law_stream, [], []⟩
def d_law_draw : He.DefD := ⟨("_law_draw", none), "_law_draw", "_law_draw", defArgs s_law_draw, defBody s_law_draw, defScope s_law_draw, [], []⟩
def d_law_sequence : He.DefD := ⟨("_law_sequence", none), "_law_sequence", "_law_sequence", defArgs s_law_sequence, defBody s_law_sequence, defScope s_law_sequence, [], []⟩
def d_law_scale : He.DefD := ⟨("_law_scale", none), "_law_scale", "_law_scale", defArgs s_law_scale, defBody s_law_scale, defScope s_law_scale, [], []⟩
def d_law_length : He.DefD := ⟨("_law_length", none), "_law_length", "_law_length", defArgs s_law_length, defBody s_law_length, defScope s_law_length, [], []⟩
def d_law_covered : He.DefD := ⟨("_law_covered", none), "_law_covered", "_law_covered", defArgs s_law_covered, defBody s_law_covered, defScope s_law_covered, [], []⟩
def d_law_pair_holds : He.DefD := ⟨("_law_pair_holds", none), "_law_pair_holds", "_law_pair_holds", defArgs s_law_pair_holds, defBody s_law_pair_holds, defScope s_law_pair_holds, [], []⟩
def d_law_holds : He.DefD := ⟨("_law_holds", none), "_law_holds", "_law_holds", defArgs s_law_holds, defBody s_law_holds, defScope s_law_holds, [], []⟩
def d_law : He.DefD := ⟨("law", none), "law", "law", defArgs s_law, defBody s_law, defScope s_law, [], []⟩
def fn : List He.DefD := [d_is_integer, d_is_listed, d_is_kind, d_is_run, d_is_sequence, d_is_state, d_check_state, d_check_sequence, d_checked_runs, d_length_of, d_check_position, d_part_by, d_kind_at, d_own_state, d_checked_state, d_after_run, d_after_runs, d_state_at, d_q_init, d_q_take_front, d_q_add_pairs, d_q_arrive, d_queue_after, d_ranges_of, d_waiting_at, d_pairs_by, d_number_of, d_partner_of, d_pair_count, d_pairs_of, d_nth_pair, d_longest_wait, d_is_pair, d_is_pairing, d_law_stream, d_law_draw, d_law_sequence, d_law_scale, d_law_length, d_law_covered, d_law_pair_holds, d_law_holds, d_law]
def fa : List He.Fa := [.glo "is_integer", .glo "is_listed", .glo "is_kind", .glo "is_run", .glo "is_sequence", .glo "is_state", .glo "check_state", .glo "check_sequence", .glo "checked_runs", .glo "length_of", .glo "check_position", .glo "part_by", .glo "kind_at", .glo "own_state", .glo "checked_state", .glo "after_run", .glo "after_runs", .glo "state_at", .glo "queue_after", .glo "ranges_of", .glo "waiting_at", .glo "pairs_by", .glo "number_of", .glo "partner_of", .glo "pair_count", .glo "pairs_of", .glo "nth_pair", .glo "longest_wait", .glo "is_pair", .glo "is_pairing", .glo "_law_stream", .glo "_law_draw", .glo "_law_sequence", .glo "_law_scale", .glo "_law_length", .glo "_law_covered", .glo "_law_pair_holds", .glo "_law_holds", .glo "law", .glo "Queue", .free "isinstance", .free "int", .free "bool", .free "str", .free "list", .free "tuple", .free "len", .free "all", .free "sum", .free "max", .free "min", .free "zip", .free "range", .free "sorted", .free "abs", .free "enumerate", .int "MAX_LETTERS" 8, .int "MAX_RUNS" 400, .int "MAX_COUNT" 1000000000000000000000000000000, .int "MAX_ITEMS" 400, .str "LETTERS" "abcdefghijklmnopqrstuvwxyz", .cls "Queue", .noat "Queue" "kind", .noat "Queue" "blocks", .noat "Queue" "pairs", .noat "Queue" "arrived", .meth "Queue" "take_front", .meth "Queue" "add_pairs", .meth "Queue" "arrive", .mkr "Queue"]
/-- what the head tells, with the module's names -/
structure Tx (K : PySem.W.Frag) (mg : Str → Option Value) : Prop where
  says : He.SaysD fa fn K
  ns : ∃ h : Heap, K.In h ∧ h.Ns mainGlobals mg
variable {K : PySem.W.Frag} {mg : Str → Option Value}
theorem Tx.g_is_integer (T : Tx K mg) : mg "is_integer" = some (.ref (He.ga K "is_integer")) := by
  obtain ⟨h, X, G⟩ := T.ns
  exact He.glo_ok X G (T.says.fact 0 (f := .glo "is_integer") rfl)
theorem Tx.g_is_listed (T : Tx K mg) : mg "is_listed" = some (.ref (He.ga K "is_listed")) := by
  obtain ⟨h, X, G⟩ := T.ns
  exact He.glo_ok X G (T.says.fact 1 (f := .glo "is_listed") rfl)
theorem Tx.g_is_kind (T : Tx K mg) : mg "is_kind" = some (.ref (He.ga K "is_kind")) := by
  obtain ⟨h, X, G⟩ := T.ns
  exact He.glo_ok X G (T.says.fact 2 (f := .glo "is_kind") rfl)
theorem Tx.g_is_run (T : Tx K mg) : mg "is_run" = some (.ref (He.ga K "is_run")) := by
  obtain ⟨h, X, G⟩ := T.ns
  exact He.glo_ok X G (T.says.fact 3 (f := .glo "is_run") rfl)
theorem Tx.g_is_sequence (T : Tx K mg) : mg "is_sequence" = some (.ref (He.ga K "is_sequence")) := by
  obtain ⟨h, X, G⟩ := T.ns
  exact He.glo_ok X G (T.says.fact 4 (f := .glo "is_sequence") rfl)
theorem Tx.g_is_state (T : Tx K mg) : mg "is_state" = some (.ref (He.ga K "is_state")) := by
  obtain ⟨h, X, G⟩ := T.ns
  exact He.glo_ok X G (T.says.fact 5 (f := .glo "is_state") rfl)
theorem Tx.g_check_state (T : Tx K mg) : mg "check_state" = some (.ref (He.ga K "check_state")) := by
  obtain ⟨h, X, G⟩ := T.ns
  exact He.glo_ok X G (T.says.fact 6 (f := .glo "check_state") rfl)
theorem Tx.g_check_sequence (T : Tx K mg) : mg "check_sequence" = some (.ref (He.ga K "check_sequence")) := by
  obtain ⟨h, X, G⟩ := T.ns
  exact He.glo_ok X G (T.says.fact 7 (f := .glo "check_sequence") rfl)
theorem Tx.g_checked_runs (T : Tx K mg) : mg "checked_runs" = some (.ref (He.ga K "checked_runs")) := by
  obtain ⟨h, X, G⟩ := T.ns
  exact He.glo_ok X G (T.says.fact 8 (f := .glo "checked_runs") rfl)
theorem Tx.g_length_of (T : Tx K mg) : mg "length_of" = some (.ref (He.ga K "length_of")) := by
  obtain ⟨h, X, G⟩ := T.ns
  exact He.glo_ok X G (T.says.fact 9 (f := .glo "length_of") rfl)
theorem Tx.g_check_position (T : Tx K mg) : mg "check_position" = some (.ref (He.ga K "check_position")) := by
  obtain ⟨h, X, G⟩ := T.ns
  exact He.glo_ok X G (T.says.fact 10 (f := .glo "check_position") rfl)
theorem Tx.g_part_by (T : Tx K mg) : mg "part_by" = some (.ref (He.ga K "part_by")) := by
  obtain ⟨h, X, G⟩ := T.ns
  exact He.glo_ok X G (T.says.fact 11 (f := .glo "part_by") rfl)
theorem Tx.g_kind_at (T : Tx K mg) : mg "kind_at" = some (.ref (He.ga K "kind_at")) := by
  obtain ⟨h, X, G⟩ := T.ns
  exact He.glo_ok X G (T.says.fact 12 (f := .glo "kind_at") rfl)
theorem Tx.g_own_state (T : Tx K mg) : mg "own_state" = some (.ref (He.ga K "own_state")) := by
  obtain ⟨h, X, G⟩ := T.ns
  exact He.glo_ok X G (T.says.fact 13 (f := .glo "own_state") rfl)
theorem Tx.g_checked_state (T : Tx K mg) : mg "checked_state" = some (.ref (He.ga K "checked_state")) := by
  obtain ⟨h, X, G⟩ := T.ns
  exact He.glo_ok X G (T.says.fact 14 (f := .glo "checked_state") rfl)
theorem Tx.g_after_run (T : Tx K mg) : mg "after_run" = some (.ref (He.ga K "after_run")) := by
  obtain ⟨h, X, G⟩ := T.ns
  exact He.glo_ok X G (T.says.fact 15 (f := .glo "after_run") rfl)
theorem Tx.g_after_runs (T : Tx K mg) : mg "after_runs" = some (.ref (He.ga K "after_runs")) := by
  obtain ⟨h, X, G⟩ := T.ns
  exact He.glo_ok X G (T.says.fact 16 (f := .glo "after_runs") rfl)
theorem Tx.g_state_at (T : Tx K mg) : mg "state_at" = some (.ref (He.ga K "state_at")) := by
  obtain ⟨h, X, G⟩ := T.ns
  exact He.glo_ok X G (T.says.fact 17 (f := .glo "state_at") rfl)
theorem Tx.g_queue_after (T : Tx K mg) : mg "queue_after" = some (.ref (He.ga K "queue_after")) := by
  obtain ⟨h, X, G⟩ := T.ns
  exact He.glo_ok X G (T.says.fact 18 (f := .glo "queue_after") rfl)
theorem Tx.g_ranges_of (T : Tx K mg) : mg "ranges_of" = some (.ref (He.ga K "ranges_of")) := by
  obtain ⟨h, X, G⟩ := T.ns
  exact He.glo_ok X G (T.says.fact 19 (f := .glo "ranges_of") rfl)
theorem Tx.g_waiting_at (T : Tx K mg) : mg "waiting_at" = some (.ref (He.ga K "waiting_at")) := by
  obtain ⟨h, X, G⟩ := T.ns
  exact He.glo_ok X G (T.says.fact 20 (f := .glo "waiting_at") rfl)
theorem Tx.g_pairs_by (T : Tx K mg) : mg "pairs_by" = some (.ref (He.ga K "pairs_by")) := by
  obtain ⟨h, X, G⟩ := T.ns
  exact He.glo_ok X G (T.says.fact 21 (f := .glo "pairs_by") rfl)
theorem Tx.g_number_of (T : Tx K mg) : mg "number_of" = some (.ref (He.ga K "number_of")) := by
  obtain ⟨h, X, G⟩ := T.ns
  exact He.glo_ok X G (T.says.fact 22 (f := .glo "number_of") rfl)
theorem Tx.g_partner_of (T : Tx K mg) : mg "partner_of" = some (.ref (He.ga K "partner_of")) := by
  obtain ⟨h, X, G⟩ := T.ns
  exact He.glo_ok X G (T.says.fact 23 (f := .glo "partner_of") rfl)
theorem Tx.g_pair_count (T : Tx K mg) : mg "pair_count" = some (.ref (He.ga K "pair_count")) := by
  obtain ⟨h, X, G⟩ := T.ns
  exact He.glo_ok X G (T.says.fact 24 (f := .glo "pair_count") rfl)
theorem Tx.g_pairs_of (T : Tx K mg) : mg "pairs_of" = some (.ref (He.ga K "pairs_of")) := by
  obtain ⟨h, X, G⟩ := T.ns
  exact He.glo_ok X G (T.says.fact 25 (f := .glo "pairs_of") rfl)
theorem Tx.g_nth_pair (T : Tx K mg) : mg "nth_pair" = some (.ref (He.ga K "nth_pair")) := by
  obtain ⟨h, X, G⟩ := T.ns
  exact He.glo_ok X G (T.says.fact 26 (f := .glo "nth_pair") rfl)
theorem Tx.g_longest_wait (T : Tx K mg) : mg "longest_wait" = some (.ref (He.ga K "longest_wait")) := by
  obtain ⟨h, X, G⟩ := T.ns
  exact He.glo_ok X G (T.says.fact 27 (f := .glo "longest_wait") rfl)
theorem Tx.g_is_pair (T : Tx K mg) : mg "is_pair" = some (.ref (He.ga K "is_pair")) := by
  obtain ⟨h, X, G⟩ := T.ns
  exact He.glo_ok X G (T.says.fact 28 (f := .glo "is_pair") rfl)
theorem Tx.g_is_pairing (T : Tx K mg) : mg "is_pairing" = some (.ref (He.ga K "is_pairing")) := by
  obtain ⟨h, X, G⟩ := T.ns
  exact He.glo_ok X G (T.says.fact 29 (f := .glo "is_pairing") rfl)
theorem Tx.g_law_stream (T : Tx K mg) : mg "_law_stream" = some (.ref (He.ga K "_law_stream")) := by
  obtain ⟨h, X, G⟩ := T.ns
  exact He.glo_ok X G (T.says.fact 30 (f := .glo "_law_stream") rfl)
theorem Tx.g_law_draw (T : Tx K mg) : mg "_law_draw" = some (.ref (He.ga K "_law_draw")) := by
  obtain ⟨h, X, G⟩ := T.ns
  exact He.glo_ok X G (T.says.fact 31 (f := .glo "_law_draw") rfl)
theorem Tx.g_law_sequence (T : Tx K mg) : mg "_law_sequence" = some (.ref (He.ga K "_law_sequence")) := by
  obtain ⟨h, X, G⟩ := T.ns
  exact He.glo_ok X G (T.says.fact 32 (f := .glo "_law_sequence") rfl)
theorem Tx.g_law_scale (T : Tx K mg) : mg "_law_scale" = some (.ref (He.ga K "_law_scale")) := by
  obtain ⟨h, X, G⟩ := T.ns
  exact He.glo_ok X G (T.says.fact 33 (f := .glo "_law_scale") rfl)
theorem Tx.g_law_length (T : Tx K mg) : mg "_law_length" = some (.ref (He.ga K "_law_length")) := by
  obtain ⟨h, X, G⟩ := T.ns
  exact He.glo_ok X G (T.says.fact 34 (f := .glo "_law_length") rfl)
theorem Tx.g_law_covered (T : Tx K mg) : mg "_law_covered" = some (.ref (He.ga K "_law_covered")) := by
  obtain ⟨h, X, G⟩ := T.ns
  exact He.glo_ok X G (T.says.fact 35 (f := .glo "_law_covered") rfl)
theorem Tx.g_law_pair_holds (T : Tx K mg) : mg "_law_pair_holds" = some (.ref (He.ga K "_law_pair_holds")) := by
  obtain ⟨h, X, G⟩ := T.ns
  exact He.glo_ok X G (T.says.fact 36 (f := .glo "_law_pair_holds") rfl)
theorem Tx.g_law_holds (T : Tx K mg) : mg "_law_holds" = some (.ref (He.ga K "_law_holds")) := by
  obtain ⟨h, X, G⟩ := T.ns
  exact He.glo_ok X G (T.says.fact 37 (f := .glo "_law_holds") rfl)
theorem Tx.g_law (T : Tx K mg) : mg "law" = some (.ref (He.ga K "law")) := by
  obtain ⟨h, X, G⟩ := T.ns
  exact He.glo_ok X G (T.says.fact 38 (f := .glo "law") rfl)
theorem Tx.g_Queue (T : Tx K mg) : mg "Queue" = some (.ref (He.ga K "Queue")) := by
  obtain ⟨h, X, G⟩ := T.ns
  exact He.glo_ok X G (T.says.fact 39 (f := .glo "Queue") rfl)
theorem Tx.m_isinstance (T : Tx K mg) : mg "isinstance" = none := by
  obtain ⟨h, X, G⟩ := T.ns
  exact He.free_ok X G (T.says.fact 40 (f := .free "isinstance") rfl)
theorem Tx.m_int (T : Tx K mg) : mg "int" = none := by
  obtain ⟨h, X, G⟩ := T.ns
  exact He.free_ok X G (T.says.fact 41 (f := .free "int") rfl)
theorem Tx.m_bool (T : Tx K mg) : mg "bool" = none := by
  obtain ⟨h, X, G⟩ := T.ns
  exact He.free_ok X G (T.says.fact 42 (f := .free "bool") rfl)
theorem Tx.m_str (T : Tx K mg) : mg "str" = none := by
  obtain ⟨h, X, G⟩ := T.ns
  exact He.free_ok X G (T.says.fact 43 (f := .free "str") rfl)
theorem Tx.m_list (T : Tx K mg) : mg "list" = none := by
  obtain ⟨h, X, G⟩ := T.ns
  exact He.free_ok X G (T.says.fact 44 (f := .free "list") rfl)
theorem Tx.m_tuple (T : Tx K mg) : mg "tuple" = none := by
  obtain ⟨h, X, G⟩ := T.ns
  exact He.free_ok X G (T.says.fact 45 (f := .free "tuple") rfl)
theorem Tx.m_len (T : Tx K mg) : mg "len" = none := by
  obtain ⟨h, X, G⟩ := T.ns
  exact He.free_ok X G (T.says.fact 46 (f := .free "len") rfl)
theorem Tx.m_all (T : Tx K mg) : mg "all" = none := by
  obtain ⟨h, X, G⟩ := T.ns
  exact He.free_ok X G (T.says.fact 47 (f := .free "all") rfl)
theorem Tx.m_sum (T : Tx K mg) : mg "sum" = none := by
  obtain ⟨h, X, G⟩ := T.ns
  exact He.free_ok X G (T.says.fact 48 (f := .free "sum") rfl)
theorem Tx.m_max (T : Tx K mg) : mg "max" = none := by
  obtain ⟨h, X, G⟩ := T.ns
  exact He.free_ok X G (T.says.fact 49 (f := .free "max") rfl)
theorem Tx.m_min (T : Tx K mg) : mg "min" = none := by
  obtain ⟨h, X, G⟩ := T.ns
  exact He.free_ok X G (T.says.fact 50 (f := .free "min") rfl)
theorem Tx.m_zip (T : Tx K mg) : mg "zip" = none := by
  obtain ⟨h, X, G⟩ := T.ns
  exact He.free_ok X G (T.says.fact 51 (f := .free "zip") rfl)
theorem Tx.m_range (T : Tx K mg) : mg "range" = none := by
  obtain ⟨h, X, G⟩ := T.ns
  exact He.free_ok X G (T.says.fact 52 (f := .free "range") rfl)
theorem Tx.m_sorted (T : Tx K mg) : mg "sorted" = none := by
  obtain ⟨h, X, G⟩ := T.ns
  exact He.free_ok X G (T.says.fact 53 (f := .free "sorted") rfl)
theorem Tx.m_abs (T : Tx K mg) : mg "abs" = none := by
  obtain ⟨h, X, G⟩ := T.ns
  exact He.free_ok X G (T.says.fact 54 (f := .free "abs") rfl)
theorem Tx.m_enumerate (T : Tx K mg) : mg "enumerate" = none := by
  obtain ⟨h, X, G⟩ := T.ns
  exact He.free_ok X G (T.says.fact 55 (f := .free "enumerate") rfl)
theorem Tx.c_MAX_LETTERS (T : Tx K mg) : ∃ t, mg "MAX_LETTERS" = some (.int 8 t) := by
  obtain ⟨h, X, G⟩ := T.ns
  exact He.int_ok X G (T.says.fact 56 (f := .int "MAX_LETTERS" 8) rfl)
theorem Tx.c_MAX_RUNS (T : Tx K mg) : ∃ t, mg "MAX_RUNS" = some (.int 400 t) := by
  obtain ⟨h, X, G⟩ := T.ns
  exact He.int_ok X G (T.says.fact 57 (f := .int "MAX_RUNS" 400) rfl)
theorem Tx.c_MAX_COUNT (T : Tx K mg) : ∃ t, mg "MAX_COUNT" = some (.int 1000000000000000000000000000000 t) := by
  obtain ⟨h, X, G⟩ := T.ns
  exact He.int_ok X G (T.says.fact 58 (f := .int "MAX_COUNT" 1000000000000000000000000000000) rfl)
theorem Tx.c_MAX_ITEMS (T : Tx K mg) : ∃ t, mg "MAX_ITEMS" = some (.int 400 t) := by
  obtain ⟨h, X, G⟩ := T.ns
  exact He.int_ok X G (T.says.fact 59 (f := .int "MAX_ITEMS" 400) rfl)
theorem Tx.c_LETTERS (T : Tx K mg) : ∃ t, mg "LETTERS" = some (.str "abcdefghijklmnopqrstuvwxyz" t) := by
  obtain ⟨h, X, G⟩ := T.ns
  exact He.str_ok X G (T.says.fact 60 (f := .str "LETTERS" "abcdefghijklmnopqrstuvwxyz") rfl)
theorem Tx.q_cls (T : Tx K mg) : Cls K (He.ga K "Queue") := He.cls_ok (T.says.fact 61 (f := .cls "Queue") rfl)
theorem Tx.q_no_kind (T : Tx K mg) : NoAttr K (He.ga K "Queue") "kind" := He.noat_ok (T.says.fact 62 (f := .noat "Queue" "kind") rfl)
theorem Tx.q_no_blocks (T : Tx K mg) : NoAttr K (He.ga K "Queue") "blocks" := He.noat_ok (T.says.fact 63 (f := .noat "Queue" "blocks") rfl)
theorem Tx.q_no_pairs (T : Tx K mg) : NoAttr K (He.ga K "Queue") "pairs" := He.noat_ok (T.says.fact 64 (f := .noat "Queue" "pairs") rfl)
theorem Tx.q_no_arrived (T : Tx K mg) : NoAttr K (He.ga K "Queue") "arrived" := He.noat_ok (T.says.fact 65 (f := .noat "Queue" "arrived") rfl)
theorem Tx.q_m_take_front (T : Tx K mg) : Meth K (He.ga K "Queue") "take_front" (He.ma K (He.ga K "Queue") "take_front") := He.meth_ok (T.says.fact 66 (f := .meth "Queue" "take_front") rfl)
theorem Tx.q_m_add_pairs (T : Tx K mg) : Meth K (He.ga K "Queue") "add_pairs" (He.ma K (He.ga K "Queue") "add_pairs") := He.meth_ok (T.says.fact 67 (f := .meth "Queue" "add_pairs") rfl)
theorem Tx.q_m_arrive (T : Tx K mg) : Meth K (He.ga K "Queue") "arrive" (He.ma K (He.ga K "Queue") "arrive") := He.meth_ok (T.says.fact 68 (f := .meth "Queue" "arrive") rfl)
theorem Tx.q_mk (T : Tx K mg) : Mk K (He.ga K "Queue") (He.ma K (He.ga K "Queue") "__init__") := He.mkr_ok (T.says.fact 69 (f := .mkr "Queue") rfl)
theorem Tx.f_is_integer (T : Tx K mg) : ∃ fd, FnP K "is_integer" "is_integer" s_is_integer [.non] (He.fAd K ("is_integer", none)) fd := T.says.def_ 0 (d := d_is_integer) rfl
theorem Tx.f_is_listed (T : Tx K mg) : ∃ fd, FnP K "is_listed" "is_listed" s_is_listed [] (He.fAd K ("is_listed", none)) fd := T.says.def_ 1 (d := d_is_listed) rfl
theorem Tx.f_is_kind (T : Tx K mg) : ∃ fd, FnP K "is_kind" "is_kind" s_is_kind [] (He.fAd K ("is_kind", none)) fd := T.says.def_ 2 (d := d_is_kind) rfl
theorem Tx.f_is_run (T : Tx K mg) : ∃ fd, FnP K "is_run" "is_run" s_is_run [] (He.fAd K ("is_run", none)) fd := T.says.def_ 3 (d := d_is_run) rfl
theorem Tx.f_is_sequence (T : Tx K mg) : ∃ fd, FnP K "is_sequence" "is_sequence" s_is_sequence [] (He.fAd K ("is_sequence", none)) fd := T.says.def_ 4 (d := d_is_sequence) rfl
theorem Tx.f_is_state (T : Tx K mg) : ∃ fd, FnP K "is_state" "is_state" s_is_state [] (He.fAd K ("is_state", none)) fd := T.says.def_ 5 (d := d_is_state) rfl
theorem Tx.f_check_state (T : Tx K mg) : ∃ fd, FnP K "check_state" "check_state" s_check_state [] (He.fAd K ("check_state", none)) fd := T.says.def_ 6 (d := d_check_state) rfl
theorem Tx.f_check_sequence (T : Tx K mg) : ∃ fd, FnP K "check_sequence" "check_sequence" s_check_sequence [] (He.fAd K ("check_sequence", none)) fd := T.says.def_ 7 (d := d_check_sequence) rfl
theorem Tx.f_checked_runs (T : Tx K mg) : ∃ fd, FnP K "checked_runs" "checked_runs" s_checked_runs [] (He.fAd K ("checked_runs", none)) fd := T.says.def_ 8 (d := d_checked_runs) rfl
theorem Tx.f_length_of (T : Tx K mg) : ∃ fd, FnP K "length_of" "length_of" s_length_of [] (He.fAd K ("length_of", none)) fd := T.says.def_ 9 (d := d_length_of) rfl
theorem Tx.f_check_position (T : Tx K mg) : ∃ fd, FnP K "check_position" "check_position" s_check_position [] (He.fAd K ("check_position", none)) fd := T.says.def_ 10 (d := d_check_position) rfl
theorem Tx.f_part_by (T : Tx K mg) : ∃ fd, FnP K "part_by" "part_by" s_part_by [] (He.fAd K ("part_by", none)) fd := T.says.def_ 11 (d := d_part_by) rfl
theorem Tx.f_kind_at (T : Tx K mg) : ∃ fd, FnP K "kind_at" "kind_at" s_kind_at [] (He.fAd K ("kind_at", none)) fd := T.says.def_ 12 (d := d_kind_at) rfl
theorem Tx.f_own_state (T : Tx K mg) : ∃ fd, FnP K "own_state" "own_state" s_own_state [] (He.fAd K ("own_state", none)) fd := T.says.def_ 13 (d := d_own_state) rfl
theorem Tx.f_checked_state (T : Tx K mg) : ∃ fd, FnP K "checked_state" "checked_state" s_checked_state [] (He.fAd K ("checked_state", none)) fd := T.says.def_ 14 (d := d_checked_state) rfl
theorem Tx.f_after_run (T : Tx K mg) : ∃ fd, FnP K "after_run" "after_run" s_after_run [] (He.fAd K ("after_run", none)) fd := T.says.def_ 15 (d := d_after_run) rfl
theorem Tx.f_after_runs (T : Tx K mg) : ∃ fd, FnP K "after_runs" "after_runs" s_after_runs [] (He.fAd K ("after_runs", none)) fd := T.says.def_ 16 (d := d_after_runs) rfl
theorem Tx.f_state_at (T : Tx K mg) : ∃ fd, FnP K "state_at" "state_at" s_state_at [.non] (He.fAd K ("state_at", none)) fd := T.says.def_ 17 (d := d_state_at) rfl
theorem Tx.f_q_init (T : Tx K mg) : ∃ fd, FnP K "__init__" "Queue.__init__" s_q_init [] (He.fAd K ("Queue", some "__init__")) fd := T.says.def_ 18 (d := d_q_init) rfl
theorem Tx.f_q_take_front (T : Tx K mg) : ∃ fd, FnP K "take_front" "Queue.take_front" s_q_take_front [] (He.fAd K ("Queue", some "take_front")) fd := T.says.def_ 19 (d := d_q_take_front) rfl
theorem Tx.f_q_add_pairs (T : Tx K mg) : ∃ fd, FnP K "add_pairs" "Queue.add_pairs" s_q_add_pairs [] (He.fAd K ("Queue", some "add_pairs")) fd := T.says.def_ 20 (d := d_q_add_pairs) rfl
theorem Tx.f_q_arrive (T : Tx K mg) : ∃ fd, FnP K "arrive" "Queue.arrive" s_q_arrive [] (He.fAd K ("Queue", some "arrive")) fd := T.says.def_ 21 (d := d_q_arrive) rfl
theorem Tx.f_queue_after (T : Tx K mg) : ∃ fd, FnP K "queue_after" "queue_after" s_queue_after [] (He.fAd K ("queue_after", none)) fd := T.says.def_ 22 (d := d_queue_after) rfl
theorem Tx.f_ranges_of (T : Tx K mg) : ∃ fd, FnP K "ranges_of" "ranges_of" s_ranges_of [] (He.fAd K ("ranges_of", none)) fd := T.says.def_ 23 (d := d_ranges_of) rfl
theorem Tx.f_waiting_at (T : Tx K mg) : ∃ fd, FnP K "waiting_at" "waiting_at" s_waiting_at [] (He.fAd K ("waiting_at", none)) fd := T.says.def_ 24 (d := d_waiting_at) rfl
theorem Tx.f_pairs_by (T : Tx K mg) : ∃ fd, FnP K "pairs_by" "pairs_by" s_pairs_by [] (He.fAd K ("pairs_by", none)) fd := T.says.def_ 25 (d := d_pairs_by) rfl
theorem Tx.f_number_of (T : Tx K mg) : ∃ fd, FnP K "number_of" "number_of" s_number_of [] (He.fAd K ("number_of", none)) fd := T.says.def_ 26 (d := d_number_of) rfl
theorem Tx.f_partner_of (T : Tx K mg) : ∃ fd, FnP K "partner_of" "partner_of" s_partner_of [] (He.fAd K ("partner_of", none)) fd := T.says.def_ 27 (d := d_partner_of) rfl
theorem Tx.f_pair_count (T : Tx K mg) : ∃ fd, FnP K "pair_count" "pair_count" s_pair_count [.non] (He.fAd K ("pair_count", none)) fd := T.says.def_ 28 (d := d_pair_count) rfl
theorem Tx.f_pairs_of (T : Tx K mg) : ∃ fd, FnP K "pairs_of" "pairs_of" s_pairs_of [] (He.fAd K ("pairs_of", none)) fd := T.says.def_ 29 (d := d_pairs_of) rfl
theorem Tx.f_nth_pair (T : Tx K mg) : ∃ fd, FnP K "nth_pair" "nth_pair" s_nth_pair [] (He.fAd K ("nth_pair", none)) fd := T.says.def_ 30 (d := d_nth_pair) rfl
theorem Tx.f_longest_wait (T : Tx K mg) : ∃ fd, FnP K "longest_wait" "longest_wait" s_longest_wait [] (He.fAd K ("longest_wait", none)) fd := T.says.def_ 31 (d := d_longest_wait) rfl
theorem Tx.f_is_pair (T : Tx K mg) : ∃ fd, FnP K "is_pair" "is_pair" s_is_pair [] (He.fAd K ("is_pair", none)) fd := T.says.def_ 32 (d := d_is_pair) rfl
theorem Tx.f_is_pairing (T : Tx K mg) : ∃ fd, FnP K "is_pairing" "is_pairing" s_is_pairing [] (He.fAd K ("is_pairing", none)) fd := T.says.def_ 33 (d := d_is_pairing) rfl
theorem Tx.f_law_stream (T : Tx K mg) : ∃ fd, FnP K "_law_stream" "_law_stream" s_law_stream [] (He.fAd K ("_law_stream", none)) fd := T.says.def_ 34 (d := d_law_stream) rfl
theorem Tx.f_law_draw (T : Tx K mg) : ∃ fd, FnP K "_law_draw" "_law_draw" s_law_draw [] (He.fAd K ("_law_draw", none)) fd := T.says.def_ 35 (d := d_law_draw) rfl
theorem Tx.f_law_sequence (T : Tx K mg) : ∃ fd, FnP K "_law_sequence" "_law_sequence" s_law_sequence [] (He.fAd K ("_law_sequence", none)) fd := T.says.def_ 36 (d := d_law_sequence) rfl
theorem Tx.f_law_scale (T : Tx K mg) : ∃ fd, FnP K "_law_scale" "_law_scale" s_law_scale [] (He.fAd K ("_law_scale", none)) fd := T.says.def_ 37 (d := d_law_scale) rfl
theorem Tx.f_law_length (T : Tx K mg) : ∃ fd, FnP K "_law_length" "_law_length" s_law_length [] (He.fAd K ("_law_length", none)) fd := T.says.def_ 38 (d := d_law_length) rfl
theorem Tx.f_law_covered (T : Tx K mg) : ∃ fd, FnP K "_law_covered" "_law_covered" s_law_covered [] (He.fAd K ("_law_covered", none)) fd := T.says.def_ 39 (d := d_law_covered) rfl
theorem Tx.f_law_pair_holds (T : Tx K mg) : ∃ fd, FnP K "_law_pair_holds" "_law_pair_holds" s_law_pair_holds [] (He.fAd K ("_law_pair_holds", none)) fd := T.says.def_ 40 (d := d_law_pair_holds) rfl
theorem Tx.f_law_holds (T : Tx K mg) : ∃ fd, FnP K "_law_holds" "_law_holds" s_law_holds [] (He.fAd K ("_law_holds", none)) fd := T.says.def_ 41 (d := d_law_holds) rfl
theorem Tx.f_law (T : Tx K mg) : ∃ fd, FnP K "law" "law" s_law [] (He.fAd K ("law", none)) fd := T.says.def_ 42 (d := d_law) rfl
end Uk
/-! What all walks share: a def packed with its binding, lists of tuples, comprehensions over lists. -/
namespace Uk
open PySem PySem.Spec PyProof.Rows L2

section
variable {P : Program} {w : World} {K : PySem.W.Frag} {mg : Str → Option Value} {base : Heap}
theorem ok0 {x qual : Str} {st : Stmt} {dvs : List V} {f : Addr} {fd : FuncData} {N ps : List Str} {k : Nat} {sp : Sp} (F : FnP K x qual st dvs f fd) (S : FnScope N ps (defScope st)) (len : ∀ vs H Q E, sp vs H Q E → vs.length = ps.length)
    (hbody : ∀ (cdv : Value) (A : Around) (outer : List Env) (s : Shared) (H : Hp) (vs : List V) (Q : VK) (E : XK), Room k (A.deeper (envOfC qual (defScope st) s.heap.objs.size f cdv)) → sp vs H Q E →
      ∃ t, PSs (cxOf CX0 P w K mg base N qual (defScope st) f cdv A outer s H E).nox (defBody st) t ∧ t { nx := fun _ H' => Q .non H', rt := Q } (start N vs) H) : FnOk P w K mg base CX0 (k + 1) f fd ps sp :=
  F.ok S len fun cdv A outer s H vs Q E hr h => by
    obtain ⟨t, p, q⟩ := hbody cdv A outer s H vs Q E hr h
    exact ⟨t, p.nox, q⟩

/-- a def of the module, called with all its arguments -/
structure Dn (P : Program) (w : World) (K : PySem.W.Frag) (mg : Str → Option Value) (base : Heap) (k : Nat) (x : Str) (ps : List Str) (sp : Sp) : Prop where
  ex : ∃ fd, FnOk P w K mg base CX0 k (He.ga K x) fd ps sp ∧ Binds K fd ps []
  kp : PySem.W.keepIn K (.ref (He.ga K x)) = true
  g : mg x = some (.ref (He.ga K x))
/-- a def whose last parameter is None if it isn't given -/
structure Dd (P : Program) (w : World) (K : PySem.W.Frag) (mg : Str → Option Value) (base : Heap) (k : Nat) (x : Str) (ps : List Str) (sp : Sp) : Prop where
  ex : ∃ fd, FnOk P w K mg base CX0 k (He.ga K x) fd ps sp ∧ Binds K fd ps [] ∧ ∃ ds, Vals [.non] ds ∧ Binds K fd ps ds
  kp : PySem.W.keepIn K (.ref (He.ga K x)) = true
  g : mg x = some (.ref (He.ga K x))
theorem Dd.n {k : Nat} {x : Str} {ps : List Str} {sp : Sp} (D : Dd P w K mg base k x ps sp) : Dn P w K mg base k x ps sp := by
  obtain ⟨fd, F, b, _⟩ := D.ex
  exact ⟨⟨fd, F, b⟩, D.kp, D.g⟩
/-- a method of Queue -/
structure Dm (P : Program) (w : World) (K : PySem.W.Frag) (mg : Str → Option Value) (base : Heap) (k : Nat) (m : Str) (ps : List Str) (sp : Sp) : Prop where
  ex : ∃ fd, FnOk P w K mg base CX0 k (He.ma K (He.ga K "Queue") m) fd ps sp ∧ Binds K fd ps []
end

section
variable {X : Cx} {k : Nat} {x m : Str} {ps : List Str} {sp : Sp} {e o : Expr} {es : List Expr} {p pos apos : Pos} {t : TA} {ta : TE}
theorem pe_dn (D : Dn X.prog X.w X.K X.mg X.base k x ps sp) (hr : Room k X.A) (hg : Gl X x) (ha : PA X (e :: es) t) (hdb : (x == ("__debug__" : Str)) = false := by decide)
    (he : starEach (e :: es) X.env = (false, eval e X.env) :: starEach es X.env := by rfl) (hpl : (backTo pos (starEach es X.env)).any (·.1) = false := by rfl) : PE X (.Call (.Name x p) (e :: es) [] pos) (tCall sp [] E0 t) := by
  obtain ⟨fd, F, b⟩ := D.ex
  exact pe_call F hr hg D.g D.kp b .nil pass0 ha hdb he hpl
theorem pe_dd (D : Dd X.prog X.w X.K X.mg X.base k x ps sp) (hr : Room k X.A) (hg : Gl X x) (ha : PA X (e :: es) t) (hdb : (x == ("__debug__" : Str)) = false := by decide)
    (he : starEach (e :: es) X.env = (false, eval e X.env) :: starEach es X.env := by rfl) (hpl : (backTo pos (starEach es X.env)).any (·.1) = false := by rfl) : PE X (.Call (.Name x p) (e :: es) [] pos) (tCall sp [.non] E0 t) := by
  obtain ⟨fd, F, _, ds, v, b⟩ := D.ex
  exact pe_call F hr hg D.g D.kp b v pass0 ha hdb he hpl
theorem pe_dm {pl : Sem Bool} (c : Cls X.K (He.ga X.K "Queue")) (hm : Meth X.K (He.ga X.K "Queue") m (He.ma X.K (He.ga X.K "Queue") m)) (D : Dm X.prog X.w X.K X.mg X.base k m ps sp) (hr : Room k X.A) (he : PE X o ta) (ha : PA X (e :: es) t)
    (hst : starEach (e :: es) X.env = (false, eval e X.env) :: starEach es X.env := by rfl) (hpl : (backTo pos (starEach es X.env)).any (·.1) = false := by rfl)
    (ht : eval (.Call (.Attribute o m apos) (e :: es) [] pos) X.env = (do
      let ov ← eval o X.env
      standAt apos.atName
      let (f, first) ← holding [ov] (getMethod ov m pl)
      callWith pos f first (backTo pos (starEach (e :: es) X.env)) (backToKw pos (keywordEach [] X.env))) := by rfl) :
    PE X (.Call (.Attribute o m apos) (e :: es) [] pos) (tMeth (He.ga X.K "Queue") m sp [] E0 ta t) := by
  obtain ⟨fd, F, b⟩ := D.ex
  exact pe_meth (pl := pl) he c hm F hr b .nil pass0 ha hst hpl ht
theorem pe_dmk (M : Mk X.K (He.ga X.K "Queue") (He.ma X.K (He.ga X.K "Queue") "__init__")) (D : Dm X.prog X.w X.K X.mg X.base k "__init__" ps sp) (hr : Room (k + 1) X.A) (hg : Gl X "Queue") (hm : X.mg "Queue" = some (.ref (He.ga X.K "Queue"))) :
    PE X (.Call (.Name "Queue" p) [] [] pos) (tMake (He.ga X.K "Queue") sp [] E0 tNil) := by
  obtain ⟨fd, F, b⟩ := D.ex
  exact pe_make0 M F hr hg hm b .nil pass0
end

/-! ### tuple(..), list(..) by name -/
def rTupOf (K : PySem.W.Frag) : List V → Hp → VK → Prop := fun xs H Q => ∃ p ys, xs = [.ref p] ∧ ((SqL K H p ys ∧ ∀ l, H l = none → Q (.ref l) (upd H l (.tup ys))) ∨ (SqT K H p ys ∧ Q (.ref p) H))
def rListOf (K : PySem.W.Frag) : List V → Hp → VK → Prop := fun xs H Q => ∃ p ys, xs = [.ref p] ∧ (SqL K H p ys ∨ SqT K H p ys) ∧ ∀ l, H l = none → Q (.ref l) (upd H l (.lst ys))
theorem call_tupK {X : Cx} : CallR X (.type "tuple") (rTupOf X.K) := call_tuple_of
theorem call_listK {X : Cx} : CallR X (.type "list") (rListOf X.K) := call_list_of

/-! ### heaps -/
theorem same_upd {H : Hp} {p : Addr} {o : HO} (h : H p = none) : Same H (upd H p o) := fun b x e => by
  rw [upd_ne (ne_of_none e h)]
  exact e
/-- what H does not know may change -/
theorem _root_.L2.Same.mut {H H' : Hp} {p : Addr} {o : HO} (s : Same H H') (h : H p = none) : Same H (upd H' p o) := fun b x e => by
  rw [upd_ne (ne_of_none e h)]
  exact s _ _ e
theorem _root_.L2.Same.new {H H' : Hp} {p : Addr} {o : HO} (s : Same H H') (h : H' p = none) : Same H (upd H' p o) := s.trans (same_upd h)
/-- all but what stands at l -/
def SameBut (l : Addr) (H H' : Hp) : Prop := ∀ b o, b ≠ l → H b = some o → H' b = some o
theorem SameBut.of {l : Addr} {H H' : Hp} (s : Same H H') : SameBut l H H' := fun b o _ e => s b o e
theorem SameBut.trans {l : Addr} {H H1 H2 : Hp} (a : SameBut l H H1) (b : SameBut l H1 H2) : SameBut l H H2 := fun c o n e => b c o n (a c o n e)
theorem SameBut.put {l : Addr} {H H' : Hp} {o : HO} (s : SameBut l H H') : SameBut l H (upd H' l o) := fun b x n e => by
  rw [upd_ne n]
  exact s _ _ n e
theorem SameBut.new {l p : Addr} {H H' : Hp} {o : HO} (s : SameBut l H H') (h : H' p = none) : SameBut l H (upd H' p o) := s.trans (SameBut.of (same_upd h))

/-! ### lists of tuples -/
/-- xs are tuples, that hold ds -/
def TL (H : Hp) (xs : List V) (ds : List (List V)) : Prop := xs.length = ds.length ∧ ∀ (i : Nat) (d : List V), ds[i]? = some d → ∃ p : Addr, xs[i]? = some (V.ref p) ∧ H p = some (HO.tup d)
/-- at a a list of tuples, that hold ds -/
def LT (H : Hp) (a : Addr) (ds : List (List V)) : Prop := ∃ xs, H a = some (.lst xs) ∧ TL H xs ds
theorem TL.same {H H' : Hp} {xs : List V} {ds : List (List V)} (s : Same H H') (h : TL H xs ds) : TL H' xs ds :=
  ⟨h.1, fun i d e => let ⟨p, e1, e2⟩ := h.2 i d e; ⟨p, e1, s _ _ e2⟩⟩
theorem LT.same {H H' : Hp} {a : Addr} {ds : List (List V)} (s : Same H H') (h : LT H a ds) : LT H' a ds :=
  let ⟨xs, e, t⟩ := h; ⟨xs, s _ _ e, t.same s⟩
theorem TL.nil {H : Hp} : TL H [] [] := ⟨rfl, fun i d e => by simp at e⟩
theorem TL.snoc {H : Hp} {xs : List V} {ds : List (List V)} {p : Addr} {d : List V} (h : TL H xs ds) (e : H p = some (.tup d)) : TL H (xs ++ [.ref p]) (ds ++ [d]) := by
  refine ⟨by rw [List.length_append, List.length_append, h.1]; rfl, fun i c ec => ?_⟩
  by_cases hi : i < ds.length
  · rw [List.getElem?_append_left hi] at ec
    obtain ⟨q, e1, e2⟩ := h.2 i c ec
    exact ⟨q, by rw [List.getElem?_append_left (by rw [h.1]; exact hi)]; exact e1, e2⟩
  · have hl := (List.getElem?_eq_some_iff.mp ec).1
    rw [List.length_append, List.length_singleton] at hl
    have hi2 : i = ds.length := by omega
    subst hi2
    rw [List.getElem?_append_right (Nat.le_refl _), Nat.sub_self] at ec
    have : d = c := Option.some.inj ec
    subst this
    exact ⟨p, by rw [List.getElem?_append_right (by rw [h.1]; exact Nat.le_refl _), h.1, Nat.sub_self]; rfl, e⟩
theorem TL.get {H : Hp} {xs : List V} {ds : List (List V)} {i : Nat} {x : V} (h : TL H xs ds) (e : xs[i]? = some x) : ∃ p d, x = .ref p ∧ ds[i]? = some d ∧ H p = some (.tup d) := by
  have hi := (List.getElem?_eq_some_iff.mp e).1
  rw [h.1] at hi
  obtain ⟨p, e1, e2⟩ := h.2 i ds[i] (List.getElem?_eq_getElem hi)
  rw [e] at e1
  exact ⟨p, ds[i], Option.some.inj e1, List.getElem?_eq_getElem hi, e2⟩
/-- a store elsewhere than at a tuple -/
theorem TL.mut {H : Hp} {xs : List V} {ds : List (List V)} {l : Addr} {o : HO} (h : TL H xs ds) (hl : ∀ d, H l ≠ some (.tup d)) : TL (upd H l o) xs ds :=
  ⟨h.1, fun i d e => by
    obtain ⟨p, e1, e2⟩ := h.2 i d e
    refine ⟨p, e1, ?_⟩
    rw [upd_ne (fun z => hl d (by rw [← z]; exact e2))]
    exact e2⟩
theorem TL.append {H : Hp} {xs ys : List V} {ds es : List (List V)} (h : TL H xs ds) (g : TL H ys es) : TL H (xs ++ ys) (ds ++ es) := by
  refine ⟨by rw [List.length_append, List.length_append, h.1, g.1], fun i d e => ?_⟩
  by_cases hi : i < ds.length
  · rw [List.getElem?_append_left hi] at e
    obtain ⟨q, e1, e2⟩ := h.2 i d e
    exact ⟨q, by rw [List.getElem?_append_left (by rw [h.1]; exact hi)]; exact e1, e2⟩
  · rw [List.getElem?_append_right (by omega)] at e
    obtain ⟨q, e1, e2⟩ := g.2 _ d e
    exact ⟨q, by rw [List.getElem?_append_right (by rw [h.1]; omega), h.1]; exact e1, e2⟩
theorem TL.set {H : Hp} {xs : List V} {ds : List (List V)} {j : Nat} {p : Addr} {d : List V} (h : TL H xs ds) (e : H p = some (.tup d)) : TL H (xs.set j (.ref p)) (ds.set j d) := by
  refine ⟨by rw [List.length_set, List.length_set, h.1], fun i c ec => ?_⟩
  by_cases hij : j = i
  · subst hij
    have hl := (List.getElem?_eq_some_iff.mp ec).1
    rw [List.length_set] at hl
    rw [List.getElem?_set_self hl] at ec
    have : d = c := Option.some.inj ec
    subst this
    exact ⟨p, List.getElem?_set_self (by rw [h.1]; exact hl), e⟩
  · rw [List.getElem?_set_ne hij] at ec
    obtain ⟨q, e1, e2⟩ := h.2 i c ec
    exact ⟨q, by rw [List.getElem?_set_ne hij]; exact e1, e2⟩
theorem TL.tail {H : Hp} {x : V} {xs : List V} {d : List V} {ds : List (List V)} (h : TL H (x :: xs) (d :: ds)) : TL H xs ds :=
  ⟨Nat.succ.inj h.1, fun i c e => h.2 (i + 1) c e⟩
theorem TL.drop {H : Hp} {xs : List V} {ds : List (List V)} (n : Nat) (h : TL H xs ds) : TL H (xs.drop n) (ds.drop n) :=
  ⟨by rw [List.length_drop, List.length_drop, h.1], fun i d e => by rw [List.getElem?_drop] at e ⊢; exact h.2 _ d e⟩
/-- a list of tuples that grows by one: what stood before the list was made is kept -/
theorem LT.push {H0 H : Hp} {l p : Addr} {xs : List V} {ds : List (List V)} {d : List V} (s : Same H0 H) (l0 : H0 l = none) (e : H l = some (.lst xs)) (t : TL H xs ds) (hp : H p = none) :
    Same H0 (upd (upd H p (.tup d)) l (.lst (xs ++ [.ref p]))) ∧ LT (upd (upd H p (.tup d)) l (.lst (xs ++ [.ref p]))) l (ds ++ [d]) := by
  have nlp : l ≠ p := ne_of_none e hp
  refine ⟨(s.new hp).mut l0, _, upd_same, ?_⟩
  refine TL.mut (TL.snoc (t.same (same_upd hp)) upd_same) fun c hc => ?_
  rw [upd_ne nlp, e] at hc
  cases hc

/-- lists: over a list that stands, the new list's items told one by one (ys) -/
theorem lc_to {K : PySem.W.Frag} {a : Addr} {xs ys : List V} {g : TG} {te : TE} {vs : List Nat} {σ : L2.St} {H0 : Hp} {D : Addr} {Qd : Hp → Prop} (ha : SqL K H0 a xs) (hD : H0 D = none) (hl : ys.length = xs.length) (hz : xs.length < sizeLine)
    (hs : ∀ (i : Nat) (x y : V) (H : Hp) (Nx : VK), xs[i]? = some x → ys[i]? = some y → Same H0 H → (∀ H4, Same H H4 → Nx y H4) → g x (wipe σ vs) H fun σ2 H2 => wipe σ2 vs = wipe σ vs ∧ te σ2 H2 Nx)
    (hd : ∀ H, Same H0 H → H D = some (.lst ys) → Qd H) :
    ∃ W : Nat → Nat → Hp → Prop, (∃ m, W 0 m (upd H0 D (.lst []))) ∧ ∀ i m H, W i m H →
      ((Itl K a).stop i H ∧ Qd H) ∨ ((Itl K a).go i H ∧ ∃ Nx : Hp → Prop, (∀ H', Nx H' → ∃ m', m' < m ∧ W (i + 1) m' H') ∧ ∀ x H', (Itl K a).yld i H x H' → g x (wipe σ vs) H' fun σ2 H2 => wipe σ2 vs = wipe σ vs ∧ tYes σ2 H2 fun b H3 =>
        if b = true then te σ2 H3 fun y H4 => ∃ acc, H4 D = some (.lst acc) ∧ acc.length < sizeLine ∧ Nx (upd H4 D (.lst (acc ++ [y]))) else Nx H3) := by
  refine lc_list (xs := xs) (fun i H => Same H0 H ∧ H D = some (.lst (ys.take i))) ⟨same_upd hD, by rw [upd_same]; rfl⟩ (fun i H _ h => h.1.seq ha) (fun i x H hx h => ?_) (fun H h => hd H h.1 ?_)
  · have hi := (List.getElem?_eq_some_iff.mp hx).1
    have hy : ys[i]? = some ys[i] := List.getElem?_eq_getElem (by omega)
    refine hs i x ys[i] H _ hx hy h.1 fun H4 s4 => ⟨ys.take i, s4 _ _ h.2, ?_, (h.1.trans s4).mut hD, ?_⟩
    · rw [List.length_take]
      omega
    · rw [upd_same, List.take_add_one, hy]
      rfl
  · rw [h.2, ← hl, List.take_length]
/-- the same over a range from 0 -/
theorem lc_toR {n : Nat} {ys : List V} {g : TG} {te : TE} {vs : List Nat} {σ : L2.St} {H0 : Hp} {D : Addr} {Qd : Hp → Prop} (hD : H0 D = none) (hl : ys.length = n) (hz : n < sizeLine)
    (hs : ∀ (i : Nat) (y : V) (H : Hp) (Nx : VK), i < n → ys[i]? = some y → Same H0 H → (∀ H4, Same H H4 → Nx y H4) → g (.int (0 + i)) (wipe σ vs) H fun σ2 H2 => wipe σ2 vs = wipe σ vs ∧ te σ2 H2 Nx)
    (hd : ∀ H, Same H0 H → H D = some (.lst ys) → Qd H) :
    ∃ W : Nat → Nat → Hp → Prop, (∃ m, W 0 m (upd H0 D (.lst []))) ∧ ∀ i m H, W i m H →
      ((Itr 0 n).stop i H ∧ Qd H) ∨ ((Itr 0 n).go i H ∧ ∃ Nx : Hp → Prop, (∀ H', Nx H' → ∃ m', m' < m ∧ W (i + 1) m' H') ∧ ∀ x H', (Itr 0 n).yld i H x H' → g x (wipe σ vs) H' fun σ2 H2 => wipe σ2 vs = wipe σ vs ∧ tYes σ2 H2 fun b H3 =>
        if b = true then te σ2 H3 fun y H4 => ∃ acc, H4 D = some (.lst acc) ∧ acc.length < sizeLine ∧ Nx (upd H4 D (.lst (acc ++ [y]))) else Nx H3) := by
  refine lc_range (lo := 0) (n := n) (fun i H => Same H0 H ∧ H D = some (.lst (ys.take i))) ⟨same_upd hD, by rw [upd_same]; rfl⟩ (fun i H hi h => ?_) (fun H h => hd H h.1 ?_)
  · have hy : ys[i]? = some ys[i] := List.getElem?_eq_getElem (by omega)
    refine hs i ys[i] H _ hi hy h.1 fun H4 s4 => ⟨ys.take i, s4 _ _ h.2, ?_, (h.1.trans s4).mut hD, ?_⟩
    · rw [List.length_take]
      omega
    · rw [upd_same, List.take_add_one, hy]
      rfl
  · rw [h.2, ← hl, List.take_length]
/-- lists of new tuples: the same, where the items are tuples that hold ds -/
theorem lc_tl {K : PySem.W.Frag} {a : Addr} {xs : List V} {ds : List (List V)} {g : TG} {te : TE} {vs : List Nat} {σ : L2.St} {H0 : Hp} {D : Addr} {Qd : Hp → Prop} (ha : SqL K H0 a xs) (hD : H0 D = none) (hl : ds.length = xs.length) (hz : xs.length < sizeLine)
    (hs : ∀ (i : Nat) (x : V) (d : List V) (H : Hp) (Nx : VK), xs[i]? = some x → ds[i]? = some d → Same H0 H → (∀ p H4, Same H H4 → H4 p = some (.tup d) → Nx (.ref p) H4) → g x (wipe σ vs) H fun σ2 H2 => wipe σ2 vs = wipe σ vs ∧ te σ2 H2 Nx)
    (hd : ∀ H, Same H0 H → LT H D ds → Qd H) :
    ∃ W : Nat → Nat → Hp → Prop, (∃ m, W 0 m (upd H0 D (.lst []))) ∧ ∀ i m H, W i m H →
      ((Itl K a).stop i H ∧ Qd H) ∨ ((Itl K a).go i H ∧ ∃ Nx : Hp → Prop, (∀ H', Nx H' → ∃ m', m' < m ∧ W (i + 1) m' H') ∧ ∀ x H', (Itl K a).yld i H x H' → g x (wipe σ vs) H' fun σ2 H2 => wipe σ2 vs = wipe σ vs ∧ tYes σ2 H2 fun b H3 =>
        if b = true then te σ2 H3 fun y H4 => ∃ acc, H4 D = some (.lst acc) ∧ acc.length < sizeLine ∧ Nx (upd H4 D (.lst (acc ++ [y]))) else Nx H3) := by
  refine lc_list (xs := xs) (fun i H => Same H0 H ∧ ∃ zs, H D = some (.lst zs) ∧ TL H zs (ds.take i)) ⟨same_upd hD, [], upd_same, TL.nil⟩ (fun i H _ h => h.1.seq ha) (fun i x H hx h => ?_) (fun H h => hd H h.1 ?_)
  · obtain ⟨s, zs, e, t⟩ := h
    have hi := (List.getElem?_eq_some_iff.mp hx).1
    have hy : ds[i]? = some ds[i] := List.getElem?_eq_getElem (by omega)
    refine hs i x ds[i] H _ hx hy s fun p H4 s4 ep => ⟨zs, s4 _ _ e, ?_, (s.trans s4).mut hD, zs ++ [.ref p], upd_same, ?_⟩
    · rw [t.1, List.length_take]
      omega
    · rw [List.take_add_one, hy]
      refine TL.mut (TL.snoc (t.same s4) ep) fun c hc => ?_
      rw [s4 _ _ e] at hc
      cases hc
  · obtain ⟨s, zs, e, t⟩ := h
    rw [← hl, List.take_length] at t
    exact ⟨zs, e, t⟩
theorem lc_tlR {n : Nat} {ds : List (List V)} {g : TG} {te : TE} {vs : List Nat} {σ : L2.St} {H0 : Hp} {D : Addr} {Qd : Hp → Prop} (hD : H0 D = none) (hl : ds.length = n) (hz : n < sizeLine)
    (hs : ∀ (i : Nat) (d : List V) (H : Hp) (Nx : VK), i < n → ds[i]? = some d → Same H0 H → (∀ p H4, Same H H4 → H4 p = some (.tup d) → Nx (.ref p) H4) → g (.int (0 + i)) (wipe σ vs) H fun σ2 H2 => wipe σ2 vs = wipe σ vs ∧ te σ2 H2 Nx)
    (hd : ∀ H, Same H0 H → LT H D ds → Qd H) :
    ∃ W : Nat → Nat → Hp → Prop, (∃ m, W 0 m (upd H0 D (.lst []))) ∧ ∀ i m H, W i m H →
      ((Itr 0 n).stop i H ∧ Qd H) ∨ ((Itr 0 n).go i H ∧ ∃ Nx : Hp → Prop, (∀ H', Nx H' → ∃ m', m' < m ∧ W (i + 1) m' H') ∧ ∀ x H', (Itr 0 n).yld i H x H' → g x (wipe σ vs) H' fun σ2 H2 => wipe σ2 vs = wipe σ vs ∧ tYes σ2 H2 fun b H3 =>
        if b = true then te σ2 H3 fun y H4 => ∃ acc, H4 D = some (.lst acc) ∧ acc.length < sizeLine ∧ Nx (upd H4 D (.lst (acc ++ [y]))) else Nx H3) := by
  refine lc_range (lo := 0) (n := n) (fun i H => Same H0 H ∧ ∃ zs, H D = some (.lst zs) ∧ TL H zs (ds.take i)) ⟨same_upd hD, [], upd_same, TL.nil⟩ (fun i H hi h => ?_) (fun H h => hd H h.1 ?_)
  · obtain ⟨s, zs, e, t⟩ := h
    have hy : ds[i]? = some ds[i] := List.getElem?_eq_getElem (by omega)
    refine hs i ds[i] H _ hi hy s fun p H4 s4 ep => ⟨zs, s4 _ _ e, ?_, (s.trans s4).mut hD, zs ++ [.ref p], upd_same, ?_⟩
    · rw [t.1, List.length_take]
      omega
    · rw [List.take_add_one, hy]
      refine TL.mut (TL.snoc (t.same s4) ep) fun c hc => ?_
      rw [s4 _ _ e] at hc
      cases hc
  · obtain ⟨s, zs, e, t⟩ := h
    rw [← hl, List.take_length] at t
    exact ⟨zs, e, t⟩

/-- the same over anything that yields n items and changes nothing but what is new -/
theorem lc_any {J : L2.It} {n : Nat} {Y : Nat → V → Hp → Prop} {ys : List V} {g : TG} {te : TE} {vs : List Nat} {σ : L2.St} {H0 : Hp} {D : Addr} {Qd : Hp → Prop} (hgo : ∀ i H, i < n → Same H0 H → J.go i H) (hst : ∀ H, Same H0 H → J.stop n H)
    (hy : ∀ i H x H', i < n → Same H0 H → J.yld i H x H' → Same H H' ∧ Y i x H') (hD : H0 D = none) (hl : ys.length = n) (hz : n < sizeLine)
    (hs : ∀ (i : Nat) (x y : V) (H : Hp) (Nx : VK), i < n → Y i x H → ys[i]? = some y → Same H0 H → (∀ H4, Same H H4 → Nx y H4) → g x (wipe σ vs) H fun σ2 H2 => wipe σ2 vs = wipe σ vs ∧ te σ2 H2 Nx)
    (hd : ∀ H, Same H0 H → H D = some (.lst ys) → Qd H) :
    ∃ W : Nat → Nat → Hp → Prop, (∃ m, W 0 m (upd H0 D (.lst []))) ∧ ∀ i m H, W i m H →
      (J.stop i H ∧ Qd H) ∨ (J.go i H ∧ ∃ Nx : Hp → Prop, (∀ H', Nx H' → ∃ m', m' < m ∧ W (i + 1) m' H') ∧ ∀ x H', J.yld i H x H' → g x (wipe σ vs) H' fun σ2 H2 => wipe σ2 vs = wipe σ vs ∧ tYes σ2 H2 fun b H3 =>
        if b = true then te σ2 H3 fun y H4 => ∃ acc, H4 D = some (.lst acc) ∧ acc.length < sizeLine ∧ Nx (upd H4 D (.lst (acc ++ [y]))) else Nx H3) := by
  refine ⟨fun i m H => m = n - i ∧ i ≤ n ∧ Same H0 H ∧ H D = some (.lst (ys.take i)), ⟨n, by simp, Nat.zero_le _, same_upd hD, by rw [upd_same]; rfl⟩, ?_⟩
  rintro i m H ⟨rfl, hi, s, e⟩
  by_cases hlt : i < n
  · refine .inr ⟨hgo i H hlt s, fun H' => Same H0 H' ∧ H' D = some (.lst (ys.take (i + 1))), fun H' p' => ⟨n - (i + 1), by omega, rfl, hlt, p'⟩, fun x H' hx => ?_⟩
    obtain ⟨s1, hY⟩ := hy i H x H' hlt s hx
    have hyi : ys[i]? = some ys[i] := List.getElem?_eq_getElem (by omega)
    refine hs i x ys[i] H' _ hlt hY hyi (s.trans s1) fun H4 s4 => ⟨ys.take i, s4 _ _ (s1 _ _ e), ?_, ((s.trans s1).trans s4).mut hD, ?_⟩
    · rw [List.length_take]
      omega
    · rw [upd_same, List.take_add_one, hyi]
      rfl
  · have e2 : i = n := by omega
    subst e2
    refine .inl ⟨hst H s, hd H s ?_⟩
    rw [e, ← hl, List.take_length]

/-! ### tests -/
theorem iteD {p A B : Prop} [Decidable p] (hp : p) (h : A) : if decide p = true then A else B := by
  rw [if_pos (decide_eq_true hp)]
  exact h
theorem iteND {p A B : Prop} [Decidable p] (hp : ¬ p) (h : B) : if decide p = true then A else B := by
  rw [if_neg (by rw [decide_eq_false hp]; exact Bool.false_ne_true)]
  exact h
theorem iteNN {p A B : Prop} [Decidable p] (hp : ¬ p) (h : A) : if (!decide p) = true then A else B := by
  rw [decide_eq_false hp]
  exact iteT h
theorem blD {p : Prop} [Decidable p] {Q : VK} {H : Hp} (hp : p) (q : Q (.bl true) H) : Q (.bl (decide p)) H := by
  rw [decide_eq_true hp]
  exact q
theorem blND {p : Prop} [Decidable p] {Q : VK} {H : Hp} (hp : ¬ p) (q : Q (.bl false) H) : Q (.bl (decide p)) H := by
  rw [decide_eq_false hp]
  exact q
theorem blF {p : Prop} [Decidable p] {Q : VK} {H : Hp} (hp : ¬ p) (q : Q (.bl true) H) : Q (.bl (!decide p)) H := by
  rw [decide_eq_false hp]
  exact q
theorem size_lt {n : Nat} (h : n ≤ 100000) : n < sizeLine := Nat.lt_of_le_of_lt h (by decide)
theorem size_le {n : Nat} (h : n ≤ 100000) : n ≤ sizeLine := Nat.le_of_lt (size_lt h)

/-! ### what tuples hold -/
def dRun (r : Str × Int) : List V := [.str r.1, .int r.2]
def dPr (p : Int × Int) : List V := [.int p.1, .int p.2]
def dTr (t : Int × Int × Int) : List V := [.int t.1, .int t.2.1, .int t.2.2]
theorem LT.run {α : Type} {f : α → List V} {H : Hp} {xs : List V} {l : List α} {i : Nat} {x : V} (h : TL H xs (l.map f)) (e : xs[i]? = some x) : ∃ p r, x = .ref p ∧ l[i]? = some r ∧ H p = some (.tup (f r)) := by
  obtain ⟨p, d, e1, e2, e3⟩ := h.get e
  rw [List.getElem?_map] at e2
  cases q : l[i]? with
  | none => rw [q] at e2; cases e2
  | some r =>
    rw [q] at e2
    have : f r = d := Option.some.inj e2
    subst this
    exact ⟨p, r, e1, rfl, e3⟩
/-- a list's item by its tuple -/
theorem LT.at_ {H : Hp} {a : Addr} {ds : List (List V)} {i : Nat} {d : List V} (h : LT H a ds) (e : ds[i]? = some d) : ∃ (xs : List V) (p : Addr), H a = some (.lst xs) ∧ xs.length = ds.length ∧ xs[i]? = some (V.ref p) ∧ H p = some (.tup d) := by
  obtain ⟨xs, e1, t⟩ := h
  obtain ⟨p, e2, e3⟩ := t.2 i d e
  exact ⟨xs, p, e1, t.1, e2, e3⟩
theorem take_snoc {α : Type} {l : List α} {i : Nat} {x : α} (h : l[i]? = some x) : l.take (i + 1) = l.take i ++ [x] := by
  rw [List.take_add_one, h]
  rfl
end Uk
/-! The tests of the module sequences, on what the law gives them. -/
namespace Uk
open PySem PySem.Spec PyProof.Rows L2
abbrev sl_is_integer : List Str := ["value", "low", "high"]
theorem sc_is_integer : FnScope sl_is_integer ["value", "low", "high"] (defScope s_is_integer) := ⟨rfl, rfl, rfl, by decide +kernel, rfl, by decide +kernel, by decide +kernel⟩
abbrev sl_is_listed : List Str := ["value"]
theorem sc_is_listed : FnScope sl_is_listed ["value"] (defScope s_is_listed) := ⟨rfl, rfl, rfl, by decide +kernel, rfl, by decide +kernel, by decide +kernel⟩
abbrev sl_is_kind : List Str := ["value", "sign"]
theorem sc_is_kind : FnScope sl_is_kind ["value"] (defScope s_is_kind) := ⟨rfl, rfl, rfl, by decide +kernel, rfl, by decide +kernel, by decide +kernel⟩
abbrev sl_is_run : List Str := ["value"]
theorem sc_is_run : FnScope sl_is_run ["value"] (defScope s_is_run) := ⟨rfl, rfl, rfl, by decide +kernel, rfl, by decide +kernel, by decide +kernel⟩
/-- a kind of one small letter -/
def KindOk (z : Str) : Prop := ∃ c : Nat, z = ⟨#[c]⟩ ∧ c ∈ ("abcdefghijklmnopqrstuvwxyz" : Str).cps.toList
def RunOk (r : Str × Int) : Prop := KindOk r.1 ∧ 1 ≤ r.2 ∧ r.2 ≤ 1000000000000000000000000000000
def sp_is_integer : Sp := fun vs H Q _ => ∃ (n lo : Int) (hv : V), vs = [.int n, .int lo, hv] ∧ lo ≤ n ∧ (hv = .non ∨ ∃ h, hv = .int h ∧ n ≤ h) ∧ Q (.bl true) H
def sp_is_listed : Sp := fun vs H Q _ => ∃ a : Addr, vs = [.ref a] ∧ ((∃ xs, H a = some (.lst xs)) ∨ ∃ xs, H a = some (.tup xs)) ∧ ∀ H', Same H H' → Q (.bl true) H'
def sp_is_kind : Sp := fun vs H Q _ => ∃ z : Str, vs = [.str z] ∧ KindOk z ∧ ∀ H', Same H H' → Q (.bl true) H'
def sp_is_run : Sp := fun vs H Q _ => ∃ (a : Addr) (r : Str × Int), vs = [.ref a] ∧ H a = some (.tup (dRun r)) ∧ RunOk r ∧ ∀ H', Same H H' → Q (.bl true) H'
section
variable {P : Program} {w : World} {K : PySem.W.Frag} {mg : Str → Option Value} {base : Heap}
theorem D_is_integer (T : Tx K mg) : Dd P w K mg base 1 "is_integer" ["value", "low", "high"] (sp_is_integer) := by
  obtain ⟨fd, F⟩ := T.f_is_integer
  have G : FnOk P w K mg base CX0 1 (He.fAd K ("is_integer", none)) fd ["value", "low", "high"] sp_is_integer := by
    refine ok0 F sc_is_integer (fun vs H Q E h => ?_) (fun cdv A outer s H vs Q E hr h => ?_)
    · obtain ⟨n, lo, hv, rfl, _⟩ := h
      rfl
    · obtain ⟨n, lo, hv, rfl, h1, h2, q⟩ := h
      refine ⟨_, (pss_cons (ps_if (PW.pt (pw_or (pt_not (pt_val (pe_callB call_isi (by rfl) T.m_isinstance (by decide +kernel) (pa_cons (pv 0) (pa_cons (pe_bltn (v := .ty "int") (by rfl) T.m_int (by decide +kernel) rfl) pa_nil))))) (pw_or1 (pt_val (pe_callB call_isi (by rfl) T.m_isinstance (by decide +kernel) (pa_cons (pv 0) (pa_cons (pe_bltn (v := .ty "bool") (by rfl) T.m_bool (by decide +kernel) rfl) pa_nil))))))) (pss_one (ps_ret pe_bl)) pss_nil)
      (pss_one (ps_ret (pe_and (pe_cmpR op_ge (pv 0) (pv 1) (nomark _)) (pe_one (pe_or (pe_cmpR op_isN (pv 2) pe_non (nomark _)) (pe_one (pe_cmpR op_le (pv 0) (pv 2) (nomark _))))))))), ?_⟩
      refine ⟨_, rfl, _, _, _, _, true, rfl, .ty _, .base (.int n), kit_ty (by decide +kernel), true, rfl, ?_⟩
      refine iteF ?_
      refine ⟨_, rfl, _, _, _, _, false, rfl, .ty _, .base (.int n), kit_ty (by decide +kernel), false, rfl, ?_⟩
      refine iteF ?_
      refine ⟨_, rfl, _, rfl, _, _, rfl, rfl, _, rfl, ?_⟩
      refine iteD h1 ?_
      refine ⟨_, rfl, rfl, _, rfl, ?_⟩
      rcases h2 with rfl | ⟨h, rfl, h2⟩
      · exact iteD rfl q
      · refine iteND (fun z => nomatch z) ?_
        refine ⟨_, rfl, _, rfl, _, _, rfl, rfl, ?_⟩
        exact blD h2 q
  obtain ⟨d0, v0, b0⟩ := F.binds1 (ps := ["value", "low", "high"]) 3 1 (by simp) rfl (fun _ _ _ _ _ _ _ us its h1 h2 => match us, its, h1, h2 with | [_, _, _], [_], _, _ => ⟨_, rfl, rfl⟩)
  obtain ⟨d1, v1, b1⟩ := F.binds1 (ps := ["value", "low", "high"]) 2 0 (by simp) rfl (fun _ _ _ _ _ _ _ us its h1 h2 => match us, its, h1, h2 with | [_, _], [_], _, _ => ⟨_, rfl, rfl⟩)
  have e0 : d0 = [] := Vals.zero v0
  subst e0
  exact ⟨⟨fd, G, b0, d1, v1, b1⟩, F.kp, T.g_is_integer⟩
theorem D_is_listed (T : Tx K mg) : Dn P w K mg base 1 "is_listed" ["value"] (sp_is_listed) := by
  obtain ⟨fd, F⟩ := T.f_is_listed
  have G : FnOk P w K mg base CX0 1 (He.fAd K ("is_listed", none)) fd ["value"] sp_is_listed := by
    refine ok0 F sc_is_listed (fun vs H Q E h => ?_) (fun cdv A outer s H vs Q E hr h => ?_)
    · obtain ⟨a, rfl, _⟩ := h
      rfl
    · obtain ⟨a, rfl, h, q⟩ := h
      refine ⟨_, (pss_one (ps_ret (pe_callB call_isiT (by rfl) T.m_isinstance (by decide +kernel) (pa_cons (pv 0) (pa_cons (pe_tup (pa_cons (pe_bltn (v := .ty "list") (by rfl) T.m_list (by decide +kernel) rfl) (pa_cons (pe_bltn (v := .ty "tuple") (by rfl) T.m_tuple (by decide +kernel) rfl) pa_nil))) pa_nil))))), ?_⟩
      refine ⟨_, rfl, (by show 2 ≤ sizeLine; decide), fun p np => ?_⟩
      have s1 : Same H (upd H p (.tup [.ty "list", .ty "tuple"])) := same_upd np
      rcases h with ⟨xs, h⟩ | ⟨xs, h⟩
      · exact ⟨_, p, _, .type "list", _, true, rfl, upd_same, .cons (.ty _) (.cons (.ty _) .nil), .base (.lst (s1 _ _ h)), kitAny_cons (b := true) (kit_ty (by decide +kernel)) (fun z => nomatch z) (fun _ => rfl), q _ s1⟩
      · exact ⟨_, p, _, .type "tuple", _, true, rfl, upd_same, .cons (.ty _) (.cons (.ty _) .nil), .base (.tup (s1 _ _ h)), kitAny_cons (b := false) (kit_ty (by decide +kernel)) (fun _ => kitAny_cons (b := true) (kit_ty (by decide +kernel)) (fun z => nomatch z) (fun _ => rfl)) (fun z => nomatch z), q _ s1⟩
  exact ⟨⟨fd, G, F.bindsN (fun _ _ _ _ _ _ us hl => match us, hl with | [_], _ => rfl)⟩, F.kp, T.g_is_listed⟩
theorem D_is_kind (T : Tx K mg) : Dn P w K mg base 1 "is_kind" ["value"] (sp_is_kind) := by
  obtain ⟨fd, F⟩ := T.f_is_kind
  obtain ⟨t1, h_MAX_LETTERS⟩ := T.c_MAX_LETTERS
  obtain ⟨t2, h_LETTERS⟩ := T.c_LETTERS
  have G : FnOk P w K mg base CX0 1 (He.fAd K ("is_kind", none)) fd ["value"] sp_is_kind := by
    refine ok0 F sc_is_kind (fun vs H Q E h => ?_) (fun cdv A outer s H vs Q E hr h => ?_)
    · obtain ⟨z, rfl, _⟩ := h
      rfl
    · obtain ⟨z, rfl, ⟨c, rfl, hc⟩, q⟩ := h
      refine ⟨_, (pss_one (ps_ret (pe_and (pe_callB call_isi (by rfl) T.m_isinstance (by decide +kernel) (pa_cons (pv 0) (pa_cons (pe_bltn (v := .ty "str") (by rfl) T.m_str (by decide +kernel) rfl) pa_nil))) (pe_and (pe_chain op_le op_le pe_int (pe_callB call_len_str (by rfl) T.m_len (by decide +kernel) (pa_cons (pv 0) pa_nil)) (pe_glob (v := .int 8) (by rfl) h_MAX_LETTERS ⟨_, rfl⟩)) (pe_one (pe_callB (cr_all rfl) (by rfl) T.m_all (by decide +kernel) (pa_cons (pe_lc (own := [("sign", 1)]) (g := gName 1) (tt := tYes) rfl sc_is_kind.nd (pi_str (pv 0)) (blkOk_by (own := [("sign", 1)]) (N := sl_is_kind) (sc := defScope s_is_kind) (by decide +kernel)) (fun _ _ _ _ _ => (pg_name (i := 1) sc_is_kind.nd rfl (.inl rfl))) (fun _ _ _ _ _ => pts_nil) (fun _ _ _ _ _ => (pe_cmpR op_in_sign (pv 1) (pe_glob (v := .str "abcdefghijklmnopqrstuvwxyz") (by rfl) h_LETTERS ⟨_, rfl⟩) rfl))) pa_nil))))))), ?_⟩
      refine ⟨_, rfl, _, _, _, _, true, rfl, .ty _, .base (.str _), kit_ty (by decide +kernel), true, rfl, ?_⟩
      refine iteT ?_
      refine ⟨_, rfl, _, rfl, (by show 1 ≤ sizeLine; decide), _, _, rfl, rfl, _, rfl, ?_⟩
      refine iteD (by show (1 : Int) ≤ ((1 : Nat) : Int); decide) ?_
      refine ⟨_, _, rfl, rfl, _, rfl, ?_⟩
      refine iteD (by show ((1 : Nat) : Int) ≤ 8; decide) ?_
      refine ⟨_, rfl, _, rfl, fun D nD => ?_⟩
      refine lc_any (n := 1) (Y := fun i x H => x = .str ⟨#[c]⟩) (ys := [.bl true]) (fun i H hi _ => hi) (fun H _ => Nat.le_refl _) (fun i H1 x H2 hi _ hx => ?_) nD rfl (by decide) (fun i x y H1 Nx hi hx hy s1 k => ?_) (fun H1 s1 e1 => ?_)
      · obtain ⟨rfl, d, hd, rfl⟩ := hx
        have e0 : i = 0 := by omega
        subst e0
        have : c = d := Option.some.inj hd
        subst this
        exact ⟨Same.refl _, rfl⟩
      · subst hx
        have e0 : i = 0 := by omega
        subst e0
        have : V.bl true = y := Option.some.inj hy
        subst this
        refine ⟨rfl, ?_⟩
        refine ⟨_, rfl, c, _, rfl, rfl, ?_⟩
        exact blD hc (k _ (Same.refl _))
      · exact ⟨D, [true], rfl, SqL.of e1, q _ s1⟩
  exact ⟨⟨fd, G, F.bindsN (fun _ _ _ _ _ _ us hl => match us, hl with | [_], _ => rfl)⟩, F.kp, T.g_is_kind⟩
theorem D_is_run (T : Tx K mg) : Dn P w K mg base 2 "is_run" ["value"] (sp_is_run) := by
  have D_is_listed := D_is_listed (P := P) (w := w) (base := base) T
  have D_is_kind := D_is_kind (P := P) (w := w) (base := base) T
  have D_is_integer := D_is_integer (P := P) (w := w) (base := base) T
  obtain ⟨fd, F⟩ := T.f_is_run
  obtain ⟨t1, h_MAX_COUNT⟩ := T.c_MAX_COUNT
  have G : FnOk P w K mg base CX0 2 (He.fAd K ("is_run", none)) fd ["value"] sp_is_run := by
    refine ok0 F sc_is_run (fun vs H Q E h => ?_) (fun cdv A outer s H vs Q E hr h => ?_)
    · obtain ⟨a, r, rfl, _⟩ := h
      rfl
    · obtain ⟨a, r, rfl, ha, ⟨hk, h1, h2⟩, q⟩ := h
      refine ⟨_, (pss_one (ps_ret (pe_and (pe_dn D_is_listed (hr.mono (by decide)) (by rfl) (pa_cons (pv 0) pa_nil)) (pe_and (pe_cmpR op_eq (pe_callB call_len_seq (by rfl) T.m_len (by decide +kernel) (pa_cons (pv 0) pa_nil)) pe_int (nomark _)) (pe_and (pe_dn D_is_kind (hr.mono (by decide)) (by rfl) (pa_cons (pe_ix (r := rIxT K) ix_tup (pv 0) pe_int (fun _ _ => rfl)) pa_nil)) (pe_one (pe_dn D_is_integer.n (hr.mono (by decide)) (by rfl) (pa_cons (pe_ix (r := rIxT K) ix_tup (pv 0) pe_int (fun _ _ => rfl)) (pa_cons pe_int (pa_cons (pe_glob (v := .int 1000000000000000000000000000000) (by rfl) h_MAX_COUNT ⟨_, rfl⟩) pa_nil)))))))))), ?_⟩
      refine ⟨_, rfl, a, rfl, .inr ⟨_, ha⟩, fun H1 s1 => ?_⟩
      refine ⟨_, rfl, iteT ?_⟩
      have ha1 := s1 _ _ ha
      refine ⟨_, rfl, a, _, rfl, .inr (SqT.of ha1), rfl, _, rfl, ?_⟩
      refine iteD rfl ?_
      refine ⟨_, rfl, a, _, _, _, rfl, rfl, SqT.of ha1, atI_nat (j := 0) rfl, _, rfl, hk, fun H2 s2 => ?_⟩
      have ha2 := s2 _ _ ha1
      refine ⟨_, rfl, iteT ?_⟩
      refine ⟨_, rfl, a, _, _, _, rfl, rfl, SqT.of ha2, atI_nat (j := 1) rfl, r.2, 1, _, rfl, h1, .inr ⟨_, rfl, h2⟩, q _ (s1.trans s2)⟩
  exact ⟨⟨fd, G, F.bindsN (fun _ _ _ _ _ _ us hl => match us, hl with | [_], _ => rfl)⟩, F.kp, T.g_is_run⟩
end
end Uk
/-! Sequences: checked, measured, cut. -/
namespace Uk
open PySem PySem.Spec PyProof.Rows L2
abbrev sl_is_sequence : List Str := ["value", "run", "one", "other"]
theorem sc_is_sequence : FnScope sl_is_sequence ["value"] (defScope s_is_sequence) := ⟨rfl, rfl, rfl, by decide +kernel, rfl, by decide +kernel, by decide +kernel⟩
abbrev sl_is_state : List Str := ["value"]
theorem sc_is_state : FnScope sl_is_state ["value"] (defScope s_is_state) := ⟨rfl, rfl, rfl, by decide +kernel, rfl, by decide +kernel, by decide +kernel⟩
abbrev sl_check_state : List Str := ["value"]
theorem sc_check_state : FnScope sl_check_state ["value"] (defScope s_check_state) := ⟨rfl, rfl, rfl, by decide +kernel, rfl, by decide +kernel, by decide +kernel⟩
abbrev sl_check_sequence : List Str := ["value"]
theorem sc_check_sequence : FnScope sl_check_sequence ["value"] (defScope s_check_sequence) := ⟨rfl, rfl, rfl, by decide +kernel, rfl, by decide +kernel, by decide +kernel⟩
abbrev sl_checked_runs : List Str := ["sequence", "run"]
theorem sc_checked_runs : FnScope sl_checked_runs ["sequence"] (defScope s_checked_runs) := ⟨rfl, rfl, rfl, by decide +kernel, rfl, by decide +kernel, by decide +kernel⟩
abbrev sl_length_of : List Str := ["runs", "kind", "count"]
theorem sc_length_of : FnScope sl_length_of ["runs"] (defScope s_length_of) := ⟨rfl, rfl, rfl, by decide +kernel, rfl, by decide +kernel, by decide +kernel⟩
abbrev sl_check_position : List Str := ["value", "high"]
theorem sc_check_position : FnScope sl_check_position ["value", "high"] (defScope s_check_position) := ⟨rfl, rfl, rfl, by decide +kernel, rfl, by decide +kernel, by decide +kernel⟩
abbrev sl_part_by : List Str := ["runs", "start", "length", "found", "begin", "kind", "count", "first", "last"]
theorem sc_part_by : FnScope sl_part_by ["runs", "start", "length"] (defScope s_part_by) := ⟨rfl, rfl, rfl, by decide +kernel, rfl, by decide +kernel, by decide +kernel⟩
abbrev sl_kind_at : List Str := ["sequence", "position", "runs"]
theorem sc_kind_at : FnScope sl_kind_at ["sequence", "position"] (defScope s_kind_at) := ⟨rfl, rfl, rfl, by decide +kernel, rfl, by decide +kernel, by decide +kernel⟩
abbrev sl_law_length : List Str := ["sequence", "kind", "count"]
theorem sc_law_length : FnScope sl_law_length ["sequence"] (defScope s_law_length) := ⟨rfl, rfl, rfl, by decide +kernel, rfl, by decide +kernel, by decide +kernel⟩
structure SeqOk (rs : List (Str × Int)) : Prop where
  len : rs.length ≤ 400
  run : ∀ r ∈ rs, RunOk r
  adj : ∀ (i : Nat) (a b : Str × Int), rs[i]? = some a → rs[i + 1]? = some b → a.1 ≠ b.1
theorem SeqOk.pos {rs : List (Str × Int)} (h : SeqOk rs) : ∀ r ∈ rs, 1 ≤ r.2 := fun r hr => (h.run r hr).2.1
theorem cut1 (xs : List V) : cutV xs (some 1) none = xs.drop 1 := by
  unfold cutV
  rw [show HT.sIx xs.length 0 (some 1) = min 1 xs.length from HT.sIx_nat xs.length 0 1, HT.sIx_none]
  cases xs with
  | nil => rfl
  | cons x r =>
    rw [show min 1 (x :: r).length = 1 by
      rw [List.length_cons]
      omega]
    show (List.take ((x :: r).length - 1) r) = r
    rw [List.length_cons, Nat.add_sub_cancel]
    exact List.take_length
theorem all_rep (n : Nat) : (List.replicate n true).all id = true := by simp
theorem map_rep (n : Nat) : (List.replicate n true).map V.bl = List.replicate n (V.bl true) := List.map_replicate
theorem get_rep {n i : Nat} {y : V} (h : ((List.replicate n true).map V.bl)[i]? = some y) : y = .bl true := by
  rw [map_rep, List.getElem?_replicate] at h
  split at h
  · exact (Option.some.inj h).symm
  · cases h
def sp_is_sequence : Sp := fun vs H Q _ => ∃ (a : Addr) (rs : List (Str × Int)), vs = [.ref a] ∧ LT H a (rs.map dRun) ∧ SeqOk rs ∧ ∀ H', Same H H' → Q (.bl true) H'
def sp_is_state : Sp := fun vs H Q _ => vs = [.non] ∧ Q (.bl true) H
def sp_check_state : Sp := fun vs H Q _ => vs = [.non] ∧ Q .non H
def sp_check_sequence : Sp := fun vs H Q _ => ∃ (a : Addr) (rs : List (Str × Int)), vs = [.ref a] ∧ LT H a (rs.map dRun) ∧ SeqOk rs ∧ ∀ H', Same H H' → Q .non H'
def sp_checked_runs : Sp := fun vs H Q _ => ∃ (a : Addr) (rs : List (Str × Int)), vs = [.ref a] ∧ LT H a (rs.map dRun) ∧ SeqOk rs ∧ ∀ H' p, Same H H' → H p = none → LT H' p (rs.map dRun) → Q (.ref p) H'
def sp_length_of : Sp := fun vs H Q _ => ∃ (a : Addr) (rs : List (Str × Int)), vs = [.ref a] ∧ LT H a (rs.map dRun) ∧ rs.length ≤ 1000 ∧ ∀ H', Same H H' → Q (.int (rs.map (·.2)).sum) H'
def sp_law_length : Sp := sp_length_of
def sp_check_position : Sp := fun vs H Q _ => ∃ (n h : Int), vs = [.int n, .int h] ∧ 0 ≤ n ∧ n ≤ h ∧ Q .non H
def sp_part_by : Sp := fun vs H Q _ => ∃ (a : Addr) (rs : List (Str × Int)) (s l : Int), vs = [.ref a, .int s, .int l] ∧ LT H a (rs.map dRun) ∧ rs.length ≤ 1000 ∧ (∀ r ∈ rs, 1 ≤ r.2) ∧ 0 ≤ s ∧ 0 ≤ l ∧
  ∀ H' p rs', Same H H' → H p = none → LT H' p (rs'.map dRun) → PartOk rs s l rs' → Q (.ref p) H'
def sp_kind_at : Sp := fun vs H Q _ => ∃ (a : Addr) (rs : List (Str × Int)) (p : Int), vs = [.ref a, .int p] ∧ LT H a (rs.map dRun) ∧ SeqOk rs ∧ 0 ≤ p ∧ p < ((items rs).length : Int) ∧
  ∀ H' z, Same H H' → (items rs)[p.toNat]? = some z → Q (.str z) H'
section
variable {P : Program} {w : World} {K : PySem.W.Frag} {mg : Str → Option Value} {base : Heap}
theorem D_is_sequence (T : Tx K mg) : Dn P w K mg base 3 "is_sequence" ["value"] (sp_is_sequence) := by
  have D_is_listed := D_is_listed (P := P) (w := w) (base := base) T
  have D_is_run := D_is_run (P := P) (w := w) (base := base) T
  obtain ⟨fd, F⟩ := T.f_is_sequence
  obtain ⟨t1, h_MAX_RUNS⟩ := T.c_MAX_RUNS
  have G : FnOk P w K mg base CX0 3 (He.fAd K ("is_sequence", none)) fd ["value"] sp_is_sequence := by
    refine ok0 F sc_is_sequence (fun vs H Q E h => ?_) (fun cdv A outer s H vs Q E hr h => ?_)
    · obtain ⟨a, rs, rfl, _⟩ := h
      rfl
    · obtain ⟨a, rs, rfl, ⟨xs, hx, t⟩, ok, q⟩ := h
      have hxl : xs.length = rs.length := t.1.trans (List.length_map _)
      have hl := ok.len
      refine ⟨_, (pss_cons (ps_if (PW.pt (pw_or (pt_not (pt_val (pe_dn D_is_listed (hr.mono (by decide)) (by rfl) (pa_cons (pv 0) pa_nil)))) (pw_or (pt_cmpR op_gt (pe_callB call_len_seq (by rfl) T.m_len (by decide +kernel) (pa_cons (pv 0) pa_nil)) (pe_glob (v := .int 400) (by rfl) h_MAX_RUNS ⟨_, rfl⟩) (nomark _)) (pw_or1 (pt_not (pt_val (pe_callB (cr_all rfl) (by rfl) T.m_all (by decide +kernel) (pa_cons (pe_lc (own := [("run", 1)]) (g := gName 1) (tt := tYes) rfl sc_is_sequence.nd (pi_list (pv 0)) (blkOk_by (own := [("run", 1)]) (N := sl_is_sequence) (sc := defScope s_is_sequence) (by decide +kernel)) (fun _ _ _ _ _ => (pg_name (i := 1) sc_is_sequence.nd rfl (.inl rfl))) (fun _ _ _ _ _ => pts_nil) (fun _ _ _ _ _ => (pe_dn D_is_run (hr.mono (by decide)) (by rfl) (pa_cons (pv 1) pa_nil)))) pa_nil)))))))) (pss_one (ps_ret pe_bl)) pss_nil)
      (pss_one (ps_ret (pe_callB (cr_all rfl) (by rfl) T.m_all (by decide +kernel) (pa_cons (pe_lc (own := [("one", 2), ("other", 3)]) (g := gTup K 2 (gCons (gName 2) (gCons (gName 3) (gNil)))) (tt := tYes) rfl sc_is_sequence.nd (pi_zip (by rfl) T.m_zip (pa_cons (pv 0) (pa_cons (pe_slice sl_list (pv 0) (po_some pe_int) po_none) pa_nil))) (blkOk_by (own := [("one", 2), ("other", 3)]) (N := sl_is_sequence) (sc := defScope s_is_sequence) (by decide +kernel)) (fun _ _ _ _ _ => (pg_tup rfl (pgs_cons (pg_name (i := 2) sc_is_sequence.nd rfl (.inl rfl)) (pgs_cons (pg_name (i := 3) sc_is_sequence.nd rfl (.inl rfl)) pgs_nil)))) (fun _ _ _ _ _ => pts_nil) (fun _ _ _ _ _ => (pe_cmpR op_ne (pe_ix (r := rIxT K) ix_tup (pv 2) pe_int (fun _ _ => rfl)) (pe_ix (r := rIxT K) ix_tup (pv 3) pe_int (fun _ _ => rfl)) (nomark _)))) pa_nil))))), ?_⟩
      refine ⟨_, rfl, a, rfl, .inl ⟨xs, hx⟩, fun H1 s1 => ?_⟩
      refine ⟨_, rfl, ?_⟩
      refine iteF ?_
      have hx1 := s1 _ _ hx
      have t1 := t.same s1
      refine ⟨_, rfl, a, xs, rfl, .inl (SqL.of hx1), _, _, rfl, rfl, _, rfl, ?_⟩
      refine iteND (by omega) ?_
      refine ⟨_, rfl, a, rfl, ⟨_, SqL.of hx1⟩, fun D nD => ?_⟩
      refine lc_to (xs := xs) (ys := (List.replicate xs.length true).map V.bl) (SqL.of hx1) nD (by simp) (size_lt (by omega)) (fun i x y H2 Nx ex ey s2 k => ?_) (fun H2 s2 e2 => ?_)
      · obtain ⟨p, r, rfl, er, ep⟩ := LT.run t1 ex
        have ey := get_rep ey
        subst ey
        refine ⟨rfl, ?_⟩
        refine ⟨_, rfl, p, r, rfl, s2 _ _ ep, ok.run r (List.mem_of_getElem? er), k⟩
      · refine ⟨D, _, rfl, SqL.of e2, true, ?_, ?_⟩
        · rw [all_rep]
        refine iteF ?_
        have hx2 := s2 _ _ hx1
        have t2 := t1.same s2
        refine ⟨_, rfl, _, rfl, 1, rfl, a, xs, rfl, SqL.of hx2, fun c nc => ?_⟩
        have s3 : Same H2 (upd H2 c (.lst (cutV xs (some 1) none))) := same_upd nc
        have hx3 := s3 _ _ hx2
        have t3 := t2.same s3
        refine ⟨a, c, xs, _, rfl, SqL.of hx3, SqL.of upd_same, fun D2 nD2 => ?_⟩
        rw [cut1] at *
        refine lc_any (n := xs.length - 1) (Y := fun i x H => ∃ T u v, x = .ref T ∧ H T = some (.tup [u, v]) ∧ xs[i]? = some u ∧ xs[i + 1]? = some v) (ys := (List.replicate (xs.length - 1) true).map V.bl) (fun i H4 hi s4 => ?_) (fun H4 s4 => ?_) (fun i H4 x H5 hi s4 hy => ?_) nD2 (by simp) (size_lt (by omega)) (fun i x y H5 Nx hi hY ey s5 k => ?_) (fun H5 s5 e5 => ?_)
        · refine ⟨xs, xs.drop 1, xs[i], xs[i + 1], SqL.of (s4 _ _ hx3), SqL.of (s4 _ _ upd_same), List.getElem?_eq_getElem (by omega), ?_⟩
          rw [List.getElem?_drop, Nat.add_comm 1 i]
          exact List.getElem?_eq_getElem (by omega)
        · exact ⟨xs, xs.drop 1, SqL.of (s4 _ _ hx3), SqL.of (s4 _ _ upd_same), .inr (by rw [List.length_drop]; exact Nat.le_refl _)⟩
        · obtain ⟨T, u, v, rfl, nT, rfl, f1, f2⟩ := hy
          refine ⟨same_upd nT, T, u, v, rfl, upd_same, f1 _ (SqL.of (s4 _ _ hx3)), ?_⟩
          have := f2 _ (SqL.of (s4 _ _ upd_same))
          rw [List.getElem?_drop, Nat.add_comm 1 i] at this
          exact this
        · obtain ⟨T, u, v, rfl, eT, eu, ev⟩ := hY
          have ey := get_rep ey
          subst ey
          obtain ⟨p1, r1, rfl, er1, ep1⟩ := LT.run t3 eu
          obtain ⟨p2, r2, rfl, er2, ep2⟩ := LT.run t3 ev
          have hne := ok.adj i r1 r2 er1 er2
          refine ⟨T, _, rfl, SqT.of eT, rfl, _, _, rfl, _, [], rfl, rfl, rfl, ?_⟩
          refine ⟨_, rfl, p1, _, _, _, rfl, rfl, SqT.of (s5 _ _ ep1), atI_nat (j := 0) rfl, _, rfl, p2, _, _, _, rfl, rfl, SqT.of (s5 _ _ ep2), atI_nat (j := 0) rfl, rfl, ?_⟩
          exact blF (fun e => hne (V.str.inj e)) (k _ (Same.refl _))
        · refine ⟨D2, _, rfl, SqL.of e5, ?_⟩
          rw [all_rep]
          exact q _ (((s1.trans s2).trans s3).trans s5)
  exact ⟨⟨fd, G, F.bindsN (fun _ _ _ _ _ _ us hl => match us, hl with | [_], _ => rfl)⟩, F.kp, T.g_is_sequence⟩
theorem D_is_state (T : Tx K mg) : Dn P w K mg base 2 "is_state" ["value"] (sp_is_state) := by
  have D_is_listed := D_is_listed (P := P) (w := w) (base := base) T
  have D_is_kind := D_is_kind (P := P) (w := w) (base := base) T
  have D_is_integer := D_is_integer (P := P) (w := w) (base := base) T
  obtain ⟨fd, F⟩ := T.f_is_state
  have G : FnOk P w K mg base CX0 2 (He.fAd K ("is_state", none)) fd ["value"] sp_is_state := by
    refine ok0 F sc_is_state (fun vs H Q E h => ?_) (fun cdv A outer s H vs Q E hr h => ?_)
    · obtain ⟨rfl, _⟩ := h
      rfl
    · obtain ⟨rfl, q⟩ := h
      refine ⟨_, (pss_cons (ps_if (pt_cmpR op_isN (pv 0) pe_non (nomark _)) (pss_one (ps_ret pe_bl)) pss_nil)
      (pss_one (ps_ret (pe_and (pe_dn D_is_listed (hr.mono (by decide)) (by rfl) (pa_cons (pv 0) pa_nil)) (pe_and (pe_cmpR op_eq (pe_callB call_len_seq (by rfl) T.m_len (by decide +kernel) (pa_cons (pv 0) pa_nil)) pe_int (nomark _)) (pe_and (pe_dn D_is_kind (hr.mono (by decide)) (by rfl) (pa_cons (pe_ix (r := rIxT K) ix_tup (pv 0) pe_int (fun _ _ => rfl)) pa_nil)) (pe_one (pe_dd D_is_integer (hr.mono (by decide)) (by rfl) (pa_cons (pe_ix (r := rIxT K) ix_tup (pv 0) pe_int (fun _ _ => rfl)) (pa_cons pe_int pa_nil)))))))))), ?_⟩
      refine ⟨_, rfl, rfl, _, rfl, ?_⟩
      exact iteD rfl q
  exact ⟨⟨fd, G, F.bindsN (fun _ _ _ _ _ _ us hl => match us, hl with | [_], _ => rfl)⟩, F.kp, T.g_is_state⟩
theorem D_check_state (T : Tx K mg) : Dn P w K mg base 3 "check_state" ["value"] (sp_check_state) := by
  have D_is_state := D_is_state (P := P) (w := w) (base := base) T
  obtain ⟨fd, F⟩ := T.f_check_state
  have G : FnOk P w K mg base CX0 3 (He.fAd K ("check_state", none)) fd ["value"] sp_check_state := by
    refine ok0 F sc_check_state (fun vs H Q E h => ?_) (fun cdv A outer s H vs Q E hr h => ?_)
    · obtain ⟨rfl, _⟩ := h
      rfl
    · obtain ⟨rfl, q⟩ := h
      refine ⟨_, (pss_one (ps_if (pt_not (pt_val (pe_dn D_is_state (hr.mono (by decide)) (by rfl) (pa_cons (pv 0) pa_nil)))) (pss_one ps_never) pss_nil)), ?_⟩
      refine ⟨_, rfl, rfl, _, rfl, ?_⟩
      exact iteF q
  exact ⟨⟨fd, G, F.bindsN (fun _ _ _ _ _ _ us hl => match us, hl with | [_], _ => rfl)⟩, F.kp, T.g_check_state⟩
theorem D_check_sequence (T : Tx K mg) : Dn P w K mg base 4 "check_sequence" ["value"] (sp_check_sequence) := by
  have D_is_sequence := D_is_sequence (P := P) (w := w) (base := base) T
  obtain ⟨fd, F⟩ := T.f_check_sequence
  have G : FnOk P w K mg base CX0 4 (He.fAd K ("check_sequence", none)) fd ["value"] sp_check_sequence := by
    refine ok0 F sc_check_sequence (fun vs H Q E h => ?_) (fun cdv A outer s H vs Q E hr h => ?_)
    · obtain ⟨a, rs, rfl, _⟩ := h
      rfl
    · obtain ⟨a, rs, rfl, lt, ok, q⟩ := h
      refine ⟨_, (pss_one (ps_if (pt_not (pt_val (pe_dn D_is_sequence (hr.mono (by decide)) (by rfl) (pa_cons (pv 0) pa_nil)))) (pss_one ps_never) pss_nil)), ?_⟩
      refine ⟨_, rfl, a, rs, rfl, lt, ok, fun H1 s1 => ⟨_, rfl, ?_⟩⟩
      exact iteF (q _ s1)
  exact ⟨⟨fd, G, F.bindsN (fun _ _ _ _ _ _ us hl => match us, hl with | [_], _ => rfl)⟩, F.kp, T.g_check_sequence⟩
theorem D_checked_runs (T : Tx K mg) : Dn P w K mg base 5 "checked_runs" ["sequence"] (sp_checked_runs) := by
  have D_check_sequence := D_check_sequence (P := P) (w := w) (base := base) T
  obtain ⟨fd, F⟩ := T.f_checked_runs
  have G : FnOk P w K mg base CX0 5 (He.fAd K ("checked_runs", none)) fd ["sequence"] sp_checked_runs := by
    refine ok0 F sc_checked_runs (fun vs H Q E h => ?_) (fun cdv A outer s H vs Q E hr h => ?_)
    · obtain ⟨a, rs, rfl, _⟩ := h
      rfl
    · obtain ⟨a, rs, rfl, lt, ok, q⟩ := h
      refine ⟨_, (pss_cons (ps_expr (pe_dn D_check_sequence (hr.mono (by decide)) (by rfl) (pa_cons (pv 0) pa_nil)))
      (pss_one (ps_ret (pe_lc (own := [("run", 1)]) (g := gName 1) (tt := tYes) rfl sc_checked_runs.nd (pi_list (pv 0)) (blkOk_by (own := [("run", 1)]) (N := sl_checked_runs) (sc := defScope s_checked_runs) (by decide +kernel)) (fun _ _ _ _ _ => (pg_name (i := 1) sc_checked_runs.nd rfl (.inl rfl))) (fun _ _ _ _ _ => pts_nil) (fun _ _ _ _ _ => (pe_callTy (T := "tuple") (r := rTupOf K) call_tupK (by rfl) T.m_tuple (by decide +kernel) (pa_cons (pv 1) pa_nil))))))), ?_⟩
      refine ⟨_, rfl, a, rs, rfl, lt, ok, fun H1 s1 => ?_⟩
      obtain ⟨xs, hx, t⟩ := lt.same s1
      have hxl : xs.length = rs.length := t.1.trans (List.length_map _)
      have hl := ok.len
      refine ⟨_, rfl, a, rfl, ⟨_, SqL.of hx⟩, fun D nD => ?_⟩
      refine lc_to (xs := xs) (ys := xs) (SqL.of hx) nD rfl (size_lt (by omega)) (fun i x y H2 Nx ex ey s2 k => ?_) (fun H2 s2 e2 => ?_)
      · obtain ⟨p, r, rfl, er, ep⟩ := LT.run t ex
        rw [ex] at ey
        have ey := Option.some.inj ey
        subst ey
        exact ⟨rfl, _, rfl, p, _, rfl, .inr ⟨SqT.of (s2 _ _ ep), k _ (Same.refl _)⟩⟩
      · exact q _ _ (s1.trans s2) (s1.free nD) ⟨xs, e2, t.same s2⟩
  exact ⟨⟨fd, G, F.bindsN (fun _ _ _ _ _ _ us hl => match us, hl with | [_], _ => rfl)⟩, F.kp, T.g_checked_runs⟩
theorem D_length_of (T : Tx K mg) : Dn P w K mg base 1 "length_of" ["runs"] (sp_length_of) := by
  obtain ⟨fd, F⟩ := T.f_length_of
  have G : FnOk P w K mg base CX0 1 (He.fAd K ("length_of", none)) fd ["runs"] sp_length_of := by
    refine ok0 F sc_length_of (fun vs H Q E h => ?_) (fun cdv A outer s H vs Q E hr h => ?_)
    · obtain ⟨a, rs, rfl, _⟩ := h
      rfl
    · obtain ⟨a, rs, rfl, ⟨xs, hx, t⟩, hl, q⟩ := h
      have hxl : xs.length = rs.length := t.1.trans (List.length_map _)
      refine ⟨_, (pss_one (ps_ret (pe_callB (cr_sum rfl) (by rfl) T.m_sum (by decide +kernel) (pa_cons (pe_lc (own := [("kind", 1), ("count", 2)]) (g := gTup K 2 (gCons (gName 1) (gCons (gName 2) (gNil)))) (tt := tYes) rfl sc_length_of.nd (pi_list (pv 0)) (blkOk_by (own := [("kind", 1), ("count", 2)]) (N := sl_length_of) (sc := defScope s_length_of) (by decide +kernel)) (fun _ _ _ _ _ => (pg_tup rfl (pgs_cons (pg_name (i := 1) sc_length_of.nd rfl (.inl rfl)) (pgs_cons (pg_name (i := 2) sc_length_of.nd rfl (.inl rfl)) pgs_nil)))) (fun _ _ _ _ _ => pts_nil) (fun _ _ _ _ _ => (pv 2))) pa_nil)))), ?_⟩
      refine ⟨_, rfl, a, rfl, ⟨_, SqL.of hx⟩, fun D nD => ?_⟩
      refine lc_to (xs := xs) (ys := (rs.map (·.2)).map V.int) (SqL.of hx) nD (by simp [hxl]) (size_lt (by omega)) (fun i x y H2 Nx ex ey s2 k => ?_) (fun H2 s2 e2 => ?_)
      · obtain ⟨p, r, rfl, er, ep⟩ := LT.run t ex
        rw [List.getElem?_map, List.getElem?_map, er] at ey
        have ey := Option.some.inj ey
        subst ey
        exact ⟨p, _, rfl, SqT.of (s2 _ _ ep), rfl, _, _, rfl, _, [], rfl, rfl, rfl, _, rfl, k _ (Same.refl _)⟩
      · exact ⟨D, _, rfl, SqL.of e2, q _ s2⟩
  exact ⟨⟨fd, G, F.bindsN (fun _ _ _ _ _ _ us hl => match us, hl with | [_], _ => rfl)⟩, F.kp, T.g_length_of⟩
theorem D_law_length (T : Tx K mg) : Dn P w K mg base 1 "_law_length" ["sequence"] (sp_law_length) := by
  obtain ⟨fd, F⟩ := T.f_law_length
  have G : FnOk P w K mg base CX0 1 (He.fAd K ("_law_length", none)) fd ["sequence"] sp_law_length := by
    refine ok0 F sc_law_length (fun vs H Q E h => ?_) (fun cdv A outer s H vs Q E hr h => ?_)
    · obtain ⟨a, rs, rfl, _⟩ := h
      rfl
    · obtain ⟨a, rs, rfl, ⟨xs, hx, t⟩, hl, q⟩ := h
      have hxl : xs.length = rs.length := t.1.trans (List.length_map _)
      refine ⟨_, (pss_one (ps_ret (pe_callB (cr_sum rfl) (by rfl) T.m_sum (by decide +kernel) (pa_cons (pe_lc (own := [("kind", 1), ("count", 2)]) (g := gTup K 2 (gCons (gName 1) (gCons (gName 2) (gNil)))) (tt := tYes) rfl sc_law_length.nd (pi_list (pv 0)) (blkOk_by (own := [("kind", 1), ("count", 2)]) (N := sl_law_length) (sc := defScope s_law_length) (by decide +kernel)) (fun _ _ _ _ _ => (pg_tup rfl (pgs_cons (pg_name (i := 1) sc_law_length.nd rfl (.inl rfl)) (pgs_cons (pg_name (i := 2) sc_law_length.nd rfl (.inl rfl)) pgs_nil)))) (fun _ _ _ _ _ => pts_nil) (fun _ _ _ _ _ => (pv 2))) pa_nil)))), ?_⟩
      refine ⟨_, rfl, a, rfl, ⟨_, SqL.of hx⟩, fun D nD => ?_⟩
      refine lc_to (xs := xs) (ys := (rs.map (·.2)).map V.int) (SqL.of hx) nD (by simp [hxl]) (size_lt (by omega)) (fun i x y H2 Nx ex ey s2 k => ?_) (fun H2 s2 e2 => ?_)
      · obtain ⟨p, r, rfl, er, ep⟩ := LT.run t ex
        rw [List.getElem?_map, List.getElem?_map, er] at ey
        have ey := Option.some.inj ey
        subst ey
        exact ⟨p, _, rfl, SqT.of (s2 _ _ ep), rfl, _, _, rfl, _, [], rfl, rfl, rfl, _, rfl, k _ (Same.refl _)⟩
      · exact ⟨D, _, rfl, SqL.of e2, q _ s2⟩
  exact ⟨⟨fd, G, F.bindsN (fun _ _ _ _ _ _ us hl => match us, hl with | [_], _ => rfl)⟩, F.kp, T.g_law_length⟩
theorem D_check_position (T : Tx K mg) : Dn P w K mg base 2 "check_position" ["value", "high"] (sp_check_position) := by
  have D_is_integer := D_is_integer (P := P) (w := w) (base := base) T
  obtain ⟨fd, F⟩ := T.f_check_position
  have G : FnOk P w K mg base CX0 2 (He.fAd K ("check_position", none)) fd ["value", "high"] sp_check_position := by
    refine ok0 F sc_check_position (fun vs H Q E h => ?_) (fun cdv A outer s H vs Q E hr h => ?_)
    · obtain ⟨n, h, rfl, _⟩ := h
      rfl
    · obtain ⟨n, h, rfl, h0, h1, q⟩ := h
      refine ⟨_, (pss_one (ps_if (pt_not (pt_val (pe_dn D_is_integer.n (hr.mono (by decide)) (by rfl) (pa_cons (pv 0) (pa_cons pe_int (pa_cons (pv 1) pa_nil)))))) (pss_one ps_never) pss_nil)), ?_⟩
      refine ⟨_, rfl, _, rfl, n, 0, _, rfl, h0, .inr ⟨h, rfl, h1⟩, _, rfl, ?_⟩
      exact iteF q
  exact ⟨⟨fd, G, F.bindsN (fun _ _ _ _ _ _ us hl => match us, hl with | [_, _], _ => rfl)⟩, F.kp, T.g_check_position⟩
theorem D_part_by (T : Tx K mg) : Dn P w K mg base 1 "part_by" ["runs", "start", "length"] (sp_part_by) := by
  obtain ⟨fd, F⟩ := T.f_part_by
  have G : FnOk P w K mg base CX0 1 (He.fAd K ("part_by", none)) fd ["runs", "start", "length"] sp_part_by := by
    refine ok0 F sc_part_by (fun vs H Q E h => ?_) (fun cdv A outer s H vs Q E hr h => ?_)
    · obtain ⟨a, rs, s, l, rfl, _⟩ := h
      rfl
    · obtain ⟨a, rs, s, l, rfl, ⟨xs, hx, t⟩, hl, hpos, hs, hle, q⟩ := h
      have hxl : xs.length = rs.length := t.1.trans (List.length_map _)
      refine ⟨_, (pss_cons (ps_set (i := 3) sc_part_by.nd rfl (.inl rfl) (pe_lst pa_nil))
      (pss_cons (ps_set (i := 4) sc_part_by.nd rfl (.inl rfl) pe_int)
      (pss_cons (ps_for PassesOwn.never rfl (pi_list (pv 0)) (pg_tup rfl (pgs_cons (pg_name (i := 5) sc_part_by.nd rfl (.inl rfl)) (pgs_cons (pg_name (i := 6) sc_part_by.nd rfl (.inl rfl)) pgs_nil)))
        (pss_cons (ps_par (i := 7) (j := 8) (by rfl) sc_part_by.nd rfl rfl (by decide) rfl rfl (pa_cons (pe_callB (call_max2 rfl) (by rfl) T.m_max (by decide +kernel) (pa_cons (pv 4) (pa_cons (pv 1) pa_nil))) (pa_cons (pe_callB (call_min2 rfl) (by rfl) T.m_min (by decide +kernel) (pa_cons (pe_op op_add (pv 4) (pv 6)) (pa_cons (pe_op op_add (pv 1) (pv 2)) pa_nil))) pa_nil)) (by rfl))
        (pss_cons (ps_if (pt_cmpR op_lt (pv 7) (pv 8) (nomark _)) (pss_one (ps_expr (pe_bm PySem.F.plainAttrs_list PySem.F.slot_list_append PySem.F.type_list_append mt_append (pv 3) (pa_cons (pe_tup (pa_cons (pv 5) (pa_cons (pe_op op_sub (pv 8) (pv 7)) pa_nil))) pa_nil)))) pss_nil)
        (pss_one (ps_aug (i := 4) sc_part_by.nd rfl (.inl rfl) (pv 6) ip_add)))))
      (pss_one (ps_ret (pv 3)))))), ?_⟩
      refine ⟨Nat.zero_le _, fun o no => ?_⟩
      have s1 : Same H (upd H o (.lst [])) := same_upd no
      refine ⟨_, rfl, a, rfl, ⟨_, SqL.of (s1 _ _ hx)⟩, for_list (K := K) (a := a) (xs := xs) (fun i σ H' => ∃ (b : Int) (rs' : List (Str × Int)) (zs : List V) (v5 v6 v7 v8 : Option V), σ = [some (.ref a), some (.int s), some (.int l), some (.ref o), some (.int b), v5, v6, v7, v8] ∧
        Same H H' ∧ H' o = some (.lst zs) ∧ TL H' zs (rs'.map dRun) ∧ b = ((items (rs.take i)).length : Int) ∧ PartOk (rs.take i) s l rs')
        ⟨0, [], [], none, none, none, none, rfl, s1, upd_same, TL.nil, rfl, ⟨fun r hr => (nomatch hr), Nat.zero_le _, by simp [items]⟩⟩ (fun i σ H' _ ⟨_, _, _, _, _, _, _, _, s2, _⟩ => SqL.of (s2 _ _ hx)) ?_ ?_⟩
      · rintro i x σ H' ex ⟨b, rs', zs, v5, v6, v7, v8, rfl, s2, eo, tz, eb, pok⟩
        obtain ⟨p, ⟨k, c⟩, rfl, er, ep⟩ := LT.run t ex
        have hc : 1 ≤ c := hpos (k, c) (List.mem_of_getElem? er)
        refine ⟨p, _, rfl, SqT.of (s2 _ _ ep), rfl, _, _, rfl, _, [], rfl, rfl, ?_⟩
        refine ⟨_, rfl, _, rfl, b, s, rfl, _, rfl, _, rfl, _, _, rfl, rfl, _, rfl, _, rfl, _, _, rfl, rfl, b + c, s + l, rfl, _, _, rfl, ?_⟩
        have step := part_step (k := k) (c := c) pok.its eb hs hle hc
        have hl2 : (rs.take (i + 1)).length = (rs.take i).length + 1 := by rw [take_snoc er, List.length_append]; rfl
        have eb2 : b + c = ((items (rs.take (i + 1))).length : Int) := by
          rw [take_snoc er, items_append, items_one, List.length_append, List.length_replicate]
          omega
        refine ⟨_, rfl, _, rfl, _, _, rfl, rfl, _, rfl, ite2 (fun hlt => ?_) (fun hlt => ?_)⟩
        · have hlt := of_decide_eq_true hlt
          rw [if_pos hlt] at step
          refine ⟨_, rfl, .inl ⟨rfl, _, SqL.of eo⟩, _, rfl, _, rfl, _, rfl, _, _, rfl, rfl, (by show 2 ≤ sizeLine; decide), fun u nu => ?_⟩
          have nou : o ≠ u := ne_of_none eo nu
          have hz : zs.length ≤ 1000 := by
            have h1 := tz.1
            rw [List.length_map] at h1
            have h2 := pok.len
            rw [List.length_take] at h2
            omega
          obtain ⟨s3, zz, e3, t3⟩ := LT.push s2 no eo tz nu (d := dRun (k, (if s + l < b + c then s + l else b + c) - (if s > b then s else b)))
          refine ⟨o, zs, _, rfl, rfl, Eq.trans (upd_ne nou) eo, size_lt (by omega), ?_⟩
          refine ⟨_, rfl, _, rfl, b, c, rfl, rfl, b + c, rs' ++ [(k, (if s + l < b + c then s + l else b + c) - (if s > b then s else b))], zz, _, _, _, _, rfl, s3, e3, ?_, eb2, ?_⟩
          · rw [List.map_append]
            exact t3
          · refine ⟨fun r hr => ?_, ?_, ?_⟩
            · rcases List.mem_append.mp hr with hr | hr
              · exact pok.pos r hr
              · rw [List.mem_singleton.mp hr]
                show 1 ≤ _ - _
                omega
            · rw [List.length_append, hl2]
              have := pok.len
              simp only [List.length_singleton]
              omega
            · rw [take_snoc er]
              exact step
        · have hlt := fun z => hlt (decide_eq_true z)
          rw [if_neg hlt] at step
          refine ⟨_, rfl, _, rfl, b, c, rfl, rfl, b + c, rs', zs, _, _, _, _, rfl, s2, eo, tz, eb2, pok.pos, ?_, ?_⟩
          · rw [hl2]
            exact Nat.le_succ_of_le pok.len
          · rw [take_snoc er]
            exact step
      · rintro σ H' ⟨b, rs', zs, v5, v6, v7, v8, rfl, s2, eo, tz, eb, pok⟩
        rw [hxl, List.take_length] at pok
        exact ⟨_, rfl, q H' o rs' s2 no ⟨zs, eo, tz⟩ pok⟩
  exact ⟨⟨fd, G, F.bindsN (fun _ _ _ _ _ _ us hl => match us, hl with | [_, _, _], _ => rfl)⟩, F.kp, T.g_part_by⟩
theorem D_kind_at (T : Tx K mg) : Dn P w K mg base 6 "kind_at" ["sequence", "position"] (sp_kind_at) := by
  have D_checked_runs := D_checked_runs (P := P) (w := w) (base := base) T
  have D_check_position := D_check_position (P := P) (w := w) (base := base) T
  have D_length_of := D_length_of (P := P) (w := w) (base := base) T
  have D_part_by := D_part_by (P := P) (w := w) (base := base) T
  obtain ⟨fd, F⟩ := T.f_kind_at
  have G : FnOk P w K mg base CX0 6 (He.fAd K ("kind_at", none)) fd ["sequence", "position"] sp_kind_at := by
    refine ok0 F sc_kind_at (fun vs H Q E h => ?_) (fun cdv A outer s H vs Q E hr h => ?_)
    · obtain ⟨a, rs, p, rfl, _⟩ := h
      rfl
    · obtain ⟨a, rs, p, rfl, lt, ok, h0, h1, q⟩ := h
      have hl := ok.len
      refine ⟨_, (pss_cons (ps_set (i := 2) sc_kind_at.nd rfl (.inl rfl) (pe_dn D_checked_runs (hr.mono (by decide)) (by rfl) (pa_cons (pv 0) pa_nil)))
      (pss_cons (ps_expr (pe_dn D_check_position (hr.mono (by decide)) (by rfl) (pa_cons (pv 1) (pa_cons (pe_op op_sub (pe_dn D_length_of (hr.mono (by decide)) (by rfl) (pa_cons (pv 2) pa_nil)) pe_int) pa_nil))))
      (pss_one (ps_ret (pe_ix (r := rIxT K) ix_tup (pe_ix (r := rIxL K) ix_list (pe_dn D_part_by (hr.mono (by decide)) (by rfl) (pa_cons (pv 2) (pa_cons (pv 1) (pa_cons pe_int pa_nil)))) pe_int (fun _ _ => rfl)) pe_int (fun _ _ => rfl)))))), ?_⟩
      refine ⟨_, rfl, a, rs, rfl, lt, ok, fun H1 o s1 no lt1 => ?_⟩
      refine ⟨_, rfl, _, rfl, o, rs, rfl, lt1, by omega, fun H2 s2 => ?_⟩
      refine ⟨_, _, rfl, rfl, p, _, rfl, h0, ?_, ?_⟩
      · rw [items_len rs ok.pos] at h1
        show p ≤ (rs.map (·.2)).sum - 1
        omega
      · refine ⟨_, rfl, _, rfl, o, rs, p, 1, rfl, lt1.same s2, by omega, ok.pos, h0, by decide, fun H3 u rs' s3 nu lt3 pok => ?_⟩
        obtain ⟨z, c, r, rfl, ez⟩ := part_head pok h0 h1
        obtain ⟨ys, y, e1, _, e2, e3⟩ := lt3.at_ (i := 0) rfl
        refine ⟨u, ys, 0, _, rfl, rfl, SqL.of e1, atI_nat (j := 0) e2, y, _, 0, _, rfl, rfl, SqT.of e3, atI_nat (j := 0) rfl, ?_⟩
        exact q _ _ ((s1.trans s2).trans s3) ez
  exact ⟨⟨fd, G, F.bindsN (fun _ _ _ _ _ _ us hl => match us, hl with | [_, _], _ => rfl)⟩, F.kp, T.g_kind_at⟩
end
end Uk
/-! The state after arrivals. -/
namespace Uk
open PySem PySem.Spec PyProof.Rows L2
abbrev sl_own_state : List Str := ["state"]
theorem sc_own_state : FnScope sl_own_state ["state"] (defScope s_own_state) := ⟨rfl, rfl, rfl, by decide +kernel, rfl, by decide +kernel, by decide +kernel⟩
abbrev sl_checked_state : List Str := ["state"]
theorem sc_checked_state : FnScope sl_checked_state ["state"] (defScope s_checked_state) := ⟨rfl, rfl, rfl, by decide +kernel, rfl, by decide +kernel, by decide +kernel⟩
abbrev sl_after_run : List Str := ["state", "kind", "count", "waiting_kind", "waiting"]
theorem sc_after_run : FnScope sl_after_run ["state", "kind", "count"] (defScope s_after_run) := ⟨rfl, rfl, rfl, by decide +kernel, rfl, by decide +kernel, by decide +kernel⟩
abbrev sl_after_runs : List Str := ["runs", "state", "kind", "count"]
theorem sc_after_runs : FnScope sl_after_runs ["runs", "state"] (defScope s_after_runs) := ⟨rfl, rfl, rfl, by decide +kernel, rfl, by decide +kernel, by decide +kernel⟩
abbrev sl_state_at : List Str := ["sequence", "moment", "state", "runs"]
theorem sc_state_at : FnScope sl_state_at ["sequence", "moment", "state"] (defScope s_state_at) := ⟨rfl, rfl, rfl, by decide +kernel, rfl, by decide +kernel, by decide +kernel⟩
/-- v is the state s -/
def StV (H : Hp) (v : V) (s : Option (Str × Int)) : Prop := match s with
  | none => v = .non
  | some r => ∃ p, v = .ref p ∧ H p = some (.tup (dRun r))
theorem StV.same {H H' : Hp} {v : V} {s : Option (Str × Int)} (e : Same H H') (h : StV H v s) : StV H' v s := by
  cases s with
  | none => exact h
  | some r =>
    obtain ⟨p, e1, e2⟩ := h
    exact ⟨p, e1, e _ _ e2⟩
def sp_own_state : Sp := fun vs H Q _ => vs = [.non] ∧ Q .non H
def sp_checked_state : Sp := fun vs H Q _ => vs = [.non] ∧ Q .non H
def sp_after_run : Sp := fun vs H Q _ => ∃ (v : V) (k : Str) (c : Int) (s : Option (Str × Int)), vs = [v, .str k, .int c] ∧ StV H v s ∧ ∀ H' u, Same H H' → StV H' u (afterRun s k c) → Q u H'
def sp_after_runs : Sp := fun vs H Q _ => ∃ (a : Addr) (rs : List (Str × Int)), vs = [.ref a, .non] ∧ LT H a (rs.map dRun) ∧ (∀ r ∈ rs, 1 ≤ r.2) ∧ ∀ H' u, Same H H' → StV H' u (stOf (F (items rs))) → Q u H'
def sp_state_at : Sp := fun vs H Q _ => ∃ (a : Addr) (rs : List (Str × Int)) (m : Int), vs = [.ref a, .int m, .non] ∧ LT H a (rs.map dRun) ∧ SeqOk rs ∧ 0 ≤ m ∧ m ≤ ((items rs).length : Int) ∧
  ∀ H' u, Same H H' → StV H' u (stOf (F ((items rs).take m.toNat))) → Q u H'
section
variable {P : Program} {w : World} {K : PySem.W.Frag} {mg : Str → Option Value} {base : Heap}
theorem D_own_state (T : Tx K mg) : Dn P w K mg base 1 "own_state" ["state"] (sp_own_state) := by
  obtain ⟨fd, F⟩ := T.f_own_state
  have G : FnOk P w K mg base CX0 1 (He.fAd K ("own_state", none)) fd ["state"] sp_own_state := by
    refine ok0 F sc_own_state (fun vs H Q E h => ?_) (fun cdv A outer s H vs Q E hr h => ?_)
    · obtain ⟨rfl, _⟩ := h
      rfl
    · obtain ⟨rfl, q⟩ := h
      refine ⟨_, (pss_one (ps_ret (pe_ifExp (pt_cmpR op_isN (pv 0) pe_non (nomark _)) pe_non (pe_callTy (T := "tuple") (r := rTupOf K) call_tupK (by rfl) T.m_tuple (by decide +kernel) (pa_cons (pv 0) pa_nil))))), ?_⟩
      refine ⟨_, rfl, rfl, _, rfl, ?_⟩
      exact iteD rfl q
  exact ⟨⟨fd, G, F.bindsN (fun _ _ _ _ _ _ us hl => match us, hl with | [_], _ => rfl)⟩, F.kp, T.g_own_state⟩
theorem D_checked_state (T : Tx K mg) : Dn P w K mg base 4 "checked_state" ["state"] (sp_checked_state) := by
  have D_check_state := D_check_state (P := P) (w := w) (base := base) T
  have D_own_state := D_own_state (P := P) (w := w) (base := base) T
  obtain ⟨fd, F⟩ := T.f_checked_state
  have G : FnOk P w K mg base CX0 4 (He.fAd K ("checked_state", none)) fd ["state"] sp_checked_state := by
    refine ok0 F sc_checked_state (fun vs H Q E h => ?_) (fun cdv A outer s H vs Q E hr h => ?_)
    · obtain ⟨rfl, _⟩ := h
      rfl
    · obtain ⟨rfl, q⟩ := h
      refine ⟨_, (pss_cons (ps_expr (pe_dn D_check_state (hr.mono (by decide)) (by rfl) (pa_cons (pv 0) pa_nil)))
      (pss_one (ps_ret (pe_dn D_own_state (hr.mono (by decide)) (by rfl) (pa_cons (pv 0) pa_nil))))), ?_⟩
      exact ⟨_, rfl, rfl, _, rfl, rfl, q⟩
  exact ⟨⟨fd, G, F.bindsN (fun _ _ _ _ _ _ us hl => match us, hl with | [_], _ => rfl)⟩, F.kp, T.g_checked_state⟩
theorem D_after_run (T : Tx K mg) : Dn P w K mg base 1 "after_run" ["state", "kind", "count"] (sp_after_run) := by
  obtain ⟨fd, F⟩ := T.f_after_run
  have G : FnOk P w K mg base CX0 1 (He.fAd K ("after_run", none)) fd ["state", "kind", "count"] sp_after_run := by
    refine ok0 F sc_after_run (fun vs H Q E h => ?_) (fun cdv A outer s H vs Q E hr h => ?_)
    · obtain ⟨v, k, c, s, rfl, _⟩ := h
      rfl
    · obtain ⟨v, k, c, s, rfl, sv, q⟩ := h
      refine ⟨_, (pss_cons (ps_if (pt_cmpR op_isN (pv 0) pe_non (nomark _)) (pss_one (ps_ret (pe_tup (pa_cons (pv 1) (pa_cons (pv 2) pa_nil))))) pss_nil)
      (pss_cons (ps_asg (pv 0) (pg_tup rfl (pgs_cons (pg_name (i := 3) sc_after_run.nd rfl (.inl rfl)) (pgs_cons (pg_name (i := 4) sc_after_run.nd rfl (.inl rfl)) pgs_nil))))
      (pss_cons (ps_if (pt_cmpR op_eq (pv 3) (pv 1) (nomark _)) (pss_one (ps_ret (pe_tup (pa_cons (pv 1) (pa_cons (pe_op op_add (pv 4) (pv 2)) pa_nil))))) pss_nil)
      (pss_cons (ps_if (pt_cmpR op_gt (pv 4) (pv 2) (nomark _)) (pss_one (ps_ret (pe_tup (pa_cons (pv 3) (pa_cons (pe_op op_sub (pv 4) (pv 2)) pa_nil))))) pss_nil)
      (pss_one (ps_ret (pe_ifExp (pt_cmpR op_gt (pv 2) (pv 4) (nomark _)) (pe_tup (pa_cons (pv 1) (pa_cons (pe_op op_sub (pv 2) (pv 4)) pa_nil))) pe_non))))))), ?_⟩
      refine ⟨_, rfl, rfl, _, rfl, ?_⟩
      cases s with
      | none =>
        have sv : v = .non := sv
        subst sv
        refine iteD rfl ?_
        refine ⟨_, rfl, _, rfl, (by show 2 ≤ sizeLine; decide), fun p np => ?_⟩
        exact q _ _ (same_upd np) ⟨p, rfl, upd_same⟩
      | some r =>
        obtain ⟨z, n⟩ := r
        obtain ⟨p, rfl, ep⟩ := sv
        refine iteND (fun z => nomatch z) ?_
        refine ⟨_, rfl, p, _, rfl, SqT.of ep, rfl, _, _, rfl, _, [], rfl, rfl, ?_⟩
        refine ⟨_, rfl, _, rfl, rfl, _, rfl, ite2 (fun e => ?_) (fun e => ?_)⟩
        · have e : z = k := V.str.inj (of_decide_eq_true e)
          refine ⟨_, rfl, _, rfl, _, rfl, n, c, rfl, rfl, (by show 2 ≤ sizeLine; decide), fun u nu => ?_⟩
          refine q _ _ (same_upd nu) ?_
          show StV _ _ (if z = k then some (k, n + c) else _)
          rw [if_pos e]
          exact ⟨u, rfl, upd_same⟩
        · have e : ¬ z = k := fun x => e (decide_eq_true (congrArg V.str x))
          refine ⟨_, rfl, _, rfl, n, c, rfl, rfl, _, rfl, ite2 (fun e2 => ?_) (fun e2 => ?_)⟩
          · have e2 := of_decide_eq_true e2
            refine ⟨_, rfl, _, rfl, _, rfl, n, c, rfl, rfl, (by show 2 ≤ sizeLine; decide), fun u nu => ?_⟩
            refine q _ _ (same_upd nu) ?_
            show StV _ _ (if z = k then _ else if n > c then some (z, n - c) else _)
            rw [if_neg e, if_pos e2]
            exact ⟨u, rfl, upd_same⟩
          · have e2 : ¬ n > c := fun x => e2 (decide_eq_true x)
            refine ⟨_, rfl, _, rfl, c, n, rfl, rfl, _, rfl, ite2 (fun e3 => ?_) (fun e3 => ?_)⟩
            · have e3 := of_decide_eq_true e3
              refine ⟨_, rfl, _, rfl, _, rfl, c, n, rfl, rfl, (by show 2 ≤ sizeLine; decide), fun u nu => ?_⟩
              refine q _ _ (same_upd nu) ?_
              show StV _ _ (if z = k then _ else if n > c then _ else if c > n then some (k, c - n) else _)
              rw [if_neg e, if_neg e2, if_pos e3]
              exact ⟨u, rfl, upd_same⟩
            · have e3 : ¬ c > n := fun x => e3 (decide_eq_true x)
              refine q _ _ (Same.refl _) ?_
              show StV _ _ (if z = k then _ else if n > c then _ else if c > n then _ else none)
              rw [if_neg e, if_neg e2, if_neg e3]
              rfl
  exact ⟨⟨fd, G, F.bindsN (fun _ _ _ _ _ _ us hl => match us, hl with | [_, _, _], _ => rfl)⟩, F.kp, T.g_after_run⟩
theorem D_after_runs (T : Tx K mg) : Dn P w K mg base 2 "after_runs" ["runs", "state"] (sp_after_runs) := by
  have D_after_run := D_after_run (P := P) (w := w) (base := base) T
  obtain ⟨fd, F⟩ := T.f_after_runs
  have G : FnOk P w K mg base CX0 2 (He.fAd K ("after_runs", none)) fd ["runs", "state"] sp_after_runs := by
    refine ok0 F sc_after_runs (fun vs H Q E h => ?_) (fun cdv A outer s H vs Q E hr h => ?_)
    · obtain ⟨a, rs, rfl, _⟩ := h
      rfl
    · obtain ⟨a, rs, rfl, ⟨xs, hx, t⟩, hpos, q⟩ := h
      have hxl : xs.length = rs.length := t.1.trans (List.length_map _)
      refine ⟨_, (pss_cons (ps_for PassesOwn.never rfl (pi_list (pv 0)) (pg_tup rfl (pgs_cons (pg_name (i := 2) sc_after_runs.nd rfl (.inl rfl)) (pgs_cons (pg_name (i := 3) sc_after_runs.nd rfl (.inl rfl)) pgs_nil)))
        (pss_one (ps_set (i := 1) sc_after_runs.nd rfl (.inl rfl) (pe_dn D_after_run (hr.mono (by decide)) (by rfl) (pa_cons (pv 1) (pa_cons (pv 2) (pa_cons (pv 3) pa_nil)))))))
      (pss_one (ps_ret (pv 1)))), ?_⟩
      refine ⟨_, rfl, a, rfl, ⟨_, SqL.of hx⟩, for_list (K := K) (a := a) (xs := xs) (fun i σ H' => ∃ (u : V) (v2 v3 : Option V), σ = [some (.ref a), some u, v2, v3] ∧ Same H H' ∧ StV H' u (stOf (Uk.F (items (rs.take i)))))
        ⟨.non, none, none, rfl, Same.refl _, rfl⟩ (fun i σ H' _ ⟨_, _, _, _, s2, _⟩ => SqL.of (s2 _ _ hx)) ?_ ?_⟩
      · rintro i x σ H' ex ⟨u, v2, v3, rfl, s2, sv⟩
        obtain ⟨p, ⟨k, c⟩, rfl, er, ep⟩ := LT.run t ex
        have hc : 1 ≤ c := hpos (k, c) (List.mem_of_getElem? er)
        refine ⟨p, _, rfl, SqT.of (s2 _ _ ep), rfl, _, _, rfl, _, [], rfl, rfl, ?_⟩
        refine ⟨_, rfl, _, rfl, _, rfl, u, k, c, _, rfl, sv, fun H3 u3 s3 sv3 => ?_⟩
        refine ⟨u3, _, _, rfl, s2.trans s3, ?_⟩
        rw [afterRun_F (ok_F _) hc, ← F_items_snoc, ← take_snoc er] at sv3
        exact sv3
      · rintro σ H' ⟨u, v2, v3, rfl, s2, sv⟩
        rw [hxl, List.take_length] at sv
        exact ⟨_, rfl, q _ _ s2 sv⟩
  exact ⟨⟨fd, G, F.bindsN (fun _ _ _ _ _ _ us hl => match us, hl with | [_, _], _ => rfl)⟩, F.kp, T.g_after_runs⟩
theorem D_state_at (T : Tx K mg) : Dd P w K mg base 6 "state_at" ["sequence", "moment", "state"] (sp_state_at) := by
  have D_checked_runs := D_checked_runs (P := P) (w := w) (base := base) T
  have D_check_position := D_check_position (P := P) (w := w) (base := base) T
  have D_length_of := D_length_of (P := P) (w := w) (base := base) T
  have D_part_by := D_part_by (P := P) (w := w) (base := base) T
  have D_after_runs := D_after_runs (P := P) (w := w) (base := base) T
  have D_checked_state := D_checked_state (P := P) (w := w) (base := base) T
  obtain ⟨fd, F⟩ := T.f_state_at
  have G : FnOk P w K mg base CX0 6 (He.fAd K ("state_at", none)) fd ["sequence", "moment", "state"] sp_state_at := by
    refine ok0 F sc_state_at (fun vs H Q E h => ?_) (fun cdv A outer s H vs Q E hr h => ?_)
    · obtain ⟨a, rs, m, rfl, _⟩ := h
      rfl
    · obtain ⟨a, rs, m, rfl, lt, ok, h0, h1, q⟩ := h
      have hl := ok.len
      refine ⟨_, (pss_cons (ps_set (i := 3) sc_state_at.nd rfl (.inl rfl) (pe_dn D_checked_runs (hr.mono (by decide)) (by rfl) (pa_cons (pv 0) pa_nil)))
      (pss_cons (ps_expr (pe_dn D_check_position (hr.mono (by decide)) (by rfl) (pa_cons (pv 1) (pa_cons (pe_dn D_length_of (hr.mono (by decide)) (by rfl) (pa_cons (pv 3) pa_nil)) pa_nil))))
      (pss_one (ps_ret (pe_dn D_after_runs (hr.mono (by decide)) (by rfl) (pa_cons (pe_dn D_part_by (hr.mono (by decide)) (by rfl) (pa_cons (pv 3) (pa_cons pe_int (pa_cons (pv 1) pa_nil)))) (pa_cons (pe_dn D_checked_state (hr.mono (by decide)) (by rfl) (pa_cons (pv 2) pa_nil)) pa_nil))))))), ?_⟩
      refine ⟨_, rfl, a, rs, rfl, lt, ok, fun H1 o s1 no lt1 => ?_⟩
      refine ⟨_, rfl, _, rfl, o, rs, rfl, lt1, by omega, fun H2 s2 => ?_⟩
      refine ⟨m, _, rfl, h0, ?_, ?_⟩
      · rw [items_len rs ok.pos] at h1
        exact h1
      · refine ⟨_, rfl, _, rfl, o, rs, 0, m, rfl, lt1.same s2, by omega, ok.pos, by decide, h0, fun H3 u rs' s3 nu lt3 pok => ?_⟩
        refine ⟨_, rfl, rfl, ?_⟩
        refine ⟨u, rs', rfl, lt3, pok.pos, fun H4 v s4 sv => ?_⟩
        rw [pok.its, show (0 : Int).toNat = 0 from rfl, List.drop_zero] at sv
        exact q _ _ (((s1.trans s2).trans s3).trans s4) sv
  obtain ⟨d0, v0, b0⟩ := F.binds1 (ps := ["sequence", "moment", "state"]) 3 1 (by simp) rfl (fun _ _ _ _ _ _ _ us its h1 h2 => match us, its, h1, h2 with | [_, _, _], [_], _, _ => ⟨_, rfl, rfl⟩)
  obtain ⟨d1, v1, b1⟩ := F.binds1 (ps := ["sequence", "moment", "state"]) 2 0 (by simp) rfl (fun _ _ _ _ _ _ _ us its h1 h2 => match us, its, h1, h2 with | [_, _], [_], _, _ => ⟨_, rfl, rfl⟩)
  have e0 : d0 = [] := Vals.zero v0
  subst e0
  exact ⟨⟨fd, G, b0, d1, v1, b1⟩, F.kp, T.g_state_at⟩
end
end Uk
/-! The queue: its making, its front, its pairs. -/
namespace Uk
open PySem PySem.Spec PyProof.Rows L2
abbrev sl_q_init : List Str := ["self"]
theorem sc_q_init : FnScope sl_q_init ["self"] (defScope s_q_init) := ⟨rfl, rfl, rfl, by decide +kernel, rfl, by decide +kernel, by decide +kernel⟩
abbrev sl_q_take_front : List Str := ["self", "most", "first", "count", "taken"]
theorem sc_q_take_front : FnScope sl_q_take_front ["self", "most"] (defScope s_q_take_front) := ⟨rfl, rfl, rfl, by decide +kernel, rfl, by decide +kernel, by decide +kernel⟩
abbrev sl_q_add_pairs : List Str := ["self", "first", "second", "count", "one", "other", "before"]
theorem sc_q_add_pairs : FnScope sl_q_add_pairs ["self", "first", "second", "count"] (defScope s_q_add_pairs) := ⟨rfl, rfl, rfl, by decide +kernel, rfl, by decide +kernel, by decide +kernel⟩
def kV (o : Option Str) : V := match o with
  | none => .non
  | some k => .str k
def qf (kd : V) (b p : Addr) (n : Int) : List (Str × V) := [("kind", kd), ("blocks", .ref b), ("pairs", .ref p), ("arrived", .int n)]
theorem lk_ne {a k : Str} {v : V} {fs : List (Str × V)} (h : (a == k) = false) : ((k, v) :: fs).lookup a = fs.lookup a := by
  show (match a == k with | true => some v | false => fs.lookup a) = _
  rw [h]
theorem lk_eq {a : Str} {v : V} {fs : List (Str × V)} : ((a, v) :: fs).lookup a = some v := by
  show (match a == a with | true => some v | false => fs.lookup a) = _
  rw [beq_self_eq_true]
theorem pf_ne {g f : Str} {u v : V} {r : List (Str × V)} (h : ¬ g = f) : putF f v ((g, u) :: r) = (g, u) :: putF f v r := by
  show (if g = f then _ else _) = _
  rw [if_neg h]
theorem pf_eq {f : Str} {u v : V} {r : List (Str × V)} : putF f v ((f, u) :: r) = (f, v) :: r := by
  show (if f = f then _ else _) = _
  rw [if_pos rfl]
section
variable {kd kd' : V} {b b' p p' : Addr} {n n' : Int}
theorem qf_kind : (qf kd b p n).lookup ("kind" : Str) = some kd := lk_eq
theorem qf_blocks : (qf kd b p n).lookup ("blocks" : Str) = some (.ref b) := (lk_ne (by decide +kernel)).trans lk_eq
theorem qf_pairs : (qf kd b p n).lookup ("pairs" : Str) = some (.ref p) := (lk_ne (by decide +kernel)).trans ((lk_ne (by decide +kernel)).trans lk_eq)
theorem qf_arrived : (qf kd b p n).lookup ("arrived" : Str) = some (.int n) := (lk_ne (by decide +kernel)).trans ((lk_ne (by decide +kernel)).trans ((lk_ne (by decide +kernel)).trans lk_eq))
theorem qf_no {m : Str} (h1 : (m == "kind") = false) (h2 : (m == "blocks") = false) (h3 : (m == "pairs") = false) (h4 : (m == "arrived") = false) : (qf kd b p n).lookup m = none := (lk_ne h1).trans ((lk_ne h2).trans ((lk_ne h3).trans (lk_ne h4)))
theorem qf_pkind : putF "kind" kd' (qf kd b p n) = qf kd' b p n := pf_eq
theorem qf_parr : putF "arrived" (.int n') (qf kd b p n) = qf kd b p n' := by
  unfold qf
  rw [pf_ne (by decide +kernel), pf_ne (by decide +kernel), pf_ne (by decide +kernel), pf_eq]
theorem qf_len : (qf kd b p n).length < 1000 := by
  show 4 < 1000
  decide
theorem qf_made : putF "arrived" (.int n) (putF "pairs" (.ref p) (putF "blocks" (.ref b) (putF "kind" kd []))) = qf kd b p n := by
  have e1 : putF "kind" kd [] = [(("kind" : Str), kd)] := rfl
  have e2 : putF "blocks" (.ref b) [(("kind" : Str), kd)] = [(("kind" : Str), kd), ("blocks", .ref b)] := pf_ne (by decide +kernel)
  have e3 : putF "pairs" (.ref p) [(("kind" : Str), kd), ("blocks", .ref b)] = [(("kind" : Str), kd), ("blocks", .ref b), ("pairs", .ref p)] := by
    rw [pf_ne (by decide +kernel), pf_ne (by decide +kernel)]
    rfl
  have e4 : putF "arrived" (.int n) [(("kind" : Str), kd), ("blocks", .ref b), ("pairs", .ref p)] = qf kd b p n := by
    rw [pf_ne (by decide +kernel), pf_ne (by decide +kernel), pf_ne (by decide +kernel)]
    rfl
  rw [e1, e2, e3, e4]
theorem ix0 (n : Nat) : ixN (n + 1) 0 = some 0 := by
  unfold ixN
  rw [if_pos (by decide), if_pos (by omega)]
  rfl
end
theorem si0 (n : Nat) : seqIndex? 0 (n + 1) = some 0 := by
  unfold seqIndex?
  simp
/-- a queue at q, younger than H0 -/
structure QAt (C : Addr) (H0 H : Hp) (q : Addr) (kd : Option Str) (bs : List (Int × Int)) (ps : List (Int × Int × Int)) (n : Int) : Prop where
  s : Same H0 H
  q0 : H0 q = none
  ex : ∃ dx b p, H0 b = none ∧ H0 p = none ∧ b ≠ p ∧ H q = some (.ins C dx (qf (kV kd) b p n)) ∧ LT H b (bs.map dPr) ∧ LT H p (ps.map dTr)
theorem LT.put {H : Hp} {a l : Addr} {ds : List (List V)} {o : HO} (h : LT H a ds) (ne : a ≠ l) (hl : ∀ d, H l ≠ some (.tup d)) : LT (upd H l o) a ds := by
  obtain ⟨xs, e, t⟩ := h
  exact ⟨xs, (upd_ne ne).trans e, t.mut hl⟩
theorem QAt.new {C q u : Addr} {H0 H : Hp} {kd : Option Str} {bs : List (Int × Int)} {ps : List (Int × Int × Int)} {n : Int} {o : HO} (h : QAt C H0 H q kd bs ps n) (hu : H u = none) : QAt C H0 (upd H u o) q kd bs ps n := by
  obtain ⟨dx, b, p, b0, p0, nbp, hq, lb, lp⟩ := h.ex
  have s1 : Same H (upd H u o) := same_upd hu
  exact ⟨h.s.new hu, h.q0, dx, b, p, b0, p0, nbp, s1 _ _ hq, lb.same s1, lp.same s1⟩
def sp_q_init (C : Addr) : Sp := fun vs H Q _ => ∃ (H0 : Hp) (q dx : Addr), vs = [.ref q] ∧ Same H0 H ∧ H0 q = none ∧ H q = some (.ins C dx []) ∧ ∀ H', QAt C H0 H' q none [] [] 0 → Q .non H'
def sp_q_take_front (C : Addr) : Sp := fun vs H Q _ => ∃ (H0 : Hp) (q : Addr) (kd : Option Str) (f c : Int) (bs : List (Int × Int)) (ps : List (Int × Int × Int)) (n m t : Int), vs = [.ref q, .int m] ∧ QAt C H0 H q kd ((f, c) :: bs) ps n ∧ t = (if m < c then m else c) ∧
  ∀ H' u, H' u = some (.tup [.int f, .int t]) → QAt C H0 H' q kd (if t = c then bs else (f + t, c - t) :: bs) ps n → Q (.ref u) H'
def sp_q_add_pairs (C : Addr) : Sp := fun vs H Q _ => ∃ (H0 : Hp) (q : Addr) (kd : Option Str) (bs : List (Int × Int)) (ps : List (Int × Int × Int)) (n f s c : Int), vs = [.ref q, .int f, .int s, .int c] ∧ QAt C H0 H q kd bs ps n ∧ ps.length ≤ 1000 ∧
  ∀ H', QAt C H0 H' q kd bs (addP ps f s c) n → Q .non H'
def pT (t : Int × Int × Int) : PyData := .tuple [.int t.1, .int t.2.1, .int t.2.2]
def pP (t : Int × Int) : PyData := .tuple [.int t.1, .int t.2]
theorem dp_pr {K : PySem.W.Frag} {H : Hp} {a : Addr} {t : Int × Int} (h : H a = some (.tup (dPr t))) : Dp K H (.ref a) (pP t) := .tup (SqT.of h) (.cons (.int _) (.cons (.int _) .nil))
theorem dp_tr {K : PySem.W.Frag} {H : Hp} {a : Addr} {t : Int × Int × Int} (h : H a = some (.tup (dTr t))) : Dp K H (.ref a) (pT t) := .tup (SqT.of h) (.cons (.int _) (.cons (.int _) (.cons (.int _) .nil)))
theorem dpAll {α : Type} {K : PySem.W.Frag} {H : Hp} {f : α → List V} {g : α → PyData} (hd : ∀ a t, H a = some (.tup (f t)) → Dp K H (.ref a) (g t)) : ∀ {l : List α} {xs : List V}, TL H xs (l.map f) → DpAll K H xs (l.map g)
  | [], [], _ => .nil
  | [], _ :: _, h => by cases h.1
  | _ :: _, [], h => by cases h.1
  | t :: l, x :: xs, h => by
    obtain ⟨p, e1, e2⟩ := h.2 0 (f t) rfl
    have e1 : x = .ref p := Option.some.inj e1
    subst e1
    exact .cons (hd p t e2) (dpAll hd (TL.tail h))
theorem dp_prs {K : PySem.W.Frag} {H : Hp} {a : Addr} {l : List (Int × Int)} (h : LT H a (l.map dPr)) : Dp K H (.ref a) (.list (l.map pP)) := by
  obtain ⟨xs, e, t⟩ := h
  exact .lst (SqL.of e) (dpAll (fun _ _ => dp_pr) t)
theorem dp_trs {K : PySem.W.Frag} {H : Hp} {a : Addr} {l : List (Int × Int × Int)} (h : LT H a (l.map dTr)) : Dp K H (.ref a) (.list (l.map pT)) := by
  obtain ⟨xs, e, t⟩ := h
  exact .lst (SqL.of e) (dpAll (fun _ _ => dp_tr) t)
theorem dp_nil {K : PySem.W.Frag} {H : Hp} {a : Addr} (h : H a = some (.lst [])) : Dp K H (.ref a) (.list []) := .lst (SqL.of h) .nil
theorem canAll {α : Type} (g : α → PyData) (h : ∀ t, (g t).canLay0 = true) : ∀ l : List α, PyData.canLayAll0 (l.map g) = true
  | [] => by simp [PyData.canLayAll0]
  | t :: l => by
    rw [List.map_cons, PyData.canLayAll0, h t, canAll g h l]
    rfl
theorem depAll {α : Type} (g : α → PyData) (h : ∀ t, (g t).depth ≤ 5) : ∀ l : List α, PyData.depthAll (l.map g) ≤ 5
  | [] => by simp [PyData.depthAll]
  | t :: l => by
    rw [List.map_cons, PyData.depthAll]
    exact Nat.max_le.mpr ⟨h t, depAll g h l⟩
theorem shaped_all {α : Type} (g : α → PyData) (h : ∀ t, (g t).canLay0 = true) (h2 : ∀ t, (g t).depth ≤ 5) (l : List α) : SeqAt.shaped (.list (l.map g)) = true := by
  unfold SeqAt.shaped
  rw [Bool.and_eq_true]
  refine ⟨?_, decide_eq_true ?_⟩
  · rw [PyData.canLay0]
    exact canAll g h l
  · rw [PyData.depth]
    have := depAll g h2 l
    omega
theorem pP_can (t : Int × Int) : (pP t).canLay0 = true := by simp [pP, PyData.canLay0, PyData.canLayAll0]
theorem pT_can (t : Int × Int × Int) : (pT t).canLay0 = true := by simp [pT, PyData.canLay0, PyData.canLayAll0]
theorem pP_dep (t : Int × Int) : (pP t).depth ≤ 5 := by simp [pP, PyData.depth, PyData.depthAll]
theorem pT_dep (t : Int × Int × Int) : (pT t).depth ≤ 5 := by simp [pT, PyData.depth, PyData.depthAll]
theorem sh_prs (l : List (Int × Int)) : SeqAt.shaped (.list (l.map pP)) = true := shaped_all pP pP_can pP_dep l
theorem sh_trs (l : List (Int × Int × Int)) : SeqAt.shaped (.list (l.map pT)) = true := shaped_all pT pT_can pT_dep l
theorem sh_nil : SeqAt.shaped (.list []) = true := sh_prs []
theorem sh_pr (t : Int × Int) : SeqAt.shaped (pP t) = true := by
  unfold SeqAt.shaped
  rw [pP_can, decide_eq_true (Nat.le_trans (pP_dep t) (by decide))]
  rfl
theorem eqv_pP (t u : Int × Int) : PyData.eqv (pP t) (pP u) = decide (t = u) := by
  obtain ⟨a, b⟩ := t
  obtain ⟨c, d⟩ := u
  simp only [pP, PyData.eqv, PyData.eqvAll, Bool.and_true]
  by_cases h1 : a = c
  · by_cases h2 : b = d
    · simp [h1, h2]
    · simp [h1, h2]
  · simp [h1]
theorem eqv_nil {α : Type} (g : α → PyData) (l : List α) : PyData.eqv (.list (l.map g)) (.list []) = l.isEmpty := by
  cases l with
  | nil => simp [PyData.eqv, PyData.eqvAll]
  | cons t l => simp [PyData.eqv, PyData.eqvAll]
section
variable {P : Program} {w : World} {K : PySem.W.Frag} {mg : Str → Option Value} {base : Heap}
theorem D_q_init (T : Tx K mg) : Dm P w K mg base 1 "__init__" ["self"] (sp_q_init (He.ga K "Queue")) := by
  obtain ⟨fd, F⟩ := T.f_q_init
  have G : FnOk P w K mg base CX0 1 (He.fAd K ("Queue", some "__init__")) fd ["self"] (sp_q_init (He.ga K "Queue")) := by
    refine ok0 F sc_q_init (fun vs H Q E h => ?_) (fun cdv A outer s H vs Q E hr h => ?_)
    · obtain ⟨H0, q, dx, rfl, _⟩ := h
      rfl
    · obtain ⟨H0, q, dx, rfl, s0, q0, hq, k⟩ := h
      refine ⟨_, (pss_cons (ps_fld (pv 0) pe_non rfl)
      (pss_cons (ps_fld (pv 0) (pe_lst pa_nil) rfl)
      (pss_cons (ps_fld (pv 0) (pe_lst pa_nil) rfl)
      (pss_one (ps_fld (pv 0) pe_int rfl))))), ?_⟩
      refine ⟨_, rfl, q, _, dx, _, rfl, hq, T.q_cls, T.q_no_kind, by decide, ?_⟩
      refine ⟨Nat.zero_le _, fun b nb => ?_⟩
      have nqb : q ≠ b := fun e => by rw [e, upd_same] at nb; cases nb
      have hb0 : H b = none := by rw [upd_ne nqb.symm] at nb; exact nb
      refine ⟨_, rfl, q, _, dx, _, rfl, (upd_ne nqb).trans upd_same, T.q_cls, T.q_no_blocks, by show 1 < 1000; decide, ?_⟩
      refine ⟨Nat.zero_le _, fun p np => ?_⟩
      have nqp : q ≠ p := fun e => by rw [e, upd_same] at np; cases np
      have np2 : (upd (upd H q (.ins (He.ga K "Queue") dx (putF "kind" .non []))) b (.lst [])) p = none := by rw [upd_ne nqp.symm] at np; exact np
      have nbp : b ≠ p := fun e => by rw [e, upd_same] at np2; cases np2
      have hp0 : H p = none := by rw [upd_ne nbp.symm, upd_ne nqp.symm] at np2; exact np2
      refine ⟨_, rfl, q, _, dx, _, rfl, (upd_ne nqp).trans upd_same, T.q_cls, T.q_no_pairs, by rw [show putF "blocks" (.ref b) (putF "kind" .non []) = [(("kind" : Str), V.non), ("blocks", .ref b)] by (have e1 : putF "kind" V.non [] = [(("kind" : Str), V.non)] := rfl); rw [e1, pf_ne (by decide +kernel)]; rfl]; show 2 < 1000; decide, ?_⟩
      refine ⟨_, rfl, q, _, dx, _, rfl, upd_same, T.q_cls, T.q_no_arrived, Nat.lt_of_le_of_lt (length_putF _ _ _) (Nat.lt_of_le_of_lt (Nat.succ_le_succ (length_putF _ _ _)) (Nat.lt_of_le_of_lt (Nat.succ_le_succ (Nat.succ_le_succ (length_putF _ _ _))) (by show 3 < 1000; decide))), ?_⟩
      refine k _ ⟨?_, q0, dx, b, p, s0.free hb0, s0.free hp0, nbp, ?_, ?_, ?_⟩
      · refine Same.mut (Same.mut (Same.new (Same.mut (Same.new (Same.mut s0 q0) nb) q0) np) q0) q0
      · rw [upd_same, qf_made]
        rfl
      · exact ⟨[], by rw [upd_ne nqb.symm, upd_ne nqb.symm, upd_ne nbp, upd_ne nqb.symm, upd_same], TL.nil⟩
      · exact ⟨[], by rw [upd_ne nqp.symm, upd_ne nqp.symm, upd_same], TL.nil⟩
  exact ⟨fd, G, F.bindsN (fun _ _ _ _ _ _ us hl => match us, hl with | [_], _ => rfl)⟩
theorem D_q_take_front (T : Tx K mg) : Dm P w K mg base 1 "take_front" ["self", "most"] (sp_q_take_front (He.ga K "Queue")) := by
  obtain ⟨fd, F⟩ := T.f_q_take_front
  have G : FnOk P w K mg base CX0 1 (He.fAd K ("Queue", some "take_front")) fd ["self", "most"] (sp_q_take_front (He.ga K "Queue")) := by
    refine ok0 F sc_q_take_front (fun vs H Q E h => ?_) (fun cdv A outer s H vs Q E hr h => ?_)
    · obtain ⟨H0, q, kd, f, c, bs, ps, n, m, t, rfl, _⟩ := h
      rfl
    · obtain ⟨H0, q, kd, f, c, bs, ps, n, m, t, rfl, ⟨s0, q0, dx, b, p, b0, p0, nbp, hq, ⟨xs, hb, tb⟩, lp⟩, et, k⟩ := h
      have nqb : q ≠ b := ne_of hq hb (by intro z; cases z)
      obtain ⟨x, xs, rfl⟩ : ∃ x r, xs = x :: r := by
        cases xs with
        | nil => cases tb.1
        | cons x r => exact ⟨x, r, rfl⟩
      obtain ⟨t0, e0, et0⟩ := tb.2 0 (dPr (f, c)) rfl
      have e0 : x = .ref t0 := Option.some.inj e0
      subst e0
      refine ⟨_, (pss_cons (ps_asg (pe_ix (r := rIxL K) ix_list (pe_fld (pv 0) rfl) pe_int (fun _ _ => rfl)) (pg_tup rfl (pgs_cons (pg_name (i := 2) sc_q_take_front.nd rfl (.inl rfl)) (pgs_cons (pg_name (i := 3) sc_q_take_front.nd rfl (.inl rfl)) pgs_nil))))
      (pss_cons (ps_set (i := 4) sc_q_take_front.nd rfl (.inl rfl) (pe_callB (call_min2 rfl) (by rfl) T.m_min (by decide +kernel) (pa_cons (pv 3) (pa_cons (pv 1) pa_nil))))
      (pss_cons (ps_asg (pe_tup (pa_cons (pe_op op_add (pv 2) (pv 4)) (pa_cons (pe_op op_sub (pv 3) (pv 4)) pa_nil))) (pg_sub (pe_fld (pv 0) rfl) pe_int set_list))
      (pss_cons (ps_if (pt_cmpR op_eq (pv 4) (pv 3) (nomark _)) (pss_one (ps_expr (pe_bm PySem.F.plainAttrs_list PySem.F.slot_list_pop PySem.F.type_list_pop mt_popAt (pe_fld (pv 0) rfl) (pa_cons pe_int pa_nil)))) pss_nil)
      (pss_one (ps_ret (pe_tup (pa_cons (pv 2) (pa_cons (pv 4) pa_nil))))))))), ?_⟩
      refine ⟨_, rfl, q, _, dx, _, _, rfl, hq, T.q_cls, T.q_no_blocks, qf_blocks, b, _, 0, _, rfl, rfl, SqL.of hb, atI_nat (j := 0) rfl, ?_⟩
      refine ⟨t0, _, rfl, SqT.of et0, rfl, _, _, rfl, _, [], rfl, rfl, ?_⟩
      refine ⟨_, rfl, _, rfl, c, m, rfl, ?_⟩
      rw [← et]
      refine ⟨_, rfl, _, rfl, f, t, rfl, rfl, _, rfl, _, rfl, c, t, rfl, rfl, (by show 2 ≤ sizeLine; decide), fun u nu => ?_⟩
      have s1 : Same H (upd H u (.tup [.int (f + t), .int (c - t)])) := same_upd nu
      have nbu : b ≠ u := ne_of_none hb nu
      have nqu : q ≠ u := ne_of_none hq nu
      refine ⟨_, rfl, q, _, dx, _, _, rfl, s1 _ _ hq, T.q_cls, T.q_no_blocks, qf_blocks, b, _, 0, 0, rfl, rfl, s1 _ _ hb, ix0 _, ?_⟩
      have tt : TL (upd H u (.tup [.int (f + t), .int (c - t)])) (.ref u :: xs) (((f + t, c - t) :: bs).map dPr) := TL.set (j := 0) (tb.same s1) upd_same
      have hl : ∀ d, (upd H u (.tup [.int (f + t), .int (c - t)])) b ≠ some (.tup d) := fun d z => by
        rw [upd_ne nbu, hb] at z
        cases z
      have tt2 : TL (upd (upd H u (.tup [.int (f + t), .int (c - t)])) b (.lst (.ref u :: xs))) (.ref u :: xs) (((f + t, c - t) :: bs).map dPr) := tt.mut hl
      have lp2 : LT (upd (upd H u (.tup [.int (f + t), .int (c - t)])) b (.lst (.ref u :: xs))) p (ps.map dTr) := (lp.same s1).put nbp.symm hl
      have hq2 : (upd (upd H u (.tup [.int (f + t), .int (c - t)])) b (.lst (.ref u :: xs))) q = some (.ins (He.ga K "Queue") dx (qf (kV kd) b p n)) := (upd_ne nqb).trans (s1 _ _ hq)
      have s2 : Same H0 (upd (upd H u (.tup [.int (f + t), .int (c - t)])) b (.lst (.ref u :: xs))) := (s0.new nu).mut b0
      refine ⟨_, rfl, _, rfl, rfl, _, rfl, ite2 (fun e => ?_) (fun e => ?_)⟩
      · have e : t = c := V.int.inj (of_decide_eq_true e)
        refine ⟨_, rfl, q, _, dx, _, _, rfl, hq2, T.q_cls, T.q_no_blocks, qf_blocks, .inl ⟨rfl, _, SqL.of upd_same⟩, b, _, 0, 0, _, rfl, rfl, upd_same, by decide, by decide, si0 _, rfl, ?_⟩
        refine ⟨_, rfl, _, rfl, (by show 2 ≤ sizeLine; decide), fun z nz => ?_⟩
        refine k _ z upd_same ?_
        rw [if_pos e]
        refine QAt.new ⟨s2.mut b0, q0, dx, b, p, b0, p0, nbp, (upd_ne nqb).trans hq2, ⟨_, upd_same, ?_⟩, lp2.put nbp.symm (fun d z => by rw [upd_same] at z; cases z)⟩ nz
        exact TL.mut (TL.tail tt2) (fun d z => by rw [upd_same] at z; cases z)
      · have e : ¬ t = c := fun z => e (decide_eq_true (congrArg V.int z))
        refine ⟨_, rfl, _, rfl, (by show 2 ≤ sizeLine; decide), fun z nz => ?_⟩
        refine k _ z upd_same ?_
        rw [if_neg e]
        exact QAt.new ⟨s2, q0, dx, b, p, b0, p0, nbp, hq2, ⟨_, upd_same, tt2⟩, lp2⟩ nz
  exact ⟨fd, G, F.bindsN (fun _ _ _ _ _ _ us hl => match us, hl with | [_, _], _ => rfl)⟩
theorem D_q_add_pairs (T : Tx K mg) : Dm P w K mg base 1 "add_pairs" ["self", "first", "second", "count"] (sp_q_add_pairs (He.ga K "Queue")) := by
  obtain ⟨fd, F⟩ := T.f_q_add_pairs
  have G : FnOk P w K mg base CX0 1 (He.fAd K ("Queue", some "add_pairs")) fd ["self", "first", "second", "count"] (sp_q_add_pairs (He.ga K "Queue")) := by
    refine ok0 F sc_q_add_pairs (fun vs H Q E h => ?_) (fun cdv A outer s H vs Q E hr h => ?_)
    · obtain ⟨H0, q, kd, bs, ps, n, f, s', c, rfl, _⟩ := h
      rfl
    · obtain ⟨H0, q, kd, bs, ps, n, f, s', c, rfl, Qa, hl, k⟩ := h
      -- the last row, from any heap
      have app : ∀ H1, QAt (He.ga K "Queue") H0 H1 q kd bs ps n → addP ps f s' c = ps ++ [(f, s', c)] → ∃ (dx b p : Addr) (xs : List V), H1 q = some (.ins (He.ga K "Queue") dx (qf (kV kd) b p n)) ∧ H1 p = some (.lst xs) ∧ xs.length < sizeLine ∧
          ∀ u, H1 u = none → (upd H1 u (.tup [.int f, .int s', .int c])) q = some (.ins (He.ga K "Queue") dx (qf (kV kd) b p n)) ∧ (upd H1 u (.tup [.int f, .int s', .int c])) p = some (.lst xs) ∧ Q .non (upd (upd H1 u (.tup [.int f, .int s', .int c])) p (.lst (xs ++ [.ref u]))) := by
        intro H1 Q1 e
        obtain ⟨s1, q1, dx, b, p, b0, p0, nbp, hq, lb, ⟨xs, hp, tp⟩⟩ := Q1
        have nqp : q ≠ p := ne_of hq hp (by intro z; cases z)
        refine ⟨dx, b, p, xs, hq, hp, size_lt (by rw [tp.1, List.length_map]; omega), fun u nu => ?_⟩
        have nqu : q ≠ u := ne_of_none hq nu
        have npu : p ≠ u := ne_of_none hp nu
        refine ⟨(upd_ne nqu).trans hq, (upd_ne npu).trans hp, k _ ?_⟩
        rw [e]
        obtain ⟨s3, l3⟩ := LT.push s1 p0 hp tp nu (d := dTr (f, s', c))
        refine ⟨s3, q1, dx, b, p, b0, p0, nbp, (upd_ne nqp).trans ((upd_ne nqu).trans hq), ?_, ?_⟩
        · exact (lb.same (same_upd nu)).put nbp (fun d z => by rw [upd_ne npu, hp] at z; cases z)
        · rw [List.map_append]
          exact l3
      obtain ⟨s0, q0, dx, b, p, b0, p0, nbp, hq, lb, ⟨xs, hp, tp⟩⟩ := id Qa
      refine ⟨_, (pss_cons (ps_if (pt_cmpR (op_neD hr.units) (pe_fld (pv 0) rfl) (pe_lst pa_nil) (nomark _)) (pss_cons (ps_asg (pe_ix (r := rIxL K) ix_list (pe_fld (pv 0) rfl) (pe_un un_neg pe_int) (fun _ _ => rfl)) (pg_tup rfl (pgs_cons (pg_name (i := 4) sc_q_add_pairs.nd rfl (.inl rfl)) (pgs_cons (pg_name (i := 5) sc_q_add_pairs.nd rfl (.inl rfl)) (pgs_cons (pg_name (i := 6) sc_q_add_pairs.nd rfl (.inl rfl)) pgs_nil)))))
        (pss_one (ps_if (pt_cmpR (op_eqD hr.units) (pe_tup (pa_cons (pe_op op_add (pv 4) (pv 6)) (pa_cons (pe_op op_add (pv 5) (pv 6)) pa_nil))) (pe_tup (pa_cons (pv 1) (pa_cons (pv 2) pa_nil))) (nomark _)) (pss_cons (ps_asg (pe_tup (pa_cons (pv 4) (pa_cons (pv 5) (pa_cons (pe_op op_add (pv 6) (pv 3)) pa_nil)))) (pg_sub (pe_fld (pv 0) rfl) (pe_un un_neg pe_int) set_list))
          (pss_one ps_retN)) pss_nil))) pss_nil)
      (pss_one (ps_expr (pe_bm PySem.F.plainAttrs_list PySem.F.slot_list_append PySem.F.type_list_append mt_append (pe_fld (pv 0) rfl) (pa_cons (pe_tup (pa_cons (pv 1) (pa_cons (pv 2) (pa_cons (pv 3) pa_nil)))) pa_nil))))), ?_⟩
      refine ⟨_, rfl, q, _, dx, _, _, rfl, hq, T.q_cls, T.q_no_pairs, qf_pairs, Nat.zero_le _, fun e ne => ?_⟩
      have s1 : Same H (upd H e (.lst [])) := same_upd ne
      have Q1 := Qa.new (o := .lst []) ne
      refine ⟨_, _, dp_trs ⟨xs, s1 _ _ hp, tp.same s1⟩, dp_nil upd_same, sh_trs _, sh_nil, _, rfl, ?_⟩
      rw [eqv_nil]
      rcases snoc_cases ps with rfl | ⟨pre, ⟨o, t, l⟩, rfl⟩
      · refine iteF ?_
        obtain ⟨dx, b, p, xs, h1, h2, h3, h4⟩ := app _ Q1 rfl
        refine ⟨_, rfl, q, _, dx, _, _, rfl, h1, T.q_cls, T.q_no_pairs, qf_pairs, .inl ⟨rfl, _, SqL.of h2⟩, _, rfl, _, rfl, _, rfl, (by show 3 ≤ sizeLine; decide), fun u nu => ?_⟩
        obtain ⟨h5, h6, h7⟩ := h4 u nu
        exact ⟨p, xs, _, rfl, rfl, h6, h3, h7⟩
      · rw [show (!(pre ++ [(o, t, l)]).isEmpty) = true by cases pre <;> rfl]
        refine iteT ?_
        obtain ⟨ys, y, rfl⟩ : ∃ ys y, xs = ys ++ [y] := by
          rcases snoc_cases xs with rfl | ⟨ys, y, rfl⟩
          · have := tp.1; simp at this
          · exact ⟨ys, y, rfl⟩
        have hlen : ys.length = pre.length := by
          have := tp.1
          rw [List.length_map, List.length_append, List.length_append] at this
          exact Nat.succ.inj this
        obtain ⟨r, er, etr⟩ := tp.2 pre.length (dTr (o, t, l)) (by simp)
        rw [← hlen, List.getElem?_append_right (Nat.le_refl _), Nat.sub_self] at er
        have er : y = .ref r := Option.some.inj er
        subst er
        have hp1 := s1 _ _ hp
        have hq1 := s1 _ _ hq
        refine ⟨_, rfl, q, _, dx, _, _, rfl, hq1, T.q_cls, T.q_no_pairs, qf_pairs, _, rfl, p, _, -1, _, rfl, rfl, SqL.of hp1, atI_last _ _, ?_⟩
        refine ⟨r, _, rfl, SqT.of (s1 _ _ etr), rfl, _, _, rfl, _, _, rfl, _, [], rfl, rfl, ?_⟩
        refine ⟨_, rfl, _, rfl, o, l, rfl, rfl, _, rfl, _, rfl, t, l, rfl, rfl, (by show 2 ≤ sizeLine; decide), fun u1 nu1 => ?_⟩
        refine ⟨_, rfl, _, rfl, (by show 2 ≤ sizeLine; decide), fun u2 nu2 => ?_⟩
        have Q3 := (Q1.new (o := .tup [.int (o + l), .int (t + l)]) nu1).new (o := .tup [.int f, .int s']) nu2
        have n12 : u1 ≠ u2 := fun z => by rw [← z, upd_same] at nu2; cases nu2
        refine ⟨_, _, dp_pr (t := (o + l, t + l)) ((upd_ne n12).trans upd_same), dp_pr (t := (f, s')) upd_same, sh_pr _, sh_pr _, _, rfl, ?_⟩
        rw [eqv_pP]
        refine ite2 (fun ee => ?_) (fun ee => ?_)
        · have ee := of_decide_eq_true ee
          have e1 : o + l = f := congrArg (·.1) ee
          have e2 : t + l = s' := congrArg (·.2) ee
          refine ⟨_, rfl, _, rfl, _, rfl, _, rfl, l, c, rfl, rfl, (by show 3 ≤ sizeLine; decide), fun u3 nu3 => ?_⟩
          have sA : Same (upd H e (.lst [])) (upd (upd (upd (upd H e (.lst [])) u1 (.tup [.int (o + l), .int (t + l)])) u2 (.tup [.int f, .int s'])) u3 (.tup [.int o, .int t, .int (l + c)])) := ((same_upd nu1).new nu2).new nu3
          have sB := s1.trans sA
          have hpB := sB _ _ hp
          have npu3 : p ≠ u3 := fun z => by rw [z] at hpB; rw [upd_same] at hpB; cases hpB
          refine ⟨_, rfl, q, _, dx, _, _, rfl, sB _ _ hq, T.q_cls, T.q_no_pairs, qf_pairs, _, rfl, p, _, -1, ys.length, rfl, rfl, hpB, ?_, ?_⟩
          · unfold ixN
            rw [if_neg (by decide), if_pos (by rw [List.length_append, List.length_singleton]; omega), List.length_append, List.length_singleton]
            congr 1
            omega
          · refine k _ ?_
            rw [addP_snoc, if_pos ⟨e1, e2⟩]
            have nqp : q ≠ p := ne_of hq hp (by intro z; cases z)
            have hlp : ∀ d, (upd (upd (upd (upd H e (.lst [])) u1 (.tup [.int (o + l), .int (t + l)])) u2 (.tup [.int f, .int s'])) u3 (.tup [.int o, .int t, .int (l + c)])) p ≠ some (.tup d) := fun d z => by rw [hpB] at z; cases z
            refine ⟨(s0.trans sB).mut p0, q0, dx, b, p, b0, p0, nbp, (upd_ne nqp).trans (sB _ _ hq), (lb.same sB).put nbp hlp, ⟨_, upd_same, TL.mut ?_ hlp⟩⟩
            have e3 : (ys ++ [V.ref r]).set ys.length (.ref u3) = ys ++ [.ref u3] := by rw [List.set_append_right _ _ (Nat.le_refl _), Nat.sub_self]; rfl
            have e4 : ((pre ++ [(o, t, l)]).map dTr).set ys.length (dTr (o, t, l + c)) = (pre ++ [(o, t, l + c)]).map dTr := by
              rw [hlen, List.map_append, List.map_append, List.set_append_right _ _ (by rw [List.length_map]; exact Nat.le_refl _), List.length_map, Nat.sub_self]
              rfl
            rw [← e4]
            exact TL.set (j := ys.length) (tp.same sB) upd_same
        · have ee : ¬ (o + l = f ∧ t + l = s') := fun z => ee (decide_eq_true (by rw [z.1, z.2]))
          have ea : addP (pre ++ [(o, t, l)]) f s' c = pre ++ [(o, t, l)] ++ [(f, s', c)] := by rw [addP_snoc, if_neg ee]
          obtain ⟨dx, b, p, xs, h1, h2, h3, h4⟩ := app _ Q3 ea
          refine ⟨_, rfl, q, _, dx, _, _, rfl, h1, T.q_cls, T.q_no_pairs, qf_pairs, .inl ⟨rfl, _, SqL.of h2⟩, _, rfl, _, rfl, _, rfl, (by show 3 ≤ sizeLine; decide), fun u nu => ?_⟩
          obtain ⟨h5, h6, h7⟩ := h4 u nu
          exact ⟨p, xs, _, rfl, rfl, h6, h3, h7⟩
  exact ⟨fd, G, F.bindsN (fun _ _ _ _ _ _ us hl => match us, hl with | [_, _, _, _], _ => rfl)⟩
end
end Uk
/-! Arrivals at the queue; the queue after runs; who waits. -/
namespace Uk
open PySem PySem.Spec PyProof.Rows L2
abbrev sl_q_arrive : List Str := ["self", "kind", "count", "left", "first", "taken"]
theorem sc_q_arrive : FnScope sl_q_arrive ["self", "kind", "count"] (defScope s_q_arrive) := ⟨rfl, rfl, rfl, by decide +kernel, rfl, by decide +kernel, by decide +kernel⟩
abbrev sl_queue_after : List Str := ["runs", "queue", "kind", "count"]
theorem sc_queue_after : FnScope sl_queue_after ["runs"] (defScope s_queue_after) := ⟨rfl, rfl, rfl, by decide +kernel, rfl, by decide +kernel, by decide +kernel⟩
abbrev sl_ranges_of : List Str := ["blocks", "found", "first", "count"]
theorem sc_ranges_of : FnScope sl_ranges_of ["blocks"] (defScope s_ranges_of) := ⟨rfl, rfl, rfl, by decide +kernel, rfl, by decide +kernel, by decide +kernel⟩
abbrev sl_waiting_at : List Str := ["sequence", "moment", "runs"]
theorem sc_waiting_at : FnScope sl_waiting_at ["sequence", "moment"] (defScope s_waiting_at) := ⟨rfl, rfl, rfl, by decide +kernel, rfl, by decide +kernel, by decide +kernel⟩
abbrev sl_pairs_by : List Str := ["runs"]
theorem sc_pairs_by : FnScope sl_pairs_by ["runs"] (defScope s_pairs_by) := ⟨rfl, rfl, rfl, by decide +kernel, rfl, by decide +kernel, by decide +kernel⟩
theorem QAt.fld {C q : Addr} {H0 H : Hp} {kd : Option Str} {bs : List (Int × Int)} {ps : List (Int × Int × Int)} {n : Int} (h : QAt C H0 H q kd bs ps n) :
    ∃ dx b p, H q = some (.ins C dx (qf (kV kd) b p n)) ∧ LT H b (bs.map dPr) ∧ LT H p (ps.map dTr) ∧ ∀ kd' n', QAt C H0 (upd H q (.ins C dx (qf (kV kd') b p n'))) q kd' bs ps n' := by
  obtain ⟨s0, q0, dx, b, p, b0, p0, nbp, hq, lb, lp⟩ := h
  refine ⟨dx, b, p, hq, lb, lp, fun kd' n' => ⟨s0.mut q0, q0, dx, b, p, b0, p0, nbp, upd_same, lb.put ?_ ?_, lp.put ?_ ?_⟩⟩
  · obtain ⟨xs, e, _⟩ := lb
    exact ne_of e hq (by intro z; cases z)
  · intro d z
    rw [hq] at z
    cases z
  · obtain ⟨xs, e, _⟩ := lp
    exact ne_of e hq (by intro z; cases z)
  · intro d z
    rw [hq] at z
    cases z
theorem QAt.app {C q : Addr} {H0 H : Hp} {kd : Option Str} {bs : List (Int × Int)} {ps : List (Int × Int × Int)} {n : Int} (h : QAt C H0 H q kd bs ps n) :
    ∃ dx b p xs, H q = some (.ins C dx (qf (kV kd) b p n)) ∧ H b = some (.lst xs) ∧ xs.length = bs.length ∧
      ∀ u d, H u = none → (upd H u (.tup (dPr d))) b = some (.lst xs) ∧ QAt C H0 (upd (upd H u (.tup (dPr d))) b (.lst (xs ++ [.ref u]))) q kd (bs ++ [d]) ps n := by
  obtain ⟨s0, q0, dx, b, p, b0, p0, nbp, hq, ⟨xs, eb, tb⟩, lp⟩ := h
  refine ⟨dx, b, p, xs, hq, eb, tb.1.trans (List.length_map _), fun u d nu => ?_⟩
  have nbu : b ≠ u := ne_of_none eb nu
  have nqb : q ≠ b := ne_of hq eb (by intro z; cases z)
  obtain ⟨s3, l3⟩ := LT.push s0 b0 eb tb nu (d := dPr d)
  refine ⟨(upd_ne nbu).trans eb, s3, q0, dx, b, p, b0, p0, nbp, (upd_ne nqb).trans ((same_upd nu) _ _ hq), ?_, ?_⟩
  · rw [List.map_append]
    exact l3
  · exact (lp.same (same_upd nu)).put nbp.symm (fun z e => by rw [upd_ne nbu, eb] at e; cases e)
def sp_q_arrive (C : Addr) : Sp := fun vs H Q _ => ∃ (H0 : Hp) (q : Addr) (kd : Option Str) (bs : List (Int × Int)) (ps : List (Int × Int × Int)) (n : Int) (its : List Str) (k : Str) (c : Int) (N : Nat), vs = [.ref q, .str k, .int c] ∧ QAt C H0 H q kd bs ps n ∧
  Good its kd bs ps n ∧ 1 ≤ c ∧ bs.length + ps.length ≤ N ∧ N ≤ 500 ∧
  ∀ H' kd' bs' ps' n', QAt C H0 H' q kd' bs' ps' n' → Good (its ++ List.replicate c.toNat k) kd' bs' ps' n' → bs'.length + ps'.length ≤ N + 1 → Q .non H'
def sp_queue_after (C : Addr) : Sp := fun vs H Q _ => ∃ (a : Addr) (rs : List (Str × Int)), vs = [.ref a] ∧ LT H a (rs.map dRun) ∧ rs.length ≤ 400 ∧ (∀ r ∈ rs, 1 ≤ r.2) ∧
  ∀ H' q kd bs ps n, QAt C H H' q kd bs ps n → Good (items rs) kd bs ps n → bs.length + ps.length ≤ rs.length → Q (.ref q) H'
def sp_ranges_of : Sp := fun vs H Q _ => ∃ (a : Addr) (bs : List (Int × Int)), vs = [.ref a] ∧ LT H a (bs.map dPr) ∧ (∀ b ∈ bs, 1 ≤ b.2) ∧ bs.length ≤ 500 ∧
  ∀ H' p R, Same H H' → LT H' p (R.map dPr) → RngOk R (ex bs) → R.length ≤ bs.length → Q (.ref p) H'
def sp_waiting_at : Sp := fun vs H Q _ => ∃ (a : Addr) (rs : List (Str × Int)) (m : Int), vs = [.ref a, .int m] ∧ LT H a (rs.map dRun) ∧ SeqOk rs ∧ 0 ≤ m ∧ m ≤ ((items rs).length : Int) ∧
  ∀ H' p R, Same H H' → LT H' p (R.map dPr) → RngOk R (F ((items rs).take m.toNat)).w → R.length ≤ 400 → Q (.ref p) H'
def sp_pairs_by : Sp := fun vs H Q _ => ∃ (a : Addr) (rs : List (Str × Int)), vs = [.ref a] ∧ LT H a (rs.map dRun) ∧ rs.length ≤ 400 ∧ (∀ r ∈ rs, 1 ≤ r.2) ∧
  ∀ H' p ps, Same H H' → LT H' p (ps.map dTr) → (∀ t ∈ ps, 1 ≤ t.2.2) → exP ps = (F (items rs)).p → ps.length ≤ 400 → Q (.ref p) H'
section
variable {P : Program} {w : World} {K : PySem.W.Frag} {mg : Str → Option Value} {base : Heap}
theorem D_q_arrive (T : Tx K mg) : Dm P w K mg base 2 "arrive" ["self", "kind", "count"] (sp_q_arrive (He.ga K "Queue")) := by
  have D_q_take_front := D_q_take_front (P := P) (w := w) (base := base) T
  have D_q_add_pairs := D_q_add_pairs (P := P) (w := w) (base := base) T
  obtain ⟨fd, F⟩ := T.f_q_arrive
  have G : FnOk P w K mg base CX0 2 (He.fAd K ("Queue", some "arrive")) fd ["self", "kind", "count"] (sp_q_arrive (He.ga K "Queue")) := by
    refine ok0 F sc_q_arrive (fun vs H Q E h => ?_) (fun cdv A outer s H vs Q E hr h => ?_)
    · obtain ⟨H0, q, kd, bs, ps, n, its, k, c, N, rfl, _⟩ := h
      rfl
    · obtain ⟨H0, q, kd, bs, ps, n, its, k, c, N, rfl, Qa, g, hc, hN, hN5, fin⟩ := h
      refine ⟨_, (pss_cons (ps_set (i := 3) sc_q_arrive.nd rfl (.inl rfl) (pv 2))
      (pss_cons (ps_while PassesOwn.never (PW.pt (pw_and (pt_cmpR op_gt (pv 3) pe_int (nomark _)) (pw_and (pt_cmpR (op_neD hr.units) (pe_fld (pv 0) rfl) (pe_lst pa_nil) (nomark _)) (pw_and1 (pt_cmpR op_ne (pe_fld (pv 0) rfl) (pv 1) (nomark _))))))
        (pss_cons (ps_asg (pe_dm T.q_cls T.q_m_take_front D_q_take_front (hr.mono (by decide)) (pv 0) (pa_cons (pv 3) pa_nil)) (pg_tup rfl (pgs_cons (pg_name (i := 4) sc_q_arrive.nd rfl (.inl rfl)) (pgs_cons (pg_name (i := 5) sc_q_arrive.nd rfl (.inl rfl)) pgs_nil))))
        (pss_cons (ps_expr (pe_dm T.q_cls T.q_m_add_pairs D_q_add_pairs (hr.mono (by decide)) (pv 0) (pa_cons (pv 4) (pa_cons (pe_fld (pv 0) rfl) (pa_cons (pv 5) pa_nil)))))
        (pss_cons (ps_fldaug (pv 0) (pv 5) in_add)
        (pss_one (ps_aug (i := 3) sc_q_arrive.nd rfl (.inl rfl) (pv 5) ip_sub))))))
      (pss_one (ps_if (pt_cmpR op_gt (pv 3) pe_int (nomark _)) (pss_cons (ps_fld (pv 0) (pv 1) rfl)
        (pss_cons (ps_expr (pe_bm PySem.F.plainAttrs_list PySem.F.slot_list_append PySem.F.type_list_append mt_append (pe_fld (pv 0) rfl) (pa_cons (pe_tup (pa_cons (pe_fld (pv 0) rfl) (pa_cons (pv 3) pa_nil))) pa_nil)))
        (pss_one (ps_fldaug (pv 0) (pv 3) in_add)))) pss_nil)))), ?_⟩
      refine ⟨_, rfl, fun m σ H' => ∃ (left : Int) (kd : Option Str) (bs : List (Int × Int)) (ps : List (Int × Int × Int)) (n : Int) (v4 v5 : Option V), σ = [some (.ref q), some (.str k), some (.int c), some (.int left), v4, v5] ∧ m = left.toNat ∧ QAt (He.ga K "Queue") H0 H' q kd bs ps n ∧
        Good (its ++ List.replicate (c - left).toNat k) kd bs ps n ∧ 0 ≤ left ∧ left ≤ c ∧ bs.length + ps.length ≤ N + 1 ∧ (0 < left → bs.length + ps.length ≤ N), ⟨c.toNat, c, kd, bs, ps, n, none, none, rfl, rfl, Qa, ?_, by omega, by omega, by omega, fun _ => hN⟩, fun m σ H' hW => ?_⟩
      · rw [Int.sub_self, show (0 : Int).toNat = 0 from rfl, List.replicate_zero, List.append_nil]
        exact g
      obtain ⟨left, kd, bs, ps, n, v4, v5, rfl, rfl, Qa, g, h0, h1, hl1, hl2⟩ := hW
      refine ⟨_, rfl, left, 0, rfl, rfl, _, rfl, ite2 (fun e => ?_) (fun e => ?_)⟩
      · have hpos : 0 < left := of_decide_eq_true e
        have hle := hl2 hpos
        -- what follows the loop, when something is left
        have psh : ∀ H1, QAt (He.ga K "Queue") H0 H1 q kd bs ps n → (bs = [] ∨ kd = some k) → ∃ dx b p, H1 q = some (.ins (He.ga K "Queue") dx (qf (kV kd) b p n)) ∧ ∃ dx2 b2 p2 xs, (upd H1 q (.ins (He.ga K "Queue") dx (qf (.str k) b p n))) q = some (.ins (He.ga K "Queue") dx2 (qf (.str k) b2 p2 n)) ∧
            (upd H1 q (.ins (He.ga K "Queue") dx (qf (.str k) b p n))) b2 = some (.lst xs) ∧ xs.length < sizeLine ∧ ∀ u, (upd H1 q (.ins (He.ga K "Queue") dx (qf (.str k) b p n))) u = none →
              (upd (upd H1 q (.ins (He.ga K "Queue") dx (qf (.str k) b p n))) u (.tup [.int n, .int left])) b2 = some (.lst xs) ∧
              ∃ dx3 b3 p3, (upd (upd (upd H1 q (.ins (He.ga K "Queue") dx (qf (.str k) b p n))) u (.tup [.int n, .int left])) b2 (.lst (xs ++ [.ref u]))) q = some (.ins (He.ga K "Queue") dx3 (qf (.str k) b3 p3 n)) ∧
                Q .non (upd (upd (upd (upd H1 q (.ins (He.ga K "Queue") dx (qf (.str k) b p n))) u (.tup [.int n, .int left])) b2 (.lst (xs ++ [.ref u]))) q (.ins (He.ga K "Queue") dx3 (qf (.str k) b3 p3 (n + left)))) := by
          intro H1 Q1 hk
          obtain ⟨dx, b, p, e1, _, _, f1⟩ := Q1.fld
          refine ⟨dx, b, p, e1, ?_⟩
          have Q2 := f1 (some k) n
          obtain ⟨dx2, b2, p2, xs, e2, e3, hx, f2⟩ := Q2.app
          refine ⟨dx2, b2, p2, xs, e2, e3, size_lt (by omega), fun u nu => ?_⟩
          obtain ⟨e4, Q3⟩ := f2 u (n, left) nu
          refine ⟨e4, ?_⟩
          obtain ⟨dx3, b3, p3, e5, _, _, f3⟩ := Q3.fld
          refine ⟨dx3, b3, p3, e5, ?_⟩
          refine fin _ (some k) _ _ _ (f3 (some k) (n + left)) ?_ ?_
          · have := good_push g hk hpos
            rw [List.append_assoc, List.replicate_append_replicate, show (c - left).toNat + left.toNat = c.toNat by omega] at this
            exact this
          · rw [List.length_append, List.length_singleton]
            omega
        obtain ⟨s0, q0, dx, b, p, b0, p0, nbp, hq, ⟨xs, hb, tb⟩, lp⟩ := id Qa
        refine ⟨_, rfl, q, _, dx, _, _, rfl, hq, T.q_cls, T.q_no_blocks, qf_blocks, Nat.zero_le _, fun e ne => ?_⟩
        have s1 : Same H' (upd H' e (.lst [])) := same_upd ne
        have Q1 := Qa.new (o := .lst []) ne
        refine ⟨_, _, dp_prs ⟨xs, s1 _ _ hb, tb.same s1⟩, dp_nil upd_same, sh_prs _, sh_nil, _, rfl, ?_⟩
        rw [eqv_nil]
        cases bs with
        | nil =>
          refine iteF ?_
          refine iteF ?_
          refine ⟨_, rfl, left, 0, rfl, rfl, _, rfl, iteD hpos ?_⟩
          obtain ⟨dx, b, p, e1, dx2, b2, p2, xs, e2, e3, hx, f2⟩ := psh _ Q1 (.inl rfl)
          refine ⟨_, rfl, _, rfl, q, _, dx, _, rfl, e1, T.q_cls, T.q_no_kind, qf_len, ?_⟩
          rw [qf_pkind]
          refine ⟨_, rfl, q, _, dx2, _, _, rfl, e2, T.q_cls, T.q_no_blocks, qf_blocks, .inl ⟨rfl, _, SqL.of e3⟩, _, rfl, q, _, dx2, _, _, rfl, e2, T.q_cls, T.q_no_arrived, qf_arrived, _, rfl, (by show 2 ≤ sizeLine; decide), fun u nu => ?_⟩
          obtain ⟨e4, dx3, b3, p3, e5, fq⟩ := f2 u nu
          refine ⟨b2, xs, _, rfl, rfl, e4, hx, ?_⟩
          refine ⟨_, rfl, q, _, dx3, _, _, rfl, e5, T.q_cls, T.q_no_arrived, qf_arrived, _, rfl, n, left, rfl, rfl, dx3, _, e5, qf_len, ?_⟩
          rw [qf_parr]
          exact fq
        | cons b1 bs =>
          obtain ⟨f, c1⟩ := b1
          refine iteT ?_
          obtain ⟨z, rfl⟩ := g.kind (List.cons_ne_nil _ _)
          refine ⟨_, rfl, q, _, dx, _, _, rfl, s1 _ _ hq, T.q_cls, T.q_no_kind, qf_kind, _, rfl, rfl, _, rfl, ?_⟩
          by_cases hk : z = k
          · subst hk
            refine iteNS (show kV (some z) = V.str z from rfl) ?_
            refine ⟨_, rfl, left, 0, rfl, rfl, _, rfl, iteD hpos ?_⟩
            obtain ⟨dx, b, p, e1, dx2, b2, p2, xs, e2, e3, hx, f2⟩ := psh _ Q1 (.inr rfl)
            refine ⟨_, rfl, _, rfl, q, _, dx, _, rfl, e1, T.q_cls, T.q_no_kind, qf_len, ?_⟩
            rw [qf_pkind]
            refine ⟨_, rfl, q, _, dx2, _, _, rfl, e2, T.q_cls, T.q_no_blocks, qf_blocks, .inl ⟨rfl, _, SqL.of e3⟩, _, rfl, q, _, dx2, _, _, rfl, e2, T.q_cls, T.q_no_arrived, qf_arrived, _, rfl, (by show 2 ≤ sizeLine; decide), fun u nu => ?_⟩
            obtain ⟨e4, dx3, b3, p3, e5, fq⟩ := f2 u nu
            refine ⟨b2, xs, _, rfl, rfl, e4, hx, ?_⟩
            refine ⟨_, rfl, q, _, dx3, _, _, rfl, e5, T.q_cls, T.q_no_arrived, qf_arrived, _, rfl, n, left, rfl, rfl, dx3, _, e5, qf_len, ?_⟩
            rw [qf_parr]
            exact fq
          · refine iteNN (fun e => hk (V.str.inj e)) ?_
            refine ⟨_, fun σ' H' h => h, ?_⟩
            have hc1 : 1 ≤ c1 := g.bp (f, c1) List.mem_cons_self
            have et : ∃ t : Int, t = (if left < c1 then left else c1) := ⟨_, rfl⟩
            obtain ⟨t, et⟩ := et
            have ht : 1 ≤ t ∧ t ≤ c1 ∧ t ≤ left ∧ (t = c1 ∨ t = left) := by
              rw [et]
              split <;> omega
            refine ⟨_, rfl, q, dx, _, rfl, s1 _ _ hq, qf_no (by decide +kernel) (by decide +kernel) (by decide +kernel) (by decide +kernel), _, rfl, H0, q, some z, f, c1, bs, ps, n, left, t, rfl, Q1, et, fun H2 u eu Q2 => ?_⟩
            refine ⟨u, _, rfl, SqT.of eu, rfl, _, _, rfl, _, [], rfl, rfl, ?_⟩
            obtain ⟨dx2, b2, p2, e2, _, _, _⟩ := Q2.fld
            refine ⟨_, rfl, q, dx2, _, rfl, e2, qf_no (by decide +kernel) (by decide +kernel) (by decide +kernel) (by decide +kernel), _, rfl, _, rfl, q, _, dx2, _, _, rfl, e2, T.q_cls, T.q_no_arrived, qf_arrived, _, rfl, H0, q, _, _, ps, n, f, n, t, rfl, Q2, by omega, fun H3 Q3 => ?_⟩
            obtain ⟨dx3, b3, p3, e3, _, _, f3⟩ := Q3.fld
            refine ⟨_, rfl, q, _, dx3, _, _, rfl, e3, T.q_cls, T.q_no_arrived, qf_arrived, _, rfl, n, t, rfl, rfl, dx3, _, e3, qf_len, ?_⟩
            rw [qf_parr]
            refine ⟨_, rfl, _, rfl, left, t, rfl, rfl, ?_⟩
            have lp : (addP ps f n t).length ≤ ps.length + 1 := addP_len _ _ _ _
            refine ⟨(left - t).toNat, by omega, left - t, some z, _, _, n + t, _, _, rfl, rfl, f3 (some z) (n + t), ?_, by omega, by omega, ?_, ?_⟩
            · have := good_take g hk ht.1 ht.2.1
              rw [List.append_assoc, List.replicate_append_replicate, show (c - left).toNat + t.toNat = (c - (left - t)).toNat by omega] at this
              exact this
            · rw [List.length_cons] at hle
              split
              · omega
              · rw [List.length_cons]
                omega
            · intro hp
              rw [List.length_cons] at hle
              have : t = c1 := by omega
              rw [if_pos this]
              omega
      · have hz : left = 0 := by
          have := fun z => e (decide_eq_true z)
          have : ¬ 0 < left := this
          omega
        subst hz
        refine iteF ?_
        refine ⟨_, rfl, 0, 0, rfl, rfl, _, rfl, iteND (by decide) ?_⟩
        refine fin _ _ _ _ _ Qa ?_ hl1
        rw [Int.sub_zero] at g
        exact g
  exact ⟨fd, G, F.bindsN (fun _ _ _ _ _ _ us hl => match us, hl with | [_, _, _], _ => rfl)⟩
theorem D_queue_after (T : Tx K mg) : Dn P w K mg base 3 "queue_after" ["runs"] (sp_queue_after (He.ga K "Queue")) := by
  have D_q_init := D_q_init (P := P) (w := w) (base := base) T
  have D_q_arrive := D_q_arrive (P := P) (w := w) (base := base) T
  obtain ⟨fd, F⟩ := T.f_queue_after
  have G : FnOk P w K mg base CX0 3 (He.fAd K ("queue_after", none)) fd ["runs"] (sp_queue_after (He.ga K "Queue")) := by
    refine ok0 F sc_queue_after (fun vs H Q E h => ?_) (fun cdv A outer s H vs Q E hr h => ?_)
    · obtain ⟨a, rs, rfl, _⟩ := h
      rfl
    · obtain ⟨a, rs, rfl, ⟨xs, hx, t⟩, hl, hpos, fin⟩ := h
      have hxl : xs.length = rs.length := t.1.trans (List.length_map _)
      refine ⟨_, (pss_cons (ps_set (i := 1) sc_queue_after.nd rfl (.inl rfl) (pe_dmk T.q_mk D_q_init (hr.mono (by decide)) (by rfl) T.g_Queue))
      (pss_cons (ps_for PassesOwn.never rfl (pi_list (pv 0)) (pg_tup rfl (pgs_cons (pg_name (i := 2) sc_queue_after.nd rfl (.inl rfl)) (pgs_cons (pg_name (i := 3) sc_queue_after.nd rfl (.inl rfl)) pgs_nil)))
        (pss_one (ps_expr (pe_dm T.q_cls T.q_m_arrive D_q_arrive (hr.mono (by decide)) (pv 1) (pa_cons (pv 2) (pa_cons (pv 3) pa_nil))))))
      (pss_one (ps_ret (pv 1))))), ?_⟩
      intro q dx nq ndx nex
      have s0 : Same H (upd (upd H dx (.own q)) q (.ins (He.ga K "Queue") dx [])) := (same_upd ndx).mut nq
      refine ⟨H, q, dx, rfl, s0, nq, upd_same, fun H1 Q1 => ⟨rfl, ?_⟩⟩
      refine ⟨_, rfl, a, rfl, ⟨_, SqL.of (Q1.s _ _ hx)⟩, for_list (K := K) (a := a) (xs := xs) (fun i σ H' => ∃ (kd : Option Str) (bs : List (Int × Int)) (ps : List (Int × Int × Int)) (n : Int) (v2 v3 : Option V), σ = [some (.ref a), some (.ref q), v2, v3] ∧ QAt (He.ga K "Queue") H H' q kd bs ps n ∧
          Good (items (rs.take i)) kd bs ps n ∧ bs.length + ps.length ≤ i)
        ⟨none, [], [], 0, none, none, rfl, Q1, good_nil, Nat.le_refl _⟩ (fun i σ H' _ ⟨_, _, _, _, _, _, _, Q2, _⟩ => SqL.of (Q2.s _ _ hx)) ?_ ?_⟩
      · rintro i x σ H' ex ⟨kd, bs, ps, n, v2, v3, rfl, Q2, g, hle⟩
        have hi := (List.getElem?_eq_some_iff.mp ex).1
        obtain ⟨p, ⟨k, c⟩, rfl, er, ep⟩ := LT.run t ex
        have hc : 1 ≤ c := hpos (k, c) (List.mem_of_getElem? er)
        refine ⟨p, _, rfl, SqT.of (Q2.s _ _ ep), rfl, _, _, rfl, _, [], rfl, rfl, ?_⟩
        obtain ⟨dx2, b2, p2, e2, _, _, _⟩ := Q2.fld
        refine ⟨_, rfl, q, dx2, _, rfl, e2, qf_no (by decide +kernel) (by decide +kernel) (by decide +kernel) (by decide +kernel), _, rfl, _, rfl, H, q, kd, bs, ps, n, items (rs.take i), k, c, i, rfl, Q2, g, hc, hle, by omega, fun H3 kd' bs' ps' n' Q3 g3 hle3 => ?_⟩
        refine ⟨kd', bs', ps', n', _, _, rfl, Q3, ?_, hle3⟩
        rw [take_snoc er, items_append, items_one]
        exact g3
      · rintro σ H' ⟨kd, bs, ps, n, v2, v3, rfl, Q2, g, hle⟩
        rw [hxl, List.take_length] at g
        rw [hxl] at hle
        exact ⟨_, rfl, fin H' q kd bs ps n Q2 g hle⟩
  exact ⟨⟨fd, G, F.bindsN (fun _ _ _ _ _ _ us hl => match us, hl with | [_], _ => rfl)⟩, F.kp, T.g_queue_after⟩
theorem D_ranges_of (T : Tx K mg) : Dn P w K mg base 1 "ranges_of" ["blocks"] (sp_ranges_of) := by
  obtain ⟨fd, F⟩ := T.f_ranges_of
  have G : FnOk P w K mg base CX0 1 (He.fAd K ("ranges_of", none)) fd ["blocks"] sp_ranges_of := by
    refine ok0 F sc_ranges_of (fun vs H Q E h => ?_) (fun cdv A outer s H vs Q E hr h => ?_)
    · obtain ⟨a, bs, rfl, _⟩ := h
      rfl
    · obtain ⟨a, bs, rfl, ⟨xs, hx, t⟩, hpos, hl, q⟩ := h
      have hxl : xs.length = bs.length := t.1.trans (List.length_map _)
      refine ⟨_, (pss_cons (ps_set (i := 1) sc_ranges_of.nd rfl (.inl rfl) (pe_lst pa_nil))
      (pss_cons (ps_for PassesOwn.never rfl (pi_list (pv 0)) (pg_tup rfl (pgs_cons (pg_name (i := 2) sc_ranges_of.nd rfl (.inl rfl)) (pgs_cons (pg_name (i := 3) sc_ranges_of.nd rfl (.inl rfl)) pgs_nil)))
        (pss_one (ps_if (PW.pt (pw_and (pt_cmpR (op_neD hr.units) (pv 1) (pe_lst pa_nil) (nomark _)) (pw_and1 (pt_cmpR op_eq (pe_op op_add (pe_ix (r := rIxT K) ix_tup (pe_ix (r := rIxL K) ix_list (pv 1) (pe_un un_neg pe_int) (fun _ _ => rfl)) pe_int (fun _ _ => rfl)) pe_int) (pv 2) (nomark _))))) (pss_one (ps_asg (pe_tup (pa_cons (pe_ix (r := rIxT K) ix_tup (pe_ix (r := rIxL K) ix_list (pv 1) (pe_un un_neg pe_int) (fun _ _ => rfl)) pe_int (fun _ _ => rfl)) (pa_cons (pe_op op_sub (pe_op op_add (pv 2) (pv 3)) pe_int) pa_nil))) (pg_sub (pv 1) (pe_un un_neg pe_int) set_list))) (pss_one (ps_expr (pe_bm PySem.F.plainAttrs_list PySem.F.slot_list_append PySem.F.type_list_append mt_append (pv 1) (pa_cons (pe_tup (pa_cons (pv 2) (pa_cons (pe_op op_sub (pe_op op_add (pv 2) (pv 3)) pe_int) pa_nil))) pa_nil)))))))
      (pss_one (ps_ret (pv 1))))), ?_⟩
      refine ⟨Nat.zero_le _, fun o no => ?_⟩
      have s1 : Same H (upd H o (.lst [])) := same_upd no
      refine ⟨_, rfl, a, rfl, ⟨_, SqL.of (s1 _ _ hx)⟩, for_list (K := K) (a := a) (xs := xs) (fun i σ H' => ∃ (R : List (Int × Int)) (zs : List V) (v2 v3 : Option V), σ = [some (.ref a), some (.ref o), v2, v3] ∧
          Same H H' ∧ H' o = some (.lst zs) ∧ TL H' zs (R.map dPr) ∧ RngOk R (ex (bs.take i)) ∧ R.length ≤ i)
        ⟨[], [], none, none, rfl, s1, upd_same, TL.nil, rngOk_nil, Nat.le_refl _⟩ (fun i σ H' _ ⟨_, _, _, _, _, s2, _⟩ => SqL.of (s2 _ _ hx)) ?_ ?_⟩
      · rintro i x σ H' ex1 ⟨R, zs, v2, v3, rfl, s2, eo, tz, rok, hle⟩
        have hi := (List.getElem?_eq_some_iff.mp ex1).1
        obtain ⟨p, ⟨f, c⟩, rfl, er, ep⟩ := LT.run t ex1
        have hc : 1 ≤ c := hpos (f, c) (List.mem_of_getElem? er)
        have rok2 : RngOk (addR R f c) (ex (bs.take (i + 1))) := by
          rw [take_snoc er, ex_append]
          have e1 : ex [(f, c)] = rng f c.toNat := by simp [ex]
          rw [e1]
          exact rngOk_add rok hc
        have hle2 : (addR R f c).length ≤ i + 1 := Nat.le_trans (addR_len _ _ _) (Nat.succ_le_succ hle)
        -- the last row, from any heap
        have app : ∀ H1, Same H' H1 → addR R f c = R ++ [(f, f + c - 1)] → H1 o = some (.lst zs) ∧ zs.length < sizeLine ∧ ∀ u, H1 u = none → (upd H1 u (.tup [.int f, .int (f + c - 1)])) o = some (.lst zs) ∧
            ∃ zz, Same H (upd (upd H1 u (.tup [.int f, .int (f + c - 1)])) o (.lst (zs ++ [.ref u]))) ∧ (upd (upd H1 u (.tup [.int f, .int (f + c - 1)])) o (.lst (zs ++ [.ref u]))) o = some (.lst zz) ∧ TL (upd (upd H1 u (.tup [.int f, .int (f + c - 1)])) o (.lst (zs ++ [.ref u]))) zz ((addR R f c).map dPr) := by
          intro H1 sH eR
          have eo1 := sH _ _ eo
          refine ⟨eo1, size_lt (by rw [tz.1, List.length_map]; omega), fun u nu => ?_⟩
          have nou : o ≠ u := ne_of_none eo1 nu
          obtain ⟨s3, zz, e3, t3⟩ := LT.push (s2.trans sH) no eo1 (tz.same sH) nu (d := dPr (f, f + c - 1))
          refine ⟨(upd_ne nou).trans eo1, zz, s3, e3, ?_⟩
          rw [eR, List.map_append]
          exact t3
        refine ⟨p, _, rfl, SqT.of (s2 _ _ ep), rfl, _, _, rfl, _, [], rfl, rfl, ?_⟩
        refine ⟨_, rfl, Nat.zero_le _, fun e ne => ?_⟩
        have s3 : Same H' (upd H' e (.lst [])) := same_upd ne
        refine ⟨_, _, dp_prs ⟨zs, s3 _ _ eo, tz.same s3⟩, dp_nil upd_same, sh_prs _, sh_nil, _, rfl, ?_⟩
        rw [eqv_nil]
        rcases snoc_cases R with rfl | ⟨pre, ⟨a1, b1⟩, rfl⟩
        · refine iteF ?_
          refine iteF ?_
          obtain ⟨h1, h2, h3⟩ := app _ s3 rfl
          refine ⟨_, rfl, .inl ⟨rfl, _, SqL.of h1⟩, _, rfl, _, rfl, _, rfl, f, c, rfl, rfl, f + c, 1, rfl, rfl, (by show 2 ≤ sizeLine; decide), fun u nu => ?_⟩
          obtain ⟨h4, zz, h5, h6, h7⟩ := h3 u nu
          exact ⟨o, zs, _, rfl, rfl, h4, h2, _, zz, _, _, rfl, h5, h6, h7, rok2, hle2⟩
        · rw [show (!(pre ++ [(a1, b1)]).isEmpty) = true by cases pre <;> rfl]
          refine iteT ?_
          obtain ⟨ys, y, rfl⟩ : ∃ ys y, zs = ys ++ [y] := by
            rcases snoc_cases zs with rfl | ⟨ys, y, rfl⟩
            · have := tz.1; simp at this
            · exact ⟨ys, y, rfl⟩
          have hlen : ys.length = pre.length := by
            have := tz.1
            rw [List.length_map, List.length_append, List.length_append] at this
            exact Nat.succ.inj this
          obtain ⟨r, er2, etr⟩ := tz.2 pre.length (dPr (a1, b1)) (by simp)
          rw [← hlen, List.getElem?_append_right (Nat.le_refl _), Nat.sub_self] at er2
          have er2 : y = .ref r := Option.some.inj er2
          subst er2
          have eo1 := s3 _ _ eo
          refine ⟨_, rfl, _, rfl, o, _, -1, _, rfl, rfl, SqL.of eo1, atI_last _ _, r, _, 1, _, rfl, rfl, SqT.of (s3 _ _ etr), atI_nat (j := 1) rfl, b1, 1, rfl, rfl, _, rfl, rfl, _, rfl, ite2 (fun ee => ?_) (fun ee => ?_)⟩
          · have ee : b1 + 1 = f := V.int.inj (of_decide_eq_true ee)
            refine ⟨_, rfl, _, rfl, o, _, -1, _, rfl, rfl, SqL.of eo1, atI_last _ _, r, _, 0, _, rfl, rfl, SqT.of (s3 _ _ etr), atI_nat (j := 0) rfl, _, rfl, _, rfl, f, c, rfl, rfl, f + c, 1, rfl, rfl, (by show 2 ≤ sizeLine; decide), fun u nu => ?_⟩
            have s4 : Same H' (upd (upd H' e (.lst [])) u (.tup [.int a1, .int (f + c - 1)])) := s3.new nu
            have eo4 := s4 _ _ eo
            refine ⟨_, rfl, _, rfl, o, _, -1, ys.length, rfl, rfl, eo4, ?_, ?_⟩
            · unfold ixN
              rw [if_neg (by decide), if_pos (by rw [List.length_append, List.length_singleton]; omega), List.length_append, List.length_singleton]
              congr 1
              omega
            · have hlo : ∀ d, (upd (upd H' e (.lst [])) u (.tup [.int a1, .int (f + c - 1)])) o ≠ some (.tup d) := fun d z => by rw [eo4] at z; cases z
              refine ⟨addR (pre ++ [(a1, b1)]) f c, _, _, _, rfl, (s2.trans s4).mut no, upd_same, TL.mut ?_ hlo, rok2, hle2⟩
              rw [addR_snoc, if_pos ee]
              have e4 : ((pre ++ [(a1, b1)]).map dPr).set ys.length (dPr (a1, f + c - 1)) = (pre ++ [(a1, f + c - 1)]).map dPr := by
                rw [hlen, List.map_append, List.map_append, List.set_append_right _ _ (by rw [List.length_map]; exact Nat.le_refl _), List.length_map, Nat.sub_self]
                rfl
              rw [← e4]
              exact TL.set (j := ys.length) (tz.same s4) upd_same
          · have ee : ¬ b1 + 1 = f := fun z => ee (decide_eq_true (congrArg V.int z))
            obtain ⟨h1, h2, h3⟩ := app _ s3 (by rw [addR_snoc, if_neg ee])
            refine ⟨_, rfl, .inl ⟨rfl, _, SqL.of h1⟩, _, rfl, _, rfl, _, rfl, f, c, rfl, rfl, f + c, 1, rfl, rfl, (by show 2 ≤ sizeLine; decide), fun u nu => ?_⟩
            obtain ⟨h4, zz, h5, h6, h7⟩ := h3 u nu
            exact ⟨o, _, _, rfl, rfl, h4, h2, _, zz, _, _, rfl, h5, h6, h7, rok2, hle2⟩
      · rintro σ H' ⟨R, zs, v2, v3, rfl, s2, eo, tz, rok, hle⟩
        rw [hxl, List.take_length] at rok
        rw [hxl] at hle
        exact ⟨_, rfl, q H' o R s2 ⟨zs, eo, tz⟩ rok hle⟩
  exact ⟨⟨fd, G, F.bindsN (fun _ _ _ _ _ _ us hl => match us, hl with | [_], _ => rfl)⟩, F.kp, T.g_ranges_of⟩
theorem D_waiting_at (T : Tx K mg) : Dn P w K mg base 6 "waiting_at" ["sequence", "moment"] (sp_waiting_at) := by
  have D_checked_runs := D_checked_runs (P := P) (w := w) (base := base) T
  have D_check_position := D_check_position (P := P) (w := w) (base := base) T
  have D_length_of := D_length_of (P := P) (w := w) (base := base) T
  have D_part_by := D_part_by (P := P) (w := w) (base := base) T
  have D_queue_after := D_queue_after (P := P) (w := w) (base := base) T
  have D_ranges_of := D_ranges_of (P := P) (w := w) (base := base) T
  obtain ⟨fd, F⟩ := T.f_waiting_at
  have G : FnOk P w K mg base CX0 6 (He.fAd K ("waiting_at", none)) fd ["sequence", "moment"] sp_waiting_at := by
    refine ok0 F sc_waiting_at (fun vs H Q E h => ?_) (fun cdv A outer s H vs Q E hr h => ?_)
    · obtain ⟨a, rs, m, rfl, _⟩ := h
      rfl
    · obtain ⟨a, rs, m, rfl, lt, ok, h0, h1, q⟩ := h
      have hl := ok.len
      refine ⟨_, (pss_cons (ps_set (i := 2) sc_waiting_at.nd rfl (.inl rfl) (pe_dn D_checked_runs (hr.mono (by decide)) (by rfl) (pa_cons (pv 0) pa_nil)))
      (pss_cons (ps_expr (pe_dn D_check_position (hr.mono (by decide)) (by rfl) (pa_cons (pv 1) (pa_cons (pe_dn D_length_of (hr.mono (by decide)) (by rfl) (pa_cons (pv 2) pa_nil)) pa_nil))))
      (pss_one (ps_ret (pe_dn D_ranges_of (hr.mono (by decide)) (by rfl) (pa_cons (pe_fld (pe_dn D_queue_after (hr.mono (by decide)) (by rfl) (pa_cons (pe_dn D_part_by (hr.mono (by decide)) (by rfl) (pa_cons (pv 2) (pa_cons pe_int (pa_cons (pv 1) pa_nil)))) pa_nil)) rfl) pa_nil)))))), ?_⟩
      refine ⟨_, rfl, a, rs, rfl, lt, ok, fun H1 o s1 no lt1 => ?_⟩
      refine ⟨_, rfl, _, rfl, o, rs, rfl, lt1, by omega, fun H2 s2 => ?_⟩
      refine ⟨m, _, rfl, h0, ?_, ?_⟩
      · rw [items_len rs ok.pos] at h1
        exact h1
      · refine ⟨_, rfl, _, rfl, o, rs, 0, m, rfl, lt1.same s2, by omega, ok.pos, by decide, h0, fun H3 u rs' s3 nu lt3 pok => ?_⟩
        have hl2 := pok.len
        refine ⟨u, rs', rfl, lt3, by omega, pok.pos, fun H4 qa kd bs ps n Q4 g hle => ?_⟩
        obtain ⟨dx, b, p, e1, lb, lp, _⟩ := Q4.fld
        refine ⟨qa, _, dx, _, _, rfl, e1, T.q_cls, T.q_no_blocks, qf_blocks, ?_⟩
        refine ⟨b, bs, rfl, lb, g.bp, by omega, fun H5 v R s5 l5 rok hR => ?_⟩
        refine q _ _ R ((((s1.trans s2).trans s3).trans Q4.s).trans s5) l5 ?_ (by omega)
        have e2 : ex bs = (Uk.F (items rs')).w := congrArg (fun z : Uk.It Str => z.w) g.eq
        rw [e2, pok.its, show (0 : Int).toNat = 0 from rfl, List.drop_zero] at rok
        exact rok
  exact ⟨⟨fd, G, F.bindsN (fun _ _ _ _ _ _ us hl => match us, hl with | [_, _], _ => rfl)⟩, F.kp, T.g_waiting_at⟩
theorem D_pairs_by (T : Tx K mg) : Dn P w K mg base 4 "pairs_by" ["runs"] (sp_pairs_by) := by
  have D_queue_after := D_queue_after (P := P) (w := w) (base := base) T
  obtain ⟨fd, F⟩ := T.f_pairs_by
  have G : FnOk P w K mg base CX0 4 (He.fAd K ("pairs_by", none)) fd ["runs"] sp_pairs_by := by
    refine ok0 F sc_pairs_by (fun vs H Q E h => ?_) (fun cdv A outer s H vs Q E hr h => ?_)
    · obtain ⟨a, rs, rfl, _⟩ := h
      rfl
    · obtain ⟨a, rs, rfl, lt, hl, hpos, q⟩ := h
      refine ⟨_, (pss_one (ps_ret (pe_fld (pe_dn D_queue_after (hr.mono (by decide)) (by rfl) (pa_cons (pv 0) pa_nil)) rfl))), ?_⟩
      refine ⟨_, rfl, a, rs, rfl, lt, hl, hpos, fun H4 qa kd bs ps n Q4 g hle => ?_⟩
      obtain ⟨dx, b, p, e1, lb, lp, _⟩ := Q4.fld
      refine ⟨qa, _, dx, _, _, rfl, e1, T.q_cls, T.q_no_pairs, qf_pairs, ?_⟩
      exact q _ _ ps Q4.s lp g.pp (congrArg (fun z : Uk.It Str => z.p) g.eq) (by omega)
  exact ⟨⟨fd, G, F.bindsN (fun _ _ _ _ _ _ us hl => match us, hl with | [_], _ => rfl)⟩, F.kp, T.g_pairs_by⟩
end
end Uk
/-! Partners, pairs by number, the longest wait. -/
namespace Uk
open PySem PySem.Spec PyProof.Rows L2
abbrev sl_number_of : List Str := ["blocks", "first", "second", "count"]
theorem sc_number_of : FnScope sl_number_of ["blocks"] (defScope s_number_of) := ⟨rfl, rfl, rfl, by decide +kernel, rfl, by decide +kernel, by decide +kernel⟩
abbrev sl_partner_of : List Str := ["sequence", "position", "runs", "first", "second", "count"]
theorem sc_partner_of : FnScope sl_partner_of ["sequence", "position"] (defScope s_partner_of) := ⟨rfl, rfl, rfl, by decide +kernel, rfl, by decide +kernel, by decide +kernel⟩
abbrev sl_pair_count : List Str := ["sequence", "moment", "runs"]
theorem sc_pair_count : FnScope sl_pair_count ["sequence", "moment"] (defScope s_pair_count) := ⟨rfl, rfl, rfl, by decide +kernel, rfl, by decide +kernel, by decide +kernel⟩
abbrev sl_pairs_of : List Str := ["sequence"]
theorem sc_pairs_of : FnScope sl_pairs_of ["sequence"] (defScope s_pairs_of) := ⟨rfl, rfl, rfl, by decide +kernel, rfl, by decide +kernel, by decide +kernel⟩
abbrev sl_nth_pair : List Str := ["sequence", "index", "blocks", "left", "first", "second", "count"]
theorem sc_nth_pair : FnScope sl_nth_pair ["sequence", "index"] (defScope s_nth_pair) := ⟨rfl, rfl, rfl, by decide +kernel, rfl, by decide +kernel, by decide +kernel⟩
abbrev sl_longest_wait : List Str := ["sequence", "blocks", "most", "first", "second", "count"]
theorem sc_longest_wait : FnScope sl_longest_wait ["sequence"] (defScope s_longest_wait) := ⟨rfl, rfl, rfl, by decide +kernel, rfl, by decide +kernel, by decide +kernel⟩
def sp_number_of : Sp := fun vs H Q _ => ∃ (a : Addr) (ps : List (Int × Int × Int)), vs = [.ref a] ∧ LT H a (ps.map dTr) ∧ ps.length ≤ 1000 ∧ ∀ H', Same H H' → Q (.int (ps.map (·.2.2)).sum) H'
def MateV (P : List (Int × Int)) (p : Int) (v : V) : Prop := (v = .non ∧ Lone P p) ∨ ∃ x, v = .int x ∧ Mate P p x
def sp_partner_of : Sp := fun vs H Q _ => ∃ (a : Addr) (rs : List (Str × Int)) (p : Int), vs = [.ref a, .int p] ∧ LT H a (rs.map dRun) ∧ SeqOk rs ∧ 0 ≤ p ∧ p < ((items rs).length : Int) ∧
  ∀ H' v, Same H H' → MateV (F (items rs)).p p v → Q v H'
def sp_pair_count : Sp := fun vs H Q _ => ∃ (a : Addr) (rs : List (Str × Int)) (mv : V) (m : Nat), vs = [.ref a, mv] ∧ LT H a (rs.map dRun) ∧ SeqOk rs ∧ ((mv = .non ∧ m = (items rs).length) ∨ (mv = .int m ∧ m ≤ (items rs).length)) ∧
  ∀ H', Same H H' → Q (.int ((F ((items rs).take m)).p.length : Nat)) H'
def sp_pairs_of : Sp := fun vs H Q _ => ∃ (a : Addr) (rs : List (Str × Int)), vs = [.ref a] ∧ LT H a (rs.map dRun) ∧ SeqOk rs ∧
  ∀ H' p ps, Same H H' → LT H' p (ps.map dTr) → (∀ t ∈ ps, 1 ≤ t.2.2) → exP ps = (F (items rs)).p → ps.length ≤ 400 → Q (.ref p) H'
def sp_nth_pair : Sp := fun vs H Q _ => ∃ (a : Addr) (rs : List (Str × Int)) (i : Int) (q : Int × Int), vs = [.ref a, .int i] ∧ LT H a (rs.map dRun) ∧ SeqOk rs ∧ 0 ≤ i ∧ (F (items rs)).p[i.toNat]? = some q ∧
  ∀ H' u, Same H H' → H' u = some (.tup (dPr q)) → Q (.ref u) H'
def LongV (P : List (Int × Int)) (H : Hp) (v : V) : Prop := (P = [] ∧ v = .non) ∨ ∃ u q, v = .ref u ∧ H u = some (.tup (dPr q)) ∧ q ∈ P ∧ ∀ r ∈ P, r.2 - r.1 ≤ q.2 - q.1
def sp_longest_wait : Sp := fun vs H Q _ => ∃ (a : Addr) (rs : List (Str × Int)), vs = [.ref a] ∧ LT H a (rs.map dRun) ∧ SeqOk rs ∧ ∀ H' v, Same H H' → LongV (F (items rs)).p H' v → Q v H'
section
variable {P : Program} {w : World} {K : PySem.W.Frag} {mg : Str → Option Value} {base : Heap}
theorem D_number_of (T : Tx K mg) : Dn P w K mg base 1 "number_of" ["blocks"] (sp_number_of) := by
  obtain ⟨fd, F⟩ := T.f_number_of
  have G : FnOk P w K mg base CX0 1 (He.fAd K ("number_of", none)) fd ["blocks"] sp_number_of := by
    refine ok0 F sc_number_of (fun vs H Q E h => ?_) (fun cdv A outer s H vs Q E hr h => ?_)
    · obtain ⟨a, rs, rfl, _⟩ := h
      rfl
    · obtain ⟨a, ps, rfl, ⟨xs, hx, t⟩, hl, q⟩ := h
      have hxl : xs.length = ps.length := t.1.trans (List.length_map _)
      refine ⟨_, (pss_one (ps_ret (pe_callB (cr_sum rfl) (by rfl) T.m_sum (by decide +kernel) (pa_cons (pe_lc (own := [("first", 1), ("second", 2), ("count", 3)]) (g := gTup K 3 (gCons (gName 1) (gCons (gName 2) (gCons (gName 3) (gNil))))) (tt := tYes) rfl sc_number_of.nd (pi_list (pv 0)) (blkOk_by (own := [("first", 1), ("second", 2), ("count", 3)]) (N := sl_number_of) (sc := defScope s_number_of) (by decide +kernel)) (fun _ _ _ _ _ => (pg_tup rfl (pgs_cons (pg_name (i := 1) sc_number_of.nd rfl (.inl rfl)) (pgs_cons (pg_name (i := 2) sc_number_of.nd rfl (.inl rfl)) (pgs_cons (pg_name (i := 3) sc_number_of.nd rfl (.inl rfl)) pgs_nil))))) (fun _ _ _ _ _ => pts_nil) (fun _ _ _ _ _ => (pv 3))) pa_nil)))), ?_⟩
      refine ⟨_, rfl, a, rfl, ⟨_, SqL.of hx⟩, fun D nD => ?_⟩
      refine lc_to (xs := xs) (ys := (ps.map (·.2.2)).map V.int) (SqL.of hx) nD (by simp [hxl]) (size_lt (by omega)) (fun i x y H2 Nx ex ey s2 k => ?_) (fun H2 s2 e2 => ?_)
      · obtain ⟨p, r, rfl, er, ep⟩ := LT.run t ex
        rw [List.getElem?_map, List.getElem?_map, er] at ey
        have ey := Option.some.inj ey
        subst ey
        exact ⟨p, _, rfl, SqT.of (s2 _ _ ep), rfl, _, _, rfl, _, _, rfl, _, [], rfl, rfl, rfl, _, rfl, k _ (Same.refl _)⟩
      · exact ⟨D, _, rfl, SqL.of e2, q _ s2⟩
  exact ⟨⟨fd, G, F.bindsN (fun _ _ _ _ _ _ us hl => match us, hl with | [_], _ => rfl)⟩, F.kp, T.g_number_of⟩
theorem D_partner_of (T : Tx K mg) : Dn P w K mg base 6 "partner_of" ["sequence", "position"] (sp_partner_of) := by
  have D_checked_runs := D_checked_runs (P := P) (w := w) (base := base) T
  have D_check_position := D_check_position (P := P) (w := w) (base := base) T
  have D_length_of := D_length_of (P := P) (w := w) (base := base) T
  have D_pairs_by := D_pairs_by (P := P) (w := w) (base := base) T
  obtain ⟨fd, F⟩ := T.f_partner_of
  have G : FnOk P w K mg base CX0 6 (He.fAd K ("partner_of", none)) fd ["sequence", "position"] sp_partner_of := by
    refine ok0 F sc_partner_of (fun vs H Q E h => ?_) (fun cdv A outer s H vs Q E hr h => ?_)
    · obtain ⟨a, rs, p, rfl, _⟩ := h
      rfl
    · obtain ⟨a, rs, p, rfl, lt, ok, h0, h1, q⟩ := h
      have hl := ok.len
      refine ⟨_, (pss_cons (ps_set (i := 2) sc_partner_of.nd rfl (.inl rfl) (pe_dn D_checked_runs (hr.mono (by decide)) (by rfl) (pa_cons (pv 0) pa_nil)))
      (pss_cons (ps_expr (pe_dn D_check_position (hr.mono (by decide)) (by rfl) (pa_cons (pv 1) (pa_cons (pe_op op_sub (pe_dn D_length_of (hr.mono (by decide)) (by rfl) (pa_cons (pv 2) pa_nil)) pe_int) pa_nil))))
      (pss_cons (ps_for PassesOwn.never rfl (pi_list (pe_dn D_pairs_by (hr.mono (by decide)) (by rfl) (pa_cons (pv 2) pa_nil))) (pg_tup rfl (pgs_cons (pg_name (i := 3) sc_partner_of.nd rfl (.inl rfl)) (pgs_cons (pg_name (i := 4) sc_partner_of.nd rfl (.inl rfl)) (pgs_cons (pg_name (i := 5) sc_partner_of.nd rfl (.inl rfl)) pgs_nil))))
        (pss_cons (ps_if (pt_chain op_le op_lt (pv 3) (pv 1) (pe_op op_add (pv 3) (pv 5))) (pss_one (ps_ret (pe_op op_sub (pe_op op_add (pv 4) (pv 1)) (pv 3)))) pss_nil)
        (pss_one (ps_if (pt_chain op_le op_lt (pv 4) (pv 1) (pe_op op_add (pv 4) (pv 5))) (pss_one (ps_ret (pe_op op_sub (pe_op op_add (pv 3) (pv 1)) (pv 4)))) pss_nil))))
      (pss_one (ps_ret pe_non))))), ?_⟩
      refine ⟨_, rfl, a, rs, rfl, lt, ok, fun H1 o s1 no lt1 => ?_⟩
      refine ⟨_, rfl, _, rfl, o, rs, rfl, lt1, by omega, fun H2 s2 => ?_⟩
      refine ⟨_, _, rfl, rfl, p, _, rfl, h0, ?_, ?_⟩
      · rw [items_len rs ok.pos] at h1
        show p ≤ (rs.map (·.2)).sum - 1
        omega
      · refine ⟨_, rfl, o, rs, rfl, lt1.same s2, hl, ok.pos, fun H3 u ps s3 lt3 pp ep hps => ?_⟩
        obtain ⟨xs, hx, t⟩ := lt3
        have hxl : xs.length = ps.length := t.1.trans (List.length_map _)
        have s13 := (s1.trans s2).trans s3
        refine ⟨u, rfl, ⟨_, SqL.of hx⟩, for_list (K := K) (a := u) (xs := xs) (fun i σ H' => ∃ (v3 v4 v5 : Option V), σ = [some (.ref a), some (.int p), some (.ref o), v3, v4, v5] ∧ Same H3 H' ∧ Lone (exP (ps.take i)) p)
          ⟨none, none, none, rfl, Same.refl _, lone_nil p⟩ (fun i σ H' _ ⟨_, _, _, _, s4, _⟩ => SqL.of (s4 _ _ hx)) ?_ ?_⟩
        · rintro i x σ H' ex1 ⟨v3, v4, v5, rfl, s4, hlo⟩
          obtain ⟨pa, ⟨f, s', c⟩, rfl, er, epa⟩ := LT.run t ex1
          have hc : 1 ≤ c := pp (f, s', c) (List.mem_of_getElem? er)
          refine ⟨pa, _, rfl, SqT.of (s4 _ _ epa), rfl, _, _, rfl, _, _, rfl, _, [], rfl, rfl, ?_⟩
          -- the second test
          have second : ∀ (h2 : ¬ (f ≤ p ∧ p < f + c)), Lone (exP (ps.take i)) p → (¬ (s' ≤ p ∧ p < s' + c) → Lone (exP (ps.take (i + 1))) p) := fun h2 hlo h3 => by
            have e2 : ps.take (i + 1) = ps.take i ++ [(f, s', c)] := by rw [List.take_add_one, er]; rfl
            rw [e2, exP_snoc]
            exact lone_add hlo hc h2 h3
          refine ⟨_, rfl, _, rfl, f, p, rfl, rfl, _, rfl, ite2 (fun e1 => ?_) (fun e1 => ?_)⟩
          · have e1 := of_decide_eq_true e1
            refine ⟨_, rfl, _, rfl, f, c, rfl, rfl, p, f + c, rfl, rfl, _, rfl, ite2 (fun e2 => ?_) (fun e2 => ?_)⟩
            · have e2 := of_decide_eq_true e2
              refine ⟨_, rfl, _, rfl, s', p, rfl, rfl, _, rfl, s' + p, f, rfl, rfl, ?_⟩
              refine q _ _ (s13.trans s4) (.inr ⟨_, rfl, .inl ?_⟩)
              rw [← ep]
              exact exP_take_mem er (prs_mem1 e1 e2)
            · have e2 := fun z => e2 (decide_eq_true z)
              refine ⟨_, rfl, _, rfl, s', p, rfl, rfl, _, rfl, ite2 (fun e3 => ?_) (fun e3 => ?_)⟩
              · have e3 := of_decide_eq_true e3
                refine ⟨_, rfl, _, rfl, s', c, rfl, rfl, p, s' + c, rfl, rfl, _, rfl, ite2 (fun e4 => ?_) (fun e4 => ?_)⟩
                · have e4 := of_decide_eq_true e4
                  refine ⟨_, rfl, _, rfl, f, p, rfl, rfl, _, rfl, f + p, s', rfl, rfl, ?_⟩
                  refine q _ _ (s13.trans s4) (.inr ⟨_, rfl, .inr ?_⟩)
                  rw [← ep]
                  exact exP_take_mem er (prs_mem2 e3 e4)
                · have e4 := fun z => e4 (decide_eq_true z)
                  exact ⟨_, _, _, rfl, s4, second (fun z => e2 z.2) hlo (fun z => e4 z.2)⟩
              · have e3 := fun z => e3 (decide_eq_true z)
                refine ⟨_, rfl, iteF ?_⟩
                exact ⟨_, _, _, rfl, s4, second (fun z => e2 z.2) hlo (fun z => e3 z.1)⟩
          · have e1 := fun z => e1 (decide_eq_true z)
            refine ⟨_, rfl, iteF ?_⟩
            refine ⟨_, rfl, _, rfl, s', p, rfl, rfl, _, rfl, ite2 (fun e3 => ?_) (fun e3 => ?_)⟩
            · have e3 := of_decide_eq_true e3
              refine ⟨_, rfl, _, rfl, s', c, rfl, rfl, p, s' + c, rfl, rfl, _, rfl, ite2 (fun e4 => ?_) (fun e4 => ?_)⟩
              · have e4 := of_decide_eq_true e4
                refine ⟨_, rfl, _, rfl, f, p, rfl, rfl, _, rfl, f + p, s', rfl, rfl, ?_⟩
                refine q _ _ (s13.trans s4) (.inr ⟨_, rfl, .inr ?_⟩)
                rw [← ep]
                exact exP_take_mem er (prs_mem2 e3 e4)
              · have e4 := fun z => e4 (decide_eq_true z)
                exact ⟨_, _, _, rfl, s4, second (fun z => e1 z.1) hlo (fun z => e4 z.2)⟩
            · have e3 := fun z => e3 (decide_eq_true z)
              refine ⟨_, rfl, iteF ?_⟩
              exact ⟨_, _, _, rfl, s4, second (fun z => e1 z.1) hlo (fun z => e3 z.1)⟩
        · rintro σ H' ⟨v3, v4, v5, rfl, s4, hlo⟩
          rw [hxl, List.take_length, ep] at hlo
          exact q _ _ (s13.trans s4) (.inl ⟨rfl, hlo⟩)
  exact ⟨⟨fd, G, F.bindsN (fun _ _ _ _ _ _ us hl => match us, hl with | [_, _], _ => rfl)⟩, F.kp, T.g_partner_of⟩
theorem D_pair_count (T : Tx K mg) : Dd P w K mg base 6 "pair_count" ["sequence", "moment"] (sp_pair_count) := by
  have D_checked_runs := D_checked_runs (P := P) (w := w) (base := base) T
  have D_check_position := D_check_position (P := P) (w := w) (base := base) T
  have D_length_of := D_length_of (P := P) (w := w) (base := base) T
  have D_part_by := D_part_by (P := P) (w := w) (base := base) T
  have D_pairs_by := D_pairs_by (P := P) (w := w) (base := base) T
  have D_number_of := D_number_of (P := P) (w := w) (base := base) T
  obtain ⟨fd, F⟩ := T.f_pair_count
  have G : FnOk P w K mg base CX0 6 (He.fAd K ("pair_count", none)) fd ["sequence", "moment"] sp_pair_count := by
    refine ok0 F sc_pair_count (fun vs H Q E h => ?_) (fun cdv A outer s H vs Q E hr h => ?_)
    · obtain ⟨a, rs, mv, m, rfl, _⟩ := h
      rfl
    · obtain ⟨a, rs, mv, m, rfl, lt, ok, hm, q⟩ := h
      have hl := ok.len
      refine ⟨_, (pss_cons (ps_set (i := 2) sc_pair_count.nd rfl (.inl rfl) (pe_dn D_checked_runs (hr.mono (by decide)) (by rfl) (pa_cons (pv 0) pa_nil)))
      (pss_cons (ps_if (pt_cmpR op_notN (pv 1) pe_non (nomark _)) (pss_cons (ps_expr (pe_dn D_check_position (hr.mono (by decide)) (by rfl) (pa_cons (pv 1) (pa_cons (pe_dn D_length_of (hr.mono (by decide)) (by rfl) (pa_cons (pv 2) pa_nil)) pa_nil))))
        (pss_one (ps_set (i := 2) sc_pair_count.nd rfl (.inl rfl) (pe_dn D_part_by (hr.mono (by decide)) (by rfl) (pa_cons (pv 2) (pa_cons pe_int (pa_cons (pv 1) pa_nil))))))) pss_nil)
      (pss_one (ps_ret (pe_dn D_number_of (hr.mono (by decide)) (by rfl) (pa_cons (pe_dn D_pairs_by (hr.mono (by decide)) (by rfl) (pa_cons (pv 2) pa_nil)) pa_nil)))))), ?_⟩
      refine ⟨_, rfl, a, rs, rfl, lt, ok, fun H1 o s1 no lt1 => ?_⟩
      refine ⟨_, rfl, rfl, _, rfl, ?_⟩
      rcases hm with ⟨rfl, rfl⟩ | ⟨rfl, hm⟩
      · refine iteNS rfl ?_
        refine ⟨_, rfl, o, rs, rfl, lt1, hl, ok.pos, fun H3 u ps s3 lt3 pp ep hps => ?_⟩
        refine ⟨u, ps, rfl, lt3, by omega, fun H4 s4 => ?_⟩
        rw [← exP_len ps pp, ep, ← List.take_length (l := items rs)]
        have := q H4 ((s1.trans s3).trans s4)
        rw [List.take_length] at this ⊢
        exact this
      · refine iteNN (fun z => nomatch z) ?_
        refine ⟨_, rfl, _, rfl, o, rs, rfl, lt1, by omega, fun H2 s2 => ?_⟩
        refine ⟨(m : Int), _, rfl, by omega, ?_, ?_⟩
        · have := items_len rs ok.pos
          show (m : Int) ≤ (rs.map (·.2)).sum
          omega
        · refine ⟨_, rfl, _, rfl, o, rs, 0, m, rfl, lt1.same s2, by omega, ok.pos, by decide, by omega, fun H3 u rs' s3 nu lt3 pok => ?_⟩
          have hl2 := pok.len
          refine ⟨_, rfl, u, rs', rfl, lt3, by omega, pok.pos, fun H4 v ps s4 lt4 pp ep hps => ?_⟩
          refine ⟨v, ps, rfl, lt4, by omega, fun H5 s5 => ?_⟩
          rw [← exP_len ps pp, ep, pok.its, show (0 : Int).toNat = 0 from rfl, List.drop_zero, show ((m : Nat) : Int).toNat = m from Int.toNat_natCast m]
          exact q H5 ((((s1.trans s2).trans s3).trans s4).trans s5)
  obtain ⟨d0, v0, b0⟩ := F.binds1 (ps := ["sequence", "moment"]) 2 1 (by simp) rfl (fun _ _ _ _ _ _ _ us its h1 h2 => match us, its, h1, h2 with | [_, _], [_], _, _ => ⟨_, rfl, rfl⟩)
  obtain ⟨d1, v1, b1⟩ := F.binds1 (ps := ["sequence", "moment"]) 1 0 (by simp) rfl (fun _ _ _ _ _ _ _ us its h1 h2 => match us, its, h1, h2 with | [_], [_], _, _ => ⟨_, rfl, rfl⟩)
  have e0 : d0 = [] := Vals.zero v0
  subst e0
  exact ⟨⟨fd, G, b0, d1, v1, b1⟩, F.kp, T.g_pair_count⟩
theorem D_pairs_of (T : Tx K mg) : Dn P w K mg base 6 "pairs_of" ["sequence"] (sp_pairs_of) := by
  have D_checked_runs := D_checked_runs (P := P) (w := w) (base := base) T
  have D_pairs_by := D_pairs_by (P := P) (w := w) (base := base) T
  obtain ⟨fd, F⟩ := T.f_pairs_of
  have G : FnOk P w K mg base CX0 6 (He.fAd K ("pairs_of", none)) fd ["sequence"] sp_pairs_of := by
    refine ok0 F sc_pairs_of (fun vs H Q E h => ?_) (fun cdv A outer s H vs Q E hr h => ?_)
    · obtain ⟨a, rs, rfl, _⟩ := h
      rfl
    · obtain ⟨a, rs, rfl, lt, ok, q⟩ := h
      refine ⟨_, (pss_one (ps_ret (pe_dn D_pairs_by (hr.mono (by decide)) (by rfl) (pa_cons (pe_dn D_checked_runs (hr.mono (by decide)) (by rfl) (pa_cons (pv 0) pa_nil)) pa_nil)))), ?_⟩
      refine ⟨_, rfl, a, rs, rfl, lt, ok, fun H1 o s1 no lt1 => ?_⟩
      exact ⟨o, rs, rfl, lt1, ok.len, ok.pos, fun H3 u ps s3 lt3 pp ep hps => q _ _ ps (s1.trans s3) lt3 pp ep hps⟩
  exact ⟨⟨fd, G, F.bindsN (fun _ _ _ _ _ _ us hl => match us, hl with | [_], _ => rfl)⟩, F.kp, T.g_pairs_of⟩
theorem D_nth_pair (T : Tx K mg) : Dn P w K mg base 6 "nth_pair" ["sequence", "index"] (sp_nth_pair) := by
  have D_checked_runs := D_checked_runs (P := P) (w := w) (base := base) T
  have D_pairs_by := D_pairs_by (P := P) (w := w) (base := base) T
  have D_number_of := D_number_of (P := P) (w := w) (base := base) T
  have D_is_integer := D_is_integer (P := P) (w := w) (base := base) T
  obtain ⟨fd, F⟩ := T.f_nth_pair
  have G : FnOk P w K mg base CX0 6 (He.fAd K ("nth_pair", none)) fd ["sequence", "index"] sp_nth_pair := by
    refine ok0 F sc_nth_pair (fun vs H Q E h => ?_) (fun cdv A outer s H vs Q E hr h => ?_)
    · obtain ⟨a, rs, i, q, rfl, _⟩ := h
      rfl
    · obtain ⟨a, rs, i, qq, rfl, lt, ok, h0, hq, q⟩ := h
      have hi := (List.getElem?_eq_some_iff.mp hq).1
      refine ⟨_, (pss_cons (ps_set (i := 2) sc_nth_pair.nd rfl (.inl rfl) (pe_dn D_pairs_by (hr.mono (by decide)) (by rfl) (pa_cons (pe_dn D_checked_runs (hr.mono (by decide)) (by rfl) (pa_cons (pv 0) pa_nil)) pa_nil)))
      (pss_cons (ps_if (pt_not (pt_val (pe_dn D_is_integer.n (hr.mono (by decide)) (by rfl) (pa_cons (pv 1) (pa_cons pe_int (pa_cons (pe_op op_sub (pe_dn D_number_of (hr.mono (by decide)) (by rfl) (pa_cons (pv 2) pa_nil)) pe_int) pa_nil)))))) (pss_one ps_never) pss_nil)
      (pss_cons (ps_set (i := 3) sc_nth_pair.nd rfl (.inl rfl) (pv 1))
      (pss_cons (ps_for PassesOwn.never rfl (pi_list (pv 2)) (pg_tup rfl (pgs_cons (pg_name (i := 4) sc_nth_pair.nd rfl (.inl rfl)) (pgs_cons (pg_name (i := 5) sc_nth_pair.nd rfl (.inl rfl)) (pgs_cons (pg_name (i := 6) sc_nth_pair.nd rfl (.inl rfl)) pgs_nil))))
        (pss_cons (ps_if (pt_cmpR op_lt (pv 3) (pv 6) (nomark _)) (pss_one ps_break) pss_nil)
        (pss_one (ps_aug (i := 3) sc_nth_pair.nd rfl (.inl rfl) (pv 6) ip_sub))))
      (pss_one (ps_ret (pe_tup (pa_cons (pe_op op_add (pv 4) (pv 3)) (pa_cons (pe_op op_add (pv 5) (pv 3)) pa_nil))))))))), ?_⟩
      refine ⟨_, rfl, a, rs, rfl, lt, ok, fun H1 o s1 no lt1 => ?_⟩
      refine ⟨o, rs, rfl, lt1, ok.len, ok.pos, fun H2 u ps s2 lt2 pp ep hps => ?_⟩
      refine ⟨_, rfl, _, rfl, u, ps, rfl, lt2, by omega, fun H3 s3 => ?_⟩
      have hn := exP_len ps pp
      rw [ep] at hn
      refine ⟨_, _, rfl, rfl, i, 0, _, rfl, h0, .inr ⟨_, rfl, ?_⟩, _, rfl, ?_⟩
      · show i ≤ (ps.map (·.2.2)).sum - 1
        omega
      refine iteF ?_
      obtain ⟨xs, hx, t⟩ := lt2.same s3
      have hxl : xs.length = ps.length := t.1.trans (List.length_map _)
      have s13 := (s1.trans s2).trans s3
      refine ⟨_, rfl, ?_⟩
      refine ⟨_, rfl, u, rfl, ⟨_, SqL.of hx⟩, for_list (K := K) (a := u) (xs := xs) (fun j σ H' => ∃ (l : Int) (v4 v5 v6 : Option V), σ = [some (.ref a), some (.int i), some (.ref u), some (.int l), v4, v5, v6] ∧ Same H3 H' ∧ 0 ≤ l ∧ (exP (ps.drop j))[l.toNat]? = some qq)
        ⟨i, none, none, none, rfl, Same.refl _, h0, by rw [List.drop_zero, ep]; exact hq⟩ (fun i σ H' _ ⟨_, _, _, _, _, s4, _⟩ => SqL.of (s4 _ _ hx)) ?_ ?_⟩
      · rintro j x σ H' ex1 ⟨l, v4, v5, v6, rfl, s4, hl0, hlq⟩
        obtain ⟨pa, ⟨f, s', c⟩, rfl, er, epa⟩ := LT.run t ex1
        have hc : 1 ≤ c := pp (f, s', c) (List.mem_of_getElem? er)
        rw [exP_drop er] at hlq
        refine ⟨pa, _, rfl, SqT.of (s4 _ _ epa), rfl, _, _, rfl, _, _, rfl, _, [], rfl, rfl, ?_⟩
        refine ⟨_, rfl, _, rfl, l, c, rfl, rfl, _, rfl, ite2 (fun e1 => ?_) (fun e1 => ?_)⟩
        · have e1 := of_decide_eq_true e1
          have eq := nth_here hlq hl0 e1
          refine ⟨_, rfl, _, rfl, f, l, rfl, rfl, _, rfl, _, rfl, s', l, rfl, rfl, (by show 2 ≤ sizeLine; decide), fun z nz => ?_⟩
          refine q _ z ((s13.trans s4).new nz) ?_
          rw [upd_same, eq]
          rfl
        · have e1 : ¬ l < c := fun z => e1 (decide_eq_true z)
          refine ⟨_, rfl, _, rfl, l, c, rfl, rfl, ?_⟩
          refine ⟨l - c, _, _, _, rfl, s4, by omega, nth_next hlq hl0 hc e1⟩
      · rintro σ H' ⟨l, v4, v5, v6, rfl, s4, hl0, hlq⟩
        rw [hxl, List.drop_length] at hlq
        cases hlq
  exact ⟨⟨fd, G, F.bindsN (fun _ _ _ _ _ _ us hl => match us, hl with | [_, _], _ => rfl)⟩, F.kp, T.g_nth_pair⟩
theorem D_longest_wait (T : Tx K mg) : Dn P w K mg base 6 "longest_wait" ["sequence"] (sp_longest_wait) := by
  have D_checked_runs := D_checked_runs (P := P) (w := w) (base := base) T
  have D_pairs_by := D_pairs_by (P := P) (w := w) (base := base) T
  obtain ⟨fd, F⟩ := T.f_longest_wait
  have G : FnOk P w K mg base CX0 6 (He.fAd K ("longest_wait", none)) fd ["sequence"] sp_longest_wait := by
    refine ok0 F sc_longest_wait (fun vs H Q E h => ?_) (fun cdv A outer s H vs Q E hr h => ?_)
    · obtain ⟨a, rs, rfl, _⟩ := h
      rfl
    · obtain ⟨a, rs, rfl, lt, ok, q⟩ := h
      refine ⟨_, (pss_cons (ps_set (i := 1) sc_longest_wait.nd rfl (.inl rfl) (pe_dn D_pairs_by (hr.mono (by decide)) (by rfl) (pa_cons (pe_dn D_checked_runs (hr.mono (by decide)) (by rfl) (pa_cons (pv 0) pa_nil)) pa_nil)))
      (pss_cons (ps_if (pt_cmpR (op_eqD hr.units) (pv 1) (pe_lst pa_nil) (nomark _)) (pss_one (ps_ret pe_non)) pss_nil)
      (pss_cons (ps_set (i := 2) sc_longest_wait.nd rfl (.inr rfl) (pe_callB (cr_max rfl) (by rfl) T.m_max (by decide +kernel) (pa_cons (pe_lc (own := [("first", 3), ("second", 4), ("count", 5)]) (g := gTup K 3 (gCons (gName 3) (gCons (gName 4) (gCons (gName 5) (gNil))))) (tt := tYes) rfl sc_longest_wait.nd (pi_list (pv 1)) (blkOk_by (own := [("first", 3), ("second", 4), ("count", 5)]) (N := sl_longest_wait) (sc := defScope s_longest_wait) (by decide +kernel)) (fun _ _ _ _ _ => (pg_tup rfl (pgs_cons (pg_name (i := 3) sc_longest_wait.nd rfl (.inl rfl)) (pgs_cons (pg_name (i := 4) sc_longest_wait.nd rfl (.inl rfl)) (pgs_cons (pg_name (i := 5) sc_longest_wait.nd rfl (.inl rfl)) pgs_nil))))) (fun _ _ _ _ _ => pts_nil) (fun _ _ _ _ _ => (pe_op op_sub (pv 4) (pv 3)))) pa_nil)))
      (pss_one (ps_ret (pe_ix (r := rIxL K) ix_list (pe_lc (own := [("first", 3), ("second", 4), ("count", 5)]) (g := gTup K 3 (gCons (gName 3) (gCons (gName 4) (gCons (gName 5) (gNil))))) (tt := _) rfl sc_longest_wait.nd (pi_list (pv 1)) (blkOk_by (own := [("first", 3), ("second", 4), ("count", 5)]) (N := sl_longest_wait) (sc := defScope s_longest_wait) (by decide +kernel)) (fun _ _ _ _ _ => (pg_tup rfl (pgs_cons (pg_name (i := 3) sc_longest_wait.nd rfl (.inl rfl)) (pgs_cons (pg_name (i := 4) sc_longest_wait.nd rfl (.inl rfl)) (pgs_cons (pg_name (i := 5) sc_longest_wait.nd rfl (.inl rfl)) pgs_nil))))) (fun _ _ _ _ _ => pts_one (pt_cmpR op_eq (pe_op op_sub (pv 4) (pv 3)) (pv 2) (nomark _))) (fun _ _ _ _ _ => (pe_tup (pa_cons (pv 3) (pa_cons (pv 4) pa_nil))))) pe_int (fun _ _ => rfl))))))), ?_⟩
      refine ⟨_, rfl, a, rs, rfl, lt, ok, fun H1 o s1 no lt1 => ?_⟩
      refine ⟨o, rs, rfl, lt1, ok.len, ok.pos, fun H2 u ps s2 lt2 pp ep hps => ?_⟩
      refine ⟨_, rfl, Nat.zero_le _, fun e ne => ?_⟩
      have s3 : Same H2 (upd H2 e (.lst [])) := same_upd ne
      have lt3 := lt2.same s3
      have s13 := (s1.trans s2).trans s3
      refine ⟨_, _, dp_trs lt3, dp_nil upd_same, sh_trs _, sh_nil, _, rfl, ?_⟩
      rw [eqv_nil]
      cases ps with
      | nil =>
        refine iteT ?_
        exact q _ _ s13 (.inl ⟨ep.symm, rfl⟩)
      | cons t0 ps =>
        refine iteF ?_
        obtain ⟨xs, hx, t⟩ := lt3
        have hxl : xs.length = (t0 :: ps).length := t.1.trans (List.length_map _)
        refine ⟨_, rfl, u, rfl, ⟨_, SqL.of hx⟩, fun D nD => ?_⟩
        refine lc_to (xs := xs) (ys := ((t0 :: ps).map (fun t => t.2.1 - t.1)).map V.int) (SqL.of hx) nD (by rw [List.length_map, List.length_map, hxl]) (size_lt (by omega)) (fun i x y H4 Nx ex ey s4 k => ?_) (fun H4 s4 e4 => ?_)
        · obtain ⟨pa, ⟨f, s', c⟩, rfl, er, epa⟩ := LT.run t ex
          rw [List.getElem?_map, List.getElem?_map, er] at ey
          have ey := Option.some.inj ey
          subst ey
          exact ⟨pa, _, rfl, SqT.of (s4 _ _ epa), rfl, _, _, rfl, _, _, rfl, _, [], rfl, rfl, rfl, _, rfl, _, rfl, s', f, rfl, rfl, k _ (Same.refl _)⟩
        · refine ⟨D, _, rfl, SqL.of e4, by simp, fun m hm hmax => ?_⟩
          have hx4 := s4 _ _ hx
          have t4 := t.same s4
          refine ⟨_, rfl, u, rfl, ⟨_, SqL.of hx4⟩, fun D2 nD2 => ?_⟩
          refine lc_list (xs := xs) (fun i H' => Same H4 H' ∧ ∃ zs, H' D2 = some (.lst zs) ∧ TL H' zs ((((t0 :: ps).take i).filter fun t => decide (t.2.1 - t.1 = m)).map fun t => dPr (t.1, t.2.1))) ⟨same_upd nD2, [], upd_same, TL.nil⟩ (fun i H' _ h => SqL.of (h.1 _ _ hx4)) (fun i x H' ex h => ?_) (fun H' h => ?_)
          · obtain ⟨s5, zs, ez, tz⟩ := h
            obtain ⟨pa, ⟨f, s', c⟩, rfl, er, epa⟩ := LT.run t4 ex
            refine ⟨pa, _, rfl, SqT.of (s5 _ _ epa), rfl, _, _, rfl, _, _, rfl, _, [], rfl, rfl, rfl, ?_⟩
            refine ⟨_, rfl, _, rfl, s', f, rfl, rfl, _, rfl, rfl, _, rfl, ?_⟩
            have et : ((t0 :: ps).take (i + 1)).filter (fun t => decide (t.2.1 - t.1 = m)) = ((t0 :: ps).take i).filter (fun t => decide (t.2.1 - t.1 = m)) ++ (if s' - f = m then [(f, s', c)] else []) := by
              rw [take_snoc er, List.filter_append]
              congr 1
              by_cases h : s' - f = m
              · simp [List.filter_cons, h]
              · simp [List.filter_cons, h]
            refine ite2 (fun e1 => ?_) (fun e1 => ?_)
            · have e1 : s' - f = m := V.int.inj (of_decide_eq_true e1)
              rw [if_pos e1] at et
              refine ⟨_, rfl, _, rfl, (by show 2 ≤ sizeLine; decide), fun z nz => ?_⟩
              have hD2 : D2 ≠ z := ne_of_none ez nz
              refine ⟨zs, (upd_ne hD2).trans ez, ?_, (s5.new nz).mut nD2, zs ++ [.ref z], upd_same, ?_⟩
              · refine size_lt ?_
                rw [tz.1, List.length_map]
                have h1 := List.length_filter_le (fun t : Int × Int × Int => decide (t.2.1 - t.1 = m)) ((t0 :: ps).take i)
                have h2 : ((t0 :: ps).take i).length ≤ (t0 :: ps).length := by rw [List.length_take]; omega
                omega
              · rw [et, List.map_append]
                refine TL.mut (TL.snoc (tz.same (same_upd nz)) upd_same) fun d hd => ?_
                rw [upd_ne hD2, ez] at hd
                cases hd
            · have e1 : ¬ s' - f = m := fun z => e1 (decide_eq_true (congrArg V.int z))
              rw [if_neg e1, List.append_nil] at et
              refine ⟨s5, zs, ez, ?_⟩
              rw [et]
              exact tz
          · obtain ⟨s5, zs, ez, tz⟩ := h
            rw [hxl, List.take_length] at tz
            obtain ⟨tm, htm, etm⟩ := List.mem_map.mp hm
            have hmem : tm ∈ (t0 :: ps).filter (fun t => decide (t.2.1 - t.1 = m)) := List.mem_filter.mpr ⟨htm, decide_eq_true etm⟩
            obtain ⟨th, hth⟩ : ∃ th, ((t0 :: ps).filter (fun t => decide (t.2.1 - t.1 = m)))[0]? = some th := by
              cases hf : (t0 :: ps).filter (fun t => decide (t.2.1 - t.1 = m)) with
              | nil => rw [hf] at hmem; cases hmem
              | cons y ys => exact ⟨y, rfl⟩
            obtain ⟨z, ez0, etz⟩ := tz.2 0 (dPr (th.1, th.2.1)) (by rw [List.getElem?_map, hth]; rfl)
            refine ⟨D2, zs, 0, _, rfl, rfl, SqL.of ez, atI_nat (j := 0) ez0, ?_⟩
            have hthm := List.mem_filter.mp (List.mem_of_getElem? hth)
            have hd : th.2.1 - th.1 = m := of_decide_eq_true hthm.2
            refine q _ _ ((s13.trans s4).trans s5) (.inr ⟨z, (th.1, th.2.1), rfl, etz, ?_, fun r hr => ?_⟩)
            · rw [← ep]
              exact exP_first hthm.1 (pp _ hthm.1)
            · rw [← ep] at hr
              obtain ⟨t', ht', e'⟩ := exP_mem hr
              have := hmax (t'.2.1 - t'.1) (List.mem_map.mpr ⟨t', ht', rfl⟩)
              show r.2 - r.1 ≤ th.2.1 - th.1
              omega
  exact ⟨⟨fd, G, F.bindsN (fun _ _ _ _ _ _ us hl => match us, hl with | [_], _ => rfl)⟩, F.kp, T.g_longest_wait⟩
end
end Uk
/-! Whether a list is the list of all pairs. -/
namespace Uk
open PySem PySem.Spec PyProof.Rows L2
abbrev sl_is_pair : List Str := ["value", "part"]
theorem sc_is_pair : FnScope sl_is_pair ["value"] (defScope s_is_pair) := ⟨rfl, rfl, rfl, by decide +kernel, rfl, by decide +kernel, by decide +kernel⟩
abbrev sl_is_pairing : List Str := ["sequence", "value", "blocks", "due", "first", "second", "count", "pair", "step"]
theorem sc_is_pairing : FnScope sl_is_pairing ["sequence", "value"] (defScope s_is_pairing) := ⟨rfl, rfl, rfl, by decide +kernel, rfl, by decide +kernel, by decide +kernel⟩
theorem eqv_prs : ∀ l m : List (Int × Int), PyData.eqv (.list (l.map pP)) (.list (m.map pP)) = decide (l = m)
  | [], [] => by simp [PyData.eqv, PyData.eqvAll]
  | [], _ :: _ => by simp [PyData.eqv, PyData.eqvAll]
  | _ :: _, [] => by simp [PyData.eqv, PyData.eqvAll]
  | a :: l, b :: m => by
    have ih := eqv_prs l m
    rw [PyData.eqv] at ih
    rw [PyData.eqv, List.map_cons, List.map_cons, PyData.eqvAll, ih, eqv_pP]
    by_cases h1 : a = b
    · by_cases h2 : l = m
      · simp [h1, h2]
      · simp [h1, h2]
    · simp [h1]
def sp_is_pair : Sp := fun vs H Q _ => ∃ (a : Addr) (q : Int × Int), vs = [.ref a] ∧ H a = some (.tup (dPr q)) ∧ 0 ≤ q.1 ∧ 0 ≤ q.2 ∧ ∀ H', Same H H' → Q (.bl true) H'
def sp_is_pairing : Sp := fun vs H Q _ => ∃ (a b : Addr) (rs : List (Str × Int)) (due : List (Int × Int)), vs = [.ref a, .ref b] ∧ LT H a (rs.map dRun) ∧ SeqOk rs ∧ LT H b (due.map dPr) ∧ (∀ q ∈ due, 0 ≤ q.1 ∧ 0 ≤ q.2) ∧ due.length ≤ 1000 ∧
  ∀ H', Same H H' → Q (.bl (decide ((F (items rs)).p.length ≤ 400 ∧ due = (F (items rs)).p))) H'
section
variable {P : Program} {w : World} {K : PySem.W.Frag} {mg : Str → Option Value} {base : Heap}
theorem D_is_pair (T : Tx K mg) : Dn P w K mg base 2 "is_pair" ["value"] (sp_is_pair) := by
  have D_is_listed := D_is_listed (P := P) (w := w) (base := base) T
  have D_is_integer := D_is_integer (P := P) (w := w) (base := base) T
  obtain ⟨fd, F⟩ := T.f_is_pair
  have G : FnOk P w K mg base CX0 2 (He.fAd K ("is_pair", none)) fd ["value"] sp_is_pair := by
    refine ok0 F sc_is_pair (fun vs H Q E h => ?_) (fun cdv A outer s H vs Q E hr h => ?_)
    · obtain ⟨a, rs, rfl, _⟩ := h
      rfl
    · obtain ⟨a, q, rfl, ha, h1, h2, k⟩ := h
      refine ⟨_, (pss_one (ps_ret (pe_and (pe_dn D_is_listed (hr.mono (by decide)) (by rfl) (pa_cons (pv 0) pa_nil)) (pe_and (pe_cmpR op_eq (pe_callB call_len_seq (by rfl) T.m_len (by decide +kernel) (pa_cons (pv 0) pa_nil)) pe_int (nomark _)) (pe_one (pe_callB (cr_all rfl) (by rfl) T.m_all (by decide +kernel) (pa_cons (pe_lc (own := [("part", 1)]) (g := gName 1) (tt := tYes) rfl sc_is_pair.nd (pi_tup (pv 0)) (blkOk_by (own := [("part", 1)]) (N := sl_is_pair) (sc := defScope s_is_pair) (by decide +kernel)) (fun _ _ _ _ _ => (pg_name (i := 1) sc_is_pair.nd rfl (.inl rfl))) (fun _ _ _ _ _ => pts_nil) (fun _ _ _ _ _ => (pe_dd D_is_integer (hr.mono (by decide)) (by rfl) (pa_cons (pv 1) (pa_cons pe_int pa_nil))))) pa_nil))))))), ?_⟩
      refine ⟨_, rfl, a, rfl, .inr ⟨_, ha⟩, fun H1 s1 => ?_⟩
      refine ⟨_, rfl, iteT ?_⟩
      have ha1 := s1 _ _ ha
      refine ⟨_, rfl, a, _, rfl, .inr (SqT.of ha1), rfl, _, rfl, ?_⟩
      refine iteD rfl ?_
      refine ⟨_, rfl, a, rfl, ⟨_, SqT.of ha1⟩, fun D nD => ?_⟩
      refine lc_tup (xs := dPr q) (fun i H' => Same H1 H' ∧ H' D = some (.lst ((List.replicate i true).map V.bl))) ⟨same_upd nD, upd_same⟩ (fun i H' _ h => SqT.of (h.1 _ _ ha1)) (fun i x H' ex h => ?_) (fun H' h => ?_)
      · refine ⟨rfl, ?_⟩
        have hx : ∃ n, x = .int n ∧ 0 ≤ n := by
          cases i with
          | zero => exact ⟨q.1, (Option.some.inj ex).symm, h1⟩
          | succ i =>
            cases i with
            | zero => exact ⟨q.2, (Option.some.inj ex).symm, h2⟩
            | succ i => cases ex
        obtain ⟨n, rfl, hn⟩ := hx
        have hi := (List.getElem?_eq_some_iff.mp ex).1
        have hi2 : i < 2 := hi
        refine ⟨_, rfl, n, 0, .non, rfl, hn, .inl rfl, (List.replicate i true).map V.bl, h.2, ?_, h.1.mut nD, ?_⟩
        · rw [List.length_map, List.length_replicate]
          exact size_lt (by omega)
        · rw [upd_same, List.replicate_succ', List.map_append]
          rfl
      · exact ⟨D, _, rfl, SqL.of h.2, by rw [all_rep]; exact k _ (s1.trans h.1)⟩
  exact ⟨⟨fd, G, F.bindsN (fun _ _ _ _ _ _ us hl => match us, hl with | [_], _ => rfl)⟩, F.kp, T.g_is_pair⟩
theorem D_is_pairing (T : Tx K mg) : Dn P w K mg base 6 "is_pairing" ["sequence", "value"] (sp_is_pairing) := by
  have D_checked_runs := D_checked_runs (P := P) (w := w) (base := base) T
  have D_pairs_by := D_pairs_by (P := P) (w := w) (base := base) T
  have D_is_listed := D_is_listed (P := P) (w := w) (base := base) T
  have D_number_of := D_number_of (P := P) (w := w) (base := base) T
  have D_is_pair := D_is_pair (P := P) (w := w) (base := base) T
  obtain ⟨t1, h_MAX_ITEMS⟩ := T.c_MAX_ITEMS
  obtain ⟨fd, F⟩ := T.f_is_pairing
  have G : FnOk P w K mg base CX0 6 (He.fAd K ("is_pairing", none)) fd ["sequence", "value"] sp_is_pairing := by
    refine ok0 F sc_is_pairing (fun vs H Q E h => ?_) (fun cdv A outer s H vs Q E hr h => ?_)
    · obtain ⟨a, b, rs, due, rfl, _⟩ := h
      rfl
    · obtain ⟨a, b, rs, due, rfl, lt, ok, ltb, hd0, hdl, q⟩ := h
      refine ⟨_, (pss_cons (ps_set (i := 2) sc_is_pairing.nd rfl (.inl rfl) (pe_dn D_pairs_by (hr.mono (by decide)) (by rfl) (pa_cons (pe_dn D_checked_runs (hr.mono (by decide)) (by rfl) (pa_cons (pv 0) pa_nil)) pa_nil)))
      (pss_cons (ps_if (PW.pt (pw_or (pt_not (pt_val (pe_dn D_is_listed (hr.mono (by decide)) (by rfl) (pa_cons (pv 1) pa_nil)))) (pw_or (pt_cmpR op_gt (pe_dn D_number_of (hr.mono (by decide)) (by rfl) (pa_cons (pv 2) pa_nil)) (pe_glob (v := .int 400) (by rfl) h_MAX_ITEMS ⟨_, rfl⟩) (nomark _)) (pw_or1 (pt_not (pt_val (pe_callB (cr_all rfl) (by rfl) T.m_all (by decide +kernel) (pa_cons (pe_lc (own := [("pair", 7)]) (g := gName 7) (tt := tYes) rfl sc_is_pairing.nd (pi_list (pv 1)) (blkOk_by (own := [("pair", 7)]) (N := sl_is_pairing) (sc := defScope s_is_pairing) (by decide +kernel)) (fun _ _ _ _ _ => (pg_name (i := 7) sc_is_pairing.nd rfl (.inl rfl))) (fun _ _ _ _ _ => pts_nil) (fun _ _ _ _ _ => (pe_dn D_is_pair (hr.mono (by decide)) (by rfl) (pa_cons (pv 7) pa_nil)))) pa_nil)))))))) (pss_one (ps_ret pe_bl)) pss_nil)
      (pss_cons (ps_set (i := 3) sc_is_pairing.nd rfl (.inl rfl) (pe_lst pa_nil))
      (pss_cons (ps_for PassesOwn.never rfl (pi_list (pv 2)) (pg_tup rfl (pgs_cons (pg_name (i := 4) sc_is_pairing.nd rfl (.inr rfl)) (pgs_cons (pg_name (i := 5) sc_is_pairing.nd rfl (.inr rfl)) (pgs_cons (pg_name (i := 6) sc_is_pairing.nd rfl (.inl rfl)) pgs_nil))))
        (pss_one (ps_expr (pe_bm PySem.F.plainAttrs_list PySem.F.slot_list_extend PySem.F.type_list_extend mt_extend (pv 3) (pa_cons (pe_lc (own := [("step", 8)]) (g := gName 8) (tt := tYes) rfl sc_is_pairing.nd (pi_range1 (by rfl) T.m_range (pa_cons (pv 6) pa_nil)) (blkOk_by (own := [("step", 8)]) (N := sl_is_pairing) (sc := defScope s_is_pairing) (by decide +kernel)) (fun _ _ _ _ _ => (pg_name (i := 8) sc_is_pairing.nd rfl (.inl rfl))) (fun _ _ _ _ _ => pts_nil) (fun _ _ _ _ _ => (pe_tup (pa_cons (pe_op op_add (pv 4) (pv 8)) (pa_cons (pe_op op_add (pv 5) (pv 8)) pa_nil))))) pa_nil)))))
      (pss_one (ps_ret (pe_cmpR (op_eqD hr.units) (pe_lc (own := [("pair", 7)]) (g := gName 7) (tt := tYes) rfl sc_is_pairing.nd (pi_list (pv 1)) (blkOk_by (own := [("pair", 7)]) (N := sl_is_pairing) (sc := defScope s_is_pairing) (by decide +kernel)) (fun _ _ _ _ _ => (pg_name (i := 7) sc_is_pairing.nd rfl (.inl rfl))) (fun _ _ _ _ _ => pts_nil) (fun _ _ _ _ _ => (pe_callTy (T := "tuple") (r := rTupOf K) call_tupK (by rfl) T.m_tuple (by decide +kernel) (pa_cons (pv 7) pa_nil)))) (pv 3) (nomark _)))))))), ?_⟩
      refine ⟨_, rfl, a, rs, rfl, lt, ok, fun H1 o1 s1 no1 lt1 => ?_⟩
      refine ⟨o1, rs, rfl, lt1, ok.len, ok.pos, fun H2 u ps s2 lt2 pp ep hps => ?_⟩
      have s02 := s1.trans s2
      have hn := exP_len ps pp
      rw [ep] at hn
      obtain ⟨ys, hb, tb⟩ := ltb
      have hyl : ys.length = due.length := tb.1.trans (List.length_map _)
      refine ⟨_, rfl, b, rfl, .inl ⟨_, s02 _ _ hb⟩, fun H3 s3 => ⟨_, rfl, iteF ?_⟩⟩
      refine ⟨_, rfl, u, ps, rfl, lt2.same s3, by omega, fun H4 s4 => ?_⟩
      have s04 := (s02.trans s3).trans s4
      refine ⟨_, _, rfl, rfl, _, rfl, ite2 (fun e1 => ?_) (fun e1 => ?_)⟩
      · have e1 : (400 : Int) < (ps.map (·.2.2)).sum := of_decide_eq_true e1
        refine iteT ?_
        have := q _ s04
        rw [decide_eq_false (fun z => by have := z.1; omega)] at this
        exact this
      · have e1 : ¬ (400 : Int) < (ps.map (·.2.2)).sum := fun z => e1 (decide_eq_true z)
        have hb4 := s04 _ _ hb
        have tb4 := tb.same s04
        refine ⟨_, rfl, b, rfl, ⟨_, SqL.of hb4⟩, fun D nD => ?_⟩
        refine lc_to (xs := ys) (ys := (List.replicate ys.length true).map V.bl) (SqL.of hb4) nD (by simp) (size_lt (by omega)) (fun i x y H5 Nx ex ey s5 k => ?_) (fun H5 s5 e5 => ?_)
        · obtain ⟨p, r, rfl, er, ep⟩ := LT.run tb4 ex
          have ey := get_rep ey
          subst ey
          have := hd0 r (List.mem_of_getElem? er)
          exact ⟨rfl, _, rfl, p, r, rfl, s5 _ _ ep, this.1, this.2, k⟩
        · refine ⟨D, _, rfl, SqL.of e5, true, ?_, ?_⟩
          · rw [all_rep]
          refine iteF ?_
          refine ⟨Nat.zero_le _, fun o no => ?_⟩
          have s6 : Same H5 (upd H5 o (.lst [])) := same_upd no
          have s25 : Same H2 H5 := (s3.trans s4).trans s5
          obtain ⟨xs, hx, t⟩ := lt2.same s25
          have hxl : xs.length = ps.length := t.1.trans (List.length_map _)
          have s05 := s04.trans s5
          refine ⟨_, rfl, u, rfl, ⟨_, SqL.of (s6 _ _ hx)⟩, for_list (K := K) (a := u) (xs := xs) (fun i σ H' => ∃ (zs : List V) (v4 v5 v6 v7 v8 : Option V), σ = [some (.ref a), some (.ref b), some (.ref u), some (.ref o), v4, v5, v6, v7, v8] ∧ Same H5 H' ∧
              H' o = some (.lst zs) ∧ TL H' zs ((exP (ps.take i)).map dPr))
            ⟨[], none, none, none, none, none, rfl, s6, upd_same, TL.nil⟩ (fun i σ H' _ ⟨_, _, _, _, _, _, _, s7, _⟩ => SqL.of (s7 _ _ hx)) ?_ ?_⟩
          · rintro i x σ H' ex1 ⟨zs, v4, v5, v6, v7, v8, rfl, s7, ez, tz⟩
            obtain ⟨pa, ⟨f, s', c⟩, rfl, er, epa⟩ := LT.run t ex1
            have hc : 1 ≤ c := pp (f, s', c) (List.mem_of_getElem? er)
            obtain ⟨hl1, hl2⟩ := run_len pp er
            rw [ep] at hl1 hl2
            have hz : zs.length + c.toNat ≤ 400 := by
              have e2 : ps.take (i + 1) = ps.take i ++ [(f, s', c)] := by rw [List.take_add_one, er]; rfl
              rw [e2, exP_snoc, List.length_append, prs_len] at hl1
              have := tz.1
              rw [List.length_map] at this
              omega
            refine ⟨pa, _, rfl, SqT.of (s7 _ _ epa), rfl, _, _, rfl, _, _, rfl, _, [], rfl, rfl, ?_⟩
            have p62 : (2 : Int) ^ 62 = 4611686018427387904 := by decide
            refine ⟨_, rfl, .inl ⟨rfl, _, SqL.of ez⟩, _, rfl, c, rfl, by rw [p62]; omega, by rw [p62]; omega, fun D2 nD2 => ?_⟩
            refine lc_tlR (n := c.toNat) (ds := (prs f s' c.toNat).map dPr) nD2 (by rw [List.length_map, prs_len]) (size_lt (by omega)) (fun j d H8 Nx hj ed s8 k => ?_) (fun H8 s8 lt8 => ?_)
            · refine ⟨rfl, ?_⟩
              refine ⟨_, rfl, _, rfl, f, 0 + (j : Int), rfl, rfl, _, rfl, _, rfl, s', 0 + (j : Int), rfl, rfl, (by show 2 ≤ sizeLine; decide), fun z nz => ?_⟩
              refine k z _ (same_upd nz) ?_
              rw [List.getElem?_map, prs_get _ _ _ _ hj] at ed
              have ed := Option.some.inj ed
              rw [upd_same, ← ed, Int.zero_add]
              rfl
            · obtain ⟨ws, ew, tw⟩ := lt8
              have ez8 := s8 _ _ ez
              have hwl : ws.length = c.toNat := by rw [tw.1, List.length_map, prs_len]
              refine ⟨o, D2, zs, ws, rfl, rfl, ez8, ew, size_le (by omega), ?_⟩
              refine ⟨zs ++ ws, _, _, _, _, _, rfl, (s7.trans s8).mut no, upd_same, ?_⟩
              have e2 : ps.take (i + 1) = ps.take i ++ [(f, s', c)] := by rw [List.take_add_one, er]; rfl
              rw [e2, exP_snoc, List.map_append]
              refine TL.mut (TL.append (tz.same s8) tw) fun d hd => ?_
              rw [ez8] at hd
              cases hd
          · rintro σ H' ⟨zs, v4, v5, v6, v7, v8, rfl, s7, ez, tz⟩
            rw [hxl, List.take_length, ep] at tz
            have hb7 := (s05.trans s7) _ _ hb
            have tb7 := tb.same (s05.trans s7)
            refine ⟨_, rfl, b, rfl, ⟨_, SqL.of hb7⟩, fun D3 nD3 => ?_⟩
            refine lc_to (xs := ys) (ys := ys) (SqL.of hb7) nD3 rfl (size_lt (by omega)) (fun i x y H9 Nx ex ey s9 k => ?_) (fun H9 s9 e9 => ?_)
            · obtain ⟨p, r, rfl, er, ep⟩ := LT.run tb7 ex
              rw [ex] at ey
              have ey := Option.some.inj ey
              subst ey
              exact ⟨rfl, _, rfl, p, _, rfl, .inr ⟨SqT.of (s9 _ _ ep), k _ (Same.refl _)⟩⟩
            · refine ⟨_, rfl, _, _, dp_prs ⟨ys, e9, tb7.same s9⟩, dp_prs ⟨zs, s9 _ _ ez, tz.same s9⟩, sh_prs _, sh_prs _, ?_⟩
              rw [eqv_prs]
              have := q _ ((s05.trans s7).trans s9)
              have e10 : decide ((Uk.F (items rs)).p.length ≤ 400 ∧ due = (Uk.F (items rs)).p) = decide (due = (Uk.F (items rs)).p) := by
                have hle : (Uk.F (items rs)).p.length ≤ 400 := by omega
                by_cases h : due = (Uk.F (items rs)).p
                · rw [decide_eq_true h, decide_eq_true ⟨hle, h⟩]
                · rw [decide_eq_false h, decide_eq_false (fun z => h z.2)]
              rw [e10] at this
              exact this
  exact ⟨⟨fd, G, F.bindsN (fun _ _ _ _ _ _ us hl => match us, hl with | [_, _], _ => rfl)⟩, F.kp, T.g_is_pairing⟩
end
end Uk
/-! The law's draws. -/
namespace Uk
open PySem PySem.Spec PyProof.Rows L2
abbrev sl_law_stream : List Str := ["cell", "k"]
theorem sc_law_stream : FnScope sl_law_stream ["cell", "k"] (defScope s_law_stream) := ⟨rfl, rfl, rfl, by decide +kernel, rfl, by decide +kernel, by decide +kernel⟩
abbrev sl_law_draw : List Str := ["stream", "many", "found", "stirred"]
theorem sc_law_draw : FnScope sl_law_draw ["stream", "many"] (defScope s_law_draw) := ⟨rfl, rfl, rfl, by decide +kernel, rfl, by decide +kernel, by decide +kernel⟩
abbrev sl_law_scale : List Str := ["stream"]
theorem sc_law_scale : FnScope sl_law_scale ["stream"] (defScope s_law_scale) := ⟨rfl, rfl, rfl, by decide +kernel, rfl, by decide +kernel, by decide +kernel⟩
abbrev sl_law_sequence : List Str := ["stream", "most", "scale", "found", "letters", "k", "kind"]
theorem sc_law_sequence : FnScope sl_law_sequence ["stream", "most", "scale"] (defScope s_law_sequence) := ⟨rfl, rfl, rfl, by decide +kernel, rfl, by decide +kernel, by decide +kernel⟩
def StrAt (H : Hp) (a : Addr) : Prop := ∃ x y : Int, H a = some (.lst [.int x, .int y])
theorem SameBut.lt {a p : Addr} {H H' : Hp} {ds : List (List V)} (s : SameBut a H H') (n : p ≠ a) (ha : ∀ d, H a ≠ some (.tup d)) (h : LT H p ds) : LT H' p ds := by
  obtain ⟨xs, e, t⟩ := h
  refine ⟨xs, s _ _ n e, t.1, fun i d ed => ?_⟩
  obtain ⟨q, e1, e2⟩ := t.2 i d ed
  exact ⟨q, e1, s _ _ (fun z => ha d (by rw [← z]; exact e2)) e2⟩
theorem SameBut.tl {a : Addr} {H H' : Hp} {xs : List V} {ds : List (List V)} (s : SameBut a H H') (ha : ∀ d, H a ≠ some (.tup d)) (t : TL H xs ds) : TL H' xs ds := by
  refine ⟨t.1, fun i d ed => ?_⟩
  obtain ⟨q, e1, e2⟩ := t.2 i d ed
  exact ⟨q, e1, s _ _ (fun z => ha d (by rw [← z]; exact e2)) e2⟩
theorem StrAt.no {H : Hp} {a : Addr} (h : StrAt H a) : ∀ d, H a ≠ some (.tup d) := fun d z => by
  obtain ⟨x, y, e⟩ := h
  rw [e] at z
  cases z
def sp_law_stream : Sp := fun vs H Q _ => ∃ (c k : Int), vs = [.int c, .int k] ∧ ∀ H' p, Same H H' → H p = none → StrAt H' p → Q (.ref p) H'
def sp_law_draw : Sp := fun vs H Q _ => ∃ (a : Addr) (m : Int), vs = [.ref a, .int m] ∧ StrAt H a ∧ 0 < m ∧ m ≤ 10000000000000000000000000000000000000000 ∧ ∀ H' z, SameBut a H H' → StrAt H' a → 0 ≤ z → z < m → Q (.int z) H'
def sp_law_scale : Sp := fun vs H Q _ => ∃ (a : Addr), vs = [.ref a] ∧ StrAt H a ∧ ∀ H' z, SameBut a H H' → StrAt H' a → 1 ≤ z → z ≤ 100000000000000000000000000000 → Q (.int z) H'
def sp_law_sequence : Sp := fun vs H Q _ => ∃ (a : Addr) (sc : Int), vs = [.ref a, .int 12, .int sc] ∧ StrAt H a ∧ 1 ≤ sc ∧ sc ≤ 100000000000000000000000000000 ∧
  ∀ H' p rs, SameBut a H H' → StrAt H' a → p ≠ a → LT H' p (rs.map dRun) → SeqOk rs → Q (.ref p) H'
theorem draw_div {i m : Int} (h : 0 < m) (h2 : m ≤ 10000000000000000000000000000000000000000) : CDivW i m := wide_div (b := 200) h (by
  have : (10000000000000000000000000000000000000000 : Nat) < 2 ^ 200 := by decide
  omega) (by decide) (by decide)
theorem letters_ok {d : Int} (h0 : 0 ≤ d) (h4 : d < 4) : 1 ≤ (cutS "abcde" none (some (2 + d))).cps.toList.length ∧ (cutS "abcde" none (some (2 + d))).cps.toList.length ≤ 5 ∧ ∀ c ∈ (cutS "abcde" none (some (2 + d))).cps.toList, c ∈ ("abcdefghijklmnopqrstuvwxyz" : Str).cps.toList := by
  have : d = 0 ∨ d = 1 ∨ d = 2 ∨ d = 3 := by omega
  rcases this with rfl | rfl | rfl | rfl <;> decide +kernel
def pR (r : Str × Int) : PyData := .tuple [.str r.1, .int r.2]
theorem dp_run {K : PySem.W.Frag} {H : Hp} {a : Addr} {r : Str × Int} (h : H a = some (.tup (dRun r))) : Dp K H (.ref a) (pR r) := .tup (SqT.of h) (.cons (.str _) (.cons (.int _) .nil))
theorem dp_runs {K : PySem.W.Frag} {H : Hp} {a : Addr} {l : List (Str × Int)} (h : LT H a (l.map dRun)) : Dp K H (.ref a) (.list (l.map pR)) := by
  obtain ⟨xs, e, t⟩ := h
  exact .lst (SqL.of e) (dpAll (fun _ _ => dp_run) t)
theorem kind_str {z : Str} (h : KindOk z) : PySem.PyData.canLay0 (.str z) = true := by
  obtain ⟨c, rfl, hc⟩ := h
  have h1 : c < 0x110000 := by
    have : ∀ c ∈ ("abcdefghijklmnopqrstuvwxyz" : Str).cps.toList, c < 0x110000 := by decide +kernel
    exact this c hc
  rw [PyData.canLay0]
  simp [PyData.strOk, h1]
theorem sh_runs {l : List (Str × Int)} (h : ∀ r ∈ l, RunOk r) : SeqAt.shaped (.list (l.map pR)) = true := by
  unfold SeqAt.shaped
  rw [Bool.and_eq_true]
  refine ⟨?_, decide_eq_true ?_⟩
  · rw [PyData.canLay0]
    induction l with
    | nil => simp [PyData.canLayAll0]
    | cons r l ih =>
      have h1 := kind_str (h r List.mem_cons_self).1
      rw [List.map_cons, PyData.canLayAll0, ih fun q hq => h q (List.mem_cons_of_mem _ hq)]
      simp [pR, PyData.canLay0, PyData.canLayAll0] at h1 ⊢
      exact h1
  · rw [PyData.depth]
    have := depAll pR (fun t => by simp [pR, PyData.depth, PyData.depthAll]) l
    omega
section
variable {P : Program} {w : World} {K : PySem.W.Frag} {mg : Str → Option Value} {base : Heap}
theorem D_law_stream (T : Tx K mg) : Dn P w K mg base 1 "_law_stream" ["cell", "k"] (sp_law_stream) := by
  obtain ⟨fd, F⟩ := T.f_law_stream
  have G : FnOk P w K mg base CX0 1 (He.fAd K ("_law_stream", none)) fd ["cell", "k"] sp_law_stream := by
    refine ok0 F sc_law_stream (fun vs H Q E h => ?_) (fun cdv A outer s H vs Q E hr h => ?_)
    · obtain ⟨c, k, rfl, _⟩ := h
      rfl
    · obtain ⟨c, k, rfl, q⟩ := h
      refine ⟨_, (pss_one (ps_ret (pe_lst (pa_cons (pe_callB call_abs (by rfl) T.m_abs (by decide +kernel) (pa_cons (pv 0) pa_nil)) (pa_cons (pe_op op_mod (pe_op op_mul (pe_op op_add (pe_op op_mod (pe_callB call_abs (by rfl) T.m_abs (by decide +kernel) (pa_cons (pv 0) pa_nil)) pe_int) pe_int) (pe_op op_add (pe_op op_mul pe_int (pv 1)) pe_int)) pe_int) pa_nil))))), ?_⟩
      have p64 : (2 : Int) ^ 64 = 18446744073709551616 := by decide
      refine ⟨_, rfl, c, rfl, _, rfl, c, rfl, _, _, rfl, rfl, (by show (0 : Int) < 2147483629; decide), _, _, rfl, rfl, _, rfl, _, _, rfl, rfl, .inl ⟨by decide, by decide⟩, _, _, rfl, rfl, _, _, rfl, rfl, .inl ?_, _, _, rfl, rfl, (by show (0 : Int) < 2147483647; decide), (by show 2 ≤ sizeLine; decide), fun p np => ?_⟩
      · rw [p64]
        omega
      · exact q _ p (same_upd np) np ⟨_, _, upd_same⟩
  exact ⟨⟨fd, G, F.bindsN (fun _ _ _ _ _ _ us hl => match us, hl with | [_, _], _ => rfl)⟩, F.kp, T.g_law_stream⟩
theorem D_law_draw (T : Tx K mg) : Dn P w K mg base 1 "_law_draw" ["stream", "many"] (sp_law_draw) := by
  obtain ⟨fd, F⟩ := T.f_law_draw
  have G : FnOk P w K mg base CX0 1 (He.fAd K ("_law_draw", none)) fd ["stream", "many"] sp_law_draw := by
    refine ok0 F sc_law_draw (fun vs H Q E h => ?_) (fun cdv A outer s H vs Q E hr h => ?_)
    · obtain ⟨a, m, rfl, _⟩ := h
      rfl
    · obtain ⟨a, m, rfl, ⟨x, y, ha⟩, hm, hm2, q⟩ := h
      refine ⟨_, (pss_cons (ps_if (pt_cmpR op_ge (pe_ix (r := rIxL K) ix_list (pv 0) pe_int (fun _ _ => rfl)) (pe_op op_pow pe_int pe_int) (nomark _)) (pss_cons (ps_set (i := 2) sc_law_draw.nd rfl (.inl rfl) (pe_op op_mod (pe_ix (r := rIxL K) ix_list (pv 0) pe_int (fun _ _ => rfl)) (pv 1)))
        (pss_cons (ps_asg (pe_op op_fdivW (pe_ix (r := rIxL K) ix_list (pv 0) pe_int (fun _ _ => rfl)) (pv 1)) (pg_sub (pv 0) pe_int set_list))
        (pss_one (ps_ret (pv 2))))) pss_nil)
      (pss_cons (ps_asg (pe_op op_mod (pe_op op_mul (pe_op op_add (pe_ix (r := rIxL K) ix_list (pv 0) pe_int (fun _ _ => rfl)) pe_int) pe_int) pe_int) (pg_sub (pv 0) pe_int set_list))
      (pss_cons (ps_set (i := 3) sc_law_draw.nd rfl (.inl rfl) (pe_op op_mod (pe_op op_mul (pe_ix (r := rIxL K) ix_list (pv 0) pe_int (fun _ _ => rfl)) (pe_ix (r := rIxL K) ix_list (pv 0) pe_int (fun _ _ => rfl))) pe_int))
      (pss_one (ps_ret (pe_op op_mod (pe_op op_fdivW (pe_op op_mod (pe_op op_mul (pv 3) pe_int) pe_int) pe_int) (pv 1))))))), ?_⟩
      have p64 : (2 : Int) ^ 64 = 18446744073709551616 := by decide
      refine ⟨_, rfl, a, _, 0, _, rfl, rfl, SqL.of ha, atI_nat (j := 0) rfl, 10, 18, rfl, rfl, ⟨by decide, by decide, by decide⟩, x, _, rfl, rfl, _, rfl, ite2 (fun e => ?_) (fun e => ?_)⟩
      · refine ⟨_, rfl, a, _, 0, _, rfl, rfl, SqL.of ha, atI_nat (j := 0) rfl, _, rfl, x, m, rfl, rfl, hm, ?_⟩
        refine ⟨_, rfl, a, _, 0, _, rfl, rfl, SqL.of ha, atI_nat (j := 0) rfl, _, rfl, x, m, rfl, rfl, draw_div hm hm2, ?_⟩
        refine ⟨_, rfl, a, _, 0, 0, rfl, rfl, ha, ix0 _, ?_⟩
        refine ⟨_, rfl, ?_⟩
        exact q _ _ (SameBut.put (SameBut.of (Same.refl _))) ⟨_, _, upd_same⟩ (Int.emod_nonneg _ (by omega)) (Int.emod_lt_of_pos _ hm)
      · refine ⟨_, rfl, a, _, 1, _, rfl, rfl, SqL.of ha, atI_nat (j := 1) rfl, _, _, rfl, rfl, _, _, rfl, rfl, .inr ⟨by decide, by decide⟩, _, _, rfl, rfl, (by show (0 : Int) < 2147483647; decide), ?_⟩
        refine ⟨_, rfl, a, _, 1, 1, rfl, rfl, ha, rfl, ?_⟩
        have h1 : 0 ≤ (y + 1) * 48271 % 2147483647 := Int.emod_nonneg _ (by decide)
        have h2 : (y + 1) * 48271 % 2147483647 < 2147483647 := Int.emod_lt_of_pos _ (by decide)
        refine ⟨_, rfl, a, _, 1, _, rfl, rfl, SqL.of upd_same, atI_nat (j := 1) rfl, _, rfl, a, _, 1, _, rfl, rfl, SqL.of upd_same, atI_nat (j := 1) rfl, _, _, rfl, rfl, .inl ?_, _, _, rfl, rfl, (by show (0 : Int) < 2147483629; decide), ?_⟩
        · rw [p64]
          omega
        refine ⟨_, rfl, _, _, rfl, rfl, .inr ⟨by decide, by decide⟩, _, _, rfl, rfl, (by show (0 : Int) < 2147483587; decide), _, _, rfl, rfl, wide_div (b := 200) (by decide) (by decide) (by decide) (by decide), _, rfl, _, m, rfl, rfl, hm, ?_⟩
        exact q _ _ (SameBut.put (SameBut.of (Same.refl _))) ⟨_, _, upd_same⟩ (Int.emod_nonneg _ (by omega)) (Int.emod_lt_of_pos _ hm)
  exact ⟨⟨fd, G, F.bindsN (fun _ _ _ _ _ _ us hl => match us, hl with | [_, _], _ => rfl)⟩, F.kp, T.g_law_draw⟩
theorem D_law_scale (T : Tx K mg) : Dn P w K mg base 2 "_law_scale" ["stream"] (sp_law_scale) := by
  have D_law_draw := D_law_draw (P := P) (w := w) (base := base) T
  obtain ⟨fd, F⟩ := T.f_law_scale
  have G : FnOk P w K mg base CX0 2 (He.fAd K ("_law_scale", none)) fd ["stream"] sp_law_scale := by
    refine ok0 F sc_law_scale (fun vs H Q E h => ?_) (fun cdv A outer s H vs Q E hr h => ?_)
    · obtain ⟨a, rfl, _⟩ := h
      rfl
    · obtain ⟨a, rfl, sa, q⟩ := h
      refine ⟨_, (pss_one (ps_ret (pe_ix (r := rIxL K) ix_list (pe_lst (pa_cons pe_int (pa_cons pe_int (pa_cons (pe_op op_pow pe_int pe_int) pa_nil)))) (pe_dn D_law_draw (hr.mono (by decide)) (by rfl) (pa_cons (pv 0) (pa_cons pe_int pa_nil))) (fun _ _ => rfl)))), ?_⟩
      refine ⟨10, 29, rfl, rfl, ⟨by decide, by decide, by decide⟩, (by show 3 ≤ sizeLine; decide), fun u nu => ?_⟩
      obtain ⟨x, y, ha⟩ := sa
      have nau : a ≠ u := ne_of_none ha nu
      refine ⟨_, rfl, a, 3, rfl, ⟨x, y, (upd_ne nau).trans ha⟩, by decide, by decide, fun H2 z s2 sa2 h0 h3 => ?_⟩
      have eu := s2 u _ nau.symm upd_same
      have s3 : SameBut a H H2 := (SameBut.of (same_upd nu)).trans s2
      have hz : z = 0 ∨ z = 1 ∨ z = 2 := by omega
      rcases hz with rfl | rfl | rfl
      · exact ⟨u, _, 0, _, rfl, rfl, SqL.of eu, atI_nat (j := 0) rfl, q _ _ s3 sa2 (by decide) (by decide)⟩
      · exact ⟨u, _, 1, _, rfl, rfl, SqL.of eu, atI_nat (j := 1) rfl, q _ _ s3 sa2 (by decide) (by decide)⟩
      · exact ⟨u, _, 2, _, rfl, rfl, SqL.of eu, atI_nat (j := 2) rfl, q _ _ s3 sa2 (by decide) (by decide)⟩
  exact ⟨⟨fd, G, F.bindsN (fun _ _ _ _ _ _ us hl => match us, hl with | [_], _ => rfl)⟩, F.kp, T.g_law_scale⟩
theorem D_law_sequence (T : Tx K mg) : Dn P w K mg base 2 "_law_sequence" ["stream", "most", "scale"] (sp_law_sequence) := by
  have D_law_draw := D_law_draw (P := P) (w := w) (base := base) T
  obtain ⟨fd, F⟩ := T.f_law_sequence
  have G : FnOk P w K mg base CX0 2 (He.fAd K ("_law_sequence", none)) fd ["stream", "most", "scale"] sp_law_sequence := by
    refine ok0 F sc_law_sequence (fun vs H Q E h => ?_) (fun cdv A outer s H vs Q E hr h => ?_)
    · obtain ⟨a, sc, rfl, _⟩ := h
      rfl
    · obtain ⟨a, sc, rfl, sa, hs1, hs2, q⟩ := h
      refine ⟨_, (pss_cons (ps_set (i := 3) sc_law_sequence.nd rfl (.inl rfl) (pe_lst pa_nil))
      (pss_cons (ps_set (i := 4) sc_law_sequence.nd rfl (.inl rfl) (pe_slice sl_str pe_str po_none (po_some (pe_op op_add pe_int (pe_dn D_law_draw (hr.mono (by decide)) (by rfl) (pa_cons (pv 0) (pa_cons pe_int pa_nil)))))))
      (pss_cons (ps_for PassesOwn.never rfl (pi_range1 (by rfl) T.m_range (pa_cons (pe_dn D_law_draw (hr.mono (by decide)) (by rfl) (pa_cons (pv 0) (pa_cons (pe_op op_add (pv 1) pe_int) pa_nil))) pa_nil)) (pg_name (i := 5) sc_law_sequence.nd rfl (.inl rfl))
        (pss_cons (ps_set (i := 6) sc_law_sequence.nd rfl (.inl rfl) (pe_ix ix_str (pv 4) (pe_dn D_law_draw (hr.mono (by decide)) (by rfl) (pa_cons (pv 0) (pa_cons (pe_callB call_len_str (by rfl) T.m_len (by decide +kernel) (pa_cons (pv 4) pa_nil)) pa_nil))) (fun _ _ => rfl)))
        (pss_one (ps_if (PW.pt (pw_or (pt_cmpR (op_eqD hr.units) (pv 3) (pe_lst pa_nil) (nomark _)) (pw_or1 (pt_cmpR op_ne (pe_ix (r := rIxT K) ix_tup (pe_ix (r := rIxL K) ix_list (pv 3) (pe_un un_neg pe_int) (fun _ _ => rfl)) pe_int (fun _ _ => rfl)) (pv 6) (nomark _))))) (pss_one (ps_expr (pe_bm PySem.F.plainAttrs_list PySem.F.slot_list_append PySem.F.type_list_append mt_append (pv 3) (pa_cons (pe_tup (pa_cons (pv 6) (pa_cons (pe_op op_add pe_int (pe_dn D_law_draw (hr.mono (by decide)) (by rfl) (pa_cons (pv 0) (pa_cons (pv 2) pa_nil)))) pa_nil))) pa_nil)))) pss_nil))))
      (pss_one (ps_ret (pv 3)))))), ?_⟩
      refine ⟨Nat.zero_le _, fun o no => ?_⟩
      have s1 : SameBut a H (upd H o (.lst [])) := SameBut.of (same_upd no)
      have nao : o ≠ a := fun z => by
        obtain ⟨x, y, e⟩ := sa
        rw [z, e] at no
        cases no
      have sa1 : StrAt (upd H o (.lst [])) a := by
        obtain ⟨x, y, e⟩ := sa
        exact ⟨x, y, (upd_ne nao.symm).trans e⟩
      refine ⟨_, rfl, a, 4, rfl, sa1, by decide, by decide, fun H2 d s2 sa2 d0 d4 => ?_⟩
      refine ⟨2, d, rfl, rfl, 2 + d, rfl, _, rfl, (by show 5 ≤ sizeLine; decide), ?_⟩
      obtain ⟨l1, l5, lk⟩ := letters_ok d0 d4
      have eo2 := s2 o _ nao upd_same
      generalize hL : cutS "abcde" none (some (2 + d)) = L at l1 l5 lk
      have hLs : L.length = L.cps.toList.length := by show L.cps.size = _; rw [Array.length_toList]
      refine ⟨_, rfl, _, rfl, 12, 1, rfl, rfl, a, 12 + 1, rfl, sa2, by decide, by decide, fun H3 n s3 sa3 n0 n1 => ?_⟩
      have p62 : (2 : Int) ^ 62 = 4611686018427387904 := by decide
      refine ⟨n, rfl, by rw [p62]; omega, by rw [p62]; omega, for_range (lo := 0) (n := n.toNat) (fun i σ H' => ∃ (zs : List V) (rs : List (Str × Int)) (v5 v6 : Option V), σ = [some (.ref a), some (.int 12), some (.int sc), some (.ref o), some (.str L), v5, v6] ∧
          SameBut a H H' ∧ StrAt H' a ∧ H' o = some (.lst zs) ∧ TL H' zs (rs.map dRun) ∧ rs.length ≤ i ∧ (∀ r ∈ rs, RunOk r) ∧ ∀ (j : Nat) (x y : Str × Int), rs[j]? = some x → rs[j + 1]? = some y → x.1 ≠ y.1)
        ⟨[], [], none, none, rfl, (s1.trans s2).trans s3, sa3, s3 o _ nao eo2, TL.nil, Nat.le_refl _, fun r hr => (nomatch hr), fun j x y h => (nomatch h)⟩ ?_ ?_⟩
      · rintro i σ H' hi ⟨zs, rs, v5, v6, rfl, s4, sa4, ez, tz, hle, hrun, hadj⟩
        -- kind = letters[draw]
        refine ⟨_, rfl, _, rfl, _, rfl, _, rfl, size_le (by rw [hLs]; omega), a, L.length, rfl, sa4, by rw [hLs]; omega, by rw [hLs]; omega, fun H5 j s5 sa5 j0 j1 => ?_⟩
        rw [hLs] at j1
        obtain ⟨c, hc⟩ : ∃ c, L.cps.toList[j.toNat]? = some c := ⟨_, List.getElem?_eq_getElem (by omega)⟩
        have hk : KindOk ⟨#[c]⟩ := ⟨c, rfl, lk c (List.mem_of_getElem? hc)⟩
        refine ⟨_, j, c, rfl, rfl, size_le (by rw [hLs]; omega), (by have z := atI_nat hc; rw [show ((j.toNat : Nat) : Int) = j by omega] at z; exact z), ?_⟩
        have ez5 := s5 o _ nao ez
        have tz5 := s5.tl sa4.no tz
        have s05 := s4.trans s5
        -- what is appended
        have app : (∀ x, rs.getLast? = some x → x.1 ≠ (⟨#[c]⟩ : Str)) → ∀ H6, Same H5 H6 → H6 o = some (.lst zs) ∧ StrAt H6 a ∧ zs.length < sizeLine ∧ ∀ H7 e, SameBut a H6 H7 → StrAt H7 a → 0 ≤ e → e < sc → ∀ u, H7 u = none →
            (upd H7 u (.tup [.str ⟨#[c]⟩, .int (1 + e)])) o = some (.lst zs) ∧ ∃ (zz : List V) (rs' : List (Str × Int)), SameBut a H (upd (upd H7 u (.tup [.str ⟨#[c]⟩, .int (1 + e)])) o (.lst (zs ++ [.ref u]))) ∧ StrAt (upd (upd H7 u (.tup [.str ⟨#[c]⟩, .int (1 + e)])) o (.lst (zs ++ [.ref u]))) a ∧
              (upd (upd H7 u (.tup [.str ⟨#[c]⟩, .int (1 + e)])) o (.lst (zs ++ [.ref u]))) o = some (.lst zz) ∧ TL (upd (upd H7 u (.tup [.str ⟨#[c]⟩, .int (1 + e)])) o (.lst (zs ++ [.ref u]))) zz (rs'.map dRun) ∧ rs'.length ≤ i + 1 ∧ (∀ r ∈ rs', RunOk r) ∧
              ∀ (j : Nat) (x y : Str × Int), rs'[j]? = some x → rs'[j + 1]? = some y → x.1 ≠ y.1 := by
          intro hlast H6 s6 
          have ez6 := s6 _ _ ez5
          have sa6 : StrAt H6 a := by
            obtain ⟨x, y, e⟩ := sa5
            exact ⟨x, y, s6 _ _ e⟩
          refine ⟨ez6, sa6, size_lt (by rw [tz.1, List.length_map]; omega), fun H7 e s7 sa7 e0 e1 u nu => ?_⟩
          have ez7 := s7 o _ nao ez6
          have nou : o ≠ u := ne_of_none ez7 nu
          have nau : a ≠ u := by
            obtain ⟨x, y, e⟩ := sa7
            exact ne_of_none e nu
          have tz7 := s7.tl sa6.no (tz5.same s6)
          have s07 : SameBut a H H7 := (s05.trans (SameBut.of s6)).trans s7
          refine ⟨(upd_ne nou).trans ez7, zs ++ [.ref u], rs ++ [(⟨#[c]⟩, 1 + e)], ?_, ?_, upd_same, ?_, ?_, ?_, ?_⟩
          · intro b x nb eb
            have nbo : b ≠ o := ne_of_none eb no
            rw [upd_ne nbo]
            exact (s07.new nu) b x nb eb
          · obtain ⟨x, y, e⟩ := sa7
            exact ⟨x, y, (upd_ne nao.symm).trans ((upd_ne nau).trans e)⟩
          · rw [List.map_append]
            refine TL.mut (TL.snoc (tz7.same (same_upd nu)) upd_same) fun d hd => ?_
            rw [upd_ne nou, ez7] at hd
            cases hd
          · rw [List.length_append, List.length_singleton]
            omega
          · intro r hr
            rcases List.mem_append.mp hr with hr | hr
            · exact hrun r hr
            · rw [List.mem_singleton.mp hr]
              exact ⟨hk, by show 1 ≤ 1 + e; omega, by show 1 + e ≤ _; omega⟩
          · intro j x y hx hy
            by_cases hj : j + 1 < rs.length
            · rw [List.getElem?_append_left (by omega)] at hx
              rw [List.getElem?_append_left hj] at hy
              exact hadj j x y hx hy
            · have hl := (List.getElem?_eq_some_iff.mp hy).1
              rw [List.length_append, List.length_singleton] at hl
              have hj2 : j + 1 = rs.length := by omega
              rw [List.getElem?_append_right (by omega), hj2, Nat.sub_self] at hy
              rw [List.getElem?_append_left (by omega)] at hx
              have ey : ((⟨#[c]⟩ : Str), 1 + e) = y := Option.some.inj hy
              rw [← ey]
              refine hlast x ?_
              rw [List.getLast?_eq_getElem?, ← hj2]
              exact hx
        refine ⟨_, rfl, Nat.zero_le _, fun e ne => ?_⟩
        have s6 : Same H5 (upd H5 e (.lst [])) := same_upd ne
        refine ⟨_, _, dp_runs ⟨zs, s6 _ _ ez5, tz5.same s6⟩, dp_nil upd_same, sh_runs hrun, sh_nil, _, rfl, ?_⟩
        rw [eqv_nil]
        rcases snoc_cases rs with rfl | ⟨pre, ⟨k1, c1⟩, rfl⟩
        · refine iteT ?_
          refine iteT ?_
          obtain ⟨h1, h2, h3, h4⟩ := app (fun x h => (nomatch h)) _ s6
          refine ⟨_, rfl, .inl ⟨rfl, _, SqL.of h1⟩, _, rfl, _, rfl, _, rfl, a, sc, rfl, h2, by omega, by omega, fun H7 e' s7 sa7 e0 e1 => ?_⟩
          refine ⟨1, e', rfl, rfl, (by show 2 ≤ sizeLine; decide), fun u nu => ?_⟩
          obtain ⟨h5, zz, rs', h6, h7, h8, h9, h10, h11, h12⟩ := h4 H7 e' s7 sa7 e0 e1 u nu
          exact ⟨o, zs, _, rfl, rfl, h5, h3, zz, rs', _, _, rfl, h6, h7, h8, h9, h10, h11, h12⟩
        · rw [show (pre ++ [(k1, c1)]).isEmpty = false by cases pre <;> rfl]
          refine iteF ?_
          obtain ⟨ys, y, rfl⟩ : ∃ ys y, zs = ys ++ [y] := by
            rcases snoc_cases zs with rfl | ⟨ys, y, rfl⟩
            · have := tz.1; simp at this
            · exact ⟨ys, y, rfl⟩
          have hlen : ys.length = pre.length := by
            have := tz.1
            rw [List.length_map, List.length_append, List.length_append] at this
            exact Nat.succ.inj this
          obtain ⟨r, er, etr⟩ := tz5.2 pre.length (dRun (k1, c1)) (by simp)
          rw [← hlen, List.getElem?_append_right (Nat.le_refl _), Nat.sub_self] at er
          have er : y = .ref r := Option.some.inj er
          subst er
          refine ⟨_, rfl, _, rfl, o, _, -1, _, rfl, rfl, SqL.of (s6 _ _ ez5), atI_last _ _, r, _, 0, _, rfl, rfl, SqT.of (s6 _ _ etr), atI_nat (j := 0) rfl, _, rfl, rfl, _, rfl, ?_⟩
          by_cases hkk : k1 = (⟨#[c]⟩ : Str)
          · refine iteNS (congrArg V.str hkk) ?_
            refine ⟨_, _, _, _, rfl, s05.trans (SameBut.of s6), ?_, s6 _ _ ez5, tz5.same s6, by omega, hrun, hadj⟩
            obtain ⟨x, y, e⟩ := sa5
            exact ⟨x, y, s6 _ _ e⟩
          · refine iteNN (fun z => hkk (V.str.inj z)) ?_
            obtain ⟨h1, h2, h3, h4⟩ := app (fun x h => by rw [List.getLast?_concat] at h; rw [← Option.some.inj h]; exact hkk) _ s6
            refine ⟨_, rfl, .inl ⟨rfl, _, SqL.of h1⟩, _, rfl, _, rfl, _, rfl, a, sc, rfl, h2, by omega, by omega, fun H7 e' s7 sa7 e0 e1 => ?_⟩
            refine ⟨1, e', rfl, rfl, (by show 2 ≤ sizeLine; decide), fun u nu => ?_⟩
            obtain ⟨h5, zz, rs', h6, h7, h8, h9, h10, h11, h12⟩ := h4 H7 e' s7 sa7 e0 e1 u nu
            exact ⟨o, _, _, rfl, rfl, h5, h3, zz, rs', _, _, rfl, h6, h7, h8, h9, h10, h11, h12⟩
      · rintro σ H' ⟨zs, rs, v5, v6, rfl, s4, sa4, ez, tz, hle, hrun, hadj⟩
        exact ⟨_, rfl, q H' o rs s4 sa4 nao ⟨zs, ez, tz⟩ ⟨by omega, hrun, hadj⟩⟩
  exact ⟨⟨fd, G, F.bindsN (fun _ _ _ _ _ _ us hl => match us, hl with | [_, _, _], _ => rfl)⟩, F.kp, T.g_law_sequence⟩
end
end Uk
/-! The law's two long tests: everything is covered once; one pair. -/
namespace Uk
open PySem PySem.Spec PyProof.Rows L2
abbrev sl_law_covered : List Str := ["sequence", "ranges", "before", "first", "second", "count", "next_one", "last"]
theorem sc_law_covered : FnScope sl_law_covered ["sequence"] (defScope s_law_covered) := ⟨rfl, rfl, rfl, by decide +kernel, rfl, by decide +kernel, by decide +kernel⟩
abbrev sl_law_pair_holds : List Str := ["sequence", "index", "first", "second", "state", "one", "other"]
theorem sc_law_pair_holds : FnScope sl_law_pair_holds ["sequence", "index"] (defScope s_law_pair_holds) := ⟨rfl, rfl, rfl, by decide +kernel, rfl, by decide +kernel, by decide +kernel⟩
/-- the pair that a tuple holds -/
def kf (H : Hp) : V → Int × Int
  | .ref t => match H t with
    | some (.tup [.int i, .int j]) => (i, j)
    | _ => (0, 0)
  | _ => (0, 0)
theorem kf_at {H : Hp} {t : Addr} {r : Int × Int} (h : H t = some (.tup (dPr r))) : kf H (.ref t) = r := by
  show (match H t with
    | some (.tup [.int i, .int j]) => (i, j)
    | _ => (0, 0)) = r
  rw [h]
  rfl
theorem kf_map {H : Hp} {zs : List V} {l : List (Int × Int)} (t : TL H zs (l.map dPr)) : zs.map (kf H) = l := by
  have hl : zs.length = l.length := t.1.trans (List.length_map _)
  refine List.ext_getElem? fun i => ?_
  rw [List.getElem?_map]
  by_cases hi : i < l.length
  · obtain ⟨p, e1, e2⟩ := t.2 i (dPr l[i]) (by rw [List.getElem?_map, List.getElem?_eq_getElem hi]; rfl)
    rw [e1, List.getElem?_eq_getElem hi]
    show some (kf H (.ref p)) = _
    rw [kf_at e2]
  · rw [List.getElem?_eq_none (by omega), List.getElem?_eq_none (by omega)]
    rfl
theorem kf_mem {H : Hp} {zs : List V} {l : List (Int × Int)} (t : TL H zs (l.map dPr)) {x : V} (hx : x ∈ zs) : ∃ p, x = .ref p ∧ H p = some (.tup (dPr (kf H x))) := by
  obtain ⟨i, hi⟩ := List.mem_iff_getElem?.mp hx
  obtain ⟨p, r, e1, _, e3⟩ := LT.run t hi
  subst e1
  exact ⟨p, rfl, by rw [kf_at e3]; exact e3⟩
theorem last_ps {ps : List (Int × Int × Int)} {i : Nat} {t : Int × Int × Int} (h : ps[i]? = some t) : ps.take (i + 1) = ps.take i ++ [t] := by
  rw [List.take_add_one, h]
  rfl
def sp_law_covered : Sp := fun vs H Q _ => ∃ (a : Addr) (rs : List (Str × Int)), vs = [.ref a] ∧ LT H a (rs.map dRun) ∧ SeqOk rs ∧ ∀ H', Same H H' → Q (.bl true) H'
def sp_law_pair_holds : Sp := fun vs H Q _ => ∃ (a : Addr) (rs : List (Str × Int)) (i : Int), vs = [.ref a, .int i] ∧ LT H a (rs.map dRun) ∧ SeqOk rs ∧ 0 ≤ i ∧ i < ((F (items rs)).p.length : Int) ∧ ∀ H', Same H H' → Q (.bl true) H'
theorem MateV.is {its : List Str} {p x : Int} {v : V} (h : MateV (F its).p p v) (m : Mate (F its).p p x) : v = .int x := by
  rcases h with ⟨_, l⟩ | ⟨y, rfl, my⟩
  · rcases m with m | m
    · exact absurd m (l x).1
    · exact absurd m (l x).2
  · rw [mate_one my m]
theorem MateV.lone {its : List Str} {p : Int} {v : V} (h : MateV (F its).p p v) (l : Lone (F its).p p) : v = .non := by
  rcases h with ⟨e, _⟩ | ⟨y, rfl, my⟩
  · exact e
  · rcases my with m | m
    · exact absurd m (l y).1
    · exact absurd m (l y).2
section
variable {P : Program} {w : World} {K : PySem.W.Frag} {mg : Str → Option Value} {base : Heap}
theorem D_law_covered (T : Tx K mg) : Dn P w K mg base 7 "_law_covered" ["sequence"] (sp_law_covered) := by
  have D_waiting_at := D_waiting_at (P := P) (w := w) (base := base) T
  have D_law_length := D_law_length (P := P) (w := w) (base := base) T
  have D_pairs_of := D_pairs_of (P := P) (w := w) (base := base) T
  obtain ⟨fd, F⟩ := T.f_law_covered
  have G : FnOk P w K mg base CX0 7 (He.fAd K ("_law_covered", none)) fd ["sequence"] sp_law_covered := by
    refine ok0 F sc_law_covered (fun vs H Q E h => ?_) (fun cdv A outer s H vs Q E hr h => ?_)
    · obtain ⟨a, rs, rfl, _⟩ := h
      rfl
    · obtain ⟨a, rs, rfl, lt, ok, q⟩ := h
      have hl := ok.len
      have hn := items_len rs ok.pos
      refine ⟨_, (pss_cons (ps_set (i := 1) sc_law_covered.nd rfl (.inl rfl) (pe_callTy (T := "list") (r := rListOf K) call_listK (by rfl) T.m_list (by decide +kernel) (pa_cons (pe_dn D_waiting_at (hr.mono (by decide)) (by rfl) (pa_cons (pv 0) (pa_cons (pe_dn D_law_length (hr.mono (by decide)) (by rfl) (pa_cons (pv 0) pa_nil)) pa_nil))) pa_nil)))
      (pss_cons (ps_set (i := 2) sc_law_covered.nd rfl (.inl rfl) (pe_un un_neg pe_int))
      (pss_cons (ps_for PassesOwn.never rfl (pi_list (pe_dn D_pairs_of (hr.mono (by decide)) (by rfl) (pa_cons (pv 0) pa_nil))) (pg_tup rfl (pgs_cons (pg_name (i := 3) sc_law_covered.nd rfl (.inl rfl)) (pgs_cons (pg_name (i := 4) sc_law_covered.nd rfl (.inl rfl)) (pgs_cons (pg_name (i := 5) sc_law_covered.nd rfl (.inl rfl)) pgs_nil))))
        (pss_cons (ps_if (PW.pt (pw_or (pt_cmpR op_lt (pv 5) pe_int (nomark _)) (pw_or (pt_cmpR op_ge (pv 3) (pv 4) (nomark _)) (pw_or1 (pt_cmpR op_le (pv 4) (pv 2) (nomark _)))))) (pss_one (ps_ret pe_bl)) pss_nil)
        (pss_cons (ps_set (i := 2) sc_law_covered.nd rfl (.inl rfl) (pe_op op_sub (pe_op op_add (pv 4) (pv 5)) pe_int))
        (pss_one (ps_set (i := 1) sc_law_covered.nd rfl (.inl rfl) (pe_op op_cat (pv 1) (pe_lst (pa_cons (pe_tup (pa_cons (pv 3) (pa_cons (pe_op op_sub (pe_op op_add (pv 3) (pv 5)) pe_int) pa_nil))) (pa_cons (pe_tup (pa_cons (pv 4) (pa_cons (pe_op op_sub (pe_op op_add (pv 4) (pv 5)) pe_int) pa_nil))) pa_nil)))))))))
      (pss_cons (ps_set (i := 6) sc_law_covered.nd rfl (.inl rfl) pe_int)
      (pss_cons (ps_for PassesOwn.never rfl (pi_list (pe_callB cr_sortedPO (by rfl) T.m_sorted (by decide +kernel) (pa_cons (pv 1) pa_nil))) (pg_tup rfl (pgs_cons (pg_name (i := 3) sc_law_covered.nd rfl (.inl rfl)) (pgs_cons (pg_name (i := 7) sc_law_covered.nd rfl (.inl rfl)) pgs_nil)))
        (pss_cons (ps_if (PW.pt (pw_or (pt_cmpR op_ne (pv 3) (pv 6) (nomark _)) (pw_or1 (pt_cmpR op_lt (pv 7) (pv 3) (nomark _))))) (pss_one (ps_ret pe_bl)) pss_nil)
        (pss_one (ps_set (i := 6) sc_law_covered.nd rfl (.inl rfl) (pe_op op_add (pv 7) pe_int)))))
      (pss_one (ps_ret (pe_cmpR op_eq (pv 6) (pe_dn D_law_length (hr.mono (by decide)) (by rfl) (pa_cons (pv 0) pa_nil)) (nomark _))))))))), ?_⟩
      refine ⟨_, rfl, _, rfl, a, rs, rfl, lt, by omega, fun H1 s1 => ?_⟩
      refine ⟨a, rs, (rs.map (·.2)).sum, rfl, lt.same s1, ok, by omega, by omega, fun H2 p R s2 lR rok hR => ?_⟩
      have hs : ((rs.map (fun r : Str × Int => r.2)).sum).toNat = (items rs).length := by omega
      rw [hs, List.take_length] at rok
      obtain ⟨xR, eR, tR⟩ := lR
      refine ⟨p, xR, rfl, .inl (SqL.of eR), fun l nl => ?_⟩
      have s02 := s1.trans s2
      have s3 : Same H2 (upd H2 l (.lst xR)) := same_upd nl
      refine ⟨1, rfl, ?_⟩
      refine ⟨_, rfl, a, rs, rfl, lt.same (s02.trans s3), ok, fun H4 u ps s4 ltp pp ep hps => ?_⟩
      obtain ⟨xs, hx, t⟩ := ltp
      have hxl : xs.length = ps.length := t.1.trans (List.length_map _)
      have s04 := (s02.trans s3).trans s4
      refine ⟨u, rfl, ⟨_, SqL.of hx⟩, for_list (K := K) (a := u) (xs := xs) (fun i σ H' => ∃ (b : Int) (rl : Addr) (zs : List V) (v3 v4 v5 : Option V), σ = [some (.ref a), some (.ref rl), some (.int b), v3, v4, v5, none, none] ∧ Same H4 H' ∧
          H' rl = some (.lst zs) ∧ TL H' zs ((R ++ rngsP (ps.take i)).map dPr) ∧ (b = -1 ∨ ∃ (j : Nat) (f s c : Int), j + 1 = i ∧ ps[j]? = some (f, s, c) ∧ b = s + c - 1))
        ⟨-1, l, xR, none, none, none, rfl, Same.refl _, s4 _ _ upd_same, by
          rw [List.take_zero, show rngsP [] = [] from rfl, List.append_nil]
          exact tR.same (s3.trans s4), .inl rfl⟩ (fun i σ H' _ ⟨_, _, _, _, _, _, _, s5, _⟩ => SqL.of (s5 _ _ hx)) ?_ ?_⟩
      · rintro i x σ H' ex1 ⟨b, rl, zs, v3, v4, v5, rfl, s5, ez, tz, hb⟩
        have hi := (List.getElem?_eq_some_iff.mp ex1).1
        obtain ⟨pa, ⟨f, s', c⟩, rfl, er, epa⟩ := LT.run t ex1
        obtain ⟨c1, fs, s0, hch⟩ := chain_ps pp ep er
        have hbs : b < s' := by
          rcases hb with rfl | ⟨j, f', s'', c', hj, ej, rfl⟩
          · omega
          · exact hch j f' s'' c' hj ej
        refine ⟨pa, _, rfl, SqT.of (s5 _ _ epa), rfl, _, _, rfl, _, _, rfl, _, [], rfl, rfl, ?_⟩
        refine ⟨_, rfl, c, 1, rfl, rfl, _, rfl, iteND (by omega) ?_⟩
        refine ⟨_, rfl, _, rfl, f, s', rfl, rfl, _, rfl, iteND (by omega) ?_⟩
        refine ⟨_, rfl, _, rfl, s', b, rfl, rfl, _, rfl, iteND (by omega) ?_⟩
        refine ⟨_, rfl, _, rfl, s', c, rfl, rfl, s' + c, 1, rfl, rfl, ?_⟩
        refine ⟨_, rfl, _, rfl, _, rfl, _, rfl, f, c, rfl, rfl, f + c, 1, rfl, rfl, (by show 2 ≤ sizeLine; decide), fun u1 n1 => ?_⟩
        refine ⟨_, rfl, _, rfl, _, rfl, s', c, rfl, rfl, s' + c, 1, rfl, rfl, (by show 2 ≤ sizeLine; decide), fun u2 n2 => ?_⟩
        refine ⟨(by show 2 ≤ sizeLine; decide), fun m nm => ?_⟩
        have sA : Same H' (upd H' u1 (.tup [.int f, .int (f + c - 1)])) := same_upd n1
        have sB := sA.new (o := .tup [.int s', .int (s' + c - 1)]) n2
        have sC := sB.new (o := .lst [.ref u1, .ref u2]) nm
        have n12 : u1 ≠ u2 := fun z => by rw [← z, upd_same] at n2; cases n2
        have e1 : (upd (upd H' u1 (.tup [.int f, .int (f + c - 1)])) u2 (.tup [.int s', .int (s' + c - 1)])) u1 = some (.tup [.int f, .int (f + c - 1)]) := (upd_ne n12).trans upd_same
        have n1m : u1 ≠ m := ne_of_none e1 nm
        have n2m : u2 ≠ m := ne_of_none upd_same nm
        have hzl : zs.length ≤ 1300 := by
          rw [tz.1, List.length_map, List.length_append, rngsP_len, List.length_take]
          omega
        refine ⟨rl, m, zs, [.ref u1, .ref u2], rfl, rfl, sC _ _ ez, upd_same, size_le (by show zs.length + 2 ≤ _; omega), fun w nw => ?_⟩
        have sD := sC.new (o := .lst (zs ++ [.ref u1, .ref u2])) nw
        refine ⟨s' + c - 1, w, _, _, _, _, rfl, s5.trans sD, upd_same, ?_, .inr ⟨i, f, s', c, rfl, er, rfl⟩⟩
        rw [last_ps er, rngsP_snoc, ← List.append_assoc, List.map_append]
        have t1 : TL (upd (upd (upd (upd H' u1 (.tup [.int f, .int (f + c - 1)])) u2 (.tup [.int s', .int (s' + c - 1)])) m (.lst [.ref u1, .ref u2])) w (.lst (zs ++ [.ref u1, .ref u2]))) (zs ++ [.ref u1]) ((R ++ rngsP (ps.take i)).map dPr ++ [dPr (f, f + c - 1)]) :=
          TL.snoc (tz.same sD) ((same_upd nw) _ _ ((upd_ne n1m).trans e1))
        have t2 := TL.snoc t1 (d := dPr (s', s' + c - 1)) ((same_upd nw) _ _ ((upd_ne n2m).trans upd_same))
        rw [List.append_assoc, List.append_assoc] at t2
        exact t2
      · rintro σ H' ⟨b, rl, zs, v3, v4, v5, rfl, s5, ez, tz, hb⟩
        rw [hxl, List.take_length] at tz
        have s05 := s04.trans s5
        refine ⟨_, rfl, rl, zs, kf H', rfl, SqL.of ez, fun x hx => kf_mem tz hx, fun ys p srt stb np => ?_⟩
        have s6 : Same H' (upd H' p (.lst ys)) := same_upd np
        have perm : (ys.map (kf H')).Perm (R ++ rngsP ps) := by
          rw [← kf_map tz]
          exact stb.perm.map _
        have srt2 : (ys.map (kf H')).Pairwise fun r q => r.1 ≤ q.1 := by
          rw [List.pairwise_map]
          refine List.Pairwise.imp (fun h => ?_) srt
          have := SrtO.lexB_no.mp h
          omega
        have tile := tile_all rok pp ep perm srt2
        refine ⟨p, rfl, ⟨_, SqL.of upd_same⟩, for_list (K := K) (a := p) (xs := ys) (fun i σ H7 => ∃ (n : Int) (v3 v4 v5 v7 : Option V), σ = [some (.ref a), some (.ref rl), some (.int b), v3, v4, v5, some (.int n), v7] ∧ Same (upd H' p (.lst ys)) H7 ∧
            Tile ((ys.drop i).map (kf H')) n ((items rs).length : Int) ∧ n ≤ ((items rs).length : Int))
          ⟨0, _, _, _, _, rfl, Same.refl _, tile, by omega⟩ (fun i σ H7 _ ⟨_, _, _, _, _, _, s7, _⟩ => SqL.of (s7 _ _ upd_same)) ?_ ?_⟩
        · rintro i x σ H7 ex1 ⟨n, v3, v4, v5, v7, rfl, s7, tl, hn7⟩
          have hi := (List.getElem?_eq_some_iff.mp ex1).1
          have hxm : x ∈ zs := stb.perm.mem_iff.mp (List.mem_of_getElem? ex1)
          obtain ⟨pa, rfl, epa⟩ := kf_mem tz hxm
          have ed : ys.drop i = .ref pa :: ys.drop (i + 1) := by
            rw [List.drop_eq_getElem_cons hi, (List.getElem?_eq_some_iff.mp ex1).2]
          rw [ed, List.map_cons] at tl
          generalize kf H' (.ref pa) = r at epa tl
          obtain ⟨f, l2⟩ := r
          obtain ⟨h1, h2, h3, h4⟩ := tile_cons tl
          refine ⟨pa, _, rfl, SqT.of (s7 _ _ (s6 _ _ epa)), rfl, _, _, rfl, _, [], rfl, rfl, ?_⟩
          refine ⟨_, rfl, _, rfl, rfl, _, rfl, iteNS (congrArg V.int h1) ?_⟩
          refine ⟨_, rfl, _, rfl, l2, f, rfl, rfl, _, rfl, iteND (by omega) ?_⟩
          refine ⟨_, rfl, l2, 1, rfl, rfl, ?_⟩
          exact ⟨l2 + 1, _, _, _, _, rfl, s7, h4, by omega⟩
        · rintro σ H7 ⟨n, v3, v4, v5, v7, rfl, s7, tl, hn7⟩
          rw [List.drop_length] at tl
          have en := tile_nil tl hn7
          have s07 := (s05.trans s6).trans s7
          refine ⟨_, rfl, _, rfl, a, rs, rfl, lt.same s07, by omega, fun H8 s8 => ⟨rfl, ?_⟩⟩
          exact blD (congrArg V.int (by omega)) (q _ (s07.trans s8))
  exact ⟨⟨fd, G, F.bindsN (fun _ _ _ _ _ _ us hl => match us, hl with | [_], _ => rfl)⟩, F.kp, T.g_law_covered⟩
theorem D_law_pair_holds (T : Tx K mg) : Dn P w K mg base 7 "_law_pair_holds" ["sequence", "index"] (sp_law_pair_holds) := by
  have D_nth_pair := D_nth_pair (P := P) (w := w) (base := base) T
  have D_partner_of := D_partner_of (P := P) (w := w) (base := base) T
  have D_kind_at := D_kind_at (P := P) (w := w) (base := base) T
  have D_state_at := D_state_at (P := P) (w := w) (base := base) T
  have D_waiting_at := D_waiting_at (P := P) (w := w) (base := base) T
  have D_pair_count := D_pair_count (P := P) (w := w) (base := base) T
  have D_longest_wait := D_longest_wait (P := P) (w := w) (base := base) T
  obtain ⟨fd, F⟩ := T.f_law_pair_holds
  have G : FnOk P w K mg base CX0 7 (He.fAd K ("_law_pair_holds", none)) fd ["sequence", "index"] sp_law_pair_holds := by
    refine ok0 F sc_law_pair_holds (fun vs H Q E h => ?_) (fun cdv A outer s H vs Q E hr h => ?_)
    · obtain ⟨a, rs, i, rfl, _⟩ := h
      rfl
    · obtain ⟨a, rs, i, rfl, lt, ok, h0, h1, q⟩ := h
      obtain ⟨⟨f, s'⟩, hq⟩ : ∃ r, (Uk.F (items rs)).p[i.toNat]? = some r := ⟨_, List.getElem?_eq_getElem (by omega)⟩
      obtain ⟨hlt, hf0, hfs, hhd, hlen, hlen1, k1, k2, hk1, hk2, hne, hst⟩ := was_of _ _ _ hq
      have hmem := List.mem_of_getElem? hq
      refine ⟨_, (pss_cons (ps_asg (pe_dn D_nth_pair (hr.mono (by decide)) (by rfl) (pa_cons (pv 0) (pa_cons (pv 1) pa_nil))) (pg_tup rfl (pgs_cons (pg_name (i := 2) sc_law_pair_holds.nd rfl (.inl rfl)) (pgs_cons (pg_name (i := 3) sc_law_pair_holds.nd rfl (.inl rfl)) pgs_nil))))
      (pss_cons (ps_if (PW.pt (pw_or (pt_cmpR op_ne (pe_dn D_partner_of (hr.mono (by decide)) (by rfl) (pa_cons (pv 0) (pa_cons (pv 2) pa_nil))) (pv 3) (nomark _)) (pw_or1 (pt_cmpR op_ne (pe_dn D_partner_of (hr.mono (by decide)) (by rfl) (pa_cons (pv 0) (pa_cons (pv 3) pa_nil))) (pv 2) (nomark _))))) (pss_one (ps_ret pe_bl)) pss_nil)
      (pss_cons (ps_if (pt_cmpR op_eq (pe_dn D_kind_at (hr.mono (by decide)) (by rfl) (pa_cons (pv 0) (pa_cons (pv 2) pa_nil))) (pe_dn D_kind_at (hr.mono (by decide)) (by rfl) (pa_cons (pv 0) (pa_cons (pv 3) pa_nil))) (nomark _)) (pss_one (ps_ret pe_bl)) pss_nil)
      (pss_cons (ps_set (i := 4) sc_law_pair_holds.nd rfl (.inl rfl) (pe_dd D_state_at (hr.mono (by decide)) (by rfl) (pa_cons (pv 0) (pa_cons (pv 3) pa_nil))))
      (pss_cons (ps_if (PW.pt (pw_or (pt_cmpR op_isN (pv 4) pe_non (nomark _)) (pw_or (pt_cmpR op_ne (pe_ix (r := rIxT K) ix_tup (pv 4) pe_int (fun _ _ => rfl)) (pe_dn D_kind_at (hr.mono (by decide)) (by rfl) (pa_cons (pv 0) (pa_cons (pv 2) pa_nil))) (nomark _)) (pw_or1 (pt_cmpR op_ne (pe_ix (r := rIxT K) ix_tup (pe_ix (r := rIxL K) ix_list (pe_dn D_waiting_at (hr.mono (by decide)) (by rfl) (pa_cons (pv 0) (pa_cons (pv 3) pa_nil))) pe_int (fun _ _ => rfl)) pe_int (fun _ _ => rfl)) (pv 2) (nomark _)))))) (pss_one (ps_ret pe_bl)) pss_nil)
      (pss_cons (ps_if (PW.pt (pw_or (pt_cmpR op_ne (pe_dn D_pair_count.n (hr.mono (by decide)) (by rfl) (pa_cons (pv 0) (pa_cons (pv 3) pa_nil))) (pv 1) (nomark _)) (pw_or1 (pt_cmpR op_ne (pe_dn D_pair_count.n (hr.mono (by decide)) (by rfl) (pa_cons (pv 0) (pa_cons (pe_op op_add (pv 3) pe_int) pa_nil))) (pe_op op_add (pv 1) pe_int) (nomark _))))) (pss_one (ps_ret pe_bl)) pss_nil)
      (pss_cons (ps_asg (pe_dn D_longest_wait (hr.mono (by decide)) (by rfl) (pa_cons (pv 0) pa_nil)) (pg_tup rfl (pgs_cons (pg_name (i := 5) sc_law_pair_holds.nd rfl (.inl rfl)) (pgs_cons (pg_name (i := 6) sc_law_pair_holds.nd rfl (.inl rfl)) pgs_nil))))
      (pss_one (ps_ret (pe_and (pe_cmpR op_ge (pe_op op_sub (pv 6) (pv 5)) (pe_op op_sub (pv 3) (pv 2)) (nomark _)) (pe_one (pe_cmpR op_eq (pe_dn D_partner_of (hr.mono (by decide)) (by rfl) (pa_cons (pv 0) (pa_cons (pv 5) pa_nil))) (pv 6) (nomark _))))))))))))), ?_⟩
      refine ⟨_, rfl, _, rfl, a, rs, i, (f, s'), rfl, lt, ok, h0, hq, fun H1 u s1 eu => ?_⟩
      refine ⟨u, _, rfl, SqT.of eu, rfl, _, _, rfl, _, [], rfl, rfl, ?_⟩
      have hlt : s' < ((items rs).length : Int) := hlt
      have hf0 : 0 ≤ f := hf0
      have hfs : f < s' := hfs
      refine ⟨_, rfl, _, rfl, a, rs, f, rfl, lt.same s1, ok, hf0, by omega, fun H2 v s2 mv => ?_⟩
      have ev := mv.is (.inl hmem)
      subst ev
      refine ⟨_, rfl, rfl, _, rfl, iteNS rfl ?_⟩
      have s02 := s1.trans s2
      refine ⟨_, rfl, _, rfl, a, rs, s', rfl, lt.same s02, ok, by omega, hlt, fun H3 v s3 mv => ?_⟩
      have ev := mv.is (.inr hmem)
      subst ev
      refine ⟨_, rfl, rfl, _, rfl, iteNS rfl ?_⟩
      have s03 := s02.trans s3
      refine ⟨_, rfl, _, rfl, a, rs, f, rfl, lt.same s03, ok, hf0, by omega, fun H4 z1 s4 e1 => ?_⟩
      have s04 := s03.trans s4
      refine ⟨_, rfl, _, rfl, a, rs, s', rfl, lt.same s04, ok, by omega, hlt, fun H5 z2 s5 e2 => ?_⟩
      have s05 := s04.trans s5
      have hk1 : (items rs)[f.toNat]? = some k1 := hk1
      have hk2 : (items rs)[s'.toNat]? = some k2 := hk2
      rw [hk1] at e1
      rw [hk2] at e2
      have e1 := Option.some.inj e1
      have e2 := Option.some.inj e2
      subst e1
      subst e2
      refine ⟨rfl, _, rfl, iteND (fun e => hne (V.str.inj e)) ?_⟩
      refine ⟨_, rfl, _, rfl, a, rs, s', rfl, lt.same s05, ok, by omega, by omega, fun H6 v s6 sv => ?_⟩
      have s06 := s05.trans s6
      have hst : stOf (Uk.F ((items rs).take s'.toNat)) = some (k1, ((Uk.F ((items rs).take s'.toNat)).w.length : Int)) := hst
      rw [hst] at sv
      obtain ⟨p, rfl, ep⟩ := sv
      refine ⟨_, rfl, rfl, _, rfl, iteND (fun z => nomatch z) ?_⟩
      refine ⟨_, rfl, p, _, 0, _, rfl, rfl, SqT.of ep, atI_nat (j := 0) rfl, _, rfl, _, rfl, a, rs, f, rfl, lt.same s06, ok, hf0, by omega, fun H7 z s7 ez => ?_⟩
      rw [hk1] at ez
      have ez := Option.some.inj ez
      subst ez
      have s07 := s06.trans s7
      refine ⟨rfl, _, rfl, iteNS rfl ?_⟩
      refine ⟨_, rfl, _, rfl, a, rs, s', rfl, lt.same s07, ok, by omega, by omega, fun H8 u8 R s8 l8 rok hR => ?_⟩
      have s08 := s07.trans s8
      obtain ⟨l, R', rfl⟩ := rok.hd f hhd
      obtain ⟨ys, y, e1, _, e2, e3⟩ := l8.at_ (i := 0) rfl
      refine ⟨u8, ys, 0, _, rfl, rfl, SqL.of e1, atI_nat (j := 0) e2, y, _, 0, _, rfl, rfl, SqT.of e3, atI_nat (j := 0) rfl, _, rfl, rfl, _, rfl, iteNS rfl ?_⟩
      refine ⟨_, rfl, _, rfl, a, rs, .int s', s'.toNat, rfl, lt.same s08, ok, .inr ⟨by rw [Int.toNat_of_nonneg (by omega)], by omega⟩, fun H9 s9 => ?_⟩
      have s09 := s08.trans s9
      have hlen : (Uk.F ((items rs).take s'.toNat)).p.length = i.toNat := hlen
      refine ⟨_, rfl, rfl, _, rfl, iteNS (congrArg V.int (by rw [hlen]; omega)) ?_⟩
      refine ⟨_, rfl, _, rfl, s', 1, rfl, rfl, a, rs, .int (s' + 1), (s' + 1).toNat, rfl, lt.same s09, ok, .inr ⟨by rw [Int.toNat_of_nonneg (by omega)], by omega⟩, fun H10 s10 => ?_⟩
      have s010 := s09.trans s10
      have hlen1 : (Uk.F ((items rs).take (s' + 1).toNat)).p.length = i.toNat + 1 := hlen1
      refine ⟨_, rfl, i, 1, rfl, rfl, rfl, _, rfl, iteNS (congrArg V.int (by rw [hlen1]; omega)) ?_⟩
      refine ⟨_, rfl, a, rs, rfl, lt.same s010, ok, fun H11 v s11 lv => ?_⟩
      have s011 := s010.trans s11
      rcases lv with ⟨e, _⟩ | ⟨w, ⟨o1, o2⟩, rfl, ew, hm2, hmax⟩
      · rw [e] at hmem
        cases hmem
      refine ⟨w, _, rfl, SqT.of ew, rfl, _, _, rfl, _, [], rfl, rfl, ?_⟩
      have hm := hmax (f, s') hmem
      have hm : s' - f ≤ o2 - o1 := hm
      have b1 := (ok_F (items rs)).p1 hm2
      have b1 : 0 ≤ o1 ∧ o1 < ((items rs).length : Int) := b1
      refine ⟨_, rfl, _, rfl, o2, o1, rfl, rfl, _, rfl, _, rfl, s', f, rfl, rfl, _, _, rfl, rfl, _, rfl, iteD hm ?_⟩
      refine ⟨_, rfl, _, rfl, a, rs, o1, rfl, lt.same s011, ok, b1.1, b1.2, fun H12 v s12 mv => ?_⟩
      have ev := mv.is (.inl hm2)
      subst ev
      refine ⟨_, rfl, rfl, ?_⟩
      exact blD rfl (q _ (s011.trans s12))
  exact ⟨⟨fd, G, F.bindsN (fun _ _ _ _ _ _ us hl => match us, hl with | [_, _], _ => rfl)⟩, F.kp, T.g_law_pair_holds⟩
end
end Uk
/-! The law. -/
namespace Uk
open PySem PySem.Spec PyProof.Rows L2
abbrev sl_law_holds : List Str := ["stream", "sequence", "pairs", "turn", "first", "last", "due", "index"]
theorem sc_law_holds : FnScope sl_law_holds ["stream"] (defScope s_law_holds) := ⟨rfl, rfl, rfl, by decide +kernel, rfl, by decide +kernel, by decide +kernel⟩
abbrev sl_law : List Str := ["script", "cells", "k", "cell"]
theorem sc_law : FnScope sl_law ["script"] (defScope s_law) := ⟨rfl, rfl, rfl, by decide +kernel, rfl, by decide +kernel, by decide +kernel⟩
theorem p_len {κ : Type} [DecidableEq κ] : ∀ its : List κ, (F its).p.length ≤ its.length := by
  refine snoc_ind (P := fun its => (F its).p.length ≤ its.length) (Nat.le_refl _) fun its k h => ?_
  rw [F_snoc, List.length_append, List.length_singleton]
  unfold step
  split
  · exact Nat.le_succ_of_le h
  · split
    · exact Nat.le_succ_of_le h
    · show ((F its).p ++ [_]).length ≤ _
      rw [List.length_append, List.length_singleton]
      omega
theorem its_len : ∀ rs : List (Str × Int), (∀ r ∈ rs, RunOk r) → ((items rs).length : Int) ≤ (rs.length : Int) * 1000000000000000000000000000000
  | [], _ => by decide
  | r :: rs, h => by
    have ih := its_len rs fun q hq => h q (List.mem_cons_of_mem _ hq)
    obtain ⟨_, h1, h2⟩ := h r List.mem_cons_self
    have e : items (r :: rs) = List.replicate r.2.toNat r.1 ++ items rs := rfl
    rw [e, List.length_append, List.length_replicate, List.length_cons]
    omega
theorem TL.rev {H : Hp} {xs : List V} {ds : List (List V)} (h : TL H xs ds) : TL H xs.reverse ds.reverse := by
  refine ⟨by rw [List.length_reverse, List.length_reverse, h.1], fun i d e => ?_⟩
  have hi := (List.getElem?_eq_some_iff.mp e).1
  rw [List.length_reverse] at hi
  rw [List.getElem?_reverse hi] at e
  obtain ⟨p, e1, e2⟩ := h.2 _ d e
  refine ⟨p, ?_, e2⟩
  rw [List.getElem?_reverse (by rw [h.1]; exact hi), h.1]
  exact e1
theorem cut_ints (ns : List Int) (lo hi : Option Int) : ∃ zs : List Int, cutV (ns.map V.int) lo hi = zs.map V.int ∧ zs.length ≤ ns.length := by
  refine ⟨(ns.drop (HT.sIx (ns.map V.int).length 0 lo)).take (HT.sIx (ns.map V.int).length (ns.map V.int).length hi - HT.sIx (ns.map V.int).length 0 lo), ?_, ?_⟩
  · unfold cutV
    rw [List.map_take, List.map_drop]
  · rw [List.length_take, List.length_drop]
    omega
def sp_law_holds : Sp := fun vs H Q _ => ∃ a : Addr, vs = [.ref a] ∧ StrAt H a ∧ ∀ H', SameBut a H H' → Q (.bl true) H'
def sp_law (K : PySem.W.Frag) : Sp := fun vs H Q _ => ∃ (a : Addr) (ns : List Int), vs = [.ref a] ∧ SqL K H a (ns.map V.int) ∧ ns.length ≤ 63 ∧ ∀ H', Q (.bl true) H'
section
variable {P : Program} {w : World} {K : PySem.W.Frag} {mg : Str → Option Value} {base : Heap}
theorem D_law_holds (T : Tx K mg) : Dn P w K mg base 8 "_law_holds" ["stream"] (sp_law_holds) := by
  have D_law_sequence := D_law_sequence (P := P) (w := w) (base := base) T
  have D_law_scale := D_law_scale (P := P) (w := w) (base := base) T
  have D_law_covered := D_law_covered (P := P) (w := w) (base := base) T
  have D_pair_count := D_pair_count (P := P) (w := w) (base := base) T
  have D_longest_wait := D_longest_wait (P := P) (w := w) (base := base) T
  have D_pairs_of := D_pairs_of (P := P) (w := w) (base := base) T
  have D_is_pairing := D_is_pairing (P := P) (w := w) (base := base) T
  have D_law_pair_holds := D_law_pair_holds (P := P) (w := w) (base := base) T
  have D_law_draw := D_law_draw (P := P) (w := w) (base := base) T
  have D_waiting_at := D_waiting_at (P := P) (w := w) (base := base) T
  have D_law_length := D_law_length (P := P) (w := w) (base := base) T
  have D_partner_of := D_partner_of (P := P) (w := w) (base := base) T
  have D_nth_pair := D_nth_pair (P := P) (w := w) (base := base) T
  obtain ⟨fd, F⟩ := T.f_law_holds
  have G : FnOk P w K mg base CX0 8 (He.fAd K ("_law_holds", none)) fd ["stream"] sp_law_holds := by
    refine ok0 F sc_law_holds (fun vs H Q E h => ?_) (fun cdv A outer s H vs Q E hr h => ?_)
    · obtain ⟨a, rfl, _⟩ := h
      rfl
    · obtain ⟨a, rfl, sa, q⟩ := h
      refine ⟨_, (pss_cons (ps_set (i := 1) sc_law_holds.nd rfl (.inr rfl) (pe_dn D_law_sequence (hr.mono (by decide)) (by rfl) (pa_cons (pv 0) (pa_cons pe_int (pa_cons (pe_dn D_law_scale (hr.mono (by decide)) (by rfl) (pa_cons (pv 0) pa_nil)) pa_nil)))))
      (pss_cons (ps_if (pt_not (pt_val (pe_dn D_law_covered (hr.mono (by decide)) (by rfl) (pa_cons (pv 1) pa_nil)))) (pss_one (ps_ret pe_bl)) pss_nil)
      (pss_cons (ps_set (i := 2) sc_law_holds.nd rfl (.inl rfl) (pe_dd D_pair_count (hr.mono (by decide)) (by rfl) (pa_cons (pv 1) pa_nil)))
      (pss_cons (ps_if (pt_cmpR op_eq (pv 2) pe_int (nomark _)) (pss_one (ps_ret (pe_and (pe_cmpR op_isN (pe_dn D_longest_wait (hr.mono (by decide)) (by rfl) (pa_cons (pv 1) pa_nil)) pe_non (nomark _)) (pe_and (pe_cmpR (op_eqD hr.units) (pe_dn D_pairs_of (hr.mono (by decide)) (by rfl) (pa_cons (pv 1) pa_nil)) (pe_lst pa_nil) (nomark _)) (pe_one (pe_dn D_is_pairing (hr.mono (by decide)) (by rfl) (pa_cons (pv 1) (pa_cons (pe_lst pa_nil) pa_nil)))))))) pss_nil)
      (pss_cons (ps_for PassesOwn.never rfl (pi_range1 (by rfl) T.m_range (pa_cons pe_int pa_nil)) (pg_name (i := 3) sc_law_holds.nd rfl (.inl rfl))
        (pss_one (ps_if (pt_not (pt_val (pe_dn D_law_pair_holds (hr.mono (by decide)) (by rfl) (pa_cons (pv 1) (pa_cons (pe_dn D_law_draw (hr.mono (by decide)) (by rfl) (pa_cons (pv 0) (pa_cons (pv 2) pa_nil))) pa_nil))))) (pss_one (ps_ret pe_bl)) pss_nil)))
      (pss_cons (ps_for PassesOwn.never rfl (pi_list (pe_dn D_waiting_at (hr.mono (by decide)) (by rfl) (pa_cons (pv 1) (pa_cons (pe_dn D_law_length (hr.mono (by decide)) (by rfl) (pa_cons (pv 1) pa_nil)) pa_nil)))) (pg_tup rfl (pgs_cons (pg_name (i := 4) sc_law_holds.nd rfl (.inl rfl)) (pgs_cons (pg_name (i := 5) sc_law_holds.nd rfl (.inl rfl)) pgs_nil)))
        (pss_one (ps_if (PW.pt (pw_or (pt_cmpR op_notN (pe_dn D_partner_of (hr.mono (by decide)) (by rfl) (pa_cons (pv 1) (pa_cons (pv 4) pa_nil))) pe_non (nomark _)) (pw_or1 (pt_cmpR op_notN (pe_dn D_partner_of (hr.mono (by decide)) (by rfl) (pa_cons (pv 1) (pa_cons (pv 5) pa_nil))) pe_non (nomark _))))) (pss_one (ps_ret pe_bl)) pss_nil)))
      (pss_cons (ps_if (pt_cmpR op_gt (pv 2) pe_int (nomark _)) (pss_one (ps_ret (pe_cmpR op_isBl (pe_dn D_is_pairing (hr.mono (by decide)) (by rfl) (pa_cons (pv 1) (pa_cons (pe_lst pa_nil) pa_nil))) pe_bl (nomark _)))) pss_nil)
      (pss_cons (ps_setLc (i := 6) (own := [("index", 7)]) (g := gName 7) (tt := tYes) rfl sc_law_holds.nd rfl rfl (sw_true rfl rfl rfl (by decide +kernel)) (pi_range1 (by rfl) T.m_range (pa_cons (pv 2) pa_nil)) (blkOk_by (own := [("index", 7)]) (N := sl_law_holds) (sc := defScope s_law_holds) (by decide +kernel)) (fun _ _ _ _ _ => (pg_name (i := 7) sc_law_holds.nd rfl (.inl rfl))) (fun _ _ _ _ _ => pts_nil) (fun _ _ _ _ _ => (pe_dn D_nth_pair (hr.mono (by decide)) (by rfl) (pa_cons (pv 1) (pa_cons (pv 7) pa_nil)))))
      (pss_cons (ps_if (PW.pt (pw_or (pt_cmpR op_notBl (pe_dn D_is_pairing (hr.mono (by decide)) (by rfl) (pa_cons (pv 1) (pa_cons (pv 6) pa_nil))) pe_bl (nomark _)) (pw_or1 (pt_cmpR op_notBl (pe_dn D_is_pairing (hr.mono (by decide)) (by rfl) (pa_cons (pv 1) (pa_cons (pe_slice sl_list (pv 6) (po_some pe_int) po_none) pa_nil))) pe_bl (nomark _))))) (pss_one (ps_ret pe_bl)) pss_nil)
      (pss_one (ps_ret (pe_or (pe_cmpR op_eq (pv 2) pe_int (nomark _)) (pe_one (pe_cmpR op_isBl (pe_dn D_is_pairing (hr.mono (by decide)) (by rfl) (pa_cons (pv 1) (pa_cons (pe_revL (pv 6)) pa_nil))) pe_bl (nomark _))))))))))))))), ?_⟩
      refine ⟨_, rfl, _, rfl, a, rfl, sa, fun H1 z s1 sa1 z1 z2 => ⟨a, z, rfl, sa1, z1, z2, fun H2 p rs s2 sa2 npa lt ok => ?_⟩⟩
      have s02 := s1.trans s2
      have hl := ok.len
      have hn := items_len rs ok.pos
      refine ⟨_, rfl, p, rs, rfl, lt, ok, fun H3 s3 => ⟨_, rfl, iteF ?_⟩⟩
      refine ⟨_, rfl, p, rs, .non, (items rs).length, rfl, lt.same s3, ok, .inl ⟨rfl, rfl⟩, fun H4 s4 => ?_⟩
      rw [List.take_length]
      have s24 := s3.trans s4
      have s04 : SameBut a H H4 := s02.trans (SameBut.of s24)
      have lt4 := lt.same s24
      have sa4 : StrAt H4 a := by
        obtain ⟨x, y, e⟩ := sa2
        exact ⟨x, y, s24 _ _ e⟩
      have hN1 := p_len (items rs)
      have hN2 := its_len rs ok.run
      have hpos : ∀ r ∈ (Uk.F (items rs)).p, 0 ≤ r.1 ∧ 0 ≤ r.2 := fun r hr => ⟨((ok_F _).p1 hr).1, ((ok_F _).p2 hr).1⟩
      refine ⟨_, rfl, rfl, _, rfl, ite2 (fun e => ?_) (fun e => ?_)⟩
      · -- no pairs
        have e : ((Uk.F (items rs)).p.length : Int) = 0 := V.int.inj (of_decide_eq_true e)
        have eP : (Uk.F (items rs)).p = [] := List.length_eq_zero_iff.mp (by omega)
        refine ⟨_, rfl, p, rs, rfl, lt4, ok, fun H5 v s5 lv => ?_⟩
        rcases lv with ⟨_, rfl⟩ | ⟨w, r, _, _, hm, _⟩
        · refine ⟨rfl, _, rfl, iteD rfl ?_⟩
          refine ⟨_, rfl, p, rs, rfl, lt4.same s5, ok, fun H6 u ps s6 lt6 pp ep hps => ?_⟩
          refine ⟨Nat.zero_le _, fun n nn => ?_⟩
          have s7 : Same H6 (upd H6 n (.lst [])) := same_upd nn
          refine ⟨_, _, dp_trs (lt6.same s7), dp_nil upd_same, sh_trs _, sh_nil, ?_⟩
          rw [eqv_nil]
          have eps : ps = [] := by
            cases ps with
            | nil => rfl
            | cons t ps =>
              have := exP_first (ps := t :: ps) List.mem_cons_self (pp t List.mem_cons_self)
              rw [ep, eP] at this
              cases this
          subst eps
          refine ⟨_, rfl, iteT ?_⟩
          refine ⟨_, rfl, Nat.zero_le _, fun o no => ?_⟩
          have s8 := ((s5.trans s6).trans s7).new (o := .lst []) no
          refine ⟨p, o, rs, [], rfl, lt4.same s8, ok, ⟨[], upd_same, TL.nil⟩, fun q h => (nomatch h), Nat.zero_le _, fun H9 s9 => ?_⟩
          rw [decide_eq_true ⟨by omega, eP.symm⟩]
          exact q _ (s04.trans (SameBut.of (s8.trans s9)))
        · rw [eP] at hm
          cases hm
      · have e : ¬ ((Uk.F (items rs)).p.length : Int) = 0 := fun z => e (decide_eq_true (congrArg V.int z))
        refine ⟨3, rfl, by decide, by decide, for_range (lo := 0) (n := 3) (fun i σ H' => ∃ v3, σ = [some (.ref a), some (.ref p), some (.int ((Uk.F (items rs)).p.length : Nat)), v3, none, none, none, none] ∧ SameBut a H4 H' ∧ StrAt H' a)
          ⟨none, rfl, SameBut.of (Same.refl _), sa4⟩ ?_ ?_⟩
        · rintro i σ H' hi ⟨v3, rfl, s5, sa5⟩
          have lt5 := s5.lt npa sa4.no lt4
          refine ⟨_, rfl, _, rfl, _, rfl, a, _, rfl, sa5, by omega, by omega, fun H6 j s6 sa6 j0 j1 => ?_⟩
          refine ⟨p, rs, j, rfl, s6.lt npa sa5.no lt5, ok, j0, j1, fun H7 s7 => ⟨_, rfl, iteF ?_⟩⟩
          refine ⟨_, rfl, (s5.trans s6).trans (SameBut.of s7), ?_⟩
          obtain ⟨x, y, e⟩ := sa6
          exact ⟨x, y, s7 _ _ e⟩
        · rintro σ H' ⟨v3, rfl, s5, sa5⟩
          have lt5 := s5.lt npa sa4.no lt4
          have s05 := s04.trans s5
          refine ⟨_, rfl, _, rfl, p, rs, rfl, lt5, by omega, fun H6 s6 => ?_⟩
          refine ⟨p, rs, (rs.map (·.2)).sum, rfl, lt5.same s6, ok, by omega, by omega, fun H7 u R s7 lR rok hR => ?_⟩
          have hs : ((rs.map (fun r : Str × Int => r.2)).sum).toNat = (items rs).length := by omega
          rw [hs, List.take_length] at rok
          obtain ⟨xR, eR, tR⟩ := lR
          have s57 := s6.trans s7
          refine ⟨u, rfl, ⟨_, SqL.of eR⟩, for_list (K := K) (a := u) (xs := xR) (fun i σ H' => ∃ v3 v4 v5, σ = [some (.ref a), some (.ref p), some (.int ((Uk.F (items rs)).p.length : Nat)), v3, v4, v5, none, none] ∧ Same H7 H')
            ⟨_, _, _, rfl, Same.refl _⟩ (fun i σ H' _ ⟨_, _, _, _, s8⟩ => SqL.of (s8 _ _ eR)) ?_ ?_⟩
          · rintro i x σ H8 ex1 ⟨v3, v4, v5, rfl, s8⟩
            obtain ⟨pa, ⟨f, l⟩, rfl, er, epa⟩ := LT.run tR ex1
            obtain ⟨mf, ml⟩ := rok.mem (List.mem_of_getElem? er)
            have bf := (ok_F (items rs)).wlt mf
            have bl := (ok_F (items rs)).wlt ml
            have mf : f ∈ (Uk.F (items rs)).w := mf
            have ml : l ∈ (Uk.F (items rs)).w := ml
            have bf : 0 ≤ f ∧ f < ((items rs).length : Int) := bf
            have bl : 0 ≤ l ∧ l < ((items rs).length : Int) := bl
            refine ⟨pa, _, rfl, SqT.of (s8 _ _ epa), rfl, _, _, rfl, _, [], rfl, rfl, ?_⟩
            have lt8 := lt5.same (s57.trans s8)
            refine ⟨_, rfl, _, rfl, p, rs, f, rfl, lt8, ok, bf.1, bf.2, fun H9 v s9 mv => ?_⟩
            have ev := mv.lone (lone_w mf)
            subst ev
            refine ⟨rfl, _, rfl, iteNS rfl ?_⟩
            refine ⟨_, rfl, _, rfl, p, rs, l, rfl, lt8.same s9, ok, bl.1, bl.2, fun H10 v s10 mv => ?_⟩
            have ev := mv.lone (lone_w ml)
            subst ev
            refine ⟨rfl, _, rfl, iteNS rfl ?_⟩
            exact ⟨_, _, _, rfl, (s8.trans s9).trans s10⟩
          · rintro σ H8 ⟨v3, v4, v5, rfl, s8⟩
            have s58 := s57.trans s8
            have lt8 := lt5.same s58
            have s08 : SameBut a H H8 := s05.trans (SameBut.of s58)
            refine ⟨_, rfl, _, 200, rfl, rfl, _, rfl, ite2 (fun e2 => ?_) (fun e2 => ?_)⟩
            · have e2 : (200 : Int) < ((Uk.F (items rs)).p.length : Int) := of_decide_eq_true e2
              refine ⟨_, rfl, Nat.zero_le _, fun o no => ?_⟩
              have s9 : Same H8 (upd H8 o (.lst [])) := same_upd no
              refine ⟨p, o, rs, [], rfl, lt8.same s9, ok, ⟨[], upd_same, TL.nil⟩, fun q h => (nomatch h), Nat.zero_le _, fun H9 s10 => ?_⟩
              rw [decide_eq_false (fun z => by have := congrArg List.length z.2; simp at this; omega)]
              refine ⟨_, _, rfl, rfl, ?_⟩
              exact blD rfl (q _ (s08.trans (SameBut.of (s9.trans s10))))
            · have e2 : ¬ (200 : Int) < ((Uk.F (items rs)).p.length : Int) := fun z => e2 (decide_eq_true z)
              have p62 : (2 : Int) ^ 62 = 4611686018427387904 := by decide
              refine ⟨_, rfl, _, rfl, by rw [p62]; omega, by rw [p62]; omega, fun D nD => ?_⟩
              refine lc_tlR (n := ((Uk.F (items rs)).p.length : Int).toNat) (ds := (Uk.F (items rs)).p.map dPr) nD (by rw [List.length_map]; omega) (size_lt (by omega)) (fun j d H9 Nx hj ed s9 k => ?_) (fun H9 s9 lt9 => ?_)
              · refine ⟨rfl, ?_⟩
                have hj2 : j < (Uk.F (items rs)).p.length := by omega
                have hq : (Uk.F (items rs)).p[j]? = some (Uk.F (items rs)).p[j] := List.getElem?_eq_getElem hj2
                rw [List.getElem?_map, hq] at ed
                have ed := Option.some.inj ed
                subst ed
                refine ⟨_, rfl, _, rfl, p, rs, 0 + (j : Int), _, rfl, lt8.same s9, ok, by omega, ?_, fun H10 u10 s10 e10 => k u10 H10 s10 e10⟩
                rw [show (0 + (j : Int)).toNat = j by omega]
                exact hq
              · have lt9p := lt8.same s9
                have s09 : SameBut a H H9 := s08.trans (SameBut.of s9)
                have hPl : (Uk.F (items rs)).p.length ≤ 200 := by omega
                refine ⟨_, rfl, _, rfl, p, D, rs, (Uk.F (items rs)).p, rfl, lt9p, ok, lt9, hpos, by omega, fun H10 s10 => ?_⟩
                rw [decide_eq_true ⟨by omega, rfl⟩]
                refine ⟨_, _, rfl, rfl, _, rfl, iteNS rfl ?_⟩
                obtain ⟨xD, eD, tD⟩ := lt9
                have eD10 := s10 _ _ eD
                have tD10 := tD.same s10
                refine ⟨_, rfl, _, rfl, 1, rfl, D, xD, rfl, SqL.of eD10, fun c nc => ?_⟩
                have s11 : Same H10 (upd H10 c (.lst (cutV xD (some 1) none))) := same_upd nc
                have s911 := s10.trans s11
                refine ⟨p, c, rs, (Uk.F (items rs)).p.drop 1, rfl, lt9p.same s911, ok, ⟨_, upd_same, ?_⟩, fun r hr => hpos r (List.mem_of_mem_drop hr), by rw [List.length_drop]; omega, fun H12 s12 => ?_⟩
                · rw [cut1] at s11
                  rw [cut1, List.map_drop]
                  exact (tD10.same s11).drop 1
                rw [decide_eq_false (fun z => by have := congrArg List.length z.2; rw [List.length_drop] at this; omega)]
                refine ⟨_, _, rfl, rfl, _, rfl, iteNS rfl ?_⟩
                have s912 := s911.trans s12
                refine ⟨_, rfl, rfl, _, rfl, ?_⟩
                by_cases h1 : ((Uk.F (items rs)).p.length : Int) = 1
                · refine iteD (congrArg V.int h1) ?_
                  exact q _ (s09.trans (SameBut.of s912))
                · refine iteND (fun z => h1 (V.int.inj z)) ?_
                  refine ⟨_, rfl, _, rfl, D, xD, rfl, SqL.of (s912 _ _ eD), fun r nr => ?_⟩
                  have s13 : Same H12 (upd H12 r (.lst xD.reverse)) := same_upd nr
                  have s913 := s912.trans s13
                  refine ⟨p, r, rs, (Uk.F (items rs)).p.reverse, rfl, lt9p.same s913, ok, ⟨_, upd_same, ?_⟩, fun x hx => hpos x (List.mem_reverse.mp hx), by rw [List.length_reverse]; omega, fun H14 s14 => ?_⟩
                  · rw [List.map_reverse]
                    exact (tD.same s913).rev
                  rw [decide_eq_false (fun z => rev_ne (by omega) z.2)]
                  refine ⟨_, _, rfl, rfl, ?_⟩
                  exact blD rfl (q _ (s09.trans (SameBut.of (s913.trans s14))))
  exact ⟨⟨fd, G, F.bindsN (fun _ _ _ _ _ _ us hl => match us, hl with | [_], _ => rfl)⟩, F.kp, T.g_law_holds⟩
theorem ok_law (T : Tx K mg) {fd : FuncData} (F : FnP K "law" "law" s_law [] (He.fAd K ("law", none)) fd) : FnOk P w K mg base CX0 9 (He.fAd K ("law", none)) fd ["script"] (sp_law K) := by
  have D_law_holds := D_law_holds (P := P) (w := w) (base := base) T
  have D_law_stream := D_law_stream (P := P) (w := w) (base := base) T
  refine ok0 F sc_law (fun vs H Q E h => ?_) (fun cdv A outer s H vs Q E hr h => ?_)
  · obtain ⟨a, ns, rfl, _⟩ := h
    rfl
  · obtain ⟨a, ns, rfl, hS, hlen, q⟩ := h
    refine ⟨_, (pss_cons (ps_set (i := 1) sc_law.nd rfl (.inl rfl) (pe_slice sl_list (pe_op op_cat (pe_slice sl_list (pv 0) po_none (po_some pe_int)) (pe_lst (pa_cons pe_int pa_nil))) po_none (po_some (pe_callB (call_max2 rfl) (by rfl) T.m_max (by decide +kernel) (pa_cons pe_int (pa_cons (pe_callB (call_min2 rfl) (by rfl) T.m_min (by decide +kernel) (pa_cons pe_int (pa_cons (pe_callB call_len_seq (by rfl) T.m_len (by decide +kernel) (pa_cons (pv 0) pa_nil)) pa_nil))) pa_nil))))))
      (pss_one (ps_ret (pe_cmpR (op_eqD hr.units) (pe_lc (own := [("k", 2), ("cell", 3)]) (g := gTup K 2 (gCons (gName 2) (gCons (gName 3) (gNil)))) (tt := _) rfl sc_law.nd (pi_enum (by rfl) T.m_enumerate (pa_cons (pv 1) pa_nil)) (blkOk_by (own := [("k", 2), ("cell", 3)]) (N := sl_law) (sc := defScope s_law) (by decide +kernel)) (fun _ _ _ _ _ => (pg_tup rfl (pgs_cons (pg_name (i := 2) sc_law.nd rfl (.inl rfl)) (pgs_cons (pg_name (i := 3) sc_law.nd rfl (.inl rfl)) pgs_nil)))) (fun _ _ _ _ _ => pts_one (pt_not (pt_val (pe_dn D_law_holds (hr.mono (by decide)) (by rfl) (pa_cons (pe_dn D_law_stream (hr.mono (by decide)) (by rfl) (pa_cons (pv 3) (pa_cons (pv 2) pa_nil))) pa_nil))))) (fun _ _ _ _ _ => (pv 2))) (pe_lst pa_nil) (nomark _))))), ?_⟩
    refine ⟨_, rfl, 6, rfl, a, _, rfl, hS, fun c1 n1 => ?_⟩
    obtain ⟨zs1, ez1, hz1⟩ := cut_ints ns none (some 6)
    rw [ez1]
    have sA : Same H (upd H c1 (.lst (zs1.map V.int))) := same_upd n1
    refine ⟨(by show 1 ≤ sizeLine; decide), fun c2 n2 => ?_⟩
    have n12 : c1 ≠ c2 := fun z => by rw [← z, upd_same] at n2; cases n2
    refine ⟨c1, c2, _, _, rfl, rfl, (upd_ne n12).trans upd_same, upd_same, size_le (by rw [List.length_map]; show zs1.length + 1 ≤ _; omega), fun c3 n3 => ?_⟩
    have sC := (sA.new (o := .lst [.int 0]) n2).new (o := .lst (zs1.map V.int ++ [.int 0])) n3
    refine ⟨_, rfl, a, _, rfl, .inl (sC.seq hS), 6, _, rfl, 1, _, rfl, _, rfl, c3, _, rfl, SqL.of upd_same, fun c4 n4 => ?_⟩
    have e3 : (zs1.map V.int ++ [V.int 0]) = (zs1 ++ [0]).map V.int := by rw [List.map_append]; rfl
    rw [e3]
    obtain ⟨zs, ez, hz⟩ := cut_ints (zs1 ++ [0]) none (some (if (if ((ns.map V.int).length : Int) < 6 then ((ns.map V.int).length : Int) else 6) > 1 then (if ((ns.map V.int).length : Int) < 6 then ((ns.map V.int).length : Int) else 6) else 1))
    rw [ez]
    have hz2 : zs.length ≤ 100 := by
      rw [List.length_append, List.length_singleton] at hz
      omega
    generalize hH4 : upd (upd (upd (upd H c1 (.lst (zs1.map V.int))) c2 (.lst [.int 0])) c3 (.lst ((zs1 ++ [0]).map V.int))) c4 (.lst (zs.map V.int)) = H4
    have e4 : H4 c4 = some (.lst (zs.map V.int)) := by
      rw [← hH4]
      exact upd_same
    refine ⟨_, rfl, c4, _, rfl, SqL.of e4, fun D nD => ?_⟩
    refine ⟨fun i m H' => m = zs.length - i ∧ i ≤ zs.length ∧ Same H4 H' ∧ H' D = some (.lst []), ⟨zs.length, by simp, Nat.zero_le _, same_upd nD, upd_same⟩, ?_⟩
    rintro i m H' ⟨rfl, hi, s5, eD⟩
    have e5 := s5 _ _ e4
    by_cases hlt : i < zs.length
    · refine .inr ⟨⟨zs.map V.int, .int zs[i], SqL.of e5, by rw [List.getElem?_map, List.getElem?_eq_getElem hlt]; rfl⟩, fun H6 => Same H4 H6 ∧ H6 D = some (.lst []), fun H6 h => ⟨zs.length - (i + 1), by omega, rfl, hlt, h⟩, fun x H6 hy => ?_⟩
      obtain ⟨t, v, rfl, nt, rfl, fv⟩ := hy
      have ev := fv _ (SqL.of e5)
      rw [List.getElem?_map, List.getElem?_eq_getElem hlt] at ev
      have ev := Option.some.inj ev
      subst ev
      have s6 : Same H4 (upd H' t (.tup [.int (i : Nat), .int zs[i]])) := s5.new nt
      have eD6 := (same_upd (o := .tup [.int (i : Nat), .int zs[i]]) nt) _ _ eD
      refine ⟨t, _, rfl, SqT.of upd_same, rfl, _, _, rfl, _, [], rfl, rfl, rfl, ?_⟩
      refine ⟨_, rfl, _, rfl, zs[i], (i : Int), rfl, fun H7 p s7 np sp => ?_⟩
      refine ⟨p, rfl, sp, fun H8 s8 => ⟨_, rfl, iteF ?_⟩⟩
      have keep : ∀ b o, (upd H' t (.tup [.int (i : Nat), .int zs[i]])) b = some o → H8 b = some o := fun b o e => s8 b o (ne_of_none e np) (s7 _ _ e)
      exact ⟨fun b o e => keep b o (s6 _ _ e), keep _ _ eD6⟩
    · have e2 : i = zs.length := by omega
      subst e2
      refine .inl ⟨⟨_, SqL.of e5, by rw [List.length_map]; exact Nat.le_refl _⟩, ?_⟩
      refine ⟨Nat.zero_le _, fun o no => ?_⟩
      have s6 : Same H' (upd H' o (.lst [])) := same_upd no
      refine ⟨_, _, dp_nil (s6 _ _ eD), dp_nil upd_same, sh_nil, sh_nil, ?_⟩
      have := eqv_nil pP []
      rw [List.map_nil] at this
      rw [this]
      exact q _
end
end Uk
namespace Uk
open PySem PySem.Spec PyProof.Rows L2
def loose1 : List Str := ["PairError", "InvalidSequence", "InvalidState", "InvalidPosition", "InvalidNumber", "LETTERS", "MAX_LETTERS", "MAX_RUNS", "MAX_COUNT", "MAX_ITEMS", "is_integer", "is_listed", "is_kind", "is_run", "is_sequence", "is_state", "check_state", "check_sequence", "checked_runs", "length_of", "check_position", "part_by", "kind_at", "own_state", "checked_state"]
def loose2 : List Str := ["after_run", "after_runs", "state_at", "Queue", "queue_after", "ranges_of", "waiting_at", "pairs_by", "number_of", "partner_of", "pair_count", "pairs_of", "nth_pair", "longest_wait", "is_pair", "is_pairing", "_law_stream", "_law_draw", "_law_sequence", "_law_state", "_law_scale", "_law_length", "_law_covered", "_law_pair_holds", "_law_holds"]
def loose : List Str := loose1 ++ loose2
abbrev R : PySem.W.OpenRow := PySem.W.OpenLaw.row PySem.Challenge.rw_unlikepairs_k61_whole_pairs_cover_everyt
abbrev hk : PySem.W.Hook := He.hookD 4 fa fn
def ob (s : PySem.W.SharedT) : He.AlD := He.obsDG 4 fa fn (HandSHeadRun.getT s)
theorem ob_eq (s : PySem.W.SharedT) : ob s = hk.obs s.abs := He.obsDG_eq (HandSHeadRun.getT_eq s)
theorem run (w : World) : HandSHeadRun.RunEq R (PySem.W.view R.prog [55]) hk ob 4000 loose w := by
  intro os
  kernel_rfl
end Uk
/-! The end: the head's facts, the law's promise. -/
namespace Uk
open PySem PySem.Spec PyProof.Rows L2
theorem facts {P : Program} {w : World} {K : PySem.W.Frag} {h : Heap} {mg : Str → Option Value} {f : Addr} (X : K.In h) (G : h.Ns mainGlobals mg) (hfa : mg ("law" : Str) = some (.ref f)) (c : He.SaysD fa fn K) :
    ∃ fd : FuncData, (∀ (s : Shared) (v : Value), BindsTo s fd ⟨[v], []⟩ [("script", v)]) ∧ ∀ base : Heap, K.In base → base.Ns mainGlobals mg → FnOk P w K mg base CX0 9 f fd ["script"] (sp_law K) := by
  have T : Tx K mg := ⟨c, h, X, G⟩
  obtain ⟨fd, F⟩ := T.f_law
  have e := hfa.symm.trans T.g_law
  cases e
  have b := FunD.bindsA (ps := ["script"]) F fun _ _ _ _ _ _ us hl => match us, hl with | [_], _ => rfl
  exact ⟨fd, fun s v => b s [v] rfl, fun base _ _ => ok_law T F⟩
abbrev RL : PySem.W.OpenLaw := PySem.Challenge.rw_unlikepairs_k61_whole_pairs_cover_everyt
end Uk
open PySem PySem.W PySem.Calls PyProof.Rows
theorem PySem.Challenge.cw_unlikepairs_k61_whole_pairs_cover_everyt_holds : PySem.Challenge.rw_unlikepairs_k61_whole_pairs_cover_everyt.Holds := by
  w_on; o_law
  refine HandSHeadRun.head_any (r := OpenLaw.row Uk.RL) (q := view (OpenLaw.row Uk.RL).prog [55]) (H := Uk.hk) (ob := Uk.ob) (M := 4000) (loose := Uk.loose) (d := HandSHeadRun.topDef (OpenLaw.row Uk.RL).prog 55) (kwd := []) Uk.ob_eq
    (by kernel_rfl) (fun s => by kernel_rfl) Uk.run (by kernel_rfl) (by kernel_rfl) (by kernel_rfl) (by rfl) (by first | assumption | decide +kernel) (by decide +kernel) ⟨rfl, rfl, rfl, rfl, rfl, by decide +kernel⟩ ?hw ?hc
  case hw => w_witness2
  case hc =>
    refine L2.walk_ofE (l := Uk.RL) (n := 63) (k := 9) (x := "script") (CX := L2.CX0) rfl (by decide) (by kernel_rfl) ⟨rfl, by decide, by decide⟩ ?F (fun _ _ _ _ z => z)
    intro w mg fa h Y G hmg0
    obtain ⟨K, KX, c⟩ := Y
    have hmg : mg ("law" : PySem.Str) = some (.ref fa) := by
      have e : (HandSHeadRun.topDef (OpenLaw.row Uk.RL).prog 55).name = ("law" : PySem.Str) := by kernel_rfl
      rw [← e]
      exact hmg0
    obtain ⟨fd, hb, hF⟩ := Uk.facts (P := (Uk.RL).prog) (w := w) KX G hmg c
    exact ⟨K, fd, Uk.sp_law K, KX, hb, fun H a ns hl hO hS => ⟨a, ns, rfl, hS, hl, fun _ => rfl⟩, hF⟩
