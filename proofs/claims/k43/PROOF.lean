import PyProof.Rows.All
import Wide.All
import OpenK.AllK
import Wide.FinOn
import HandS.ForMost
import HandS.ForExc
import HandS.Lambda
import HandS.TupAny
import HandS.IsInst
import KE.KeyNested
import KE.KDictKeyed
import HandS.Zip
import HandS.Wide
import HandS.Dict
import HandS.Conv
import KE.KDictDisplayH
import HandS.Keys
import KE.SortKeyHeap
import KE.KSortKey
import HandS.ExcInit
import HandS.ExcSuper
import KE.KSuper
import KE.KExcSuper
import HandS.TryMany
import HandS.CallLocal
import HandS.ExcField
import HandS.Style
import KE.KStateDown
import KE.KNestM
import HandS.Head0
import HandS.Head1
import HandS.Head2
import HandS.HeadEnd
import HandS.HeadHook1
import HandS.HeadHook2
import HandS.HeadHook3
import HandS.HeadHook4
import HandS.HeadWalk
import PySem.Challenge.RW_eightworlds_k43_whole_chains_between_tre
set_option Elab.async false
set_option linter.all false
set_option maxRecDepth 100000
set_option maxHeartbeats 4000000

namespace K43
/-- a tree: no fork, or a fork with two branches -/
inductive T where
  | l
  | n (a b : T)
namespace T
def sz : T → Nat
  | l => 0
  | n a b => a.sz + b.sz + 1
def beq : T → T → Bool
  | l, l => true
  | n a b, n c d => a.beq c && b.beq d
  | l, n _ _ => false
  | n _ _, l => false
theorem beq_iff : ∀ {a b : T}, a.beq b = true ↔ a = b
  | l, l => by simp [beq]
  | l, n _ _ => by simp [beq]
  | n _ _, l => by simp [beq]
  | n a b, n c d => by simp [beq, beq_iff (a := a) (b := c), beq_iff (a := b) (b := d)]
instance : DecidableEq T := fun a b => if h : a.beq b = true then isTrue (beq_iff.mp h) else isFalse fun e => h (beq_iff.mpr e)
/-- the reaches -/
def rch : T → List Nat
  | l => []
  | n a b => a.rch ++ (b.sz :: b.rch)
/-- the sum of the right branches' forks -/
def ds : T → Nat
  | l => 0
  | n a b => a.ds + b.sz + b.ds
/-- the forks that can be turned -/
def ct : T → Nat → List Nat
  | l, _ => []
  | n a b, f => a.ct f ++ ((match a with | l => [] | n _ _ => [f + a.sz]) ++ b.ct (f + a.sz + 1))
/-- a fork turned -/
def tu : T → Nat → T
  | l, _ => l
  | n a b, k => if k < a.sz then n (a.tu k) b else if a.sz < k then n a (b.tu (k - a.sz - 1)) else match a with | l => l | n x y => n x (n y b)
/-- it can be turned -/
def ok : T → Nat → Bool
  | l, _ => false
  | n a b, k => if k < a.sz then a.ok k else if a.sz < k then b.ok (k - a.sz - 1) else match a with | l => false | n _ _ => true
/-- all turnings, as the law has them -/
def ups : T → Nat → List (Nat × T)
  | l, _ => []
  | n a b, f => (a.ups f).map (fun p => (p.1, n p.2 b)) ++ ((match a with | l => [] | n x y => [(f + a.sz, n x (n y b))]) ++ (b.ups (f + a.sz + 1)).map (fun p => (p.1, n a p.2)))
end T
def leAll : List Nat → List Nat → Bool
  | x :: xs, y :: ys => decide (x ≤ y) && leAll xs ys
  | [], _ => true
  | _ :: _, [] => true
def below (a b : T) : Bool := leAll a.rch b.rch
/-- all trees of n forks (n below the fuel) -/
def every : Nat → Nat → List T
  | 0, _ => []
  | _ + 1, 0 => [.l]
  | f + 1, n + 1 => (List.range (n + 1)).flatMap fun i => (every f i).flatMap fun a => (every f (n - i)).map fun b => .n a b
/-- a list sorted by a key, equal ones as they stood -/
def ins (k : T → Nat) (x : T) : List T → List T
  | [] => [x]
  | y :: r => if k x ≤ k y then x :: y :: r else y :: ins k x r
def isort (k : T → Nat) : List T → List T
  | [] => []
  | x :: r => ins k x (isort k r)
/-- the search by levels -/
def seenB (s : List T) (u : T) : Bool := s.any fun v => u.beq v
def put1 (o : T) (p : List T × List T) (u : T) : List T × List T := if !seenB p.1 u && below u o then (p.1 ++ [u], p.2 ++ [u]) else p
def turns (t : T) : List T := (t.ct 0).map t.tu
def put2 (o : T) (p : List T × List T) (t : T) : List T × List T := (turns t).foldl (put1 o) p
def level (o : T) (p : List T × List T) : List T × List T := p.2.foldl (put2 o) (p.1, [])
def levels (o : T) : Nat → List T × List T → List T × List T
  | 0, p => p
  | k + 1, p => match p.2 with | [] => p | _ :: _ => levels o k (level o p)
def found (a o : T) : List T × List T := levels o 12 ([a], [a])
def passed (a o : T) : List T := isort T.ds (found a o).1
/-- the ranks -/
abbrev N3 := Nat × Nat × Nat
def look (t : T) : List (T × N3) → Option N3
  | [] => none
  | p :: r => if p.1.beq t then some p.2 else look t r
def putR (t : T) (v : N3) : List (T × N3) → List (T × N3)
  | [] => [(t, v)]
  | p :: r => if p.1.beq t then (p.1, v) :: r else p :: putR t v r
def rank1 (o : T) (w : N3) (acc : List (T × N3)) (u : T) : List (T × N3) :=
  if below u o then
    let g := (look u acc).getD (0, w.2.1 + 1, 0)
    putR u (max g.1 (w.1 + 1), min g.2.1 (w.2.1 + 1), g.2.2 + w.2.2) acc
  else acc
def rank2 (o : T) (acc : List (T × N3)) (t : T) : Option (List (T × N3)) :=
  (look t acc).map fun w => (turns t).foldl (rank1 o w) acc
def rankL (o : T) : List T → List (T × N3) → Option (List (T × N3))
  | [], acc => some acc
  | t :: r, acc => match rank2 o acc t with | none => none | some acc' => rankL o r acc'
def ranks (a o : T) : Option (List (T × N3)) := rankL o (passed a o) [(a, 0, 0, 1)]
/-- the law's ways -/
def maxL : List Nat → Nat
  | [] => 0
  | [x] => x
  | x :: y :: r => max x (maxL (y :: r))
def minL : List Nat → Nat
  | [] => 0
  | [x] => x
  | x :: y :: r => min x (minL (y :: r))
def join3 (l : List N3) : Option N3 := match l with | [] => none | _ :: _ => some (1 + maxL (l.map (·.1)), 1 + minL (l.map (·.2.1)), (l.map (·.2.2)).sum)
def ways : Nat → T → T → Option N3
  | 0, _, _ => none
  | f + 1, o, a => if a.beq o then some (0, 0, 1) else join3 (((a.ups 0).map fun p => ways f o p.2).filterMap id)
/-- the numbers of trees -/
def cat : Nat → Nat
  | 0 => 1
  | k + 1 => cat k * 2 * (2 * k + 1) / (k + 2)
def num : T → Nat
  | .l => 0
  | .n a b => ((List.range a.sz).map fun i => cat i * cat (a.sz + b.sz - i)).sum + num a * cat b.sz + num b
def between (a o : T) : List T := isort num (passed a o)
def eqL : List T → List T → Bool
  | [], [] => true
  | a :: r, b :: q => a.beq b && eqL r q
  | [], _ :: _ => false
  | _ :: _, [] => false
/-- what the law asks of a pair, and what the walk needs -/
def good (es : List T) (a o : T) : Bool :=
  match ways 30 o a with
  | none => !below a o
  | some w => below a o && (found a o).2.isEmpty && decide ((found a o).1.length ≤ 42) && (match ranks a o with | none => false | some acc => decide (look o acc = some w)) && eqL (between a o) (es.filter fun t => below a t && below t o)
def goods (n : Nat) : Bool := (every 6 n).all fun a => (every 6 n).all fun o => good (every 6 n) a o
theorem good3 : goods 3 = true := by decide +kernel
theorem good4 : goods 4 = true := by decide +kernel
theorem good5 : goods 5 = true := by decide +kernel
end K43

/-! M2: plain facts of trees. -/
namespace K43
theorem tu_n (a b : T) (k : Nat) : (T.n a b).tu k = if k < a.sz then T.n (a.tu k) b else if a.sz < k then T.n a (b.tu (k - a.sz - 1)) else match a with | .l => .l | .n x1 x2 => .n x1 (.n x2 b) := by cases a <;> rfl
theorem ok_n (a b : T) (k : Nat) : (T.n a b).ok k = if k < a.sz then a.ok k else if a.sz < k then b.ok (k - a.sz - 1) else match a with | .l => false | .n _ _ => true := by cases a <;> rfl
theorem tu_sz : ∀ (t : T) (k : Nat), t.ok k = true → (t.tu k).sz = t.sz
  | .l, _, h => by cases h
  | .n a b, k, h => by
    rw [ok_n] at h
    rw [tu_n]
    by_cases c : k < a.sz
    · rw [if_pos c] at h ⊢
      show (a.tu k).sz + b.sz + 1 = a.sz + b.sz + 1
      rw [tu_sz a k h]
    · rw [if_neg c] at h ⊢
      by_cases c2 : a.sz < k
      · rw [if_pos c2] at h ⊢
        show a.sz + (b.tu _).sz + 1 = a.sz + b.sz + 1
        rw [tu_sz b _ h]
      · rw [if_neg c2] at h ⊢
        cases a with
        | l => cases h
        | n x y =>
          show x.sz + (y.sz + b.sz + 1) + 1 = x.sz + y.sz + 1 + b.sz + 1
          omega
def midC' (a : T) (f : Nat) : List Nat := match a with | .l => [] | .n _ _ => [f + a.sz]
theorem ct_n' (a b : T) (f : Nat) : (T.n a b).ct f = a.ct f ++ (midC' a f ++ b.ct (f + a.sz + 1)) := by cases a <;> rfl
theorem ok_lt : ∀ (t : T) (k : Nat), t.ok k = true → k < t.sz
  | .l, _, h => by cases h
  | .n a b, k, h => by
    rw [ok_n] at h
    show k < a.sz + b.sz + 1
    by_cases c : k < a.sz
    · omega
    · rw [if_neg c] at h
      by_cases c2 : a.sz < k
      · rw [if_pos c2] at h
        have := ok_lt b _ h
        omega
      · omega
theorem ct_ok : ∀ (t : T) (f k : Nat), k ∈ t.ct f → f ≤ k ∧ t.ok (k - f) = true
  | .l, _, _, h => nomatch h
  | .n a b, f, k, h => by
    rw [ct_n'] at h
    rw [ok_n]
    rcases List.mem_append.mp h with h | h
    · obtain ⟨h1, h2⟩ := ct_ok a f k h
      have := ok_lt a _ h2
      rw [if_pos (by omega)]
      exact ⟨h1, h2⟩
    rcases List.mem_append.mp h with h | h
    · cases a with
      | l => cases h
      | n x y =>
        have e : k = f + (T.n x y).sz := List.mem_singleton.mp h
        refine ⟨by omega, ?_⟩
        rw [if_neg (by omega), if_neg (by omega)]
    · obtain ⟨h1, h2⟩ := ct_ok b _ k h
      refine ⟨by omega, ?_⟩
      rw [if_neg (by omega), if_pos (by omega)]
      have e : k - f - a.sz - 1 = k - (f + a.sz + 1) := by omega
      rw [e]
      exact h2
theorem turns_sz {t u : T} (h : u ∈ turns t) : u.sz = t.sz := by
  obtain ⟨k, hk, rfl⟩ := List.mem_map.mp h
  exact tu_sz t k (by have := (ct_ok t 0 k hk).2; simpa using this)
/-! ### the search -/
theorem put1_len (o : T) (p : List T × List T) (u : T) : p.1.length ≤ (put1 o p u).1.length := by
  unfold put1
  split <;> simp
theorem fold1_len (o : T) : ∀ (us : List T) (p : List T × List T), p.1.length ≤ (us.foldl (put1 o) p).1.length
  | [], _ => Nat.le_refl _
  | u :: us, p => Nat.le_trans (put1_len o p u) (fold1_len o us (put1 o p u))
theorem put2_len (o : T) (p : List T × List T) (t : T) : p.1.length ≤ (put2 o p t).1.length := fold1_len o _ p
theorem fold2_len (o : T) : ∀ (us : List T) (p : List T × List T), p.1.length ≤ (us.foldl (put2 o) p).1.length
  | [], _ => Nat.le_refl _
  | u :: us, p => Nat.le_trans (put2_len o p u) (fold2_len o us (put2 o p u))
theorem level_len (o : T) (p : List T × List T) : p.1.length ≤ (level o p).1.length := fold2_len o p.2 (p.1, [])
theorem levels_len (o : T) : ∀ (k : Nat) (p : List T × List T), p.1.length ≤ (levels o k p).1.length
  | 0, _ => Nat.le_refl _
  | k + 1, p => by
    unfold levels
    split
    · exact Nat.le_refl _
    · exact Nat.le_trans (level_len o p) (levels_len o k (level o p))
theorem put1_mem {o u w : T} {p : List T × List T} (h : w ∈ (put1 o p u).1) : w ∈ p.1 ∨ w = u := by
  unfold put1 at h
  split at h
  · rcases List.mem_append.mp h with h | h
    · exact .inl h
    · exact .inr (List.mem_singleton.mp h)
  · exact .inl h
theorem fold1_sz (o : T) (n : Nat) : ∀ (us : List T) (p : List T × List T), (∀ u ∈ us, u.sz = n) → (∀ t ∈ p.1, t.sz = n) ∧ (∀ t ∈ p.2, t.sz = n) → (∀ t ∈ (us.foldl (put1 o) p).1, t.sz = n) ∧ ∀ t ∈ (us.foldl (put1 o) p).2, t.sz = n
  | [], _, _, h => h
  | u :: us, p, hu, h => by
    refine fold1_sz o n us (put1 o p u) (fun v m => hu v (List.mem_cons_of_mem _ m)) ?_
    have hz := hu u (List.mem_cons_self ..)
    unfold put1
    split
    · refine ⟨fun t m => ?_, fun t m => ?_⟩
      · rcases List.mem_append.mp m with m | m
        · exact h.1 t m
        · rw [List.mem_singleton.mp m]; exact hz
      · rcases List.mem_append.mp m with m | m
        · exact h.2 t m
        · rw [List.mem_singleton.mp m]; exact hz
    · exact h
theorem fold2_sz (o : T) (n : Nat) : ∀ (us : List T) (p : List T × List T), (∀ u ∈ us, u.sz = n) → (∀ t ∈ p.1, t.sz = n) ∧ (∀ t ∈ p.2, t.sz = n) → (∀ t ∈ (us.foldl (put2 o) p).1, t.sz = n) ∧ ∀ t ∈ (us.foldl (put2 o) p).2, t.sz = n
  | [], _, _, h => h
  | u :: us, p, hu, h => fold2_sz o n us (put2 o p u) (fun v m => hu v (List.mem_cons_of_mem _ m)) (fold1_sz o n _ p (fun v m => (turns_sz m).trans (hu u (List.mem_cons_self ..))) h)
theorem levels_sz (o : T) (n : Nat) : ∀ (k : Nat) (p : List T × List T), (∀ t ∈ p.1, t.sz = n) ∧ (∀ t ∈ p.2, t.sz = n) → (∀ t ∈ (levels o k p).1, t.sz = n) ∧ ∀ t ∈ (levels o k p).2, t.sz = n
  | 0, _, h => h
  | k + 1, p, h => by
    unfold levels
    split
    · exact h
    · exact levels_sz o n k (level o p) (fold2_sz o n p.2 (p.1, []) h.2 ⟨h.1, fun t m => (nomatch m)⟩)
theorem found_sz (a o : T) : ∀ t ∈ (found a o).1, t.sz = a.sz :=
  (levels_sz o a.sz 12 ([a], [a]) ⟨fun t m => by rw [List.mem_singleton.mp m], fun t m => by rw [List.mem_singleton.mp m]⟩).1
/-- what the walk of a pair needs, where the one is below the other one -/
def pre (a o : T) : Prop := below a o = true → (found a o).2 = [] ∧ (found a o).1.length ≤ 42 ∧ ∃ acc, ranks a o = some acc ∧ ∃ w, look o acc = some w
theorem eqL_iff : ∀ a b : List T, eqL a b = true ↔ a = b
  | [], [] => by simp [eqL]
  | [], _ :: _ => by simp [eqL]
  | _ :: _, [] => by simp [eqL]
  | a :: r, b :: q => by simp [eqL, T.beq_iff, eqL_iff r q]
theorem good_pre {es : List T} {a o : T} (h : good es a o = true) : pre a o := fun hb => by
  unfold good at h
  cases e : ways 30 o a with
  | none => rw [e] at h; simp [hb] at h
  | some w =>
    rw [e] at h
    simp only [Bool.and_eq_true] at h
    obtain ⟨⟨⟨⟨h1, h2⟩, h3⟩, h4⟩, h5⟩ := h
    refine ⟨List.isEmpty_iff.mp h2, of_decide_eq_true h3, ?_⟩
    cases e2 : ranks a o with
    | none => rw [e2] at h4; cases h4
    | some acc => rw [e2] at h4; exact ⟨acc, rfl, w, of_decide_eq_true h4⟩
theorem good_some {es : List T} {a o : T} {w : N3} (h : good es a o = true) (e : ways 30 o a = some w) : below a o = true ∧ (∀ acc, ranks a o = some acc → look o acc = some w) ∧ between a o = es.filter fun t => below a t && below t o := by
  unfold good at h
  rw [e] at h
  simp only [Bool.and_eq_true] at h
  obtain ⟨⟨⟨⟨h1, h2⟩, h3⟩, h4⟩, h5⟩ := h
  refine ⟨h1, fun acc ea => ?_, (eqL_iff _ _).mp h5⟩
  rw [ea] at h4
  exact of_decide_eq_true h4
theorem good_none {es : List T} {a o : T} (h : good es a o = true) (e : ways 30 o a = none) : below a o = false := by
  unfold good at h
  rw [e] at h
  simpa using h
/-! ### all turnings -/
theorem ups_n (a b : T) (f : Nat) : (T.n a b).ups f = (a.ups f).map (fun p => (p.1, T.n p.2 b)) ++ ((match a with | .l => [] | .n x y => [(f + a.sz, T.n x (T.n y b))]) ++ (b.ups (f + a.sz + 1)).map (fun p => (p.1, T.n a p.2))) := by cases a <;> rfl
theorem ups_up : ∀ (t : T) (f : Nat) (p : Nat × T), p ∈ t.ups f → p.2.sz = t.sz ∧ t.ds < p.2.ds
  | .l, _, _, h => nomatch h
  | .n a b, f, p, h => by
    rw [ups_n] at h
    rcases List.mem_append.mp h with h | h
    · obtain ⟨q, hq, rfl⟩ := List.mem_map.mp h
      obtain ⟨h1, h2⟩ := ups_up a f q hq
      exact ⟨by show q.2.sz + b.sz + 1 = a.sz + b.sz + 1; omega, by show a.ds + b.sz + b.ds < q.2.ds + b.sz + b.ds; omega⟩
    rcases List.mem_append.mp h with h | h
    · cases a with
      | l => cases h
      | n x y =>
        have e := List.mem_singleton.mp h
        subst e
        exact ⟨by show x.sz + (y.sz + b.sz + 1) + 1 = x.sz + y.sz + 1 + b.sz + 1; omega, by show x.ds + y.sz + y.ds + b.sz + b.ds < x.ds + (y.sz + b.sz + 1) + (y.ds + b.sz + b.ds); omega⟩
    · obtain ⟨q, hq, rfl⟩ := List.mem_map.mp h
      obtain ⟨h1, h2⟩ := ups_up b _ q hq
      exact ⟨by show a.sz + q.2.sz + 1 = a.sz + b.sz + 1; omega, by show a.ds + b.sz + b.ds < a.ds + q.2.sz + q.2.ds; omega⟩
theorem ups_len : ∀ (t : T) (f : Nat), (t.ups f).length ≤ t.sz
  | .l, _ => Nat.le_refl _
  | .n a b, f => by
    have h1 := ups_len a f
    have h2 := ups_len b (f + a.sz + 1)
    rw [ups_n, List.length_append, List.length_append, List.length_map, List.length_map]
    show (a.ups f).length + (_ + (b.ups (f + a.sz + 1)).length) ≤ a.sz + b.sz + 1
    cases a with
    | l => simp only [List.length_nil]; omega
    | n x y => simp only [List.length_singleton]; omega
theorem ds_le : ∀ t : T, t.sz ≤ 5 → t.ds ≤ 5 * t.sz
  | .l, _ => Nat.le_refl _
  | .n a b, h => by
    have h' : a.sz + b.sz + 1 ≤ 5 := h
    have h1 := ds_le a (by omega)
    have h2 := ds_le b (by omega)
    show a.ds + b.sz + b.ds ≤ 5 * (a.sz + b.sz + 1)
    omega
theorem ways_stable (o : T) : ∀ (f g : Nat) (t : T), t.sz ≤ 5 → 25 - t.ds < f → 25 - t.ds < g → ways f o t = ways g o t
  | 0, _, _, _, h, _ => absurd h (Nat.not_lt_zero _)
  | _ + 1, 0, _, _, _, h => absurd h (Nat.not_lt_zero _)
  | f + 1, g + 1, t, hz, h1, h2 => by
    unfold ways
    have e : ((t.ups 0).map fun p => ways f o p.2) = (t.ups 0).map fun p => ways g o p.2 := by
      refine List.map_congr_left fun p hp => ?_
      obtain ⟨u1, u2⟩ := ups_up t 0 p hp
      have b := ds_le p.2 (by omega)
      exact ways_stable o f g p.2 (by omega) (by omega) (by omega)
    rw [e]
/-- the law's ways -/
def wv (o t : T) : Option N3 := ways 30 o t
theorem wv_eq (o : T) {t : T} (hz : t.sz ≤ 5) : wv o t = if t.beq o then some (0, 0, 1) else join3 (((t.ups 0).map fun p => wv o p.2).filterMap id) := by
  show ways 30 o t = _
  rw [ways_stable o 30 31 t hz (by omega) (by omega)]
  rfl
/-! ### all trees -/
theorem mem_every : ∀ (t : T) (f : Nat), t.sz < f → t ∈ every f t.sz
  | _, 0, h => absurd h (Nat.not_lt_zero _)
  | .l, f + 1, _ => List.mem_singleton.mpr rfl
  | .n a b, f + 1, h => by
    have h' : a.sz + b.sz + 1 < f + 1 := h
    show T.n a b ∈ (List.range (a.sz + b.sz + 1)).flatMap fun i => (every f i).flatMap fun a' => (every f (a.sz + b.sz - i)).map fun b' => .n a' b'
    refine List.mem_flatMap.mpr ⟨a.sz, List.mem_range.mpr (by omega), List.mem_flatMap.mpr ⟨a, mem_every a f (by omega), List.mem_map.mpr ⟨b, ?_, rfl⟩⟩⟩
    have e : a.sz + b.sz - a.sz = b.sz := by omega
    rw [e]
    exact mem_every b f (by omega)
theorem every_sz : ∀ (f n : Nat) (t : T), t ∈ every f n → t.sz = n
  | 0, _, _, h => nomatch h
  | f + 1, 0, t, h => by
    cases List.mem_singleton.mp h
    rfl
  | f + 1, n + 1, t, h => by
    obtain ⟨i, hi, h⟩ := List.mem_flatMap.mp h
    obtain ⟨a, ha, h⟩ := List.mem_flatMap.mp h
    obtain ⟨b, hb, rfl⟩ := List.mem_map.mp h
    have h1 := every_sz f i a ha
    have h2 := every_sz f _ b hb
    have h3 := List.mem_range.mp hi
    show a.sz + b.sz + 1 = n + 1
    omega
theorem good1 : goods 1 = true := by decide +kernel
theorem good2 : goods 2 = true := by decide +kernel
theorem good_of {n : Nat} {a o : T} (h1 : 1 ≤ n) (h5 : n ≤ 5) (ha : a.sz = n) (ho : o.sz = n) : good (every 6 n) a o = true := by
  have g : goods n = true := by
    have : n = 1 ∨ n = 2 ∨ n = 3 ∨ n = 4 ∨ n = 5 := by omega
    rcases this with rfl | rfl | rfl | rfl | rfl
    · exact good1
    · exact good2
    · exact good3
    · exact good4
    · exact good5
  unfold goods at g
  have ma := mem_every a 6 (by omega)
  have mo := mem_every o 6 (by omega)
  rw [ha] at ma
  rw [ho] at mo
  exact List.all_eq_true.mp (List.all_eq_true.mp g a ma) o mo
end K43

/-! M3: plain facts of all trees. -/
namespace K43
theorem every_fuel : ∀ (f g n : Nat), n < f → n < g → every f n = every g n
  | 0, _, _, h, _ => absurd h (Nat.not_lt_zero _)
  | _ + 1, 0, _, _, h => absurd h (Nat.not_lt_zero _)
  | f + 1, g + 1, 0, _, _ => rfl
  | f + 1, g + 1, n + 1, h1, h2 => by
    have e : ∀ i ∈ List.range (n + 1), ((every f i).flatMap fun a => (every f (n - i)).map fun b => T.n a b) = (every g i).flatMap fun a => (every g (n - i)).map fun b => T.n a b := fun i hi => by
      have := List.mem_range.mp hi
      rw [every_fuel f g i (by omega) (by omega), every_fuel f g (n - i) (by omega) (by omega)]
    show (List.range (n + 1)).flatMap _ = (List.range (n + 1)).flatMap _
    have go : ∀ (l : List Nat) (p q : Nat → List T), (∀ i ∈ l, p i = q i) → l.flatMap p = l.flatMap q := fun l p q h => by
      induction l with
      | nil => rfl
      | cons x r ih => rw [List.flatMap_cons, List.flatMap_cons, h x (List.mem_cons_self ..), ih fun i hi => h i (List.mem_cons_of_mem _ hi)]
    exact go _ _ _ e
abbrev ev (n : Nat) : List T := every 6 n
theorem ev_succ {n : Nat} (h : n + 1 ≤ 5) : ev (n + 1) = (List.range (n + 1)).flatMap fun i => (ev i).flatMap fun a => (ev (n - i)).map fun b => T.n a b := by
  show every 6 (n + 1) = _
  rw [every_fuel 6 7 (n + 1) (by omega) (by omega)]
  rfl
theorem ev_len : ∀ n, n ≤ 5 → (ev n).length ≤ 42 := by decide +kernel
theorem ev_sz {n : Nat} {t : T} (h : t ∈ ev n) : t.sz = n := every_sz 6 n t h
theorem ev_mem {t : T} (h : t.sz ≤ 5) : t ∈ ev t.sz := mem_every t 6 (by omega)
end K43

/-! M4: greatest, least; no tree twice. -/
namespace K43
theorem maxL_le : ∀ {l : List Nat} {x : Nat}, x ∈ l → x ≤ maxL l
  | [], _, h => nomatch h
  | [y], x, h => by rw [List.mem_singleton.mp h]; exact Nat.le_refl _
  | y :: z :: r, x, h => by
    show x ≤ max y (maxL (z :: r))
    rcases List.mem_cons.mp h with e | h
    · rw [e]; exact Nat.le_max_left _ _
    · exact Nat.le_trans (maxL_le h) (Nat.le_max_right _ _)
theorem maxL_mem : ∀ {l : List Nat}, l ≠ [] → maxL l ∈ l
  | [], h => absurd rfl h
  | [y], _ => List.mem_singleton.mpr rfl
  | y :: z :: r, _ => by
    have ih := maxL_mem (l := z :: r) (by simp)
    show max y (maxL (z :: r)) ∈ _
    by_cases c : y ≤ maxL (z :: r)
    · rw [Nat.max_eq_right c]; exact List.mem_cons_of_mem _ ih
    · rw [Nat.max_eq_left (by omega)]; exact List.mem_cons_self ..
theorem minL_le : ∀ {l : List Nat} {x : Nat}, x ∈ l → minL l ≤ x
  | [], _, h => nomatch h
  | [y], x, h => by rw [List.mem_singleton.mp h]; exact Nat.le_refl _
  | y :: z :: r, x, h => by
    show min y (minL (z :: r)) ≤ x
    rcases List.mem_cons.mp h with e | h
    · rw [e]; exact Nat.min_le_left _ _
    · exact Nat.le_trans (Nat.min_le_right _ _) (minL_le h)
theorem minL_mem : ∀ {l : List Nat}, l ≠ [] → minL l ∈ l
  | [], h => absurd rfl h
  | [y], _ => List.mem_singleton.mpr rfl
  | y :: z :: r, _ => by
    have ih := minL_mem (l := z :: r) (by simp)
    show min y (minL (z :: r)) ∈ _
    by_cases c : y ≤ minL (z :: r)
    · rw [Nat.min_eq_left c]; exact List.mem_cons_self ..
    · rw [Nat.min_eq_right (by omega)]; exact List.mem_cons_of_mem _ ih
theorem nodup_le : ∀ {l m : List T}, l.Nodup → (∀ x ∈ l, x ∈ m) → l.length ≤ m.length
  | [], _, _, _ => Nat.zero_le _
  | x :: r, m, hn, h => by
    have hx := h x (List.mem_cons_self ..)
    have hn' := List.nodup_cons.mp hn
    have ih := nodup_le (l := r) (m := m.erase x) hn'.2 fun y hy => by
      have ne : y ≠ x := fun e => hn'.1 (by rw [← e]; exact hy)
      exact (List.mem_erase_of_ne ne).mpr (h y (List.mem_cons_of_mem _ hy))
    rw [List.length_erase_of_mem hx] at ih
    have : 0 < m.length := List.length_pos_of_mem hx
    simp only [List.length_cons]
    omega
end K43

/-! B1: trees over the abstract heap; what stays. -/
namespace K43
open PySem L2

/-! ### a tree at a value -/
def TA (H : Hp) : T → V → Prop
  | .l, v => ∃ a, v = .ref a ∧ H a = some (.tup [])
  | .n x y, v => ∃ a u w, v = .ref a ∧ H a = some (.tup [u, w]) ∧ TA H x u ∧ TA H y w
theorem TA.rf {H : Hp} : ∀ {t : T} {v : V}, TA H t v → ∃ a xs, v = .ref a ∧ H a = some (.tup xs)
  | .l, _, ⟨a, e, h⟩ => ⟨a, _, e, h⟩
  | .n _ _, _, ⟨a, _, _, e, h, _⟩ => ⟨a, _, e, h⟩
theorem TA.tups {H H' : Hp} (k : ∀ b xs, H b = some (.tup xs) → H' b = some (.tup xs)) : ∀ {t : T} {v : V}, TA H t v → TA H' t v
  | .l, _, ⟨a, e, h⟩ => ⟨a, e, k _ _ h⟩
  | .n _ _, _, ⟨a, u, w, e, h, hx, hy⟩ => ⟨a, u, w, e, k _ _ h, TA.tups k hx, TA.tups k hy⟩
theorem TA.inj {H : Hp} : ∀ {s t : T} {v : V}, TA H s v → TA H t v → s = t
  | .l, .l, _, _, _ => rfl
  | .l, .n _ _, _, ⟨a, e, h⟩, ⟨b, u, w, e', h', _⟩ => by
    subst e; cases e'; rw [h] at h'; cases h'
  | .n _ _, .l, _, ⟨b, u, w, e', h', _⟩, ⟨a, e, h⟩ => by
    subst e; cases e'; rw [h] at h'; cases h'
  | .n _ _, .n _ _, _, ⟨a, u, w, e, h, hx, hy⟩, ⟨b, u', w', e', h', hx', hy'⟩ => by
    subst e; cases e'; rw [h] at h'; cases h'
    rw [TA.inj hx hx', TA.inj hy hy']

/-! ### objects that may be changed -/
/-- no tuple, no table, no code object -/
def Mu (o : HO) : Prop := (∀ xs, o ≠ .tup xs) ∧ (∀ ps, o ≠ .tbl ps) ∧ ∀ c q, o ≠ LamX.CodeO c q
theorem Mu.lst {xs : List V} : Mu (.lst xs) := by
  refine ⟨fun _ z => (by cases z), fun _ z => (by cases z), fun c q z => ?_⟩
  unfold LamX.CodeO at z
  cases z

/-- all but what stands at L stays; tuples stay wherever they are; the tables stay tables -/
structure Kp (Ts : List (Addr × Str)) (L : List Addr) (H H' : Hp) : Prop where
  keep : ∀ b o, H b = some o → b ∉ L → (∀ ps, o ≠ .tbl ps) → H' b = some o
  tup : ∀ b xs, H b = some (.tup xs) → H' b = some (.tup xs)
  tab : LamX.Tabs Ts H → LamX.Tabs Ts H'
  dm : ∀ b u, H b = some u → (∀ ps, u ≠ .tbl ps) → ∃ u', H' b = some u' ∧ ∀ ps, u' ≠ .tbl ps
/-- nothing there but maybe a table -/
def NT (H : Hp) (p : Addr) : Prop := ∀ u, H p = some u → ∃ ps, u = .tbl ps
theorem NT.of {H : Hp} {p : Addr} (h : H p = none) : NT H p := fun u e => by rw [h] at e; cases e
theorem Kp.dom {Ts : List (Addr × Str)} {L : List Addr} {H H' : Hp} (k : Kp Ts L H H') (b : Addr) (h : H' b = none) : NT H b := fun u e => Classical.byContradiction fun z => by
  obtain ⟨u', e', _⟩ := k.dm b u e fun ps q => z ⟨ps, q⟩
  rw [h] at e'; cases e'
section
variable {Ts : List (Addr × Str)} {L L' : List Addr} {H H1 H2 H' : Hp} {p d : Addr} {o : HO} {t : T} {v : V}
theorem Kp.refl : Kp Ts L H H := ⟨fun _ _ h _ _ => h, fun _ _ h => h, fun h => h, fun _ u h n => ⟨u, h, n⟩⟩
theorem Kp.trans (a : Kp Ts L H H1) (b : Kp Ts L H1 H2) : Kp Ts L H H2 :=
  ⟨fun c u h n z => b.keep c u (a.keep c u h n z) n z, fun c xs h => b.tup c xs (a.tup c xs h), fun h => b.tab (a.tab h), fun c u h n => by
    obtain ⟨u', h', n'⟩ := a.dm c u h n
    exact b.dm c u' h' n'⟩
theorem Kp.mono (a : Kp Ts L H H1) (h : ∀ b ∈ L, b ∈ L') : Kp Ts L' H H1 := ⟨fun c u e n z => a.keep c u e (fun q => n (h c q)) z, a.tup, a.tab, a.dm⟩
theorem Kp.wid (a : Kp Ts [] H H1) : Kp Ts L H H1 := a.mono fun _ z => nomatch z
theorem Kp.of (e : ∀ b u, H b = some u → H' b = some u) : Kp Ts L H H' := ⟨fun b u h _ _ => e b u h, fun b xs h => e b _ h, fun h => h.ext e, fun b u h n => ⟨u, e b u h, n⟩⟩
theorem Kp.new (n : H p = none) : Kp Ts L H (upd H p o) := .of fun b u h => by rw [upd_ne (ne_of_none h n)]; exact h
theorem Kp.news (n : H p = none) (k : Kp Ts L H1 H) : Kp Ts L H1 (upd H p o) := k.trans (.new n)
/-- an object that may be changed is -/
theorem Kp.set {u : HO} (e : H p = some u) (m : Mu u) (hp : p ∈ L) (mo : ∀ ps, o ≠ .tbl ps := by intro _ z; cases z) : Kp Ts L H (upd H p o) := by
  have tp : ∀ b xs, H b = some (.tup xs) → upd H p o b = some (.tup xs) := fun b xs h => by rw [upd_ne (ne_of h e (m.1 xs).symm)]; exact h
  refine ⟨fun b w h n _ => by rw [upd_ne (fun z => n (by rw [z]; exact hp))]; exact h, tp, fun h q hq => ?_, fun b w h n => ?_⟩
  case refine_2 =>
    by_cases z : b = p
    · exact ⟨o, by rw [z, upd_same], mo⟩
    · exact ⟨w, by rw [upd_ne z]; exact h, n⟩
  obtain ⟨ps, h1, h2, h3⟩ := h q hq
  refine ⟨ps, by rw [upd_ne (ne_of h1 e (m.2.1 ps).symm)]; exact h1, h2, fun pos cv hc => ?_⟩
  obtain ⟨c, e1, e2⟩ := h3 pos cv hc
  exact ⟨c, e1, by rw [upd_ne (ne_of e2 e (m.2.2 c q.2).symm)]; exact e2⟩
/-- what was laid on the way may have been changed -/
theorem Kp.hide (k : Kp Ts L H H1) (n : NT H p) (k2 : Kp Ts (p :: L) H1 H2) : Kp Ts L H H2 :=
  ⟨fun b u h nb z => k2.keep b u (k.keep b u h nb z) (fun q => (List.mem_cons.mp q).elim (fun e => by
      rw [e] at h
      obtain ⟨ps, e'⟩ := n u h
      exact z ps e') nb) z, fun b xs h => k2.tup b xs (k.tup b xs h), fun h => k2.tab (k.tab h), fun b u h n => by
    obtain ⟨u', h', n'⟩ := k.dm b u h n
    exact k2.dm b u' h' n'⟩
theorem Kp.extN (e : LamX.ExtN H H') (t : LamX.Tabs Ts H') : Kp Ts L H H' := ⟨fun b u h _ z => e b u h z, fun b xs h => e b _ h (fun ps z => by cases z), fun _ => t, fun b u h n => ⟨u, e b u h n, n⟩⟩
theorem TA.kp (h : TA H t v) (k : Kp Ts L H H') : TA H' t v := TA.tups k.tup h
theorem TA.upd (h : TA H t v) (n : H p = none) : TA (upd H p o) t v := TA.kp (Ts := []) (L := []) h (.new n)
theorem Kp.lst {xs : List V} (k : Kp Ts L H H') (h : H p = some (.lst xs)) (n : p ∉ L) : H' p = some (.lst xs) := k.keep _ _ h n fun _ z => by cases z
theorem Kp.sql {K : PySem.W.Frag} {a : Addr} {xs : List V} (k : Kp Ts L H H') (h : SqL K H a xs) (n : a ∉ L) : SqL K H' a xs := by
  rcases h with (h | ⟨ob, h⟩) | h
  · exact .inl (.inl (k.keep _ _ h n fun _ z => by cases z))
  · exact .inl (.inr ⟨ob, k.keep _ _ h n fun _ z => by cases z⟩)
  · exact .inr h
theorem TA.leaf (h : H p = some (.tup [])) : TA H .l (.ref p) := ⟨p, rfl, h⟩
theorem TA.mk {x y : T} {u w : V} (h : H p = some (.tup [u, w])) (hx : TA H x u) (hy : TA H y w) : TA H (.n x y) (.ref p) := ⟨p, u, w, rfl, h, hx, hy⟩
theorem TA.new {x y : T} {u w : V} (n : H p = none) (hx : TA H x u) (hy : TA H y w) : TA (L2.upd H p (.tup [u, w])) (.n x y) (.ref p) := .mk upd_same (hx.upd n) (hy.upd n)
end

/-! ### a tree as data -/
def T.dat : T → PyData
  | .l => .tuple []
  | .n a b => .tuple [a.dat, b.dat]
theorem T.dat_lay : ∀ t : T, t.dat.canLay0 = true
  | .l => rfl
  | .n a b => by simp [T.dat, PyData.canLay0, PyData.canLayAll0, T.dat_lay a, T.dat_lay b]
theorem T.dat_depth : ∀ t : T, t.dat.depth ≤ t.sz + 1
  | .l => by simp [T.dat, PyData.depth, PyData.depthAll, T.sz]
  | .n a b => by
    have h1 := T.dat_depth a
    have h2 := T.dat_depth b
    simp only [T.dat, PyData.depth, PyData.depthAll, T.sz]
    omega
theorem T.dat_shaped {t : T} (h : t.sz ≤ 60) : SeqAt.shaped t.dat = true := by
  have := T.dat_depth t
  exact Bool.and_eq_true_iff.mpr ⟨T.dat_lay t, decide_eq_true (by omega)⟩
theorem T.dat_eqv : ∀ a b : T, PyData.eqv a.dat b.dat = a.beq b
  | .l, .l => by simp [T.dat, PyData.eqv, PyData.eqvAll, T.beq]
  | .l, .n _ _ => by simp [T.dat, PyData.eqv, PyData.eqvAll, T.beq]
  | .n _ _, .l => by simp [T.dat, PyData.eqv, PyData.eqvAll, T.beq]
  | .n a b, .n c d => by simp [T.dat, PyData.eqv, PyData.eqvAll, T.beq, T.dat_eqv a c, T.dat_eqv b d]
theorem TA.dp {K : PySem.W.Frag} {H : Hp} : ∀ {t : T} {v : V}, TA H t v → Dp K H v t.dat
  | .l, _, ⟨a, e, h⟩ => by subst e; exact .tup (SqT.of h) .nil
  | .n _ _, _, ⟨a, u, w, e, h, hx, hy⟩ => by subst e; exact .tup (SqT.of h) (.cons hx.dp (.cons hy.dp .nil))

section
variable {X : Cx} {a b : Expr} {ta tb : TE} {pos : Pos} {Ts : List (Addr × Str)}
/-- == of two trees -/
def rEqT : R2 := fun x y H Q => ∃ s t : T, TA H s x ∧ TA H t y ∧ s.sz ≤ 60 ∧ t.sz ≤ 60 ∧ Q (.bl (s.beq t)) H
theorem op_eqT (hu : X.A.units + 64 < cLine) : OpR X (compareOp .Eq) rEqT := by
  intro pins s σ H x y v u Q I rx ry h
  obtain ⟨t1, t2, h1, h2, z1, z2, q⟩ := h
  exact op_eqD hu pins s σ H x y v u Q I rx ry ⟨_, _, h1.dp, h2.dp, T.dat_shaped z1, T.dat_shaped z2, by rw [T.dat_eqv]; exact q⟩
def rNeT : R2 := fun x y H Q => ∃ s t : T, TA H s x ∧ TA H t y ∧ s.sz ≤ 60 ∧ t.sz ≤ 60 ∧ Q (.bl (!s.beq t)) H
theorem op_neT (hu : X.A.units + 64 < cLine) : OpR X (compareOp .NotEq) rNeT := by
  intro pins s σ H x y v u Q I rx ry h
  obtain ⟨t1, t2, h1, h2, z1, z2, q⟩ := h
  exact op_neD hu pins s σ H x y v u Q I rx ry ⟨_, _, h1.dp, h2.dp, T.dat_shaped z1, T.dat_shaped z2, by rw [T.dat_eqv]; exact q⟩
/-- e == (), as a test -/
def tIsl (te : TE) : TT := fun σ H Q => te σ H fun x H1 => ∃ t : T, TA H1 t x ∧ t.sz ≤ 60 ∧ ∀ H2, (∀ Ts, Kp Ts [] H1 H2) → Q (t.beq .l) H2
theorem pt_isl {k : Nat} {p2 : Pos} (hu : X.A.units + 64 < cLine) (ha : PE X a ta) : PT X (.Compare a [.Eq] [.Tuple [] k p2] pos) (tIsl ta) := by
  refine ⟨fun pins s σ H Q I h => ?_⟩
  refine wpAny_isTrue_Compare1 (thn (ha.run pins s σ H _ I h) fun v s1 hv => ?_) (nomark _)
  obtain ⟨x, H1, I1, r1, t, ht, hz, q⟩ := hv
  refine thn ((pe_tup (X := X) (x1 := k) (pos := p2) pa_nil).run pins s1 σ H1 (fun y H2 => TA H2 .l y ∧ TA H2 t x ∧ ∀ Ts, Kp Ts [] H1 H2) I1 ⟨(by show 0 ≤ sizeLine; decide), fun p hp => ⟨.leaf upd_same, ht.upd hp, fun _ => .new hp⟩⟩) fun u s2 hu2 => ?_
  obtain ⟨y, H2, I2, r2, hy, ht2, hk⟩ := hu2
  refine thn (op_eqT hu pins s2 σ H2 x y v u (fun z H3 => z = .bl (t.beq .l) ∧ H3 = H2) I2 r1 r2 ⟨t, .l, ht2, hy, hz, by decide, rfl, rfl⟩) fun c s3 hc => ?_
  obtain ⟨z, H3, I3, r3, rfl, rfl⟩ := hc
  cases r3
  exact wpAny_truthy_bool ⟨H3, I3, q H3 hk⟩
end
end K43

namespace K43
open PySem L2
def top (i : Nat) : Stmt := PySem.Challenge.pw_eightworlds_k43_whole_chains_between_tre.main.body.getD i (.Pass ⟨0, 0, 0, 0⟩)
abbrev s14 : Stmt := top 14
/-- is_whole: 0 value, 1 low, 2 high -/
theorem sc14 : FnScope ["value", "low", "high"] ["value", "low", "high"] (defScope s14) := ⟨rfl, rfl, rfl, by decide +kernel, rfl, by decide +kernel, by decide +kernel⟩
abbrev s15 : Stmt := top 15
/-- need_number: 0 value, 1 low, 2 high -/
theorem sc15 : FnScope ["value", "low", "high"] ["value", "low", "high"] (defScope s15) := ⟨rfl, rfl, rfl, by decide +kernel, rfl, by decide +kernel, by decide +kernel⟩
abbrev s16 : Stmt := top 16
/-- need_few: 0 many, 1 limit -/
theorem sc16 : FnScope ["many", "limit"] ["many", "limit"] (defScope s16) := ⟨rfl, rfl, rfl, by decide +kernel, rfl, by decide +kernel, by decide +kernel⟩
abbrev s19 : Stmt := top 19
/-- tree_size: 0 value, 1 left, 2 one, 3 other -/
theorem sc19 : FnScope ["value", "left", "one", "other"] ["value", "left"] (defScope s19) := ⟨rfl, rfl, rfl, by decide +kernel, rfl, by decide +kernel, by decide +kernel⟩
abbrev s20 : Stmt := top 20
/-- fits_tree: 0 value -/
theorem sc20 : FnScope ["value"] ["value"] (defScope s20) := ⟨rfl, rfl, rfl, by decide +kernel, rfl, by decide +kernel, by decide +kernel⟩
abbrev s21 : Stmt := top 21
/-- fork_count: 0 tree -/
theorem sc21 : FnScope ["tree"] ["tree"] (defScope s21) := ⟨rfl, rfl, rfl, by decide +kernel, rfl, by decide +kernel, by decide +kernel⟩
abbrev s22 : Stmt := top 22
/-- reaches_of: 0 tree -/
theorem sc22 : FnScope ["tree"] ["tree"] (defScope s22) := ⟨rfl, rfl, rfl, by decide +kernel, rfl, by decide +kernel, by decide +kernel⟩
abbrev s23 : Stmt := top 23
/-- need_tree: 0 value -/
theorem sc23 : FnScope ["value"] ["value"] (defScope s23) := ⟨rfl, rfl, rfl, by decide +kernel, rfl, by decide +kernel, by decide +kernel⟩
abbrev s24 : Stmt := top 24
/-- need_pair: 0 one, 1 other -/
theorem sc24 : FnScope ["one", "other"] ["one", "other"] (defScope s24) := ⟨rfl, rfl, rfl, by decide +kernel, rfl, by decide +kernel, by decide +kernel⟩
abbrev s26 : Stmt := top 26
/-- catalan: 0 many, 1 found, 2 one -/
theorem sc26 : FnScope ["many", "found", "one"] ["many"] (defScope s26) := ⟨rfl, rfl, rfl, by decide +kernel, rfl, by decide +kernel, by decide +kernel⟩
abbrev s28 : Stmt := top 28
/-- number_by: 0 tree, 1 left, 2 right, 3 ahead, 4 one -/
theorem sc28 : FnScope ["tree", "left", "right", "ahead", "one"] ["tree"] (defScope s28) := ⟨rfl, rfl, rfl, by decide +kernel, rfl, by decide +kernel, by decide +kernel⟩
abbrev s30 : Stmt := top 30
/-- can_turn: 0 tree, 1 first, 2 root, 3 own -/
theorem sc30 : FnScope ["tree", "first", "root", "own"] ["tree", "first"] (defScope s30) := ⟨rfl, rfl, rfl, by decide +kernel, rfl, by decide +kernel, by decide +kernel⟩
abbrev s31 : Stmt := top 31
/-- turned_once: 0 tree, 1 fork, 2 root -/
theorem sc31 : FnScope ["tree", "fork", "root"] ["tree", "fork"] (defScope s31) := ⟨rfl, rfl, rfl, by decide +kernel, rfl, by decide +kernel, by decide +kernel⟩
abbrev s32 : Stmt := top 32
/-- lies_below: 0 one, 1 other, 2 mine, 3 yours -/
theorem sc32 : FnScope ["one", "other", "mine", "yours"] ["one", "other"] (defScope s32) := ⟨rfl, rfl, rfl, by decide +kernel, rfl, by decide +kernel, by decide +kernel⟩
abbrev s33 : Stmt := top 33
/-- is_below: 0 one, 1 other -/
theorem sc33 : FnScope ["one", "other"] ["one", "other"] (defScope s33) := ⟨rfl, rfl, rfl, by decide +kernel, rfl, by decide +kernel, by decide +kernel⟩
abbrev s36 : Stmt := top 36
/-- ranks_between: 0 one, 1 other, 2 found, 3 tree, 4 most, 5 least, 6 ways, 7 fork, 8 there, 9 far, 10 near, 11 many -/
theorem sc36 : FnScope ["one", "other", "found", "tree", "most", "least", "ways", "fork", "there", "far", "near", "many"] ["one", "other"] (defScope s36) := ⟨rfl, rfl, rfl, by decide +kernel, rfl, by decide +kernel, by decide +kernel⟩
abbrev s37 : Stmt := top 37
/-- passed_by: 0 one, 1 other, 2 seen, 3 line, 4 later, 5 tree, 6 there, 7 fork -/
theorem sc37 : FnScope ["one", "other", "seen", "line", "later", "tree", "there", "fork"] ["one", "other"] (defScope s37) := ⟨rfl, rfl, rfl, by decide +kernel, rfl, by decide +kernel, by decide +kernel⟩
abbrev s38 : Stmt := top 38
/-- depth_sum: 0 tree -/
theorem sc38 : FnScope ["tree"] ["tree"] (defScope s38) := ⟨rfl, rfl, rfl, by decide +kernel, rfl, by decide +kernel, by decide +kernel⟩
abbrev s39 : Stmt := top 39
/-- need_few_forks: 0 one, 1 other -/
theorem sc39 : FnScope ["one", "other"] ["one", "other"] (defScope s39) := ⟨rfl, rfl, rfl, by decide +kernel, rfl, by decide +kernel, by decide +kernel⟩
abbrev s40 : Stmt := top 40
/-- comb_tree: 0 forks, 1 is_left, 2 found, 3 turn -/
theorem sc40 : FnScope ["forks", "is_left", "found", "turn"] ["forks", "is_left"] (defScope s40) := ⟨rfl, rfl, rfl, by decide +kernel, rfl, by decide +kernel, by decide +kernel⟩
abbrev s41 : Stmt := top 41
/-- factorial: 0 many, 1 found, 2 one -/
theorem sc41 : FnScope ["many", "found", "one"] ["many"] (defScope s41) := ⟨rfl, rfl, rfl, by decide +kernel, rfl, by decide +kernel, by decide +kernel⟩
abbrev s42 : Stmt := top 42
/-- trees_between: 0 one, 1 other -/
theorem sc42 : FnScope ["one", "other"] ["one", "other"] (defScope s42) := ⟨rfl, rfl, rfl, by decide +kernel, rfl, by decide +kernel, by decide +kernel⟩
abbrev s43 : Stmt := top 43
/-- longest_up: 0 one, 1 other -/
theorem sc43 : FnScope ["one", "other"] ["one", "other"] (defScope s43) := ⟨rfl, rfl, rfl, by decide +kernel, rfl, by decide +kernel, by decide +kernel⟩
abbrev s44 : Stmt := top 44
/-- fewest_up: 0 one, 1 other -/
theorem sc44 : FnScope ["one", "other"] ["one", "other"] (defScope s44) := ⟨rfl, rfl, rfl, by decide +kernel, rfl, by decide +kernel, by decide +kernel⟩
abbrev s45 : Stmt := top 45
/-- count_ways: 0 one, 1 other -/
theorem sc45 : FnScope ["one", "other"] ["one", "other"] (defScope s45) := ⟨rfl, rfl, rfl, by decide +kernel, rfl, by decide +kernel, by decide +kernel⟩
abbrev s46 : Stmt := top 46
/-- count_below: 0 forks -/
theorem sc46 : FnScope ["forks"] ["forks"] (defScope s46) := ⟨rfl, rfl, rfl, by decide +kernel, rfl, by decide +kernel, by decide +kernel⟩
abbrev s47 : Stmt := top 47
/-- least_tree: 0 forks -/
theorem sc47 : FnScope ["forks"] ["forks"] (defScope s47) := ⟨rfl, rfl, rfl, by decide +kernel, rfl, by decide +kernel, by decide +kernel⟩
abbrev s48 : Stmt := top 48
/-- greatest_tree: 0 forks -/
theorem sc48 : FnScope ["forks"] ["forks"] (defScope s48) := ⟨rfl, rfl, rfl, by decide +kernel, rfl, by decide +kernel, by decide +kernel⟩
abbrev s50 : Stmt := top 50
/-- _law_drum: 0 _law_script, 1 _law_k, 2 _law_some, 3 _law_cell -/
theorem sc50 : FnScope ["_law_script", "_law_k", "_law_some", "_law_cell"] ["_law_script", "_law_k"] (defScope s50) := ⟨rfl, rfl, rfl, by decide +kernel, rfl, by decide +kernel, by decide +kernel⟩
abbrev s51 : Stmt := top 51
/-- _law_roll: 0 _law_drum_here, 1 _law_many, 2 _law_found, 3 _law_deep -/
theorem sc51 : FnScope ["_law_drum_here", "_law_many", "_law_found", "_law_deep"] ["_law_drum_here", "_law_many"] (defScope s51) := ⟨rfl, rfl, rfl, by decide +kernel, rfl, by decide +kernel, by decide +kernel⟩
abbrev s52 : Stmt := top 52
/-- _law_pick: 0 _law_drum_here, 1 _law_things -/
theorem sc52 : FnScope ["_law_drum_here", "_law_things"] ["_law_drum_here", "_law_things"] (defScope s52) := ⟨rfl, rfl, rfl, by decide +kernel, rfl, by decide +kernel, by decide +kernel⟩
abbrev s53 : Stmt := top 53
/-- _law_grown: 0 _law_drum_here, 1 _law_forks_here, 2 _law_left -/
theorem sc53 : FnScope ["_law_drum_here", "_law_forks_here", "_law_left"] ["_law_drum_here", "_law_forks_here"] (defScope s53) := ⟨rfl, rfl, rfl, by decide +kernel, rfl, by decide +kernel, by decide +kernel⟩
abbrev s54 : Stmt := top 54
/-- _law_forks: 0 _law_tree_so -/
theorem sc54 : FnScope ["_law_tree_so"] ["_law_tree_so"] (defScope s54) := ⟨rfl, rfl, rfl, by decide +kernel, rfl, by decide +kernel, by decide +kernel⟩
abbrev s55 : Stmt := top 55
/-- _law_reached: 0 _law_tree_so -/
theorem sc55 : FnScope ["_law_tree_so"] ["_law_tree_so"] (defScope s55) := ⟨rfl, rfl, rfl, by decide +kernel, rfl, by decide +kernel, by decide +kernel⟩
abbrev s56 : Stmt := top 56
/-- _law_every: 0 _law_forks_here, 1 _law_found, 2 _law_left, 3 _law_one, 4 _law_other_so -/
theorem sc56 : FnScope ["_law_forks_here", "_law_found", "_law_left", "_law_one", "_law_other_so"] ["_law_forks_here"] (defScope s56) := ⟨rfl, rfl, rfl, by decide +kernel, rfl, by decide +kernel, by decide +kernel⟩
abbrev s57 : Stmt := top 57
/-- _law_ups: 0 _law_tree_so, 1 _law_first, 2 _law_left, 3 _law_right, 4 _law_root, 5 _law_found, 6 _law_fork, 7 _law_there -/
theorem sc57 : FnScope ["_law_tree_so", "_law_first", "_law_left", "_law_right", "_law_root", "_law_found", "_law_fork", "_law_there"] ["_law_tree_so", "_law_first"] (defScope s57) := ⟨rfl, rfl, rfl, by decide +kernel, rfl, by decide +kernel, by decide +kernel⟩
abbrev s58 : Stmt := top 58
/-- _law_word: 0 _law_call, 1 _law_found, 2 e -/
theorem sc58 : FnScope ["_law_call", "_law_found", "e"] ["_law_call"] (defScope s58) := ⟨rfl, rfl, rfl, by decide +kernel, rfl, by decide +kernel, by decide +kernel⟩
abbrev s59 : Stmt := top 59
/-- _law_ways: 0 _law_one, 1 _law_other_so, 2 _law_known, 3 _law_some, 4 _law_fork, 5 _law_there, 6 _law_way -/
theorem sc59 : FnScope ["_law_one", "_law_other_so", "_law_known", "_law_some", "_law_fork", "_law_there", "_law_way"] ["_law_one", "_law_other_so", "_law_known"] (defScope s59) := ⟨rfl, rfl, rfl, by decide +kernel, rfl, by decide +kernel, by decide +kernel⟩
abbrev s60 : Stmt := top 60
/-- _law_pair_right: 0 _law_one, 1 _law_other_so, 2 _law_forks_here, 3 _law_due, 4 _law_told, 5 _law_some, 6 _law_every_here, 7 _law_tree_so -/
theorem sc60 : FnScope ["_law_one", "_law_other_so", "_law_forks_here", "_law_due", "_law_told", "_law_some", "_law_every_here", "_law_tree_so"] ["_law_one", "_law_other_so", "_law_forks_here"] (defScope s60) := ⟨rfl, rfl, rfl, by decide +kernel, rfl, by decide +kernel, by decide +kernel⟩
abbrev s61 : Stmt := top 61
/-- _law_below: 0 _law_forks_here, 1 _law_rows, 2 _law_tree_so, 3 _law_found, 4 _law_row, 5 _law_later, 6 _law_a, 7 _law_b -/
theorem sc61 : FnScope ["_law_forks_here", "_law_rows", "_law_tree_so", "_law_found", "_law_row", "_law_later", "_law_a", "_law_b"] ["_law_forks_here"] (defScope s61) := ⟨rfl, rfl, rfl, by decide +kernel, rfl, by decide +kernel, by decide +kernel⟩
abbrev s62 : Stmt := top 62
/-- law: 0 _law_script, 1 _law_drum_here, 2 _law_forks_here, 3 _law_one, 4 _law_other_so, 5 _law_low, 6 _law_high, 7 _law_turn, 8 _law_some, 9 _law_small, 10 _law_much, 11 _law_ahead, 12 _law_long, 13 _law_short, 14 _law_call_so, 15 _law_words, 16 _law_late, 17 _law_odd, 18 _law_many -/
theorem sc62 : FnScope ["_law_script", "_law_drum_here", "_law_forks_here", "_law_one", "_law_other_so", "_law_low", "_law_high", "_law_turn", "_law_some", "_law_small", "_law_much", "_law_ahead", "_law_long", "_law_short", "_law_call_so", "_law_words", "_law_late", "_law_odd", "_law_many"] ["_law_script"] (defScope s62) := ⟨rfl, rfl, rfl, by decide +kernel, rfl, by decide +kernel, by decide +kernel⟩
/-- a def of the top: where it stands, how it binds, its name -/
structure Df (K : PySem.W.Frag) (mg : Str → Option Value) (x : Str) (st : Stmt) (ps : List Str) (f : Addr) (fd : FuncData) : Prop where
  F : Fun K x x st f fd
  b : Binds K fd ps []
  g : mg x = some (.ref f)
/-- its code object is the one at c -/
def CodeAt (K : PySem.W.Frag) (x : Str) (st : Stmt) (f : Addr) (fd : FuncData) (c : Addr) : Prop :=
  ∃ (oc : Value) (od : Option Addr) (kV doc pm : Value) (an : Option Addr) (ct : Value) (osl : Array (Option Value)),
    fd = PySem.W.fnOf x x (defArgs st) (defBody st) (defScope st) .none kV doc pm an (.ref c) ct ∧ K.lookup f = some ⟨oc, od, .func fd, osl⟩ ∧ PySem.W.codeIn K (.ref c) x = true
/-- an own exception class without an __init__ of its own -/
structure Xc (K : PySem.W.Frag) (mg : Str → Option Value) (x : Str) (C : Addr) : Prop where
  g : mg x = some (.ref C)
  ex : PySem.W.excIn K C [.type "ValueError", .type "Exception", .type "BaseException", .type "object"] "ValueError.__new__" = true
  kp : PySem.W.keepIn K (.ref C) = true
  bP : PySem.W.subIn K (.ref C) (.type "BaseException") = some true
  tP : PySem.W.typeIn K (.ref C) = some (.type "type")
/-- what the top leaves -/
structure TX (K : PySem.W.Frag) (mg : Str → Option Value) where
  f14 : Addr
  d14 : FuncData
  D14 : Df K mg "is_whole" s14 ["value", "low", "high"] f14 d14
  f15 : Addr
  d15 : FuncData
  D15 : Df K mg "need_number" s15 ["value", "low", "high"] f15 d15
  f16 : Addr
  d16 : FuncData
  D16 : Df K mg "need_few" s16 ["many", "limit"] f16 d16
  f19 : Addr
  d19 : FuncData
  D19 : Df K mg "tree_size" s19 ["value", "left"] f19 d19
  f20 : Addr
  d20 : FuncData
  D20 : Df K mg "fits_tree" s20 ["value"] f20 d20
  f21 : Addr
  d21 : FuncData
  D21 : Df K mg "fork_count" s21 ["tree"] f21 d21
  f22 : Addr
  d22 : FuncData
  D22 : Df K mg "reaches_of" s22 ["tree"] f22 d22
  f23 : Addr
  d23 : FuncData
  D23 : Df K mg "need_tree" s23 ["value"] f23 d23
  f24 : Addr
  d24 : FuncData
  D24 : Df K mg "need_pair" s24 ["one", "other"] f24 d24
  f26 : Addr
  d26 : FuncData
  D26 : Df K mg "catalan" s26 ["many"] f26 d26
  f28 : Addr
  d28 : FuncData
  D28 : Df K mg "number_by" s28 ["tree"] f28 d28
  f30 : Addr
  d30 : FuncData
  D30 : Df K mg "can_turn" s30 ["tree", "first"] f30 d30
  f31 : Addr
  d31 : FuncData
  D31 : Df K mg "turned_once" s31 ["tree", "fork"] f31 d31
  f32 : Addr
  d32 : FuncData
  D32 : Df K mg "lies_below" s32 ["one", "other"] f32 d32
  f33 : Addr
  d33 : FuncData
  D33 : Df K mg "is_below" s33 ["one", "other"] f33 d33
  f36 : Addr
  d36 : FuncData
  D36 : Df K mg "ranks_between" s36 ["one", "other"] f36 d36
  f37 : Addr
  d37 : FuncData
  D37 : Df K mg "passed_by" s37 ["one", "other"] f37 d37
  c37 : Addr
  p37 : Addr
  C37 : CodeAt K "passed_by" s37 f37 d37 c37
  f38 : Addr
  d38 : FuncData
  D38 : Df K mg "depth_sum" s38 ["tree"] f38 d38
  f39 : Addr
  d39 : FuncData
  D39 : Df K mg "need_few_forks" s39 ["one", "other"] f39 d39
  f40 : Addr
  d40 : FuncData
  D40 : Df K mg "comb_tree" s40 ["forks", "is_left"] f40 d40
  f41 : Addr
  d41 : FuncData
  D41 : Df K mg "factorial" s41 ["many"] f41 d41
  f42 : Addr
  d42 : FuncData
  D42 : Df K mg "trees_between" s42 ["one", "other"] f42 d42
  c42 : Addr
  p42 : Addr
  C42 : CodeAt K "trees_between" s42 f42 d42 c42
  f43 : Addr
  d43 : FuncData
  D43 : Df K mg "longest_up" s43 ["one", "other"] f43 d43
  f44 : Addr
  d44 : FuncData
  D44 : Df K mg "fewest_up" s44 ["one", "other"] f44 d44
  f45 : Addr
  d45 : FuncData
  D45 : Df K mg "count_ways" s45 ["one", "other"] f45 d45
  f46 : Addr
  d46 : FuncData
  D46 : Df K mg "count_below" s46 ["forks"] f46 d46
  f47 : Addr
  d47 : FuncData
  D47 : Df K mg "least_tree" s47 ["forks"] f47 d47
  f48 : Addr
  d48 : FuncData
  D48 : Df K mg "greatest_tree" s48 ["forks"] f48 d48
  f50 : Addr
  d50 : FuncData
  D50 : Df K mg "_law_drum" s50 ["_law_script", "_law_k"] f50 d50
  f51 : Addr
  d51 : FuncData
  D51 : Df K mg "_law_roll" s51 ["_law_drum_here", "_law_many"] f51 d51
  f52 : Addr
  d52 : FuncData
  D52 : Df K mg "_law_pick" s52 ["_law_drum_here", "_law_things"] f52 d52
  f53 : Addr
  d53 : FuncData
  D53 : Df K mg "_law_grown" s53 ["_law_drum_here", "_law_forks_here"] f53 d53
  f54 : Addr
  d54 : FuncData
  D54 : Df K mg "_law_forks" s54 ["_law_tree_so"] f54 d54
  f55 : Addr
  d55 : FuncData
  D55 : Df K mg "_law_reached" s55 ["_law_tree_so"] f55 d55
  f56 : Addr
  d56 : FuncData
  D56 : Df K mg "_law_every" s56 ["_law_forks_here"] f56 d56
  f57 : Addr
  d57 : FuncData
  D57 : Df K mg "_law_ups" s57 ["_law_tree_so", "_law_first"] f57 d57
  f58 : Addr
  d58 : FuncData
  D58 : Df K mg "_law_word" s58 ["_law_call"] f58 d58
  f59 : Addr
  d59 : FuncData
  D59 : Df K mg "_law_ways" s59 ["_law_one", "_law_other_so", "_law_known"] f59 d59
  f60 : Addr
  d60 : FuncData
  D60 : Df K mg "_law_pair_right" s60 ["_law_one", "_law_other_so", "_law_forks_here"] f60 d60
  f61 : Addr
  d61 : FuncData
  D61 : Df K mg "_law_below" s61 ["_law_forks_here"] f61 d61
  f62 : Addr
  d62 : FuncData
  D62 : Df K mg "law" s62 ["_law_script"] f62 d62
  c62 : Addr
  p62 : Addr
  C62 : CodeAt K "law" s62 f62 d62 c62
  n_len : mg "len" = none
  n_isinstance : mg "isinstance" = none
  n_int : mg "int" = none
  n_bool : mg "bool" = none
  n_tuple : mg "tuple" = none
  n_range : mg "range" = none
  n_sum : mg "sum" = none
  n_all : mg "all" = none
  n_zip : mg "zip" = none
  n_sorted : mg "sorted" = none
  n_list : mg "list" = none
  n_max : mg "max" = none
  n_min : mg "min" = none
  n_abs : mg "abs" = none
  n_str : mg "str" = none
  n_super : mg "super" = none
  t18 : Tok
  m18 : mg "MOST_FORKS" = some (.int 24 t18)
  t35 : Tok
  m35 : mg "FEW_FORKS" = some (.int 7 t35)
  k1 : Addr
  g1 : mg "WorldError" = some (.ref k1)
  k2 : Addr
  g2 : mg "InvalidCutting" = some (.ref k2)
  k3 : Addr
  g3 : mg "InvalidCut" = some (.ref k3)
  k4 : Addr
  K4 : Xc K mg "InvalidNumber" k4
  k5 : Addr
  K5 : Xc K mg "Unlike" k5
  k6 : Addr
  K6 : Xc K mg "InvalidTree" k6
  k7 : Addr
  g7 : mg "InvalidFork" = some (.ref k7)
  k8 : Addr
  g8 : mg "InvalidReaches" = some (.ref k8)
  k9 : Addr
  g9 : mg "InvalidMountain" = some (.ref k9)
  k10 : Addr
  g10 : mg "InvalidHeights" = some (.ref k10)
  k11 : Addr
  g11 : mg "InvalidVotes" = some (.ref k11)
  k12 : Addr
  g12 : mg "TooMany" = some (.ref k12)
  e4_6 : PySem.W.exmOne K (.ref k4) (.ref k6) = some false
  e4_2 : PySem.W.exmOne K (.ref k4) (.ref k2) = some false
  e4_3 : PySem.W.exmOne K (.ref k4) (.ref k3) = some false
  e4_7 : PySem.W.exmOne K (.ref k4) (.ref k7) = some false
  e4_8 : PySem.W.exmOne K (.ref k4) (.ref k8) = some false
  e4_9 : PySem.W.exmOne K (.ref k4) (.ref k9) = some false
  e4_10 : PySem.W.exmOne K (.ref k4) (.ref k10) = some false
  e4_11 : PySem.W.exmOne K (.ref k4) (.ref k11) = some false
  e4_4 : PySem.W.exmOne K (.ref k4) (.ref k4) = some true
  e5_6 : PySem.W.exmOne K (.ref k5) (.ref k6) = some false
  e5_2 : PySem.W.exmOne K (.ref k5) (.ref k2) = some false
  e5_3 : PySem.W.exmOne K (.ref k5) (.ref k3) = some false
  e5_7 : PySem.W.exmOne K (.ref k5) (.ref k7) = some false
  e5_8 : PySem.W.exmOne K (.ref k5) (.ref k8) = some false
  e5_9 : PySem.W.exmOne K (.ref k5) (.ref k9) = some false
  e5_10 : PySem.W.exmOne K (.ref k5) (.ref k10) = some false
  e5_11 : PySem.W.exmOne K (.ref k5) (.ref k11) = some false
  e5_4 : PySem.W.exmOne K (.ref k5) (.ref k4) = some false
  e5_5 : PySem.W.exmOne K (.ref k5) (.ref k5) = some true
  e6_6 : PySem.W.exmOne K (.ref k6) (.ref k6) = some true
  e12_6 : PySem.W.exmOne K (.ref k12) (.ref k6) = some false
  e12_2 : PySem.W.exmOne K (.ref k12) (.ref k2) = some false
  e12_3 : PySem.W.exmOne K (.ref k12) (.ref k3) = some false
  e12_7 : PySem.W.exmOne K (.ref k12) (.ref k7) = some false
  e12_8 : PySem.W.exmOne K (.ref k12) (.ref k8) = some false
  e12_9 : PySem.W.exmOne K (.ref k12) (.ref k9) = some false
  e12_10 : PySem.W.exmOne K (.ref k12) (.ref k10) = some false
  e12_11 : PySem.W.exmOne K (.ref k12) (.ref k11) = some false
  e12_4 : PySem.W.exmOne K (.ref k12) (.ref k4) = some false
  e12_5 : PySem.W.exmOne K (.ref k12) (.ref k5) = some false
  e12_12 : PySem.W.exmOne K (.ref k12) (.ref k12) = some true
end K43

/-! D1: counts and rows of trees. -/
namespace K43
open PySem L2
section
variable {P : Program} {w : World} {K : PySem.W.Frag} {mg : Str → Option Value} {base : Heap} {Ts : List (Addr × Str)}
theorem ok_none {CX : CXT} {k : Nat} {f : Addr} {fd : FuncData} {ps : List Str} {sp : Sp} (no : ∀ vs H Q E, ¬ sp vs H Q E) : FnOk P w K mg base CX k f fd ps sp :=
  ⟨fun vs H Q E h => absurd h (no vs H Q E), fun A outer s H args us vs Q E _ _ _ _ h => absurd h (no vs H Q E)⟩
/-- of a tree with less than n forks: the number g of it -/
def spN (Ts : List (Addr × Str)) (g : T → Nat) (n : Nat) : Sp := fun vs H Q _ => ∃ v t, vs = [v] ∧ TA H t v ∧ t.sz < n ∧ t.sz ≤ 60 ∧ ∀ H', Kp Ts [] H H' → Q (.int (g t)) H'
theorem spN.zero {g : T → Nat} : ∀ vs H Q E, ¬ spN Ts g 0 vs H Q E := fun vs H Q E h => by
  obtain ⟨v, t, _, _, z, _⟩ := h
  exact absurd z (Nat.not_lt_zero _)
theorem spN.len {g : T → Nat} {n : Nat} : ∀ vs H Q E, spN Ts g n vs H Q E → vs.length = 1 := fun vs H Q E h => by
  obtain ⟨v, t, rfl, _⟩ := h
  rfl
theorem beqF {t : T} (c : ¬ t.beq .l = true) : ∃ x y, t = .n x y := by
  cases t with
  | l => exact absurd rfl c
  | n x y => exact ⟨x, y, rfl⟩
theorem beqT {t : T} (c : t.beq .l = true) : t = .l := T.beq_iff.mp c
theorem ok21 (X : TX K mg) : ∀ n : Nat, FnOk P w K mg base CX0 n X.f21 X.d21 ["tree"] (spN Ts T.sz n)
  | 0 => ok_none spN.zero
  | n + 1 => by
    have G := ok21 X n
    refine X.D21.F.ok sc21 spN.len (fun cdv A outer s H vs Q E hr h => ?_)
    obtain ⟨v, t, rfl, ht, hn, hz, q⟩ := h
    refine ⟨_, pss_one (ps_ret (pe_ifExp (pt_isl hr.units (pv 0)) pe_int
      (pe_op op_add (pe_op op_add
        (pe_call G hr rfl X.D21.g X.D21.F.kp X.D21.b .nil pass0 (pa_cons (pe_ix ix_tup (pv 0) pe_int (fun _ _ => rfl)) pa_nil))
        (pe_call G hr rfl X.D21.g X.D21.F.kp X.D21.b .nil pass0 (pa_cons (pe_ix ix_tup (pv 0) pe_int (fun _ _ => rfl)) pa_nil))) pe_int))), ?_⟩
    refine ⟨_, rfl, t, ht, hz, fun H1 k1 => ?_⟩
    refine ite2 (fun c => ?_) (fun c => ?_)
    · rw [beqT c] at q
      exact q H1 (k1 Ts)
    · obtain ⟨x, y, rfl⟩ := beqF c
      have ht1 := ht.kp (k1 Ts)
      obtain ⟨a, u, w', rfl, ha, hx, hy⟩ := ht1
      have hn' : x.sz + y.sz + 1 < n + 1 := hn
      have hz' : x.sz + y.sz + 1 ≤ 60 := hz
      refine ⟨_, rfl, a, _, 0, u, rfl, rfl, SqT.of ha, rfl, ?_⟩
      refine ⟨u, x, rfl, hx, by omega, by omega, fun H2 k2 => ?_⟩
      refine ⟨_, rfl, a, _, 1, w', rfl, rfl, SqT.of (k2.tup _ _ ha), rfl, ?_⟩
      refine ⟨w', y, rfl, hy.kp k2, by omega, by omega, fun H3 k3 => ?_⟩
      refine ⟨_, _, rfl, rfl, _, _, rfl, rfl, ?_⟩
      exact q H3 ((k1 Ts).trans (k2.trans k3))

/-- _law_forks -/
theorem ok54 (X : TX K mg) : ∀ n : Nat, FnOk P w K mg base CX0 n X.f54 X.d54 ["_law_tree_so"] (spN Ts T.sz n)
  | 0 => ok_none spN.zero
  | n + 1 => by
    have G := ok54 X n
    refine X.D54.F.ok sc54 spN.len (fun cdv A outer s H vs Q E hr h => ?_)
    obtain ⟨v, t, rfl, ht, hn, hz, q⟩ := h
    refine ⟨_, pss_one (ps_ret (pe_ifExp (pt_isl hr.units (pv 0)) pe_int
      (pe_op op_add (pe_op op_add pe_int
        (pe_call G hr rfl X.D54.g X.D54.F.kp X.D54.b .nil pass0 (pa_cons (pe_ix ix_tup (pv 0) pe_int (fun _ _ => rfl)) pa_nil)))
        (pe_call G hr rfl X.D54.g X.D54.F.kp X.D54.b .nil pass0 (pa_cons (pe_ix ix_tup (pv 0) pe_int (fun _ _ => rfl)) pa_nil))))), ?_⟩
    refine ⟨_, rfl, t, ht, hz, fun H1 k1 => ?_⟩
    refine ite2 (fun c => ?_) (fun c => ?_)
    · rw [beqT c] at q
      exact q H1 (k1 Ts)
    · obtain ⟨x, y, rfl⟩ := beqF c
      obtain ⟨a, u, w', rfl, ha, hx, hy⟩ := ht.kp (k1 Ts)
      have hn' : x.sz + y.sz + 1 < n + 1 := hn
      have hz' : x.sz + y.sz + 1 ≤ 60 := hz
      refine ⟨_, rfl, a, _, 0, u, rfl, rfl, SqT.of ha, rfl, ?_⟩
      refine ⟨u, x, rfl, hx, by omega, by omega, fun H2 k2 => ?_⟩
      refine ⟨_, _, rfl, rfl, _, rfl, a, _, 1, w', rfl, rfl, SqT.of (k2.tup _ _ ha), rfl, ?_⟩
      refine ⟨w', y, rfl, hy.kp k2, by omega, by omega, fun H3 k3 => ?_⟩
      refine ⟨_, _, rfl, rfl, ?_⟩
      have e : (1 : Int) + (x.sz : Int) + (y.sz : Int) = (((T.n x y).sz : Nat) : Int) := by
        show (1 : Int) + (x.sz : Int) + (y.sz : Int) = ((x.sz + y.sz + 1 : Nat) : Int)
        omega
      show Q (.int ((1 : Int) + (x.sz : Int) + (y.sz : Int))) H3
      rw [e]
      exact q H3 ((k1 Ts).trans (k2.trans k3))
/-- depth_sum -/
theorem ok38 (X : TX K mg) : ∀ n : Nat, n ≤ 50 → FnOk P w K mg base CX0 (n + 60) X.f38 X.d38 ["tree"] (spN Ts T.ds n)
  | 0, _ => ok_none spN.zero
  | n + 1, hn => by
    have G := ok38 X n (by omega)
    have GF := ok21 (P := P) (w := w) (base := base) (Ts := Ts) X 60
    refine X.D38.F.ok sc38 spN.len (fun cdv A outer s H vs Q E hr h => ?_)
    obtain ⟨v, t, rfl, ht, hn, hz, q⟩ := h
    refine ⟨_, pss_one (ps_ret (pe_ifExp (pt_isl hr.units (pv 0)) pe_int
      (pe_op op_add (pe_op op_add
        (pe_call G hr rfl X.D38.g X.D38.F.kp X.D38.b .nil pass0 (pa_cons (pe_ix ix_tup (pv 0) pe_int (fun _ _ => rfl)) pa_nil))
        (pe_call GF (hr.mono (by omega)) rfl X.D21.g X.D21.F.kp X.D21.b .nil pass0 (pa_cons (pe_ix ix_tup (pv 0) pe_int (fun _ _ => rfl)) pa_nil)))
        (pe_call G hr rfl X.D38.g X.D38.F.kp X.D38.b .nil pass0 (pa_cons (pe_ix ix_tup (pv 0) pe_int (fun _ _ => rfl)) pa_nil))))), ?_⟩
    refine ⟨_, rfl, t, ht, hz, fun H1 k1 => ?_⟩
    refine ite2 (fun c => ?_) (fun c => ?_)
    · rw [beqT c] at q
      exact q H1 (k1 Ts)
    · obtain ⟨x, y, rfl⟩ := beqF c
      obtain ⟨a, u, w', rfl, ha, hx, hy⟩ := ht.kp (k1 Ts)
      have hn' : x.sz + y.sz + 1 < n + 1 := hn
      have hz' : x.sz + y.sz + 1 ≤ 60 := hz
      refine ⟨_, rfl, a, _, 0, u, rfl, rfl, SqT.of ha, rfl, ?_⟩
      refine ⟨u, x, rfl, hx, by omega, by omega, fun H2 k2 => ?_⟩
      refine ⟨_, rfl, a, _, 1, w', rfl, rfl, SqT.of (k2.tup _ _ ha), rfl, ?_⟩
      refine ⟨w', y, rfl, hy.kp k2, by omega, by omega, fun H3 k3 => ?_⟩
      refine ⟨_, _, rfl, rfl, _, rfl, a, _, 1, w', rfl, rfl, SqT.of (k3.tup _ _ (k2.tup _ _ ha)), rfl, ?_⟩
      refine ⟨w', y, rfl, (hy.kp k2).kp k3, by omega, by omega, fun H4 k4 => ?_⟩
      refine ⟨_, _, rfl, rfl, ?_⟩
      exact q H4 ((k1 Ts).trans (k2.trans (k3.trans k4)))
/-- ints that are no less than nought -/
def iv (l : List Nat) : List V := l.map fun x => V.int (x : Nat)
theorem iv_app (a b : List Nat) : iv (a ++ b) = iv a ++ iv b := List.map_append
theorem iv_len (a : List Nat) : (iv a).length = a.length := List.length_map _
/-- t + u of tracked tuples -/
theorem rd_cat {a b : Addr} {xs ys : List V} {H : Hp} {Q : VK} (ha : H a = some (.tup xs)) (hb : H b = some (.tup ys)) (hz : xs.length + ys.length ≤ 1000)
    (q : ∀ c H', Kp Ts [] H H' → H' c = some (.tup (xs ++ ys)) → Q (.ref c) H') : rCatA K (.ref a) (.ref b) H Q := by
  refine ⟨a, b, xs, ys, rfl, rfl, SqT.of ha, SqT.of hb, Nat.le_of_lt (small1000 hz), fun e => ?_, fun _ e => ?_, fun _ _ p hp => ?_⟩
  · exact q b H .refl (by rw [e]; exact hb)
  · exact q a H .refl (by rw [e, List.append_nil]; exact ha)
  · exact q p _ (.new hp) upd_same
/-- of a tree with less than n forks: a tuple of the row g of it -/
def spT (Ts : List (Addr × Str)) (g : T → List Nat) (n : Nat) : Sp := fun vs H Q _ => ∃ v t, vs = [v] ∧ TA H t v ∧ t.sz < n ∧ t.sz ≤ 60 ∧ ∀ a H', Kp Ts [] H H' → H' a = some (.tup (iv (g t))) → Q (.ref a) H'
theorem spT.zero {g : T → List Nat} : ∀ vs H Q E, ¬ spT Ts g 0 vs H Q E := fun vs H Q E h => by
  obtain ⟨v, t, _, _, z, _⟩ := h
  exact absurd z (Nat.not_lt_zero _)
theorem spT.len {g : T → List Nat} {n : Nat} : ∀ vs H Q E, spT Ts g n vs H Q E → vs.length = 1 := fun vs H Q E h => by
  obtain ⟨v, t, rfl, _⟩ := h
  rfl
theorem rch_len : ∀ t : T, t.rch.length = t.sz
  | .l => rfl
  | .n a b => by
    show (a.rch ++ (b.sz :: b.rch)).length = a.sz + b.sz + 1
    rw [List.length_append, List.length_cons, rch_len a, rch_len b]
    omega
/-- reaches_of -/
theorem ok22 (X : TX K mg) : ∀ n : Nat, n ≤ 50 → FnOk P w K mg base CX0 (n + 60) X.f22 X.d22 ["tree"] (spT Ts T.rch n)
  | 0, _ => ok_none spT.zero
  | n + 1, hn => by
    have G := ok22 X n (by omega)
    have GF := ok21 (P := P) (w := w) (base := base) (Ts := Ts) X 60
    refine X.D22.F.ok sc22 spT.len (fun cdv A outer s H vs Q E hr h => ?_)
    obtain ⟨v, t, rfl, ht, hn, hz, q⟩ := h
    refine ⟨_, pss_one (ps_ret (pe_ifExp (pt_isl hr.units (pv 0)) (pe_tup pa_nil)
      (pe_op op_catA (pe_op op_catA
        (pe_call G hr rfl X.D22.g X.D22.F.kp X.D22.b .nil pass0 (pa_cons (pe_ix ix_tup (pv 0) pe_int (fun _ _ => rfl)) pa_nil))
        (pe_tup (pa_cons (pe_call GF (hr.mono (by omega)) rfl X.D21.g X.D21.F.kp X.D21.b .nil pass0 (pa_cons (pe_ix ix_tup (pv 0) pe_int (fun _ _ => rfl)) pa_nil)) pa_nil)))
        (pe_call G hr rfl X.D22.g X.D22.F.kp X.D22.b .nil pass0 (pa_cons (pe_ix ix_tup (pv 0) pe_int (fun _ _ => rfl)) pa_nil))))), ?_⟩
    refine ⟨_, rfl, t, ht, hz, fun H1 k1 => ?_⟩
    refine ite2 (fun c => ?_) (fun c => ?_)
    · rw [beqT c] at q
      exact ⟨(by show 0 ≤ sizeLine; decide), fun p hp => q p _ ((k1 Ts).news hp) upd_same⟩
    · obtain ⟨x, y, rfl⟩ := beqF c
      obtain ⟨a, u, w', rfl, ha, hx, hy⟩ := ht.kp (k1 Ts)
      have hn' : x.sz + y.sz + 1 < n + 1 := hn
      have hz' : x.sz + y.sz + 1 ≤ 60 := hz
      refine ⟨_, rfl, a, _, 0, u, rfl, rfl, SqT.of ha, rfl, ?_⟩
      refine ⟨u, x, rfl, hx, by omega, by omega, fun r1 H2 k2 e2 => ?_⟩
      refine ⟨_, rfl, a, _, 1, w', rfl, rfl, SqT.of (k2.tup _ _ ha), rfl, ?_⟩
      refine ⟨w', y, rfl, hy.kp k2, by omega, by omega, fun H3 k3 => ?_⟩
      refine ⟨(by show 1 ≤ sizeLine; decide), fun p hp => ?_⟩
      have k4 : Kp Ts [] H3 (upd H3 p (.tup [.int (y.sz : Nat)])) := .new hp
      refine rd_cat (Ts := Ts) (k4.tup _ _ (k3.tup _ _ e2)) upd_same (by rw [iv_len, rch_len]; show x.sz + 1 ≤ 1000; omega) (fun r2 H5 k5 e5 => ?_)
      have k35 := k3.trans (k4.trans k5)
      refine ⟨_, rfl, a, _, 1, w', rfl, rfl, SqT.of (k35.tup _ _ (k2.tup _ _ ha)), rfl, ?_⟩
      refine ⟨w', y, rfl, (hy.kp k2).kp k35, by omega, by omega, fun r3 H6 k6 e6 => ?_⟩
      refine rd_cat (Ts := Ts) (k6.tup _ _ e5) e6 (by rw [List.length_append, iv_len, iv_len, rch_len, rch_len]; show x.sz + 1 + y.sz ≤ 1000; omega) (fun r4 H7 k7 e7 => ?_)
      refine q r4 H7 ((k1 Ts).trans (k2.trans (k35.trans (k6.trans k7)))) ?_
      rw [e7]
      show some (HO.tup (iv x.rch ++ [V.int (y.sz : Nat)] ++ iv y.rch)) = some (.tup (iv (x.rch ++ (y.sz :: y.rch))))
      rw [iv_app, List.append_assoc]
      rfl
/-- _law_reached -/
theorem ok55 (X : TX K mg) : ∀ n : Nat, n ≤ 50 → FnOk P w K mg base CX0 (n + 60) X.f55 X.d55 ["_law_tree_so"] (spT Ts T.rch n)
  | 0, _ => ok_none spT.zero
  | n + 1, hn => by
    have G := ok55 X n (by omega)
    have GF := ok54 (P := P) (w := w) (base := base) (Ts := Ts) X 60
    refine X.D55.F.ok sc55 spT.len (fun cdv A outer s H vs Q E hr h => ?_)
    obtain ⟨v, t, rfl, ht, hn, hz, q⟩ := h
    refine ⟨_, pss_cons (ps_if (pt_isl hr.units (pv 0)) (pss_one (ps_ret (pe_tup pa_nil))) pss_nil) (pss_one (ps_ret
      (pe_op op_catA (pe_op op_catA
        (pe_call G hr rfl X.D55.g X.D55.F.kp X.D55.b .nil pass0 (pa_cons (pe_ix ix_tup (pv 0) pe_int (fun _ _ => rfl)) pa_nil))
        (pe_tup (pa_cons (pe_call GF (hr.mono (by omega)) rfl X.D54.g X.D54.F.kp X.D54.b .nil pass0 (pa_cons (pe_ix ix_tup (pv 0) pe_int (fun _ _ => rfl)) pa_nil)) pa_nil)))
        (pe_call G hr rfl X.D55.g X.D55.F.kp X.D55.b .nil pass0 (pa_cons (pe_ix ix_tup (pv 0) pe_int (fun _ _ => rfl)) pa_nil))))), ?_⟩
    refine ⟨_, rfl, t, ht, hz, fun H1 k1 => ?_⟩
    refine ite2 (fun c => ?_) (fun c => ?_)
    · rw [beqT c] at q
      exact ⟨(by show 0 ≤ sizeLine; decide), fun p hp => q p _ ((k1 Ts).news hp) upd_same⟩
    · obtain ⟨x, y, rfl⟩ := beqF c
      obtain ⟨a, u, w', rfl, ha, hx, hy⟩ := ht.kp (k1 Ts)
      have hn' : x.sz + y.sz + 1 < n + 1 := hn
      have hz' : x.sz + y.sz + 1 ≤ 60 := hz
      refine ⟨_, rfl, a, _, 0, u, rfl, rfl, SqT.of ha, rfl, ?_⟩
      refine ⟨u, x, rfl, hx, by omega, by omega, fun r1 H2 k2 e2 => ?_⟩
      refine ⟨_, rfl, a, _, 1, w', rfl, rfl, SqT.of (k2.tup _ _ ha), rfl, ?_⟩
      refine ⟨w', y, rfl, hy.kp k2, by omega, by omega, fun H3 k3 => ?_⟩
      refine ⟨(by show 1 ≤ sizeLine; decide), fun p hp => ?_⟩
      have k4 : Kp Ts [] H3 (upd H3 p (.tup [.int (y.sz : Nat)])) := .new hp
      refine rd_cat (Ts := Ts) (k4.tup _ _ (k3.tup _ _ e2)) upd_same (by rw [iv_len, rch_len]; show x.sz + 1 ≤ 1000; omega) (fun r2 H5 k5 e5 => ?_)
      have k35 := k3.trans (k4.trans k5)
      refine ⟨_, rfl, a, _, 1, w', rfl, rfl, SqT.of (k35.tup _ _ (k2.tup _ _ ha)), rfl, ?_⟩
      refine ⟨w', y, rfl, (hy.kp k2).kp k35, by omega, by omega, fun r3 H6 k6 e6 => ?_⟩
      refine rd_cat (Ts := Ts) (k6.tup _ _ e5) e6 (by rw [List.length_append, iv_len, iv_len, rch_len, rch_len]; show x.sz + 1 + y.sz ≤ 1000; omega) (fun r4 H7 k7 e7 => ?_)
      refine q r4 H7 ((k1 Ts).trans (k2.trans (k35.trans (k6.trans k7)))) ?_
      rw [e7]
      show some (HO.tup (iv x.rch ++ [V.int (y.sz : Nat)] ++ iv y.rch)) = some (.tup (iv (x.rch ++ (y.sz :: y.rch))))
      rw [iv_app, List.append_assoc]
      rfl
end
end K43

/-! D2: turnings, numbers, order. -/
namespace K43
open PySem L2
section
variable {X : Cx} {a b : Expr} {ta tb : TE} {pos : Pos} {Ts : List (Addr × Str)}
/-- e != (), as a test -/
def tNsl (te : TE) : TT := fun σ H Q => te σ H fun x H1 => ∃ t : T, TA H1 t x ∧ t.sz ≤ 60 ∧ ∀ H2, (∀ Ts, Kp Ts [] H1 H2) → Q (!t.beq .l) H2
theorem pt_nsl {k : Nat} {p2 : Pos} (hu : X.A.units + 64 < cLine) (ha : PE X a ta) : PT X (.Compare a [.NotEq] [.Tuple [] k p2] pos) (tNsl ta) := by
  refine ⟨fun pins s σ H Q I h => ?_⟩
  refine wpAny_isTrue_Compare1 (thn (ha.run pins s σ H _ I h) fun v s1 hv => ?_) (nomark _)
  obtain ⟨x, H1, I1, r1, t, ht, hz, q⟩ := hv
  refine thn ((pe_tup (X := X) (x1 := k) (pos := p2) pa_nil).run pins s1 σ H1 (fun y H2 => TA H2 .l y ∧ TA H2 t x ∧ ∀ Ts, Kp Ts [] H1 H2) I1 ⟨(by show 0 ≤ sizeLine; decide), fun p hp => ⟨.leaf upd_same, ht.upd hp, fun _ => .new hp⟩⟩) fun u s2 hu2 => ?_
  obtain ⟨y, H2, I2, r2, hy, ht2, hk⟩ := hu2
  refine thn (op_neT hu pins s2 σ H2 x y v u (fun z H3 => z = .bl (!t.beq .l) ∧ H3 = H2) I2 r1 r2 ⟨t, .l, ht2, hy, hz, by decide, rfl, rfl⟩) fun c s3 hc => ?_
  obtain ⟨z, H3, I3, r3, rfl, rfl⟩ := hc
  cases r3
  exact wpAny_truthy_bool ⟨H3, I3, q H3 hk⟩
end
/-- a comprehension's loop of n turns -/
theorem lc_any {J : It} {n : Nat} {g : TG} {tt : TT} {te : TE} {vs : List Nat} {σ : St} {H0 : Hp} {D : Addr} {After : Hp → Prop} (At : Nat → Hp → Prop) (first : At 0 (upd H0 D (.lst [])))
    (goes : ∀ k H, k < n → At k H → J.go k H) (ends : ∀ H, At n H → J.stop n H)
    (turn : ∀ k H item Hi, k < n → At k H → J.yld k H item Hi → g item (wipe σ vs) Hi fun σ' Hg =>
      wipe σ' vs = wipe σ vs ∧ tt σ' Hg fun kept Ht => if kept = true then te σ' Ht fun val He => ∃ had, He D = some (.lst had) ∧ had.length < sizeLine ∧ At (k + 1) (upd He D (.lst (had ++ [val]))) else At (k + 1) Ht)
    (last : ∀ H, At n H → After H) :
    ∃ Inside : Nat → Nat → Hp → Prop, (∃ left, Inside 0 left (upd H0 D (.lst []))) ∧ ∀ k left H, Inside k left H → (J.stop k H ∧ After H) ∨
      (J.go k H ∧ ∃ Next : Hp → Prop, (∀ Hn, Next Hn → ∃ left', left' < left ∧ Inside (k + 1) left' Hn) ∧ ∀ item Hi, J.yld k H item Hi → g item (wipe σ vs) Hi fun σ' Hg =>
        wipe σ' vs = wipe σ vs ∧ tt σ' Hg fun kept Ht => if kept = true then te σ' Ht fun val He => ∃ had, He D = some (.lst had) ∧ had.length < sizeLine ∧ Next (upd He D (.lst (had ++ [val]))) else Next Ht) := by
  refine ⟨fun k left H => left + k = n ∧ At k H, ⟨n, rfl, first⟩, fun k left H ⟨sum, at_k⟩ => ?_⟩
  cases left with
  | zero =>
    have e : k = n := by omega
    rw [e] at at_k ⊢
    exact .inl ⟨ends H at_k, last H at_k⟩
  | succ left =>
    have lt : k < n := by omega
    exact .inr ⟨goes k H lt at_k, At (k + 1), fun Hn now => ⟨left, Nat.lt_succ_self _, by omega, now⟩, fun item Hi y => turn k H item Hi lt at_k y⟩
section
variable {P : Program} {w : World} {K : PySem.W.Frag} {mg : Str → Option Value} {base : Heap} {Ts : List (Addr × Str)}
theorem Qi {Q : VK} {H : Hp} {a b : Int} (q : Q (.int b) H) (e : a = b) : Q (.int a) H := by rw [e]; exact q
/-- can_turn -/
def spCt (Ts : List (Addr × Str)) (n : Nat) : Sp := fun vs H Q _ => ∃ v t, ∃ f : Nat, vs = [v, .int (f : Nat)] ∧ TA H t v ∧ t.sz < n ∧ t.sz ≤ 60 ∧ ∀ a H', Kp Ts [] H H' → NT H a → H' a = some (.lst (iv (t.ct f))) → Q (.ref a) H'
def midC (a : T) (f : Nat) : List Nat := match a with | .l => [] | .n _ _ => [f + a.sz]
theorem ct_n (a b : T) (f : Nat) : (T.n a b).ct f = a.ct f ++ (midC a f ++ b.ct (f + a.sz + 1)) := by
  cases a <;> rfl
theorem ct_len : ∀ (t : T) (f : Nat), (t.ct f).length ≤ t.sz
  | .l, _ => Nat.le_refl _
  | .n a b, f => by
    have h1 := ct_len a f
    have h2 := ct_len b (f + a.sz + 1)
    rw [ct_n, List.length_append, List.length_append]
    have h3 : (midC a f).length ≤ 1 := by
      cases a
      · exact Nat.zero_le _
      · exact Nat.le_refl _
    show (a.ct f).length + ((midC a f).length + (b.ct (f + a.sz + 1)).length) ≤ a.sz + b.sz + 1
    omega
theorem ok30 (X : TX K mg) : ∀ n : Nat, n ≤ 50 → FnOk P w K mg base CX0 (n + 60) X.f30 X.d30 ["tree", "first"] (spCt Ts n)
  | 0, _ => ok_none fun vs H Q E h => by
    obtain ⟨v, t, f, _, _, z, _⟩ := h
    exact absurd z (Nat.not_lt_zero _)
  | n + 1, hn => by
    have G := ok30 X n (by omega)
    have GF := ok21 (P := P) (w := w) (base := base) (Ts := Ts) X 60
    refine X.D30.F.ok sc30 (fun vs H Q E h => by obtain ⟨v, t, f, rfl, _⟩ := h; rfl) (fun cdv A outer s H vs Q E hr h => ?_)
    obtain ⟨v, t, f, rfl, ht, hn, hz, q⟩ := h
    refine ⟨_, pss_cons (ps_if (pt_isl hr.units (pv 0)) (pss_one (ps_ret (pe_lst pa_nil))) pss_nil)
      (pss_cons (ps_set (i := 2) sc30.nd rfl (Or.inl rfl) (pe_op op_add (pv 1) (pe_call GF (hr.mono (by omega)) rfl X.D21.g X.D21.F.kp X.D21.b .nil pass0 (pa_cons (pe_ix ix_tup (pv 0) pe_int (fun _ _ => rfl)) pa_nil))))
      (pss_cons (ps_set (i := 3) sc30.nd rfl (Or.inl rfl) (pe_ifExp (pt_nsl hr.units (pe_ix ix_tup (pv 0) pe_int (fun _ _ => rfl))) (pe_lst (pa_cons (pv 2) pa_nil)) (pe_lst pa_nil)))
      (pss_one (ps_ret (pe_op op_cat (pe_op op_cat
        (pe_call G hr rfl X.D30.g X.D30.F.kp X.D30.b .nil pass0 (pa_cons (pe_ix ix_tup (pv 0) pe_int (fun _ _ => rfl)) (pa_cons (pv 1) pa_nil))) (pv 3))
        (pe_call G hr rfl X.D30.g X.D30.F.kp X.D30.b .nil pass0 (pa_cons (pe_ix ix_tup (pv 0) pe_int (fun _ _ => rfl)) (pa_cons (pe_op op_add (pv 2) pe_int) pa_nil)))))))), ?_⟩
    refine ⟨_, rfl, t, ht, hz, fun H1 k1 => ?_⟩
    have k1' := k1 Ts
    refine ite2 (fun c => ?_) (fun c => ?_)
    · rw [beqT c] at q
      exact ⟨(by show 0 ≤ sizeLine; decide), fun p hp => q p _ (k1'.news hp) (k1'.dom _ hp) upd_same⟩
    · obtain ⟨x, y, rfl⟩ := beqF c
      obtain ⟨a, u, w', rfl, ha, hx, hy⟩ := ht.kp k1'
      have hn' : x.sz + y.sz + 1 < n + 1 := hn
      have hz' : x.sz + y.sz + 1 ≤ 60 := hz
      refine ⟨_, rfl, _, rfl, a, _, 0, u, rfl, rfl, SqT.of ha, rfl, ?_⟩
      refine ⟨u, x, rfl, hx, by omega, by omega, fun H2 k2 => ?_⟩
      refine ⟨_, _, rfl, rfl, ?_⟩
      refine ⟨_, rfl, a, _, 0, u, rfl, rfl, SqT.of (k2.tup _ _ ha), rfl, ?_⟩
      refine ⟨x, hx.kp k2, by omega, fun H3 k3 => ?_⟩
      have k13 := k1'.trans (k2.trans (k3 Ts))
      -- own, then the rest
      have rest : ∀ (p : Addr) (H4 : Hp), Kp Ts [] H3 H4 → H4 p = some (.lst (iv (midC x f))) →
          (tRet (tOp rCat (tOp rCat (tCall (spCt Ts n) [] E0 (tCons (tOp (rIxT K) (tVar 0) (tC (.int 0))) (tCons (tVar 1) tNil))) (tVar 3)) (tCall (spCt Ts n) [] E0 (tCons (tOp (rIxT K) (tVar 0) (tC (.int 1))) (tCons (tOp (rI0 fun i j => .int (i + j)) (tVar 2) (tC (.int 1))) tNil)))))
            { nx := fun _ H' => Q .non H', rt := Q } [some (.ref a), some (.int (f : Nat)), some (.int ((f : Int) + (x.sz : Int))), some (.ref p)] H4 := fun p H4 k4 e4 => by
        have k14 := k13.trans k4
        have ha4 := (k3 Ts |>.trans k4).tup _ _ (k2.tup _ _ ha)
        have h34 := k2.trans ((k3 Ts).trans k4)
        refine ⟨_, rfl, a, _, 0, u, rfl, rfl, SqT.of ha4, rfl, _, rfl, ?_⟩
        refine ⟨u, x, f, rfl, hx.kp h34, by omega, by omega, fun r1 H5 k5 n5 e5 => ?_⟩
        have e4' := k5.lst e4 (by simp)
        refine ⟨_, rfl, r1, p, _, _, rfl, rfl, e5, e4', ?_, fun r2 n2 => ?_⟩
        · exact Nat.le_of_lt (small1000 (by
            have := ct_len x f
            rw [iv_len, iv_len]
            have h3 : (midC x f).length ≤ 1 := by
              cases x
              · exact Nat.zero_le _
              · exact Nat.le_refl _
            omega))
        have k6 : Kp Ts [] H5 (upd H5 r2 (.lst (iv (x.ct f) ++ iv (midC x f)))) := .new n2
        refine ⟨_, rfl, a, _, 1, w', rfl, rfl, SqT.of ((k5.trans k6).tup _ _ ha4), rfl, _, rfl, _, _, rfl, rfl, ?_⟩
        refine ⟨w', y, f + x.sz + 1, rfl, (hy.kp h34).kp (k5.trans k6), by omega, by omega, fun r3 H7 k7 n7 e7 => ?_⟩
        refine ⟨r2, r3, _, _, rfl, rfl, k7.lst upd_same (by simp), e7, ?_, fun r4 n4 => ?_⟩
        · exact Nat.le_of_lt (small1000 (by
            have h1 := ct_len x f
            have h2 := ct_len y (f + x.sz + 1)
            rw [List.length_append, iv_len, iv_len, iv_len]
            have h3 : (midC x f).length ≤ 1 := by
              cases x
              · exact Nat.zero_le _
              · exact Nat.le_refl _
            omega))
        have k17 := k14.trans (k5.trans (k6.trans k7))
        refine q r4 _ (k17.news n4) (k17.dom _ n4) ?_
        rw [upd_same, ct_n, iv_app, iv_app, List.append_assoc]
      cases hxl : x with
      | l =>
        rw [hxl] at rest
        refine ite2 (fun c => absurd c (by decide)) (fun _ => ?_)
        exact ⟨(by show 0 ≤ sizeLine; decide), fun p hp => rest p _ (.new hp) upd_same⟩
      | n x1 x2 =>
        rw [hxl] at rest
        refine ite2 (fun _ => ?_) (fun c => absurd rfl c)
        exact ⟨_, rfl, (by show 1 ≤ sizeLine; decide), fun p hp => rest p _ (.new hp) upd_same⟩
end
end K43

/-! D3: turned_once, comb_tree, factorial, catalan, number_by, lies_below. -/
namespace K43
open PySem L2
section
variable {P : Program} {w : World} {K : PySem.W.Frag} {mg : Str → Option Value} {base : Heap} {Ts : List (Addr × Str)}
/-- turned_once -/
def spTu (Ts : List (Addr × Str)) (n : Nat) : Sp := fun vs H Q _ => ∃ v t, ∃ k : Nat, vs = [v, .int (k : Nat)] ∧ TA H t v ∧ t.ok k = true ∧ t.sz < n ∧ t.sz ≤ 60 ∧ ∀ u H', Kp Ts [] H H' → TA H' (t.tu k) u → Q u H'
theorem ok31 (X : TX K mg) : ∀ n : Nat, n ≤ 50 → FnOk P w K mg base CX0 (n + 60) X.f31 X.d31 ["tree", "fork"] (spTu Ts n)
  | 0, _ => ok_none fun vs H Q E h => by
    obtain ⟨v, t, f, _, _, _, z, _⟩ := h
    exact absurd z (Nat.not_lt_zero _)
  | n + 1, hn => by
    have G := ok31 X n (by omega)
    have GF := ok21 (P := P) (w := w) (base := base) (Ts := Ts) X 60
    refine X.D31.F.ok sc31 (fun vs H Q E h => by obtain ⟨v, t, f, rfl, _⟩ := h; rfl) (fun cdv A outer s H vs Q E hr h => ?_)
    obtain ⟨v, t, k, rfl, ht, hk, hn, hz, q⟩ := h
    refine ⟨_, pss_cons (ps_set (i := 2) sc31.nd rfl (Or.inl rfl) (pe_call GF (hr.mono (by omega)) rfl X.D21.g X.D21.F.kp X.D21.b .nil pass0 (pa_cons (pe_ix ix_tup (pv 0) pe_int (fun _ _ => rfl)) pa_nil)))
      (pss_cons (ps_if (pt_cmpR op_lt (pv 1) (pv 2) (nomark _)) (pss_one (ps_ret (pe_tup (pa_cons
          (pe_call G hr rfl X.D31.g X.D31.F.kp X.D31.b .nil pass0 (pa_cons (pe_ix ix_tup (pv 0) pe_int (fun _ _ => rfl)) (pa_cons (pv 1) pa_nil)))
          (pa_cons (pe_ix ix_tup (pv 0) pe_int (fun _ _ => rfl)) pa_nil))))) pss_nil)
      (pss_cons (ps_if (pt_cmpR op_gt (pv 1) (pv 2) (nomark _)) (pss_one (ps_ret (pe_tup (pa_cons (pe_ix ix_tup (pv 0) pe_int (fun _ _ => rfl)) (pa_cons
          (pe_call G hr rfl X.D31.g X.D31.F.kp X.D31.b .nil pass0 (pa_cons (pe_ix ix_tup (pv 0) pe_int (fun _ _ => rfl)) (pa_cons (pe_op op_sub (pe_op op_sub (pv 1) (pv 2)) pe_int) pa_nil))) pa_nil))))) pss_nil)
      (pss_one (ps_ret (pe_tup (pa_cons (pe_ix ix_tup (pe_ix ix_tup (pv 0) pe_int (fun _ _ => rfl)) pe_int (fun _ _ => rfl))
        (pa_cons (pe_tup (pa_cons (pe_ix ix_tup (pe_ix ix_tup (pv 0) pe_int (fun _ _ => rfl)) pe_int (fun _ _ => rfl)) (pa_cons (pe_ix ix_tup (pv 0) pe_int (fun _ _ => rfl)) pa_nil))) pa_nil))))))), ?_⟩
    cases t with
    | l => cases hk
    | n x y =>
      obtain ⟨a, u, w', rfl, ha, hx, hy⟩ := ht
      have hn' : x.sz + y.sz + 1 < n + 1 := hn
      have hz' : x.sz + y.sz + 1 ≤ 60 := hz
      refine ⟨_, rfl, a, _, 0, u, rfl, rfl, SqT.of ha, rfl, ?_⟩
      refine ⟨u, x, rfl, hx, by omega, by omega, fun H2 k2 => ?_⟩
      refine ⟨_, rfl, _, rfl, _, _, rfl, rfl, _, rfl, ?_⟩
      have ha2 := k2.tup _ _ ha
      have e1 : (T.n x y).tu k = if k < x.sz then T.n (x.tu k) y else if x.sz < k then T.n x (y.tu (k - x.sz - 1)) else match x with | .l => .l | .n x1 x2 => .n x1 (.n x2 y) := by
        cases x <;> rfl
      have e2 : (T.n x y).ok k = if k < x.sz then x.ok k else if x.sz < k then y.ok (k - x.sz - 1) else match x with | .l => false | .n _ _ => true := by
        cases x <;> rfl
      rw [e2] at hk
      rw [e1] at q
      refine ite2 (fun c => ?_) (fun c => ?_)
      · have c' : k < x.sz := by have := of_decide_eq_true c; omega
        rw [if_pos c'] at hk q
        refine ⟨_, rfl, a, _, 0, u, rfl, rfl, SqT.of ha2, rfl, _, rfl, ?_⟩
        refine ⟨u, x, k, rfl, hx.kp k2, hk, by omega, by omega, fun u3 H3 k3 h3 => ?_⟩
        refine ⟨_, rfl, a, _, 1, w', rfl, rfl, SqT.of (k3.tup _ _ ha2), rfl, (by show 2 ≤ sizeLine; decide), fun p hp => ?_⟩
        exact q _ _ ((k2.trans k3).news hp) (.new hp h3 (hy.kp (k2.trans k3)))
      · have c' : ¬ k < x.sz := fun z => c (decide_eq_true (by omega))
        rw [if_neg c'] at hk q
        refine ⟨_, rfl, _, rfl, _, _, rfl, rfl, _, rfl, ?_⟩
        refine ite2 (fun c2 => ?_) (fun c2 => ?_)
        · have c2' : x.sz < k := by have := of_decide_eq_true c2; omega
          rw [if_pos c2'] at hk q
          refine ⟨_, rfl, a, _, 0, u, rfl, rfl, SqT.of ha2, rfl, _, rfl, a, _, 1, w', rfl, rfl, SqT.of ha2, rfl, _, rfl, _, rfl, _, _, rfl, rfl, _, _, rfl, rfl, ?_⟩
          refine ⟨w', y, k - x.sz - 1, ?_, hy.kp k2, hk, by omega, by omega, fun u3 H3 k3 h3 => ?_⟩
          · show [w', V.int ((k : Int) - (x.sz : Int) - 1)] = [w', V.int ((k - x.sz - 1 : Nat) : Int)]
            have e : (k : Int) - (x.sz : Int) - 1 = ((k - x.sz - 1 : Nat) : Int) := by omega
            rw [e]
          refine ⟨(by show 2 ≤ sizeLine; decide), fun p hp => ?_⟩
          exact q _ _ ((k2.trans k3).news hp) (.new hp (hx.kp (k2.trans k3)) h3)
        · have c2' : ¬ x.sz < k := fun z => c2 (decide_eq_true (by omega))
          rw [if_neg c2'] at hk q
          cases x with
          | l => cases hk
          | n x1 x2 =>
            obtain ⟨a1, u1, u2, rfl, ha1, hx1, hx2⟩ := hx.kp k2
            refine ⟨_, rfl, a, _, 0, _, rfl, rfl, SqT.of ha2, rfl, a1, _, 0, u1, rfl, rfl, SqT.of ha1, rfl, ?_⟩
            refine ⟨_, rfl, a, _, 0, _, rfl, rfl, SqT.of ha2, rfl, a1, _, 1, u2, rfl, rfl, SqT.of ha1, rfl, _, rfl, a, _, 1, w', rfl, rfl, SqT.of ha2, rfl, (by show 2 ≤ sizeLine; decide), fun p hp => ?_⟩
            refine ⟨(by show 2 ≤ sizeLine; decide), fun p2 hp2 => ?_⟩
            exact q _ _ ((k2.news hp).news hp2) (.new hp2 (hx1.upd hp) (.new hp hx2 (hy.kp k2)))
/-- comb_tree -/
def comb (b : Bool) : Nat → T
  | 0 => .l
  | k + 1 => if b then .n (comb b k) .l else .n .l (comb b k)
theorem comb_sz (b : Bool) : ∀ k, (comb b k).sz = k
  | 0 => rfl
  | k + 1 => by
    cases b
    · show 0 + (comb false k).sz + 1 = k + 1
      rw [comb_sz false k]; omega
    · show (comb true k).sz + 0 + 1 = k + 1
      rw [comb_sz true k]
def spComb (Ts : List (Addr × Str)) : Sp := fun vs H Q _ => ∃ (n : Nat) (b : Bool), vs = [.int (n : Nat), .bl b] ∧ n ≤ 100 ∧ ∀ u H', Kp Ts [] H H' → TA H' (comb b n) u → Q u H'
theorem ok40 (X : TX K mg) : FnOk P w K mg base CX0 1 X.f40 X.d40 ["forks", "is_left"] (spComb Ts) := by
  refine X.D40.F.ok sc40 (fun vs H Q E h => by obtain ⟨n, b, rfl, _⟩ := h; rfl) (fun cdv A outer s H vs Q E hr h => ?_)
  obtain ⟨n, b, rfl, hn, q⟩ := h
  refine ⟨_, pss_cons (ps_set (i := 2) sc40.nd rfl (Or.inl rfl) (pe_tup pa_nil))
    (pss_cons (ps_for PassesOwn.never rfl (pi_range1 rfl X.n_range (pa_cons (pv 0) pa_nil)) (pg_name (i := 3) sc40.nd rfl (Or.inl rfl))
      (pss_one (ps_set (i := 2) sc40.nd rfl (Or.inl rfl) (pe_ifExp (pt_val (pv 1)) (pe_tup (pa_cons (pv 2) (pa_cons (pe_tup pa_nil) pa_nil))) (pe_tup (pa_cons (pe_tup pa_nil) (pa_cons (pv 2) pa_nil)))))))
    (pss_one (ps_ret (pv 2)))), ?_⟩
  refine ⟨(by show 0 ≤ sizeLine; decide), fun p hp => ?_⟩
  refine ⟨_, rfl, (n : Int), rfl, by omega, by omega, ?_⟩
  refine for_range (n := n) (lo := 0) (fun i σ H' => ∃ u tv, σ = [some (.int (n : Nat)), some (.bl b), some u, tv] ∧ TA H' (comb b i) u ∧ Kp Ts [] H H') ⟨_, _, rfl, .leaf upd_same, .new hp⟩ (fun i σ H1 hi hP => ?_) (fun σ H1 hP => ?_)
  · obtain ⟨u, tv, rfl, hu, k1⟩ := hP
    refine ⟨_, rfl, b, rfl, ?_⟩
    refine ite2 (fun c => ?_) (fun c => ?_)
    · have c : b = true := c
      subst c
      refine ⟨_, rfl, (by show 0 ≤ sizeLine; decide), fun p1 h1 => ⟨(by show 2 ≤ sizeLine; decide), fun p2 h2 => ?_⟩⟩
      exact ⟨_, _, rfl, .new h2 (hu.upd h1) (.leaf upd_same), (k1.news h1).news h2⟩
    · have c : b = false := Bool.eq_false_iff.mpr c
      subst c
      refine ⟨(by show 0 ≤ sizeLine; decide), fun p1 h1 => ⟨_, rfl, (by show 2 ≤ sizeLine; decide), fun p2 h2 => ?_⟩⟩
      exact ⟨_, _, rfl, .new h2 (.leaf upd_same) (hu.upd h1), (k1.news h1).news h2⟩
  · obtain ⟨u, tv, rfl, hu, k1⟩ := hP
    exact ⟨_, rfl, q u H1 k1 hu⟩
/-- factorial -/
def fac : Nat → Nat
  | 0 => 1
  | k + 1 => fac k * (k + 1)
def spNat (Ts : List (Addr × Str)) (g : Nat → Nat) (m : Nat) : Sp := fun vs H Q _ => ∃ n : Nat, vs = [.int (n : Nat)] ∧ n ≤ m ∧ Q (.int (g n : Nat)) H
theorem spNat.len {g : Nat → Nat} {m : Nat} : ∀ vs H Q E, spNat Ts g m vs H Q E → vs.length = 1 := fun vs H Q E h => by
  obtain ⟨v, rfl, _⟩ := h
  rfl
theorem ok41 (X : TX K mg) : FnOk P w K mg base CX0 1 X.f41 X.d41 ["many"] (spNat Ts fac 1000) := by
  refine X.D41.F.ok sc41 spNat.len (fun cdv A outer s H vs Q E hr h => ?_)
  obtain ⟨n, rfl, hn, q⟩ := h
  refine ⟨_, pss_cons (ps_set (i := 1) sc41.nd rfl (Or.inl rfl) pe_int)
    (pss_cons (ps_for PassesOwn.never rfl (pi_range1 rfl X.n_range (pa_cons (pv 0) pa_nil)) (pg_name (i := 2) sc41.nd rfl (Or.inl rfl))
      (pss_one (ps_set (i := 1) sc41.nd rfl (Or.inl rfl) (pe_op op_mul (pv 1) (pe_op op_add (pv 2) pe_int)))))
    (pss_one (ps_ret (pv 1)))), ?_⟩
  refine ⟨_, rfl, (n : Int), rfl, by omega, by omega, ?_⟩
  refine for_range (n := n) (lo := 0) (fun i σ H' => ∃ tv, σ = [some (.int (n : Nat)), some (.int (fac i : Nat)), tv] ∧ H' = H) ⟨_, rfl, rfl⟩ (fun i σ H1 hi hP => ?_) (fun σ H1 hP => ?_)
  · obtain ⟨tv, rfl, rfl⟩ := hP
    refine ⟨_, rfl, _, rfl, _, _, rfl, rfl, _, _, rfl, rfl, .inr ⟨by omega, by omega⟩, ?_⟩
    refine ⟨some (.int (0 + (i : Int))), ?_, rfl⟩
    have e : (fac i : Int) * ((0 : Int) + (i : Int) + 1) = ((fac (i + 1) : Nat) : Int) := by
      show _ = ((fac i * (i + 1) : Nat) : Int)
      rw [Int.natCast_mul, Int.zero_add]
      rfl
    show [_, some (V.int ((fac i : Int) * ((0 : Int) + (i : Int) + 1))), _] = _
    rw [e]
  · obtain ⟨tv, rfl, rfl⟩ := hP
    exact ⟨_, rfl, q⟩
/-- catalan -/
theorem ok26 (X : TX K mg) : FnOk P w K mg base CX0 1 X.f26 X.d26 ["many"] (spNat Ts cat 1000) := by
  refine X.D26.F.ok sc26 spNat.len (fun cdv A outer s H vs Q E hr h => ?_)
  obtain ⟨n, rfl, hn, q⟩ := h
  refine ⟨_, pss_cons (ps_set (i := 1) sc26.nd rfl (Or.inl rfl) pe_int)
    (pss_cons (ps_for PassesOwn.never rfl (pi_range1 rfl X.n_range (pa_cons (pv 0) pa_nil)) (pg_name (i := 2) sc26.nd rfl (Or.inl rfl))
      (pss_one (ps_set (i := 1) sc26.nd rfl (Or.inl rfl) (pe_op op_fdiv (pe_op op_mul (pe_op op_mul (pv 1) pe_int) (pe_op op_add (pe_op op_mul pe_int (pv 2)) pe_int)) (pe_op op_add (pv 2) pe_int)))))
    (pss_one (ps_ret (pv 1)))), ?_⟩
  refine ⟨_, rfl, (n : Int), rfl, by omega, by omega, ?_⟩
  refine for_range (n := n) (lo := 0) (fun i σ H' => ∃ tv, σ = [some (.int (n : Nat)), some (.int (cat i : Nat)), tv] ∧ H' = H) ⟨_, rfl, rfl⟩ (fun i σ H1 hi hP => ?_) (fun σ H1 hP => ?_)
  · obtain ⟨tv, rfl, rfl⟩ := hP
    refine ⟨_, rfl, _, _, rfl, rfl, .inr ⟨by decide, by decide⟩, _, rfl, _, _, rfl, rfl, .inl ⟨by decide, by decide⟩, _, _, rfl, rfl, _, _, rfl, rfl, .inr ⟨by omega, by omega⟩, _, rfl, _, _, rfl, rfl, _, _, rfl, rfl, ⟨by omega, by omega⟩, ?_⟩
    refine ⟨some (.int (0 + (i : Int))), ?_, rfl⟩
    have e : (cat i : Int) * 2 * (2 * ((0 : Int) + (i : Int)) + 1) / ((0 : Int) + (i : Int) + 2) = ((cat (i + 1) : Nat) : Int) := by
      show _ = ((cat i * 2 * (2 * i + 1) / (i + 2) : Nat) : Int)
      rw [Int.natCast_ediv, Int.natCast_mul, Int.natCast_mul, Int.zero_add]
      rfl
    show [_, some (V.int ((cat i : Int) * 2 * (2 * ((0 : Int) + (i : Int)) + 1) / ((0 : Int) + (i : Int) + 2))), _] = _
    rw [e]
  · obtain ⟨tv, rfl, rfl⟩ := hP
    exact ⟨_, rfl, q⟩
end
end K43

/-! D4: number_by, lies_below. -/
namespace K43
open PySem L2
theorem iv_snoc (l : List Nat) (x : Nat) : iv (l ++ [x]) = iv l ++ [.int (x : Nat)] := iv_app l [x]
theorem cat_small : ∀ k, k ≤ 24 → cat k < 2 ^ 63 := by decide +kernel
theorem iv_int (l : List Nat) : iv l = (l.map fun (x : Nat) => (x : Int)).map V.int := by
  unfold iv
  rw [List.map_map]
  rfl
theorem sum_int : ∀ l : List Nat, (l.map fun (x : Nat) => (x : Int)).sum = ((l.sum : Nat) : Int)
  | [] => rfl
  | x :: l => by
    rw [List.map_cons, List.sum_cons, List.sum_cons, sum_int l, Int.natCast_add]
section
variable {P : Program} {w : World} {K : PySem.W.Frag} {mg : Str → Option Value} {base : Heap} {Ts : List (Addr × Str)}
abbrev catF (a b : T) (k : Nat) : Nat := cat k * cat (a.sz + b.sz - k)
/-- number_by -/
def spNum (Ts : List (Addr × Str)) (n : Nat) : Sp := fun vs H Q _ => ∃ v t, vs = [v] ∧ TA H t v ∧ t.sz < n ∧ t.sz ≤ 20 ∧ ∀ H', Kp Ts [] H H' → Q (.int (num t : Nat)) H'
theorem ok28 (X : TX K mg) : ∀ n : Nat, n ≤ 50 → FnOk P w K mg base CX0 (n + 60) X.f28 X.d28 ["tree"] (spNum Ts n)
  | 0, _ => ok_none fun vs H Q E h => by
    obtain ⟨v, t, _, _, z, _⟩ := h
    exact absurd z (Nat.not_lt_zero _)
  | n + 1, hn => by
    have G := ok28 X n (by omega)
    have GF := ok21 (P := P) (w := w) (base := base) (Ts := Ts) X 60
    have GC := ok26 (P := P) (w := w) (base := base) (Ts := Ts) X
    refine X.D28.F.ok sc28 (fun vs H Q E h => by obtain ⟨v, t, rfl, _⟩ := h; rfl) (fun cdv A outer s H vs Q E hr h => ?_)
    obtain ⟨v, t, rfl, ht, hn, hz, q⟩ := h
    have hr1 : Room 1 (A.deeper (PyProof.Rows.envOfC "number_by" (defScope s28) s.heap.objs.size X.f28 cdv)) := hr.mono (by omega)
    refine ⟨_, pss_cons (ps_if (pt_isl hr.units (pv 0)) (pss_one (ps_ret pe_int)) pss_nil)
      (pss_cons (ps_asg (pe_tup (pa_cons (pe_call GF (hr.mono (by omega)) rfl X.D21.g X.D21.F.kp X.D21.b .nil pass0 (pa_cons (pe_ix ix_tup (pv 0) pe_int (fun _ _ => rfl)) pa_nil))
          (pa_cons (pe_call GF (hr.mono (by omega)) rfl X.D21.g X.D21.F.kp X.D21.b .nil pass0 (pa_cons (pe_ix ix_tup (pv 0) pe_int (fun _ _ => rfl)) pa_nil)) pa_nil)))
        (pg_tup rfl (pgs_cons (pg_name (i := 1) sc28.nd rfl (Or.inr rfl)) (pgs_cons (pg_name (i := 2) sc28.nd rfl (Or.inr rfl)) pgs_nil))))
      (pss_cons (ps_set (i := 3) sc28.nd rfl (Or.inl rfl) (pe_callB (cr_sum rfl) rfl X.n_sum (by decide +kernel) (pa_cons
        (pe_lc (own := [("one", 4)]) (g := gName 4) (tt := tYes) rfl sc28.nd (pi_range1 rfl X.n_range (pa_cons (pv 1) pa_nil)) (blkOk_by (N := ["tree", "left", "right", "ahead", "one"]) (sc := defScope s28) (by decide +kernel))
          (fun _ _ _ _ _ => pg_name (i := 4) sc28.nd rfl (Or.inl rfl)) (fun _ _ _ _ _ => pts_nil)
          (fun _ _ _ _ _ => pe_op op_mul (pe_call GC hr1 rfl X.D26.g X.D26.F.kp X.D26.b .nil pass0 (pa_cons (pv 4) pa_nil))
            (pe_call GC hr1 rfl X.D26.g X.D26.F.kp X.D26.b .nil pass0 (pa_cons (pe_op op_sub (pe_op op_add (pv 1) (pv 2)) (pv 4)) pa_nil)))) pa_nil)))
      (pss_one (ps_ret (pe_op op_add (pe_op op_add (pv 3) (pe_op op_mul
          (pe_call G hr rfl X.D28.g X.D28.F.kp X.D28.b .nil pass0 (pa_cons (pe_ix ix_tup (pv 0) pe_int (fun _ _ => rfl)) pa_nil))
          (pe_call GC hr1 rfl X.D26.g X.D26.F.kp X.D26.b .nil pass0 (pa_cons (pv 2) pa_nil))))
        (pe_call G hr rfl X.D28.g X.D28.F.kp X.D28.b .nil pass0 (pa_cons (pe_ix ix_tup (pv 0) pe_int (fun _ _ => rfl)) pa_nil))))))), ?_⟩
    refine ⟨_, rfl, t, ht, by omega, fun H1 k1 => ?_⟩
    have k1' := k1 Ts
    refine ite2 (fun c => ?_) (fun c => ?_)
    · rw [beqT c] at q
      exact q H1 k1'
    obtain ⟨x, y, rfl⟩ := beqF c
    obtain ⟨a, u, w', rfl, ha, hx, hy⟩ := ht.kp k1'
    have hn' : x.sz + y.sz + 1 < n + 1 := hn
    have hz' : x.sz + y.sz + 1 ≤ 20 := hz
    refine ⟨_, rfl, a, _, 0, u, rfl, rfl, SqT.of ha, rfl, ?_⟩
    refine ⟨u, x, rfl, hx, by omega, by omega, fun H2 k2 => ?_⟩
    refine ⟨_, rfl, a, _, 1, w', rfl, rfl, SqT.of (k2.tup _ _ ha), rfl, ?_⟩
    refine ⟨w', y, rfl, hy.kp k2, by omega, by omega, fun H3 k3 => ?_⟩
    refine ⟨(by show 2 ≤ sizeLine; decide), fun p hp => ?_⟩
    refine ⟨p, _, rfl, SqT.of upd_same, rfl, _, _, rfl, _, _, rfl, rfl, ?_⟩
    -- ahead
    have k13 := (k1'.trans (k2.trans k3)).news (o := .tup [.int (x.sz : Nat), .int (y.sz : Nat)]) hp
    refine ⟨_, rfl, (x.sz : Int), rfl, by omega, by omega, fun D hD => ?_⟩
    refine lc_range (lo := 0) (n := x.sz) (fun i H' => H' = upd (upd H3 p (.tup [.int (x.sz : Nat), .int (y.sz : Nat)])) D (.lst (iv ((List.range i).map (catF x y))))) rfl (fun i H' hi hP => ?_) (fun H' hP => ?_)
    · subst hP
      refine ⟨rfl, ?_⟩
      refine ⟨_, rfl, i, ?_, by omega, ?_⟩
      · show [V.int ((0 : Int) + (i : Int))] = [V.int ((i : Nat) : Int)]
        rw [Int.zero_add]
      refine ⟨_, rfl, _, rfl, _, _, rfl, rfl, _, rfl, _, _, rfl, rfl, ?_⟩
      refine ⟨x.sz + y.sz - i, ?_, by omega, ?_⟩
      · show [V.int ((x.sz : Int) + (y.sz : Int) - ((0 : Int) + (i : Int)))] = [V.int ((x.sz + y.sz - i : Nat) : Int)]
        have e : (x.sz : Int) + (y.sz : Int) - ((0 : Int) + (i : Int)) = ((x.sz + y.sz - i : Nat) : Int) := by omega
        rw [e]
      refine ⟨_, _, rfl, rfl, .inl ?_, ?_⟩
      · have := cat_small i (by omega)
        constructor <;> omega
      refine ⟨_, upd_same, ?_, ?_⟩
      · rw [iv_len, List.length_map, List.length_range]
        exact small1000 (by omega)
      · rw [upd_upd, List.range_succ, List.map_append, List.map_singleton, iv_snoc]
        show upd _ D (.lst (iv ((List.range i).map (catF x y)) ++ [V.int ((cat i : Int) * (cat (x.sz + y.sz - i) : Int))])) = upd _ D (.lst (iv ((List.range i).map (catF x y)) ++ [V.int ((cat i * cat (x.sz + y.sz - i) : Nat) : Int)]))
        rw [Int.natCast_mul]
    · subst hP
      have kD : Kp Ts [] (upd H3 p (.tup [.int (x.sz : Nat), .int (y.sz : Nat)])) (upd (upd H3 p (.tup [.int (x.sz : Nat), .int (y.sz : Nat)])) D (.lst (iv ((List.range x.sz).map (catF x y))))) := .new hD
      have ha4 := kD.tup _ _ ((Kp.new (Ts := Ts) (L := []) hp).tup _ _ (k3.tup _ _ (k2.tup _ _ ha)))
      have k4 := k2.trans (k3.trans ((Kp.new hp).trans kD))
      refine ⟨D, ((List.range x.sz).map (catF x y)).map (fun (x : Nat) => (x : Int)), rfl, ?_, ?_⟩
      · rw [← iv_int]
        exact SqL.of upd_same
      rw [sum_int]
      refine ⟨_, rfl, _, rfl, a, _, 0, u, rfl, rfl, SqT.of ha4, rfl, ?_⟩
      refine ⟨u, x, rfl, hx.kp k4, by omega, by omega, fun H5 k5 => ?_⟩
      refine ⟨_, rfl, y.sz, rfl, by omega, ?_⟩
      refine ⟨_, _, rfl, rfl, .inr ?_, _, _, rfl, rfl, ?_⟩
      · have := cat_small y.sz (by omega)
        constructor <;> omega
      refine ⟨_, rfl, a, _, 1, w', rfl, rfl, SqT.of (k5.tup _ _ ha4), rfl, ?_⟩
      refine ⟨w', y, rfl, (hy.kp k4).kp k5, by omega, by omega, fun H6 k6 => ?_⟩
      refine ⟨_, _, rfl, rfl, ?_⟩
      have e : (((List.range x.sz).map (catF x y)).sum : Int) + (num x : Int) * (cat y.sz : Int) + (num y : Int) = ((num (.n x y) : Nat) : Int) := by
        show _ = ((((List.range x.sz).map fun i => cat i * cat (x.sz + y.sz - i)).sum + num x * cat y.sz + num y : Nat) : Int)
        rw [Int.natCast_add, Int.natCast_add, Int.natCast_mul]
      exact Qi (Q := Q) (q H6 (k1'.trans (k4.trans (k5.trans k6)))) e

def leB (xs ys : List Nat) : List Bool := List.zipWith (fun x y => decide (x ≤ y)) xs ys
theorem leB_all : ∀ xs ys : List Nat, (leB xs ys).all id = leAll xs ys
  | [], _ => by cases ‹List Nat› <;> rfl
  | _ :: _, [] => rfl
  | x :: xs, y :: ys => by
    show (decide (x ≤ y) && (leB xs ys).all id) = (decide (x ≤ y) && leAll xs ys)
    rw [leB_all xs ys]
theorem iv_get {l : List Nat} {i : Nat} {x : V} (h : (iv l)[i]? = some x) : ∃ k, l[i]? = some k ∧ x = .int (k : Nat) := by
  unfold iv at h
  rw [List.getElem?_map] at h
  cases e : l[i]? with
  | none => rw [e] at h; cases h
  | some k => rw [e] at h; cases h; exact ⟨k, rfl, rfl⟩
/-- lies_below, is_below: two trees -/
def spBel (Ts : List (Addr × Str)) (m : Nat) : Sp := fun vs H Q _ => ∃ u v a b, vs = [u, v] ∧ TA H a u ∧ TA H b v ∧ a.sz ≤ m ∧ b.sz ≤ m ∧ ∀ H', Kp Ts [] H H' → Q (.bl (below a b)) H'
theorem ok32 (X : TX K mg) : FnOk P w K mg base CX0 112 X.f32 X.d32 ["one", "other"] (spBel Ts 40) := by
  have GR := ok22 (P := P) (w := w) (base := base) (Ts := Ts) X 50 (by omega)
  refine X.D32.F.ok sc32 (fun vs H Q E h => by obtain ⟨u, v, a, b, rfl, _⟩ := h; rfl) (fun cdv A outer s H vs Q E hr h => ?_)
  obtain ⟨u, v, ta, tb, rfl, hu, hv, zu, zv, q⟩ := h
  have hr1 : Room 110 (A.deeper (PyProof.Rows.envOfC "lies_below" (defScope s32) s.heap.objs.size X.f32 cdv)) := hr.mono (by omega)
  refine ⟨_, pss_one (ps_ret (pe_callB (cr_all rfl) rfl X.n_all (by decide +kernel) (pa_cons
    (pe_lc (own := [("mine", 2), ("yours", 3)]) (g := gTup K 2 (gCons (gName 2) (gCons (gName 3) gNil))) (tt := tYes) rfl sc32.nd
      (RZ.pi_zipA rfl X.n_zip (pa_cons (pe_call GR hr1 rfl X.D22.g X.D22.F.kp X.D22.b .nil pass0 (pa_cons (pv 0) pa_nil)) (pa_cons (pe_call GR hr1 rfl X.D22.g X.D22.F.kp X.D22.b .nil pass0 (pa_cons (pv 1) pa_nil)) pa_nil)))
      (blkOk_by (N := ["one", "other", "mine", "yours"]) (sc := defScope s32) (by decide +kernel))
      (fun _ _ _ _ _ => pg_tup rfl (pgs_cons (pg_name (i := 2) sc32.nd rfl (Or.inl rfl)) (pgs_cons (pg_name (i := 3) sc32.nd rfl (Or.inl rfl)) pgs_nil)))
      (fun _ _ _ _ _ => pts_nil) (fun _ _ _ _ _ => pe_cmpR op_le (pv 2) (pv 3) (nomark _))) pa_nil))), ?_⟩
  refine ⟨_, rfl, u, ta, rfl, hu, by omega, by omega, fun r1 H1 k1 e1 => ?_⟩
  refine ⟨_, rfl, v, tb, rfl, hv.kp k1, by omega, by omega, fun r2 H2 k2 e2 => ?_⟩
  have e1' := k2.tup _ _ e1
  refine ⟨r1, r2, _, _, rfl, .inr ⟨SqT.of e1', SqT.of e2, fun D hD => ?_⟩⟩
  have kD : Kp Ts [] H2 (upd H2 D (.lst [])) := .new hD
  refine lc_any (n := (leB ta.rch tb.rch).length) (fun i H' => H' D = some (.lst (((leB ta.rch tb.rch).take i).map V.bl)) ∧ Kp Ts [D] (upd H2 D (.lst [])) H') ⟨upd_same, .refl⟩ (fun i H' hi hP => ?_) (fun H' hP => ?_) (fun i H' x H'' hi hP hy => ?_) (fun H' hP => ?_)
  · obtain ⟨_, k3⟩ := hP
    have hi' : i < min ta.rch.length tb.rch.length := by rw [leB, List.length_zipWith] at hi; exact hi
    have l1 : i < (iv ta.rch).length := by rw [iv_len]; omega
    have l2 : i < (iv tb.rch).length := by rw [iv_len]; omega
    exact ⟨_, _, _, _, SqT.of (k3.tup _ _ (kD.tup _ _ e1')), SqT.of (k3.tup _ _ (kD.tup _ _ e2)), List.getElem?_eq_getElem l1, List.getElem?_eq_getElem l2⟩
  · obtain ⟨_, k3⟩ := hP
    refine ⟨_, _, SqT.of (k3.tup _ _ (kD.tup _ _ e1')), SqT.of (k3.tup _ _ (kD.tup _ _ e2)), ?_⟩
    rw [iv_len, iv_len, leB, List.length_zipWith]
    omega
  · obtain ⟨e3, k3⟩ := hP
    obtain ⟨tp, x1, y1, rfl, hT, rfl, f1, f2⟩ := hy
    obtain ⟨k, hk, rfl⟩ := iv_get (f1 _ (SqT.of (k3.tup _ _ (kD.tup _ _ e1'))))
    obtain ⟨j, hj, rfl⟩ := iv_get (f2 _ (SqT.of (k3.tup _ _ (kD.tup _ _ e2))))
    refine ⟨tp, _, rfl, SqT.of upd_same, rfl, _, _, rfl, _, _, rfl, rfl, rfl, ?_⟩
    refine ⟨_, rfl, _, rfl, _, _, rfl, rfl, _, (upd_ne (ne_of_none e3 hT)).trans e3, ?_, ?_, ?_⟩
    · rw [List.length_map, List.length_take]
      have := rch_len ta
      have h2 : (leB ta.rch tb.rch).length ≤ ta.rch.length := by rw [leB, List.length_zipWith]; omega
      exact small1000 (by omega)
    · have eb : (leB ta.rch tb.rch)[i]? = some (decide (k ≤ j)) := by
        rw [leB, List.getElem?_zipWith, hk, hj]
      have ed : decide ((k : Int) ≤ (j : Int)) = decide (k ≤ j) := decide_eq_decide.mpr (by omega)
      rw [upd_same, List.take_add_one, eb]
      show some (HO.lst (((leB ta.rch tb.rch).take i).map V.bl ++ [V.bl (decide ((k : Int) ≤ (j : Int)))])) = _
      rw [ed, List.map_append]
      rfl
    · exact (k3.news hT).trans (.set ((upd_ne (ne_of_none e3 hT)).trans e3) Mu.lst (by simp))
  · obtain ⟨e3, k3⟩ := hP
    rw [List.take_length] at e3
    refine ⟨D, _, rfl, SqL.of e3, ?_⟩
    rw [leB_all]
    exact q H' ((k1.trans k2).hide ((k1.trans k2).dom _ hD) ((Kp.new hD).trans k3))
end
end K43

/-! D5: is_whole, need_number, tree_size, fits_tree, need_tree, need_pair. -/
namespace K43
open PySem L2
section
variable {P : Program} {w : World} {K : PySem.W.Frag} {mg : Str → Option Value} {base : Heap} {Ts : List (Addr × Str)}
/-- is_whole of None, a bool, an int, a text -/
def wholeV : V → Int → Int → Bool
  | .int i, lo, hi => decide (lo ≤ i) && decide (i ≤ hi)
  | _, _, _ => false
def simpV : V → Bool
  | .non => true
  | .bl _ => true
  | .int _ => true
  | .str _ => true
  | _ => false
def spWhole : Sp := fun vs H Q _ => ∃ (x : V) (lo hi : Int), vs = [x, .int lo, .int hi] ∧ simpV x = true ∧ Q (.bl (wholeV x lo hi)) H
theorem ok14 (X : TX K mg) : FnOk P w K mg base CX0 1 X.f14 X.d14 ["value", "low", "high"] spWhole := by
  refine X.D14.F.ok sc14 (fun vs H Q E h => by obtain ⟨x, lo, hi, rfl, _⟩ := h; rfl) (fun cdv A outer s H vs Q E hr h => ?_)
  obtain ⟨x, lo, hi, rfl, hx, q⟩ := h
  refine ⟨_, pss_one (ps_ret (pe_and
      (pe_callB call_isi rfl X.n_isinstance (by decide +kernel) (pa_cons (pv 0) (pa_cons (pe_bltn (v := .ty "int") rfl X.n_int (by decide +kernel) rfl) pa_nil)))
      (pe_and (pe_not (pe_callB call_isi rfl X.n_isinstance (by decide +kernel) (pa_cons (pv 0) (pa_cons (pe_bltn (v := .ty "bool") rfl X.n_bool (by decide +kernel) rfl) pa_nil))))
      (pe_one (pe_chain op_le op_le (pv 1) (pv 0) (pv 2)))))), ?_⟩
  cases x with
  | non => exact ⟨_, rfl, _, _, _, _, _, rfl, .ty _, .base .non, kit_ty (r := false) (by decide +kernel), _, rfl, q⟩
  | str z => exact ⟨_, rfl, _, _, _, _, _, rfl, .ty _, .base (.str z), kit_ty (r := false) (by decide +kernel), _, rfl, q⟩
  | bl b =>
    refine ⟨_, rfl, _, _, _, _, _, rfl, .ty _, .base (.bl b), kit_ty (r := true) (by decide +kernel), _, rfl, ?_⟩
    exact ⟨_, rfl, _, _, _, _, _, rfl, .ty _, .base (.bl b), kit_ty (r := true) (by decide +kernel), _, rfl, _, rfl, q⟩
  | int i =>
    refine ⟨_, rfl, _, _, _, _, _, rfl, .ty _, .base (.int i), kit_ty (r := true) (by decide +kernel), _, rfl, ?_⟩
    refine ⟨_, rfl, _, _, _, _, _, rfl, .ty _, .base (.int i), kit_ty (r := false) (by decide +kernel), _, rfl, _, rfl, ?_⟩
    refine ⟨_, rfl, _, rfl, _, _, rfl, rfl, _, rfl, ?_⟩
    have q' : Q (.bl (decide (lo ≤ i) && decide (i ≤ hi))) H := q
    refine ite2 (fun c => ?_) (fun c => ?_)
    · rw [c, Bool.true_and] at q'
      exact ⟨_, rfl, _, _, rfl, rfl, q'⟩
    · have c' : decide (lo ≤ i) = false := Bool.eq_false_iff.mpr c
      rw [c', Bool.false_and] at q'
      exact q'
  | byt _ => cases hx
  | flt _ => cases hx
  | ref _ => cases hx
  | ty _ => cases hx
/-- need_number -/
def spNN (C : Addr) : Sp := fun vs H Q E => ∃ (x : V) (lo hi : Int), vs = [x, .int lo, .int hi] ∧ simpV x = true ∧ (wholeV x lo hi = true → Q .non H) ∧ (wholeV x lo hi = false → E (.ref C) none H)
theorem ok15 (X : TX K mg) : FnOk P w K mg base (L2.CX P w) 3 X.f15 X.d15 ["value", "low", "high"] (spNN X.k4) := by
  have GW := ok14 (P := P) (w := w) (base := base) X
  refine X.D15.F.okX sc15 (fun vs H Q E h => by obtain ⟨x, lo, hi, rfl, _⟩ := h; rfl) (fun cdv A outer s H vs Q E hr h => ?_)
  obtain ⟨x, lo, hi, rfl, hx, q1, q2⟩ := h
  refine ⟨_, pss_one (ps_if (pt_not (pt_val (pe_call GW (hr.mono (by omega)) rfl X.D14.g X.D14.F.kp X.D14.b .nil pass0 (pa_cons (pv 0) (pa_cons (pv 1) (pa_cons (pv 2) pa_nil))))))
    (pss_one (ps_raise rfl (takes_of rfl rfl rfl rfl) (pmk_own PySem.F.excBase_ValueError X.K4.ex X.K4.g X.K4.kp (raises_own X.K4.bP X.K4.tP) rfl))) pss_nil), ?_⟩
  refine ⟨_, rfl, _, rfl, _, rfl, x, lo, hi, rfl, hx, _, rfl, ?_⟩
  cases c : wholeV x lo hi with
  | true => exact iteF (q1 c)
  | false => exact iteT (q2 c)
/-- tree_size -/
def spTs (Ts : List (Addr × Str)) (n : Nat) : Sp := fun vs H Q _ => ∃ (v : V) (k : Int), vs = [v, .int k] ∧
  ((∃ t, TA H t v ∧ t.sz < n ∧ t.sz ≤ 60 ∧ (t.sz : Int) ≤ k ∧ ∀ H', Kp Ts [] H H' → Q (.int (t.sz : Nat)) H') ∨ (0 < n ∧ v = .non ∧ Q .non H))
theorem ok19 (X : TX K mg) : ∀ n : Nat, FnOk P w K mg base CX0 n X.f19 X.d19 ["value", "left"] (spTs Ts n)
  | 0 => ok_none fun vs H Q E h => by
    obtain ⟨v, k, _, h⟩ := h
    rcases h with ⟨t, _, z, _⟩ | ⟨z, _⟩
    · exact absurd z (Nat.not_lt_zero _)
    · exact absurd z (Nat.not_lt_zero _)
  | n + 1 => by
    have G := ok19 X n
    refine X.D19.F.ok sc19 (fun vs H Q E h => by obtain ⟨v, k, rfl, _⟩ := h; rfl) (fun cdv A outer s H vs Q E hr h => ?_)
    obtain ⟨v, k, rfl, h⟩ := h
    refine ⟨_, pss_cons (ps_if (PW.pt (pw_or (pt_not (pt_val (pe_callB call_isi rfl X.n_isinstance (by decide +kernel) (pa_cons (pv 0) (pa_cons (pe_bltn (v := .ty "tuple") rfl X.n_tuple (by decide +kernel) rfl) pa_nil)))))
        (pw_or (pt_cmpR op_notIn_seq (pe_callB call_len_seq rfl X.n_len PySem.boot_len (pa_cons (pv 0) pa_nil)) (pe_tup (pa_cons pe_int (pa_cons pe_int pa_nil))) rfl)
        (pw_or1 (PW.pt (pw_and (pt_nsl hr.units (pv 0)) (pw_and1 (pt_cmpR op_eq (pv 1) pe_int (nomark _)))))))))
        (pss_one (ps_ret pe_non)) pss_nil)
      (pss_cons (ps_if (pt_isl hr.units (pv 0)) (pss_one (ps_ret pe_int)) pss_nil)
      (pss_cons (ps_set (i := 2) sc19.nd rfl (Or.inl rfl) (pe_call G hr rfl X.D19.g X.D19.F.kp X.D19.b .nil pass0 (pa_cons (pe_ix ix_tup (pv 0) pe_int (fun _ _ => rfl)) (pa_cons (pe_op op_sub (pv 1) pe_int) pa_nil))))
      (pss_cons (ps_set (i := 3) sc19.nd rfl (Or.inl rfl) (pe_ifExp (pt_cmpR op_isN (pv 2) pe_non (nomark _)) pe_non
        (pe_call G hr rfl X.D19.g X.D19.F.kp X.D19.b .nil pass0 (pa_cons (pe_ix ix_tup (pv 0) pe_int (fun _ _ => rfl)) (pa_cons (pe_op op_sub (pe_op op_sub (pv 1) pe_int) (pv 2)) pa_nil)))))
      (pss_one (ps_ret (pe_ifExp (pt_cmpR op_isN (pv 3) pe_non (nomark _)) pe_non (pe_op op_add (pe_op op_add (pv 2) (pv 3)) pe_int))))))), ?_⟩
    rcases h with ⟨t, ht, hn, hz, hk, q⟩ | ⟨_, rfl, q⟩
    · obtain ⟨a, xs, rfl, ha⟩ := ht.rf
      refine ⟨_, rfl, _, _, _, _, _, rfl, .ty _, .base (.tup ha), kit_ty (r := true) (by decide +kernel), _, rfl, ?_⟩
      refine ⟨_, rfl, a, _, rfl, .inr (SqT.of ha), (by show 2 ≤ sizeLine; decide), fun p hp => ?_⟩
      have kp1 : Kp Ts [] H (upd H p (.tup [.int 0, .int 2])) := .new hp
      refine ⟨p, _, rfl, .inr (SqT.of upd_same), rfl, rfl, _, rfl, ?_⟩
      have hl : (if true = true then !inV (V.int (xs.length : Nat)) [.int 0, .int 2] else inV (V.int (xs.length : Nat)) [.int 0, .int 2]) = false := by
        cases t with
        | l =>
          obtain ⟨a', e, h'⟩ := ht
          cases e
          rw [ha] at h'; cases h'
          rfl
        | n x y =>
          obtain ⟨a', u, w', e, h', _⟩ := ht
          cases e
          rw [ha] at h'; cases h'
          rfl
      rw [hl]
      refine iteF ?_
      have ht1 := ht.kp kp1
      refine ⟨_, rfl, t, ht1, hz, fun H2 k2 => ?_⟩
      have hk2 := k2 Ts
      -- value != () and left == 0 is false
      cases t with
      | l =>
        refine iteF (iteF ?_)
        refine ⟨_, rfl, .l, ht1.kp hk2, hz, fun H3 k3 => ?_⟩
        exact iteT (q H3 (kp1.trans (hk2.trans (k3 Ts))))
      | n x y =>
        have hz' : x.sz + y.sz + 1 ≤ 60 := hz
        have hn' : x.sz + y.sz + 1 < n + 1 := hn
        have hk' : ((x.sz + y.sz + 1 : Nat) : Int) ≤ k := hk
        refine iteT ⟨_, rfl, rfl, _, rfl, ?_⟩
        have e0 : decide (V.int k = V.int 0) = false := decide_eq_false fun z => by injection z with z; omega
        rw [e0]
        refine iteF ?_
        refine ⟨_, rfl, .n x y, ht1.kp hk2, hz, fun H3 k3 => ?_⟩
        refine iteF ?_
        obtain ⟨a', u, w', e, ha3, hx, hy⟩ := (ht1.kp hk2).kp (k3 Ts)
        cases e
        have k13 := kp1.trans (hk2.trans (k3 Ts))
        refine ⟨_, rfl, a, _, 0, u, rfl, rfl, SqT.of ha3, rfl, _, rfl, _, _, rfl, rfl, ?_⟩
        refine ⟨u, k - 1, rfl, .inl ⟨x, hx, by omega, by omega, by omega, fun H4 k4 => ?_⟩⟩
        refine ⟨_, rfl, rfl, _, rfl, iteF ?_⟩
        refine ⟨_, rfl, a, _, 1, w', rfl, rfl, SqT.of (k4.tup _ _ ha3), rfl, _, rfl, _, _, rfl, rfl, _, rfl, _, _, rfl, rfl, ?_⟩
        refine ⟨w', k - 1 - (x.sz : Nat), rfl, .inl ⟨y, hy.kp k4, by omega, by omega, by omega, fun H5 k5 => ?_⟩⟩
        refine ⟨_, rfl, rfl, _, rfl, iteF ?_⟩
        refine ⟨_, rfl, _, rfl, _, _, rfl, rfl, _, _, rfl, rfl, ?_⟩
        exact q H5 (k13.trans (k4.trans k5))
    · refine ⟨_, rfl, _, _, _, _, _, rfl, .ty _, .base .non, kit_ty (r := false) (by decide +kernel), _, rfl, ?_⟩
      exact iteT (iteT q)
end
end K43

/-! D6: fits_tree, need_tree, need_pair, is_below. -/
namespace K43
open PySem L2
section
variable {P : Program} {w : World} {K : PySem.W.Frag} {mg : Str → Option Value} {base : Heap} {Ts : List (Addr × Str)}
/-- a tree of at most 24 forks, or None -/
def treeOr (H : Hp) (v : V) : Option T → Prop
  | some t => TA H t v ∧ t.sz ≤ 24
  | none => v = .non
theorem treeOr.kp {L : List Addr} {H H' : Hp} {v : V} : ∀ {o : Option T}, treeOr H v o → Kp Ts L H H' → treeOr H' v o
  | some t, h, k => ⟨h.1.kp k, h.2⟩
  | none, h, _ => h
def spFits (Ts : List (Addr × Str)) : Sp := fun vs H Q _ => ∃ v o, vs = [v] ∧ treeOr H v o ∧ ∀ H', Kp Ts [] H H' → Q (.bl o.isSome) H'
theorem ok20 (X : TX K mg) : FnOk P w K mg base CX0 62 X.f20 X.d20 ["value"] (spFits Ts) := by
  have GS := ok19 (P := P) (w := w) (base := base) (Ts := Ts) X 60
  refine X.D20.F.ok sc20 (fun vs H Q E h => by obtain ⟨v, o, rfl, _⟩ := h; rfl) (fun cdv A outer s H vs Q E hr h => ?_)
  obtain ⟨v, o, rfl, ho, q⟩ := h
  refine ⟨_, pss_one (ps_ret (pe_cmpR op_notN (pe_call GS (hr.mono (by omega)) rfl X.D19.g X.D19.F.kp X.D19.b .nil pass0 (pa_cons (pv 0) (pa_cons (pe_glob (v := .int 24) rfl X.m18 ⟨_, rfl⟩) pa_nil))) pe_non (nomark _))), ?_⟩
  refine ⟨_, rfl, v, 24, rfl, ?_⟩
  cases o with
  | some t => exact .inl ⟨t, ho.1, by have := ho.2; omega, by have := ho.2; omega, by have := ho.2; omega, fun H' k => ⟨rfl, q H' k⟩⟩
  | none =>
    have e : v = .non := ho
    subst e
    exact .inr ⟨by omega, rfl, rfl, q H .refl⟩
/-- need_tree -/
def spNT (Ts : List (Addr × Str)) (C : Addr) : Sp := fun vs H Q E => ∃ v o, vs = [v] ∧ treeOr H v o ∧ ∀ H', Kp Ts [] H H' → if o.isSome = true then Q .non H' else E (.ref C) none H'
theorem ok23 (X : TX K mg) : FnOk P w K mg base (L2.CX P w) 64 X.f23 X.d23 ["value"] (spNT Ts X.k6) := by
  have GF := ok20 (P := P) (w := w) (base := base) (Ts := Ts) X
  refine X.D23.F.okX sc23 (fun vs H Q E h => by obtain ⟨v, o, rfl, _⟩ := h; rfl) (fun cdv A outer s H vs Q E hr h => ?_)
  obtain ⟨v, o, rfl, ho, q⟩ := h
  refine ⟨_, pss_one (ps_if (pt_not (pt_val (pe_call GF (hr.mono (by omega)) rfl X.D20.g X.D20.F.kp X.D20.b .nil pass0 (pa_cons (pv 0) pa_nil))))
    (pss_one (ps_raise rfl (takes_of rfl rfl rfl rfl) (pmk_own PySem.F.excBase_ValueError X.K6.ex X.K6.g X.K6.kp (raises_own X.K6.bP X.K6.tP) rfl))) pss_nil), ?_⟩
  refine ⟨_, rfl, v, o, rfl, ho, fun H' k => ⟨_, rfl, ?_⟩⟩
  have q' := q H' k
  cases o with
  | some t => exact iteF q'
  | none => exact iteT q'
/-- need_pair: what becomes of two values -/
def pairR (k5 k6 : Addr) (Q : Hp → Prop) (E : XK) (H : Hp) : Option T → Option T → Prop
  | none, _ => E (.ref k6) none H
  | some _, none => E (.ref k6) none H
  | some a, some b => if a.sz = b.sz then Q H else E (.ref k5) none H
def spNP (Ts : List (Addr × Str)) (k5 k6 : Addr) : Sp := fun vs H Q E => ∃ u v o p, vs = [u, v] ∧ treeOr H u o ∧ treeOr H v p ∧ ∀ H', Kp Ts [] H H' → pairR k5 k6 (Q .non) E H' o p
theorem ok24 (X : TX K mg) : FnOk P w K mg base (L2.CX P w) 66 X.f24 X.d24 ["one", "other"] (spNP Ts X.k5 X.k6) := by
  have GT := ok23 (P := P) (w := w) (base := base) (Ts := Ts) X
  have GF := ok21 (P := P) (w := w) (base := base) (Ts := Ts) X 60
  refine X.D24.F.okX sc24 (fun vs H Q E h => by obtain ⟨u, v, o, p, rfl, _⟩ := h; rfl) (fun cdv A outer s H vs Q E hr h => ?_)
  obtain ⟨u, v, o, p, rfl, ho, hp, q⟩ := h
  refine ⟨_, pss_cons (ps_expr (pe_call GT (hr.mono (by omega)) rfl X.D23.g X.D23.F.kp X.D23.b .nil (passes_call (takes_of rfl rfl rfl rfl) (fun _ _ _ _ h => h)) (pa_cons (pv 0) pa_nil)))
    (pss_cons (ps_expr (pe_call GT (hr.mono (by omega)) rfl X.D23.g X.D23.F.kp X.D23.b .nil (passes_call (takes_of rfl rfl rfl rfl) (fun _ _ _ _ h => h)) (pa_cons (pv 1) pa_nil)))
    (pss_one (ps_if (pt_cmpR op_ne (pe_call GF (hr.mono (by omega)) rfl X.D21.g X.D21.F.kp X.D21.b .nil pass0 (pa_cons (pv 0) pa_nil)) (pe_call GF (hr.mono (by omega)) rfl X.D21.g X.D21.F.kp X.D21.b .nil pass0 (pa_cons (pv 1) pa_nil)) (nomark _))
      (pss_one (ps_raise rfl (takes_of rfl rfl rfl rfl) (pmk_own PySem.F.excBase_ValueError X.K5.ex X.K5.g X.K5.kp (raises_own X.K5.bP X.K5.tP) rfl))) pss_nil))), ?_⟩
  refine ⟨_, rfl, u, o, rfl, ho, fun H1 k1 => ?_⟩
  cases o with
  | none => exact iteF (q H1 k1)
  | some a =>
    refine iteT ⟨_, rfl, v, p, rfl, hp.kp k1, fun H2 k2 => ?_⟩
    cases p with
    | none => exact iteF (q H2 (k1.trans k2))
    | some b =>
      refine iteT ⟨_, rfl, u, a, rfl, (ho.kp (k1.trans k2)).1, by have := ho.2; omega, by have := ho.2; omega, fun H3 k3 => ?_⟩
      refine ⟨_, rfl, v, b, rfl, (hp.kp (k1.trans (k2.trans k3))).1, by have := hp.2; omega, by have := hp.2; omega, fun H4 k4 => ?_⟩
      have q' : if a.sz = b.sz then Q .non H4 else E (.ref X.k5) none H4 := q H4 (k1.trans (k2.trans (k3.trans k4)))
      refine ⟨rfl, _, rfl, ?_⟩
      by_cases e : a.sz = b.sz
      · rw [if_pos e] at q'
        have e' : decide (V.int (a.sz : Nat) = V.int (b.sz : Nat)) = true := decide_eq_true (by rw [e])
        rw [e']
        exact iteF q'
      · rw [if_neg e] at q'
        have e' : decide (V.int (a.sz : Nat) = V.int (b.sz : Nat)) = false := decide_eq_false fun z => by injection z with z; omega
        rw [e']
        exact iteT q'
/-- is_below, of two trees of as many forks -/
def spIB (Ts : List (Addr × Str)) : Sp := fun vs H Q _ => ∃ u v a b, vs = [u, v] ∧ TA H a u ∧ TA H b v ∧ a.sz = b.sz ∧ a.sz ≤ 24 ∧ ∀ H', Kp Ts [] H H' → Q (.bl (below a b)) H'
theorem ok33 (X : TX K mg) : FnOk P w K mg base CX0 114 X.f33 X.d33 ["one", "other"] (spIB Ts) := by
  have GP := ok24 (P := P) (w := w) (base := base) (Ts := Ts) X
  have GB := ok32 (P := P) (w := w) (base := base) (Ts := Ts) X
  refine X.D33.F.ok sc33 (fun vs H Q E h => by obtain ⟨u, v, a, b, rfl, _⟩ := h; rfl) (fun cdv A outer s H vs Q E hr h => ?_)
  obtain ⟨u, v, a, b, rfl, hu, hv, he, hz, q⟩ := h
  refine ⟨_, pss_cons (ps_expr (pe_call GP (hr.mono (by omega)) rfl X.D24.g X.D24.F.kp X.D24.b .nil passL (pa_cons (pv 0) (pa_cons (pv 1) pa_nil))))
    (pss_one (ps_ret (pe_call GB (hr.mono (by omega)) rfl X.D32.g X.D32.F.kp X.D32.b .nil pass0 (pa_cons (pv 0) (pa_cons (pv 1) pa_nil))))), ?_⟩
  refine ⟨_, rfl, _, rfl, u, v, some a, some b, rfl, ⟨hu, hz⟩, ⟨hv, by omega⟩, fun H1 k1 => ?_⟩
  refine (if_pos he).mpr ?_
  exact ⟨_, rfl, _, rfl, u, v, a, b, rfl, hu.kp k1, hv.kp k1, by omega, by omega, fun H2 k2 => q H2 (k1.trans k2)⟩
end
end K43

/-! TD: dicts keyed by trees. -/
namespace K43
open PySem L2 PySem.Spec PyProof.Rows
def kT : T → NestedKey
  | .l => .tup []
  | .n a b => .tup [kT a, kT b]
theorem kT_inj : ∀ {a b : T}, kT a = kT b → a = b
  | .l, .l, _ => rfl
  | .l, .n _ _, e => by simp [kT] at e
  | .n _ _, .l, e => by simp [kT] at e
  | .n a b, .n c d, e => by
    simp only [kT, NestedKey.tup.injEq, List.cons.injEq, and_true] at e
    rw [kT_inj e.1, kT_inj e.2]
theorem kT_depth : ∀ t : T, (kT t).depth ≤ t.sz + 1
  | .l => by simp [kT, NestedKey.depth, NestedKey.depthAll, T.sz]
  | .n a b => by
    have h1 := kT_depth a
    have h2 := kT_depth b
    simp only [kT, NestedKey.depth, NestedKey.depthAll, T.sz]
    omega
theorem nest {P : Program} {w : World} {H : Hp} {h : Heap} (ok : HOk P w H h) : ∀ {t : T} {v : V} {u : Value}, TA H t v → RelV v u → NestedIs h (kT t) u
  | .l, _, _, ⟨a, e, ha⟩, r => by
    subst e
    cases (show _ = Value.ref a from r)
    obtain ⟨_, its, rv, o, h1, h2, n, h3⟩ := (show ObjOk P w H h a (.tup []) from ok a _ ha)
    cases rv
    exact .tup h1 h2 h3 .nil
  | .n x y, _, _, ⟨a, p, q, e, ha, hx, hy⟩, r => by
    subst e
    cases (show _ = Value.ref a from r)
    obtain ⟨_, its, rv, o, h1, h2, n, h3⟩ := (show ObjOk P w H h a (.tup [p, q]) from ok a _ ha)
    obtain ⟨u1, u2, rfl, r1, r2⟩ := vals2 rv
    exact .tup h1 h2 h3 (.cons (nest ok hx r1) (.cons (nest ok hy r2) .nil))
theorem key_is {P : Program} {w : World} {H : Hp} {h : Heap} (ok : HOk P w H h) {t : T} {a : Addr} (ht : TA H t (.ref a)) (z : t.sz ≤ 7) : (nestedKind P w).is h (kT t) a :=
  ⟨nest ok ht rfl, by have := kT_depth t; omega⟩

/-! ### entries -/
abbrev Ent := T × Addr × V
def lkE (t : T) : List Ent → Option V
  | [] => none
  | e :: r => if e.1.beq t then some e.2.2 else lkE t r
def ptE (t : T) (a : Addr) (v : V) : List Ent → List Ent
  | [] => [(t, a, v)]
  | e :: r => if e.1.beq t then (e.1, e.2.1, v) :: r else e :: ptE t a v r
abbrev RE := NestedKey × Addr × Value
abbrev PR : List Ent → List RE → Prop := Paired fun p q => q.1 = kT p.1 ∧ q.2.1 = p.2.1 ∧ RelV p.2.2 q.2.2
theorem key_dec {e t : T} {k : NestedKey} (h : k = kT e) : (k = kT t) ↔ e.beq t = true := by
  subst h
  exact ⟨fun z => T.beq_iff.mpr (kT_inj z), fun z => by rw [T.beq_iff.mp z]⟩
theorem PR.at {es : List Ent} {xs : List RE} (r : PR es xs) (t : T) : RelO (lkE t es) ((atKey xs (kT t)).map (·.2)) := by
  induction r with
  | nil => exact True.intro
  | @cons p q ps qs h _ ih =>
    obtain ⟨h1, h2, h3⟩ := h
    by_cases e : p.1.beq t = true
    · have e' := (key_dec (t := t) h1).mpr e
      have b : atKey (q :: qs) (kT t) = some q.2 := by simp [atKey, List.find?_cons, e']
      rw [b]
      simp only [lkE, e, if_true]
      exact h3
    · have e' : ¬ q.1 = kT t := fun z => e ((key_dec h1).mp z)
      have b : atKey (q :: qs) (kT t) = atKey qs (kT t) := by simp [atKey, List.find?_cons, e']
      rw [b]
      simp only [lkE, e]
      exact ih
theorem put_id {k : NestedKey} {u : Value} {xs : List RE} (h : k ∉ xs.map (·.1)) : xs.map (putAt k u) = xs := by
  induction xs with
  | nil => rfl
  | cons q qs ih =>
    rw [List.map_cons] at h
    rw [List.map_cons, ih (fun z => h (List.mem_cons_of_mem _ z))]
    unfold putAt
    rw [if_neg fun z => h (by rw [z]; exact List.mem_cons_self ..)]
theorem stored_cons {k : NestedKey} {a : Addr} {u : Value} {q : RE} {qs : List RE} (hn : ((q :: qs).map (·.1)).Nodup) : storedH (q :: qs) k a u = if q.1 = k then (q.1, q.2.1, u) :: qs else q :: storedH qs k a u := by
  rw [List.map_cons, List.nodup_cons] at hn
  by_cases e : q.1 = k
  · rw [if_pos e]
    have b : atKey (q :: qs) k = some q.2 := by simp [atKey, List.find?_cons, e]
    unfold storedH
    rw [b]
    simp only [Option.isSome_some, if_true]
    rw [List.map_cons, put_id (by rw [← e]; exact hn.1)]
    unfold putAt
    rw [if_pos e]
  · rw [if_neg e]
    have b : atKey (q :: qs) k = atKey qs k := by simp [atKey, List.find?_cons, e]
    unfold storedH
    rw [b]
    split
    · rw [List.map_cons]
      unfold putAt
      rw [if_neg e]
    · rfl
theorem PR.put {es : List Ent} {xs : List RE} {t : T} {a : Addr} {v : V} {u : Value} (r : PR es xs) (hn : (xs.map (·.1)).Nodup) (rv : RelV v u) : PR (ptE t a v es) (storedH xs (kT t) a u) := by
  induction r with
  | nil => exact .cons ⟨rfl, rfl, rv⟩ .nil
  | @cons p q ps qs h tl ih =>
    obtain ⟨h1, h2, h3⟩ := h
    rw [stored_cons hn]
    rw [List.map_cons, List.nodup_cons] at hn
    by_cases e : p.1.beq t = true
    · rw [if_pos ((key_dec h1).mpr e)]
      simp only [ptE, e, if_true]
      exact .cons ⟨h1, h2, rv⟩ tl
    · rw [if_neg fun z => e ((key_dec h1).mp z)]
      simp only [ptE, e]
      exact .cons ⟨h1, h2, h3⟩ (ih hn.2)
theorem ptE_len (t : T) (a : Addr) (v : V) : ∀ es : List Ent, (ptE t a v es).length ≤ es.length + 1
  | [] => by simp [ptE]
  | e :: r => by
    have := ptE_len t a v r
    unfold ptE
    split
    · simp
    · simp only [List.length_cons]; omega
theorem ptE_mem {t : T} {a : Addr} {v : V} {f : Ent} : ∀ {es : List Ent}, f ∈ ptE t a v es → f = (t, a, v) ∨ ∃ e ∈ es, f.1 = e.1 ∧ f.2.1 = e.2.1 ∧ (f = e ∨ (f.2.2 = v ∧ f.1 = t))
  | [], h => .inl (List.mem_singleton.mp h)
  | e :: r, h => by
    unfold ptE at h
    split at h
    next c =>
      rcases List.mem_cons.mp h with rfl | h
      · exact .inr ⟨e, List.mem_cons_self .., rfl, rfl, .inr ⟨rfl, T.beq_iff.mp c⟩⟩
      · exact .inr ⟨f, List.mem_cons_of_mem _ h, rfl, rfl, .inl rfl⟩
    next c =>
      rcases List.mem_cons.mp h with rfl | h
      · exact .inr ⟨_, List.mem_cons_self .., rfl, rfl, .inl rfl⟩
      · rcases ptE_mem h with z | ⟨e', m, z⟩
        · exact .inl z
        · exact .inr ⟨e', List.mem_cons_of_mem _ m, z⟩

/-! ### the object -/
def DO (P : Program) (w : World) (d : Addr) (es : List Ent) : HO := .ext fun h => (d == sysModules) = false ∧ es.length ≤ 900 ∧ ∃ xs : List RE, PR es xs ∧
  ∃ o en ep, h.get? d = some o ∧ o.ExactDict ∧ o.data = .dict en ep ∧ en.toList = xs.map (entryOfKey (nestedKind P w)) ∧ (xs.map (·.1)).Nodup
structure DD (P : Program) (w : World) (H : Hp) (d : Addr) (es : List Ent) : Prop where
  at_ : H d = some (DO P w d es)
  ks : ∀ e ∈ es, TA H e.1 (.ref e.2.1) ∧ e.1.sz ≤ 7
def cobj (q : Str) : Obj := { cls := .none, data := .fields #[.none, .str q 0] }
theorem cobj_at (q : Str) {a n : Addr} (h : a < n) : Heap.get? { objs := Array.replicate n (cobj q) } a = some (cobj q) := by
  unfold Heap.get?
  simp [h, cobj]
theorem mu_DO {P : Program} {w : World} {d : Addr} {es : List Ent} : Mu (DO P w d es) := by
  refine ⟨fun _ z => (by have z' : HO.ext _ = HO.tup _ := z; cases z'), fun _ z => (by have z' : HO.ext _ = HO.tbl _ := z; cases z'), fun c q z => ?_⟩
  unfold DO LamX.CodeO at z
  have e := HO.ext.inj z
  have f := congrFun e { objs := Array.replicate (c + d + 1) (cobj q) }
  have hc : c < c + d + 1 := Nat.lt_succ_of_le (Nat.le_add_right c d)
  have hd : d < c + d + 1 := Nat.lt_succ_of_le (Nat.le_add_left d c)
  have g := f.mpr ⟨cobj q, _, 0, cobj_at q hc, rfl, rfl⟩
  obtain ⟨_, _, xs, _, o, en, ep, ho, hx, _⟩ := g
  rw [cobj_at q hd] at ho
  cases ho
  cases hx.1
section
variable {P : Program} {w : World} {H H' : Hp} {h : Heap} {d p : Addr} {es : List Ent} {Ts : List (Addr × Str)} {L : List Addr} {t : T} {a : Addr} {v : V}
theorem DD.set (x : DD P w H d es) {es' : List Ent} (hL : d ∈ L) : Kp Ts L H (upd H d (DO P w d es')) := .set x.at_ mu_DO hL mu_DO.2.1
theorem DD.kp (x : DD P w H d es) (k : Kp Ts L H H') (n : d ∉ L) : DD P w H' d es := ⟨k.keep _ _ x.at_ n (fun ps z => (by have z' : HO.ext _ = HO.tbl _ := z; cases z')), fun e m => ⟨(x.ks e m).1.kp k, (x.ks e m).2⟩⟩
theorem DD.upd (x : DD P w H d es) (n : H p = none) {o : HO} : DD P w (L2.upd H p o) d es := x.kp (Ts := []) (L := []) (.new n) (by simp)
theorem DD.put (x : DD P w H d es) (ht : TA H t (.ref a)) (z : t.sz ≤ 7) : DD P w (L2.upd H d (DO P w d (ptE t a v es))) d (ptE t a v es) := by
  have k : Kp [] [d] H (L2.upd H d (DO P w d (ptE t a v es))) := x.set (by simp)
  refine ⟨upd_same, fun e m => ?_⟩
  rcases ptE_mem m with rfl | ⟨e', m', h1, h2, _⟩
  · exact ⟨ht.kp k, z⟩
  · rw [h1, h2]
    exact ⟨(x.ks e' m').1.kp k, (x.ks e' m').2⟩
theorem DD.new (n : H p = none) : DD P w (L2.upd H p (DO P w p [])) p [] := ⟨upd_same, fun _ m => nomatch m⟩
theorem DD.new1 (n : H p = none) (ht : TA H t (.ref a)) (z : t.sz ≤ 7) : DD P w (L2.upd H p (DO P w p [(t, a, v)])) p [(t, a, v)] :=
  ⟨upd_same, fun e m => by cases List.mem_singleton.mp m; exact ⟨ht.upd n, z⟩⟩
theorem do_ok {xs : List RE} (hd : (d == sysModules) = false) (hl : es.length ≤ 900) (pr : PR es xs) (dd : h.DictOfH (nestedKind P w) d xs) : ObjOk P w H h d (DO P w d es) := by
  obtain ⟨o, en, ep, h1, h2, h3, h4, _, h5⟩ := dd
  refine ⟨⟨hd, hl, xs, pr, o, en, ep, h1, h2, h3, h4, h5⟩, ⟨o, h1⟩, fun g1 g2 z k => ?_⟩
  obtain ⟨z1, z2, ys, z3, o', en', ep', z4, z5⟩ := z
  exact ⟨z1, z2, ys, z3, o', en', ep', k _ z4, z5⟩
theorem DD.raw (x : DD P w H d es) (ok : HOk P w H h) : (d == sysModules) = false ∧ es.length ≤ 900 ∧ ∃ xs, PR es xs ∧ h.DictOfH (nestedKind P w) d xs := by
  have y : ObjOk P w H h d (.ext _) := ok d _ x.at_
  obtain ⟨⟨z1, z2, xs, pr, o, en, ep, h1, h2, h3, h4, h5⟩, _⟩ := y
  refine ⟨z1, z2, xs, pr, o, en, ep, h1, h2, h3, h4, fun q hq => ?_, h5⟩
  have all : ∀ {l : List Ent} {m : List RE}, (∀ e ∈ l, TA H e.1 (.ref e.2.1) ∧ e.1.sz ≤ 7) → PR l m → ∀ q ∈ m, (nestedKind P w).is h q.1 q.2.1 := by
    intro l m hk r
    induction r with
    | nil => intro q hq; exact nomatch hq
    | @cons p q ps qs hp _ ih =>
      intro q' hq'
      rcases List.mem_cons.mp hq' with e | hq'
      · subst e
        obtain ⟨k1, k2⟩ := hk p (List.mem_cons_self ..)
        rw [hp.1, hp.2.1]
        exact key_is ok k1 k2
      · exact ih (fun e m => hk e (List.mem_cons_of_mem _ m)) _ hq'
  exact all x.ks pr q hq
end

/-! ### rules -/
section
variable {X : Cx} {pos : Pos}
theorem room8 {A : Around} (hu : A.units + 64 < cLine) : A.in1.units + 8 < cLine := by
  show A.units + 1 + 8 < cLine
  omega
def rNotInD (P : Program) (w : World) : R2 := fun x y H Q => ∃ d es t, y = .ref d ∧ DD P w H d es ∧ TA H t x ∧ t.sz ≤ 7 ∧ Q (.bl (!(lkE t es).isSome)) H
theorem op_notInD (hu : X.A.units + 64 < cLine) : OpR X (compareOp .NotIn) (rNotInD X.prog X.w) := by
  intro pins s σ H x y v u Q I rx ry h
  obtain ⟨d, es, t, rfl, hd, ht, z, q⟩ := h
  cases (show u = Value.ref d from ry)
  obtain ⟨b, xs0, rfl, _⟩ := ht.rf
  cases (show v = Value.ref b from rx)
  obtain ⟨z1, z2, xs, pr, dd⟩ := hd.raw I.hok
  refine wpAny_notIn_heap (knd := nestedKind X.prog X.w) (show X.A.in1.units + 8 < cLine from room8 hu) (key_is I.hok ht z) z1 dd ?_
  have e := (pr.at t).isSome_eq
  rw [Option.isSome_map] at e
  rw [← e]
  exact ⟨.bl (!(lkE t es).isSome), H, I.tok _, rfl, q⟩
def rIxD (P : Program) (w : World) : R2 := fun x y H Q => ∃ d es t v, x = .ref d ∧ DD P w H d es ∧ TA H t y ∧ t.sz ≤ 7 ∧ lkE t es = some v ∧ Q v H
theorem ix_D (hu : X.A.units + 64 < cLine) : IxR X (rIxD X.prog X.w) := by
  intro value slice pins s σ H x y v u Q I rx ry h hs
  obtain ⟨d, es, t, z, rfl, hd, ht, hz, hl, q⟩ := h
  cases (show v = Value.ref d from rx)
  obtain ⟨b, xs0, rfl, _⟩ := ht.rf
  cases (show u = Value.ref b from ry)
  obtain ⟨z1, z2, xs, pr, dd⟩ := hd.raw I.hok
  obtain ⟨w', hw, rw'⟩ := RelO.some_of (v := z) (o := (atKey xs (kT t)).map (·.2)) (by rw [← hl]; exact pr.at t)
  obtain ⟨p, hp, hp2⟩ := Option.map_eq_some_iff.mp hw
  refine tail_any dd.typeIs PySem.F.slot_dict_getitem.lookup ?_ hs
  refine wpAny_getItem_heap (knd := nestedKind X.prog X.w) (show X.A.in1.units + 8 < cLine from room8 hu) (key_is I.hok ht hz) dd hp ?_
  rw [hp2]
  exact ⟨z, H, I.tok _, rw', q⟩
def sSetD (P : Program) (w : World) : TSet := fun o i v H Q => ∃ d es t b, o = .ref d ∧ i = .ref b ∧ DD P w H d es ∧ TA H t i ∧ t.sz ≤ 7 ∧ es.length < 900 ∧ Q (upd H d (DO P w d (ptE t b v es)))
theorem set_D (hu : X.A.units + 64 < cLine) : PSet X (sSetD X.prog X.w) := by
  intro pins s σ H o i v ov iv u Q I ro ri rv h
  obtain ⟨d, es, t, b, rfl, rfl, hd, ht, hz, hl, q⟩ := h
  cases (show ov = Value.ref d from ro)
  cases (show iv = Value.ref b from ri)
  obtain ⟨z1, z2, xs, pr, dd⟩ := hd.raw I.hok
  have hxs : xs.length ≤ sizeLine := by rw [← Paired.length pr, sizeLine_eq]; omega
  refine wpAny_setItem_heap (knd := nestedKind X.prog X.w) (hsz := hxs) (show X.A.in1.units + 8 < cLine from room8 hu) (key_is I.hok ht hz) dd fun h' dd' hs => ?_
  have hn : (xs.map (·.1)).Nodup := by obtain ⟨_, _, _, _, _, _, _, _, h5⟩ := dd; exact h5
  have he : ∃ q, h'.get? d = some q := by obtain ⟨q, _, _, hq, _⟩ := dd'; exact ⟨q, hq⟩
  refine ⟨_, d_write I (by rw [hd.at_]; exact True.intro) hs he (do_ok z1 ?_ (pr.put hn rv) dd'), q⟩
  have := ptE_len t b v es
  omega
/-- {} -/
def tNewD (P : Program) (w : World) : TE := fun _ H Q => ∀ p, H p = none → Q (.ref p) (upd H p (DO P w p []))
theorem pe_newD : PE X (.Dict [] [] pos) (tNewD X.prog X.w) := ⟨fun pins s σ H Q I h =>
  wpAny_Dict_empty ⟨.ref s.heap.objs.size, _, I.laid (a := s.heap.objs.size) (o := DO X.prog X.w s.heap.objs.size []) (t' := s.toks) (fun _ _ q => Heap.get?_push_of_some _ q) (Nat.le_refl _)
    (do_ok (beq_eq_false_iff_ne.mpr (Ne.symm (Nat.ne_of_lt I.big))) (Nat.zero_le _) .nil (Heap.DictOfH.new s.heap)), rfl, h _ (I.hok.fresh (Nat.le_refl _))⟩⟩
/-- {k: v} -/
def tOneD (P : Program) (w : World) (tk tv : TE) : TE := fun σ H Q => ∀ p, H p = none → tk σ (upd H p (DO P w p [])) fun x H1 => tv σ H1 fun y H2 => ∃ t b, x = .ref b ∧ H2 p = some (DO P w p []) ∧ TA H2 t x ∧ t.sz ≤ 7 ∧ Q (.ref p) (upd H2 p (DO P w p [(t, b, y)]))
theorem pe_oneD {k v : Expr} {tk tv : TE} (hu : X.A.units + 64 < cLine) (hk : PE X k tk) (hv : PE X v tv) : PE X (.Dict [some k] [v] pos) (tOneD X.prog X.w tk tv) := by
  refine ⟨fun pins s σ H Q I h => ?_⟩
  have hn := I.hok.fresh (Nat.le_refl s.heap.objs.size)
  have hbig : (s.heap.objs.size == sysModules) = false := beq_eq_false_iff_ne.mpr (Ne.symm (Nat.ne_of_lt I.big))
  have I1 := I.laid (a := s.heap.objs.size) (o := DO X.prog X.w s.heap.objs.size []) (h' := s.heap.push { cls := .type "dict", data := .dict #[] }) (t' := s.toks) (fun _ _ q => Heap.get?_push_of_some _ q) (Nat.le_refl _)
    (do_ok hbig (Nat.zero_le _) .nil (Heap.DictOfH.new s.heap))
  rw [arm_eval_Dict, zip_pairTrees [some k] [v] X.env pos rfl rfl, dictDisplay_pairs (pairTrees [some k] [v] X.env pos) (by intro z; cases z) (by show 1 < 17; omega)]
  refine wpAny_bind (wpAny_standAt (wpAny_bind (wpAny_subDictH (knd := nestedKind X.prog X.w) (Q := fun d s' => wpAny (model X.prog X.w) X.A (pure (Value.ref d)) (EP X pins σ Q) X.xe s') (show X.A.units + 8 < cLine by omega) (by show 1 ≤ 15; omega) ?_)))
  refine pairTrees_cons_walk (thn (hk.run pins _ σ _ _ I1 (h _ hn)) fun u s1 ⟨x, H1, I1', rx, q1⟩ => thn (hv.run pins s1 σ H1 _ I1' q1) fun w2 s2 ⟨y, H2, I2, ry, t, b, ex, e, ht, hz, q2⟩ => pairTrees_nil_walk ?_)
  subst ex
  cases (show u = Value.ref b from rx)
  have hd : DD X.prog X.w H2 s.heap.objs.size [] := ⟨e, fun _ m => nomatch m⟩
  obtain ⟨z1, z2, xs, pr, dd⟩ := hd.raw I2.hok
  cases pr
  refine ⟨[(kT t, b, w2)], ⟨rfl, rfl, key_is I2.hok ht hz, trivial⟩, dd, fun h' tk dd' hs => wpAny_pure ?_⟩
  have he : ∃ q, h'.get? s.heap.objs.size = some q := by obtain ⟨q, _, _, hq, _⟩ := dd'; exact ⟨q, hq⟩
  refine ⟨.ref s.heap.objs.size, _, d_write I2 (by rw [e]; exact True.intro) hs he (do_ok (xs := [(kT t, b, w2)]) z1 (by show 1 ≤ 900; omega) (.cons ⟨rfl, rfl, ry⟩ .nil) dd'), rfl, q2⟩
/-- d.get(t, x) -/
def tGetD (P : Program) (w : World) (td ty tx : TE) : TE := fun σ H Q => td σ H fun x H1 => ∃ d es0, x = .ref d ∧ DD P w H1 d es0 ∧ ty σ H1 fun y H2 => tx σ H2 fun z H3 => ∃ es t, DD P w H3 d es ∧ TA H3 t y ∧ t.sz ≤ 7 ∧ Q ((lkE t es).getD z) H3
theorem pe_getD {o e f : Expr} {apos cpos : Pos} {td ty tx : TE} (hu : X.A.units + 64 < cLine) (ho : PE X o td) (he : PE X e ty) (hf : PE X f tx) (m : M2 X o "get" apos e f cpos) : PE X (.Call (.Attribute o "get" apos) [e, f] [] cpos) (tGetD X.prog X.w td ty tx) := by
  refine ⟨fun pins s σ H Q I h => ?_⟩
  refine wpAny_Call_method m.base m.few m.line PySem.F.plainAttrs_dict PySem.F.slot_dict_get PySem.F.type_dict_get (thn (ho.run pins s σ H _ I h) fun u s1 ⟨x, H1, I1, rx, d, es0, ex, hd, q1⟩ => ?_)
  subst ex
  obtain rfl : u = Value.ref d := rx
  obtain ⟨_, _, _, _, dd⟩ := hd.raw I1.hok
  refine ⟨dd.typeIs, fun b q => ?_, ?_⟩
  · cases q
    obtain ⟨ob, _, _, h1, h2, _⟩ := dd
    exact ⟨ob, h1, h2.2.1⟩
  rw [m.trees]
  refine Calls.callWith_builtin rfl (Calls.evalArgs_plain (Calls.spliced_cons (thn (he.run pins s1 σ H1 _ I1 q1) fun iv s2 ⟨y, H2, I2, ry, q2⟩ =>
    Calls.spliced_cons (thn (hf.run pins s2 σ H2 _ I2 q2) fun fv s3 ⟨z, H3, I3, rz, es, t, hd3, ht, hz, q3⟩ => Calls.spliced_nil ?_))))
  obtain ⟨b, xs0, rfl, _⟩ := ht.rf
  cases (show iv = Value.ref b from ry)
  obtain ⟨z1, z2, xs, pr, dd3⟩ := hd3.raw I3.hok
  refine call_meetsIn PySem.F.slot_dict_get dd3.typeIs PySem.F.entry_dict_get (PySem.F.args_dict_get_3 _ _ _) (meetsH_dict_get_default (nestedKind X.prog X.w) d b z1 fv) ⟨show X.A.in1.units + 8 < cLine from room8 hu, kT t, xs, key_is I3.hok ht hz, dd3, ?_⟩
  exact ⟨_, H3, I3.tok _, (pr.at t).getD rz, q3⟩
/-- list(d) -/
theorem call_listD (hc : X.calm = true) : CallR X (.type "list") (fun xs H Q => ∃ d es, xs = [V.ref d] ∧ DD X.prog X.w H d es ∧ ∀ p, H p = none → Q (.ref p) (upd H p (.lst (es.map fun e => V.ref e.2.1)))) := by
  intro pins s σ H xs us Q I r h
  obtain ⟨d, es, rfl, hd, q⟩ := h
  obtain ⟨u, rfl, rx⟩ := r.one
  cases rx
  obtain ⟨hs, z, ks, pr, o, en, ep, ho, hx, hdt, he, _, hn⟩ := hd.raw I.hok
  have l1 : en.size = ks.length := size_of_entries he
  have l2 : es.length = ks.length := Paired.length pr
  refine PySem.W.kdl_call (kdl_raw hs hx hdt) (I.ok.hd hc) ho (by rw [sizeLine_eq]; omega) fun h' tk acc' c' kp e it => ?_
  have ea : acc'.toList = ks.map fun x => Value.ref x.2.1 := by
    have hl : acc'.toList.length = ks.length := by rw [Array.length_toList, it.1]; exact l1
    apply List.ext_getElem?
    intro j
    rw [List.getElem?_map]
    cases hj : acc'.toList[j]? with
    | none =>
      have h1 := List.getElem?_eq_none_iff.mp hj
      rw [List.getElem?_eq_none (by omega)]
      all_goals rfl
    | some v =>
      obtain ⟨e1, hen, hv⟩ := it.2 j v (by rw [← Array.getElem?_toList]; exact hj)
      have qe := entry_at he j
      rw [hen] at qe
      cases hb : ks[j]? with
      | none =>
        rw [hb] at qe
        exact nomatch (show some e1 = none from qe)
      | some b =>
        rw [hb] at qe
        have e2 : e1 = entryOfKey (nestedKind X.prog X.w) b := Option.some.inj qe
        rw [hv, e2]
        all_goals rfl
  have rv : Vals (es.map fun e => V.ref e.2.1) acc'.toList := by
    rw [ea]
    clear ea
    have go : ∀ {l : List Ent} {m : List RE}, PR l m → Vals (l.map fun e => V.ref e.2.1) (m.map fun x => Value.ref x.2.1) := by
      intro l m r
      induction r with
      | nil => exact .nil
      | cons h _ ih => exact .cons (congrArg Value.ref h.2.1) ih
    exact go pr
  refine ⟨.ref s.heap.objs.size, _, I.laid (t' := tk) (o := .lst (es.map fun e => V.ref e.2.1)) kp (Nat.le_refl _) ?_, rfl, q _ (I.hok.fresh (Nat.le_refl _))⟩
  exact ⟨by rw [List.length_map, sizeLine_eq]; omega, acc'.toList, c', rv, by rw [Array.toArray_toList]; exact e⟩
end
end K43

/-! SL: sorted with a lambda's key. -/
namespace K43
open PySem L2 PySem.Spec PyProof.Rows
/-! ### the plain law: a stable sort -/
theorem isort_eq (k : T → Nat) (l : List T) : isort k l = l.mergeSort (PySem.W.dataLe false fun t => .int ((k t : Nat) : Int)) := by
  rw [PySem.W.dataLe_int]
  refine PySem.W.sort_unique ⟨fun a b c h1 h2 => ?_, fun a b => ?_⟩ ?_ fun c => ?_
  · simp only [decide_eq_true_eq] at *
    omega
  · simp only [decide_eq_true_eq]
    omega
  · have mem : ∀ (x : T) (l : List T) (z : T), z ∈ ins k x l → z = x ∨ z ∈ l := by
      intro x l
      induction l with
      | nil => intro z h; exact .inl (List.mem_singleton.mp h)
      | cons y r ih =>
        intro z h
        unfold ins at h
        split at h
        · exact List.mem_cons.mp h
        · rcases List.mem_cons.mp h with e | h
          · exact .inr (by rw [e]; exact List.mem_cons_self ..)
          · rcases ih z h with e | e
            · exact .inl e
            · exact .inr (List.mem_cons_of_mem _ e)
    have one : ∀ (x : T) (l : List T), l.Pairwise (fun a b => decide (((k a : Nat) : Int) ≤ ((k b : Nat) : Int)) = true) → (ins k x l).Pairwise (fun a b => decide (((k a : Nat) : Int) ≤ ((k b : Nat) : Int)) = true) := by
      intro x l
      induction l with
      | nil => intro _; exact List.pairwise_singleton _ _
      | cons y r ih =>
        intro h
        have h' := List.pairwise_cons.mp h
        unfold ins
        split
        next c =>
          refine List.pairwise_cons.mpr ⟨fun z hz => ?_, h⟩
          simp only [decide_eq_true_eq]
          rcases List.mem_cons.mp hz with e | hz
          · rw [e]; omega
          · have := h'.1 z hz
            simp only [decide_eq_true_eq] at this
            omega
        next c =>
          refine List.pairwise_cons.mpr ⟨fun z hz => ?_, ih h'.2⟩
          simp only [decide_eq_true_eq]
          rcases mem x r z hz with e | hz
          · rw [e]; omega
          · have := h'.1 z hz
            simp only [decide_eq_true_eq] at this
            omega
    induction l with
    | nil => exact List.Pairwise.nil
    | cons x r ih => exact one x _ ih
  · have one : ∀ (x : T) (l : List T), (ins k x l).filter (PySem.W.sameRank (fun a b => decide (((k a : Nat) : Int) ≤ ((k b : Nat) : Int))) c) = (x :: l).filter (PySem.W.sameRank (fun a b => decide (((k a : Nat) : Int) ≤ ((k b : Nat) : Int))) c) := by
      intro x l
      induction l with
      | nil => rfl
      | cons y r ih =>
        unfold ins
        split
        next => rfl
        next h =>
          rw [List.filter_cons, ih]
          rw [List.filter_cons (x := x), List.filter_cons (x := x), List.filter_cons (x := y)]
          by_cases h1 : PySem.W.sameRank (fun a b => decide (((k a : Nat) : Int) ≤ ((k b : Nat) : Int))) c x = true
          · have h2 : ¬ PySem.W.sameRank (fun a b => decide (((k a : Nat) : Int) ≤ ((k b : Nat) : Int))) c y = true := by
              unfold PySem.W.sameRank at h1 ⊢
              simp only [Bool.and_eq_true, decide_eq_true_eq] at h1 ⊢
              omega
            rw [if_neg h2, if_neg h2]
          · rw [if_neg h1, if_neg h1]
    induction l with
    | nil => rfl
    | cons x r ih =>
      show (ins k x (isort k r)).filter _ = _
      rw [one, List.filter_cons, ih, ← List.filter_cons]

/-! ### untracked records -/
section
variable {X : Cx} {pins : List (Addr × Obj)} {σ : L2.St} {H : Hp} {s : Shared} {h' : Heap} {t' : Nat} {it jt : Addr} {o : HO}
/-- the places M were made since and are tracked by nothing; all else of the heap stays -/
theorem inv_off {M : List Addr} {H' : Hp} (I : Inv X pins σ H s) (fp : ∀ a ∈ M, FpOk X pins H a) (same : ∀ b ob, b ∉ M → s.heap.get? b = some ob → h'.get? b = some ob)
    (old : ∀ b u, H b = some u → H' b = some u) (out : ∀ b, b ∉ M → H b = none → H' b = none) (fill : ∀ a u, a ∈ M → H' a = some u → ObjOk X.prog X.w H' h' a u) :
    Inv X pins σ H' { s with heap := h', toks := t' } := by
  have far : ∀ b u, H b = some u → b ∉ M := fun b u e m => by
    have z := (fp b m).1
    rw [z] at e
    cases e
  refine I.step (ch := M) (g' := s.gens) (d' := s.drawn) (fun a m => ?place) (fun b ob _ _ m eb _ => same b ob m eb) (fun b ob _ _ m eb _ => ⟨_, same b ob m eb⟩) (fun b _ m _ z => out b m z)
    (fun b ob m eb => ⟨_, same b ob m eb⟩) (fun b _ z => old b _ z) (fun b _ _ z => old b _ z) (fun b _ z => ⟨#[], by rw [old b _ z]; simp⟩) (fun m z => ?names) (fun b u z => ?objs) I.bare
  case place =>
    obtain ⟨_, kL, _, k1, k2, k3⟩ := fp a m
    exact ⟨k1, kL, k2, k3⟩
  case names =>
    obtain ⟨on, en, pn, eo, rest⟩ := z
    exact ⟨on, en, pn, same _ on (fun q => (fp _ q).2.1 rfl) eo, rest⟩
  case objs =>
    by_cases m : b ∈ M
    · exact fill b u m z
    · cases e : H b with
      | none => rw [out b m e] at z; cases z
      | some v =>
        rw [old b v e] at z
        cases z
        refine (I.hok b u e).stay (fun c cv near eb => same c cv (fun q => ?_) eb) (fun c z => old c _ z) fun c _ z => old c _ z
        rcases near with near | near
        · rw [near] at q; exact m q
        · exact far c _ near q
theorem inv_rec (I : Inv X pins σ H s) (k : ∀ b ob, b ≠ it → s.heap.get? b = some ob → h'.get? b = some ob) (f : FpOk X pins H it) :
    Inv X pins σ H { s with heap := h', toks := t' } :=
  inv_off (M := [it]) I (fun a m => by rw [List.mem_singleton.mp m]; exact f) (fun b ob m => k b ob fun z => m (by simp [z])) (fun _ _ z => z) (fun _ _ z => z)
    fun a u m z => by rw [List.mem_singleton.mp m, f.1] at z; cases z
theorem inv_take2 (I : Inv X pins σ H s) (k : ∀ b ob, b ≠ it → b ≠ jt → s.heap.get? b = some ob → h'.get? b = some ob) (f : FpOk X pins H it) (g : FpOk X pins H jt)
    (put : ObjOk X.prog X.w (upd H it o) h' it o) (ne : jt ≠ it) : Inv X pins σ (upd H it o) { s with heap := h', toks := t' } := by
  have some_ne : ∀ b u, H b = some u → b ≠ it := fun b u e z => by
    rw [z, f.1] at e
    cases e
  refine inv_off (M := [it, jt]) I (fun a m => ?_) (fun b ob m => k b ob (fun z => m (by simp [z])) fun z => m (by simp [z])) (fun b u z => by rw [upd_ne (some_ne b u z)]; exact z)
    (fun b m z => by rw [upd_ne fun q => m (by simp [q])]; exact z) fun a u m z => ?_
  · rcases (by simpa using m : a = it ∨ a = jt) with rfl | rfl
    · exact f
    · exact g
  · rcases (by simpa using m : a = it ∨ a = jt) with rfl | rfl
    · rw [upd_same] at z
      cases z
      exact put
    · rw [upd_ne ne, g.1] at z
      cases z
end

/-! ### a lambda of parameters, run -/
section
/-- each parameter is a name of the frame or a cell of it -/
theorem par_at {N ps : List Str} {scope : Scope} {us : List Value} {n0 : Nat} (S : FnScope N ps scope) :
    ∀ y ∈ ps.zip us, scope.names.lookup y.1 = some .local ∨ (scope.names.lookup y.1 = some .cell ∧ ((cellsFrom n0 scope.names []).lookup y.1).isSome = true) := by
  rintro ⟨nm, val⟩ mem
  exact (S.par nm (List.of_mem_zip mem).1).elim Or.inl fun cell => Or.inr ⟨cell, PySem.W.cellsFrom_some _ _ _ (.inl cell)⟩
variable {X : Cx} {H : Hp} {s : Shared} {σ : L2.St} {pins : List (Addr × Obj)}
theorem lam_run {N ps : List Str} {A : Around} {f c' : Addr} {q : Str} {params : Arguments} {body : Expr} {scope : Scope} {pm ctv : Value} {us : List Value} {vs : List V} {k : Nat} {Q : VK} (S : FnScope N ps scope)
    (I : Inv X pins σ H s) (hr : Room (k + 1) A) (e0 : Env0 X.prog X.w X.K X.mg X.base A X.stack s H)
    (of : s.heap.get? f = some (PySem.W.kla_obj "<lambda>" q params body scope [] pm c' ctv)) (hco : H c' = some (LamX.CodeO c' q))
    (hb : bindArgs (PySem.W.kla_fn "<lambda>" q params body scope [] pm (.ref c') ctv) ⟨us, []⟩ = pure (ps.zip us)) (r : Vals vs us) (hl : vs.length = ps.length)
    (hbody : ∀ s', Room k (A.deeper (envOfC q scope s'.heap.objs.size f (.ref c'))) → ∃ tb, PE (cxOf C8.CX0 X.prog X.w X.K X.mg X.base N q scope f (.ref c') A X.stack s' H C8.E0).nox body tb ∧ tb (start N vs) H Q) :
    codeAny (model X.prog X.w) A (.call (.ref f) ⟨us, []⟩) (CR C8.CX0 X.stack X.prog X.w H s Q C8.E0) s := by
  obtain ⟨⟨oc, w, t, hoc, hdc, hvc⟩, _, _⟩ := I.hok c' _ hco
  have lim : s.heap.NoLimit := I.nolimit
  refine PySem.W.kla_callFunE hr.depth of rfl S.co S.gen rfl ⟨c', oc, w, t, rfl, hoc, hdc, hvc⟩ ?_
  rw [hb]
  refine wpAny_pure ?_
  refine wpAny_newFunctionEnv_cells S.kind (par_at S) fun env he s1 x => ?_
  subst he
  refine ⟨lim.keeps x.toInCall.keep, ?_⟩
  obtain ⟨tb, hp, hq⟩ := hbody s (hr.deeper _)
  have J : Inv (cxOf C8.CX0 X.prog X.w X.K X.mg X.base N q scope f (.ref c') A X.stack s H C8.E0) [] (start N vs) H s1 := inv_start S hr.hd e0 hl r x
  refine PySem.W.kla_codeExpr (wpAny_mono (hp.nox.run [] s1 _ H Q J hq) (fun v s' hq => ?_) fun e s' hq => hq)
  exact let ⟨val, Hn, Jn, rel, fin⟩ := hq
    ⟨val, Hn, Jn.os, Jn.bare, Jn.base, Jn.hok, rel, fin⟩
end
/-- the values at trees -/
abbrev TPs (H : Hp) : List T → List V → Prop := Paired fun t v => TA H t v
theorem TPs.kp {Ts : List (Addr × Str)} {L : List Addr} {H H' : Hp} {ts : List T} {vs : List V} (h : TPs H ts vs) (k : Kp Ts L H H') : TPs H' ts vs := Paired.mapP h fun _ _ z => z.kp k

section
variable {X : Cx} {pins : List (Addr × Obj)} {σ : L2.St} {H : Hp} {s : Shared} {Ts : List (Addr × Str)}
/-- what the lambda's body must give -/
def LamKey (X : Cx) (Ts : List (Addr × Str)) (k : Nat) (q : Str) (scope : Scope) (body : Expr) (okp : T → Prop) (key : T → Nat) : Prop :=
  ∀ (A : Around) (f c' : Addr) (s' : Shared) (H' : Hp) (t : T) (v : V) (Q' : VK), Room k (A.deeper (envOfC q scope s'.heap.objs.size f (.ref c'))) → TA H' t v → okp t → (∀ H2, Kp Ts [] H' H2 → Q' (.int (key t : Nat)) H2) →
    ∃ tb, PE (cxOf C8.CX0 X.prog X.w X.K X.mg X.base ["tree"] q scope f (.ref c') A X.stack s' H' C8.E0).nox body tb ∧ tb (start ["tree"] [v]) H' Q'
theorem fs_sub (I : Inv X pins σ H s) {b : Addr} (h : b ∉ frs X.stack) : b ∉ X.fs := fun z => h (by
  rcases I.ok.stk with e | ⟨e, hf⟩
  · rw [e]; exact z
  · rw [e]
    unfold frs
    rw [List.filterMap_cons, hf]
    exact List.mem_cons_of_mem _ z)
theorem not_locals (I : Inv X pins σ H s) {b : Addr} {o : Obj} (e : s.heap.get? b = some o) (n : ∀ es ep, o.data ≠ .dict es ep) : b ≠ X.env.locals := fun z => by
  obtain ⟨m, ⟨o', es, ep, ho', hd', _⟩, _⟩ := I.loc
  rw [z, ho'] at e
  cases e
  exact n _ _ hd'
theorem tps_each {ts : List T} {xs : List V} {us : List Value} (h : TPs H ts xs) (r : Vals xs us) : PySem.W.EachIs (fun u t => ∃ v, RelV v u ∧ TA H t v) us ts := by
  induction h generalizing us with
  | nil => cases r; exact .nil
  | cons h _ ih =>
    cases r with
    | cons h' r => exact .cons ⟨_, h', h⟩ (ih r)
theorem each_tps {ts : List T} {us : List Value} (h : PySem.W.EachIs (fun u t => ∃ v, RelV v u ∧ TA H t v) us ts) : ∃ xs, Vals xs us ∧ TPs H ts xs := by
  induction h with
  | nil => exact ⟨[], .nil, .nil⟩
  | cons h _ ih =>
    obtain ⟨v, r, ht⟩ := h
    obtain ⟨xs, r', h'⟩ := ih
    exact ⟨v :: xs, .cons r r', .cons ht h'⟩
theorem sort_lam {f c' a : Addr} {q : Str} {params : Arguments} {body : Expr} {scope : Scope} {pm ctv : Value} {k : Nat} {okp : T → Prop} {key : T → Nat} {ts : List T} {xs : List V} {Q : VK} (S : FnScope ["tree"] ["tree"] scope)
    (I : Inv X pins σ H s) (hr : Room (k + 3) X.A) (of : s.heap.get? f = some (PySem.W.kla_obj "<lambda>" q params body scope [] pm c' ctv)) (hfn : H f = none) (hfr : f ∉ frs X.stack) (hco : H c' = some (LamX.CodeO c' q))
    (hb : ∀ u, bindArgs (PySem.W.kla_fn "<lambda>" q params body scope [] pm (.ref c') ctv) ⟨[u], []⟩ = pure ((["tree"] : List Str).zip [u])) (hs : SqL X.K H a xs) (hx : TPs H ts xs) (hok : ∀ t ∈ ts, okp t)
    (hbody : LamKey X Ts k q scope body okp key)
    (h : ∀ H2 p ys, Kp Ts [] H H2 → H2 p = none → TPs H2 (isort key ts) ys → Q (.ref p) (upd H2 p (.lst ys))) :
    wpAny (model X.prog X.w) X.A (call (.builtin "sorted") [.ref a] [("key", .ref f)]) (EP X pins σ Q) X.xe s := by
  obtain ⟨its, rv, pl, hz⟩ := I.list hs
  have hlz : its.length ≤ sizeLine := by rw [← rv.length]; exact hz
  refine PySem.W.sorted_of_sort pl.isList hlz (ksk_s1 _ _) (fun x => ksk_l1 _ _) fun E' => ?_
  show wpAny _ _ (Builtin.«list.sort» ⟨[.ref (s.heap.objs.size + 1)], [(Str.ofString "key", .ref f)]⟩) _ _ _
  rw [ksk_t1]
  -- the list that is sorted, the keys' store
  have hA := PySem.W.copyHeap_at s.heap its
  have hAne : ∀ b o, s.heap.get? b = some o → b ≠ s.heap.objs.size + 1 := fun b o e => Nat.ne_of_lt (Nat.lt_succ_of_lt (Heap.lt_size e))
  obtain ⟨e1, ho1⟩ : ∃ e1, ((PySem.W.copyHeap s.heap its).update (s.heap.objs.size + 1) (Obj.mapSeq fun _ => (#[] : Array Value))).get? (s.heap.objs.size + 1) = some (seqObj "list" #[] e1) := ⟨_, get?_update_seq hA fun _ => #[]⟩
  have hkS : (((PySem.W.copyHeap s.heap its).update (s.heap.objs.size + 1) (Obj.mapSeq fun _ => (#[] : Array Value))).push (seqObj "tuple" its.toArray 0)).objs.size = (PySem.W.copyHeap s.heap its).objs.size + 1 := by rw [size_push', Heap.size_update]
  have hAlt : s.heap.objs.size + 1 < (PySem.W.copyHeap s.heap its).objs.size := Heap.lt_size hA
  unfold ksk_tree
  refine wpAny_bind (listItems_at hA rfl ?_)
  refine wpAny_bind (listUpdate_at hA rfl ?_ (by rw [List.size_toArray]; exact hlz) (Nat.zero_le _))
  refine wpAny_bind (seqEpoch_at ho1 rfl ?_)
  refine wpAny_bind (wpAny_newTuple ?_ (by show its.length ≤ _; exact hlz))
  refine wpAny_bind (wpAny_newList ?_ (Nat.zero_le _))
  refine wpAny_holding ?_
  unfold ksk_rest
  refine wpAny_bind (wpAny_rule ?_)
  first
    | rw [List.forIn_toArray]
    | (rw [← Array.forIn_toList]; simp only [List.toList_toArray])
    | rw [← Array.forIn_toList]
  generalize hkS' : (((PySem.W.copyHeap s.heap its).update (s.heap.objs.size + 1) (Obj.mapSeq fun _ => (#[] : Array Value))).push (seqObj "tuple" its.toArray 0)).objs.size = kS at *
  have hkA : kS ≠ s.heap.objs.size + 1 := by rw [hkS]; exact Nat.ne_of_gt (Nat.lt_succ_of_lt hAlt)
  have hkge : s.heap.objs.size ≤ kS := by rw [hkS]; omega
  have up0 : ∀ b o, s.heap.get? b = some o → (((((PySem.W.copyHeap s.heap its).update (s.heap.objs.size + 1) (Obj.mapSeq fun _ => (#[] : Array Value))).push (seqObj "tuple" its.toArray 0)).push (seqObj "list" #[] 0))).get? b = some o := fun b o e =>
    PySem.W.sortingHeap_old (hAne b o e) (PySem.W.copyHeap_old e)
  have I1 : Inv X pins σ H { s with heap := ((((PySem.W.copyHeap s.heap its).update (s.heap.objs.size + 1) (Obj.mapSeq fun _ => (#[] : Array Value))).push (seqObj "tuple" its.toArray 0)).push (seqObj "list" #[] 0)), toks := s.toks } := I.kept up0
  have nk0 : ((((PySem.W.copyHeap s.heap its).update (s.heap.objs.size + 1) (Obj.mapSeq fun _ => (#[] : Array Value))).push (seqObj "tuple" its.toArray 0)).push (seqObj "list" #[] 0)).get? kS = some (seqObj "list" #[] 0) := by
    rw [← hkS']; exact Heap.get?_push_size _ rfl
  have na0 : ((((PySem.W.copyHeap s.heap its).update (s.heap.objs.size + 1) (Obj.mapSeq fun _ => (#[] : Array Value))).push (seqObj "tuple" its.toArray 0)).push (seqObj "list" #[] 0)).get? (s.heap.objs.size + 1) = some (seqObj "list" #[] e1) :=
    Heap.get?_push_of_some _ (Heap.get?_push_of_some _ ho1)
  have ff := fs_sub I hfr
  have fl := not_locals I of (by intro es ep z; cases z)
  obtain ⟨_, kl, kf, ke, kc, kp⟩ := I.fpOk hkge (I.hok.fresh hkge)
  obtain ⟨_, al, af, ae, ac, ap⟩ := I.fpOk (Nat.le_succ s.heap.objs.size) (I.hok.fresh (Nat.le_succ _))
  have fk : f ≠ kS := Nat.ne_of_lt (Nat.lt_of_lt_of_le (Heap.lt_size of) hkge)
  have fa : f ≠ s.heap.objs.size + 1 := Nat.ne_of_lt (Nat.lt_succ_of_lt (Heap.lt_size of))
  have hR : Room (k + 1) X.A.in1.in1 := (hr.in1).in1
  -- all the pins
  let PN : Array Value → Nat → List (Addr × Obj) := fun kA e => (kS, seqObj "list" kA e) :: (s.heap.objs.size + 1, seqObj "list" #[] e1) :: (f, PySem.W.kla_obj "<lambda>" q params body scope [] pm c' ctv) :: pins
  have I2 : Inv X (PN #[] 0) σ H { s with heap := ((((PySem.W.copyHeap s.heap its).update (s.heap.objs.size + 1) (Obj.mapSeq fun _ => (#[] : Array Value))).push (seqObj "tuple" its.toArray 0)).push (seqObj "list" #[] 0)), toks := s.toks } := by
    refine I1.pins_of fun p hp => ?_
    rcases List.mem_cons.mp hp with rfl | hp
    · exact ⟨nk0, I.hok.fresh hkge, kl, kf, fun v z => by cases z⟩
    rcases List.mem_cons.mp hp with rfl | hp
    · exact ⟨na0, I.hok.fresh (Nat.le_succ _), al, af, fun v z => by cases z⟩
    rcases List.mem_cons.mp hp with rfl | hp
    · exact ⟨up0 _ _ of, hfn, fl, ff, fun v z => by cases z⟩
    exact I1.pin p (List.mem_append_right _ hp)
  have pinm : ∀ {kA : Array Value} {e : Nat} {H' : Hp} {s' : Shared}, Inv X (PN kA e) σ H' s' → s'.heap.get? kS = some (seqObj "list" kA e) ∧ H' kS = none ∧ s'.heap.get? (s.heap.objs.size + 1) = some (seqObj "list" #[] e1) ∧ H' (s.heap.objs.size + 1) = none ∧
      s'.heap.get? f = some (PySem.W.kla_obj "<lambda>" q params body scope [] pm c' ctv) ∧ H' f = none ∧ Inv X pins σ H' s' := fun {kA e H' s'} J => by
    have p1 := J.pin (kS, seqObj "list" kA e) (List.mem_append_right _ (List.mem_cons_self ..))
    have p2 := J.pin (s.heap.objs.size + 1, seqObj "list" #[] e1) (List.mem_append_right _ (List.mem_cons_of_mem _ (List.mem_cons_self ..)))
    have p3 := J.pin (f, PySem.W.kla_obj "<lambda>" q params body scope [] pm c' ctv) (List.mem_append_right _ (List.mem_cons_of_mem _ (List.mem_cons_of_mem _ (List.mem_cons_self ..))))
    exact ⟨p1.1, p1.2.1, p2.1, p2.2.1, p3.1, p3.2.1, J.pins_of fun p hp => J.pin p (List.mem_append_right _ (List.mem_cons_of_mem _ (List.mem_cons_of_mem _ (List.mem_cons_of_mem _ hp))))⟩
  have each := tps_each hx rv
  have hlen : its.length = ts.length := each.length
  refine wpAny_bind (ksk_fold (fun i s' => ∃ kA e H', Inv X (PN kA e) σ H' s' ∧ Kp Ts [] H H' ∧ PySem.W.EachIs (fun v d => ∀ g : Heap, Reads g v d []) kA.toList ((ts.map fun t => PyData.int ((key t : Nat) : Int)).take i)) its 0 _
    ⟨#[], 0, H, I2, .refl, by rw [List.take_zero]; exact .nil⟩ ?step ?done)
  case step =>
    rintro j x s' hxj ⟨kA, e, H', J, kp', hk⟩
    simp only [Nat.zero_add] at hk ⊢
    have hj : j < its.length := (List.getElem?_eq_some_iff.mp hxj).1
    obtain ⟨t, htj⟩ : ∃ t, ts[j]? = some t := ⟨_, List.getElem?_eq_getElem (by omega)⟩
    have hz : (x, t) ∈ its.zip ts := List.mem_of_getElem? (i := j) (by rw [List.getElem?_zip_eq_some]; exact ⟨hxj, htj⟩)
    obtain ⟨v, rvx, htv⟩ := each.zip _ hz
    have htv' : TA H' t v := TA.kp htv kp'
    obtain ⟨m1, m2, m3, m4, m5, m6, J0⟩ := pinm J
    have hco' : H' c' = some (LamX.CodeO c' q) := kp'.keep _ _ hco (by simp) LamX.codeO_ne
    have e0 : Env0 X.prog X.w X.K X.mg X.base X.A.in1.in1 X.stack s' H' := J.env0.in1.in1
    have rc : codeAny (model X.prog X.w) X.A.in1.in1 (.call (.ref f) ⟨[x], []⟩) (CR C8.CX0 X.stack X.prog X.w H' s' (fun y H2 => y = .int ((key t : Nat) : Int) ∧ Kp Ts [] H' H2) C8.E0) s' :=
      lam_run (ps := ["tree"]) (vs := [v]) S J hR e0 m5 hco' (hb x) (.cons rvx .nil) rfl fun s'' hr'' => hbody _ f c' s'' H' t v _ hr'' htv' (hok t (List.mem_of_getElem? htj)) fun H2 k2 => ⟨rfl, k2⟩
    refine wpAny_bind (wpAny_attempt (wpAny_call (codeAny_mono rc fun r s2 hq => ?_)))
    cases r with
    | error er => exact (show False from hq).elim
    | ok fl =>
      cases fl with
      | next => exact (show False from hq).elim
      | brk => exact (show False from hq).elim
      | cont => exact (show False from hq).elim
      | ret u =>
        obtain ⟨y, H2, J2, ru, ey, k2⟩ := J.after hq
        subst ey
        obtain ⟨tk, rfl⟩ := (show ∃ t', u = Value.int ((key t : Nat) : Int) t' from ru)
        obtain ⟨n1, n2, n3, n4, n5, n6, J3⟩ := pinm J2
        have hz2 : kA.size ≤ its.length := by
          have h1 := hk.length
          rw [Array.length_toList, List.length_take] at h1
          omega
        try dsimp only
        obtain ⟨c2, hc2⟩ : ∃ c2, (s2.heap.update kS (Obj.mapSeq (·.push (Value.int ((key t : Nat) : Int) tk)))).get? kS = some (seqObj "list" (kA.push (Value.int ((key t : Nat) : Int) tk)) c2) := ⟨_, get?_update_seq n1 (·.push _)⟩
        have s1 := Heap.SameBut.update s2.heap kS (Obj.mapSeq (·.push (Value.int ((key t : Nat) : Int) tk)))
        refine wpAny_bind (listUpdate_at n1 rfl ?_ (Nat.le_trans hz2 hlz) (Nat.le_trans (Nat.le_of_eq (Array.size_push ..)) (Nat.succ_le_succ (Nat.le_trans hz2 hlz))))
        have kk : ∀ b ob, b ≠ kS → s2.heap.get? b = some ob → (s2.heap.update kS (Obj.mapSeq (·.push (Value.int ((key t : Nat) : Int) tk)))).get? b = some ob := fun b ob hb e => (s1.2 b hb).trans e
        have J4 : Inv X pins σ H2 { s2 with heap := s2.heap.update kS (Obj.mapSeq (·.push (Value.int ((key t : Nat) : Int) tk))), toks := s2.toks } := inv_rec J3 kk ⟨n2, kl, kf, ke, kc, kp⟩
        refine wpAny_pure ⟨rfl, kA.push (Value.int ((key t : Nat) : Int) tk), c2, H2, J4.pins_of fun p hp => ?_, kp'.trans k2, ?_⟩
        · rcases List.mem_cons.mp hp with rfl | hp
          · exact ⟨hc2, n2, kl, kf, fun v z => by cases z⟩
          rcases List.mem_cons.mp hp with rfl | hp
          · exact ⟨kk _ _ (Ne.symm hkA) n3, n4, al, af, fun v z => by cases z⟩
          rcases List.mem_cons.mp hp with rfl | hp
          · exact ⟨kk _ _ fk n5, n6, fl, ff, fun v z => by cases z⟩
          exact J4.pin p (List.mem_append_right _ hp)
        · have ek : (ts.map fun t => PyData.int ((key t : Nat) : Int)).take (j + 1) = (ts.map fun t => PyData.int ((key t : Nat) : Int)).take j ++ [PyData.int ((key t : Nat) : Int)] := by
            rw [List.take_add_one, List.getElem?_map, htj]; simp
          have ea : (kA.push (Value.int ((key t : Nat) : Int) tk)).toList = kA.toList ++ [Value.int ((key t : Nat) : Int) tk] := by simp
          rw [ea, ek]
          exact PySem.W.each_snoc (fun g => .int _ _) hk
  case done =>
    rintro s' ⟨kA, e, H', J, kp', hk⟩
    obtain ⟨m1, m2, m3, m4, m5, m6, J0⟩ := pinm J
    have e3 : (ts.map fun t => PyData.int ((key t : Nat) : Int)).take (0 + its.length) = ts.map fun t => PyData.int ((key t : Nat) : Int) := List.take_of_length_le (by rw [List.length_map]; omega)
    rw [e3] at hk
    have hsz : kA.size = its.length := by
      have h1 := hk.length
      rw [Array.length_toList, List.length_map] at h1
      omega
    have hal : PySem.W.AllAlike (ts.map fun t => PyData.int ((key t : Nat) : Int)) := PySem.W.AllAlike.of fun b b' => by simp [PySem.W.alike]
    have hso : PySem.W.Sortable (ts.map fun t => PyData.int ((key t : Nat) : Int)) := PySem.W.Sortable.others fun b => ⟨fun z => (by cases z), fun xs z => (by cases z)⟩
    have hk' : PySem.W.EachIs (fun v d => ∃ as, Reads s'.heap v d as) kA.toList (ts.map fun t => PyData.int ((key t : Nat) : Int)) := hk.mono fun v d z => ⟨[], z _⟩
    have hu : ∀ d, d ∈ (ts.map fun t => PyData.int ((key t : Nat) : Int)) → X.A.in1.in1.units + d.depth < cLine := fun d hd => by
      obtain ⟨t, _, rfl⟩ := List.mem_map.mp hd
      exact hR.units0
    try dsimp only
    refine wpAny_bind (listItems_at m1 rfl ?_)
    obtain ⟨G, g1, g2⟩ := restrict s'.heap fun b => decide (b ≠ kS)
    have gk : ∀ b, b ≠ kS → G.get? b = s'.heap.get? b := fun b hb => g1 b (decide_eq_true hb)
    have ge : G.get? kS = none := g2 kS (by simp)
    refine PySem.W.keyH_end (κ := PySem.W.dataKind s'.heap (ts.map fun t => PyData.int ((key t : Nat) : Int))) (h₁ := G) (e := e) (e1 := e1) (fun b o hb eb => ?_) ge m1 m3 hkA (PySem.W.SortsAt.data hk' hal hso hu) hsz hlz fun h3 tk3 c k3 n3 => ⟨rfl, ?_⟩
    · by_cases z : b = kS
      · rw [z, ge] at eb; cases eb
      · exact (gk b z).symm.trans eb
    have kko : PySem.W.KeyedOut false (ts.map fun t => PyData.int ((key t : Nat) : Int)) its (PySem.W.sortVals (PySem.W.dataKind s'.heap (ts.map fun t => PyData.int ((key t : Nat) : Int))) false kA.toList its) := ⟨s'.heap, kA.toList, hal, rfl, hk'⟩
    have eo := PySem.W.keyedOut_each (fun t : T => PyData.int ((key t : Nat) : Int)) kko each
    rw [← isort_eq key ts] at eo
    obtain ⟨ys, ry, hy⟩ := each_tps eo
    have hyl : ys.length ≤ sizeLine := by
      rw [ry.length, PySem.W.sortVals_length false (by rw [Array.length_toList]; exact hsz)]
      exact hlz
    refine ⟨.ref (s.heap.objs.size + 1), upd H' (s.heap.objs.size + 1) (.lst ys), ?_, rfl, h H' _ ys kp' m4 (hy.kp kp')⟩
    exact inv_take2 (t' := tk3) (jt := kS) J0 (fun b ob h1 h2 eb => k3 b ob h1 ((gk b h2).trans eb)) ⟨m4, al, af, ae, ac, ap⟩ ⟨m2, kl, kf, ke, kc, kp⟩ ⟨hyl, _, c, ry, n3⟩ hkA
end
end K43

/-! SM: the rule for sorted(xs, key=lambda tree: ..). -/
namespace K43
open PySem L2 PySem.Spec PyProof.Rows
theorem clo_nil {cells : List (Str × Addr)} : ∀ {l : List (Str × NameKind)} {acc : List (Str × Addr)}, (∀ y ∈ l, y.2 ≠ .free) → cloFrom cells l acc = acc
  | [], _, _ => rfl
  | (n, k) :: r, acc, h => by
    have hk : (k == NameKind.free) = false := by
      cases q : (k == NameKind.free) with
      | false => rfl
      | true => exact absurd (eq_of_beq q) (h (n, k) (List.mem_cons_self ..))
    unfold cloFrom
    rw [hk]
    exact clo_nil fun y hy => h y (List.mem_cons_of_mem _ hy)
def tSortL (K : PySem.W.Frag) (Ts : List (Addr × Str)) (okp : T → Prop) (key : T → Nat) (te : TE) : TE := fun σ H Q => te σ H fun x H1 => ∃ a xs ts, x = .ref a ∧ SqL K H1 a xs ∧ TPs H1 ts xs ∧ (∀ t ∈ ts, okp t) ∧ LamX.Tabs Ts H1 ∧
  ∀ H2 p ys, Kp Ts [] H1 H2 → H2 p = none → TPs H2 (isort key ts) ys → Q (.ref p) (upd H2 p (.lst ys))
section
variable {X : Cx} {Ts : List (Addr × Str)}
theorem pe_sortL {c Pt : Addr} {params : Arguments} {body e : Expr} {scope : Scope} {p lpos kpos pos : Pos} {k : Nat} {okp : T → Prop} {key : T → Nat} {te : TE} (hg : Gl X "sorted") (hm : X.mg "sorted" = none) (he : PE X e te)
    (TB : LamX.TabB X.base X.mg c Pt) (hcode : X.env.code = .ref c) (hmT : (Pt, X.env.qual ++ "<lambda>") ∈ Ts) (hu : ∀ p ∈ Ts, p.1 = Pt → p.2 = X.env.qual ++ "<lambda>") (hr : Room (k + 3) X.A)
    (S : FnScope ["tree"] ["tree"] scope) (hdef : defaultsOf params X.env = ([], []))
    (hb : ∀ (q : Str) (pm cv ctv u : Value), bindArgs (PySem.W.kla_fn "<lambda>" q params body scope [] pm cv ctv) ⟨[u], []⟩ = pure ((["tree"] : List Str).zip [u]))
    (hbody : LamKey X Ts k (X.env.qual ++ "<lambda>") scope body okp key)
    (hne : starEach [e] X.env = (false, eval e X.env) :: starEach [] X.env := by rfl) :
    PE X (.Call (.Name "sorted" p) [e] [⟨some "key", .Lambda params body scope lpos, kpos⟩] pos) (tSortL X.K Ts okp key te) := by
  refine ⟨fun pins s σ H Q I h => ?_⟩
  refine wpAny_Call_Name_kw (ld_blt I hg hm (u := .builtin "sorted") (by decide +kernel) ?_ (by decide) (by decide))
  refine PyProof.Rows.callWith_kw ?_ (by rw [hne]; rfl) (by rw [hne]; rfl) rfl rfl
  rw [hne]
  show wpAny _ _ (spliced ((false, eval e X.env) :: backTo pos (starEach [] X.env))) _ _ _
  refine Calls.spliced_cons (thn (he.run pins _ σ H _ I h) fun u s1 ⟨x, H1, I1, ru, a, xs, ts, ex, hs, ht, hok, hT, q⟩ => Calls.spliced_nil ?_)
  subst ex
  cases (show u = Value.ref a from ru)
  show wpAny _ _ (evalAll ((do let v ← eval (.Lambda params body scope lpos) X.env; standAt pos; pure v) :: (backToKw pos (keywordEach [] X.env)).map (·.2))) _ _ _
  have nf : ∀ y ∈ scope.names, y.2 ≠ .free := S.nofree
  refine wpAny_evalAll_cons (wpAny_bind (LamX.lam_make2 I1 TB hcode hmT hu hT hdef (fun y hy e => absurd e (nf y hy)) fun f c' pm ctv H2 s2 I2 eN hT2 of hfn hfr hco => wpAny_bind (wpAny_standAt (wpAny_pure (wpAny_evalAll_nil ?_)))))
  rw [clo_nil nf] at of
  have k12 : Kp Ts [] H1 H2 := .extN eN hT2
  exact sort_lam S I2 hr of hfn hfr hco (hb _ _ _ _) (k12.sql hs (by simp)) (ht.kp k12) hok hbody fun H3 p ys k23 hp hy => q H3 p ys (k12.trans k23) hp hy
end
section
variable {P : Program} {w : World} {K : PySem.W.Frag} {mg : Str → Option Value} {base : Heap} {Ts : List (Addr × Str)}
theorem code_ok {x : Str} {st : Stmt} {f c : Addr} {fd : FuncData} {N ps : List Str} {k : Nat} {sp : Sp} (C : CodeAt K x st f fd c) (S : FnScope N ps (defScope st)) (len : ∀ vs H Q E, sp vs H Q E → vs.length = ps.length)
    (hbody : ∀ (A : Around) (outer : List Env) (s : Shared) (H : Hp) (vs : List V) (Q : VK) (E : XK), Room k (A.deeper (envOfC x (defScope st) s.heap.objs.size f (.ref c))) → sp vs H Q E →
      ∃ t, PSs (cxOf CX0 P w K mg base N x (defScope st) f (.ref c) A outer s H E).nox (defBody st) t ∧ t { nx := fun _ H' => Q .non H', rt := Q } (start N vs) H) : FnOk P w K mg base CX0 (k + 1) f fd ps sp := by
  obtain ⟨oc, od, kV, doc, pm, an, ct, osl, rfl, lk, hcd⟩ := C
  refine fn_of lk hcd S len fun A outer s H vs Q E hr hsp => ?_
  obtain ⟨t, h, q⟩ := hbody A outer s H vs Q E hr hsp
  exact ⟨t, h.nox, q⟩
theorem code_okX {CX : CXT} {x : Str} {st : Stmt} {f c : Addr} {fd : FuncData} {N ps : List Str} {k : Nat} {sp : Sp} (C : CodeAt K x st f fd c) (S : FnScope N ps (defScope st)) (len : ∀ vs H Q E, sp vs H Q E → vs.length = ps.length)
    (hbody : ∀ (A : Around) (outer : List Env) (s : Shared) (H : Hp) (vs : List V) (Q : VK) (E : XK), Room k (A.deeper (envOfC x (defScope st) s.heap.objs.size f (.ref c))) → sp vs H Q E →
      ∃ t, PSs (cxOf CX P w K mg base N x (defScope st) f (.ref c) A outer s H E) (defBody st) t ∧ t { nx := fun _ H' => Q .non H', rt := Q } (start N vs) H) : FnOk P w K mg base CX (k + 1) f fd ps sp := by
  obtain ⟨oc, od, kV, doc, pm, an, ct, osl, rfl, lk, hcd⟩ := C
  exact fn_of lk hcd S len fun A outer s H vs Q E hr hsp => hbody A outer s H vs Q E hr hsp
end
end K43

/-! DL: lists of trees as data; entries. -/
namespace K43
open PySem L2 PySem.Spec PyProof.Rows
def dL (ts : List T) : PyData := .list (ts.map T.dat)
theorem dAll_ok : ∀ ts : List T, (∀ t ∈ ts, t.sz ≤ 40) → PyData.canLayAll0 (ts.map T.dat) = true ∧ PyData.depthAll (ts.map T.dat) ≤ 41
  | [], _ => ⟨rfl, Nat.zero_le _⟩
  | t :: ts, h => by
    obtain ⟨h1, h2⟩ := dAll_ok ts fun u m => h u (List.mem_cons_of_mem _ m)
    have h3 := T.dat_depth t
    have h4 := h t (List.mem_cons_self ..)
    refine ⟨by simp [PyData.canLayAll0, T.dat_lay, h1], ?_⟩
    simp only [List.map_cons, PyData.depthAll]
    omega
theorem dL_shaped {ts : List T} (h : ∀ t ∈ ts, t.sz ≤ 40) : SeqAt.shaped (dL ts) = true := by
  obtain ⟨h1, h2⟩ := dAll_ok ts h
  exact Bool.and_eq_true_iff.mpr ⟨by simpa [dL, PyData.canLay0] using h1, decide_eq_true (by simp only [dL, PyData.depth]; omega)⟩
theorem dL_eqv : ∀ a b : List T, PyData.eqv (dL a) (dL b) = eqL a b
  | [], [] => by simp [dL, PyData.eqv, PyData.eqvAll, eqL]
  | [], _ :: _ => by simp [dL, PyData.eqv, PyData.eqvAll, eqL]
  | _ :: _, [] => by simp [dL, PyData.eqv, PyData.eqvAll, eqL]
  | a :: r, b :: q => by
    have h := dL_eqv r q
    simp only [dL, PyData.eqv] at h
    simp [dL, PyData.eqv, PyData.eqvAll, eqL, T.dat_eqv, h]
theorem TPs.dpAll {K : PySem.W.Frag} {H : Hp} {ts : List T} {xs : List V} (h : TPs H ts xs) : DpAll K H xs (ts.map T.dat) := by
  induction h with
  | nil => exact .nil
  | cons h _ ih => exact .cons h.dp ih
theorem TPs.dp {K : PySem.W.Frag} {H : Hp} {ts : List T} {xs : List V} {p : Addr} (h : TPs H ts xs) (e : SqL K H p xs) : Dp K H (.ref p) (dL ts) := .lst e h.dpAll
theorem TPs.snoc {H : Hp} {ts : List T} {xs : List V} {t : T} {v : V} (h : TPs H ts xs) (ht : TA H t v) : TPs H (ts ++ [t]) (xs ++ [v]) := by
  induction h with
  | nil => exact .cons ht .nil
  | cons h _ ih => exact .cons h ih
theorem TPs.at {H : Hp} {ts : List T} {xs : List V} (h : TPs H ts xs) {i : Nat} {v : V} (e : xs[i]? = some v) : ∃ t, ts[i]? = some t ∧ TA H t v := by
  induction h generalizing i with
  | nil => cases e
  | cons h _ ih =>
    cases i with
    | zero => cases e; exact ⟨_, rfl, h⟩
    | succ i => exact ih e
theorem TPs.len {H : Hp} {ts : List T} {xs : List V} (h : TPs H ts xs) : ts.length = xs.length := Paired.length h
theorem beq_comm (a b : T) : a.beq b = b.beq a := by
  cases h : a.beq b with
  | true => rw [T.beq_iff.mp h]; exact (T.beq_iff.mpr rfl).symm
  | false =>
    cases h2 : b.beq a with
    | false => rfl
    | true => rw [T.beq_iff.mp h2, T.beq_iff.mpr rfl] at h; cases h
theorem lkE_some (t : T) : ∀ es : List Ent, (lkE t es).isSome = seenB (es.map (·.1)) t
  | [] => rfl
  | e :: r => by
    have ih := lkE_some t r
    show (if e.1.beq t then some e.2.2 else lkE t r).isSome = (t.beq e.1 || seenB (r.map (·.1)) t)
    rw [beq_comm t e.1]
    cases h : e.1.beq t with
    | true => rfl
    | false => simpa using ih
theorem ptE_new (t : T) (a : Addr) (v : V) : ∀ es : List Ent, (lkE t es).isSome = false → ptE t a v es = es ++ [(t, a, v)]
  | [], _ => rfl
  | e :: r, h => by
    have h' : (if e.1.beq t then some e.2.2 else lkE t r).isSome = false := h
    cases hb : e.1.beq t with
    | true => rw [hb] at h'; cases h'
    | false =>
      rw [hb] at h'
      show (if e.1.beq t then (e.1, e.2.1, v) :: r else e :: ptE t a v r) = e :: (r ++ [(t, a, v)])
      rw [hb, if_neg Bool.false_ne_true, ptE_new t a v r h']
theorem DD.ne {P : Program} {w : World} {H : Hp} {d l : Addr} {es : List Ent} {xs : List V} (x : DD P w H d es) (h : H l = some (.lst xs)) : l ≠ d := fun z => by
  have e := x.at_
  rw [← z, h] at e
  have z' : HO.lst xs = HO.ext _ := Option.some.inj e
  cases z'
theorem DD.tps {P : Program} {w : World} {H : Hp} {d : Addr} {es : List Ent} (x : DD P w H d es) : TPs H (es.map (·.1)) (es.map fun e => V.ref e.2.1) := by
  have go : ∀ l : List Ent, (∀ e ∈ l, TA H e.1 (.ref e.2.1) ∧ e.1.sz ≤ 7) → TPs H (l.map (·.1)) (l.map fun e => V.ref e.2.1) := fun l => by
    induction l with
    | nil => intro _; exact .nil
    | cons e r ih => intro h; exact .cons (h e (List.mem_cons_self ..)).1 (ih fun e m => h e (List.mem_cons_of_mem _ m))
  exact go es x.ks
theorem Kp.updD {P : Program} {w : World} {Ts : List (Addr × Str)} {H0 H : Hp} {d : Addr} {es es' : List Ent} (k : Kp Ts [] H0 H) (x : DD P w H d es) (n : NT H0 d) : Kp Ts [] H0 (upd H d (DO P w d es')) := k.hide n (x.set (by simp))
theorem Kp.updL {Ts : List (Addr × Str)} {H0 H : Hp} {l : Addr} {xs : List V} {o : HO} (k : Kp Ts [] H0 H) (h : H l = some (.lst xs)) (n : NT H0 l) (mo : ∀ ps, o ≠ .tbl ps := by intro _ z; cases z) : Kp Ts [] H0 (upd H l o) := k.hide n (.set h Mu.lst (by simp) mo)
theorem Kp.ntb {Ts : List (Addr × Str)} {L : List Addr} {H H' : Hp} {b : Addr} (k : Kp Ts L H H') (n : NT H' b) : NT H b := fun u e => Classical.byContradiction fun z => by
  obtain ⟨u', e', z'⟩ := k.dm b u e fun ps q => z ⟨ps, q⟩
  obtain ⟨ps, q⟩ := n u' e'
  exact z' ps q
theorem isort_len (k : T → Nat) : ∀ l : List T, (isort k l).length = l.length
  | [] => rfl
  | x :: r => by
    have one : ∀ (l : List T), (ins k x l).length = l.length + 1 := fun l => by
      induction l with
      | nil => rfl
      | cons y r ih =>
        unfold ins
        split
        · rfl
        · simp [ih]
    show (ins k x (isort k r)).length = r.length + 1
    rw [one, isort_len k r]
theorem isort_mem (k : T → Nat) : ∀ (l : List T) (z : T), z ∈ isort k l → z ∈ l
  | [], _, h => nomatch h
  | x :: r, z, h => by
    have one : ∀ (l : List T), z ∈ ins k x l → z = x ∨ z ∈ l := fun l => by
      induction l with
      | nil => intro h; exact .inl (List.mem_singleton.mp h)
      | cons y q ih =>
        intro h
        unfold ins at h
        split at h
        · exact List.mem_cons.mp h
        · rcases List.mem_cons.mp h with e | h
          · exact .inr (by rw [e]; exact List.mem_cons_self ..)
          · rcases ih h with e | e
            · exact .inl e
            · exact .inr (List.mem_cons_of_mem _ e)
    rcases one _ h with e | h
    · rw [e]; exact List.mem_cons_self ..
    · exact List.mem_cons_of_mem _ (isort_mem k r z h)
end K43

/-! D7: passed_by. -/
namespace K43
open PySem L2
/-- how the search stands -/
structure Srch (P : Program) (w : World) (Ts : List (Addr × Str)) (H0 : Hp) (n : Nat) (d l : Addr) (q : List T × List T) (H : Hp) : Prop where
  kp : Kp Ts [] H0 H
  dd : ∃ es, DD P w H d es ∧ es.map (·.1) = q.1
  ls : ∃ xs, H l = some (.lst xs) ∧ TPs H q.2 xs
  s1 : ∀ t ∈ q.1, t.sz = n
  s2 : ∀ t ∈ q.2, t.sz = n
  le : q.2.length ≤ q.1.length
section
variable {P : Program} {w : World} {Ts : List (Addr × Str)} {H0 H H' : Hp} {n : Nat} {d l p : Addr} {q : List T × List T} {o : HO}
theorem Srch.call (s : Srch P w Ts H0 n d l q H) (k : Kp Ts [] H H') : Srch P w Ts H0 n d l q H' := by
  obtain ⟨k1, ⟨es, h1, h2⟩, ⟨xs, h3, h4⟩, h5, h6, h7⟩ := s
  exact ⟨k1.trans k, ⟨es, h1.kp k (by simp), h2⟩, ⟨xs, k.lst h3 (by simp), h4.kp k⟩, h5, h6, h7⟩
theorem Srch.put {t : T} {a : Addr} {xs : List V} {es : List Ent} (s : Srch P w Ts H0 n d l q H) (nd : NT H0 d) (nl : NT H0 l) (ht : TA H t (.ref a)) (hz : t.sz = n) (h7 : n ≤ 7) (hd : DD P w H d es) (he : es.map (·.1) = q.1) (hx : H l = some (.lst xs)) (hxs : TPs H q.2 xs) (hs : seenB q.1 t = false) :
    Srch P w Ts H0 n d l (q.1 ++ [t], q.2 ++ [t]) (upd (upd H d (DO P w d (ptE t a (.bl true) es))) l (.lst (xs ++ [.ref a]))) ∧ upd H d (DO P w d (ptE t a (.bl true) es)) l = some (.lst xs) := by
  have nel : l ≠ d := hd.ne hx
  have e1 : upd H d (DO P w d (ptE t a (.bl true) es)) l = some (.lst xs) := by rw [upd_ne nel]; exact hx
  have k1 : Kp Ts [d] H (upd H d (DO P w d (ptE t a (.bl true) es))) := hd.set (by simp)
  have d1 := hd.put (v := .bl true) ht (by omega)
  have k2 : Kp Ts [l] (upd H d (DO P w d (ptE t a (.bl true) es))) (upd (upd H d (DO P w d (ptE t a (.bl true) es))) l (.lst (xs ++ [.ref a]))) := .set e1 Mu.lst (by simp)
  refine ⟨⟨(s.kp.hide nd k1).hide nl k2, ⟨_, d1.kp k2 (by simpa using Ne.symm nel), ?_⟩, ⟨_, upd_same, ((hxs.kp k1).kp k2).snoc ((ht.kp k1).kp k2)⟩, fun u m => ?_, fun u m => ?_, ?_⟩, e1⟩
  · rw [ptE_new t a _ es (by rw [lkE_some, he]; exact hs), List.map_append, he]
    rfl
  · rcases List.mem_append.mp m with m | m
    · exact s.s1 u m
    · rw [List.mem_singleton.mp m]; exact hz
  · rcases List.mem_append.mp m with m | m
    · exact s.s2 u m
    · rw [List.mem_singleton.mp m]; exact hz
  · have := s.le
    simp only [List.length_append, List.length_singleton]
    omega
end
theorem put1_seen {o u : T} {q : List T × List T} (h : seenB q.1 u = true) : put1 o q u = q := by unfold put1; rw [h]; rfl
theorem put1_off {o u : T} {q : List T × List T} (h : below u o = false) : put1 o q u = q := by unfold put1; rw [h, Bool.and_false]; rfl
theorem put1_in {o u : T} {q : List T × List T} (h : seenB q.1 u = false) (hb : below u o = true) : put1 o q u = (q.1 ++ [u], q.2 ++ [u]) := by unfold put1; rw [h, hb]; rfl
theorem foldl_take_succ {α β : Type} (f : β → α → β) {l : List α} {i : Nat} {x : α} (h : l[i]? = some x) (b : β) : (l.take (i + 1)).foldl f b = f ((l.take i).foldl f b) x := by
  rw [List.take_add_one, h, List.foldl_append]
  rfl
section
variable {P : Program} {w : World} {K : PySem.W.Frag} {mg : Str → Option Value} {base : Heap} {Ts : List (Addr × Str)}
def spPB (Ts : List (Addr × Str)) : Sp := fun vs H Q _ => ∃ u v a o, vs = [u, v] ∧ TA H a u ∧ TA H o v ∧ a.sz = o.sz ∧ a.sz ≤ 7 ∧ (found a o).2 = [] ∧ (found a o).1.length ≤ 42 ∧ LamX.Tabs Ts H ∧
  ∀ p ys H', Kp Ts [] H H' → NT H p → H' p = some (.lst ys) → TPs H' (passed a o) ys → Q (.ref p) H'
theorem ok37 (X : TX K mg) (TB : LamX.TabB base mg X.c37 X.p37) (hm : (X.p37, ("passed_by.<locals>.<lambda>" : Str)) ∈ Ts) (hu : ∀ p ∈ Ts, p.1 = X.p37 → p.2 = ("passed_by.<locals>.<lambda>" : Str)) : FnOk P w K mg base CX0 141 X.f37 X.d37 ["one", "other"] (spPB Ts) := by
  have GC := ok30 (P := P) (w := w) (base := base) (Ts := Ts) X 50 (by omega)
  have GT := ok31 (P := P) (w := w) (base := base) (Ts := Ts) X 50 (by omega)
  have GB := ok32 (P := P) (w := w) (base := base) (Ts := Ts) X
  have GD := ok38 (P := P) (w := w) (base := base) (Ts := Ts) X 50 (by omega)
  refine code_ok X.C37 sc37 (fun vs H Q E h => by obtain ⟨u, v, a, o, rfl, _⟩ := h; rfl) (fun A outer s H vs Q E hr h => ?_)
  obtain ⟨u, v, ta, o, rfl, hu0, hv0, hz, h7, hf2, hf1, hT, q⟩ := h
  have hr1 : Room 110 (A.deeper (PyProof.Rows.envOfC "passed_by" (defScope s37) s.heap.objs.size X.f37 (.ref X.c37))) := hr.mono (by omega)
  refine ⟨_, pss_cons (ps_par (i := 2) (j := 3) rfl sc37.nd rfl rfl (by decide) rfl rfl (pa_cons (pe_oneD hr.units (pv 0) pe_bl) (pa_cons (pe_lst (pa_cons (pv 0) pa_nil)) pa_nil)) (by rfl))
    (pss_cons (ps_while PassesOwn.never (pt_cmpR (op_neD hr.units) (pv 3) (pe_lst pa_nil) (nomark _))
      (pss_cons (ps_set (i := 4) sc37.nd rfl (Or.inl rfl) (pe_lst pa_nil))
      (pss_cons (ps_for PassesOwn.never rfl (pi_list (pv 3)) (pg_name (i := 5) sc37.nd rfl (Or.inr rfl))
        (pss_one (ps_for PassesOwn.never rfl (pi_list (pe_lc (own := [("fork", 7)]) (g := gName 7) (tt := tYes) rfl sc37.nd
            (pi_list (pe_call GC hr1 rfl X.D30.g X.D30.F.kp X.D30.b .nil pass0 (pa_cons (pv 5) (pa_cons pe_int pa_nil))))
            (blkOk_by (N := ["one", "other", "seen", "line", "later", "tree", "there", "fork"]) (sc := defScope s37) (by decide +kernel))
            (fun _ _ _ _ _ => pg_name (i := 7) sc37.nd rfl (Or.inl rfl)) (fun _ _ _ _ _ => pts_nil)
            (fun _ _ _ _ _ => pe_call GT hr1 rfl X.D31.g X.D31.F.kp X.D31.b .nil pass0 (pa_cons (pv 5) (pa_cons (pv 7) pa_nil)))))
          (pg_name (i := 6) sc37.nd rfl (Or.inl rfl))
          (pss_one (ps_if (PW.pt (pw_and (pt_cmpR (op_notInD hr.units) (pv 6) (pv 2) (by rfl)) (pw_and1 (pt_val (pe_call GB (hr.mono (by omega)) rfl X.D32.g X.D32.F.kp X.D32.b .nil pass0 (pa_cons (pv 6) (pa_cons (pv 1) pa_nil)))))))
            (pss_cons (ps_asg pe_bl (pg_sub (pv 2) (pv 6) (set_D hr.units)))
            (pss_one (ps_expr (pe_bm PySem.F.plainAttrs_list PySem.F.slot_list_append PySem.F.type_list_append mt_append (pv 4) (pa_cons (pv 6) pa_nil))))) pss_nil)))))
      (pss_one (ps_set (i := 3) sc37.nd rfl (Or.inl rfl) (pv 4))))))
    (pss_one (ps_ret (pe_sortL (Ts := Ts) (k := 130) (okp := fun t => t.sz ≤ 7) (key := T.ds) rfl X.n_sorted (pe_callTy (call_listD rfl) rfl X.n_list (by decide +kernel) (pa_cons (pv 2) pa_nil)) TB rfl hm hu (hr.mono (by omega))
      (S := ⟨rfl, rfl, rfl, by decide +kernel, rfl, by decide +kernel, by decide +kernel⟩) rfl (fun _ _ _ _ _ => rfl)
      (fun A' f c' s' H' t v' Q' hr' ht' hz' q' => ⟨_, pe_call GD (hr'.mono (by omega)) rfl X.D38.g X.D38.F.kp X.D38.b .nil pass0 (pa_cons (pv 0) pa_nil), ⟨_, rfl, v', t, rfl, ht', by have : t.sz ≤ 7 := hz'; omega, by have : t.sz ≤ 7 := hz'; omega, q'⟩⟩))))), ?_⟩
  obtain ⟨ua, xs0, rfl, hua⟩ := hu0.rf
  refine fun d nd => ⟨_, rfl, ta, ua, rfl, upd_same, hu0.upd nd, h7, ?_⟩
  have eu : ∀ o1 o2 : HO, upd (upd H d o1) d o2 = upd H d o2 := fun o1 o2 => upd_upd ..
  rw [eu]
  have dd1 : DD P w (upd H d (DO P w d [(ta, ua, .bl true)])) d [(ta, ua, .bl true)] := DD.new1 nd hu0 h7
  have kd : Kp Ts [] H (upd H d (DO P w d [(ta, ua, .bl true)])) := .new nd
  refine ⟨_, rfl, (by show 1 ≤ sizeLine; decide), fun l nl => ⟨_, _, rfl, ?_⟩⟩
  have ntd : NT H d := .of nd
  -- the while
  let W : Nat → L2.St → Hp → Prop := fun m σ' H' => ∃ (q : List T × List T) (l : Addr) (s4 s5 s6 s7 : Option V), σ' = [some (.ref ua), some v, some (.ref d), some (.ref l), s4, s5, s6, s7] ∧ levels o m q = found ta o ∧ Srch P w Ts H ta.sz d l q H'
  refine ⟨W, ⟨12, ([ta], [ta]), l, none, none, none, none, rfl, rfl, ?_⟩, fun m σ1 H1 hW => ?_⟩
  · refine ⟨kd.news nl, ⟨_, dd1.upd nl, rfl⟩, ⟨_, upd_same, .cons ((hu0.kp kd).upd nl) .nil⟩, fun t m => by rw [List.mem_singleton.mp m], fun t m => by rw [List.mem_singleton.mp m], Nat.le_refl _⟩
  obtain ⟨p, l, s4, s5, s6, s7, rfl, hl, S1⟩ := hW
  obtain ⟨xs, hx, hxs⟩ := S1.ls
  refine ⟨_, rfl, (by show 0 ≤ sizeLine; decide), fun e0 n0 => ?_⟩
  have k0 : Kp Ts [] H1 (upd H1 e0 (.lst [])) := .new n0
  refine ⟨dL p.2, dL [], (hxs.kp k0).dp (SqL.of (k0.lst hx (by simp))), .lst (SqL.of upd_same) .nil, dL_shaped fun t m => by have := S1.s2 t m; omega, dL_shaped (fun t m => (nomatch m)), _, rfl, ?_⟩
  rw [dL_eqv]
  have S2 := S1.call k0
  clear S1 hx hxs
  generalize upd H1 e0 (.lst []) = H2 at S2
  clear k0 n0
  cases hp : p.2 with
  | nil =>
    refine iteF ?_
    have hfo : p = found ta o := by
      cases m with
      | zero => exact hl
      | succ m => unfold levels at hl; rw [hp] at hl; exact hl
    -- sorted(list(seen))
    obtain ⟨es, hd, he⟩ := S2.dd
    refine ⟨_, rfl, d, es, rfl, hd, fun ls nls => ?_⟩
    have k3 : Kp Ts [] H2 (upd H2 ls (.lst (es.map fun e => V.ref e.2.1))) := .new nls
    refine ⟨ls, _, es.map (·.1), rfl, SqL.of upd_same, (hd.kp k3 (by simp)).tps, fun t m => ?_, (S2.kp.trans k3).tab hT, fun H3 r ys k4 nr hys => ?_⟩
    · rw [he] at m
      have := S2.s1 t m
      show t.sz ≤ 7
      omega
    · have k04 := S2.kp.trans (k3.trans k4)
      refine q r ys _ (k04.news nr) (k04.dom _ nr) upd_same ?_
      have e2 : isort T.ds (es.map (·.1)) = passed ta o := by rw [he, hfo]; rfl
      rw [← e2]
      exact hys.kp (Kp.new (Ts := Ts) (L := []) nr)
  | cons t0 r0 =>
    refine iteT ?_
    cases m with
    | zero =>
      have e : p = found ta o := hl
      rw [← e, hp] at hf2
      cases hf2
    | succ m =>
    have hl' : levels o m (level o p) = found ta o := by
      unfold levels at hl
      rw [hp] at hl
      exact hl
    refine ⟨W m, fun σ' H' w' => ⟨m, Nat.lt_succ_self m, w'⟩, ?_⟩
    refine ⟨(by show 0 ≤ sizeLine; decide), fun lt nlt => ?_⟩
    obtain ⟨xs, hx, hxs⟩ := S2.ls
    have nlt0 : NT H lt := S2.kp.dom _ nlt
    have k3 : Kp Ts [] H2 (upd H2 lt (.lst [])) := .new nlt
    have nel : l ≠ lt := ne_of_none hx nlt
    have hlen : (level o p).1.length ≤ 42 := Nat.le_trans (levels_len o m _) (by rw [hl']; exact hf1)
    refine ⟨_, rfl, l, rfl, ⟨xs, SqL.of (k3.lst hx (by simp))⟩, ?_⟩
    refine for_list (xs := xs) (fun i σ' H' => ∃ s5 s6 s7, σ' = [some (.ref ua), some v, some (.ref d), some (.ref l), some (.ref lt), s5, s6, s7] ∧ H' l = some (.lst xs) ∧ TPs H' p.2 xs ∧ Srch P w Ts H ta.sz d lt ((p.2.take i).foldl (put2 o) (p.1, [])) H')
      ⟨s5, s6, s7, rfl, k3.lst hx (by simp), hxs.kp k3, ?_⟩ (fun i σ' H' _ hP => by obtain ⟨_, _, _, _, h, _⟩ := hP; exact SqL.of h) (fun i x σ' H3 hxi hP => ?_) (fun σ' H3 hP => ?_)
    · obtain ⟨es, hd, he⟩ := S2.dd
      exact ⟨S2.kp.trans k3, ⟨es, hd.upd nlt, he⟩, ⟨[], upd_same, .nil⟩, S2.s1, fun t m => (nomatch m), Nat.zero_le _⟩
    · -- a tree of the line
      obtain ⟨s5, s6, s7, rfl, hx3, hxs3, S3⟩ := hP
      obtain ⟨t, hti, htx⟩ := hxs3.at hxi
      have htm : t ∈ p.2 := List.mem_of_getElem? hti
      have htz : t.sz = ta.sz := S2.s2 t htm
      refine ⟨_, rfl, ?_⟩
      refine ⟨x, t, 0, rfl, htx, by omega, by omega, fun c H4 k4 nc ec => ?_⟩
      refine ⟨c, rfl, ⟨_, SqL.of ec⟩, fun D nD => ?_⟩
      have kD : Kp Ts [] H4 (upd H4 D (.lst [])) := .new nD
      have S4 := (S3.call k4).call kD
      have hx4 : (upd H4 D (.lst [])) l = some (.lst xs) := kD.lst (k4.lst hx3 (by simp)) (by simp)
      have hxs4 := (hxs3.kp k4).kp kD
      have htx4 := (htx.kp k4).kp kD
      have neD : D ≠ l := fun z => ne_of_none (k4.lst hx3 (by simp)) nD z.symm
      have neDt : D ≠ lt := fun z => by
        obtain ⟨ns, hn, _⟩ := (S3.call k4).ls
        exact ne_of_none hn nD z.symm
      have cD : c ≠ D := ne_of_none ec nD
      refine lc_list (xs := iv (t.ct 0)) (fun j H' => ∃ ys, H' D = some (.lst ys) ∧ TPs H' (((t.ct 0).take j).map t.tu) ys ∧ H' c = some (.lst (iv (t.ct 0))) ∧ Kp Ts [D] (upd H4 D (.lst [])) H') ⟨[], upd_same, .nil, kD.lst ec (by simp), .refl⟩ (fun j H' _ hP => by obtain ⟨_, _, _, h, _⟩ := hP; exact SqL.of h) (fun j x5 H5 hxj hP => ?_) (fun H5 hP => ?_)
      · obtain ⟨ys, hy, hys, hc5, k5⟩ := hP
        obtain ⟨kk, hkk, rfl⟩ := iv_get hxj
        refine ⟨rfl, ?_⟩
        have hok := (ct_ok t 0 kk (List.mem_of_getElem? hkk)).2
        refine ⟨_, rfl, _, rfl, ?_⟩
        refine ⟨x, t, kk, rfl, htx4.kp k5, by simpa using hok, by omega, by omega, fun u6 H6 k6 h6 => ?_⟩
        have hy6 := k6.lst hy (by simp)
        have kS : Kp Ts [D] H6 (upd H6 D (.lst (ys ++ [u6]))) := .set hy6 Mu.lst (by simp)
        refine ⟨ys, hy6, ?_, ys ++ [u6], upd_same, ?_, kS.lst (k6.lst hc5 (by simp)) (by simpa using cD), (k5.trans k6.wid).trans kS⟩
        · have := hys.len
          rw [List.length_map, List.length_take] at this
          have h2 := ct_len t 0
          exact small1000 (by omega)
        · rw [List.take_add_one, hkk, List.map_append]
          exact ((hys.kp k6).kp kS).snoc (h6.kp kS)
      -- the turned ones
      obtain ⟨ys, hy, hys, hc5, k5⟩ := hP
      rw [iv_len, List.take_length] at hys
      have nD0 : NT H D := (S3.call k4).kp.dom _ nD
      have S5 : Srch P w Ts H ta.sz d lt ((p.2.take i).foldl (put2 o) (p.1, [])) H5 := by
        obtain ⟨ns, hn, hns⟩ := S4.ls
        obtain ⟨es, hd, he⟩ := S4.dd
        have dnD : d ∉ [D] := by
          have hdd := (S3.call k4).dd
          obtain ⟨es', hd', _⟩ := hdd
          have : d ≠ D := ne_of_none hd'.at_ nD
          simpa using this
        exact ⟨S4.kp.hide nD0 k5, ⟨es, hd.kp k5 dnD, he⟩, ⟨ns, k5.lst hn (by simpa using Ne.symm neDt), hns.kp k5⟩, S4.s1, S4.s2, S4.le⟩
      have hx5 : H5 l = some (.lst xs) := k5.lst hx4 (by simpa using Ne.symm neD)
      have hxs5 := hxs4.kp k5
      have htx5 := htx4.kp k5
      refine ⟨D, rfl, ⟨ys, SqL.of hy⟩, ?_⟩
      refine for_list (xs := ys) (fun j σ' H' => ∃ s6 s7, σ' = [some (.ref ua), some v, some (.ref d), some (.ref l), some (.ref lt), some x, s6, s7] ∧ H' l = some (.lst xs) ∧ TPs H' p.2 xs ∧ H' D = some (.lst ys) ∧ TPs H' (turns t) ys ∧ Srch P w Ts H ta.sz d lt (((turns t).take j).foldl (put1 o) ((p.2.take i).foldl (put2 o) (p.1, []))) H')
        ⟨s6, s7, rfl, hx5, hxs5, hy, hys, S5⟩ (fun j σ' H' _ hP => by obtain ⟨_, _, _, _, _, h, _⟩ := hP; exact SqL.of h) (fun j x6 σ' H6 hxj hP => ?_) (fun σ' H6 hP => ?_)
      · obtain ⟨s6, s7, rfl, hx6, hxs6, hy6, hys6, S6⟩ := hP
        obtain ⟨u, hui, hux⟩ := hys6.at hxj
        have huz : u.sz = ta.sz := (turns_sz (List.mem_of_getElem? hui)).trans htz
        obtain ⟨es, hd, he⟩ := S6.dd
        have step : ((turns t).take (j + 1)).foldl (put1 o) ((p.2.take i).foldl (put2 o) (p.1, [])) = put1 o (((turns t).take j).foldl (put1 o) ((p.2.take i).foldl (put2 o) (p.1, []))) u := foldl_take_succ _ hui _
        refine ⟨_, rfl, _, rfl, d, es, u, rfl, hd, hux, by omega, _, rfl, ?_⟩
        rw [lkE_some, he]
        cases hs : seenB (((turns t).take j).foldl (put1 o) ((p.2.take i).foldl (put2 o) (p.1, []))).1 u with
        | true =>
          refine iteF (iteF ⟨some x6, s7, rfl, hx6, hxs6, hy6, hys6, ?_⟩)
          rw [step]
          have e : put1 o (((turns t).take j).foldl (put1 o) ((p.2.take i).foldl (put2 o) (p.1, []))) u = ((turns t).take j).foldl (put1 o) ((p.2.take i).foldl (put2 o) (p.1, [])) := by
            exact put1_seen hs
          rw [e]
          exact S6
        | false =>
          refine iteT ⟨_, rfl, _, rfl, x6, v, u, o, rfl, hux, hv0.kp S6.kp, by omega, by omega, fun H7 k7 => ⟨_, rfl, ?_⟩⟩
          have S7 := S6.call k7
          have hd7 := hd.kp k7 (by simp)
          have hux7 := hux.kp k7
          cases hb : below u o with
          | false =>
            refine iteF ⟨some x6, s7, rfl, k7.lst hx6 (by simp), hxs6.kp k7, k7.lst hy6 (by simp), hys6.kp k7, ?_⟩
            rw [step]
            have e : put1 o (((turns t).take j).foldl (put1 o) ((p.2.take i).foldl (put2 o) (p.1, []))) u = ((turns t).take j).foldl (put1 o) ((p.2.take i).foldl (put2 o) (p.1, [])) := by
              exact put1_off hb
            rw [e]
            exact S7
          | true =>
            have e : put1 o (((turns t).take j).foldl (put1 o) ((p.2.take i).foldl (put2 o) (p.1, []))) u = ((((turns t).take j).foldl (put1 o) ((p.2.take i).foldl (put2 o) (p.1, []))).1 ++ [u], (((turns t).take j).foldl (put1 o) ((p.2.take i).foldl (put2 o) (p.1, []))).2 ++ [u]) := by
              exact put1_in hs hb
            obtain ⟨ns, hn, hns⟩ := S7.ls
            obtain ⟨b6, _, rfl, _⟩ := hux7.rf
            obtain ⟨S8, hn8⟩ := S7.put ntd nlt0 hux7 huz h7 hd7 he hn hns hs
            -- how many there are
            have many : (((turns t).take j).foldl (put1 o) ((p.2.take i).foldl (put2 o) (p.1, []))).1.length ≤ 42 := by
              have h1 : (((turns t).take j).foldl (put1 o) ((p.2.take i).foldl (put2 o) (p.1, []))).1.length ≤ ((turns t).foldl (put1 o) ((p.2.take i).foldl (put2 o) (p.1, []))).1.length := by
                have h2 := fold1_len o ((turns t).drop j) (((turns t).take j).foldl (put1 o) ((p.2.take i).foldl (put2 o) (p.1, [])))
                rw [← List.foldl_append, List.take_append_drop] at h2
                exact h2
              have h3 : ((p.2.take (i + 1)).foldl (put2 o) (p.1, [])).1.length ≤ (p.2.foldl (put2 o) (p.1, [])).1.length := by
                have h2 := fold2_len o (p.2.drop (i + 1)) ((p.2.take (i + 1)).foldl (put2 o) (p.1, []))
                rw [← List.foldl_append, List.take_append_drop] at h2
                exact h2
              rw [foldl_take_succ (put2 o) hti] at h3
              exact Nat.le_trans h1 (Nat.le_trans h3 hlen)
            have el : es.length = (((turns t).take j).foldl (put1 o) ((p.2.take i).foldl (put2 o) (p.1, []))).1.length := by rw [← he, List.length_map]
            refine iteT ⟨_, rfl, _, rfl, d, es, u, b6, rfl, rfl, hd7, hux7, by omega, by omega, ?_⟩
            refine ⟨_, rfl, .inl ⟨rfl, _, SqL.of hn8⟩, _, rfl, lt, ns, _, rfl, rfl, hn8, ?_, ?_⟩
            · have h8 := hns.len
              have h9 := S7.le
              exact small1000 (by omega)
            have nel2 : l ≠ d := hd7.ne (k7.lst hx6 (by simp))
            have nel3 : D ≠ d := hd7.ne (k7.lst hy6 (by simp))
            have kA : Kp Ts [d] H7 (upd H7 d (DO P w d (ptE u b6 (.bl true) es))) := hd7.set (by simp)
            have kB : Kp Ts [lt] (upd H7 d (DO P w d (ptE u b6 (.bl true) es))) (upd (upd H7 d (DO P w d (ptE u b6 (.bl true) es))) lt (.lst (ns ++ [.ref b6]))) := .set hn8 Mu.lst (by simp)
            refine ⟨some (.ref b6), s7, rfl, kB.lst (kA.lst (k7.lst hx6 (by simp)) (by simpa using nel2)) (by simpa using nel), ((hxs6.kp k7).kp kA).kp kB, kB.lst (kA.lst (k7.lst hy6 (by simp)) (by simpa using nel3)) (by simpa using neDt), ((hys6.kp k7).kp kA).kp kB, ?_⟩
            rw [step, e]
            exact S8
      · obtain ⟨s6, s7, rfl, hx6, hxs6, hy6, hys6, S6⟩ := hP
        refine ⟨some x, s6, s7, rfl, hx6, hxs6, ?_⟩
        rw [foldl_take_succ (put2 o) hti]
        rw [← hys6.len, List.take_length] at S6
        exact S6
    · obtain ⟨s5, s6, s7, rfl, hx3, hxs3, S3⟩ := hP
      rw [← hxs3.len, List.take_length] at S3
      exact ⟨_, rfl, level o p, lt, _, s5, s6, s7, rfl, hl', S3⟩
end
end K43

/-! D8: ranks_between. -/
namespace K43
open PySem L2
/-- three ints at a value -/
def N3V (H : Hp) (w : N3) (v : V) : Prop := ∃ p, v = .ref p ∧ H p = some (.tup [.int (w.1 : Nat), .int (w.2.1 : Nat), .int (w.2.2 : Nat)])
theorem N3V.kp {Ts : List (Addr × Str)} {L : List Addr} {H H' : Hp} {w : N3} {v : V} (h : N3V H w v) (k : Kp Ts L H H') : N3V H' w v := by
  obtain ⟨p, e, h⟩ := h
  exact ⟨p, e, k.tup _ _ h⟩
abbrev RK (H : Hp) : List Ent → List (T × N3) → Prop := Paired fun e q => e.1 = q.1 ∧ N3V H q.2 e.2.2
theorem RK.kp {Ts : List (Addr × Str)} {L : List Addr} {H H' : Hp} {es : List Ent} {acc : List (T × N3)} (h : RK H es acc) (k : Kp Ts L H H') : RK H' es acc := Paired.mapP h fun _ _ z => ⟨z.1, z.2.kp k⟩
theorem RK.at {H : Hp} {es : List Ent} {acc : List (T × N3)} (h : RK H es acc) {t : T} {w : N3} (e : look t acc = some w) : ∃ v, lkE t es = some v ∧ N3V H w v := by
  induction h with
  | nil => cases e
  | @cons p q _ _ h _ ih =>
    obtain ⟨h1, h2⟩ := h
    have e' : (if q.1.beq t then some q.2 else look t _) = some w := e
    show ∃ v, (if p.1.beq t then some p.2.2 else lkE t _) = some v ∧ _
    rw [h1]
    cases hb : q.1.beq t with
    | true => rw [hb] at e'; cases e'; exact ⟨_, rfl, h2⟩
    | false => rw [hb] at e'; exact ih e'
theorem RK.no {H : Hp} {es : List Ent} {acc : List (T × N3)} (h : RK H es acc) {t : T} (e : look t acc = none) : lkE t es = none := by
  induction h with
  | nil => rfl
  | @cons p q _ _ h _ ih =>
    obtain ⟨h1, h2⟩ := h
    have e' : (if q.1.beq t then some q.2 else look t _) = none := e
    show (if p.1.beq t then some p.2.2 else lkE t _) = none
    rw [h1]
    cases hb : q.1.beq t with
    | true => rw [hb] at e'; cases e'
    | false => rw [hb] at e'; exact ih e'
theorem RK.put {H : Hp} {es : List Ent} {acc : List (T × N3)} {t : T} {a : Addr} {v : V} {w : N3} (h : RK H es acc) (hv : N3V H w v) : RK H (ptE t a v es) (putR t w acc) := by
  induction h with
  | nil => exact .cons ⟨rfl, hv⟩ .nil
  | @cons p q ps qs h tl ih =>
    obtain ⟨h1, h2⟩ := h
    show RK H (if p.1.beq t then (p.1, p.2.1, v) :: ps else p :: ptE t a v ps) (if q.1.beq t then (q.1, w) :: qs else q :: putR t w qs)
    rw [h1]
    cases hb : q.1.beq t with
    | true => exact .cons ⟨rfl, hv⟩ tl
    | false => exact .cons ⟨h1, h2⟩ ih
theorem rank1_on {o u : T} {w : N3} {acc : List (T × N3)} (h : below u o = true) : rank1 o w acc u = putR u (max ((look u acc).getD (0, w.2.1 + 1, 0)).1 (w.1 + 1), min ((look u acc).getD (0, w.2.1 + 1, 0)).2.1 (w.2.1 + 1), ((look u acc).getD (0, w.2.1 + 1, 0)).2.2 + w.2.2) acc := by
  unfold rank1; rw [h]; rfl
theorem rank1_off {o u : T} {w : N3} {acc : List (T × N3)} (h : below u o = false) : rank1 o w acc u = acc := by
  unfold rank1; rw [h]; rfl
theorem rank_head {o t : T} {r : List T} {acc res : List (T × N3)} (h : rankL o (t :: r) acc = some res) : ∃ w, look t acc = some w ∧ rankL o r ((turns t).foldl (rank1 o w) acc) = some res := by
  unfold rankL rank2 at h
  cases e : look t acc with
  | none => rw [e] at h; cases h
  | some w => rw [e] at h; exact ⟨w, rfl, h⟩
theorem drop_cons {α : Type} {l : List α} {i : Nat} {x : α} (h : l[i]? = some x) : l.drop i = x :: l.drop (i + 1) := by
  obtain ⟨hi, rfl⟩ := List.getElem?_eq_some_iff.mp h
  exact (List.getElem_cons_drop hi).symm
theorem maxI (a b : Nat) : (if (b : Int) > (a : Int) then (b : Int) else (a : Int)) = ((max a b : Nat) : Int) := by
  split <;> omega
theorem minI (a b : Nat) : (if (b : Int) < (a : Int) then (b : Int) else (a : Int)) = ((min a b : Nat) : Int) := by
  split <;> omega
section
variable {P : Program} {w : World} {K : PySem.W.Frag} {mg : Str → Option Value} {base : Heap} {Ts : List (Addr × Str)}
/-- the ranks at a value -/
def spRB (P : Program) (w : World) (Ts : List (Addr × Str)) : Sp := fun vs H Q _ => ∃ u v a o acc, vs = [u, v] ∧ TA H a u ∧ TA H o v ∧ a.sz = o.sz ∧ a.sz ≤ 7 ∧ (found a o).2 = [] ∧ (found a o).1.length ≤ 42 ∧ (∀ t ∈ (found a o).1, t.sz = a.sz) ∧ ranks a o = some acc ∧ LamX.Tabs Ts H ∧
  ∀ d es H', Kp Ts [] H H' → NT H d → DD P w H' d es → RK H' es acc → Q (.ref d) H'
theorem ok36 (X : TX K mg) (TB : LamX.TabB base mg X.c37 X.p37) (hm : (X.p37, ("passed_by.<locals>.<lambda>" : Str)) ∈ Ts) (hu : ∀ p ∈ Ts, p.1 = X.p37 → p.2 = ("passed_by.<locals>.<lambda>" : Str)) : FnOk P w K mg base CX0 143 X.f36 X.d36 ["one", "other"] (spRB P w Ts) := by
  have GC := ok30 (P := P) (w := w) (base := base) (Ts := Ts) X 50 (by omega)
  have GT := ok31 (P := P) (w := w) (base := base) (Ts := Ts) X 50 (by omega)
  have GB := ok32 (P := P) (w := w) (base := base) (Ts := Ts) X
  have GP := ok37 (P := P) (w := w) (base := base) (Ts := Ts) X TB hm hu
  refine X.D36.F.ok sc36 (fun vs H Q E h => by obtain ⟨u, v, a, o, acc, rfl, _⟩ := h; rfl) (fun cdv A outer s H vs Q E hr h => ?_)
  obtain ⟨u, v, ta, o, res, rfl, hu0, hv0, hz, h7, hf2, hf1, hfs, hrk, hT, q⟩ := h
  have hr1 : Room 110 (A.deeper (PyProof.Rows.envOfC "ranks_between" (defScope s36) s.heap.objs.size X.f36 cdv)) := hr.mono (by omega)
  refine ⟨_, pss_cons (ps_set (i := 2) sc36.nd rfl (Or.inl rfl) (pe_oneD hr.units (pv 0) (pe_tup (pa_cons pe_int (pa_cons pe_int (pa_cons pe_int pa_nil))))))
    (pss_cons (ps_for PassesOwn.never rfl (pi_list (pe_call GP (hr.mono (by omega)) rfl X.D37.g X.D37.F.kp X.D37.b .nil pass0 (pa_cons (pv 0) (pa_cons (pv 1) pa_nil)))) (pg_name (i := 3) sc36.nd rfl (Or.inl rfl))
      (pss_cons (ps_asg (pe_ix (ix_D hr.units) (pv 2) (pv 3) (fun _ _ => rfl)) (pg_tup rfl (pgs_cons (pg_name (i := 4) sc36.nd rfl (Or.inl rfl)) (pgs_cons (pg_name (i := 5) sc36.nd rfl (Or.inl rfl)) (pgs_cons (pg_name (i := 6) sc36.nd rfl (Or.inl rfl)) pgs_nil)))))
      (pss_one (ps_for PassesOwn.never rfl (pi_list (pe_call GC hr1 rfl X.D30.g X.D30.F.kp X.D30.b .nil pass0 (pa_cons (pv 3) (pa_cons pe_int pa_nil)))) (pg_name (i := 7) sc36.nd rfl (Or.inl rfl))
        (pss_cons (ps_set (i := 8) sc36.nd rfl (Or.inl rfl) (pe_call GT hr1 rfl X.D31.g X.D31.F.kp X.D31.b .nil pass0 (pa_cons (pv 3) (pa_cons (pv 7) pa_nil))))
        (pss_one (ps_if (pt_val (pe_call GB (hr.mono (by omega)) rfl X.D32.g X.D32.F.kp X.D32.b .nil pass0 (pa_cons (pv 8) (pa_cons (pv 1) pa_nil))))
          (pss_cons (ps_asg (pe_getD hr.units (pv 2) (pv 8) (pe_tup (pa_cons pe_int (pa_cons (pe_op op_add (pv 5) pe_int) (pa_cons pe_int pa_nil)))) ⟨rfl, rfl, rfl, rfl⟩)
            (pg_tup rfl (pgs_cons (pg_name (i := 9) sc36.nd rfl (Or.inl rfl)) (pgs_cons (pg_name (i := 10) sc36.nd rfl (Or.inl rfl)) (pgs_cons (pg_name (i := 11) sc36.nd rfl (Or.inl rfl)) pgs_nil)))))
          (pss_one (ps_asg (pe_tup (pa_cons (pe_callB (call_max2 rfl) rfl X.n_max (by decide +kernel) (pa_cons (pv 9) (pa_cons (pe_op op_add (pv 4) pe_int) pa_nil)))
              (pa_cons (pe_callB (call_min2 rfl) rfl X.n_min (by decide +kernel) (pa_cons (pv 10) (pa_cons (pe_op op_add (pv 5) pe_int) pa_nil)))
              (pa_cons (pe_op op_add (pv 11) (pv 6)) pa_nil)))) (pg_sub (pv 2) (pv 8) (set_D hr.units))))) pss_nil)))))))
    (pss_one (ps_ret (pv 2)))), ?_⟩
  obtain ⟨ua, xs0, rfl, hua⟩ := hu0.rf
  refine fun d nd => ⟨_, rfl, (by show 3 ≤ sizeLine; decide), fun p0 np0 => ⟨ta, ua, rfl, ?_, (hu0.upd nd).upd np0, h7, ?_⟩⟩
  · rw [upd_ne (fun z => by rw [← z, upd_same] at np0; cases np0), upd_same]
  have ntd : NT H d := .of nd
  have dn : d ≠ p0 := fun z => by rw [← z, upd_same] at np0; cases np0
  have d0 : DD P w (upd H d (DO P w d [])) d [] := DD.new nd
  have ka : Kp Ts [] H (upd H d (DO P w d [])) := .new nd
  have kb := ka.news (o := .tup [.int 0, .int 0, .int 1]) np0
  have k1 := kb.updD (es' := [(ta, ua, .ref p0)]) (d0.upd np0) ntd
  have dd1 := (d0.upd (o := .tup [.int 0, .int 0, .int 1]) np0).put (v := .ref p0) ((hu0.upd (o := DO P w d []) nd).upd (o := .tup [.int 0, .int 0, .int 1]) np0) h7
  have e1 : ptE ta ua (.ref p0) [] = [(ta, ua, .ref p0)] := rfl
  rw [e1] at dd1
  have rk1 : RK (upd (upd (upd H d (DO P w d [])) p0 (.tup [.int 0, .int 0, .int 1])) d (DO P w d [(ta, ua, .ref p0)])) [(ta, ua, .ref p0)] [(ta, 0, 0, 1)] := by
    refine .cons ⟨rfl, p0, rfl, ?_⟩ .nil
    rw [upd_ne (Ne.symm dn), upd_same]
    rfl
  refine ⟨_, rfl, _, rfl, .ref ua, v, ta, o, rfl, hu0.kp k1, hv0.kp k1, hz, h7, hf2, hf1, k1.tab hT, fun r xs H2 k2 nr hx hxs => ?_⟩
  refine ⟨r, rfl, ⟨xs, SqL.of hx⟩, ?_⟩
  have plen : (passed ta o).length ≤ 42 := by unfold passed; rw [isort_len]; exact hf1
  have psz : ∀ t ∈ passed ta o, t.sz = ta.sz := fun t m => hfs t (isort_mem _ _ _ m)
  refine for_list (xs := xs) (fun i σ' H' => ∃ es acc s3 s4 s5 s6 s7 s8 s9 s10 s11, σ' = [some (.ref ua), some v, some (.ref d), s3, s4, s5, s6, s7, s8, s9, s10, s11] ∧ Kp Ts [] H H' ∧ H' r = some (.lst xs) ∧ TPs H' (passed ta o) xs ∧ DD P w H' d es ∧ RK H' es acc ∧ es.length ≤ 1 + 8 * i ∧ rankL o ((passed ta o).drop i) acc = some res)
    ⟨_, _, none, none, none, none, none, none, none, none, none, rfl, k1.trans k2, hx, hxs, dd1.kp k2 (by simp), rk1.kp k2, by simp, hrk⟩ (fun i σ' H' _ hP => by obtain ⟨_, _, _, _, _, _, _, _, _, _, _, _, _, h, _⟩ := hP; exact SqL.of h) (fun i x σ' H3 hxi hP => ?_) (fun σ' H3 hP => ?_)
  · obtain ⟨es, acc, s3, s4, s5, s6, s7, s8, s9, s10, s11, rfl, k3, hx3, hxs3, dd3, rk3, el3, hL⟩ := hP
    obtain ⟨t, hti, htx⟩ := hxs3.at hxi
    have htm : t ∈ passed ta o := List.mem_of_getElem? hti
    have htz := psz t htm
    have hi42 : i < 42 := by
      have := (List.getElem?_eq_some_iff.mp hti).1
      omega
    rw [drop_cons hti] at hL
    obtain ⟨w3, hw3, hL⟩ := rank_head hL
    obtain ⟨v3, hv3, p3, rfl, hp3⟩ := rk3.at hw3
    refine ⟨_, rfl, _, rfl, d, es, t, _, rfl, dd3, htx, by omega, hv3, ?_⟩
    refine ⟨p3, _, rfl, SqT.of hp3, rfl, _, _, rfl, _, _, rfl, _, _, rfl, rfl, ?_⟩
    refine ⟨_, rfl, ?_⟩
    refine ⟨x, t, 0, rfl, htx, by omega, by omega, fun c H4 k4 nc ec => ?_⟩
    refine ⟨c, rfl, ⟨_, SqL.of ec⟩, ?_⟩
    refine for_list (xs := iv (t.ct 0)) (fun j σ' H' => ∃ es s7 s8 s9 s10 s11, σ' = [some (.ref ua), some v, some (.ref d), some x, some (.int (w3.1 : Nat)), some (.int (w3.2.1 : Nat)), some (.int (w3.2.2 : Nat)), s7, s8, s9, s10, s11] ∧ Kp Ts [] H H' ∧ TA H' t x ∧ H' c = some (.lst (iv (t.ct 0))) ∧ H' r = some (.lst xs) ∧ TPs H' (passed ta o) xs ∧ DD P w H' d es ∧ RK H' es (((turns t).take j).foldl (rank1 o w3) acc) ∧ es.length ≤ 1 + 8 * i + j)
      ⟨es, _, _, _, _, _, rfl, k3.trans k4, htx.kp k4, ec, k4.lst hx3 (by simp), hxs3.kp k4, dd3.kp k4 (by simp), rk3.kp k4, el3⟩ (fun j σ' H' _ hP => by obtain ⟨_, _, _, _, _, _, _, _, _, h, _⟩ := hP; exact SqL.of h) (fun j xj σ' H5 hxj hP => ?_) (fun σ' H5 hP => ?_)
    · obtain ⟨es5, s7, s8, s9, s10, s11, rfl, k5, htx5, hc5, hx5, hxs5, dd5, rk5, el5⟩ := hP
      obtain ⟨kk, hkk, rfl⟩ := iv_get hxj
      have hok := (ct_ok t 0 kk (List.mem_of_getElem? hkk)).2
      have hj7 : j < 8 := by
        have h1 := (List.getElem?_eq_some_iff.mp hkk).1
        have h2 := ct_len t 0
        omega
      have hui : (turns t)[j]? = some (t.tu kk) := by
        show ((t.ct 0).map t.tu)[j]? = _
        rw [List.getElem?_map, hkk]; rfl
      have step : ((turns t).take (j + 1)).foldl (rank1 o w3) acc = rank1 o w3 (((turns t).take j).foldl (rank1 o w3) acc) (t.tu kk) := foldl_take_succ _ hui _
      have huz : (t.tu kk).sz = t.sz := turns_sz (List.mem_of_getElem? hui)
      refine ⟨_, rfl, _, rfl, x, t, kk, rfl, htx5, by simpa using hok, by omega, by omega, fun u6 H6 k6 h6 => ?_⟩
      refine ⟨_, rfl, _, rfl, u6, v, t.tu kk, o, rfl, h6, hv0.kp (k5.trans k6), by omega, by omega, fun H7 k7 => ⟨_, rfl, ?_⟩⟩
      have k57 := k6.trans k7
      have dd7 := dd5.kp k57 (by simp)
      have rk7 := rk5.kp k57
      have hx7 := k57.lst hx5 (by simp)
      have hc7 := k57.lst hc5 (by simp)
      cases hb : below (t.tu kk) o with
      | false =>
        refine iteF ⟨es5, _, _, _, _, _, rfl, k5.trans k57, htx5.kp k57, hc7, hx7, hxs5.kp k57, dd7, ?_, by omega⟩
        rw [step, rank1_off hb]
        exact rk7
      | true =>
        refine iteT ?_
        refine ⟨_, rfl, d, es5, rfl, dd7, _, rfl, ?_⟩
        refine ⟨_, rfl, _, _, rfl, rfl, (by show 3 ≤ sizeLine; decide), fun p8 np8 => ?_⟩
        have k8 : Kp Ts [] H7 (upd H7 p8 (.tup [.int 0, .int ((w3.2.1 : Int) + 1), .int 0])) := .new np8
        refine ⟨es5, t.tu kk, dd7.upd np8, (h6.kp k7).upd np8, by omega, ?_⟩
        -- what is got
        have got : ∃ p9, (lkE (t.tu kk) es5).getD (.ref p8) = .ref p9 ∧ (upd H7 p8 (.tup [.int 0, .int ((w3.2.1 : Int) + 1), .int 0])) p9 = some (.tup [.int (((look (t.tu kk) (((turns t).take j).foldl (rank1 o w3) acc)).getD (0, w3.2.1 + 1, 0)).1 : Nat), .int (((look (t.tu kk) (((turns t).take j).foldl (rank1 o w3) acc)).getD (0, w3.2.1 + 1, 0)).2.1 : Nat), .int (((look (t.tu kk) (((turns t).take j).foldl (rank1 o w3) acc)).getD (0, w3.2.1 + 1, 0)).2.2 : Nat)]) := by
          cases hlk : look (t.tu kk) (((turns t).take j).foldl (rank1 o w3) acc) with
          | none =>
            rw [rk7.no hlk]
            exact ⟨p8, rfl, upd_same⟩
          | some w9 =>
            obtain ⟨v9, e9, p9, rfl, hp9⟩ := rk7.at hlk
            rw [e9]
            exact ⟨p9, rfl, k8.tup _ _ hp9⟩
        obtain ⟨p9, e9, hp9⟩ := got
        rw [e9]
        generalize hg : (look (t.tu kk) (((turns t).take j).foldl (rank1 o w3) acc)).getD (0, w3.2.1 + 1, 0) = g at hp9
        refine ⟨p9, _, rfl, SqT.of hp9, rfl, _, _, rfl, _, _, rfl, _, _, rfl, rfl, ?_⟩
        refine ⟨_, rfl, _, rfl, _, _, rfl, rfl, _, _, rfl, ?_⟩
        refine ⟨_, rfl, _, rfl, _, _, rfl, rfl, _, _, rfl, ?_⟩
        refine ⟨_, rfl, _, rfl, _, _, rfl, rfl, (by show 3 ≤ sizeLine; decide), fun pA npA => ?_⟩
        have eA : (HO.tup [.int (if (w3.1 : Int) + 1 > (g.1 : Int) then (w3.1 : Int) + 1 else (g.1 : Int)), .int (if (w3.2.1 : Int) + 1 < (g.2.1 : Int) then (w3.2.1 : Int) + 1 else (g.2.1 : Int)), .int ((g.2.2 : Int) + (w3.2.2 : Int))]) = HO.tup [.int ((max g.1 (w3.1 + 1) : Nat) : Int), .int ((min g.2.1 (w3.2.1 + 1) : Nat) : Int), .int ((g.2.2 + w3.2.2 : Nat) : Int)] := by
          have h1 := maxI g.1 (w3.1 + 1)
          have h2 := minI g.2.1 (w3.2.1 + 1)
          rw [Int.natCast_add] at h1 h2
          have h1' : (if (w3.1 : Int) + 1 > (g.1 : Int) then (w3.1 : Int) + 1 else (g.1 : Int)) = ((max g.1 (w3.1 + 1) : Nat) : Int) := h1
          have h2' : (if (w3.2.1 : Int) + 1 < (g.2.1 : Int) then (w3.2.1 : Int) + 1 else (g.2.1 : Int)) = ((min g.2.1 (w3.2.1 + 1) : Nat) : Int) := h2
          rw [h1', h2', Int.natCast_add]
        obtain ⟨b6, _, rfl, _⟩ := h6.rf
        have kA : Kp Ts [] (upd H7 p8 (.tup [.int 0, .int ((w3.2.1 : Int) + 1), .int 0])) (upd (upd H7 p8 (.tup [.int 0, .int ((w3.2.1 : Int) + 1), .int 0])) pA (.tup [.int (if (w3.1 : Int) + 1 > (g.1 : Int) then (w3.1 : Int) + 1 else (g.1 : Int)), .int (if (w3.2.1 : Int) + 1 < (g.2.1 : Int) then (w3.2.1 : Int) + 1 else (g.2.1 : Int)), .int ((g.2.2 : Int) + (w3.2.2 : Int))])) := .new npA
        have k7A := k8.trans kA
        have ddA := dd7.kp k7A (by simp)
        have hA := ((h6.kp k7).kp k7A)
        refine ⟨_, rfl, _, rfl, d, es5, t.tu kk, b6, rfl, rfl, ddA, hA, by omega, by omega, ?_⟩
        have kS := ddA.set (Ts := Ts) (L := [d]) (es' := ptE (t.tu kk) b6 (.ref pA) es5) (by simp)
        have k5A := (k5.trans k57).trans k7A
        refine ⟨ptE (t.tu kk) b6 (.ref pA) es5, _, _, _, _, _, rfl, k5A.hide ntd kS, ((htx5.kp k57).kp k7A).kp kS, kS.lst (k7A.lst hc7 (by simp)) (by simpa using ddA.ne (k7A.lst hc7 (by simp))), kS.lst (k7A.lst hx7 (by simp)) (by simpa using ddA.ne (k7A.lst hx7 (by simp))), ((hxs5.kp k57).kp k7A).kp kS, ddA.put hA (by omega), ?_, ?_⟩
        · rw [step, rank1_on hb, hg]
          have hN : N3V (upd (upd H7 p8 (.tup [.int 0, .int ((w3.2.1 : Int) + 1), .int 0])) pA (.tup [.int (if (w3.1 : Int) + 1 > (g.1 : Int) then (w3.1 : Int) + 1 else (g.1 : Int)), .int (if (w3.2.1 : Int) + 1 < (g.2.1 : Int) then (w3.2.1 : Int) + 1 else (g.2.1 : Int)), .int ((g.2.2 : Int) + (w3.2.2 : Int))])) (max g.1 (w3.1 + 1), min g.2.1 (w3.2.1 + 1), g.2.2 + w3.2.2) (.ref pA) := ⟨pA, rfl, by rw [upd_same, eA]⟩
          exact RK.put ((rk7.kp k7A).kp kS) (hN.kp kS)
        · have := ptE_len (t.tu kk) b6 (.ref pA) es5
          omega
    · obtain ⟨es5, s7, s8, s9, s10, s11, rfl, k5, htx5, hc5, hx5, hxs5, dd5, rk5, el5⟩ := hP
      have e5 : (turns t).take (iv (t.ct 0)).length = turns t := List.take_of_length_le (by rw [iv_len]; show ((t.ct 0).map t.tu).length ≤ _; rw [List.length_map]; exact Nat.le_refl _)
      rw [e5] at rk5
      rw [iv_len] at el5
      have h2 := ct_len t 0
      exact ⟨es5, _, _, _, _, _, _, _, _, _, _, rfl, k5, hx5, hxs5, dd5, rk5, by omega, hL⟩
  · obtain ⟨es, acc, s3, s4, s5, s6, s7, s8, s9, s10, s11, rfl, k3, hx3, hxs3, dd3, rk3, el3, hL⟩ := hP
    rw [← hxs3.len, List.drop_length] at hL
    have e : acc = res := Option.some.inj hL
    subst e
    exact ⟨_, rfl, q d es H3 k3 ntd dd3 rk3⟩
end
end K43

/-! TM: TooMany's __init__, with super(). -/
namespace K43
open PySem L2 PySem.Spec PyProof.Rows
abbrev sI : Stmt := inClass (top 12) 0
/-- its facts -/
structure Tm (K : PySem.W.Frag) (C fI cc cda : Addr) (fdI : FuncData) (file : Str) : Prop where
  ex : ∃ (oc : Value) (od : Option Addr) (osl : Array (Option Value)) (kV doc pm : Value) (an : Option Addr) (ct : Value), fdI = PySem.W.ksFn "__init__" "TooMany.__init__" (defArgs sI) (defBody sI) (defScope sI) .none kV doc pm an (.ref cda) ct cc ∧
    K.lookup fI = some ⟨oc, od, .func fdI, osl⟩ ∧ PySem.W.codeIn K (.ref cda) "TooMany.__init__" = true
  code : ∃ (oc : Value) (od : Option Addr) (vs : Array Value) (sl : Array (Option Value)) (tf : Tok), K.lookup cda = some ⟨oc, od, .fields vs, sl⟩ ∧ vs[2]? = some (.str file tf)
  cell : ∃ (oc : Value) (od : Option Addr) (sl : Array (Option Value)), K.lookup cc = some ⟨oc, od, .cell (some (.ref C)), sl⟩
  oex : OexC K C
  iC : PySem.W.findIn K (.ref C) "__init__" = some (some (.ref fI))
  tI : PySem.W.typeIn K (.ref fI) = some (.type "function")
  lim : PySem.W.findIn K (.ref C) "limit" = some none
  sup : PySem.W.ks_superIn K C C "__init__" = some (some (.builtin "ValueError.__init__"))
  sub : PySem.W.mroIn K C (.ref C) = some true
  subV : PySem.W.subIn K (.ref C) (.type "ValueError") = some true
  opq : PySem.W.nsIn K PySem.cStatics "thirdparty.any" = some none
  b : Binds K fdI ["self", "limit"] []

theorem kxs_VE : PySem.W.KxsFacts "ValueError" "ValueError.__init__" := PySem.W.kxs_ValueError
section
variable {prog : Program} {w : World} {A : Around} {E : Value → Shared → Prop} {s : Shared}
/-- the bound __init__ of the error itself, called: its arguments are written anew, nothing else is touched -/
theorem call_mw {cn cq : Str} {C N : Addr} {bases above subs : List Value} {own gone : Bool} {slots : List Str} {ord : Option Bool} {dc : Option Addr} {j0 j1 j2 j3 j5 : Option Value} {m x old : Addr} {xs : List Value} {Q : Value → Shared → Prop}
    (cls : s.heap.get? C = some (excClassObj cn cq C N bases above own slots subs gone ord dc j0 j1 j2 j3 j5 "ValueError.__new__")) (err : s.heap.get? x = some (HandSPX.excO C old))
    (meth : s.heap.get? m = some (PySem.W.kxs_mw "ValueError.__init__" x)) (few : xs.length ≤ sizeLine)
    (post : ∀ h2 new, (∀ b o, b ≠ x → s.heap.get? b = some o → h2.get? b = some o) → h2.get? x = some (HandSPX.excO C new) → Q .none { s with heap := h2 }) :
    wpAny (model prog w) A (call (.ref m) xs) Q E s := by
  obtain ⟨hp, gs, dr, tk, os⟩ := s
  have B := F.excBase_ValueError
  have kind : (Value.type "method-wrapper" == Value.type "method" || Value.type "method-wrapper" == Value.type "builtin_function_or_method" || Value.type "method-wrapper" == Value.type "method-wrapper") = true := by decide
  refine wpAny_call (codeAny_of_tree (show wpAny _ A.in1 (callAny (.ref m) ⟨xs, []⟩) _ _ _ from ?_))
  simp only [callAny]
  refine wpAny_bind (wpAny_load meth ?_)
  simp only [PySem.W.kxs_mw, kind, if_true]
  refine PySem.W.KFB.if_so (by decide) (wpAny_bind (PySem.ESX.check_bound B cls err rfl (wpAny_bind (wpAny_pure (wpAny_pure ⟨Code.quiet_builtin _ (by decide +kernel), codeAny_builtin B.initEntry ?_⟩)))))
  rw [Around.under_plainId B.init.plain _]
  wp_walk
  exact post _ hp.objs.size (fun b o far at_b => (Heap.get?_update_other _ _ (Ne.symm far)).trans (Heap.get?_push_of_some _ at_b)) (Heap.get?_update_self _ (Heap.get?_push_of_some _ err) rfl)
theorem callWith_mw {M : Model} {pos : Pos} {env : Env} {m x : Addr} {a : Expr} {as : List Expr} {Q : Value → Shared → Prop}
    (args : wpAny M A (spliced (backTo pos (starEach (a :: as) env))) (fun xs s1 => PySem.W.KxsAt "ValueError.__init__" m x s1.heap ∧ wpAny M A (call (.ref m) xs) Q E s1) E s)
    (plain1 : starEach (a :: as) env = (false, eval a env) :: starEach as env := by rfl) (plain : (backTo pos (starEach as env)).any (·.1) = false := by rfl) :
    wpAny M A (callWith pos (.ref m) [] (backTo pos (starEach (a :: as) env)) []) Q E s := by
  rw [plain1] at args ⊢
  exact PySem.W.kxs_callWith (i := "ValueError.__init__") (x := x) (show (false || (backTo pos (starEach as env)).any (·.1)) = false by rw [plain]; rfl) (Calls.evalArgs_plain args)
end
/-- the context of the __init__ -/
def tmCx (P : Program) (w : World) (K : PySem.W.Frag) (mg : Str → Option Value) (base : Heap) (f : Addr) (cda cc : Addr) (A : Around) (outer : List Env) (s : Shared) (H : Hp) : Cx where
  prog := P
  w := w
  K := K
  mg := mg
  base := base
  A := A.deeper (PySem.W.ksEnv "TooMany.__init__" (defScope sI) s.heap.objs.size f (.ref cda) cc)
  N := ["self", "limit"]
  s_0 := s
  H_0 := H
  env := PySem.W.ksEnv "TooMany.__init__" (defScope sI) s.heap.objs.size f (.ref cda) cc
  outer := outer
  stack := PySem.W.ksEnv "TooMany.__init__" (defScope sI) s.heap.objs.size f (.ref cda) cc :: outer
  ex := []
  calm := true
  fn := fun _ => false
  pn := []
  xe := fun _ _ => False
theorem sI_free : ∀ y ∈ (defScope sI).names, y.2 = .free → y.1 = "__class__" := by decide +kernel
theorem sI_cell : ∀ y ∈ (defScope sI).names, y.2 ≠ .cell := by decide +kernel
theorem sI_self : (defScope sI).names.lookup ("self" : Str) = some .local := by decide +kernel
theorem sI_limit : (defScope sI).names.lookup ("limit" : Str) = some .local := by decide +kernel
theorem sI_class : (defScope sI).names.lookup ("__class__" : Str) = some .free := by decide +kernel
theorem sI_kind : (defScope sI).kind = .function := by decide +kernel
theorem sI_super : (defScope sI).names.lookup ("super" : Str) = some .globalImplicit := by decide +kernel
theorem cls_look {y : Str} {c cc : Addr} (h : List.lookup y [(("__class__" : Str), cc)] = some c) : y = "__class__" ∧ c = cc := by
  rw [List.lookup_cons] at h
  cases e : y == ("__class__" : Str) with
  | true => rw [e] at h; cases h; exact ⟨eq_of_beq e, rfl⟩
  | false => rw [e] at h; cases h
section
variable {P : Program} {w : World} {K : PySem.W.Frag} {mg : Str → Option Value} {base : Heap}
theorem tm_start {f cda cc : Addr} {A : Around} {outer : List Env} {s : Shared} {H : Hp} {C : Addr} {a : Addr} {l : V} {u0 u1 : Value} {h1 : Heap} {tk : Nat} {oc : Value} {od : Option Addr} {sl : Array (Option Value)} (hcell : K.lookup cc = some ⟨oc, od, .cell (some (.ref C)), sl⟩)
    (hd : A.handled = none) (e0 : Env0 P w K mg base A outer s H) (r0 : RelV (.ref a) u0) (r1 : RelV l u1) (hns : h1.Ns s.heap.objs.size fun y => ((["self", "limit"] : List Str).zip [u0, u1]).reverse.lookup y) (kp : ∀ b o, s.heap.get? b = some o → h1.get? b = some o) :
    Inv (tmCx P w K mg base f cda cc A outer s H) [] [some (.ref a), some l] H { s with heap := h1, toks := tk } := by
  have noA : ∀ b : Addr, b ∉ (tmCx P w K mg base f cda cc A outer s H).ex := fun b z => absurd (show b ∈ ([] : List Addr) from z) (by simp)
  have hcb := e0.bs _ _ (e0.mod.kin _ _ hcell)
  refine ⟨⟨e0.mod, sI_kind, rfl, rfl, Nat.le_refl _, fun y z c h1 h2 => (cls_look h1).1.trans (cls_look h2).1.symm, fun y hy => ?_, fun y c h _ => ?_, fun _ => hd, Around.frames_deeper e0.frames, .inr ⟨rfl, rfl⟩, fun b z => absurd z (noA b), e0.bs, e0.bsz, fun b _ _ => noA b, fun b z => absurd z (noA b), e0.funs, e0.frf⟩,
    rfl, e0.bare, Un.kept kp, ⟨_, hns, fun i y v g1 g2 g3 => ?_⟩, fun y c h => ?_, e0.hok.fresh (Nat.le_refl _), fun y c h => ?_, fun p hp => absurd (show p ∈ ([] : List (Addr × Obj)) from hp) (by simp), e0.hok.kept kp, rfl⟩
  · have hy : (defScope sI).names.lookup y = some .cell ∨ (defScope sI).names.lookup y = some .free := hy
    rcases hy with hy | hy
    · exact absurd rfl (sI_cell _ (PySem.mem_of_lookup hy))
    · have e := sI_free _ (PySem.mem_of_lookup hy) rfl
      have e' : y = "__class__" := e
      subst e'
      exact ⟨cc, by show List.lookup _ [(("__class__" : Str), cc)] = some cc; simp [List.lookup]⟩
  · have z : false = true := h
    cases z
  · have g1' : (["self", "limit"] : List Str)[i]? = some y := g1
    match i, g1', g2 with
    | 0, g1', g2 =>
      cases g1'; cases g2
      exact ⟨u0, r0, .inl ⟨sI_self, by rfl⟩⟩
    | 1, g1', g2 =>
      cases g1'; cases g2
      exact ⟨u1, r1, .inl ⟨sI_limit, by rfl⟩⟩
    | i + 2, g1', g2 => cases g1'
  · obtain ⟨rfl, rfl⟩ := cls_look h
    exact ⟨_, _, kp _ _ hcb.1, rfl⟩
  · obtain ⟨rfl, rfl⟩ := cls_look h
    exact hcb.2
def spTM (C : Addr) : Sp := fun vs H Q _ => ∃ (a : Addr) (y : V), vs = [.ref a, y] ∧ H a = some (exo a C none) ∧ ∀ dx, H dx = none → dx ≠ a → Q .non (upd (upd H dx (exd dx [("limit", y)])) a (exo a C (some dx)))

theorem ok_tm {C fI cc cda : Addr} {fdI : FuncData} {file : Str} (T : Tm K C fI cc cda fdI file) (hfile : ((P.main.file : Str) == file) = true) (htop : (P.main.scope.names.lookup ("super" : Str)).isSome = false) (hsu : mg "super" = none) :
    FnOk P w K mg base CX0 1 fI fdI ["self", "limit"] (spTM C) := by
  obtain ⟨oc, od, osl, kV, doc, pm, an, ct, rfl, lk, hcd⟩ := T.ex
  obtain ⟨cl, cld, csl, hcell⟩ := T.cell
  obtain ⟨ol, old, vs0, sl0, tf, hcode, hvs⟩ := T.code
  refine ⟨fun vs H Q E h => by obtain ⟨a, y, rfl, _⟩ := h; rfl, fun A outer s H args us vs Q E hr e0 hb r hsp => ?_⟩
  obtain ⟨a, y, rfl, ha, q⟩ := hsp
  obtain ⟨u0, u1, rfl, r0, r1⟩ := vals2 r
  cases (show u0 = Value.ref a from r0)
  have KX : K.In s.heap := e0.mod.kin.keeps fun b o e => (e0.bs b o e).1
  have lim : s.heap.NoLimit := e0.mod.nolimit.keeps fun b o e => (e0.bs b o e).1
  refine ks_codeAny_call_defAt (fd := PySem.W.ksFn "__init__" "TooMany.__init__" (defArgs sI) (defBody sI) (defScope sI) .none kV doc pm an (.ref cda) ct cc) (body := defBody sI) (binds := (["self", "limit"] : List Str).zip [.ref a, u1]) hr.depth (KX _ _ lk) rfl lim (PySem.W.codeRec_of KX hcd) rfl hb sI_cell
    (fun x hx => ?_) (fun h1 hns kp => ?_)
  · rcases List.mem_cons.mp hx with rfl | hx
    · exact sI_self
    · rcases List.mem_cons.mp hx with rfl | hx
      · exact sI_limit
      · cases hx
  have I0 : Inv (tmCx P w K mg base fI cda cc A outer s H) [] [some (.ref a), some y] H { s with heap := h1, toks := s.toks + ((["self", "limit"] : List Str).zip [.ref a, u1]).length } := tm_start hcell hr.hd e0 rfl r1 hns kp
  have K1 : K.In h1 := I0.kIn
  obtain ⟨nm, q0, N, bs, bm, sn, sub, ab, col, dd, k0, k1, k2, k3, k5, hC, hbm⟩ := T.oex.cls
  have hcl : PySem.W.clsIn K C = some { name := nm, bases := bs, mro := .ref C :: bm, ns := N, qualname := q0, hasDict := true, slotNames := sn, subclasses := sub, abstract := ab, collection := col, hasDel := false } := by unfold PySem.W.clsIn; rw [hC] <;> rfl
  obtain ⟨t1, hoe⟩ := exo_at I0.hok ha
  obtain ⟨mb, hmb1, hmb2⟩ := I0.mod.blt
  show _root_.PySem.wpAt _ _ _ (execs (.Expr _ _ :: [.Assign _ _ _]) _) _ _ _
  refine ks_wpAt_execs_cons (ks_wpAt_Expr_any (ks_wpAt_MethodCall (ks_wpAt_super_base sI_super sI_class (by decide) rfl (K1 _ _ lk) rfl (by rfl) rfl (K1 _ _ hcode) rfl hvs hfile htop ?_)))
  refine PySem.W.ks_loadName_global sI_kind sI_super (Calls.loadGlobal_builtin (I0.mod.glob.keeps I0.bk) hsu (hmb1.keeps I0.bk) ((hmb2 _ (by decide)).trans (by decide +kernel)) ⟨rfl, ?_⟩)
  refine wpAny_loadName_free sI_kind sI_class rfl ⟨_, K1 _ _ hcell, rfl⟩ ?_
  refine wpAny_loadName_local sI_kind sI_self hns (by rfl) ?_
  refine ks_wpAny_isType_cls (K1 _ _ hC) rfl ⟨rfl, ?_⟩
  refine ks_wpAny_call_super (K1 _ _ hC) rfl hoe rfl (fun c z => by cases z) (PySem.W.looks_mroIn K1 T.sub) (fun h2 eso k2 => ?_)
  have I2 : Inv (tmCx P w K mg base fI cda cc A outer s H) [] [some (.ref a), some y] H { s with heap := h2, toks := s.toks + ((["self", "limit"] : List Str).zip [.ref a, u1]).length } := I0.kept k2
  have K2 : K.In h2 := I2.kIn
  have ia : PySem.W.InstAt h2 a { cls := .ref C, dict := none, data := .fields #[.ref t1, .none, .none, .none, .bool false, .none] } C none := ⟨k2 _ _ hoe, rfl, rfl, trivial⟩
  have hsup := T.sup
  unfold PySem.W.ks_superIn at hsup
  rw [hcl] at hsup
  refine PySem.W.kxs_getMethod kxs_VE eso (PySem.W.looks_opaque K2 T.opq) (l₀ := .ref C :: bm) (fun A Q E s k q => wpAny_bind ((PySem.W.looks_clsIn K2 hcl) A _ E s k (wpAny_pure q))) rfl K2 hsup (ia.type.andThen (PySem.W.looks_subIn K2 T.subV)) (PySem.W.ks_ne K2 ia hcl) (by decide) ?_
  have k3 : ∀ b o, h2.get? b = some o → (h2.push (PySem.W.kxs_mw "ValueError.__init__" a)).get? b = some o := fun b o e => Heap.get?_push_of_some _ e
  have I3 : Inv (tmCx P w K mg base fI cda cc A outer s H) [] [some (.ref a), some y] H { s with heap := h2.push (PySem.W.kxs_mw "ValueError.__init__" a), toks := s.toks + ((["self", "limit"] : List Str).zip [.ref a, u1]).length + 1 } := I2.kept k3
  obtain ⟨f1, f2, f3, f4, f5, f6⟩ := I2.fpOk (Nat.le_refl _) (I2.hok.fresh (Nat.le_refl _))
  have I3p : Inv (tmCx P w K mg base fI cda cc A outer s H) [(h2.objs.size, PySem.W.kxs_mw "ValueError.__init__" a)] [some (.ref a), some y] H { s with heap := h2.push (PySem.W.kxs_mw "ValueError.__init__" a), toks := s.toks + ((["self", "limit"] : List Str).zip [.ref a, u1]).length + 1 } := I3.pins_of fun p hp => by
    cases List.mem_singleton.mp hp
    exact ⟨Heap.get?_push_size _ rfl, f1, f2, f3, fun v z => by cases z⟩
  refine callWith_mw (x := a) (wpAny_mono ((pa_cons (X := tmCx P w K mg base fI cda cc A outer s H) pe_str pa_nil).run _ [(h2.objs.size, PySem.W.kxs_mw "ValueError.__init__" a)] _ _ H (fun vs H1 => vs.length ≤ 1 ∧ H1 = H) I3p ⟨Nat.le_refl _, rfl⟩) (fun us s4 hx => ?_) (fun _ _ z => z.elim))
  obtain ⟨vs4, H4, I4, r4, l4, rfl⟩ := hx
  obtain ⟨t4, he4⟩ := exo_at I4.hok ha
  have hu4 := (I4.pin (h2.objs.size, PySem.W.kxs_mw "ValueError.__init__" a) (by simp)).1
  have hC4 := I4.kIn _ _ hC
  have l4' : us.length ≤ sizeLine := by rw [← r4.length, sizeLine_eq]; omega
  have I4' := I4.pins_of (pins' := []) fun p hp => (nomatch hp)
  obtain ⟨hp4, g4, d4, tk4, os4⟩ := s4
  refine ⟨hu4, call_mw hC4 he4 hu4 l4' fun h5 t5 k5 hx5 => ?_⟩
  have I5 := I4'.write (t' := tk4) (x := a) (e := a) (o := exo a C none) (by rw [ha]; exact True.intro) (.inl rfl) k5 ⟨_, hx5⟩ (exo_ok hx5)
  have eu : upd H4 a (exo a C none) = H4 := by
    funext b
    by_cases hb : b = a
    · rw [hb, upd_same, ha]
    · rw [upd_ne hb]
  rw [eu] at I5
  refine wpAt_of_wpAny (wpAny_mono ((pss_one (ps_ost (X := tmCx P w K mg base fI cda cc A outer s H4) (pv 0) (pv 1))).run [] _ _ H4 { nx := fun _ H' => Q .non H', rt := fun _ _ => False } I5
    ⟨_, rfl, _, rfl, a, C, rfl, T.oex, T.lim, .inl ⟨ha, fun dx n ne => q dx n ne⟩⟩) (fun f s6 hsp => ?_) (fun _ _ z => z.elim))
  cases f with
  | next =>
    obtain ⟨σ', H', J, q'⟩ := hsp
    exact ⟨.non, H', J.os, J.bare, J.base, J.hok, rfl, q'⟩
  | ret u => obtain ⟨v, σ', H', J, rv, z⟩ := hsp; exact z.elim
  | brk => obtain ⟨_, _, _, z⟩ := hsp; exact z.elim
  | cont => obtain ⟨_, _, _, z⟩ := hsp; exact z.elim
end
end K43

/-! D9: need_few, need_few_forks, the chains' defs. -/
namespace K43
open PySem L2
/-- what the program's own file says -/
structure Fl (P : Program) : Prop where
  f : ((P.main.file : Str) == ("/claim/cut.py" : Str)) = true
  s : (P.main.scope.names.lookup ("super" : Str)).isSome = false
/-- the facts of TooMany -/
structure TMX (K : PySem.W.Frag) (mg : Str → Option Value) (k12 : Addr) where
  fI : Addr
  cc : Addr
  cda : Addr
  dI : FuncData
  T : Tm K k12 fI cc cda dI "/claim/cut.py"
section
variable {P : Program} {w : World} {K : PySem.W.Frag} {mg : Str → Option Value} {base : Heap} {Ts : List (Addr × Str)}
/-- too many -/
def manyE (Ts : List (Addr × Str)) (k12 : Addr) (l : Int) (E : XK) (H : Hp) : Prop := ∀ d H', Kp Ts [] H H' → H' d = some (.xd [("limit", .int l)]) → E (.ref k12) (some d) H'
def spFew (Ts : List (Addr × Str)) (k12 : Addr) : Sp := fun vs H Q E => ∃ (m l : Int), vs = [.int m, .int l] ∧ if m > l then manyE Ts k12 l E H else Q .non H
theorem ok16 (X : TX K mg) (Y : TMX K mg X.k12) (F : Fl P) : FnOk P w K mg base (L2.CX P w) 4 X.f16 X.d16 ["many", "limit"] (spFew Ts X.k12) := by
  have GI := ok_tm (P := P) (w := w) (base := base) Y.T F.f F.s X.n_super
  refine X.D16.F.okX sc16 (fun vs H Q E h => by obtain ⟨m, l, rfl, _⟩ := h; rfl) (fun cdv A outer s H vs Q E hr h => ?_)
  obtain ⟨m, l, rfl, q⟩ := h
  refine ⟨_, pss_one (ps_if (pt_cmpR op_gt (pv 0) (pv 1) (nomark _))
    (pss_one (ps_raise rfl (takes_of rfl rfl rfl rfl) (pmk_oex Y.T.oex Y.T.iC Y.T.tI GI (hr.mono (by omega)) Y.T.b .nil pass0 rfl X.g12 (pa_cons (pv 1) pa_nil)))) pss_nil), ?_⟩
  refine ⟨_, rfl, _, rfl, _, _, rfl, rfl, _, rfl, ?_⟩
  by_cases c : m > l
  · rw [if_pos c] at q
    have e : decide (m > l) = true := decide_eq_true c
    have e' : decide (l < m) = true := e
    refine (if_pos e').mpr ?_
    refine ⟨_, rfl, (by show 1 ≤ 1000; omega), fun a na => ?_⟩
    refine ⟨a, _, rfl, upd_same, fun dx n ne => ⟨rfl, dx, [("limit", .int l)], upd_same, ?_, ?_, ?_⟩⟩
    · rw [upd_ne ne, upd_same]
    · rw [upd_ne ne] at n; exact n
    rw [upd_ne ne] at n
    refine q dx _ (.of fun b u hb => ?_) upd_same
    have nb : b ≠ dx := ne_of_none hb n
    have nba : b ≠ a := ne_of_none hb na
    rw [upd_ne nb, del_ne nba, upd_ne nba, upd_ne nb, upd_ne nba]
    exact hb
  · rw [if_neg c] at q
    have e' : decide (l < m) = false := decide_eq_false c
    rw [e']
    exact iteF q
/-- what becomes of a pair -/
def outR (Ts : List (Addr × Str)) (k5 k6 k12 : Addr) (G : T → T → Hp → Prop) (E : XK) (H : Hp) : Option T → Option T → Prop
  | none, _ => E (.ref k6) none H
  | some _, none => E (.ref k6) none H
  | some a, some b => if a.sz = b.sz then (if a.sz ≤ 7 then G a b H else manyE Ts k12 7 E H) else E (.ref k5) none H
def spNF (Ts : List (Addr × Str)) (k5 k6 k12 : Addr) : Sp := fun vs H Q E => ∃ u v o p, vs = [u, v] ∧ treeOr H u o ∧ treeOr H v p ∧ ∀ H', Kp Ts [] H H' → outR Ts k5 k6 k12 (fun _ _ H' => Q .non H') E H' o p
theorem ok39 (X : TX K mg) (Y : TMX K mg X.k12) (F : Fl P) : FnOk P w K mg base (L2.CX P w) 68 X.f39 X.d39 ["one", "other"] (spNF Ts X.k5 X.k6 X.k12) := by
  have GP := ok24 (P := P) (w := w) (base := base) (Ts := Ts) X
  have GF := ok21 (P := P) (w := w) (base := base) (Ts := Ts) X 60
  have GW := ok16 (P := P) (w := w) (base := base) (Ts := Ts) X Y F
  refine X.D39.F.okX sc39 (fun vs H Q E h => by obtain ⟨u, v, o, p, rfl, _⟩ := h; rfl) (fun cdv A outer s H vs Q E hr h => ?_)
  obtain ⟨u, v, o, p, rfl, ho, hp, q⟩ := h
  refine ⟨_, pss_cons (ps_expr (pe_call GP (hr.mono (by omega)) rfl X.D24.g X.D24.F.kp X.D24.b .nil (passes_call (takes_of rfl rfl rfl rfl) (fun _ _ _ _ h => h)) (pa_cons (pv 0) (pa_cons (pv 1) pa_nil))))
    (pss_one (ps_expr (pe_call GW (hr.mono (by omega)) rfl X.D16.g X.D16.F.kp X.D16.b .nil (passes_call (takes_of rfl rfl rfl rfl) (fun _ _ _ _ h => h)) (pa_cons (pe_call GF (hr.mono (by omega)) rfl X.D21.g X.D21.F.kp X.D21.b .nil pass0 (pa_cons (pv 0) pa_nil)) (pa_cons (pe_glob (v := .int 7) rfl X.m35 ⟨_, rfl⟩) pa_nil))))), ?_⟩
  refine ⟨_, rfl, _, rfl, u, v, o, p, rfl, ho, hp, fun H1 k1 => ?_⟩
  have q1 := q H1 k1
  cases o with
  | none => exact q1
  | some a =>
    cases p with
    | none => exact q1
    | some b =>
      have q1' : if a.sz = b.sz then (if a.sz ≤ 7 then Q .non H1 else manyE Ts X.k12 7 E H1) else E (.ref X.k5) none H1 := q1
      show if a.sz = b.sz then _ else _
      by_cases e : a.sz = b.sz
      · rw [if_pos e]
        refine ⟨_, rfl, u, a, rfl, (ho.kp k1).1, by have := ho.2; omega, by have := ho.2; omega, fun H2 k2 => ?_⟩
        have q2 := q H2 (k1.trans k2)
        have q2' : if a.sz = b.sz then (if a.sz ≤ 7 then Q .non H2 else manyE Ts X.k12 7 E H2) else E (.ref X.k5) none H2 := q2
        rw [if_pos e] at q2'
        refine ⟨(a.sz : Int), 7, rfl, ?_⟩
        by_cases c : a.sz ≤ 7
        · rw [if_pos c] at q2'
          rw [if_neg (by omega)]
          exact q2'
        · rw [if_neg c] at q2'
          rw [if_pos (by omega)]
          exact q2'
      · rw [if_neg e] at q1' ⊢
        exact q1'
end
end K43

/-! DA: trees_between, longest_up, fewest_up, count_ways. -/
namespace K43
open PySem L2
def q37 : Str := "passed_by.<locals>.<lambda>"
def q42 : Str := "trees_between.<locals>.<lambda>"
/-- the tables of the lambdas -/
structure Tb {K : PySem.W.Frag} {mg : Str → Option Value} (X : TX K mg) (base : Heap) (Ts : List (Addr × Str)) : Prop where
  t37 : LamX.TabB base mg X.c37 X.p37
  m37 : (X.p37, ("passed_by.<locals>.<lambda>" : Str)) ∈ Ts
  u37 : ∀ p ∈ Ts, p.1 = X.p37 → p.2 = ("passed_by.<locals>.<lambda>" : Str)
  t42 : LamX.TabB base mg X.c42 X.p42
  m42 : (X.p42, ("trees_between.<locals>.<lambda>" : Str)) ∈ Ts
  u42 : ∀ p ∈ Ts, p.1 = X.p42 → p.2 = ("trees_between.<locals>.<lambda>" : Str)
  t62 : LamX.TabB base mg X.c62 X.p62
  m62 : (X.p62, ("law.<locals>.<lambda>" : Str)) ∈ Ts
  u62 : ∀ p ∈ Ts, p.1 = X.p62 → p.2 = ("law.<locals>.<lambda>" : Str)
section
variable {P : Program} {w : World} {K : PySem.W.Frag} {mg : Str → Option Value} {base : Heap} {Ts : List (Addr × Str)}
def goodB (Ts : List (Addr × Str)) (Q : VK) (a b : T) (H : Hp) : Prop := pre a b ∧ (below a b = false → ∀ r H2, Kp Ts [] H H2 → H2 r = some (.lst []) → Q (.ref r) H2) ∧
  (below a b = true → ∀ r ys H2, Kp Ts [] H H2 → H2 r = some (.lst ys) → TPs H2 (between a b) ys → Q (.ref r) H2)
def spB (Ts : List (Addr × Str)) (k5 k6 k12 : Addr) : Sp := fun vs H Q E => ∃ u v o p, vs = [u, v] ∧ treeOr H u o ∧ treeOr H v p ∧ LamX.Tabs Ts H ∧ ∀ H', Kp Ts [] H H' → outR Ts k5 k6 k12 (goodB Ts Q) E H' o p
theorem ok42 (X : TX K mg) (Y : TMX K mg X.k12) (F : Fl P) (B : Tb X base Ts) : FnOk P w K mg base (L2.CX P w) 151 X.f42 X.d42 ["one", "other"] (spB Ts X.k5 X.k6 X.k12) := by
  have GN := ok39 (P := P) (w := w) (base := base) (Ts := Ts) X Y F
  have GB := ok32 (P := P) (w := w) (base := base) (Ts := Ts) X
  have GP := ok37 (P := P) (w := w) (base := base) (Ts := Ts) X B.t37 B.m37 B.u37
  have GK := ok28 (P := P) (w := w) (base := base) (Ts := Ts) X 50 (by omega)
  refine code_okX X.C42 sc42 (fun vs H Q E h => by obtain ⟨u, v, o, p, rfl, _⟩ := h; rfl) (fun A outer s H vs Q E hr h => ?_)
  obtain ⟨u, v, o, p, rfl, ho, hp, hT, q⟩ := h
  refine ⟨_, pss_cons (ps_expr (pe_call GN (hr.mono (by omega)) rfl X.D39.g X.D39.F.kp X.D39.b .nil (passes_call (takes_of rfl rfl rfl rfl) (fun _ _ _ _ h => h)) (pa_cons (pv 0) (pa_cons (pv 1) pa_nil))))
    (pss_cons (ps_if (pt_not (pt_val (pe_call GB (hr.mono (by omega)) rfl X.D32.g X.D32.F.kp X.D32.b .nil pass0 (pa_cons (pv 0) (pa_cons (pv 1) pa_nil))))) (pss_one (ps_ret (pe_lst pa_nil))) pss_nil)
    (pss_one (ps_ret (pe_sortL (Ts := Ts) (k := 130) (okp := fun t => t.sz ≤ 7) (key := num) rfl X.n_sorted (pe_call GP (hr.mono (by omega)) rfl X.D37.g X.D37.F.kp X.D37.b .nil pass0 (pa_cons (pv 0) (pa_cons (pv 1) pa_nil))) B.t42 rfl B.m42 B.u42 (hr.mono (by omega))
      (S := ⟨rfl, rfl, rfl, by decide +kernel, rfl, by decide +kernel, by decide +kernel⟩) rfl (fun _ _ _ _ _ => rfl)
      (fun A' f c' s' H' t v' Q' hr' ht' hz' q' => ⟨_, pe_call GK (hr'.mono (by omega)) rfl X.D28.g X.D28.F.kp X.D28.b .nil pass0 (pa_cons (pv 0) pa_nil), ⟨_, rfl, v', t, rfl, ht', by have : t.sz ≤ 7 := hz'; omega, by have : t.sz ≤ 7 := hz'; omega, q'⟩⟩))))), ?_⟩
  refine ⟨_, rfl, _, rfl, u, v, o, p, rfl, ho, hp, fun H1 k1 => ?_⟩
  have q1 := q H1 k1
  cases o with
  | none => exact q1
  | some a =>
    cases p with
    | none => exact q1
    | some b =>
      have q1' : if a.sz = b.sz then (if a.sz ≤ 7 then goodB Ts Q a b H1 else manyE Ts X.k12 7 E H1) else E (.ref X.k5) none H1 := q1
      show if a.sz = b.sz then (if a.sz ≤ 7 then _ else _) else _
      by_cases e : a.sz = b.sz
      · rw [if_pos e] at q1' ⊢
        by_cases c : a.sz ≤ 7
        · rw [if_pos c] at q1' ⊢
          obtain ⟨hpre, hno, hyes⟩ := q1'
          have hu1 := (ho.kp k1).1
          have hv1 := (hp.kp k1).1
          refine ⟨_, rfl, _, rfl, u, v, a, b, rfl, hu1, hv1, by omega, by omega, fun H2 k2 => ⟨_, rfl, ?_⟩⟩
          cases hb : below a b with
          | false => exact iteT ⟨(by show 0 ≤ sizeLine; decide), fun r nr => hno hb r _ (k2.news nr) upd_same⟩
          | true =>
            obtain ⟨g1, g2, g3⟩ := hpre hb
            refine iteF ⟨_, rfl, _, rfl, u, v, a, b, rfl, hu1.kp k2, hv1.kp k2, e, c, g1, g2, (k1.trans k2).tab hT, fun r ys H3 k3 nr hy hys => ?_⟩
            refine ⟨r, ys, passed a b, rfl, SqL.of hy, hys, fun t m => ?_, ((k1.trans k2).trans k3).tab hT, fun H4 r2 zs k4 n4 hzs => ?_⟩
            · have := found_sz a b t (isort_mem _ _ _ m)
              show t.sz ≤ 7
              omega
            · exact hyes hb r2 zs _ ((k2.trans (k3.trans k4)).news n4) upd_same (hzs.kp (Kp.new (Ts := Ts) (L := []) n4))
        · rw [if_neg c] at q1' ⊢
          exact q1'
      · rw [if_neg e] at q1' ⊢
        exact q1'
/-- longest_up, fewest_up, count_ways: g of the ranks, or z -/
def goodG (Ts : List (Addr × Str)) (g : N3 → Nat) (z : V) (Q : VK) (a b : T) (H : Hp) : Prop := pre a b ∧ (below a b = false → ∀ H2, Kp Ts [] H H2 → Q z H2) ∧
  (below a b = true → ∀ acc x H2, ranks a b = some acc → look b acc = some x → Kp Ts [] H H2 → Q (.int (g x : Nat)) H2)
def spG (Ts : List (Addr × Str)) (k5 k6 k12 : Addr) (g : N3 → Nat) (z : V) : Sp := fun vs H Q E => ∃ u v o p, vs = [u, v] ∧ treeOr H u o ∧ treeOr H v p ∧ LamX.Tabs Ts H ∧ ∀ H', Kp Ts [] H H' → outR Ts k5 k6 k12 (goodG Ts g z Q) E H' o p
/-- longest_up -/
theorem ok43 (X : TX K mg) (Y : TMX K mg X.k12) (F : Fl P) (B : Tb X base Ts) : FnOk P w K mg base (L2.CX P w) 151 X.f43 X.d43 ["one", "other"] (spG Ts X.k5 X.k6 X.k12 (fun x => x.1) .non) := by
  have GN := ok39 (P := P) (w := w) (base := base) (Ts := Ts) X Y F
  have GB := ok32 (P := P) (w := w) (base := base) (Ts := Ts) X
  have GR := ok36 (P := P) (w := w) (base := base) (Ts := Ts) X B.t37 B.m37 B.u37
  refine X.D43.F.okX sc43 (fun vs H Q E h => by obtain ⟨u, v, o, p, rfl, _⟩ := h; rfl) (fun cdv A outer s H vs Q E hr h => ?_)
  obtain ⟨u, v, o, p, rfl, ho, hp, hT, q⟩ := h
  refine ⟨_, pss_cons (ps_expr (pe_call GN (hr.mono (by omega)) rfl X.D39.g X.D39.F.kp X.D39.b .nil (passes_call (takes_of rfl rfl rfl rfl) (fun _ _ _ _ h => h)) (pa_cons (pv 0) (pa_cons (pv 1) pa_nil))))
    (pss_one (ps_ret (pe_ifExp (pt_val (pe_call GB (hr.mono (by omega)) rfl X.D32.g X.D32.F.kp X.D32.b .nil pass0 (pa_cons (pv 0) (pa_cons (pv 1) pa_nil))))
      (pe_ix ix_tup (pe_ix (ix_D hr.units) (pe_call GR (hr.mono (by omega)) rfl X.D36.g X.D36.F.kp X.D36.b .nil pass0 (pa_cons (pv 0) (pa_cons (pv 1) pa_nil))) (pv 1) (fun _ _ => rfl)) pe_int (fun _ _ => rfl)) pe_non))), ?_⟩
  refine ⟨_, rfl, _, rfl, u, v, o, p, rfl, ho, hp, fun H1 k1 => ?_⟩
  have q1 := q H1 k1
  cases o with
  | none => exact q1
  | some a =>
    cases p with
    | none => exact q1
    | some b =>
      have q1' : if a.sz = b.sz then (if a.sz ≤ 7 then goodG Ts (fun x => x.1) .non Q a b H1 else manyE Ts X.k12 7 E H1) else E (.ref X.k5) none H1 := q1
      show if a.sz = b.sz then (if a.sz ≤ 7 then _ else _) else _
      by_cases e : a.sz = b.sz
      · rw [if_pos e] at q1' ⊢
        by_cases c : a.sz ≤ 7
        · rw [if_pos c] at q1' ⊢
          obtain ⟨hpre, hno, hyes⟩ := q1'
          have hu1 := (ho.kp k1).1
          have hv1 := (hp.kp k1).1
          refine ⟨_, rfl, _, rfl, u, v, a, b, rfl, hu1, hv1, by omega, by omega, fun H2 k2 => ⟨_, rfl, ?_⟩⟩
          cases hb : below a b with
          | false => exact iteF (hno hb H2 k2)
          | true =>
            obtain ⟨g1, g2, acc, hr, x, hx⟩ := hpre hb
            refine iteT ⟨_, rfl, _, rfl, u, v, a, b, acc, rfl, hu1.kp k2, hv1.kp k2, e, c, g1, g2, found_sz a b, hr, (k1.trans k2).tab hT, fun d es H3 k3 nd hd hrk => ?_⟩
            obtain ⟨y, hy, p3, rfl, hp3⟩ := hrk.at hx
            refine ⟨_, rfl, d, es, b, _, rfl, hd, (hv1.kp k2).kp k3, by omega, hy, ?_⟩
            exact ⟨p3, _, _, _, rfl, rfl, SqT.of hp3, rfl, hyes hb acc x H3 hr hx (k2.trans k3)⟩
        · rw [if_neg c] at q1' ⊢
          exact q1'
      · rw [if_neg e] at q1' ⊢
        exact q1'
/-- fewest_up -/
theorem ok44 (X : TX K mg) (Y : TMX K mg X.k12) (F : Fl P) (B : Tb X base Ts) : FnOk P w K mg base (L2.CX P w) 151 X.f44 X.d44 ["one", "other"] (spG Ts X.k5 X.k6 X.k12 (fun x => x.2.1) .non) := by
  have GN := ok39 (P := P) (w := w) (base := base) (Ts := Ts) X Y F
  have GB := ok32 (P := P) (w := w) (base := base) (Ts := Ts) X
  have GR := ok36 (P := P) (w := w) (base := base) (Ts := Ts) X B.t37 B.m37 B.u37
  refine X.D44.F.okX sc44 (fun vs H Q E h => by obtain ⟨u, v, o, p, rfl, _⟩ := h; rfl) (fun cdv A outer s H vs Q E hr h => ?_)
  obtain ⟨u, v, o, p, rfl, ho, hp, hT, q⟩ := h
  refine ⟨_, pss_cons (ps_expr (pe_call GN (hr.mono (by omega)) rfl X.D39.g X.D39.F.kp X.D39.b .nil (passes_call (takes_of rfl rfl rfl rfl) (fun _ _ _ _ h => h)) (pa_cons (pv 0) (pa_cons (pv 1) pa_nil))))
    (pss_one (ps_ret (pe_ifExp (pt_val (pe_call GB (hr.mono (by omega)) rfl X.D32.g X.D32.F.kp X.D32.b .nil pass0 (pa_cons (pv 0) (pa_cons (pv 1) pa_nil))))
      (pe_ix ix_tup (pe_ix (ix_D hr.units) (pe_call GR (hr.mono (by omega)) rfl X.D36.g X.D36.F.kp X.D36.b .nil pass0 (pa_cons (pv 0) (pa_cons (pv 1) pa_nil))) (pv 1) (fun _ _ => rfl)) pe_int (fun _ _ => rfl)) pe_non))), ?_⟩
  refine ⟨_, rfl, _, rfl, u, v, o, p, rfl, ho, hp, fun H1 k1 => ?_⟩
  have q1 := q H1 k1
  cases o with
  | none => exact q1
  | some a =>
    cases p with
    | none => exact q1
    | some b =>
      have q1' : if a.sz = b.sz then (if a.sz ≤ 7 then goodG Ts (fun x => x.2.1) .non Q a b H1 else manyE Ts X.k12 7 E H1) else E (.ref X.k5) none H1 := q1
      show if a.sz = b.sz then (if a.sz ≤ 7 then _ else _) else _
      by_cases e : a.sz = b.sz
      · rw [if_pos e] at q1' ⊢
        by_cases c : a.sz ≤ 7
        · rw [if_pos c] at q1' ⊢
          obtain ⟨hpre, hno, hyes⟩ := q1'
          have hu1 := (ho.kp k1).1
          have hv1 := (hp.kp k1).1
          refine ⟨_, rfl, _, rfl, u, v, a, b, rfl, hu1, hv1, by omega, by omega, fun H2 k2 => ⟨_, rfl, ?_⟩⟩
          cases hb : below a b with
          | false => exact iteF (hno hb H2 k2)
          | true =>
            obtain ⟨g1, g2, acc, hr, x, hx⟩ := hpre hb
            refine iteT ⟨_, rfl, _, rfl, u, v, a, b, acc, rfl, hu1.kp k2, hv1.kp k2, e, c, g1, g2, found_sz a b, hr, (k1.trans k2).tab hT, fun d es H3 k3 nd hd hrk => ?_⟩
            obtain ⟨y, hy, p3, rfl, hp3⟩ := hrk.at hx
            refine ⟨_, rfl, d, es, b, _, rfl, hd, (hv1.kp k2).kp k3, by omega, hy, ?_⟩
            exact ⟨p3, _, _, _, rfl, rfl, SqT.of hp3, rfl, hyes hb acc x H3 hr hx (k2.trans k3)⟩
        · rw [if_neg c] at q1' ⊢
          exact q1'
      · rw [if_neg e] at q1' ⊢
        exact q1'
/-- count_ways -/
theorem ok45 (X : TX K mg) (Y : TMX K mg X.k12) (F : Fl P) (B : Tb X base Ts) : FnOk P w K mg base (L2.CX P w) 151 X.f45 X.d45 ["one", "other"] (spG Ts X.k5 X.k6 X.k12 (fun x => x.2.2) (.int 0)) := by
  have GN := ok39 (P := P) (w := w) (base := base) (Ts := Ts) X Y F
  have GB := ok32 (P := P) (w := w) (base := base) (Ts := Ts) X
  have GR := ok36 (P := P) (w := w) (base := base) (Ts := Ts) X B.t37 B.m37 B.u37
  refine X.D45.F.okX sc45 (fun vs H Q E h => by obtain ⟨u, v, o, p, rfl, _⟩ := h; rfl) (fun cdv A outer s H vs Q E hr h => ?_)
  obtain ⟨u, v, o, p, rfl, ho, hp, hT, q⟩ := h
  refine ⟨_, pss_cons (ps_expr (pe_call GN (hr.mono (by omega)) rfl X.D39.g X.D39.F.kp X.D39.b .nil (passes_call (takes_of rfl rfl rfl rfl) (fun _ _ _ _ h => h)) (pa_cons (pv 0) (pa_cons (pv 1) pa_nil))))
    (pss_one (ps_ret (pe_ifExp (pt_val (pe_call GB (hr.mono (by omega)) rfl X.D32.g X.D32.F.kp X.D32.b .nil pass0 (pa_cons (pv 0) (pa_cons (pv 1) pa_nil))))
      (pe_ix ix_tup (pe_ix (ix_D hr.units) (pe_call GR (hr.mono (by omega)) rfl X.D36.g X.D36.F.kp X.D36.b .nil pass0 (pa_cons (pv 0) (pa_cons (pv 1) pa_nil))) (pv 1) (fun _ _ => rfl)) pe_int (fun _ _ => rfl)) pe_int))), ?_⟩
  refine ⟨_, rfl, _, rfl, u, v, o, p, rfl, ho, hp, fun H1 k1 => ?_⟩
  have q1 := q H1 k1
  cases o with
  | none => exact q1
  | some a =>
    cases p with
    | none => exact q1
    | some b =>
      have q1' : if a.sz = b.sz then (if a.sz ≤ 7 then goodG Ts (fun x => x.2.2) (.int 0) Q a b H1 else manyE Ts X.k12 7 E H1) else E (.ref X.k5) none H1 := q1
      show if a.sz = b.sz then (if a.sz ≤ 7 then _ else _) else _
      by_cases e : a.sz = b.sz
      · rw [if_pos e] at q1' ⊢
        by_cases c : a.sz ≤ 7
        · rw [if_pos c] at q1' ⊢
          obtain ⟨hpre, hno, hyes⟩ := q1'
          have hu1 := (ho.kp k1).1
          have hv1 := (hp.kp k1).1
          refine ⟨_, rfl, _, rfl, u, v, a, b, rfl, hu1, hv1, by omega, by omega, fun H2 k2 => ⟨_, rfl, ?_⟩⟩
          cases hb : below a b with
          | false => exact iteF (hno hb H2 k2)
          | true =>
            obtain ⟨g1, g2, acc, hr, x, hx⟩ := hpre hb
            refine iteT ⟨_, rfl, _, rfl, u, v, a, b, acc, rfl, hu1.kp k2, hv1.kp k2, e, c, g1, g2, found_sz a b, hr, (k1.trans k2).tab hT, fun d es H3 k3 nd hd hrk => ?_⟩
            obtain ⟨y, hy, p3, rfl, hp3⟩ := hrk.at hx
            refine ⟨_, rfl, d, es, b, _, rfl, hd, (hv1.kp k2).kp k3, by omega, hy, ?_⟩
            exact ⟨p3, _, _, _, rfl, rfl, SqT.of hp3, rfl, hyes hb acc x H3 hr hx (k2.trans k3)⟩
        · rw [if_neg c] at q1' ⊢
          exact q1'
      · rw [if_neg e] at q1' ⊢
        exact q1'
end
end K43

/-! DB: count_below, least_tree, greatest_tree; the law's drum, trees, turnings. -/
namespace K43
open PySem L2 PySem.Spec PyProof.Rows
section
variable {X : Cx}
/-- list + list, read or tracked -/
def rCatS (K : PySem.W.Frag) : R2 := fun x y H Q => ∃ l b xs zs, x = .ref l ∧ y = .ref b ∧ SqL K H l xs ∧ SqL K H b zs ∧ xs.length + zs.length ≤ sizeLine ∧ ∀ p, H p = none → Q (.ref p) (upd H p (.lst (xs ++ zs)))
theorem op_catS : OpR X (binaryOp .Add) (rCatS X.K) := by
  intro pins s σ H x y v u Q I rx ry h
  obtain ⟨l, b, xs, zs, rfl, rfl, hH, hB, hz, q⟩ := h
  cases rx
  cases ry
  obtain ⟨its, r, ⟨⟨cls, dd, data, sl⟩, n, ho, hc, hdd, hd⟩, _⟩ := I.list hH
  obtain ⟨its2, r2, ⟨⟨cls2, dd2, data2, sl2⟩, n2, ho2, hc2, hdd2, hd2⟩, _⟩ := I.list hB
  simp only at hc hd hc2 hd2
  subst hc hd hc2 hd2
  have e : its.toArray ++ its2.toArray = (its ++ its2).toArray := by simp
  have l1 := r.length
  have l2 := r2.length
  refine concat_meets ⟨_, ho, rfl⟩ ⟨_, ho2, rfl⟩ noFill_list_add seq_list_add PySem.F.slot_list_add PySem.F.entry_list_add (PySem.F.args_list_add_2 _ _) (list_addW l b its.toArray its2.toArray n n2 dd dd2 sl sl2 (by rw [List.size_toArray, List.size_toArray]; omega)) ⟨ho, ho2, ?_⟩
  rw [e]
  exact ⟨.ref _, _, I.lnew (t' := s.toks) (r.append r2) (by rw [List.length_append]; omega), rfl, q _ I.fresh⟩
end
theorem small9 {n : Nat} (h : n ≤ 9000) : n < sizeLine := Nat.lt_of_le_of_lt h (by rw [sizeLine_eq]; decide)
def cbN (n : Nat) : Nat := 2 * fac (4 * n + 1) / (fac (n + 1) * fac (3 * n + 2))
theorem fac_small : ∀ n, n ≤ 97 → 0 < fac n ∧ fac n < 2 ^ 600 := by decide +kernel
section
variable {P : Program} {w : World} {K : PySem.W.Frag} {mg : Str → Option Value} {base : Heap} {Ts : List (Addr × Str)}
def spCB (k4 : Addr) : Sp := fun vs H Q E => ∃ x, vs = [x] ∧ simpV x = true ∧ (∀ n : Nat, x = .int (n : Nat) → n ≤ 24 → Q (.int (cbN n : Nat)) H) ∧ (wholeV x 0 24 = false → E (.ref k4) none H)
theorem whole_nat {x : V} (h : wholeV x 0 24 = true) : ∃ n : Nat, x = .int (n : Nat) ∧ n ≤ 24 := by
  cases x with
  | int i =>
    have h' : (decide ((0 : Int) ≤ i) && decide (i ≤ 24)) = true := h
    simp only [Bool.and_eq_true, decide_eq_true_eq] at h'
    exact ⟨i.toNat, by rw [Int.toNat_of_nonneg h'.1], by omega⟩
  | _ => cases h
theorem ok46 (X : TX K mg) : FnOk P w K mg base (L2.CX P w) 5 X.f46 X.d46 ["forks"] (spCB X.k4) := by
  have GN := ok15 (P := P) (w := w) (base := base) X
  have GF := ok41 (P := P) (w := w) (base := base) (Ts := []) X
  refine X.D46.F.okX sc46 (fun vs H Q E h => by obtain ⟨x, rfl, _⟩ := h; rfl) (fun cdv A outer s H vs Q E hr h => ?_)
  obtain ⟨x, rfl, hx, q1, q2⟩ := h
  refine ⟨_, pss_cons (ps_expr (pe_call GN (hr.mono (by omega)) rfl X.D15.g X.D15.F.kp X.D15.b .nil (passes_call (takes_of rfl rfl rfl rfl) (fun _ _ _ _ h => h)) (pa_cons (pv 0) (pa_cons pe_int (pa_cons (pe_glob (v := .int 24) rfl X.m18 ⟨_, rfl⟩) pa_nil)))))
    (pss_one (ps_ret (pe_op op_fdivW (pe_op op_mul pe_int (pe_call GF (hr.mono (by omega)) rfl X.D41.g X.D41.F.kp X.D41.b .nil pass0 (pa_cons (pe_op op_add (pe_op op_mul pe_int (pv 0)) pe_int) pa_nil)))
      (pe_op op_mulW (pe_call GF (hr.mono (by omega)) rfl X.D41.g X.D41.F.kp X.D41.b .nil pass0 (pa_cons (pe_op op_add (pv 0) pe_int) pa_nil))
        (pe_call GF (hr.mono (by omega)) rfl X.D41.g X.D41.F.kp X.D41.b .nil pass0 (pa_cons (pe_op op_add (pe_op op_mul pe_int (pv 0)) pe_int) pa_nil)))))), ?_⟩
  refine ⟨_, rfl, x, 0, 24, rfl, hx, fun hw => ?_, q2⟩
  obtain ⟨n, rfl, hn⟩ := whole_nat hw
  obtain ⟨a1, a2⟩ := fac_small (4 * n + 1) (by omega)
  obtain ⟨b1, b2⟩ := fac_small (n + 1) (by omega)
  obtain ⟨c1, c2⟩ := fac_small (3 * n + 2) (by omega)
  refine ⟨_, rfl, _, _, rfl, rfl, .inl ⟨by decide, by decide⟩, _, _, rfl, rfl, ?_⟩
  refine ⟨4 * n + 1, by show [V.int (4 * (n : Int) + 1)] = [V.int ((4 * n + 1 : Nat) : Int)]; rw [Int.natCast_add, Int.natCast_mul]; rfl, by omega, ?_⟩
  refine ⟨_, _, rfl, rfl, .inl ⟨by decide, by decide⟩, ?_⟩
  refine ⟨_, rfl, _, _, rfl, rfl, ?_⟩
  refine ⟨n + 1, by show [V.int ((n : Int) + 1)] = [V.int ((n + 1 : Nat) : Int)]; rw [Int.natCast_add]; rfl, by omega, ?_⟩
  refine ⟨_, rfl, _, _, rfl, rfl, .inl ⟨by decide, by decide⟩, _, _, rfl, rfl, ?_⟩
  refine ⟨3 * n + 2, by show [V.int (3 * (n : Int) + 2)] = [V.int ((3 * n + 2 : Nat) : Int)]; rw [Int.natCast_add, Int.natCast_mul]; rfl, by omega, ?_⟩
  have hb : ((fac (n + 1) : Nat) : Int).natAbs < 2 ^ 600 := by rw [Int.natAbs_natCast]; exact b2
  have hc : ((fac (3 * n + 2) : Nat) : Int).natAbs < 2 ^ 600 := by rw [Int.natAbs_natCast]; exact c2
  refine ⟨_, _, rfl, rfl, wide_mul hb hc (by omega) (by omega) (by omega), _, _, rfl, rfl, wide_div (b := 1200) (by rw [← Int.natCast_mul]; exact Int.natCast_pos.mpr (Nat.mul_pos b1 c1)) (wide_lt hb hc) (by omega) (by omega), ?_⟩
  have e : (2 : Int) * (fac (4 * n + 1) : Int) / ((fac (n + 1) : Int) * (fac (3 * n + 2) : Int)) = ((cbN n : Nat) : Int) := by
    show _ = ((2 * fac (4 * n + 1) / (fac (n + 1) * fac (3 * n + 2)) : Nat) : Int)
    rw [Int.natCast_ediv, Int.natCast_mul, Int.natCast_mul]
    rfl
  exact Qi (Q := Q) (q1 n rfl hn) e
def spLT (Ts : List (Addr × Str)) (b : Bool) (k4 : Addr) : Sp := fun vs H Q E => ∃ x, vs = [x] ∧ simpV x = true ∧ (∀ n : Nat, x = .int (n : Nat) → n ≤ 24 → ∀ u H', Kp Ts [] H H' → TA H' (comb b n) u → Q u H') ∧ (wholeV x 0 24 = false → E (.ref k4) none H)
theorem ok47 (X : TX K mg) : FnOk P w K mg base (L2.CX P w) 5 X.f47 X.d47 ["forks"] (spLT Ts true X.k4) := by
  have GN := ok15 (P := P) (w := w) (base := base) X
  have GC := ok40 (P := P) (w := w) (base := base) (Ts := Ts) X
  refine X.D47.F.okX sc47 (fun vs H Q E h => by obtain ⟨x, rfl, _⟩ := h; rfl) (fun cdv A outer s H vs Q E hr h => ?_)
  obtain ⟨x, rfl, hx, q1, q2⟩ := h
  refine ⟨_, pss_cons (ps_expr (pe_call GN (hr.mono (by omega)) rfl X.D15.g X.D15.F.kp X.D15.b .nil (passes_call (takes_of rfl rfl rfl rfl) (fun _ _ _ _ h => h)) (pa_cons (pv 0) (pa_cons pe_int (pa_cons (pe_glob (v := .int 24) rfl X.m18 ⟨_, rfl⟩) pa_nil)))))
    (pss_one (ps_ret (pe_call GC (hr.mono (by omega)) rfl X.D40.g X.D40.F.kp X.D40.b .nil pass0 (pa_cons (pv 0) (pa_cons pe_bl pa_nil))))), ?_⟩
  refine ⟨_, rfl, x, 0, 24, rfl, hx, fun hw => ?_, q2⟩
  obtain ⟨n, rfl, hn⟩ := whole_nat hw
  exact ⟨_, rfl, n, true, rfl, by omega, fun u H' k h => q1 n rfl hn u H' k h⟩
theorem ok48 (X : TX K mg) : FnOk P w K mg base (L2.CX P w) 5 X.f48 X.d48 ["forks"] (spLT Ts false X.k4) := by
  have GN := ok15 (P := P) (w := w) (base := base) X
  have GC := ok40 (P := P) (w := w) (base := base) (Ts := Ts) X
  refine X.D48.F.okX sc48 (fun vs H Q E h => by obtain ⟨x, rfl, _⟩ := h; rfl) (fun cdv A outer s H vs Q E hr h => ?_)
  obtain ⟨x, rfl, hx, q1, q2⟩ := h
  refine ⟨_, pss_cons (ps_expr (pe_call GN (hr.mono (by omega)) rfl X.D15.g X.D15.F.kp X.D15.b .nil (passes_call (takes_of rfl rfl rfl rfl) (fun _ _ _ _ h => h)) (pa_cons (pv 0) (pa_cons pe_int (pa_cons (pe_glob (v := .int 24) rfl X.m18 ⟨_, rfl⟩) pa_nil)))))
    (pss_one (ps_ret (pe_call GC (hr.mono (by omega)) rfl X.D40.g X.D40.F.kp X.D40.b .nil pass0 (pa_cons (pv 0) (pa_cons pe_bl pa_nil))))), ?_⟩
  refine ⟨_, rfl, x, 0, 24, rfl, hx, fun hw => ?_, q2⟩
  obtain ⟨n, rfl, hn⟩ := whole_nat hw
  exact ⟨_, rfl, n, false, rfl, by omega, fun u H' k h => q1 n rfl hn u H' k h⟩
/-! ### the drum -/
def Drum (H : Hp) (p : Addr) : Prop := ∃ c d : Int, H p = some (.lst [.int c, .int d]) ∧ 0 ≤ c ∧ 0 ≤ d ∧ d < 2147483648
theorem Drum.kp {L : List Addr} {H H' : Hp} {p : Addr} (h : Drum H p) (k : Kp Ts L H H') (n : p ∉ L) : Drum H' p := by
  obtain ⟨c, d, e, r⟩ := h
  exact ⟨c, d, k.lst e n, r⟩
def spDrum (K : PySem.W.Frag) (Ts : List (Addr × Str)) : Sp := fun vs H Q _ => ∃ (a : Addr) (ns : List Int), vs = [.ref a, .int 0] ∧ SqL K H a (ns.map V.int) ∧ ns.length ≤ 63 ∧ ∀ p H', Kp Ts [] H H' → Drum H' p → Q (.ref p) H'
theorem ok50 (X : TX K mg) : FnOk P w K mg base CX0 1 X.f50 X.d50 ["_law_script", "_law_k"] (spDrum K Ts) := by
  refine X.D50.F.ok sc50 (fun vs H Q E h => by obtain ⟨a, ns, rfl, _⟩ := h; rfl) (fun cdv A outer s H vs Q E hr h => ?_)
  obtain ⟨a, ns, rfl, ha, hl, q⟩ := h
  refine ⟨_, pss_cons (ps_set (i := 2) sc50.nd rfl (Or.inl rfl) (pe_op op_catS (pv 0) (pe_lst (pa_cons pe_int pa_nil))))
    (pss_cons (ps_set (i := 3) sc50.nd rfl (Or.inl rfl) (pe_ifExp (pt_cmpR op_lt (pv 1) (pe_callB call_len_seq rfl X.n_len PySem.boot_len (pa_cons (pv 2) pa_nil)) (nomark _))
      (pe_op op_mod (pe_callB call_abs rfl X.n_abs (by decide +kernel) (pa_cons (pe_callTy call_int1 rfl X.n_int (by decide +kernel) (pa_cons (pe_ix ix_list (pv 2) (pv 1) (fun _ _ => rfl)) pa_nil)) pa_nil))
        (pe_op op_mulW (pe_op op_mulW (pe_op op_mulW (pe_op op_pow pe_int pe_int) (pe_op op_pow pe_int pe_int)) (pe_op op_pow pe_int pe_int)) (pe_op op_pow pe_int pe_int)))
      (pe_op op_add (pe_op op_mul pe_int (pv 1)) pe_int)))
    (pss_one (ps_ret (pe_lst (pa_cons (pe_ifExp (pt_cmpR op_ge (pv 3) (pe_op op_pow pe_int pe_int) (nomark _)) (pv 3) pe_int)
      (pa_cons (pe_op op_add (pe_op op_mod (pe_callTy call_int1 rfl X.n_int (by decide +kernel) (pa_cons (pe_op op_add (pe_op op_add (pe_op op_mul (pe_op op_mod (pv 3) pe_int) pe_int) (pe_op op_mul pe_int (pv 1))) pe_int) pa_nil)) pe_int) pe_int) pa_nil)))))), ?_⟩
  refine ⟨_, rfl, (by show 1 ≤ sizeLine; decide), fun p1 n1 => ?_⟩
  have k1 : Kp Ts [] H (upd H p1 (.lst [.int 0])) := .new n1
  refine ⟨a, p1, _, _, rfl, rfl, k1.sql ha (by simp), SqL.of upd_same, by rw [List.length_map]; exact Nat.le_of_lt (small1000 (by simp only [List.length_singleton]; omega)), fun p2 n2 => ?_⟩
  have k2 : Kp Ts [] H (upd (upd H p1 (.lst [.int 0])) p2 (.lst (ns.map V.int ++ [.int 0]))) := k1.news n2
  obtain ⟨i, hi⟩ : ∃ i : Int, (ns.map V.int ++ [V.int 0])[0]? = some (.int i) := by
    cases ns with
    | nil => exact ⟨0, rfl⟩
    | cons i _ => exact ⟨i, rfl⟩
  refine ⟨_, rfl, _, rfl, p2, _, rfl, .inl (SqL.of upd_same), _, _, rfl, rfl, _, rfl, ?_⟩
  have e1 : decide ((0 : Int) < (((ns.map V.int ++ [V.int 0]).length : Nat) : Int)) = true := decide_eq_true (by rw [List.length_append, List.length_singleton]; omega)
  refine (if_pos e1).mpr ?_
  refine ⟨_, rfl, _, rfl, p2, _, 0, _, rfl, rfl, SqL.of upd_same, atI_nat (j := 0) hi, .inl ⟨_, rfl, _, rfl, ?_⟩⟩
  refine ⟨_, _, rfl, rfl, ⟨by decide, by decide, by decide⟩, _, _, rfl, rfl, ⟨by decide, by decide, by decide⟩, _, _, rfl, rfl, (by unfold CMulW; decide +kernel), _, _, rfl, rfl, ⟨by decide, by decide, by decide⟩, _, _, rfl, rfl, (by unfold CMulW; decide +kernel), _, _, rfl, rfl, ⟨by decide, by decide, by decide⟩, _, _, rfl, rfl, (by unfold CMulW; decide +kernel), _, _, rfl, rfl, ?_, ?_⟩
  · show (0 : Int) < _
    decide +kernel
  dsimp only
  generalize hc : (if i < 0 then -i else i) % ((10 : Int) ^ (60 : Int).toNat * (10 : Int) ^ (60 : Int).toNat * (10 : Int) ^ (60 : Int).toNat * (10 : Int) ^ (60 : Int).toNat) = c
  have hc0 : 0 ≤ c := by
    rw [← hc]
    refine Int.emod_nonneg _ ?_
    decide +kernel
  clear hc
  refine ⟨_, rfl, _, _, rfl, rfl, ⟨by decide, by decide, by decide⟩, _, _, rfl, rfl, _, rfl, ?_⟩
  have rest : ∀ c1 : Int, 0 ≤ c1 → (tCons (tOp (rI0 fun i j => .int (i + j)) (tOp (rI (fun _ j => 0 < j) fun i j => .int (i % j)) (tCB (fun xs H Q => (∃ i, xs = [.int i] ∧ Q (.int i) H) ∨ ∃ k, xs = [.bl k] ∧ Q (.int (if k then 1 else 0)) H) (tCons (tOp (rI0 fun i j => .int (i + j)) (tOp (rI0 fun i j => .int (i + j)) (tOp (rI CMul fun i j => .int (i * j)) (tOp (rI (fun _ j => 0 < j) fun i j => .int (i % j)) (tVar 3) (tC (.int 2147482319))) (tC (.int 89))) (tOp (rI CMul fun i j => .int (i * j)) (tC (.int 1063)) (tVar 1))) (tC (.int 73))) tNil)) (tC (.int 2147482319))) (tC (.int 1))) tNil)
      [some (.ref a), some (.int 0), some (.ref p2), some (.int c)] (upd (upd H p1 (.lst [.int 0])) p2 (.lst (ns.map V.int ++ [.int 0]))) (fun vs H1 => (V.int c1 :: vs).length ≤ sizeLine ∧ ∀ l, H1 l = none → Q (.ref l) (upd H1 l (.lst (V.int c1 :: vs)))) := fun c1 hc1 => by
    refine ⟨_, rfl, _, _, rfl, rfl, (by show (0 : Int) < 2147482319; decide), _, _, rfl, rfl, .inr ⟨by decide, by decide⟩, _, rfl, _, _, rfl, rfl, .inl ⟨by decide, by decide⟩, _, _, rfl, rfl, _, _, rfl, rfl, .inl ⟨_, rfl, _, _, rfl, rfl, (by show (0 : Int) < 2147482319; decide), _, _, rfl, rfl, (by show 2 ≤ sizeLine; decide), fun l nl => ?_⟩⟩
    refine q l _ (k2.news nl) ⟨c1, _, upd_same, hc1, ?_, ?_⟩
    · have := Int.emod_nonneg (c % 2147482319 * 89 + 1063 * 0 + 73) (show (2147482319 : Int) ≠ 0 by decide)
      omega
    · have := Int.emod_lt_of_pos (c % 2147482319 * 89 + 1063 * 0 + 73) (show (0 : Int) < 2147482319 by decide)
      omega
  refine ite2 (fun h => ⟨_, rfl, rest c hc0⟩) (fun h => rest 0 (Int.le_refl _))
end
end K43

/-! DC: _law_roll, _law_pick, _law_grown, _law_every. -/
namespace K43
open PySem L2
theorem flatMap_take_succ {α β : Type} (f : α → List β) {l : List α} {i : Nat} {x : α} (h : l[i]? = some x) : (l.take (i + 1)).flatMap f = (l.take i).flatMap f ++ f x := by
  rw [List.take_add_one, h, List.flatMap_append]
  simp
theorem TPs.app {H : Hp} {ts us : List T} {xs ys : List V} (h : TPs H ts xs) (g : TPs H us ys) : TPs H (ts ++ us) (xs ++ ys) := by
  induction h with
  | nil => exact g
  | cons h _ ih => exact .cons h ih
section
variable {P : Program} {w : World} {K : PySem.W.Frag} {mg : Str → Option Value} {base : Heap} {Ts : List (Addr × Str)}
def spRoll (Ts : List (Addr × Str)) : Sp := fun vs H Q _ => ∃ (p : Addr) (m : Nat), vs = [.ref p, .int (m : Nat)] ∧ Drum H p ∧ 0 < m ∧ m ≤ 1000 ∧ ∀ (r : Nat) H', r < m → Kp Ts [p] H H' → Drum H' p → Q (.int (r : Nat)) H'
theorem modN {i : Int} {m : Nat} (h : 0 < m) : ∃ r : Nat, i % (m : Int) = (r : Int) ∧ r < m := by
  have h1 : 0 ≤ i % (m : Int) := Int.emod_nonneg i (by omega)
  have h2 : i % (m : Int) < (m : Int) := Int.emod_lt_of_pos i (by omega)
  exact ⟨(i % (m : Int)).toNat, (Int.toNat_of_nonneg h1).symm, by omega⟩
theorem ok51 (X : TX K mg) : FnOk P w K mg base CX0 1 X.f51 X.d51 ["_law_drum_here", "_law_many"] (spRoll Ts) := by
  refine X.D51.F.ok sc51 (fun vs H Q E h => by obtain ⟨p, m, rfl, _⟩ := h; rfl) (fun cdv A outer s H vs Q E hr h => ?_)
  obtain ⟨p, m, rfl, ⟨c, d, hp, hc, hd0, hd⟩, h0, hm, q⟩ := h
  refine ⟨_, pss_cons (ps_if (pt_cmpR op_gt (pe_ix ix_list (pv 0) pe_int (fun _ _ => rfl)) pe_int (nomark _))
      (pss_cons (ps_set (i := 2) sc51.nd rfl (Or.inl rfl) (pe_op op_mod (pe_callTy call_int1 rfl X.n_int (by decide +kernel) (pa_cons (pe_ix ix_list (pv 0) pe_int (fun _ _ => rfl)) pa_nil)) (pv 1)))
      (pss_cons (ps_asg (pe_op op_fdiv (pe_ix ix_list (pv 0) pe_int (fun _ _ => rfl)) (pv 1)) (pg_sub (pv 0) pe_int set_list))
      (pss_one (ps_ret (pv 2))))) pss_nil)
    (pss_cons (ps_asg (pe_op op_mod (pe_callTy call_int1 rfl X.n_int (by decide +kernel) (pa_cons (pe_op op_add (pe_op op_mul (pe_ix ix_list (pv 0) pe_int (fun _ _ => rfl)) pe_int) pe_int) pa_nil)) pe_int) (pg_sub (pv 0) pe_int set_list))
    (pss_cons (ps_set (i := 3) sc51.nd rfl (Or.inl rfl) (pe_op op_mod (pe_callTy call_int1 rfl X.n_int (by decide +kernel) (pa_cons (pe_op op_mul (pe_ix ix_list (pv 0) pe_int (fun _ _ => rfl)) (pe_op op_add (pe_ix ix_list (pv 0) pe_int (fun _ _ => rfl)) pe_int)) pa_nil)) pe_int))
    (pss_one (ps_ret (pe_op op_mod (pe_callTy call_int1 rfl X.n_int (by decide +kernel) (pa_cons (pe_op op_fdiv (pv 3) pe_int) pa_nil)) (pv 1)))))), ?_⟩
  refine ⟨_, rfl, p, _, 0, _, rfl, rfl, SqL.of hp, rfl, _, _, rfl, rfl, _, rfl, ?_⟩
  refine ite2 (fun _ => ?_) (fun _ => ?_)
  · refine ⟨_, rfl, p, _, 0, _, rfl, rfl, SqL.of hp, rfl, .inl ⟨_, rfl, _, rfl, _, _, rfl, rfl, (by show (0 : Int) < (m : Int); omega), ?_⟩⟩
    obtain ⟨r, er, hrm⟩ := modN (i := c) h0
    refine ⟨_, rfl, p, _, 0, _, rfl, rfl, SqL.of hp, rfl, _, rfl, _, _, rfl, rfl, ⟨by omega, by omega⟩, ?_⟩
    refine ⟨_, rfl, p, _, 0, 0, rfl, rfl, hp, rfl, ?_⟩
    refine ⟨_, rfl, ?_⟩
    show Q (.int (c % (m : Int))) _
    rw [er]
    refine q r _ hrm (.set hp Mu.lst (by simp)) ⟨c / (m : Int), d, upd_same, ?_, hd0, hd⟩
    exact Int.ediv_nonneg hc (by omega)
  · refine ⟨_, rfl, p, _, 1, _, rfl, rfl, SqL.of hp, rfl, _, _, rfl, rfl, .inr ⟨by decide, by decide⟩, _, _, rfl, rfl, .inl ⟨_, rfl, _, _, rfl, rfl, (by show (0 : Int) < 2147483549; decide), ?_⟩⟩
    have b0 : 0 ≤ (d * 30671 + 8807) % 2147483549 := Int.emod_nonneg _ (by decide)
    have b1 : (d * 30671 + 8807) % 2147483549 < 2147483549 := Int.emod_lt_of_pos _ (by decide)
    refine ⟨_, rfl, p, _, 1, 1, rfl, rfl, hp, rfl, ?_⟩
    refine ⟨_, rfl, p, [.int c, .int ((d * 30671 + 8807) % 2147483549)], 1, _, rfl, rfl, SqL.of upd_same, rfl, ?_⟩
    refine ⟨_, rfl, p, [.int c, .int ((d * 30671 + 8807) % 2147483549)], 1, _, rfl, rfl, SqL.of upd_same, rfl, _, _, rfl, rfl, _, _, rfl, rfl, .inl ⟨by omega, by omega⟩, .inl ⟨_, rfl, _, _, rfl, rfl, (by show (0 : Int) < 2147483587; decide), ?_⟩⟩
    refine ⟨_, rfl, _, _, rfl, rfl, ⟨by decide, by decide⟩, .inl ⟨_, rfl, _, rfl, _, _, rfl, rfl, (by show (0 : Int) < (m : Int); omega), ?_⟩⟩
    obtain ⟨r, er, hrm⟩ := modN (i := (d * 30671 + 8807) % 2147483549 * ((d * 30671 + 8807) % 2147483549 + 101) % 2147483587 / 613) h0
    show Q (.int ((d * 30671 + 8807) % 2147483549 * ((d * 30671 + 8807) % 2147483549 + 101) % 2147483587 / 613 % (m : Int))) _
    rw [er]
    exact q r _ hrm (.set hp Mu.lst (by simp)) ⟨c, _, upd_same, hc, b0, by omega⟩
def spPick (Ts : List (Addr × Str)) : Sp := fun vs H Q _ => ∃ (p l : Addr) (xs : List V), vs = [.ref p, .ref l] ∧ Drum H p ∧ H l = some (.lst xs) ∧ l ≠ p ∧ xs ≠ [] ∧ xs.length ≤ 1000 ∧ ∀ v H', v ∈ xs → Kp Ts [p] H H' → Drum H' p → Q v H'
theorem ok52 (X : TX K mg) : FnOk P w K mg base CX0 2 X.f52 X.d52 ["_law_drum_here", "_law_things"] (spPick Ts) := by
  have GR := ok51 (P := P) (w := w) (base := base) (Ts := Ts) X
  refine X.D52.F.ok sc52 (fun vs H Q E h => by obtain ⟨p, l, xs, rfl, _⟩ := h; rfl) (fun cdv A outer s H vs Q E hr h => ?_)
  obtain ⟨p, l, xs, rfl, hp, hl, hne, hxs, hlen, q⟩ := h
  refine ⟨_, pss_one (ps_ret (pe_ix ix_list (pv 1) (pe_call GR (hr.mono (by omega)) rfl X.D51.g X.D51.F.kp X.D51.b .nil pass0 (pa_cons (pv 0) (pa_cons (pe_callB call_len_seq rfl X.n_len PySem.boot_len (pa_cons (pv 1) pa_nil)) pa_nil))) (fun _ _ => rfl))), ?_⟩
  have hpos : 0 < xs.length := List.length_pos_iff.mpr hxs
  refine ⟨_, rfl, _, rfl, _, rfl, l, xs, rfl, .inl (SqL.of hl), p, xs.length, rfl, hp, hpos, hlen, fun r H1 hrm k1 hd => ?_⟩
  have hg : xs[r]? = some xs[r] := List.getElem?_eq_getElem hrm
  exact ⟨l, xs, _, _, rfl, rfl, SqL.of (k1.lst hl (by simpa using hne)), atI_nat hg, q _ H1 (List.getElem_mem hrm) k1 hd⟩
/-- _law_grown -/
def spGrown (Ts : List (Addr × Str)) (n : Nat) : Sp := fun vs H Q _ => ∃ (p : Addr) (m : Nat), vs = [.ref p, .int (m : Nat)] ∧ m < n ∧ m ≤ 60 ∧ Drum H p ∧ ∀ u t H', Kp Ts [p] H H' → Drum H' p → TA H' t u → t.sz = m → Q u H'
theorem ok53 (X : TX K mg) : ∀ n : Nat, n ≤ 50 → FnOk P w K mg base CX0 (n + 4) X.f53 X.d53 ["_law_drum_here", "_law_forks_here"] (spGrown Ts n)
  | 0, _ => ok_none fun vs H Q E h => by
    obtain ⟨p, m, _, z, _⟩ := h
    exact absurd z (Nat.not_lt_zero _)
  | n + 1, hn => by
    have G := ok53 X n (by omega)
    have GR := ok51 (P := P) (w := w) (base := base) (Ts := Ts) X
    have GP := ok52 (P := P) (w := w) (base := base) (Ts := Ts) X
    refine X.D53.F.ok sc53 (fun vs H Q E h => by obtain ⟨p, m, rfl, _⟩ := h; rfl) (fun cdv A outer s H vs Q E hr h => ?_)
    obtain ⟨p, m, rfl, hm, hz, hp, q⟩ := h
    have hr1 : Room 1 (A.deeper (PyProof.Rows.envOfC "_law_grown" (defScope s53) s.heap.objs.size X.f53 cdv)) := hr.mono (by omega)
    refine ⟨_, pss_cons (ps_if (pt_cmpR op_eq (pv 1) pe_int (nomark _)) (pss_one (ps_ret (pe_tup pa_nil))) pss_nil)
      (pss_cons (ps_set (i := 2) sc53.nd rfl (Or.inl rfl) (pe_call GP (hr.mono (by omega)) rfl X.D52.g X.D52.F.kp X.D52.b .nil pass0 (pa_cons (pv 0) (pa_cons (pe_lst (pa_cons pe_int (pa_cons (pe_op op_sub (pv 1) pe_int)
          (pa_cons (pe_call GR hr1 rfl X.D51.g X.D51.F.kp X.D51.b .nil pass0 (pa_cons (pv 0) (pa_cons (pv 1) pa_nil))) (pa_cons (pe_call GR hr1 rfl X.D51.g X.D51.F.kp X.D51.b .nil pass0 (pa_cons (pv 0) (pa_cons (pv 1) pa_nil))) pa_nil))))) pa_nil))))
      (pss_one (ps_ret (pe_tup (pa_cons (pe_call G hr rfl X.D53.g X.D53.F.kp X.D53.b .nil pass0 (pa_cons (pv 0) (pa_cons (pv 2) pa_nil)))
        (pa_cons (pe_call G hr rfl X.D53.g X.D53.F.kp X.D53.b .nil pass0 (pa_cons (pv 0) (pa_cons (pe_op op_sub (pe_op op_sub (pv 1) pe_int) (pv 2)) pa_nil))) pa_nil)))))), ?_⟩
    refine ⟨_, rfl, rfl, _, rfl, ?_⟩
    by_cases c : m = 0
    · subst c
      have e : decide (V.int ((0 : Nat) : Int) = V.int 0) = true := rfl
      refine (if_pos e).mpr ⟨(by show 0 ≤ sizeLine; decide), fun a na => ?_⟩
      exact q _ .l _ (.new na) (hp.kp (Ts := Ts) (L := []) (.new na) (by simp)) (.leaf upd_same) rfl
    · have e : decide (V.int (m : Nat) = V.int 0) = false := decide_eq_false fun z => by injection z with z; omega
      rw [e]
      refine iteF ?_
      refine ⟨_, rfl, _, rfl, _, _, rfl, rfl, ?_⟩
      refine ⟨_, rfl, _, rfl, p, m, rfl, hp, by omega, by omega, fun r1 H1 h1 k1 d1 => ?_⟩
      refine ⟨_, rfl, _, rfl, p, m, rfl, d1, by omega, by omega, fun r2 H2 h2 k2 d2 => ?_⟩
      refine ⟨(by show 4 ≤ sizeLine; decide), fun l nl => ?_⟩
      have k3 : Kp Ts [] H2 (upd H2 l (.lst [.int 0, .int ((m : Int) - 1), .int (r1 : Nat), .int (r2 : Nat)])) := .new nl
      have nep : l ≠ p := fun z => by
        obtain ⟨_, _, e, _⟩ := d2
        exact ne_of_none e nl z.symm
      refine ⟨p, l, _, rfl, d2.kp k3 (by simp), upd_same, nep, by simp, by simp, fun v H4 hv k4 d4 => ?_⟩
      obtain ⟨j, rfl, hj⟩ : ∃ j : Nat, v = .int (j : Nat) ∧ j < m := by
        rcases List.mem_cons.mp hv with rfl | hv
        · exact ⟨0, rfl, by omega⟩
        rcases List.mem_cons.mp hv with rfl | hv
        · exact ⟨m - 1, by rw [Int.natCast_sub (by omega)]; rfl, by omega⟩
        rcases List.mem_cons.mp hv with rfl | hv
        · exact ⟨r1, rfl, h1⟩
        · cases List.mem_singleton.mp hv
          exact ⟨r2, rfl, h2⟩
      have k04 := k1.trans (k2.trans (k3.wid.trans k4))
      refine ⟨_, rfl, _, rfl, p, j, rfl, by omega, by omega, d4, fun u5 t5 H5 k5 d5 h5 z5 => ?_⟩
      refine ⟨_, rfl, _, rfl, _, _, rfl, rfl, _, rfl, _, _, rfl, rfl, ?_⟩
      refine ⟨p, m - 1 - j, ?_, by omega, by omega, d5, fun u6 t6 H6 k6 d6 h6 z6 => ?_⟩
      · show [V.ref p, V.int ((m : Int) - 1 - (j : Int))] = [V.ref p, V.int ((m - 1 - j : Nat) : Int)]
        have e : (m : Int) - 1 - (j : Int) = ((m - 1 - j : Nat) : Int) := by omega
        rw [e]
      refine ⟨(by show 2 ≤ sizeLine; decide), fun a na => ?_⟩
      refine q _ (.n t5 t6) _ (k04.trans (k5.trans (k6.news na))) (d6.kp (Ts := Ts) (L := []) (.new na) (by simp)) (.new na (h5.kp k6) h6) ?_
      show t5.sz + t6.sz + 1 = m
      omega
end
end K43

/-! DE: _law_every, _law_ups. -/
namespace K43
open PySem L2
section
variable {P : Program} {w : World} {K : PySem.W.Frag} {mg : Str → Option Value} {base : Heap} {Ts : List (Addr × Str)}
/-- _law_every -/
def spEv (Ts : List (Addr × Str)) (n : Nat) : Sp := fun vs H Q _ => ∃ m : Nat, vs = [.int (m : Nat)] ∧ m < n ∧ m ≤ 5 ∧ ∀ p xs H', Kp Ts [] H H' → NT H p → H' p = some (.lst xs) → TPs H' (ev m) xs → Q (.ref p) H'
theorem ok56 (X : TX K mg) : ∀ n : Nat, n ≤ 50 → FnOk P w K mg base CX0 n X.f56 X.d56 ["_law_forks_here"] (spEv Ts n)
  | 0, _ => ok_none fun vs H Q E h => by
    obtain ⟨m, _, z, _⟩ := h
    exact absurd z (Nat.not_lt_zero _)
  | n + 1, hn => by
    have G := ok56 X n (by omega)
    refine X.D56.F.ok sc56 (fun vs H Q E h => by obtain ⟨m, rfl, _⟩ := h; rfl) (fun cdv A outer s H vs Q E hr h => ?_)
    obtain ⟨m, rfl, hm, h5, q⟩ := h
    refine ⟨_, pss_cons (ps_if (pt_cmpR op_eq (pv 0) pe_int (nomark _)) (pss_one (ps_ret (pe_lst (pa_cons (pe_tup pa_nil) pa_nil)))) pss_nil)
      (pss_cons (ps_set (i := 1) sc56.nd rfl (Or.inl rfl) (pe_lst pa_nil))
      (pss_cons (ps_for PassesOwn.never rfl (pi_range1 rfl X.n_range (pa_cons (pv 0) pa_nil)) (pg_name (i := 2) sc56.nd rfl (Or.inl rfl))
        (pss_one (ps_for PassesOwn.never rfl (pi_list (pe_call G hr rfl X.D56.g X.D56.F.kp X.D56.b .nil pass0 (pa_cons (pv 2) pa_nil))) (pg_name (i := 3) sc56.nd rfl (Or.inr rfl))
          (pss_one (ps_set (i := 1) sc56.nd rfl (Or.inl rfl) (pe_op op_cat (pv 1)
            (pe_lc (own := [("_law_other_so", 4)]) (g := gName 4) (tt := tYes) rfl sc56.nd (pi_list (pe_call G hr rfl X.D56.g X.D56.F.kp X.D56.b .nil pass0 (pa_cons (pe_op op_sub (pe_op op_sub (pv 0) pe_int) (pv 2)) pa_nil)))
              (blkOk_by (N := ["_law_forks_here", "_law_found", "_law_left", "_law_one", "_law_other_so"]) (sc := defScope s56) (by decide +kernel))
              (fun _ _ _ _ _ => pg_name (i := 4) sc56.nd rfl (Or.inl rfl)) (fun _ _ _ _ _ => pts_nil) (fun _ _ _ _ _ => pe_tup (pa_cons (pv 3) (pa_cons (pv 4) pa_nil))))))))))
      (pss_one (ps_ret (pv 1))))), ?_⟩
    refine ⟨_, rfl, rfl, _, rfl, ?_⟩
    cases m with
    | zero =>
      have e : decide (V.int ((0 : Nat) : Int) = V.int 0) = true := rfl
      refine (if_pos e).mpr ⟨(by show 0 ≤ sizeLine; decide), fun a na => ⟨(by show 1 ≤ sizeLine; decide), fun p np => ?_⟩⟩
      have k1 : Kp Ts [] H (upd H a (.tup [])) := .new na
      exact q p _ _ (k1.news np) ((k1).ntb (.of np)) upd_same (.cons (.leaf (by rw [upd_ne (fun z => by rw [← z, upd_same] at np; cases np), upd_same])) .nil)
    | succ m =>
    have e : decide (V.int ((m + 1 : Nat) : Int) = V.int 0) = false := decide_eq_false fun z => by injection z with z; omega
    rw [e]
    refine iteF ⟨(by show 0 ≤ sizeLine; decide), fun f0 nf0 => ?_⟩
    have k0 : Kp Ts [] H (upd H f0 (.lst [])) := .new nf0
    refine ⟨_, rfl, ((m + 1 : Nat) : Int), rfl, by omega, by omega, ?_⟩
    have hes := ev_succ (n := m) (by omega)
    refine for_range (n := m + 1) (lo := 0) (fun i σ' H' => ∃ f xs s2 s3 s4, σ' = [some (.int ((m + 1 : Nat) : Int)), some (.ref f), s2, s3, s4] ∧ Kp Ts [] H H' ∧ NT H f ∧ H' f = some (.lst xs) ∧ xs.length ≤ 1764 * i ∧ TPs H' ((List.range i).flatMap fun i => (ev i).flatMap fun a => (ev (m - i)).map fun b => T.n a b) xs)
      ⟨f0, [], none, none, none, rfl, k0, .of nf0, upd_same, by simp, .nil⟩ (fun i σ' H1 hi hP => ?_) (fun σ' H1 hP => ?_)
    · obtain ⟨f, xs, s2, s3, s4, rfl, k1, nf, hf, lx, hxs⟩ := hP
      have li := ev_len i (by omega)
      have lj := ev_len (m - i) (by omega)
      refine ⟨_, rfl, ?_⟩
      refine ⟨i, by show [V.int ((0 : Int) + (i : Int))] = [V.int ((i : Nat) : Int)]; rw [Int.zero_add], by omega, by omega, fun r ys H2 k2 nr hr2 hys => ?_⟩
      refine ⟨r, rfl, ⟨ys, SqL.of hr2⟩, ?_⟩
      refine for_list (xs := ys) (fun j σ' H' => ∃ f xs s3 s4, σ' = [some (.int ((m + 1 : Nat) : Int)), some (.ref f), some (.int (0 + (i : Int))), s3, s4] ∧ Kp Ts [] H H' ∧ NT H f ∧ H' r = some (.lst ys) ∧ TPs H' (ev i) ys ∧ H' f = some (.lst xs) ∧ xs.length ≤ 1764 * i + 42 * j ∧
          TPs H' (((List.range i).flatMap fun i => (ev i).flatMap fun a => (ev (m - i)).map fun b => T.n a b) ++ ((ev i).take j).flatMap fun a => (ev (m - i)).map fun b => T.n a b) xs)
        ⟨f, xs, _, _, rfl, k1.trans k2, nf, hr2, hys, k2.lst hf (by simp), by omega, by rw [List.take_zero, List.flatMap_nil, List.append_nil]; exact hxs.kp k2⟩ (fun j σ' H' _ hP => by obtain ⟨_, _, _, _, _, _, _, h, _⟩ := hP; exact SqL.of h) (fun j x σ' H3 hxj hP => ?_) (fun σ' H3 hP => ?_)
      · obtain ⟨f, xs, s3, s4, rfl, k3, nf, hr3, hys3, hf, lx, hxs⟩ := hP
        obtain ⟨t, hti, htx⟩ := hys3.at hxj
        refine ⟨_, rfl, _, rfl, _, _, rfl, rfl, _, rfl, _, _, rfl, rfl, ?_⟩
        refine ⟨m - i, ?_, by omega, by omega, fun c zs H4 k4 nc hc hzs => ?_⟩
        · show [V.int (((m + 1 : Nat) : Int) - 1 - (0 + (i : Int)))] = [V.int ((m - i : Nat) : Int)]
          have e : ((m + 1 : Nat) : Int) - 1 - (0 + (i : Int)) = ((m - i : Nat) : Int) := by omega
          rw [e]
        refine ⟨c, rfl, ⟨zs, SqL.of hc⟩, fun D nD => ?_⟩
        have kD : Kp Ts [] H4 (upd H4 D (.lst [])) := .new nD
        have cD : c ≠ D := ne_of_none hc nD
        have fD : f ≠ D := ne_of_none (k4.lst hf (by simp)) nD
        have rD : r ≠ D := ne_of_none (k4.lst hr3 (by simp)) nD
        refine lc_list (xs := zs) (fun l H' => ∃ ws, H' D = some (.lst ws) ∧ ws.length = l ∧ TPs H' (((ev (m - i)).take l).map fun b => T.n t b) ws ∧ H' c = some (.lst zs) ∧ TPs H' (ev (m - i)) zs ∧ Kp Ts [D] (upd H4 D (.lst [])) H')
          ⟨[], upd_same, rfl, .nil, kD.lst hc (by simp), hzs.kp kD, .refl⟩ (fun l H' _ hP => by obtain ⟨_, _, _, _, h, _⟩ := hP; exact SqL.of h) (fun l x5 H5 hxl hP => ?_) (fun H5 hP => ?_)
        · obtain ⟨ws, hw, lw, hws, hc5, hzs5, k5⟩ := hP
          obtain ⟨u, hui, hux⟩ := hzs5.at hxl
          refine ⟨rfl, ?_⟩
          refine ⟨_, rfl, _, rfl, (by show 2 ≤ sizeLine; decide), fun a na => ?_⟩
          have kA : Kp Ts [] H5 (upd H5 a (.tup [x, x5])) := .new na
          have hw6 := kA.lst hw (by simp)
          have kS : Kp Ts [D] (upd H5 a (.tup [x, x5])) (upd (upd H5 a (.tup [x, x5])) D (.lst (ws ++ [.ref a]))) := .set hw6 Mu.lst (by simp)
          have ll : l < (ev (m - i)).length := (List.getElem?_eq_some_iff.mp hui).1
          refine ⟨ws, hw6, small9 (by omega), ws ++ [.ref a], upd_same, by rw [List.length_append, lw]; rfl, ?_, kS.lst (kA.lst hc5 (by simp)) (by simpa using cD), (hzs5.kp kA).kp kS, (k5.trans kA.wid).trans kS⟩
          rw [List.take_add_one, hui, List.map_append]
          exact ((hws.kp kA).kp kS).snoc ((TA.new na ((htx.kp k4).kp kD |>.kp k5) hux).kp kS)
        · obtain ⟨ws, hw, lw, hws, hc5, hzs5, k5⟩ := hP
          rw [← hzs.len, List.take_length] at hws
          have nD0 : NT H D := (k3.trans k4).ntb (.of nD)
          have hf5 : H5 f = some (.lst xs) := k5.lst (kD.lst (k4.lst hf (by simp)) (by simp)) (by simpa using fD)
          have lz := hzs.len
          refine ⟨f, D, xs, ws, rfl, rfl, hf5, hw, Nat.le_of_lt (small9 ?_), fun g ng => ?_⟩
          · have hj : j < (ev i).length := (List.getElem?_eq_some_iff.mp hti).1
            omega
          have k35 : Kp Ts [] H H5 := (k3.trans k4).hide nD0 (kD.wid.trans k5)
          have kG : Kp Ts [] H5 (upd H5 g (.lst (xs ++ ws))) := .new ng
          refine ⟨g, xs ++ ws, some x, s4, rfl, k35.trans kG, k35.ntb (.of ng), kG.lst (k5.lst (kD.lst (k4.lst hr3 (by simp)) (by simp)) (by simpa using rD)) (by simp), (((hys3.kp k4).kp kD).kp k5).kp kG, upd_same, ?_, ?_⟩
          · rw [List.length_append]; omega
          · rw [flatMap_take_succ _ hti, ← List.append_assoc]
            exact (((((hxs.kp k4).kp kD).kp k5).kp kG).app (hws.kp kG))
      · obtain ⟨f, xs, s3, s4, rfl, k3, nf, hr3, hys3, hf, lx, hxs⟩ := hP
        rw [← hys3.len, List.take_length] at hxs
        have := hys3.len
        refine ⟨f, xs, _, s3, s4, rfl, k3, nf, hf, by omega, ?_⟩
        rw [List.range_succ, List.flatMap_append]
        simpa using hxs
    · obtain ⟨f, xs, s2, s3, s4, rfl, k1, nf, hf, lx, hxs⟩ := hP
      refine ⟨_, rfl, q f xs H1 k1 nf hf ?_⟩
      rw [hes]
      exact hxs
end
end K43

/-! DF: _law_ups. -/
namespace K43
open PySem L2
/-- a turning at a value -/
def UP (H : Hp) (p : Nat × T) (v : V) : Prop := ∃ a u, v = .ref a ∧ H a = some (.tup [.int (p.1 : Nat), u]) ∧ TA H p.2 u
theorem UP.kp {Ts : List (Addr × Str)} {L : List Addr} {H H' : Hp} {p : Nat × T} {v : V} (h : UP H p v) (k : Kp Ts L H H') : UP H' p v := by
  obtain ⟨a, u, e, h1, h2⟩ := h
  exact ⟨a, u, e, k.tup _ _ h1, h2.kp k⟩
abbrev UPs (H : Hp) : List (Nat × T) → List V → Prop := Paired fun p v => UP H p v
theorem UPs.kp {Ts : List (Addr × Str)} {L : List Addr} {H H' : Hp} {ps : List (Nat × T)} {vs : List V} (h : UPs H ps vs) (k : Kp Ts L H H') : UPs H' ps vs := Paired.mapP h fun _ _ z => z.kp k
theorem UPs.snoc {H : Hp} {ps : List (Nat × T)} {xs : List V} {p : Nat × T} {v : V} (h : UPs H ps xs) (hp : UP H p v) : UPs H (ps ++ [p]) (xs ++ [v]) := by
  induction h with
  | nil => exact .cons hp .nil
  | cons h _ ih => exact .cons h ih
theorem UPs.app {H : Hp} {ps qs : List (Nat × T)} {xs ys : List V} (h : UPs H ps xs) (g : UPs H qs ys) : UPs H (ps ++ qs) (xs ++ ys) := by
  induction h with
  | nil => exact g
  | cons h _ ih => exact .cons h ih
theorem UPs.at {H : Hp} {ps : List (Nat × T)} {xs : List V} (h : UPs H ps xs) {i : Nat} {v : V} (e : xs[i]? = some v) : ∃ p, ps[i]? = some p ∧ UP H p v := by
  induction h generalizing i with
  | nil => cases e
  | cons h _ ih =>
    cases i with
    | zero => cases e; exact ⟨_, rfl, h⟩
    | succ i => exact ih e
theorem UPs.len {H : Hp} {ps : List (Nat × T)} {xs : List V} (h : UPs H ps xs) : ps.length = xs.length := Paired.length h
def midU (a : T) (f : Nat) (b : T) : List (Nat × T) := match a with | .l => [] | .n x y => [(f + a.sz, T.n x (T.n y b))]
theorem ups_m (a b : T) (f : Nat) : (T.n a b).ups f = (a.ups f).map (fun p => (p.1, T.n p.2 b)) ++ (midU a f b ++ (b.ups (f + a.sz + 1)).map (fun p => (p.1, T.n a p.2))) := ups_n a b f
section
variable {P : Program} {w : World} {K : PySem.W.Frag} {mg : Str → Option Value} {base : Heap} {Ts : List (Addr × Str)}
def spUps (Ts : List (Addr × Str)) (n : Nat) : Sp := fun vs H Q _ => ∃ v t, ∃ f : Nat, vs = [v, .int (f : Nat)] ∧ TA H t v ∧ t.sz < n ∧ t.sz ≤ 40 ∧ ∀ p xs H', Kp Ts [] H H' → NT H p → H' p = some (.lst xs) → UPs H' (t.ups f) xs → Q (.ref p) H'
theorem ok57 (X : TX K mg) : ∀ n : Nat, n ≤ 50 → FnOk P w K mg base CX0 (n + 62) X.f57 X.d57 ["_law_tree_so", "_law_first"] (spUps Ts n)
  | 0, _ => ok_none fun vs H Q E h => by
    obtain ⟨v, t, f, _, _, z, _⟩ := h
    exact absurd z (Nat.not_lt_zero _)
  | n + 1, hn => by
    have G := ok57 X n (by omega)
    have GF := ok54 (P := P) (w := w) (base := base) (Ts := Ts) X 60
    refine X.D57.F.ok sc57 (fun vs H Q E h => by obtain ⟨v, t, f, rfl, _⟩ := h; rfl) (fun cdv A outer s H vs Q E hr h => ?_)
    obtain ⟨v, t, f, rfl, ht, hn, hz, q⟩ := h
    refine ⟨_, pss_cons (ps_if (pt_isl hr.units (pv 0)) (pss_one (ps_ret (pe_lst pa_nil))) pss_nil)
      (pss_cons (ps_asg (pv 0) (pg_tup rfl (pgs_cons (pg_name (i := 2) sc57.nd rfl (Or.inr rfl)) (pgs_cons (pg_name (i := 3) sc57.nd rfl (Or.inr rfl)) pgs_nil))))
      (pss_cons (ps_set (i := 4) sc57.nd rfl (Or.inl rfl) (pe_op op_add (pv 1) (pe_call GF (hr.mono (by omega)) rfl X.D54.g X.D54.F.kp X.D54.b .nil pass0 (pa_cons (pv 2) pa_nil))))
      (pss_cons (ps_setLc (i := 5) (own := [("_law_fork", 6), ("_law_there", 7)]) (g := gTup K 2 (gCons (gName 6) (gCons (gName 7) gNil))) (tt := tYes) rfl sc57.nd rfl rfl (sw_true rfl rfl rfl (by decide +kernel))
          (pi_list (pe_call G hr rfl X.D57.g X.D57.F.kp X.D57.b .nil pass0 (pa_cons (pv 2) (pa_cons (pv 1) pa_nil))))
          (blkOk_by (N := ["_law_tree_so", "_law_first", "_law_left", "_law_right", "_law_root", "_law_found", "_law_fork", "_law_there"]) (sc := defScope s57) (by decide +kernel))
          (fun _ _ _ _ _ => pg_tup rfl (pgs_cons (pg_name (i := 6) sc57.nd rfl (Or.inl rfl)) (pgs_cons (pg_name (i := 7) sc57.nd rfl (Or.inl rfl)) pgs_nil))) (fun _ _ _ _ _ => pts_nil)
          (fun _ _ _ _ _ => pe_tup (pa_cons (pv 6) (pa_cons (pe_tup (pa_cons (pv 7) (pa_cons (pv 3) pa_nil))) pa_nil))))
      (pss_cons (ps_if (pt_nsl hr.units (pv 2)) (pss_one (ps_expr (pe_bm PySem.F.plainAttrs_list PySem.F.slot_list_append PySem.F.type_list_append mt_append (pv 5) (pa_cons
          (pe_tup (pa_cons (pv 4) (pa_cons (pe_tup (pa_cons (pe_ix ix_tup (pv 2) pe_int (fun _ _ => rfl)) (pa_cons (pe_tup (pa_cons (pe_ix ix_tup (pv 2) pe_int (fun _ _ => rfl)) (pa_cons (pv 3) pa_nil))) pa_nil))) pa_nil))) pa_nil)))) pss_nil)
      (pss_one (ps_ret (pe_op op_cat (pv 5)
        (pe_lc (own := [("_law_fork", 6), ("_law_there", 7)]) (g := gTup K 2 (gCons (gName 6) (gCons (gName 7) gNil))) (tt := tYes) rfl sc57.nd
          (pi_list (pe_call G hr rfl X.D57.g X.D57.F.kp X.D57.b .nil pass0 (pa_cons (pv 3) (pa_cons (pe_op op_add (pv 4) pe_int) pa_nil))))
          (blkOk_by (N := ["_law_tree_so", "_law_first", "_law_left", "_law_right", "_law_root", "_law_found", "_law_fork", "_law_there"]) (sc := defScope s57) (by decide +kernel))
          (fun _ _ _ _ _ => pg_tup rfl (pgs_cons (pg_name (i := 6) sc57.nd rfl (Or.inl rfl)) (pgs_cons (pg_name (i := 7) sc57.nd rfl (Or.inl rfl)) pgs_nil))) (fun _ _ _ _ _ => pts_nil)
          (fun _ _ _ _ _ => pe_tup (pa_cons (pv 6) (pa_cons (pe_tup (pa_cons (pv 2) (pa_cons (pv 7) pa_nil))) pa_nil))))))))))), ?_⟩
    refine ⟨_, rfl, t, ht, by omega, fun H1 k1 => ?_⟩
    have k1' := k1 Ts
    refine ite2 (fun c => ?_) (fun c => ?_)
    · rw [beqT c] at q
      exact ⟨(by show 0 ≤ sizeLine; decide), fun p hp => q p _ _ (k1'.news hp) (k1'.dom _ hp) upd_same .nil⟩
    obtain ⟨x, y, rfl⟩ := beqF c
    obtain ⟨a, u, v', rfl, ha, hx, hy⟩ := ht.kp k1'
    have hn' : x.sz + y.sz + 1 < n + 1 := hn
    have hz' : x.sz + y.sz + 1 ≤ 40 := hz
    refine ⟨_, rfl, a, _, rfl, SqT.of ha, rfl, _, _, rfl, _, _, rfl, rfl, ?_⟩
    refine ⟨_, rfl, _, rfl, u, x, rfl, hx, by omega, by omega, fun H2 k2 => ⟨_, _, rfl, rfl, ?_⟩⟩
    have k12 := k1'.trans k2
    refine ⟨_, rfl, _, rfl, u, x, f, rfl, hx.kp k2, by omega, by omega, fun c1 xs H3 k3 nc1 hc1 hxs => ?_⟩
    refine ⟨c1, rfl, ⟨xs, SqL.of hc1⟩, fun D nD => ?_⟩
    have kD : Kp Ts [] H3 (upd H3 D (.lst [])) := .new nD
    have cD : c1 ≠ D := ne_of_none hc1 nD
    have nD0 : NT H D := (k12.trans k3).ntb (.of nD)
    have lx : xs.length ≤ 40 := by rw [← hxs.len]; have := ups_len x f; omega
    refine lc_list (xs := xs) (fun l H' => ∃ ws, H' D = some (.lst ws) ∧ ws.length = l ∧ UPs H' (((x.ups f).take l).map fun p => (p.1, T.n p.2 y)) ws ∧ H' c1 = some (.lst xs) ∧ UPs H' (x.ups f) xs ∧ Kp Ts [D] (upd H3 D (.lst [])) H')
      ⟨[], upd_same, rfl, .nil, kD.lst hc1 (by simp), hxs.kp kD, .refl⟩ (fun l H' _ hP => by obtain ⟨_, _, _, _, h, _⟩ := hP; exact SqL.of h) (fun l x5 H5 hxl hP => ?_) (fun H5 hP => ?_)
    · obtain ⟨ws, hw, lw, hws, hc5, hxs5, k5⟩ := hP
      obtain ⟨⟨pk, pt⟩, hpi, a5, u5, rfl, ha5, hu5⟩ := hxs5.at hxl
      refine ⟨a5, _, rfl, SqT.of ha5, rfl, _, _, rfl, _, _, rfl, rfl, rfl, ?_⟩
      refine ⟨_, rfl, _, rfl, _, rfl, (by show 2 ≤ sizeLine; decide), fun b1 nb1 => ⟨(by show 2 ≤ sizeLine; decide), fun b2 nb2 => ?_⟩⟩
      have kA : Kp Ts [] H5 (upd H5 b1 (.tup [u5, v'])) := .new nb1
      have kB : Kp Ts [] (upd H5 b1 (.tup [u5, v'])) (upd (upd H5 b1 (.tup [u5, v'])) b2 (.tup [.int (pk : Nat), .ref b1])) := .new nb2
      have kAB := kA.trans kB
      have hw6 := kAB.lst hw (by simp)
      have kS : Kp Ts [D] (upd (upd H5 b1 (.tup [u5, v'])) b2 (.tup [.int (pk : Nat), .ref b1])) (upd (upd (upd H5 b1 (.tup [u5, v'])) b2 (.tup [.int (pk : Nat), .ref b1])) D (.lst (ws ++ [.ref b2]))) := .set hw6 Mu.lst (by simp)
      have ll : l < xs.length := (List.getElem?_eq_some_iff.mp hxl).1
      refine ⟨ws, hw6, small1000 (by omega), ws ++ [.ref b2], upd_same, by rw [List.length_append, lw]; rfl, ?_, kS.lst (kAB.lst hc5 (by simp)) (by simpa using cD), (hxs5.kp kAB).kp kS, (k5.trans kAB.wid).trans kS⟩
      rw [List.take_add_one, hpi, List.map_append]
      have hy5 : TA H5 y v' := (((hy.kp k2).kp k3).kp kD).kp k5
      have hU : UP (upd (upd H5 b1 (.tup [u5, v'])) b2 (.tup [.int (pk : Nat), .ref b1])) (pk, T.n pt y) (.ref b2) := ⟨b2, .ref b1, rfl, upd_same, (TA.new nb1 hu5 hy5).kp kB⟩
      exact ((hws.kp kAB).kp kS).snoc (hU.kp kS)
    obtain ⟨ws, hw, lw, hws, hc5, hxs5, k5⟩ := hP
    rw [← hxs.len, List.take_length] at hws
    have k15 : Kp Ts [] H H5 := (k12.trans k3).hide nD0 (kD.wid.trans k5)
    have kx5 : Kp Ts [] H2 H5 := (k3).hide (k3.ntb (.of nD)) (kD.wid.trans k5)
    have hx5 : TA H5 x u := (hx.kp k2).kp kx5
    have hy5 : TA H5 y v' := (hy.kp k2).kp kx5
    -- the rest, from the list with the own turning
    have rest : ∀ (us : List V) (H6 : Hp), Kp Ts [D] H5 H6 → H6 D = some (.lst us) → us.length ≤ 41 → UPs H6 ((x.ups f).map (fun p => (p.1, T.n p.2 y)) ++ midU x f y) us →
        (tRet (tOp rCat (tVar 5) (tLc (iList K (tCall (spUps Ts n) [] E0 (tCons (tVar 3) (tCons (tOp (rI0 fun i j => .int (i + j)) (tVar 4) (tC (.int 1))) tNil)))) (gTup K 2 (gCons (gName 6) (gCons (gName 7) gNil))) tYes
          (tTup (tCons (tVar 6) (tCons (tTup (tCons (tVar 2) (tCons (tVar 7) tNil))) tNil))) [6, 7])))
          { nx := fun _ H' => Q .non H', rt := Q } [some (.ref a), some (.int (f : Nat)), some u, some v', some (.int ((f : Int) + (x.sz : Int))), some (.ref D), none, none] H6 := fun us H6 k6 hD6 l6 h6 => by
      have k16 : Kp Ts [] H H6 := k15.hide nD0 k6
      have hx6 := hx5.kp k6
      have hy6 := hy5.kp k6
      refine ⟨_, rfl, _, rfl, _, rfl, _, _, rfl, rfl, ?_⟩
      refine ⟨v', y, f + x.sz + 1, ?_, hy6, by omega, by omega, fun c2 ys H7 k7 nc2 hc2 hys => ?_⟩
      · show [v', V.int ((f : Int) + (x.sz : Int) + 1)] = [v', V.int ((f + x.sz + 1 : Nat) : Int)]
        rw [Int.natCast_add, Int.natCast_add]
        rfl
      refine ⟨c2, rfl, ⟨ys, SqL.of hc2⟩, fun D2 nD2 => ?_⟩
      have kD2 : Kp Ts [] H7 (upd H7 D2 (.lst [])) := .new nD2
      have cD2 : c2 ≠ D2 := ne_of_none hc2 nD2
      have hD7 := k7.lst hD6 (by simp)
      have dD2 : D ≠ D2 := ne_of_none hD7 nD2
      have ly : ys.length ≤ 40 := by rw [← hys.len]; have := ups_len y (f + x.sz + 1); omega
      refine lc_list (xs := ys) (fun l H' => ∃ ws, H' D2 = some (.lst ws) ∧ ws.length = l ∧ UPs H' (((y.ups (f + x.sz + 1)).take l).map fun p => (p.1, T.n x p.2)) ws ∧ H' c2 = some (.lst ys) ∧ UPs H' (y.ups (f + x.sz + 1)) ys ∧ Kp Ts [D2] (upd H7 D2 (.lst [])) H')
        ⟨[], upd_same, rfl, .nil, kD2.lst hc2 (by simp), hys.kp kD2, .refl⟩ (fun l H' _ hP => by obtain ⟨_, _, _, _, h, _⟩ := hP; exact SqL.of h) (fun l x8 H8 hxl hP => ?_) (fun H8 hP => ?_)
      · obtain ⟨ws, hw, lw, hws, hc8, hys8, k8⟩ := hP
        obtain ⟨⟨pk, pt⟩, hpi, a8, u8, rfl, ha8, hu8⟩ := hys8.at hxl
        refine ⟨a8, _, rfl, SqT.of ha8, rfl, _, _, rfl, _, _, rfl, rfl, rfl, ?_⟩
        refine ⟨_, rfl, _, rfl, _, rfl, (by show 2 ≤ sizeLine; decide), fun b1 nb1 => ⟨(by show 2 ≤ sizeLine; decide), fun b2 nb2 => ?_⟩⟩
        have kA : Kp Ts [] H8 (upd H8 b1 (.tup [u, u8])) := .new nb1
        have kB : Kp Ts [] (upd H8 b1 (.tup [u, u8])) (upd (upd H8 b1 (.tup [u, u8])) b2 (.tup [.int (pk : Nat), .ref b1])) := .new nb2
        have kAB := kA.trans kB
        have hw6 := kAB.lst hw (by simp)
        have kS : Kp Ts [D2] (upd (upd H8 b1 (.tup [u, u8])) b2 (.tup [.int (pk : Nat), .ref b1])) (upd (upd (upd H8 b1 (.tup [u, u8])) b2 (.tup [.int (pk : Nat), .ref b1])) D2 (.lst (ws ++ [.ref b2]))) := .set hw6 Mu.lst (by simp)
        have ll : l < ys.length := (List.getElem?_eq_some_iff.mp hxl).1
        refine ⟨ws, hw6, small1000 (by omega), ws ++ [.ref b2], upd_same, by rw [List.length_append, lw]; rfl, ?_, kS.lst (kAB.lst hc8 (by simp)) (by simpa using cD2), (hys8.kp kAB).kp kS, (k8.trans kAB.wid).trans kS⟩
        rw [List.take_add_one, hpi, List.map_append]
        have hx8 : TA H8 x u := ((hx6.kp k7).kp kD2).kp k8
        have hU : UP (upd (upd H8 b1 (.tup [u, u8])) b2 (.tup [.int (pk : Nat), .ref b1])) (pk, T.n x pt) (.ref b2) := ⟨b2, .ref b1, rfl, upd_same, (TA.new nb1 hx8 hu8).kp kB⟩
        exact ((hws.kp kAB).kp kS).snoc (hU.kp kS)
      obtain ⟨ws, hw, lw, hws, hc8, hys8, k8⟩ := hP
      rw [← hys.len, List.take_length] at hws
      have k68 : Kp Ts [] H6 H8 := k7.hide (k7.ntb (.of nD2)) (kD2.wid.trans k8)
      have hD8 : H8 D = some (.lst us) := k68.lst hD6 (by simp)
      refine ⟨D, D2, us, ws, rfl, rfl, hD8, hw, Nat.le_of_lt (small1000 (by omega)), fun r nr => ?_⟩
      have k18 := k16.trans k68
      have kR : Kp Ts [] H8 (upd H8 r (.lst (us ++ ws))) := .new nr
      refine q r _ _ (k18.trans kR) (k18.ntb (.of nr)) upd_same ?_
      rw [ups_m, ← List.append_assoc]
      exact (((h6.kp k68).kp kR).app (hws.kp kR))
    refine ⟨_, rfl, x, hx5, by omega, fun H6 k6 => ?_⟩
    have k6' := k6 Ts
    have hD6 := k6'.lst hw (by simp)
    cases x with
    | l =>
      refine iteF (rest ws H6 k6'.wid hD6 (by omega) ?_)
      show UPs H6 (_ ++ []) ws
      rw [List.append_nil]
      exact hws.kp k6'
    | n x1 x2 =>
      obtain ⟨ax, ux, wx, rfl, hax, hx1, hx2⟩ := hx5.kp k6'
      refine iteT ⟨_, rfl, .inl ⟨rfl, _, SqL.of hD6⟩, ?_⟩
      refine ⟨_, rfl, _, rfl, ax, _, 0, ux, rfl, rfl, SqT.of hax, rfl, _, rfl, ax, _, 1, wx, rfl, rfl, SqT.of hax, rfl, _, rfl, (by show 2 ≤ sizeLine; decide), fun b1 nb1 => ⟨(by show 2 ≤ sizeLine; decide), fun b2 nb2 => ⟨(by show 2 ≤ sizeLine; decide), fun b3 nb3 => ?_⟩⟩⟩
      have hy6 := hy5.kp k6'
      have kA : Kp Ts [] H6 (upd H6 b1 (.tup [wx, v'])) := .new nb1
      have kB : Kp Ts [] (upd H6 b1 (.tup [wx, v'])) (upd (upd H6 b1 (.tup [wx, v'])) b2 (.tup [ux, .ref b1])) := .new nb2
      have kC := (kA.trans kB).trans (.new (o := .tup [.int ((f : Int) + (((T.n x1 x2).sz : Nat) : Int)), .ref b2]) nb3)
      have t1 := TA.new nb1 hx2 hy6
      have t2 := TA.new nb2 (hx1.kp kA) t1
      have hDC := kC.lst hD6 (by simp)
      refine ⟨D, ws, _, rfl, rfl, hDC, small1000 (by omega), ?_⟩
      have kS := Kp.set (Ts := Ts) (L := [D]) (o := .lst (ws ++ [.ref b3])) hDC Mu.lst (by simp)
      refine rest _ _ ((k6'.trans kC).wid.trans kS) upd_same (by simp only [List.length_append, List.length_singleton]; omega) ?_
      refine (((hws.kp k6').kp kC).kp kS).snoc (UP.kp ⟨b3, .ref b2, rfl, ?_, t2.upd nb3⟩ kS)
      rw [upd_same, ← Int.natCast_add]
end
end K43

/-! DG: _law_ways. -/
namespace K43
open PySem L2
def wayV (H : Hp) : Option N3 → V → Prop
  | none, v => v = .non
  | some w, v => N3V H w v
theorem wayV.kp {Ts : List (Addr × Str)} {L : List Addr} {H H' : Hp} {v : V} : ∀ {r : Option N3}, wayV H r v → Kp Ts L H H' → wayV H' r v
  | none, h, _ => h
  | some _, h, k => N3V.kp h k
abbrev WVs (H : Hp) : List (Option N3) → List V → Prop := Paired fun r v => wayV H r v
abbrev N3s (H : Hp) : List N3 → List V → Prop := Paired fun w v => N3V H w v
theorem WVs.kp {Ts : List (Addr × Str)} {L : List Addr} {H H' : Hp} {rs : List (Option N3)} {vs : List V} (h : WVs H rs vs) (k : Kp Ts L H H') : WVs H' rs vs := Paired.mapP h fun _ _ z => wayV.kp z k
theorem N3s.kp {Ts : List (Addr × Str)} {L : List Addr} {H H' : Hp} {rs : List N3} {vs : List V} (h : N3s H rs vs) (k : Kp Ts L H H') : N3s H' rs vs := Paired.mapP h fun _ _ z => z.kp k
theorem paired_snoc {α β : Type} {R : α → β → Prop} {xs : List α} {ys : List β} {x : α} {y : β} (h : Paired R xs ys) (r : R x y) : Paired R (xs ++ [x]) (ys ++ [y]) := by
  induction h with
  | nil => exact .cons r .nil
  | cons h _ ih => exact .cons h ih
theorem paired_at {α β : Type} {R : α → β → Prop} {xs : List α} {ys : List β} (h : Paired R xs ys) {i : Nat} {y : β} (e : ys[i]? = some y) : ∃ x, xs[i]? = some x ∧ R x y := by
  induction h generalizing i with
  | nil => cases e
  | cons h _ ih =>
    cases i with
    | zero => cases e; exact ⟨_, rfl, h⟩
    | succ i => exact ih e
def n3dat (w : N3) : PyData := .tuple [.int (w.1 : Nat), .int (w.2.1 : Nat), .int (w.2.2 : Nat)]
theorem n3_lay (w : N3) : (n3dat w).canLay0 = true ∧ (n3dat w).depth ≤ 40 := ⟨by simp [n3dat, PyData.canLay0, PyData.canLayAll0], by simp [n3dat, PyData.depth, PyData.depthAll]⟩
theorem n3_shaped (w : N3) : SeqAt.shaped (n3dat w) = true := Bool.and_eq_true_iff.mpr ⟨(n3_lay w).1, decide_eq_true (by have := (n3_lay w).2; omega)⟩
theorem n3s_all : ∀ ws : List N3, PyData.canLayAll0 (ws.map n3dat) = true ∧ PyData.depthAll (ws.map n3dat) ≤ 40
  | [] => ⟨rfl, Nat.zero_le _⟩
  | w :: ws => by
    obtain ⟨h1, h2⟩ := n3s_all ws
    obtain ⟨h3, h4⟩ := n3_lay w
    refine ⟨by simp [PyData.canLayAll0, h1, h3], ?_⟩
    simp only [List.map_cons, PyData.depthAll]
    omega
theorem n3s_shaped (ws : List N3) : SeqAt.shaped (.list (ws.map n3dat)) = true := by
  obtain ⟨h1, h2⟩ := n3s_all ws
  exact Bool.and_eq_true_iff.mpr ⟨by simpa [PyData.canLay0] using h1, decide_eq_true (by simp only [PyData.depth]; omega)⟩
theorem N3V.dp {K : PySem.W.Frag} {H : Hp} {w : N3} {v : V} (h : N3V H w v) : Dp K H v (n3dat w) := by
  obtain ⟨p, rfl, hp⟩ := h
  exact .tup (SqT.of hp) (.cons (.int _) (.cons (.int _) (.cons (.int _) .nil)))
theorem N3s.dpAll {K : PySem.W.Frag} {H : Hp} {ws : List N3} {vs : List V} (h : N3s H ws vs) : DpAll K H vs (ws.map n3dat) := by
  induction h with
  | nil => exact .nil
  | cons h _ ih => exact .cons h.dp ih
theorem n3_eqv (a b : N3) : PyData.eqv (n3dat a) (n3dat b) = decide (a = b) := by
  obtain ⟨a1, a2, a3⟩ := a
  obtain ⟨b1, b2, b3⟩ := b
  simp only [n3dat, PyData.eqv, PyData.eqvAll, Bool.and_true]
  by_cases h : (a1, a2, a3) = (b1, b2, b3)
  · cases h; simp
  · rw [decide_eq_false h]
    simp only [Bool.and_eq_false_iff, beq_eq_false_iff_ne, ne_eq]
    have h' : ¬ (a1 = b1 ∧ a2 = b2 ∧ a3 = b3) := fun z => h (by rw [z.1, z.2.1, z.2.2])
    by_cases e1 : a1 = b1
    · by_cases e2 : a2 = b2
      · exact .inr (.inr fun z => h' ⟨e1, e2, by omega⟩)
      · exact .inr (.inl (by omega))
    · exact .inl (by omega)
/-! ### what is known -/
theorem ptE_key {t : T} {a : Addr} {v : V} : ∀ {es : List Ent}, (es.map (·.1)).Nodup → ∀ {f : Ent}, f ∈ ptE t a v es → f.1 = t → f.2.2 = v
  | [], _, f, h, _ => by cases List.mem_singleton.mp h; rfl
  | e :: r, hn, f, h, hf => by
    have hn' : e.1 ∉ r.map (·.1) ∧ (r.map (·.1)).Nodup := List.nodup_cons.mp hn
    unfold ptE at h
    split at h
    next c =>
      rcases List.mem_cons.mp h with rfl | h
      · rfl
      · exact absurd (List.mem_map.mpr ⟨f, h, hf.trans (T.beq_iff.mp c).symm⟩) hn'.1
    next c =>
      rcases List.mem_cons.mp h with rfl | h
      · exact absurd (T.beq_iff.mpr hf) c
      · exact ptE_key hn'.2 h hf
theorem ptE_nodup {t : T} {a : Addr} {v : V} : ∀ {es : List Ent}, (es.map (·.1)).Nodup → ((ptE t a v es).map (·.1)).Nodup
  | [], _ => by simp [ptE]
  | e :: r, hn => by
    have hn' : e.1 ∉ r.map (·.1) ∧ (r.map (·.1)).Nodup := List.nodup_cons.mp hn
    unfold ptE
    split
    · exact hn
    next c =>
      rw [List.map_cons, List.nodup_cons]
      refine ⟨fun h => ?_, ptE_nodup hn'.2⟩
      obtain ⟨f, hf, e1⟩ := List.mem_map.mp h
      rcases ptE_mem hf with rfl | ⟨e', m, e2, _⟩
      · exact c (T.beq_iff.mpr e1.symm)
      · exact hn'.1 (by rw [← e1, e2]; exact List.mem_map.mpr ⟨e', m, rfl⟩)
theorem ptE_look {t : T} {a : Addr} {v : V} : ∀ es : List Ent, lkE t (ptE t a v es) = some v
  | [] => by simp [ptE, lkE, T.beq_iff]
  | e :: r => by
    have ih := ptE_look (t := t) (a := a) (v := v) r
    unfold ptE
    split
    next c => simp only [lkE, c, if_true]
    next c => simp only [lkE]; rw [if_neg c]; exact ih
/-- of all trees but maybe x -/
def KX (P : Program) (w : World) (H : Hp) (d : Addr) (o : T) (x : Option T) (es : List Ent) : Prop := DD P w H d es ∧ (es.map (·.1)).Nodup ∧ ∀ e ∈ es, e.1.sz = o.sz ∧ (x = some e.1 ∨ wayV H (wv o e.1) e.2.2)
def KN (P : Program) (w : World) (H : Hp) (d : Addr) (o : T) : Prop := ∃ es, KX P w H d o none es
section
variable {P : Program} {w : World} {Ts : List (Addr × Str)} {L : List Addr} {H H' : Hp} {d : Addr} {o : T} {x : Option T} {es : List Ent}
theorem KX.kp (h : KX P w H d o x es) (k : Kp Ts L H H') (n : d ∉ L) : KX P w H' d o x es := ⟨h.1.kp k n, h.2.1, fun e m => ⟨(h.2.2 e m).1, (h.2.2 e m).2.imp id fun z => z.kp k⟩⟩
theorem KN.kp (h : KN P w H d o) (k : Kp Ts L H H') (n : d ∉ L) : KN P w H' d o := by
  obtain ⟨es, h⟩ := h
  exact ⟨es, h.kp k n⟩
theorem KX.len (h : KX P w H d o x es) (ho : o.sz ≤ 5) : es.length ≤ 42 := by
  have h1 := nodup_le h.2.1 (m := ev o.sz) fun t m => by
    obtain ⟨e, he, rfl⟩ := List.mem_map.mp m
    have z := (h.2.2 e he).1
    rw [← z]
    exact ev_mem (by omega)
  rw [List.length_map] at h1
  exact Nat.le_trans h1 (ev_len _ ho)
theorem KX.put {t : T} {a : Addr} {v : V} (h : KX P w H d o x es) (hx : x = none ∨ x = some t) (ht : TA H t (.ref a)) (hz : t.sz = o.sz) (h5 : o.sz ≤ 5) (y : Option T) (hy : y = some t ∨ (y = none ∧ wayV H (wv o t) v)) : KX P w (upd H d (DO P w d (ptE t a v es))) d o y (ptE t a v es) := by
  have k : Kp [] [d] H (upd H d (DO P w d (ptE t a v es))) := h.1.set (by simp)
  refine ⟨h.1.put ht (by omega), ptE_nodup h.2.1, fun f m => ?_⟩
  by_cases e : f.1 = t
  · refine ⟨by rw [e]; exact hz, ?_⟩
    rcases hy with rfl | ⟨rfl, hv⟩
    · exact .inl (by rw [e])
    · refine .inr ?_
      rw [ptE_key h.2.1 m e, e]
      exact hv.kp k
  · rcases ptE_mem m with rfl | ⟨e', m', e1, _, e2 | ⟨_, e2⟩⟩
    · exact absurd rfl e
    · subst e2
      obtain ⟨z1, z2⟩ := h.2.2 f m'
      refine ⟨z1, .inr ?_⟩
      rcases z2 with z2 | z2
      · rcases hx with hx | hx
        · rw [hx] at z2; cases z2
        · rw [hx] at z2; exact absurd (Option.some.inj z2).symm e
      · exact z2.kp k
    · exact absurd e2 e
theorem KX.got {t : T} {v : V} (h : KX P w H d o none es) (e : lkE t es = some v) : wayV H (wv o t) v := by
  have go : ∀ l : List Ent, (∀ f ∈ l, wayV H (wv o f.1) f.2.2) → lkE t l = some v → wayV H (wv o t) v := fun l => by
    induction l with
    | nil => intro _ z; cases z
    | cons f r ih =>
      intro hl z
      have z' : (if f.1.beq t then some f.2.2 else lkE t r) = some v := z
      cases hb : f.1.beq t with
      | true =>
        rw [hb] at z'
        have e1 : f.2.2 = v := Option.some.inj z'
        rw [← e1, ← T.beq_iff.mp hb]
        exact hl f (List.mem_cons_self ..)
      | false =>
        rw [hb] at z'
        exact ih (fun f m => hl f (List.mem_cons_of_mem _ m)) z'
  exact go es (fun f m => (h.2.2 f m).2.elim (fun z => (nomatch z)) id) e
end
section
variable {P : Program} {w : World} {K : PySem.W.Frag} {mg : Str → Option Value} {base : Heap} {Ts : List (Addr × Str)}
def spWays (P : Program) (w : World) (Ts : List (Addr × Str)) (n : Nat) : Sp := fun vs H Q _ => ∃ u v d a o, vs = [u, v, .ref d] ∧ TA H a u ∧ TA H o v ∧ a.sz = o.sz ∧ a.sz ≤ 5 ∧ 25 - a.ds < n ∧ KN P w H d o ∧
  ∀ r H', Kp Ts [d] H H' → KN P w H' d o → wayV H' (wv o a) r → Q r H'
theorem filter_take (rs : List (Option N3)) (l : Nat) (r : Option N3) (h : rs[l]? = some r) : (rs.take (l + 1)).filterMap id = (rs.take l).filterMap id ++ r.toList := by
  rw [List.take_add_one, h, List.filterMap_append]
  cases r <;> rfl
theorem maxIn {l : List Nat} {m : Int} (h : m ∈ l.map fun (x : Nat) => (x : Int)) (hl : ∀ y, y ∈ (l.map fun (x : Nat) => (x : Int)) → y ≤ m) : m = ((maxL l : Nat) : Int) := by
  obtain ⟨x, hx, rfl⟩ := List.mem_map.mp h
  have h1 := maxL_le hx
  have ne : l ≠ [] := fun e => by rw [e] at hx; cases hx
  have h2 := hl _ (List.mem_map.mpr ⟨_, maxL_mem ne, rfl⟩)
  omega
theorem minIn {l : List Nat} {m : Int} (h : m ∈ l.map fun (x : Nat) => (x : Int)) (hl : ∀ y, y ∈ (l.map fun (x : Nat) => (x : Int)) → m ≤ y) : m = ((minL l : Nat) : Int) := by
  obtain ⟨x, hx, rfl⟩ := List.mem_map.mp h
  have h1 := minL_le hx
  have ne : l ≠ [] := fun e => by rw [e] at hx; cases hx
  have h2 := hl _ (List.mem_map.mpr ⟨_, minL_mem ne, rfl⟩)
  omega
theorem ok59 (X : TX K mg) : ∀ n : Nat, n ≤ 50 → FnOk P w K mg base CX0 (n + 74) X.f59 X.d59 ["_law_one", "_law_other_so", "_law_known"] (spWays P w Ts n)
  | 0, _ => ok_none fun vs H Q E h => by
    obtain ⟨u, v, d, a, o, _, _, _, _, _, z, _⟩ := h
    exact absurd z (Nat.not_lt_zero _)
  | n + 1, hn => by
    have G := ok59 X n (by omega)
    have GU := ok57 (P := P) (w := w) (base := base) (Ts := Ts) X 10 (by omega)
    refine X.D59.F.ok sc59 (fun vs H Q E h => by obtain ⟨u, v, d, a, o, rfl, _⟩ := h; rfl) (fun cdv A outer s H vs Q E hr h => ?_)
    obtain ⟨u, v, d, a, o, rfl, hu, hv, hz, h5, hn, hk, q⟩ := h
    refine ⟨_, pss_cons (ps_if (pt_cmpR (op_eqT hr.units) (pv 0) (pv 1) (nomark _)) (pss_one (ps_ret (pe_tup (pa_cons pe_int (pa_cons pe_int (pa_cons pe_int pa_nil)))))) pss_nil)
      (pss_cons (ps_if (pt_cmpR (op_notInD hr.units) (pv 0) (pv 2) (by rfl))
        (pss_cons (ps_setLc (i := 3) (own := [("_law_fork", 4), ("_law_there", 5)]) (g := gTup K 2 (gCons (gName 4) (gCons (gName 5) gNil))) (tt := tYes) rfl sc59.nd rfl rfl (sw_true rfl rfl rfl (by decide +kernel))
            (pi_list (pe_call GU (hr.mono (by omega)) rfl X.D57.g X.D57.F.kp X.D57.b .nil pass0 (pa_cons (pv 0) (pa_cons pe_int pa_nil))))
            (blkOk_by (N := ["_law_one", "_law_other_so", "_law_known", "_law_some", "_law_fork", "_law_there", "_law_way"]) (sc := defScope s59) (by decide +kernel))
            (fun _ _ _ _ _ => pg_tup rfl (pgs_cons (pg_name (i := 4) sc59.nd rfl (Or.inl rfl)) (pgs_cons (pg_name (i := 5) sc59.nd rfl (Or.inl rfl)) pgs_nil))) (fun _ _ _ _ _ => pts_nil)
            (fun _ _ _ _ _ => pe_call G hr rfl X.D59.g X.D59.F.kp X.D59.b .nil pass0 (pa_cons (pv 5) (pa_cons (pv 1) (pa_cons (pv 2) pa_nil)))))
        (pss_cons (ps_setLc (i := 3) (own := [("_law_way", 6)]) (g := gName 6) rfl sc59.nd rfl rfl (sw_true rfl rfl rfl (by decide +kernel)) (pi_list (pv 3))
            (blkOk_by (N := ["_law_one", "_law_other_so", "_law_known", "_law_some", "_law_fork", "_law_there", "_law_way"]) (sc := defScope s59) (by decide +kernel))
            (fun _ _ _ _ _ => pg_name (i := 6) sc59.nd rfl (Or.inl rfl)) (fun _ _ _ _ _ => pts_one (pt_cmpR op_notN (pv 6) pe_non (nomark _))) (fun _ _ _ _ _ => pv 6))
        (pss_cons (ps_asg pe_non (pg_sub (pv 2) (pv 0) (set_D hr.units)))
        (pss_one (ps_if (pt_cmpR (op_neD hr.units) (pv 3) (pe_lst pa_nil) (nomark _))
          (pss_one (ps_asg (pe_tup (pa_cons (pe_op op_add pe_int (pe_callB (cr_max rfl) rfl X.n_max (by decide +kernel) (pa_cons (pe_lc (own := [("_law_way", 6)]) (g := gName 6) (tt := tYes) (te := tOp (rIxT K) (tVar 6) (tC (.int 0))) rfl sc59.nd (pi_list (pv 3)) (blkOk_by (N := ["_law_one", "_law_other_so", "_law_known", "_law_some", "_law_fork", "_law_there", "_law_way"]) (sc := defScope s59) (by decide +kernel)) (fun _ _ _ _ _ => pg_name (i := 6) sc59.nd rfl (Or.inl rfl)) (fun _ _ _ _ _ => pts_nil) (fun _ _ _ _ _ => pe_ix ix_tup (pv 6) pe_int (fun _ _ => rfl))) pa_nil)))
            (pa_cons (pe_op op_add pe_int (pe_callB (cr_min rfl) rfl X.n_min (by decide +kernel) (pa_cons (pe_lc (own := [("_law_way", 6)]) (g := gName 6) (tt := tYes) (te := tOp (rIxT K) (tVar 6) (tC (.int 1))) rfl sc59.nd (pi_list (pv 3)) (blkOk_by (N := ["_law_one", "_law_other_so", "_law_known", "_law_some", "_law_fork", "_law_there", "_law_way"]) (sc := defScope s59) (by decide +kernel)) (fun _ _ _ _ _ => pg_name (i := 6) sc59.nd rfl (Or.inl rfl)) (fun _ _ _ _ _ => pts_nil) (fun _ _ _ _ _ => pe_ix ix_tup (pv 6) pe_int (fun _ _ => rfl))) pa_nil)))
            (pa_cons (pe_callB (cr_sum rfl) rfl X.n_sum (by decide +kernel) (pa_cons (pe_lc (own := [("_law_way", 6)]) (g := gName 6) (tt := tYes) (te := tOp (rIxT K) (tVar 6) (tC (.int 2))) rfl sc59.nd (pi_list (pv 3)) (blkOk_by (N := ["_law_one", "_law_other_so", "_law_known", "_law_some", "_law_fork", "_law_there", "_law_way"]) (sc := defScope s59) (by decide +kernel)) (fun _ _ _ _ _ => pg_name (i := 6) sc59.nd rfl (Or.inl rfl)) (fun _ _ _ _ _ => pts_nil) (fun _ _ _ _ _ => pe_ix ix_tup (pv 6) pe_int (fun _ _ => rfl))) pa_nil)) pa_nil)))) (pg_sub (pv 2) (pv 0) (set_D hr.units)))) pss_nil))))) pss_nil)
      (pss_one (ps_ret (pe_ix (ix_D hr.units) (pv 2) (pv 0) (fun _ _ => rfl))))), ?_⟩
    refine ⟨_, rfl, _, rfl, a, o, hu, hv, by omega, by omega, _, rfl, ?_⟩
    have hwv := wv_eq o h5
    cases hao : a.beq o with
    | true =>
      rw [hao] at hwv
      refine iteT ⟨(by show 3 ≤ sizeLine; decide), fun p np => ?_⟩
      have k1 : Kp Ts [] H (upd H p (.tup [.int 0, .int 0, .int 1])) := .new np
      refine q _ _ k1.wid (hk.kp k1 (by simp)) ?_
      rw [hwv]
      exact ⟨p, rfl, upd_same⟩
    | false =>
    rw [hao] at hwv
    have hwv : wv o a = join3 (((a.ups 0).map fun p => wv o p.2).filterMap id) := hwv
    refine iteF ?_
    obtain ⟨es, hX⟩ := id hk
    refine ⟨_, rfl, _, rfl, d, es, a, rfl, hX.1, hu, by omega, _, rfl, ?_⟩
    -- the end
    have fin : ∀ (es' : List Ent) (r : V) (s3 s4 s5 s6 : Option V) (H' : Hp), Kp Ts [d] H H' → KX P w H' d o none es' → lkE a es' = some r →
        (tRet (tOp (rIxD P w) (tVar 2) (tVar 0))) { nx := fun _ H' => Q .non H', rt := Q } [some u, some v, some (.ref d), s3, s4, s5, s6] H' := fun es' r s3 s4 s5 s6 H' k hX' hr' =>
      ⟨_, rfl, _, rfl, d, es', a, r, rfl, hX'.1, hu.kp k, by omega, hr', q r H' k ⟨es', hX'⟩ (hX'.got hr')⟩
    cases hl : lkE a es with
    | some r => exact iteF (fin es r none none none none H .refl hX hl)
    | none =>
    refine iteT ⟨_, rfl, u, a, 0, rfl, hu, by omega, by omega, fun c xs H1 k1 nc hc hxs => ?_⟩
    refine ⟨c, rfl, ⟨xs, SqL.of hc⟩, fun D nD => ?_⟩
    have kD : Kp Ts [] H1 (upd H1 D (.lst [])) := .new nD
    have cD : c ≠ D := ne_of_none hc nD
    have cd : c ≠ d := (hX.1.kp k1 (by simp)).ne hc
    have dD : d ≠ D := ne_of_none (hX.1.kp k1 (by simp)).at_ nD
    have lx : xs.length ≤ 5 := by rw [← hxs.len]; have := ups_len a 0; omega
    refine lc_list (xs := xs) (fun l H' => ∃ ws, H' D = some (.lst ws) ∧ ws.length = l ∧ WVs H' (((a.ups 0).map fun p => wv o p.2).take l) ws ∧ H' c = some (.lst xs) ∧ UPs H' (a.ups 0) xs ∧ KN P w H' d o ∧ Kp Ts [D, d] (upd H1 D (.lst [])) H')
      ⟨[], upd_same, rfl, .nil, kD.lst hc (by simp), hxs.kp kD, (hk.kp k1 (by simp)).kp kD (by simp), .refl⟩ (fun l H' _ hP => by obtain ⟨_, _, _, _, h, _⟩ := hP; exact SqL.of h) (fun l x5 H5 hxl hP => ?_) (fun H5 hP => ?_)
    · obtain ⟨ws, hw, lw, hws, hc5, hxs5, hk5, k5⟩ := hP
      obtain ⟨⟨pk, pt⟩, hpi, a5, u5, rfl, ha5, hu5⟩ := hxs5.at hxl
      have hup := ups_up a 0 (pk, pt) (List.mem_of_getElem? hpi)
      have hup1 : pt.sz = a.sz := hup.1
      have hup2 : a.ds < pt.ds := hup.2
      have hdl := ds_le pt (by omega)
      refine ⟨a5, _, rfl, SqT.of ha5, rfl, _, _, rfl, _, _, rfl, rfl, rfl, ?_⟩
      refine ⟨_, rfl, _, rfl, _, rfl, u5, v, d, pt, o, rfl, hu5, ((hv.kp k1).kp kD).kp k5, by omega, by omega, by omega, hk5, fun r H6 k6 hk6 hr6 => ?_⟩
      have hw6 := k6.lst hw (by simpa using Ne.symm dD)
      have kS : Kp Ts [D] H6 (upd H6 D (.lst (ws ++ [r]))) := .set hw6 Mu.lst (by simp)
      have ll : l < xs.length := (List.getElem?_eq_some_iff.mp hxl).1
      refine ⟨ws, hw6, small1000 (by omega), ws ++ [r], upd_same, by rw [List.length_append, lw]; rfl, ?_, kS.lst (k6.lst hc5 (by simpa using cd)) (by simpa using cD), (hxs5.kp k6).kp kS, hk6.kp kS (by simpa using dD), (k5.trans (k6.mono fun b hb => ?_)).trans (kS.mono fun b hb => ?_)⟩
      · rw [List.take_add_one, List.getElem?_map, hpi]
        exact paired_snoc ((hws.kp k6).kp kS) (hr6.kp kS)
      · exact List.mem_cons_of_mem _ hb
      · rw [List.mem_singleton.mp hb]; exact List.mem_cons_self ..
    obtain ⟨ws0, hw0, lw0, hws0, hc5, hxs5, hk5, k5⟩ := hP
    rw [List.take_of_length_le (by rw [List.length_map, hxs.len]; exact Nat.le_refl _)] at hws0
    have nD0 : NT H D := k1.ntb (.of nD)
    have kH5 : Kp Ts [d] H H5 := k1.wid.hide nD0 (kD.wid.trans k5)
    generalize hrs : ((a.ups 0).map fun p => wv o p.2) = rs at hws0 hwv
    -- those that are not None
    refine ⟨_, rfl, D, rfl, ⟨ws0, SqL.of hw0⟩, fun D2 nD2 => ?_⟩
    have kD2 : Kp Ts [] H5 (upd H5 D2 (.lst [])) := .new nD2
    have DD2 : D ≠ D2 := ne_of_none hw0 nD2
    have dD2 : d ≠ D2 := by
      obtain ⟨es5, hX5⟩ := hk5
      exact ne_of_none hX5.1.at_ nD2
    refine lc_list (xs := ws0) (fun l H' => ∃ ws, H' D2 = some (.lst ws) ∧ ws.length ≤ l ∧ N3s H' ((rs.take l).filterMap id) ws ∧ H' D = some (.lst ws0) ∧ WVs H' rs ws0 ∧ Kp Ts [D2] (upd H5 D2 (.lst [])) H')
      ⟨[], upd_same, Nat.le_refl _, .nil, kD2.lst hw0 (by simp), hws0.kp kD2, .refl⟩ (fun l H' _ hP => by obtain ⟨_, _, _, _, h, _⟩ := hP; exact SqL.of h) (fun l x6 H6 hxl hP => ?_) (fun H6 hP => ?_)
    · obtain ⟨ws, hw, lw, hws, hD6, hws06, k6⟩ := hP
      obtain ⟨r6, hri, hr6⟩ := paired_at hws06 hxl
      have ll : l < ws0.length := (List.getElem?_eq_some_iff.mp hxl).1
      refine ⟨rfl, ?_⟩
      refine ⟨_, rfl, rfl, _, rfl, ?_⟩
      have ft := filter_take rs l r6 hri
      cases r6 with
      | none =>
        have e6 : x6 = .non := hr6
        subst e6
        refine ⟨ws, hw, by omega, ?_, hD6, hws06, k6⟩
        rw [ft]
        show N3s H6 (_ ++ []) ws
        rw [List.append_nil]
        exact hws
      | some w6 =>
        obtain ⟨p6, rfl, hp6⟩ := hr6
        have kS : Kp Ts [D2] H6 (upd H6 D2 (.lst (ws ++ [.ref p6]))) := .set hw Mu.lst (by simp)
        refine ⟨_, rfl, ws, hw, small1000 (by omega), ws ++ [.ref p6], upd_same, by rw [List.length_append, List.length_singleton]; omega, ?_, kS.lst hD6 (by simpa using DD2), hws06.kp kS, k6.trans kS⟩
        rw [ft]
        exact paired_snoc (hws.kp kS) (N3V.kp ⟨p6, rfl, hp6⟩ kS)
    obtain ⟨ws, hw, lw, hws, hD6, hws06, k6⟩ := hP
    rw [List.take_of_length_le (by rw [hws0.length]; exact Nat.le_refl _)] at hws
    have nD20 : NT H D2 := kH5.ntb (.of nD2)
    have kH6 : Kp Ts [d] H H6 := kH5.hide nD20 (kD2.wid.trans (k6.mono fun b hb => by rw [List.mem_singleton.mp hb]; exact List.mem_cons_self ..))
    have hk6 : KN P w H6 d o := (hk5.kp kD2 (by simp)).kp k6 (by simpa using dD2)
    generalize hL : rs.filterMap id = L at hws hwv
    -- known[one] = None
    obtain ⟨es6, hX6⟩ := hk6
    obtain ⟨ua, _, rfl, _⟩ := hu.rf
    have hu6 := hu.kp kH6
    have len6 := hX6.len (by omega)
    refine ⟨_, rfl, _, rfl, d, es6, a, ua, rfl, rfl, hX6.1, hu6, by omega, by omega, ?_⟩
    have hX7 := hX6.put (v := .non) (.inl rfl) hu6 hz (by omega) (some a) (.inl rfl)
    have kS7 : Kp Ts [d] H6 (upd H6 d (DO P w d (ptE a ua .non es6))) := hX6.1.set (by simp)
    have kH7 := kH6.trans kS7
    have D2d : D2 ≠ d := Ne.symm dD2
    have hw7 : (upd H6 d (DO P w d (ptE a ua .non es6))) D2 = some (.lst ws) := kS7.lst hw (by simpa using D2d)
    have hws7 := hws.kp kS7
    have lk7 := ptE_look (t := a) (a := ua) (v := .non) es6
    have lws : ws.length ≤ 5 := by omega
    refine ⟨_, rfl, (by show 0 ≤ sizeLine; decide), fun e0 n0 => ?_⟩
    have k8 : Kp Ts [] (upd H6 d (DO P w d (ptE a ua .non es6))) (upd (upd H6 d (DO P w d (ptE a ua .non es6))) e0 (.lst [])) := .new n0
    refine ⟨.list (L.map n3dat), .list [], .lst (SqL.of (k8.lst hw7 (by simp))) (hws7.kp k8).dpAll, .lst (SqL.of upd_same) .nil, n3s_shaped L, n3s_shaped [], _, rfl, ?_⟩
    have hX8 := hX7.kp k8 (by simp)
    have kH8 := kH7.trans k8.wid
    have hw_0 := k8.lst hw7 (by simp)
    have hN_0 := hws7.kp k8
    cases L with
    | nil =>
      refine iteF (fin _ .non _ _ _ _ _ kH8 ⟨hX8.1, hX8.2.1, fun e m => ⟨(hX8.2.2 e m).1, ?_⟩⟩ lk7)
      refine .inr ?_
      rcases (hX8.2.2 e m).2 with z | z
      · have ez : e.1 = a := (Option.some.inj z).symm
        rw [ez, hwv]
        exact ptE_key hX6.2.1 m ez
      · exact z
    | cons w0 L0 =>
    refine iteT ?_
    generalize hLL : w0 :: L0 = L at hN_0 hwv
    have hne : L ≠ [] := by rw [← hLL]; simp
    refine ⟨_, rfl, D2, rfl, ⟨_, SqL.of hw_0⟩, fun E1 nE1 => ?_⟩
    have kE1 : Kp Ts [] (upd (upd H6 d (DO P w d (ptE a ua .non es6))) e0 (.lst [])) (upd (upd (upd H6 d (DO P w d (ptE a ua .non es6))) e0 (.lst [])) E1 (.lst [])) := .new nE1
    have neE1 : D2 ≠ E1 := ne_of_none hw_0 nE1
    refine lc_list (xs := ws) (fun l H' => H' E1 = some (.lst (iv ((L.map fun x : N3 => x.1).take l))) ∧ H' D2 = some (.lst ws) ∧ N3s H' L ws ∧ Kp Ts [E1] (upd (upd (upd H6 d (DO P w d (ptE a ua .non es6))) e0 (.lst [])) E1 (.lst [])) H')
      ⟨upd_same, kE1.lst hw_0 (by simp), hN_0.kp kE1, .refl⟩ (fun l H' _ hP => by obtain ⟨_, h, _⟩ := hP; exact SqL.of h) (fun l x6 H6 hxl hP => ?_) (fun H9 hP => ?_)
    · obtain ⟨hD6, hw6, hN6, k6⟩ := hP
      obtain ⟨w6, hw6', p6, rfl, hp6⟩ := paired_at hN6 hxl
      have ll : l < ws.length := (List.getElem?_eq_some_iff.mp hxl).1
      refine ⟨rfl, ?_⟩
      refine ⟨_, rfl, p6, _, 0, _, rfl, rfl, SqT.of hp6, rfl, _, hD6, ?_, ?_, ?_, ?_, ?_⟩
      · rw [iv_len, List.length_take]; exact small1000 (by omega)
      · rw [upd_same, List.take_add_one, List.getElem?_map, hw6']
        show some (HO.lst (iv ((L.map fun x : N3 => x.1).take l) ++ [V.int _])) = some (.lst (iv ((L.map fun x : N3 => x.1).take l ++ [_])))
        rw [iv_snoc]
      all_goals have kS : Kp Ts [E1] H6 (upd H6 E1 (.lst (iv ((L.map fun x : N3 => x.1).take l) ++ [V.int ((fun x : N3 => x.1) w6 : Nat)]))) := .set hD6 Mu.lst (by simp)
      · exact kS.lst hw6 (by simpa using neE1)
      · exact hN6.kp kS
      · exact k6.trans kS
    obtain ⟨hD_1, hw_1, hN_1, k_1⟩ := hP
    rw [List.take_of_length_le (by rw [List.length_map]; exact Nat.le_of_eq hN_0.length)] at hD_1
    have q9 : Kp Ts [] (upd (upd H6 d (DO P w d (ptE a ua .non es6))) e0 (.lst [])) H9 := (Kp.refl (Ts := Ts) (L := []) (H := (upd (upd H6 d (DO P w d (ptE a ua .non es6))) e0 (.lst [])))).hide (.of nE1) (kE1.wid.trans k_1)
    refine ⟨E1, ((L.map fun x : N3 => x.1).map fun (x : Nat) => (x : Int)), rfl, by rw [← iv_int]; exact SqL.of hD_1, by rw [List.length_map, List.length_map]; exact List.length_pos_iff.mpr hne, fun m1 hm1 hm1' => ⟨_, _, rfl, rfl, ?_⟩⟩
    have em1 := maxIn hm1 hm1'
    refine ⟨_, rfl, D2, rfl, ⟨_, SqL.of hw_1⟩, fun E2 nE2 => ?_⟩
    have kE2 : Kp Ts [] H9 (upd H9 E2 (.lst [])) := .new nE2
    have neE2 : D2 ≠ E2 := ne_of_none hw_1 nE2
    refine lc_list (xs := ws) (fun l H' => H' E2 = some (.lst (iv ((L.map fun x : N3 => x.2.1).take l))) ∧ H' D2 = some (.lst ws) ∧ N3s H' L ws ∧ Kp Ts [E2] (upd H9 E2 (.lst [])) H')
      ⟨upd_same, kE2.lst hw_1 (by simp), hN_1.kp kE2, .refl⟩ (fun l H' _ hP => by obtain ⟨_, h, _⟩ := hP; exact SqL.of h) (fun l x6 H6 hxl hP => ?_) (fun HA hP => ?_)
    · obtain ⟨hD6, hw6, hN6, k6⟩ := hP
      obtain ⟨w6, hw6', p6, rfl, hp6⟩ := paired_at hN6 hxl
      have ll : l < ws.length := (List.getElem?_eq_some_iff.mp hxl).1
      refine ⟨rfl, ?_⟩
      refine ⟨_, rfl, p6, _, 1, _, rfl, rfl, SqT.of hp6, rfl, _, hD6, ?_, ?_, ?_, ?_, ?_⟩
      · rw [iv_len, List.length_take]; exact small1000 (by omega)
      · rw [upd_same, List.take_add_one, List.getElem?_map, hw6']
        show some (HO.lst (iv ((L.map fun x : N3 => x.2.1).take l) ++ [V.int _])) = some (.lst (iv ((L.map fun x : N3 => x.2.1).take l ++ [_])))
        rw [iv_snoc]
      all_goals have kS : Kp Ts [E2] H6 (upd H6 E2 (.lst (iv ((L.map fun x : N3 => x.2.1).take l) ++ [V.int ((fun x : N3 => x.2.1) w6 : Nat)]))) := .set hD6 Mu.lst (by simp)
      · exact kS.lst hw6 (by simpa using neE2)
      · exact hN6.kp kS
      · exact k6.trans kS
    obtain ⟨hD_2, hw_2, hN_2, k_2⟩ := hP
    rw [List.take_of_length_le (by rw [List.length_map]; exact Nat.le_of_eq hN_1.length)] at hD_2
    have qA : Kp Ts [] H9 HA := (Kp.refl (Ts := Ts) (L := []) (H := H9)).hide (.of nE2) (kE2.wid.trans k_2)
    refine ⟨E2, ((L.map fun x : N3 => x.2.1).map fun (x : Nat) => (x : Int)), rfl, by rw [← iv_int]; exact SqL.of hD_2, by rw [List.length_map, List.length_map]; exact List.length_pos_iff.mpr hne, fun m2 hm2 hm2' => ⟨_, _, rfl, rfl, ?_⟩⟩
    have em2 := minIn hm2 hm2'
    refine ⟨_, rfl, D2, rfl, ⟨_, SqL.of hw_2⟩, fun E3 nE3 => ?_⟩
    have kE3 : Kp Ts [] HA (upd HA E3 (.lst [])) := .new nE3
    have neE3 : D2 ≠ E3 := ne_of_none hw_2 nE3
    refine lc_list (xs := ws) (fun l H' => H' E3 = some (.lst (iv ((L.map fun x : N3 => x.2.2).take l))) ∧ H' D2 = some (.lst ws) ∧ N3s H' L ws ∧ Kp Ts [E3] (upd HA E3 (.lst [])) H')
      ⟨upd_same, kE3.lst hw_2 (by simp), hN_2.kp kE3, .refl⟩ (fun l H' _ hP => by obtain ⟨_, h, _⟩ := hP; exact SqL.of h) (fun l x6 H6 hxl hP => ?_) (fun HB hP => ?_)
    · obtain ⟨hD6, hw6, hN6, k6⟩ := hP
      obtain ⟨w6, hw6', p6, rfl, hp6⟩ := paired_at hN6 hxl
      have ll : l < ws.length := (List.getElem?_eq_some_iff.mp hxl).1
      refine ⟨rfl, ?_⟩
      refine ⟨_, rfl, p6, _, 2, _, rfl, rfl, SqT.of hp6, rfl, _, hD6, ?_, ?_, ?_, ?_, ?_⟩
      · rw [iv_len, List.length_take]; exact small1000 (by omega)
      · rw [upd_same, List.take_add_one, List.getElem?_map, hw6']
        show some (HO.lst (iv ((L.map fun x : N3 => x.2.2).take l) ++ [V.int _])) = some (.lst (iv ((L.map fun x : N3 => x.2.2).take l ++ [_])))
        rw [iv_snoc]
      all_goals have kS : Kp Ts [E3] H6 (upd H6 E3 (.lst (iv ((L.map fun x : N3 => x.2.2).take l) ++ [V.int ((fun x : N3 => x.2.2) w6 : Nat)]))) := .set hD6 Mu.lst (by simp)
      · exact kS.lst hw6 (by simpa using neE3)
      · exact hN6.kp kS
      · exact k6.trans kS
    obtain ⟨hD_3, hw_3, hN_3, k_3⟩ := hP
    rw [List.take_of_length_le (by rw [List.length_map]; exact Nat.le_of_eq hN_2.length)] at hD_3
    have qB : Kp Ts [] HA HB := (Kp.refl (Ts := Ts) (L := []) (H := HA)).hide (.of nE3) (kE3.wid.trans k_3)
    refine ⟨E3, ((L.map fun x : N3 => x.2.2).map fun (x : Nat) => (x : Int)), rfl, by rw [← iv_int]; exact SqL.of hD_3, ?_⟩
    rw [sum_int]
    refine ⟨(by show 3 ≤ sizeLine; decide), fun pz npz => ?_⟩
    have qC : Kp Ts [] HB (upd HB pz (.tup [.int (1 + m1), .int (1 + m2), .int (((L.map fun x : N3 => x.2.2).sum : Nat) : Int)])) := .new npz
    have q8C := ((q9.trans qA).trans qB).trans qC
    have hXC := hX8.kp q8C (by simp)
    have kHC := kH8.trans q8C.wid
    have huC := hu.kp kHC
    have lenC := hXC.len (by omega)
    have hval : wayV (upd HB pz (.tup [.int (1 + m1), .int (1 + m2), .int (((L.map fun x : N3 => x.2.2).sum : Nat) : Int)])) (wv o a) (.ref pz) := by
      rw [hwv, ← hLL]
      refine ⟨pz, rfl, ?_⟩
      rw [upd_same, em1, em2, ← hLL, Int.natCast_add, Int.natCast_add]
      rfl
    refine ⟨_, rfl, _, rfl, d, _, a, ua, rfl, rfl, hXC.1, huC, by omega, by omega, ?_⟩
    exact fin _ (.ref pz) _ _ _ _ _ (kHC.trans (hXC.1.set (by simp))) (hXC.put (.inr rfl) huC hz (by omega) none (.inr ⟨rfl, hval⟩)) (ptE_look _)
end
end K43

/-! DH: _law_pair_right. -/
namespace K43
open PySem L2
def gV (g : N3 → Nat) (z : V) : Option N3 → V
  | none => z
  | some w => .int (g w : Nat)
def bV (es : List T) (a o : T) : Option N3 → List T
  | none => []
  | some _ => es.filter fun t => below a t && below t o
theorem fil_take {pr : T → Bool} {l : List T} {i : Nat} {x : T} (h : l[i]? = some x) : (l.take (i + 1)).filter pr = (l.take i).filter pr ++ if pr x then [x] else [] := by
  rw [List.take_add_one, h, List.filter_append]
  simp only [Option.toList, List.filter_cons, List.filter_nil]
section
variable {Ts : List (Addr × Str)} {k5 k6 k12 : Addr} {G : T → T → Hp → Prop} {E : XK} {H : Hp} {a o : T} {es : List T} {Q : VK}
theorem outR_of (he : a.sz = o.sz) (h7 : a.sz ≤ 7) (h : G a o H) : outR Ts k5 k6 k12 G E H (some a) (some o) := by
  show if a.sz = o.sz then (if a.sz ≤ 7 then _ else _) else _
  rw [if_pos he, if_pos h7]
  exact h
theorem goodG_of {g : N3 → Nat} {z : V} (hg : good es a o = true) (q : ∀ H2, Kp Ts [] H H2 → Q (gV g z (wv o a)) H2) : goodG Ts g z Q a o H := by
  refine ⟨good_pre hg, fun hb H2 k => ?_, fun hb acc x H2 hr hx k => ?_⟩
  · have := q H2 k
    cases hw : wv o a with
    | none => rw [hw] at this; exact this
    | some w => rw [(good_some hg hw).1] at hb; cases hb
  · have := q H2 k
    cases hw : wv o a with
    | none => rw [good_none hg hw] at hb; cases hb
    | some w =>
      rw [hw] at this
      have e := (good_some hg hw).2.1 acc hr
      rw [hx] at e
      rw [Option.some.inj e]
      exact this
theorem goodB_of (hg : good es a o = true) (q : ∀ r ys H2, Kp Ts [] H H2 → H2 r = some (.lst ys) → TPs H2 (bV es a o (wv o a)) ys → Q (.ref r) H2) : goodB Ts Q a o H := by
  refine ⟨good_pre hg, fun hb r H2 k hr => ?_, fun hb r ys H2 k hr hys => ?_⟩
  · cases hw : wv o a with
    | none => exact q r [] H2 k hr (by rw [hw]; exact .nil)
    | some w => rw [(good_some hg hw).1] at hb; cases hb
  · cases hw : wv o a with
    | none => rw [good_none hg hw] at hb; cases hb
    | some w =>
      refine q r ys H2 k hr ?_
      rw [hw]
      rw [(good_some hg hw).2.2] at hys
      exact hys
end
section
variable {P : Program} {w : World} {K : PySem.W.Frag} {mg : Str → Option Value} {base : Heap} {Ts : List (Addr × Str)}
def spPR (Ts : List (Addr × Str)) : Sp := fun vs H Q _ => ∃ u v a o, ∃ n : Nat, vs = [u, v, .int (n : Nat)] ∧ TA H a u ∧ TA H o v ∧ a.sz = n ∧ o.sz = n ∧ 1 ≤ n ∧ n ≤ 5 ∧ LamX.Tabs Ts H ∧ ∀ H', Kp Ts [] H H' → Q (.bl true) H'
theorem ok60 (X : TX K mg) (Y : TMX K mg X.k12) (F : Fl P) (B : Tb X base Ts) : FnOk P w K mg base CX0 153 X.f60 X.d60 ["_law_one", "_law_other_so", "_law_forks_here"] (spPR Ts) := by
  have GW := ok59 (P := P) (w := w) (base := base) (Ts := Ts) X 26 (by omega)
  have G42 := ok42 (P := P) (w := w) (base := base) (Ts := Ts) X Y F B
  have G43 := ok43 (P := P) (w := w) (base := base) (Ts := Ts) X Y F B
  have G44 := ok44 (P := P) (w := w) (base := base) (Ts := Ts) X Y F B
  have G45 := ok45 (P := P) (w := w) (base := base) (Ts := Ts) X Y F B
  have GI := ok33 (P := P) (w := w) (base := base) (Ts := Ts) X
  have GE := ok56 (P := P) (w := w) (base := base) (Ts := Ts) X 6 (by omega)
  refine X.D60.F.ok sc60 (fun vs H Q E h => by obtain ⟨u, v, a, o, n, rfl, _⟩ := h; rfl) (fun cdv A outer s H vs Q E hr h => ?_)
  obtain ⟨u, v, a, o, n, rfl, hu, hv, ha, ho, h1, h5, hT, q⟩ := h
  have hr1 : Room 114 (A.deeper (PyProof.Rows.envOfC "_law_pair_right" (defScope s60) s.heap.objs.size X.f60 cdv)) := hr.mono (by omega)
  have hg := good_of h1 h5 ha ho
  have eo : a.sz = o.sz := by omega
  refine ⟨_, pss_cons (ps_set (i := 3) sc60.nd rfl (Or.inl rfl) (pe_call GW (hr.mono (by omega)) rfl X.D59.g X.D59.F.kp X.D59.b .nil pass0 (pa_cons (pv 0) (pa_cons (pv 1) (pa_cons pe_newD pa_nil)))))
    (pss_cons (ps_set (i := 4) sc60.nd rfl (Or.inl rfl) (pe_tup (pa_cons (pe_call G43 (hr.mono (by omega)) rfl X.D43.g X.D43.F.kp X.D43.b .nil passL (pa_cons (pv 0) (pa_cons (pv 1) pa_nil)))
        (pa_cons (pe_call G44 (hr.mono (by omega)) rfl X.D44.g X.D44.F.kp X.D44.b .nil passL (pa_cons (pv 0) (pa_cons (pv 1) pa_nil)))
        (pa_cons (pe_call G45 (hr.mono (by omega)) rfl X.D45.g X.D45.F.kp X.D45.b .nil passL (pa_cons (pv 0) (pa_cons (pv 1) pa_nil))) pa_nil)))))
    (pss_cons (ps_set (i := 5) sc60.nd rfl (Or.inl rfl) (pe_call G42 (hr.mono (by omega)) rfl X.D42.g X.D42.F.kp X.D42.b .nil passL (pa_cons (pv 0) (pa_cons (pv 1) pa_nil))))
    (pss_cons (ps_if (pt_cmpR op_isN (pv 3) pe_non (nomark _)) (pss_one (ps_ret (pe_and (pe_cmpR (op_eqD hr.units) (pv 4) (pe_tup (pa_cons pe_non (pa_cons pe_non (pa_cons pe_int pa_nil)))) (nomark _))
        (pe_and (pe_cmpR (op_eqD hr.units) (pv 5) (pe_lst pa_nil) (nomark _)) (pe_one (pe_not (pe_call GI (hr.mono (by omega)) rfl X.D33.g X.D33.F.kp X.D33.b .nil pass0 (pa_cons (pv 0) (pa_cons (pv 1) pa_nil))))))))) pss_nil)
    (pss_cons (ps_if (pt_cmpR (op_neD hr.units) (pv 4) (pv 3) (nomark _)) (pss_one (ps_ret pe_bl)) pss_nil)
    (pss_cons (ps_set (i := 6) sc60.nd rfl (Or.inl rfl) (pe_call GE (hr.mono (by omega)) rfl X.D56.g X.D56.F.kp X.D56.b .nil pass0 (pa_cons (pv 2) pa_nil)))
    (pss_one (ps_ret (pe_cmpR (op_eqD hr.units) (pv 5) (pe_lc (own := [("_law_tree_so", 7)]) (g := gName 7) rfl sc60.nd (pi_list (pv 6))
      (blkOk_by (N := ["_law_one", "_law_other_so", "_law_forks_here", "_law_due", "_law_told", "_law_some", "_law_every_here", "_law_tree_so"]) (sc := defScope s60) (by decide +kernel))
      (fun _ _ _ _ _ => pg_name (i := 7) sc60.nd rfl (Or.inl rfl))
      (fun _ _ _ _ _ => pts_one (PW.pt (pw_and (pt_val (pe_call GI hr1 rfl X.D33.g X.D33.F.kp X.D33.b .nil pass0 (pa_cons (pv 0) (pa_cons (pv 7) pa_nil))))
        (pw_and1 (pt_val (pe_call GI hr1 rfl X.D33.g X.D33.F.kp X.D33.b .nil pass0 (pa_cons (pv 7) (pa_cons (pv 1) pa_nil))))))))
      (fun _ _ _ _ _ => pv 7)) (nomark _))))))))), ?_⟩
  refine ⟨_, rfl, _, rfl, fun d nd => ?_⟩
  have k0 : Kp Ts [] H (upd H d (DO P w d [])) := .new nd
  have ntd : NT H d := .of nd
  refine ⟨u, v, d, a, o, rfl, hu.upd nd, hv.upd nd, eo, by omega, by omega, ⟨[], DD.new nd, List.nodup_nil, fun e m => (nomatch m)⟩, fun r H1 k1 _ hr1' => ?_⟩
  have k01 : Kp Ts [] H H1 := k0.hide ntd k1
  have hu1 := hu.kp k01
  have hv1 := hv.kp k01
  refine ⟨_, rfl, _, rfl, u, v, some a, some o, rfl, ⟨hu1, by omega⟩, ⟨hv1, by omega⟩, k01.tab hT, fun H2 k2 => outR_of eo (by omega) (goodG_of hg fun H3 k3 => ?_)⟩
  have k13 := k2.trans k3
  have k03 := k01.trans k13
  refine ⟨_, rfl, _, rfl, u, v, some a, some o, rfl, ⟨hu.kp k03, by omega⟩, ⟨hv.kp k03, by omega⟩, k03.tab hT, fun H4 k4 => outR_of eo (by omega) (goodG_of hg fun H5 k5 => ?_)⟩
  have k05 := k03.trans (k4.trans k5)
  refine ⟨_, rfl, _, rfl, u, v, some a, some o, rfl, ⟨hu.kp k05, by omega⟩, ⟨hv.kp k05, by omega⟩, k05.tab hT, fun H6 k6 => outR_of eo (by omega) (goodG_of hg fun H7 k7 => ?_)⟩
  have k07 := k05.trans (k6.trans k7)
  refine ⟨(by show 3 ≤ sizeLine; decide), fun p np => ?_⟩
  have kp : Kp Ts [] H7 (upd H7 p (.tup [gV (fun x => x.1) .non (wv o a), gV (fun x => x.2.1) .non (wv o a), gV (fun x => x.2.2) (.int 0) (wv o a)])) := .new np
  have k08 := k07.trans kp
  refine ⟨_, rfl, _, rfl, u, v, some a, some o, rfl, ⟨hu.kp k08, by omega⟩, ⟨hv.kp k08, by omega⟩, k08.tab hT, fun H9 k9 => outR_of eo (by omega) (goodB_of hg fun l ys HA kA hl hys => ?_)⟩
  have k8A := k9.trans kA
  have k0A := k08.trans k8A
  have hp : HA p = some (.tup [gV (fun x => x.1) .non (wv o a), gV (fun x => x.2.1) .non (wv o a), gV (fun x => x.2.2) (.int 0) (wv o a)]) := k8A.tup _ _ upd_same
  have hrA : wayV HA (wv o a) r := hr1'.kp (k13.trans ((k4.trans k5).trans ((k6.trans k7).trans (kp.trans k8A))))
  cases hw : wv o a with
  | none =>
    rw [hw] at hrA hp hys
    have er : r = .non := hrA
    subst er
    have hb := good_none hg hw
    refine ⟨_, rfl, rfl, _, rfl, iteT ?_⟩
    refine ⟨_, rfl, (by show 3 ≤ sizeLine; decide), fun t nt => ?_⟩
    have kt : Kp Ts [] HA (upd HA t (.tup [.non, .non, .int 0])) := .new nt
    refine ⟨.tuple [.none, .none, .int 0], .tuple [.none, .none, .int 0], .tup (SqT.of (kt.tup _ _ hp)) (.cons .non (.cons .non (.cons (.int 0) .nil))), .tup (SqT.of upd_same) (.cons .non (.cons .non (.cons (.int 0) .nil))), by decide, by decide, _, rfl, ?_⟩
    refine iteT ⟨_, rfl, (by show 0 ≤ sizeLine; decide), fun e ne => ?_⟩
    have ke := kt.trans (Kp.new (Ts := Ts) (L := []) (o := .lst []) ne)
    refine ⟨dL [], dL [], TPs.dp .nil (SqL.of (ke.lst (by rw [hl]; cases hys; rfl) (by simp))), TPs.dp .nil (SqL.of upd_same), by decide, by decide, _, rfl, ?_⟩
    refine iteT ⟨_, rfl, _, rfl, u, v, a, o, rfl, (hu.kp k0A).kp ke, (hv.kp k0A).kp ke, eo, by omega, fun HB kB => ⟨_, rfl, ?_⟩⟩
    rw [hb]
    exact q HB (k0A.trans (ke.trans kB))
  | some w3 =>
    rw [hw] at hrA hp hys
    obtain ⟨pr, rfl, hpr⟩ := id hrA
    refine ⟨_, rfl, rfl, _, rfl, iteF ?_⟩
    refine ⟨_, rfl, _, rfl, n3dat w3, n3dat w3, N3V.dp ⟨p, rfl, hp⟩, N3V.dp ⟨pr, rfl, hpr⟩, n3_shaped w3, n3_shaped w3, _, rfl, ?_⟩
    rw [n3_eqv]
    have ed : (!decide (w3 = w3)) = false := by simp
    rw [ed]
    refine iteF ⟨_, rfl, n, rfl, by omega, h5, fun c xs HB kB nc hc hxs => ?_⟩
    refine ⟨_, rfl, _, rfl, c, rfl, ⟨xs, SqL.of hc⟩, fun D nD => ?_⟩
    have kD : Kp Ts [] HB (upd HB D (.lst [])) := .new nD
    have cD : c ≠ D := ne_of_none hc nD
    have lD : l ≠ D := ne_of_none (kB.lst hl (by simp)) nD
    have lx : xs.length ≤ 42 := by rw [← hxs.len]; exact ev_len n h5
    have k0B := k0A.trans kB
    refine lc_list (xs := xs) (fun i H' => ∃ ws, H' D = some (.lst ws) ∧ ws.length ≤ i ∧ TPs H' (((ev n).take i).filter fun t => below a t && below t o) ws ∧ H' c = some (.lst xs) ∧ TPs H' (ev n) xs ∧ Kp Ts [D] (upd HB D (.lst [])) H')
      ⟨[], upd_same, Nat.le_refl _, .nil, kD.lst hc (by simp), hxs.kp kD, .refl⟩ (fun i H' _ hP => by obtain ⟨_, _, _, _, h, _⟩ := hP; exact SqL.of h) (fun i x H' hxi hP => ?_) (fun H' hP => ?_)
    · obtain ⟨ws, hws, lw, hwt, hc6, hxs6, k6'⟩ := hP
      obtain ⟨t, hti, htx⟩ := hxs6.at hxi
      have htz : t.sz = n := ev_sz (List.mem_of_getElem? hti)
      have li : i < xs.length := (List.getElem?_eq_some_iff.mp hxi).1
      have ft := fil_take (pr := fun t => below a t && below t o) hti
      have kk : Kp Ts [D] HB H' := kD.wid.trans k6'
      refine ⟨rfl, ?_⟩
      refine ⟨_, rfl, _, rfl, u, x, a, t, rfl, (hu.kp k0B).kp kk, htx, by omega, by omega, fun Ha ka => ⟨_, rfl, ?_⟩⟩
      cases hb1 : below a t with
      | false =>
        refine iteF ⟨ws, ka.lst hws (by simp), by omega, ?_, ka.lst hc6 (by simp), hxs6.kp ka, k6'.trans ka.wid⟩
        rw [ft, hb1]
        show TPs Ha (_ ++ []) ws
        rw [List.append_nil]
        exact hwt.kp ka
      | true =>
        refine iteT ⟨_, rfl, _, rfl, x, v, t, o, rfl, htx.kp ka, ((hv.kp k0B).kp kk).kp ka, by omega, by omega, fun Hb kb => ⟨_, rfl, ?_⟩⟩
        have kab := ka.trans kb
        cases hb2 : below t o with
        | false =>
          refine ⟨ws, kab.lst hws (by simp), by omega, ?_, kab.lst hc6 (by simp), hxs6.kp kab, k6'.trans kab.wid⟩
          rw [ft, hb1, hb2]
          show TPs Hb (_ ++ []) ws
          rw [List.append_nil]
          exact hwt.kp kab
        | true =>
          have hws' := kab.lst hws (by simp)
          have kS : Kp Ts [D] Hb (upd Hb D (.lst (ws ++ [x]))) := .set hws' Mu.lst (by simp)
          refine ⟨_, rfl, ws, hws', small1000 (by omega), ws ++ [x], upd_same, by rw [List.length_append, List.length_singleton]; omega, ?_, kS.lst (kab.lst hc6 (by simp)) (by simpa using cD), (hxs6.kp kab).kp kS, (k6'.trans kab.wid).trans kS⟩
          rw [ft, hb1, hb2]
          exact ((hwt.kp kab).kp kS).snoc ((htx.kp kab).kp kS)
    · obtain ⟨ws, hws, lw, hwt, hc6, hxs6, k6'⟩ := hP
      rw [← hxs.len, List.take_length] at hwt
      have kk : Kp Ts [D] HB H' := kD.wid.trans k6'
      have hl' : H' l = some (.lst ys) := kk.lst (kB.lst hl (by simp)) (by simpa using lD)
      have hys' : TPs H' ((ev n).filter fun t => below a t && below t o) ys := (hys.kp kB).kp kk
      have szs : ∀ t ∈ (ev n).filter (fun t => below a t && below t o), t.sz ≤ 40 := fun t m => by
        have := ev_sz (List.mem_filter.mp m).1
        omega
      refine ⟨dL ((ev n).filter fun t => below a t && below t o), dL ((ev n).filter fun t => below a t && below t o), hys'.dp (SqL.of hl'), hwt.dp (SqL.of hws), dL_shaped szs, dL_shaped szs, ?_⟩
      rw [dL_eqv, (eqL_iff _ _).mpr rfl]
      exact q H' (k0B.hide (k0B.ntb (.of nD)) kk)
end
end K43

/-! DI: _law_below. -/
namespace K43
open PySem L2
theorem blk_any {N : List Str} {sc sc' scope : Scope} {own : List (Str × Nat)} (b : BlkOk N sc scope own) (nf : ∀ y ∈ scope.names, y.2 ≠ .free) : BlkOk N sc' scope own := ⟨b.kind, b.uniq, b.ix, fun y hy e => absurd e (nf y hy), b.own⟩
def gtB (xs ys : List Nat) : List Bool := List.zipWith (fun x y => decide (y < x)) xs ys
theorem gtB_all : ∀ xs ys : List Nat, (gtB xs ys).all (fun b => !b) = leAll xs ys
  | [], _ => by cases ‹List Nat› <;> rfl
  | _ :: _, [] => rfl
  | x :: xs, y :: ys => by
    show (!decide (y < x) && (gtB xs ys).all (fun b => !b)) = (decide (x ≤ y) && leAll xs ys)
    rw [gtB_all xs ys]
    by_cases h : x ≤ y
    · have : ¬ y < x := by omega
      simp [h, this]
    · have : y < x := by omega
      simp [h, this]
def lawB (n : Nat) : Nat := ((ev n).map fun t => ((ev n).filter fun s => below t s).length).sum
theorem lawB_cb : ∀ n, n ≤ 4 → lawB n = cbN n := by decide +kernel
theorem ones_lay : ∀ m : Nat, PyData.canLayAll0 (List.replicate m (PyData.int 1)) = true ∧ PyData.depthAll (List.replicate m (PyData.int 1)) ≤ 40
  | 0 => ⟨rfl, Nat.zero_le _⟩
  | m + 1 => by
    obtain ⟨h1, h2⟩ := ones_lay m
    refine ⟨by simp [List.replicate_succ, PyData.canLayAll0, PyData.canLay0, h1], ?_⟩
    simp only [List.replicate_succ, PyData.depthAll, PyData.depth]
    omega
theorem ones_shaped (m : Nat) : SeqAt.shaped (.list (List.replicate m (PyData.int 1))) = true := by
  obtain ⟨h1, h2⟩ := ones_lay m
  exact Bool.and_eq_true_iff.mpr ⟨by simpa [PyData.canLay0] using h1, decide_eq_true (by simp only [PyData.depth]; omega)⟩
theorem ones_eqv (m : Nat) : PyData.eqv (.list (List.replicate m (PyData.int 1))) (.list []) = decide (m = 0) := by
  cases m <;> simp [List.replicate_succ, PyData.eqv, PyData.eqvAll]
theorem ones_dp {K : PySem.W.Frag} {H : Hp} : ∀ m : Nat, DpAll K H (List.replicate m (.int 1)) (List.replicate m (PyData.int 1))
  | 0 => .nil
  | m + 1 => by
    rw [List.replicate_succ, List.replicate_succ]
    exact .cons (.int 1) (ones_dp m)
def rowV (H : Hp) (t : T) (v : V) : Prop := ∃ a, v = .ref a ∧ H a = some (.tup (iv t.rch))
theorem rows_kp {Ts : List (Addr × Str)} {L : List Addr} {H H' : Hp} {ts : List T} {vs : List V} (h : Paired (rowV H) ts vs) (k : Kp Ts L H H') : Paired (rowV H') ts vs := Paired.mapP h fun _ _ z => by
  obtain ⟨a, e, h⟩ := z
  exact ⟨a, e, k.tup _ _ h⟩
section
variable {P : Program} {w : World} {K : PySem.W.Frag} {mg : Str → Option Value} {base : Heap} {Ts : List (Addr × Str)}
def spLB (Ts : List (Addr × Str)) : Sp := fun vs H Q _ => ∃ n : Nat, vs = [.int (n : Nat)] ∧ n ≤ 5 ∧ ∀ H', Kp Ts [] H H' → Q (.int (lawB n : Nat)) H'
theorem ok61 (X : TX K mg) : FnOk P w K mg base CX0 113 X.f61 X.d61 ["_law_forks_here"] (spLB Ts) := by
  have GE := ok56 (P := P) (w := w) (base := base) (Ts := Ts) X 6 (by omega)
  have GR := ok55 (P := P) (w := w) (base := base) (Ts := Ts) X 50 (by omega)
  refine X.D61.F.ok sc61 (fun vs H Q E h => by obtain ⟨n, rfl, _⟩ := h; rfl) (fun cdv A outer s H vs Q E hr h => ?_)
  obtain ⟨n, rfl, h5, q⟩ := h
  have hr1 : Room 110 (A.deeper (PyProof.Rows.envOfC "_law_below" (defScope s61) s.heap.objs.size X.f61 cdv)) := hr.mono (by omega)
  refine ⟨_, pss_cons (ps_setLc (i := 1) (own := [("_law_tree_so", 2)]) (g := gName 2) (tt := tYes) rfl sc61.nd rfl rfl (sw_true rfl rfl rfl (by decide +kernel))
      (pi_list (pe_call GE (hr.mono (by omega)) rfl X.D56.g X.D56.F.kp X.D56.b .nil pass0 (pa_cons (pv 0) pa_nil)))
      (blkOk_by (N := ["_law_forks_here", "_law_rows", "_law_tree_so", "_law_found", "_law_row", "_law_later", "_law_a", "_law_b"]) (sc := defScope s61) (by decide +kernel))
      (fun _ _ _ _ _ => pg_name (i := 2) sc61.nd rfl (Or.inl rfl)) (fun _ _ _ _ _ => pts_nil) (fun _ _ _ _ _ => pe_call GR hr1 rfl X.D55.g X.D55.F.kp X.D55.b .nil pass0 (pa_cons (pv 2) pa_nil)))
    (pss_cons (ps_set (i := 3) sc61.nd rfl (Or.inl rfl) pe_int)
    (pss_cons (ps_for PassesOwn.never rfl (pi_list (pv 1)) (pg_name (i := 4) sc61.nd rfl (Or.inr rfl))
      (pss_one (ps_set (i := 3) sc61.nd rfl (Or.inl rfl) (pe_op op_add (pv 3) (pe_callB call_len_seq rfl X.n_len PySem.boot_len (pa_cons
        (pe_lc (own := [("_law_later", 5)]) (g := gName 5)
          (tt := tTest (tOp (rEqD K) (tLc (RZ.iZipA K (tCons (tVar 4) (tCons (tVar 5) tNil))) (gTup K 2 (gCons (gName 6) (gCons (gName 7) gNil))) (tTest (tOp (rI0 fun i j => .bl (decide (j < i))) (tVar 6) (tVar 7))) (tC (.int 1)) [6, 7]) (tLst tNil)))
          rfl sc61.nd (pi_list (pv 1))
          (blkOk_by (N := ["_law_forks_here", "_law_rows", "_law_tree_so", "_law_found", "_law_row", "_law_later", "_law_a", "_law_b"]) (sc := defScope s61) (by decide +kernel))
          (fun _ _ _ _ _ => pg_name (i := 5) sc61.nd rfl (Or.inl rfl))
          (fun _ _ _ _ _ => pts_one (pt_cmpR (op_eqD hr.units)
            (pe_lc (own := [("_law_a", 6), ("_law_b", 7)]) rfl sc61.nd (RZ.pi_zipA rfl X.n_zip (pa_cons (pv 4) (pa_cons (pv 5) pa_nil)))
              (blk_any (blkOk_by (N := ["_law_forks_here", "_law_rows", "_law_tree_so", "_law_found", "_law_row", "_law_later", "_law_a", "_law_b"]) (sc := defScope s61) (by decide +kernel)) (by decide +kernel))
              (fun _ _ _ _ _ => pg_tup rfl (pgs_cons (pg_name (i := 6) sc61.nd rfl (Or.inl rfl)) (pgs_cons (pg_name (i := 7) sc61.nd rfl (Or.inl rfl)) pgs_nil)))
              (fun _ _ _ _ _ => pts_one (pt_cmpR op_gt (pv 6) (pv 7) (nomark _))) (fun _ _ _ _ _ => pe_int))
            (pe_lst pa_nil) (nomark _)))
          (fun _ _ _ _ _ => pe_int)) pa_nil))))))
    (pss_one (ps_ret (pv 3))))), ?_⟩
  refine ⟨_, rfl, n, rfl, by omega, h5, fun c cs H1 k1 nc hc hcs => ?_⟩
  refine ⟨c, rfl, ⟨cs, SqL.of hc⟩, fun R nR => ?_⟩
  have kR : Kp Ts [] H1 (upd H1 R (.lst [])) := .new nR
  have cR : c ≠ R := ne_of_none hc nR
  have lc : cs.length ≤ 42 := by rw [← hcs.len]; exact ev_len n h5
  have nR0 : NT H R := k1.ntb (.of nR)
  refine lc_list (xs := cs) (fun i H' => ∃ xs, H' R = some (.lst xs) ∧ xs.length = i ∧ Paired (rowV H') ((ev n).take i) xs ∧ H' c = some (.lst cs) ∧ TPs H' (ev n) cs ∧ Kp Ts [R] (upd H1 R (.lst [])) H')
    ⟨[], upd_same, rfl, .nil, kR.lst hc (by simp), hcs.kp kR, .refl⟩ (fun i H' _ hP => by obtain ⟨_, _, _, _, h, _⟩ := hP; exact SqL.of h) (fun i x H' hxi hP => ?_) (fun H2 hP => ?_)
  · obtain ⟨xs, hx, lx, hxs, hc', hcs', k'⟩ := hP
    obtain ⟨t, hti, htx⟩ := hcs'.at hxi
    have htz : t.sz = n := ev_sz (List.mem_of_getElem? hti)
    have li : i < cs.length := (List.getElem?_eq_some_iff.mp hxi).1
    refine ⟨rfl, ?_⟩
    refine ⟨_, rfl, x, t, rfl, htx, by omega, by omega, fun a Ha ka ea => ?_⟩
    have hx' := ka.lst hx (by simp)
    have kS : Kp Ts [R] Ha (upd Ha R (.lst (xs ++ [.ref a]))) := .set hx' Mu.lst (by simp)
    refine ⟨xs, hx', small1000 (by omega), xs ++ [.ref a], upd_same, by rw [List.length_append, lx]; rfl, ?_, kS.lst (ka.lst hc' (by simp)) (by simpa using cR), (hcs'.kp ka).kp kS, (k'.trans ka.wid).trans kS⟩
    rw [List.take_add_one, hti]
    exact paired_snoc (rows_kp (rows_kp hxs ka) kS) ⟨a, rfl, kS.tup _ _ ea⟩
  obtain ⟨xs, hx, lx, hxs, _, hcs2, k2⟩ := hP
  rw [← hcs.len, List.take_length] at hxs
  have k02 : Kp Ts [] H H2 := k1.hide nR0 (kR.wid.trans k2)
  refine ⟨_, rfl, R, rfl, ⟨xs, SqL.of hx⟩, ?_⟩
  refine for_list (xs := xs) (fun i σ' H' => ∃ s2 s4 s5 s6 s7, σ' = [some (.int (n : Nat)), some (.ref R), s2, some (.int ((((ev n).take i).map fun t => ((ev n).filter fun s => below t s).length).sum : Nat)), s4, s5, s6, s7] ∧ Kp Ts [] H H' ∧ H' R = some (.lst xs) ∧ Paired (rowV H') (ev n) xs)
    ⟨_, _, _, _, _, rfl, k02, hx, hxs⟩ (fun i σ' H' _ hP => by obtain ⟨_, _, _, _, _, _, _, h, _⟩ := hP; exact SqL.of h) (fun i x σ' H3 hxi hP => ?_) (fun σ' H3 hP => ?_)
  · obtain ⟨s2, s4, s5, s6, s7, rfl, k3, hx3, hxs3⟩ := hP
    obtain ⟨t, hti, ra, rfl, hra⟩ := paired_at hxs3 hxi
    have htz : t.sz = n := ev_sz (List.mem_of_getElem? hti)
    refine ⟨_, rfl, _, rfl, R, rfl, ⟨xs, SqL.of hx3⟩, fun D nD => ?_⟩
    have kD : Kp Ts [] H3 (upd H3 D (.lst [])) := .new nD
    have RD : R ≠ D := ne_of_none hx3 nD
    have nD0 : NT H D := k3.ntb (.of nD)
    refine lc_list (xs := xs) (fun l H' => H' D = some (.lst (List.replicate (((ev n).take l).filter fun s => below t s).length (.int 1))) ∧ H' R = some (.lst xs) ∧ Paired (rowV H') (ev n) xs ∧ Kp Ts [D] (upd H3 D (.lst [])) H')
      ⟨upd_same, kD.lst hx3 (by simp), rows_kp hxs3 kD, .refl⟩ (fun l H' _ hP => by obtain ⟨_, h, _⟩ := hP; exact SqL.of h) (fun l y H4 hyl hP => ?_) (fun H4 hP => ?_)
    · obtain ⟨hD4, hx4, hxs4, k4⟩ := hP
      obtain ⟨s, hsi, rb, rfl, hrb⟩ := paired_at hxs4 hyl
      have hsz : s.sz = n := ev_sz (List.mem_of_getElem? hsi)
      have ll : l < xs.length := (List.getElem?_eq_some_iff.mp hyl).1
      have lxs : xs.length ≤ 42 := by rw [lx]; exact lc
      have hra4 : H4 ra = some (.tup (iv t.rch)) := k4.tup _ _ (kD.tup _ _ hra)
      refine ⟨rfl, ?_⟩
      refine ⟨_, rfl, _, rfl, ra, rb, _, _, rfl, .inr ⟨SqT.of hra4, SqT.of hrb, fun D2 nD2 => ?_⟩⟩
      have kD2 : Kp Ts [] H4 (upd H4 D2 (.lst [])) := .new nD2
      refine lc_any (n := (gtB t.rch s.rch).length) (fun i H' => ∃ m, H' D2 = some (.lst (List.replicate m (.int 1))) ∧ m ≤ i ∧ decide (m = 0) = ((gtB t.rch s.rch).take i).all (fun b => !b) ∧ Kp Ts [D2] (upd H4 D2 (.lst [])) H') ⟨0, upd_same, Nat.le_refl _, rfl, .refl⟩ (fun i H' hi hP => ?_) (fun H' hP => ?_) (fun i H' x H'' hi hP hy => ?_) (fun H5 hP => ?_)
      · obtain ⟨_, _, _, _, k5⟩ := hP
        have hi' : i < min t.rch.length s.rch.length := by rw [gtB, List.length_zipWith] at hi; exact hi
        have l1 : i < (iv t.rch).length := by rw [iv_len]; omega
        have l2 : i < (iv s.rch).length := by rw [iv_len]; omega
        exact ⟨_, _, _, _, SqT.of (k5.tup _ _ (kD2.tup _ _ hra4)), SqT.of (k5.tup _ _ (kD2.tup _ _ hrb)), List.getElem?_eq_getElem l1, List.getElem?_eq_getElem l2⟩
      · obtain ⟨_, _, _, _, k5⟩ := hP
        refine ⟨_, _, SqT.of (k5.tup _ _ (kD2.tup _ _ hra4)), SqT.of (k5.tup _ _ (kD2.tup _ _ hrb)), ?_⟩
        rw [iv_len, iv_len, gtB, List.length_zipWith]
        omega
      · obtain ⟨m, e3, hmi, hm, k5⟩ := hP
        obtain ⟨tp, x1, y1, rfl, hT, rfl, f1, f2⟩ := hy
        obtain ⟨k, hk, rfl⟩ := iv_get (f1 _ (SqT.of (k5.tup _ _ (kD2.tup _ _ hra4))))
        obtain ⟨j, hj, rfl⟩ := iv_get (f2 _ (SqT.of (k5.tup _ _ (kD2.tup _ _ hrb))))
        refine ⟨tp, _, rfl, SqT.of upd_same, rfl, _, _, rfl, _, _, rfl, rfl, rfl, ?_⟩
        refine ⟨_, rfl, _, rfl, _, _, rfl, rfl, _, rfl, ?_⟩
        have eb : (gtB t.rch s.rch)[i]? = some (decide (j < k)) := by
          rw [gtB, List.getElem?_zipWith, hk, hj]
        have ed : decide ((j : Int) < (k : Int)) = decide (j < k) := decide_eq_decide.mpr (by omega)
        rw [ed]
        have e3' := (upd_ne (ne_of_none e3 hT) (o := HO.tup [.int (k : Nat), .int (j : Nat)])).trans e3
        have step : ((gtB t.rch s.rch).take (i + 1)).all (fun b => !b) = (((gtB t.rch s.rch).take i).all (fun b => !b) && !decide (j < k)) := by
          rw [List.take_add_one, eb, List.all_append]
          simp
        cases hb : decide (j < k) with
        | false =>
          refine ⟨m, e3', by omega, ?_, k5.news hT⟩
          rw [step, hb, hm]
          simp
        | true =>
          refine ⟨_, e3', ?_, m + 1, ?_, by omega, ?_, (k5.news hT).trans (.set e3' Mu.lst (by simp))⟩
          · rw [List.length_replicate]
            have h1 := rch_len t
            have h2 : (gtB t.rch s.rch).length ≤ t.rch.length := by rw [gtB, List.length_zipWith]; omega
            exact small1000 (by omega)
          · rw [upd_same, List.replicate_succ']
          · rw [step, hb]
            simp
      · obtain ⟨m, e3, hmi, hm, k5⟩ := hP
        rw [List.take_length, gtB_all] at hm
        have k45 : Kp Ts [] H4 H5 := (Kp.refl (Ts := Ts) (L := []) (H := H4)).hide (.of nD2) (kD2.wid.trans k5)
        refine ⟨(by show 0 ≤ sizeLine; decide), fun e0 n0 => ?_⟩
        have k6 : Kp Ts [] H5 (upd H5 e0 (.lst [])) := .new n0
        have k46 := k45.trans k6
        refine ⟨.list (List.replicate m (.int 1)), .list [], .lst (SqL.of (k6.lst e3 (by simp))) (ones_dp m), .lst (SqL.of upd_same) .nil, ones_shaped m, ones_shaped 0, _, rfl, ?_⟩
        rw [ones_eqv, hm]
        have ft := fil_take (pr := fun s => below t s) hsi
        have hD6 := k46.lst hD4 (by simp)
        cases hb : leAll t.rch s.rch with
        | false =>
          have hb' : below t s = false := hb
          refine ⟨?_, k46.lst hx4 (by simp), rows_kp hxs4 k46, k4.trans k46.wid⟩
          rw [ft, hb', hD6]
          simp
        | true =>
          have hb' : below t s = true := hb
          have kS := Kp.set (Ts := Ts) (L := [D]) (o := .lst (List.replicate (((ev n).take l).filter fun s => below t s).length (.int 1) ++ [.int 1])) hD6 Mu.lst (by simp)
          refine ⟨_, hD6, ?_, ?_, kS.lst (k46.lst hx4 (by simp)) (by simpa using RD), rows_kp (rows_kp hxs4 k46) kS, (k4.trans k46.wid).trans kS⟩
          · rw [List.length_replicate]
            have h1 := List.length_filter_le (fun s => below t s) ((ev n).take l)
            rw [List.length_take] at h1
            have := ev_len n h5
            exact small1000 (by omega)
          · rw [upd_same, ft, hb', List.length_append, ← List.replicate_succ']
            simp
    · obtain ⟨hD4, hx4, hxs4, k4⟩ := hP
      rw [← hxs3.length, List.take_length] at hD4
      have k34 : Kp Ts [] H H4 := k3.hide nD0 (kD.wid.trans k4)
      refine ⟨D, _, rfl, .inl (SqL.of hD4), _, _, rfl, rfl, ?_⟩
      refine ⟨s2, some (.ref ra), s5, s6, s7, ?_, k34, hx4, hxs4⟩
      rw [List.length_replicate, List.take_add_one, hti, List.map_append, List.sum_append]
      show [_, _, _, some (V.int (((((ev n).take i).map fun t => ((ev n).filter fun s => below t s).length).sum : Int) + ((((ev n).filter fun s => below t s).length : Nat) : Int))), _, _, _, _] = _
      rw [← Int.natCast_add]
      simp
  · obtain ⟨s2, s4, s5, s6, s7, rfl, k3, hx3, hxs3⟩ := hP
    rw [← hxs3.length, List.take_length]
    exact ⟨_, rfl, q H3 k3⟩
end
end K43

/-! TR: try with clauses of both kinds, clause by clause. -/
namespace K43
open PySem L2 PySem.Spec PyProof.Rows
/-- an exception of the body, come down to the clauses -/
structure Caught (X : Cx) (pins : List (Addr × Obj)) (σ : L2.St) (H : Hp) (a : Addr) (cls : Value) (d : Option Addr) (B : Heap) (sI s2 : Shared) : Prop where
  inv : Inv X pins σ H sI
  gr : ∀ b o, sI.heap.get? b = some o → b ∉ frs X.stack → B.get? b = some o
  fl : HandSPX.FlyingZ B (X.env :: X.outer) a (Zc cls d) s2.heap
  up : sI.heap.UpToSlots s2.heap
  na : H a = none
  os : s2.os = sI.os
  ag : AllBare s2.gens
section
variable {X : Cx} {pins : List (Addr × Obj)} {σ : L2.St} {H : Hp} {a : Addr} {cls : Value} {d : Option Addr} {B : Heap} {sI s2 : Shared}
theorem Caught.move (C : Caught X pins σ H a cls d B sI s2) {h4 : Heap} (f : HandSPX.FlyingZ B (X.env :: X.outer) a (Zc cls d) h4) (u : s2.heap.UpToSlots h4) : Caught X pins σ H a cls d B sI { s2 with heap := h4 } :=
  ⟨C.inv, C.gr, f, C.up.trans u, C.na, C.os, C.ag⟩
theorem Caught.view (hf : X.env.frame = some X.env.locals) (C : Caught X pins σ H a cls d B sI s2) :
    ∃ oe, s2.heap.get? a = some oe ∧ Zc cls d oe ∧ (∃ vs, oe.data = .fields vs) ∧ Inv X pins σ H s2 ∧ Inv (X.suite a ((a, oe) :: (X.pn ++ pins))) [] σ H s2 := by
  obtain ⟨oe, vs, he, hz, hd⟩ := C.fl.there
  have J : Inv X pins σ H s2 := C.inv.landed C.gr C.fl.1 C.up C.os C.ag
  have far : a ∉ frs (X.env :: X.outer) := fun z => by
    obtain ⟨_, o1, e1, n1⟩ := C.fl.2.2.1.mem z
    rw [he] at e1
    cases e1
    exact n1 _ hd
  have nl : a ≠ X.env.locals := fun z => far (List.mem_filterMap.mpr ⟨X.env, List.mem_cons_self, hf.trans (by rw [z])⟩)
  have nf : a ∉ X.fs := fun z => by
    obtain ⟨e, m, q⟩ := List.mem_filterMap.mp z
    exact far (List.mem_filterMap.mpr ⟨e, List.mem_cons_of_mem _ m, q⟩)
  exact ⟨oe, he, hz, ⟨vs, hd⟩, J, J.suite he hd C.na nl nf⟩
end
/-- clauses, and what they wish -/
structure PH (X : Cx) (hds : List ExceptHandler) (w : Ends → WX) : Prop where
  run : ∀ pins σ H D a cls d B sI s2, Caught X pins σ H a cls d B sI s2 → w D cls d σ H → wpAny (model X.prog X.w) X.A (handleBy (.ref a) X.env hds) (SP X pins D) X.xe s2
section
variable {X : Cx} {x : Str} {c : Value} {nm : Option Str} {suite : List Stmt} {b₀ : Stmt} {np pos pos' : Pos} {hds : List ExceptHandler} {w : Ends → WX}
theorem ph_never : PH X hds (fun _ _ _ _ _ => False) := ⟨fun _ _ _ _ _ _ _ _ _ _ _ z => z.elim⟩
/-- the look at a clause's class -/
theorem ph_look {pins : List (Addr × Obj)} {σ : L2.St} {H : Hp} {a : Addr} {cls : Value} {d : Option Addr} {B : Heap} {sI s2 : Shared} {b : Bool} {t : Expr} {R : Result → Shared → Prop} (hf : X.env.frame = some X.env.locals) (C : Caught X pins σ H a cls d B sI s2)
    (hc : Names X x c) (hb : PySem.W.exmOne X.K cls c = some b) (h : R (.ok (if b then .brk else .next)) s2) : codeAny (model X.prog X.w) (X.A.mark (some (.ref a))) (.handlers (.ref a) [.ExceptHandler (some (.Name x np)) none [] pos] X.env) R s2 := by
  obtain ⟨oe, he, hz, _, J, S⟩ := C.view hf
  refine codeAny_handlers_test ?_
  have typ : PySem.W.Looks (model X.prog X.w) s2.heap (typeOf (.ref a)) cls := fun A Q E s k q => wpAny_typeOf_ref (k _ _ he) (by rw [hz.1]; exact q)
  have mat := PySem.W.exm_one (M := model X.prog X.w) J.kIn typ hb
  obtain ⟨hg, hn, hm | ⟨hm, hv, hv'⟩⟩ := hc
  · exact ld_glob (X := X.suite a ((a, oe) :: (X.pn ++ pins))) S hg hm (mat.here h) hn
  · exact ld_blt (X := X.suite a ((a, oe) :: (X.pn ++ pins))) S hg hm hv (mat.here h) hv' hn
/-- except x: .., not taken -/
theorem ph_skip (hf : X.env.frame = some X.env.locals) (hc : Names X x c) (r : PH X hds w) : PH X (.ExceptHandler (some (.Name x np)) nm suite pos :: hds) (fun D cls d σ H => PySem.W.exmOne X.K cls c = some false ∧ w D cls d σ H) :=
  ⟨fun pins σ H D a cls d B sI s2 C ⟨hb, q⟩ => wpAny_handleBy_cons (ph_look (t := .Name x np) hf C hc hb (r.run pins σ H D a cls d B sI s2 C q)) (by intro z; cases z)⟩
/-- except x: suite -/
theorem ph_take {ts : Addr → Value → Option Addr → TS} (hf : X.env.frame = some X.env.locals) (hc : Names X x c)
    (hsu : ∀ (a : Addr) (oe : Obj) (cls : Value) (d : Option Addr) (pn : List (Addr × Obj)), Zc cls d oe → (∃ vs, oe.data = .fields vs) → PSs (X.suite a ((a, oe) :: pn)) (b₀ :: suite) (ts a cls d)) (r : PH X hds w) :
    PH X (.ExceptHandler (some (.Name x np)) none (b₀ :: suite) pos :: hds) (fun D cls d σ H => ∃ b, PySem.W.exmOne X.K cls c = some b ∧ if b = true then (∀ a, H a = none → ts a cls d D σ H) else w D cls d σ H) := by
  refine ⟨fun pins σ H D a cls d B sI s2 C hq => ?_⟩
  obtain ⟨b, hb, q⟩ := hq
  refine wpAny_handleBy_cons (ph_look (t := .Name x np) hf C hc hb ?_) (by intro z; cases z)
  cases b with
  | false => exact r.run pins σ H D a cls d B sI s2 C q
  | true =>
    refine codeAny_handlers_suite (HandSPX.lands_againZ C.fl fun h4 f4 u4 => ?_)
    obtain ⟨oe, _, hz, hd, _, S⟩ := (C.move f4 u4).view hf
    refine wpAny_mono ((hsu a oe cls d _ hz hd).run [] _ σ H D S (q a C.na)) (fun f s6 z => ?_) fun _ _ z => z.elim
    match f, z with
    | .next, ⟨σ6, H6, S6, q6⟩ => exact ⟨σ6, H6, S6.unsuite C.inv.ok, q6⟩
    | .brk, ⟨σ6, H6, S6, q6⟩ => exact ⟨σ6, H6, S6.unsuite C.inv.ok, q6⟩
    | .cont, ⟨σ6, H6, S6, q6⟩ => exact ⟨σ6, H6, S6.unsuite C.inv.ok, q6⟩
    | .ret u, ⟨v6, σ6, H6, S6, r6, q6⟩ => exact ⟨v6, σ6, H6, S6.unsuite C.inv.ok, r6, q6⟩
/-- except x as n: suite -/
theorem ph_as {n : Str} {i : Nat} {ts : Addr → Value → Option Addr → TS} (hf : X.env.frame = some X.env.locals) (hN : X.N.Nodup) (hi : X.N[i]? = some n) (hln : X.env.kindOf n = some .local) (hc : Names X x c)
    (hsu : ∀ (a : Addr) (oe : Obj) (cls : Value) (d : Option Addr) (pn : List (Addr × Obj)), Zc cls d oe → (∃ vs, oe.data = .fields vs) → PSs (X.suite a ((a, oe) :: pn)) (b₀ :: suite) (ts a cls d)) :
    PH X (.ExceptHandler (some (.Name x np)) (some n) (b₀ :: suite) pos :: hds) (fun D cls d σ H => PySem.W.exmOne X.K cls c = some true ∧ ∀ a, H a = none → ts a cls d { nx := fun σ' H' => D.nx (σ'.set i none) H', rt := fun _ _ => False } (σ.set i (some (.ref a))) H) := by
  refine ⟨fun pins σ H D a cls d B sI s2 C hq => ?_⟩
  obtain ⟨hb, q⟩ := hq
  refine wpAny_handleBy_cons (ph_look (t := .Name x np) hf C hc hb ?_) (by intro z; cases z)
  refine codeAny_handlers_suite_as (HandSPX.lands_againZ C.fl fun h4 f4 u4 => ?_)
  obtain ⟨oe, _, hz, hd, _, S⟩ := (C.move f4 u4).view hf
  refine store_ok (X := X.suite a ((a, oe) :: (X.pn ++ pins))) (v := .ref a) S hN hi (.inl hln) rfl (fun s5 S5 => ?_) (.inr hln)
  refine wpAny_mono ((hsu a oe cls d _ hz hd).run [] s5 _ H _ S5 (q a C.na)) (fun f s6 z => ?_) fun _ _ z => z.elim
  match f, z with
  | .next, ⟨σ6, H6, S6, q6⟩ => exact gone_ok (S6.unsuite C.inv.ok) hN hi hln fun s7 J7 => ⟨_, _, J7, q6⟩
  | .brk, ⟨_, _, _, z⟩ => exact z.elim
  | .cont, ⟨_, _, _, z⟩ => exact z.elim
  | .ret u, ⟨_, _, _, _, _, z⟩ => exact z.elim
/-- try: body, with these clauses; nothing else is let out -/
theorem ps_tryH {h₀ : ExceptHandler} {body : List Stmt} {tb : WX → TS} (hs : X.stack = X.env :: X.outer) (hf : X.env.frame = some X.env.locals)
    (hb : ∀ (W : WX) (pn : List (Addr × Obj)) (xe : Value → Shared → Prop), Takes (X.tr pn xe) W → PassesOwn (model X.prog X.w) X.A X.env xe → PSs (X.tr pn xe) body (tb W)) (hh : PH X (h₀ :: hds) w) :
    PS X (.Try body (h₀ :: hds) [] [] pos) (fun D σ H => tb (fun cls d σ' H' => σ'.length = X.N.length → w D cls d σ' H') D σ H) := by
  refine ⟨fun pins s σ H D I h => wpAny_Try_except ?_⟩
  have fr : X.A.frames = some (X.env :: X.outer) := I.ok.frames.trans (by rw [hs])
  refine wpAny_mono ((hb (fun cls d σ' H' => σ'.length = X.N.length → w D cls d σ' H') (X.pn ++ pins) (fun e s₁ => wpAny (model X.prog X.w) X.A (noteFrame e X.env) (fun _ s₂ => wpAny (model X.prog X.w) X.A (setFlight e none) (fun _ s₃ => wpAny (model X.prog X.w) X.A (handleBy e X.env (h₀ :: hds)) (SP X pins D) X.xe s₃) X.xe s₂) X.xe s₁)
    (fun u s' z => ?_) PassesOwn.looking).run [] s σ H D (I.toTry _) h) (fun f s1 z => ?_) (fun e s1 z => z)
  · obtain ⟨a, B, sI, pins', σ', H', cls, d, rfl, J', nb, up, sky, na, os, ag, q⟩ := z
    refine Sky.land Zc.steady fr hf (show Sky B (X.env :: X.outer) a (Zc cls d) X.env.locals s'.heap from hs ▸ sky) fun h3 fl3 up3 => ?_
    exact hh.run pins σ' H' D a cls d B sI _ ⟨J'.ofTry I.ok, nb, fl3, up.trans up3, na, os, ag⟩ (q J'.len)
  · match f, z with
    | .next, ⟨σ', H', J', q⟩ => exact wpAny_execs_nil ⟨σ', H', J'.ofTry I.ok, q⟩
    | .brk, ⟨σ', H', J', q⟩ => exact ⟨σ', H', J'.ofTry I.ok, q⟩
    | .cont, ⟨σ', H', J', q⟩ => exact ⟨σ', H', J'.ofTry I.ok, q⟩
    | .ret u, ⟨v, σ', H', J', r, q⟩ => exact ⟨v, σ', H', J'.ofTry I.ok, r, q⟩
end
end K43

/-! DJ: _law_word, and a lambda handed to it. -/
namespace K43
open PySem L2 PySem.Spec PyProof.Rows LamX
/-- what the word is of what was raised -/
def Ew (k4 k5 k6 k12 : Addr) (Q : VK) : XK := fun cls d H => (cls = .ref k6 ∧ Q (.str "tree") H) ∨ (cls = .ref k4 ∧ Q (.str "number") H) ∨ (cls = .ref k5 ∧ Q (.str "unlike") H) ∨
  (cls = .ref k12 ∧ ∃ dd, d = some dd ∧ H dd = some (.xd [("limit", .int 7)]) ∧ Q (.str "many7") H)
def TTw (k4 k5 k6 k12 : Addr) : (XK → Hp → VK → Prop) → Hp → VK → Prop := fun tl H Q => ∀ Q' : VK, (∀ v H', Q (.str "") H' → Q' v H') → tl (Ew k4 k5 k6 k12 Q) H Q'
theorem many7 : (("many" : Str) ++ (toString (7 : Int) : Str)) = ("many7" : Str) := by decide +kernel
section
variable {X : Cx} {q : Str} {cdv : Value}
theorem word_gives (XX : TX X.K X.mg) (fx : XfC X.K XX.k12) (hl : PySem.W.findIn X.K (.ref XX.k12) "limit" = some none) :
    GivesTo X ["_law_call", "_law_found", "e"] "_law_word" (defScope s58) XX.f58 cdv (defBody s58) "_law_call" q (TTw XX.k4 XX.k5 XX.k6 XX.k12) := by
  intro f c' s H Q tl act hc h
  let Z : Cx := (cxOf C8.CX0 X.prog X.w X.K X.mg X.base ["_law_call", "_law_found", "e"] "_law_word" (defScope s58) XX.f58 cdv X.A X.stack s H C8.E0).nox
  refine ⟨_, pss_cons (ps_set (i := 1) sc58.nd rfl (Or.inl rfl) pe_str) (pss_cons (ps_tryH (X := Z)
      (tb := fun W D σ H => ∃ Ech : XK, (∀ cls d σ' H', Ech cls d H' → W cls d σ' H') ∧ σ[0]? = some (some (.ref f)) ∧ H c' = some (CodeO c' q) ∧ tl Ech H (fun _ H' => D.nx σ H'))
      rfl rfl (fun W pn xe tk _ => ?_)
      (ph_take rfl ⟨rfl, by decide, .inl XX.K6.g⟩ (fun a oe cls d pn _ _ => pss_one (ps_set (i := 1) sc58.nd rfl (Or.inl rfl) pe_str))
      (ph_skip rfl ⟨rfl, by decide, .inl XX.g2⟩ (ph_skip rfl ⟨rfl, by decide, .inl XX.g3⟩ (ph_skip rfl ⟨rfl, by decide, .inl XX.g7⟩ (ph_skip rfl ⟨rfl, by decide, .inl XX.g8⟩ (ph_skip rfl ⟨rfl, by decide, .inl XX.g9⟩ (ph_skip rfl ⟨rfl, by decide, .inl XX.g10⟩ (ph_skip rfl ⟨rfl, by decide, .inl XX.g11⟩
      (ph_take rfl ⟨rfl, by decide, .inl XX.K4.g⟩ (fun a oe cls d pn _ _ => pss_one (ps_set (i := 1) sc58.nd rfl (Or.inl rfl) pe_str))
      (ph_take rfl ⟨rfl, by decide, .inl XX.K5.g⟩ (fun a oe cls d pn _ _ => pss_one (ps_set (i := 1) sc58.nd rfl (Or.inl rfl) pe_str))
      (ph_as (i := 2) rfl sc58.nd rfl rfl ⟨rfl, by decide, .inl XX.g12⟩ (fun a oe cls d pn hz hf => pss_one (ps_set (i := 1) sc58.nd rfl (Or.inl rfl) (by exact (pe_op op_add_str pe_str (pe_callTy call_str_int rfl XX.n_str (by decide +kernel) (pa_cons (pe_xf (X := Z) fx hl hz hf (pv 2)) pa_nil))))))))))))))))))
    (pss_one (ps_ret (pv 1)))), ?_⟩
  · refine ⟨fun pins s' σ H' D I h' => ?_⟩
    obtain ⟨Ech, hW, h1, h2, h3⟩ := h'
    exact (pss_one (ps_expr (act W pn xe Ech _ _ tk hW))).run pins s' σ H' D I ⟨h1, h2, h3⟩
  · refine ⟨Ew XX.k4 XX.k5 XX.k6 XX.k12 Q, fun cls d σ' H' he hlen => ?_, rfl, hc, h _ fun v H' hq => ⟨_, rfl, hq⟩⟩
    have l3 : σ'.length = 3 := hlen
    have g1 : ∀ v : V, (σ'.set 1 (some v))[1]? = some (some v) := fun v => List.getElem?_set_self (by omega)
    rcases he with ⟨rfl, hq⟩ | ⟨rfl, hq⟩ | ⟨rfl, hq⟩ | ⟨rfl, dd, rfl, hd, hq⟩
    · exact ⟨true, XX.e6_6, iteT fun a ha => ⟨_, g1 _, hq⟩⟩
    · exact ⟨false, XX.e4_6, iteF ⟨XX.e4_2, XX.e4_3, XX.e4_7, XX.e4_8, XX.e4_9, XX.e4_10, XX.e4_11, true, XX.e4_4, iteT fun a ha => ⟨_, g1 _, hq⟩⟩⟩
    · exact ⟨false, XX.e5_6, iteF ⟨XX.e5_2, XX.e5_3, XX.e5_7, XX.e5_8, XX.e5_9, XX.e5_10, XX.e5_11, false, XX.e5_4, iteF ⟨true, XX.e5_5, iteT fun a ha => ⟨_, g1 _, hq⟩⟩⟩⟩
    · refine ⟨false, XX.e12_6, iteF ⟨XX.e12_2, XX.e12_3, XX.e12_7, XX.e12_8, XX.e12_9, XX.e12_10, XX.e12_11, false, XX.e12_4, iteF ⟨false, XX.e12_5, iteF ⟨XX.e12_12, fun a ha => ?_⟩⟩⟩⟩
      refine ⟨_, List.getElem?_set_self (by omega), rfl, rfl, dd, _, _, rfl, hd, rfl, 7, rfl, by decide, _, _, rfl, rfl, by decide +kernel, ?_⟩
      refine ⟨.str (("many" : Str) ++ (toString (7 : Int) : Str)), ?_, ?_⟩
      · show ((((σ'.set 2 (some (V.ref a))).set 1 (some _)).set 2 none))[1]? = _
        rw [List.getElem?_set_ne (by omega), List.getElem?_set_self (by rw [List.length_set]; omega)]
      · rw [many7]
        exact hq
end
/-- the names of a lambda without names of its own -/
def AllIn (sc : Scope) : List Str → Prop
  | [] => True
  | n :: r => (sc.names.lookup n = some .cell ∨ sc.names.lookup n = some .free) ∧ AllIn sc r
theorem lamS_of {sc scope : Scope} (fr : List Str) (h : (decide (scope.kind = .function) && !scope.isCoroutine && !scope.isGenerator && scope.names.all fun y => !decide (y.2 = .local) && !decide (y.2 = .cell) && (!decide (y.2 = .free) || fr.contains y.1)) = true) (ha : AllIn sc fr) : LamS sc scope := by
  simp only [Bool.and_eq_true, Bool.or_eq_true, Bool.not_eq_true', decide_eq_true_eq, decide_eq_false_iff_not, List.all_eq_true, List.contains_iff_mem] at h
  obtain ⟨⟨⟨h1, h2⟩, h3⟩, h4⟩ := h
  have look : ∀ (l : List Str) (n : Str), AllIn sc l → n ∈ l → sc.names.lookup n = some .cell ∨ sc.names.lookup n = some .free := fun l => by
    induction l with
    | nil => intro n _ z; cases z
    | cons m r ih =>
      intro n z hn
      rcases List.mem_cons.mp hn with rfl | hn
      · exact z.1
      · exact ih n z.2 hn
  refine ⟨h1, h2, h3, fun y hy => (h4 y hy).1, fun y hy e => ?_⟩
  rcases (h4 y hy).2 with z | z
  · exact absurd e z
  · exact look fr y.1 ha z
section
variable {X : Cx} {Ts : List (Addr × Str)}
/-- _law_word(lambda: body) -/
theorem pe_word {K : PySem.W.Frag} {mg : Str → Option Value} {base : Heap} {c P : Addr} {k : Nat} {params : Arguments} {body : Expr} {scope : Scope} {t : XK → TE} {p lpos pos : Pos} (XX : TX K mg) (fx : XfC K XX.k12) (hl : PySem.W.findIn K (.ref XX.k12) "limit" = some none) (hg : Gl X "_law_word")
    (TB : TabB base mg c P) (hcode : X.env.code = .ref c) (hmT : (P, X.env.qual ++ "<lambda>") ∈ Ts) (hu : ∀ p ∈ Ts, p.1 = P → p.2 = X.env.qual ++ "<lambda>") (hr : Room (k + 2) X.A) (L : LamS X.env.scope scope) (hdef : defaultsOf params X.env = ([], []))
    (hbind : ∀ (q : Str) (cl : List (Str × Addr)) (pm cv ctv : Value), bindArgs (PySem.W.kla_fn "<lambda>" q params body scope cl pm cv ctv) ⟨[], []⟩ = pure [])
    (hbody : ∀ (A : Around) (outer : List Env) (s : Shared) (H : Hp) (E : XK) (f c' : Addr), Room k (A.deeper (lamEnv X scope s.heap.objs.size f c')) → PE (lamCx X A outer s H E scope f c') body (t E))
    (eK : X.K = K := by rfl) (em : X.mg = mg := by rfl) (eb : X.base = base := by rfl) :
    PE X (.Call (.Name "_law_word" p) [.Lambda params body scope lpos] [] pos) (tLam Ts (TTw XX.k4 XX.k5 XX.k6 XX.k12) t) := by
  subst eK em eb
  obtain ⟨oc, od, kV, doc, pm, an, cdv, ct, osl, e, lk, hcd⟩ := XX.D58.F.ex
  have hb := XX.D58.b
  rw [e] at lk hb
  exact pe_lamcall hg XX.D58.g XX.D58.F.kp lk hcd hb sc58 rfl (.inl rfl) (word_gives XX fx hl) TB hcode hmT hu hr L hdef hbind hbody
/-- a call of one of several defs that slot i may hold; they keep one promise, and may raise -/
def tCallF (i : Nat) (fs : List Addr) (sp : Sp) (E : XK) (t : L2.TA) : TE := fun σ H Q => ∃ f, σ[i]? = some (some (.ref f)) ∧ f ∈ fs ∧ t σ H fun vs H1 => sp vs H1 Q E
structure HeldX (P : Program) (w : World) (K : PySem.W.Frag) (mg : Str → Option Value) (base : Heap) (k : Nat) (f : Addr) (sp : Sp) : Prop where
  ex : ∃ (fd : FuncData) (ps : List Str), FnOk P w K mg base (L2.CX P w) k f fd ps sp ∧ PySem.W.keepIn K (.ref f) = true ∧ Binds K fd ps []
theorem pe_callF {k i : Nat} {fs : List Addr} {sp : Sp} {E : XK} {x : Str} {p pos : Pos} {e : Expr} {es : List Expr} {t : L2.TA} (A : ∀ f ∈ fs, HeldX X.prog X.w X.K X.mg X.base k f sp) (hr : Room k X.A) (hN : X.N[i]? = some x) (hv : Vis X.env.scope x) (hx : Passes (L2.CX X.prog X.w) X E) (ha : PA X (e :: es) t)
    (hdb : (x == ("__debug__" : Str)) = false := by decide) (hcd : (x == ("__classdict__" : Str)) = false := by decide)
    (he : starEach (e :: es) X.env = (false, eval e X.env) :: starEach es X.env := by rfl) (hpl : (backTo pos (starEach es X.env)).any (·.1) = false := by rfl) : PE X (.Call (.Name x p) (e :: es) [] pos) (tCallF i fs sp E t) := by
  refine ⟨fun pins s σ H Q I h => ?_⟩
  obtain ⟨f, hs, hm, ht⟩ := h
  obtain ⟨fd, ps, F, hk, hb⟩ := (A f hm).ex
  refine (pe_callL (i := i) (f := f) (sp := sp) (dvs := []) (E := E) F hr hN hv hk hb .nil hx ha hdb hcd he hpl).run pins s σ H Q I ⟨hs, ?_⟩
  have e0 : (fun (vs : List V) (H1 : Hp) => sp (vs ++ []) H1 Q E) = fun vs H1 => sp vs H1 Q E := funext fun vs => by rw [List.append_nil]
  show t σ H (fun vs H1 => sp (vs ++ []) H1 Q E)
  rw [e0]
  exact ht
end
section
variable {P : Program} {w : World} {K : PySem.W.Frag} {mg : Str → Option Value} {base : Heap} {Ts : List (Addr × Str)}
/-- of a pair that is refused -/
def spBad (Ts : List (Addr × Str)) (k5 k6 k12 : Addr) : Sp := fun vs H _ E => ∃ u v o p, vs = [u, v] ∧ treeOr H u o ∧ treeOr H v p ∧ LamX.Tabs Ts H ∧ ∀ H', Kp Ts [] H H' → outR Ts k5 k6 k12 (fun _ _ _ => False) E H' o p
theorem outR_imp {k5 k6 k12 : Addr} {G G' : T → T → Hp → Prop} {E : XK} {H : Hp} {o p : Option T} (h : outR Ts k5 k6 k12 G E H o p) (g : ∀ a b H, G a b H → G' a b H) : outR Ts k5 k6 k12 G' E H o p := by
  cases o with
  | none => exact h
  | some a =>
    cases p with
    | none => exact h
    | some b =>
      have h' : if a.sz = b.sz then (if a.sz ≤ 7 then G a b H else manyE Ts k12 7 E H) else E (.ref k5) none H := h
      show if a.sz = b.sz then (if a.sz ≤ 7 then G' a b H else manyE Ts k12 7 E H) else E (.ref k5) none H
      by_cases c : a.sz = b.sz
      · rw [if_pos c] at h' ⊢
        by_cases c2 : a.sz ≤ 7
        · rw [if_pos c2] at h' ⊢
          exact g _ _ _ h'
        · rw [if_neg c2] at h' ⊢
          exact h'
      · rw [if_neg c] at h' ⊢
        exact h'
theorem held4 (X : TX K mg) (Y : TMX K mg X.k12) (F : Fl P) (B : Tb X base Ts) : ∀ f ∈ [X.f42, X.f43, X.f44, X.f45], HeldX P w K mg base 151 f (spBad Ts X.k5 X.k6 X.k12) := by
  intro f hf
  rcases List.mem_cons.mp hf with rfl | hf
  · exact ⟨_, _, (ok42 (P := P) (w := w) (base := base) X Y F B).imp fun vs H Q E ⟨u, v, o, p, e, ho, hp, hT, q⟩ => ⟨u, v, o, p, e, ho, hp, hT, fun H' k => outR_imp (q H' k) fun _ _ _ z => z.elim⟩, X.D42.F.kp, X.D42.b⟩
  rcases List.mem_cons.mp hf with rfl | hf
  · exact ⟨_, _, (ok43 (P := P) (w := w) (base := base) X Y F B).imp fun vs H Q E ⟨u, v, o, p, e, ho, hp, hT, q⟩ => ⟨u, v, o, p, e, ho, hp, hT, fun H' k => outR_imp (q H' k) fun _ _ _ z => z.elim⟩, X.D43.F.kp, X.D43.b⟩
  rcases List.mem_cons.mp hf with rfl | hf
  · exact ⟨_, _, (ok44 (P := P) (w := w) (base := base) X Y F B).imp fun vs H Q E ⟨u, v, o, p, e, ho, hp, hT, q⟩ => ⟨u, v, o, p, e, ho, hp, hT, fun H' k => outR_imp (q H' k) fun _ _ _ z => z.elim⟩, X.D44.F.kp, X.D44.b⟩
  · cases List.mem_singleton.mp hf
    exact ⟨_, _, (ok45 (P := P) (w := w) (base := base) X Y F B).imp fun vs H Q E ⟨u, v, o, p, e, ho, hp, hT, q⟩ => ⟨u, v, o, p, e, ho, hp, hT, fun H' k => outR_imp (q H' k) fun _ _ _ z => z.elim⟩, X.D45.F.kp, X.D45.b⟩
/-- of what is no number -/
def spBadN (k4 : Addr) : Sp := fun vs H _ E => ∃ x, vs = [x] ∧ simpV x = true ∧ wholeV x 0 24 = false ∧ E (.ref k4) none H
theorem held3 (X : TX K mg) : ∀ f ∈ [X.f46, X.f47, X.f48], HeldX P w K mg base 5 f (spBadN X.k4) := by
  intro f hf
  have no : ∀ {x : V} {n : Nat}, wholeV x 0 24 = false → x = .int (n : Nat) → n ≤ 24 → False := fun {x n} h e hn => by
    subst e
    have h' : (decide ((0 : Int) ≤ (n : Int)) && decide ((n : Int) ≤ 24)) = false := h
    have h1 : decide ((0 : Int) ≤ (n : Int)) = true := decide_eq_true (by omega)
    have h2 : decide ((n : Int) ≤ 24) = true := decide_eq_true (by omega)
    rw [h1, h2] at h'
    cases h'
  rcases List.mem_cons.mp hf with rfl | hf
  · exact ⟨_, _, (ok46 (P := P) (w := w) (base := base) X).imp fun vs H Q E ⟨x, e, h1, h2, q⟩ => ⟨x, e, h1, fun n en hn => (no h2 en hn).elim, fun _ => q⟩, X.D46.F.kp, X.D46.b⟩
  rcases List.mem_cons.mp hf with rfl | hf
  · exact ⟨_, _, (ok47 (P := P) (w := w) (base := base) (Ts := []) X).imp fun vs H Q E ⟨x, e, h1, h2, q⟩ => ⟨x, e, h1, fun n en hn => (no h2 en hn).elim, fun _ => q⟩, X.D47.F.kp, X.D47.b⟩
  · cases List.mem_singleton.mp hf
    exact ⟨_, _, (ok48 (P := P) (w := w) (base := base) (Ts := []) X).imp fun vs H Q E ⟨x, e, h1, h2, q⟩ => ⟨x, e, h1, fun n en hn => (no h2 en hn).elim, fun _ => q⟩, X.D48.F.kp, X.D48.b⟩
end
end K43

/-! M5: the law's own finite facts. -/
namespace K43
theorem w44 : wv (comb false 4) (comb true 4) = some (6, 3, 9) := by decide +kernel
theorem w33 : wv (comb true 3) (comb false 3) = none := by decide +kernel
theorem b44 : ((ev 4).filter fun t => below (comb true 4) t && below t (comb false 4)).length = 14 := by decide +kernel
theorem wn : ∀ n, n ≤ 5 → 1 ≤ n → (wv (comb false n) (comb true n)).map (fun w => (w.1, w.2.1)) = some (n * (n - 1) / 2, n - 1) := by decide +kernel
end K43

/-! DK: the law's last statements. -/
namespace K43
open PySem L2
abbrev N62 : List Str := ["_law_script", "_law_drum_here", "_law_forks_here", "_law_one", "_law_other_so", "_law_low", "_law_high", "_law_turn", "_law_some", "_law_small", "_law_much", "_law_ahead", "_law_long", "_law_short", "_law_call_so", "_law_words", "_law_late", "_law_odd", "_law_many"]
abbrev lawX (P : Program) (w : World) {K : PySem.W.Frag} {mg : Str → Option Value} (base : Heap) (X : TX K mg) (A : Around) (outer : List Env) (s : Shared) (H : Hp) (E : XK) : Cx := (cxOf CX0 P w K mg base N62 "law" (defScope s62) X.f62 (.ref X.c62) A outer s H E).nox
def st62 (i : Nat) : Stmt := (defBody s62).getD i (.Pass ⟨0, 0, 0, 0⟩)
theorem recur : ∀ m, m ≤ 23 → cbN (m + 1) * (m + 2) * (3 * m + 3) * (3 * m + 4) * (3 * m + 5) = cbN m * (4 * m + 2) * (4 * m + 3) * (4 * m + 4) * (4 * m + 5) := by decide +kernel
theorem cb6 : cbN 0 = 1 ∧ cbN 1 = 1 ∧ cbN 2 = 3 ∧ cbN 3 = 13 ∧ cbN 4 = 68 ∧ cbN 5 = 399 := by decide +kernel
section
variable {Ts : List (Addr × Str)}
theorem natV {n m : Nat} (e : V.int (n : Nat) = V.int (m : Nat)) : m = n := by injection e with e; omega
theorem useLT {b : Bool} {k4 : Addr} {n : Nat} {H : Hp} {Q : VK} {E : XK} (hn : n ≤ 24) (q : ∀ u H', Kp Ts [] H H' → TA H' (comb b n) u → Q u H') : spLT Ts b k4 [.int (n : Nat)] H Q E :=
  ⟨_, rfl, rfl, fun m e _ u H' k h => q u H' k (by rw [natV e] at h; exact h), fun z => by
    have z' : (decide ((0 : Int) ≤ (n : Int)) && decide ((n : Int) ≤ 24)) = false := z
    rw [decide_eq_true (show (0 : Int) ≤ (n : Int) by omega), decide_eq_true (show (n : Int) ≤ 24 by omega)] at z'
    cases z'⟩
theorem useCB {k4 : Addr} {n : Nat} {H : Hp} {Q : VK} {E : XK} (hn : n ≤ 24) (q : Q (.int (cbN n : Nat)) H) : spCB k4 [.int (n : Nat)] H Q E :=
  ⟨_, rfl, rfl, fun m e _ => by rw [natV e]; exact q, fun z => by
    have z' : (decide ((0 : Int) ≤ (n : Int)) && decide ((n : Int) ≤ 24)) = false := z
    rw [decide_eq_true (show (0 : Int) ≤ (n : Int) by omega), decide_eq_true (show (n : Int) ≤ 24 by omega)] at z'
    cases z'⟩
end
section
variable {P : Program} {w : World} {K : PySem.W.Frag} {mg : Str → Option Value} {base : Heap} {Ts : List (Addr × Str)}
/-- the last two statements -/
theorem law_end (X : TX K mg) (Y : TMX K mg X.k12) (F : Fl P) (B : Tb X base Ts) {A : Around} {outer : List Env} {s : Shared} {H0 : Hp} {E : XK} {Q : VK} (hr : Room 160 (A.deeper (PyProof.Rows.envOfC "law" (defScope s62) s.heap.objs.size X.f62 (.ref X.c62)))) (q : ∀ H', Q (.bl true) H') :
    ∃ t, PSs (lawX P w base X A outer s H0 E) [st62 14, st62 15] t ∧ ∀ (nx : L2.St → Hp → Prop) (σ : L2.St) (H : Hp), σ.length = 19 → LamX.Tabs Ts H → t { nx := nx, rt := Q } σ H := by
  have G42 := ok42 (P := P) (w := w) (base := base) (Ts := Ts) X Y F B
  have G45 := ok45 (P := P) (w := w) (base := base) (Ts := Ts) X Y F B
  have G46 := ok46 (P := P) (w := w) (base := base) X
  have G47 := ok47 (P := P) (w := w) (base := base) (Ts := Ts) X
  have G48 := ok48 (P := P) (w := w) (base := base) (Ts := Ts) X
  have hr5 : Room 5 (A.deeper (PyProof.Rows.envOfC "law" (defScope s62) s.heap.objs.size X.f62 (.ref X.c62))) := hr.mono (by omega)
  refine ⟨_, pss_cons (X := lawX P w base X A outer s H0 E) (ps_if (PW.pt (pw_or (pt_cmpR op_ne (pe_call G45 (hr.mono (by omega)) rfl X.D45.g X.D45.F.kp X.D45.b .nil passL (pa_cons (pe_call G47 hr5 rfl X.D47.g X.D47.F.kp X.D47.b .nil passL (pa_cons pe_int pa_nil))
        (pa_cons (pe_call G48 hr5 rfl X.D48.g X.D48.F.kp X.D48.b .nil passL (pa_cons pe_int pa_nil)) pa_nil))) pe_int (nomark _))
      (pw_or1 (pt_cmpR (op_neD hr.units) (pe_lc (own := [("_law_many", 18)]) (g := gName 18) (tt := tYes) rfl sc62.nd (pi_tup (pe_tup (pa_cons pe_int (pa_cons pe_int (pa_cons pe_int (pa_cons pe_int (pa_cons pe_int (pa_cons pe_int pa_nil))))))))
        (blkOk_by (N := N62) (sc := defScope s62) (by decide +kernel)) (fun _ _ _ _ _ => pg_name (i := 18) sc62.nd rfl (Or.inl rfl)) (fun _ _ _ _ _ => pts_nil)
        (fun _ _ _ _ _ => pe_call G46 hr5 rfl X.D46.g X.D46.F.kp X.D46.b .nil passL (pa_cons (pv 18) pa_nil)))
        (pe_lst (pa_cons pe_int (pa_cons pe_int (pa_cons pe_int (pa_cons pe_int (pa_cons pe_int (pa_cons pe_int pa_nil))))))) (nomark _))))) (pss_one (ps_ret pe_bl)) pss_nil)
    (pss_one (ps_ret (pe_and (pe_cmpR op_eq (pe_call G45 (hr.mono (by omega)) rfl X.D45.g X.D45.F.kp X.D45.b .nil passL (pa_cons (pe_call G48 hr5 rfl X.D48.g X.D48.F.kp X.D48.b .nil passL (pa_cons pe_int pa_nil))
        (pa_cons (pe_call G47 hr5 rfl X.D47.g X.D47.F.kp X.D47.b .nil passL (pa_cons pe_int pa_nil)) pa_nil))) pe_int (nomark _))
      (pe_one (pe_cmpR op_eq (pe_callB call_len_seq rfl X.n_len PySem.boot_len (pa_cons (pe_call G42 (hr.mono (by omega)) rfl X.D42.g X.D42.F.kp X.D42.b .nil passL (pa_cons (pe_call G47 hr5 rfl X.D47.g X.D47.F.kp X.D47.b .nil passL (pa_cons pe_int pa_nil))
        (pa_cons (pe_call G48 hr5 rfl X.D48.g X.D48.F.kp X.D48.b .nil passL (pa_cons pe_int pa_nil)) pa_nil))) pa_nil)) pe_int (nomark _)))))), fun nx σ H hσ hT => ?_⟩
  have l4t := comb_sz true 4
  have l4f := comb_sz false 4
  have l3t := comb_sz true 3
  have l3f := comb_sz false 3
  refine useLT (n := 4) (by omega) fun u1 H1 k1 h1 => useLT (n := 4) (by omega) fun u2 H2 k2 h2 => ?_
  have k12 := k1.trans k2
  refine ⟨u1, u2, some (comb true 4), some (comb false 4), rfl, ⟨h1.kp k2, by omega⟩, ⟨h2, by omega⟩, k12.tab hT, fun H3 k3 => outR_of (by omega) (by omega) (goodG_of (good_of (n := 4) (by omega) (by omega) l4t l4f) fun H4 k4 => ?_)⟩
  rw [w44]
  refine ⟨rfl, _, rfl, iteF ?_⟩
  have k14 := k12.trans (k3.trans k4)
  -- the row of six
  refine ⟨(by show 6 ≤ sizeLine; decide), fun p np => ?_⟩
  have kp : Kp Ts [] H4 (upd H4 p (.tup [.int 0, .int 1, .int 2, .int 3, .int 4, .int 5])) := .new np
  refine ⟨p, rfl, ⟨_, SqT.of upd_same⟩, fun D nD => ?_⟩
  have kD : Kp Ts [] (upd H4 p (.tup [.int 0, .int 1, .int 2, .int 3, .int 4, .int 5])) (upd (upd H4 p (.tup [.int 0, .int 1, .int 2, .int 3, .int 4, .int 5])) D (.lst [])) := .new nD
  refine lc_tup (xs := [.int 0, .int 1, .int 2, .int 3, .int 4, .int 5]) (fun i H' => H' D = some (.lst (iv ((List.range i).map cbN))) ∧ H' p = some (.tup [.int 0, .int 1, .int 2, .int 3, .int 4, .int 5]) ∧ Kp Ts [D] (upd (upd H4 p (.tup [.int 0, .int 1, .int 2, .int 3, .int 4, .int 5])) D (.lst [])) H')
    ⟨upd_same, kD.tup _ _ upd_same, .refl⟩ (fun i H' _ hP => by obtain ⟨_, h, _⟩ := hP; exact SqT.of h) (fun i x H' hxi hP => ?_) (fun H5 hP => ?_)
  · obtain ⟨hD, hp, k5⟩ := hP
    have hi : i < 6 := (List.getElem?_eq_some_iff.mp hxi).1
    have ex : x = .int (i : Nat) := by
      have : i = 0 ∨ i = 1 ∨ i = 2 ∨ i = 3 ∨ i = 4 ∨ i = 5 := by omega
      rcases this with rfl | rfl | rfl | rfl | rfl | rfl <;> (cases hxi; rfl)
    subst ex
    refine ⟨?_, ?_⟩
    · show wipe ((wipe σ [18]).set 18 _) [18] = wipe σ [18]
      show ((σ.set 18 none).set 18 _).set 18 none = σ.set 18 none
      rw [List.set_set, List.set_set]
    have g18 : ((wipe σ [18]).set 18 (some (V.int (i : Nat))))[18]? = some (some (V.int (i : Nat))) := List.getElem?_set_self (by rw [wipe_length]; omega)
    refine ⟨_, g18, ?_⟩
    dsimp only [tNil]
    refine useCB (n := i) (by omega) ?_
    have kS : Kp Ts [D] H' (upd H' D (.lst (iv ((List.range i).map cbN) ++ [.int (cbN i : Nat)]))) := .set hD Mu.lst (by simp)
    refine ⟨_, hD, small1000 (by rw [iv_len, List.length_map, List.length_range]; omega), ?_, kS.tup _ _ hp, k5.trans kS⟩
    rw [upd_same, List.range_succ, List.map_append, List.map_singleton, iv_snoc]
  obtain ⟨hD, hp, k5⟩ := hP
  refine ⟨(by show 6 ≤ sizeLine; decide), fun e ne => ?_⟩
  have ke : Kp Ts [] H5 (upd H5 e (.lst [.int 1, .int 1, .int 3, .int 13, .int 68, .int 399])) := .new ne
  have hD6 := ke.lst hD (by simp)
  have row : iv ((List.range 6).map cbN) = [.int 1, .int 1, .int 3, .int 13, .int 68, .int 399] := by
    obtain ⟨c0, c1, c2, c3, c4, c5⟩ := cb6
    show [V.int (cbN 0 : Nat), V.int (cbN 1 : Nat), V.int (cbN 2 : Nat), V.int (cbN 3 : Nat), V.int (cbN 4 : Nat), V.int (cbN 5 : Nat)] = _
    rw [c0, c1, c2, c3, c4, c5]
    rfl
  have hD7 : (upd H5 e (.lst [.int 1, .int 1, .int 3, .int 13, .int 68, .int 399])) D = some (.lst [.int 1, .int 1, .int 3, .int 13, .int 68, .int 399]) := by rw [← row]; exact hD6
  have dpr : ∀ {H : Hp}, DpAll K H [.int 1, .int 1, .int 3, .int 13, .int 68, .int 399] [.int 1, .int 1, .int 3, .int 13, .int 68, .int 399] := fun {H} => .cons (.int _) (.cons (.int _) (.cons (.int _) (.cons (.int _) (.cons (.int _) (.cons (.int _) .nil)))))
  refine ⟨.list [.int 1, .int 1, .int 3, .int 13, .int 68, .int 399], .list [.int 1, .int 1, .int 3, .int 13, .int 68, .int 399], .lst (SqL.of hD7) dpr, .lst (SqL.of upd_same) dpr, by decide, by decide, _, rfl, ?_⟩
  have kx : LamX.Tabs Ts (upd H5 e (.lst [.int 1, .int 1, .int 3, .int 13, .int 68, .int 399])) := ke.tab (k5.tab (kD.tab (kp.tab (k14.tab hT))))
  refine iteF ?_
  clear hD7 hD6 ke
  generalize upd H5 e (.lst [.int 1, .int 1, .int 3, .int 13, .int 68, .int 399]) = H6 at kx
  refine useLT (n := 3) (by omega) fun u3 H7 k7 h3 => useLT (n := 3) (by omega) fun u4 H8 k8 h4 => ?_
  have k68 := k7.trans k8
  refine ⟨u3, u4, some (comb false 3), some (comb true 3), rfl, ⟨h3.kp k8, by omega⟩, ⟨h4, by omega⟩, k68.tab kx, fun H9 k9 => outR_of (by omega) (by omega) (goodG_of (good_of (n := 3) (by omega) (by omega) l3f l3t) fun Ha ka => ?_)⟩
  rw [w33]
  refine ⟨rfl, _, rfl, iteT ?_⟩
  have k6a := k68.trans (k9.trans ka)
  refine useLT (n := 4) (by omega) fun u5 Hb kb h5 => useLT (n := 4) (by omega) fun u6 Hc kc h6 => ?_
  have k6c := k6a.trans (kb.trans kc)
  refine ⟨u5, u6, some (comb true 4), some (comb false 4), rfl, ⟨h5.kp kc, by omega⟩, ⟨h6, by omega⟩, k6c.tab kx, fun Hd kd => outR_of (by omega) (by omega) (goodB_of (good_of (n := 4) (by omega) (by omega) l4t l4f) fun r ys He ke hr2 hys => ?_)⟩
  rw [w44] at hys
  have ly : ys.length = 14 := by rw [← hys.len]; exact b44
  refine ⟨r, ys, rfl, .inl (SqL.of hr2), rfl, ?_⟩
  rw [ly]
  exact q He
end
end K43

/-! DM: the law's refusals. -/
namespace K43
open PySem L2 LamX
section
variable {P : Program} {w : World} {K : PySem.W.Frag} {mg : Str → Option Value} {base : Heap} {Ts : List (Addr × Str)} {k4 k5 k6 k12 : Addr}
/-- a pair is refused with this word -/
def Says (Ts : List (Addr × Str)) (k4 k5 k6 k12 : Addr) (o p : Option T) (wd : Str) : Prop := ∀ (H : Hp) (Q : VK), (∀ H', Kp Ts [] H H' → Q (.str wd) H') → outR Ts k5 k6 k12 (fun _ _ _ => False) (Ew k4 k5 k6 k12 Q) H o p
theorem says_many {a b : T} (e : a.sz = b.sz) (h : 7 < a.sz) : Says Ts k4 k5 k6 k12 (some a) (some b) "many7" := fun H Q q => by
  show if a.sz = b.sz then (if a.sz ≤ 7 then _ else _) else _
  rw [if_pos e, if_neg (by omega)]
  exact fun d H' k hd => .inr (.inr (.inr ⟨rfl, d, rfl, hd, q H' k⟩))
theorem says_unlike {a b : T} (e : a.sz ≠ b.sz) : Says Ts k4 k5 k6 k12 (some a) (some b) "unlike" := fun H Q q => by
  show if a.sz = b.sz then (if a.sz ≤ 7 then _ else _) else _
  rw [if_neg e]
  exact .inr (.inr (.inl ⟨rfl, q H .refl⟩))
theorem says_tree {a : T} : Says Ts k4 k5 k6 k12 (some a) none "tree" := fun H Q q => .inl ⟨rfl, q H .refl⟩
theorem says_tree0 {p : Option T} : Says Ts k4 k5 k6 k12 none p "tree" := fun H Q q => .inl ⟨rfl, q H .refl⟩
/-- the facts of TooMany's field -/
structure Fx (K : PySem.W.Frag) (k12 : Addr) : Prop where
  x : XfC K k12
  l : PySem.W.findIn K (.ref k12) "limit" = some none
abbrev wds : List Str := ["many7", "unlike", "tree"]
theorem law_bad (X : TX K mg) (Y : TMX K mg X.k12) (F : Fl P) (B : Tb X base Ts) (fx : Fx K X.k12) {A : Around} {outer : List Env} {s : Shared} {H0 : Hp} {E : XK} (hr : Room 160 (A.deeper (PyProof.Rows.envOfC "law" (defScope s62) s.heap.objs.size X.f62 (.ref X.c62)))) :
    ∃ t, PS (lawX P w base X A outer s H0 E) (st62 13) t ∧ ∀ (D : Ends) (p : Addr) (s0 s2 s3 s4 s5 s6 s7 s8 s9 s10 s11 s12 s13 s14 s15 s16 s17 s18 : Option V) (H : Hp), Drum H p → LamX.Tabs Ts H → (∀ σ' H', σ'.length = 19 → LamX.Tabs Ts H' → D.nx σ' H') →
      t D [s0, some (.ref p), s2, s3, s4, s5, s6, s7, s8, s9, s10, s11, s12, s13, s14, s15, s16, s17, s18] H := by
  have GR := ok51 (P := P) (w := w) (base := base) (Ts := Ts) X
  have GG := ok53 (P := P) (w := w) (base := base) (Ts := Ts) X 10 (by omega)
  have H4 := held4 (P := P) (w := w) (base := base) (Ts := Ts) X Y F B
  have H3 := held3 (P := P) (w := w) (base := base) X
  have hr1 : Room 153 (A.deeper (PyProof.Rows.envOfC "law" (defScope s62) s.heap.objs.size X.f62 (.ref X.c62))) := hr.mono (by omega)
  refine ⟨_, ps_if (X := lawX P w base X A outer s H0 E) (pt_cmpR op_eq (pe_call GR (hr.mono (by omega)) rfl X.D51.g X.D51.F.kp X.D51.b .nil pass0 (pa_cons (pv 1) (pa_cons pe_int pa_nil))) pe_int (nomark _))
    (pss_cons (ps_asg (pe_tup (pa_cons (pe_call GG (hr.mono (by omega)) rfl X.D53.g X.D53.F.kp X.D53.b .nil pass0 (pa_cons (pv 1) (pa_cons pe_int pa_nil)))
        (pa_cons (pe_call GG (hr.mono (by omega)) rfl X.D53.g X.D53.F.kp X.D53.b .nil pass0 (pa_cons (pv 1) (pa_cons pe_int pa_nil))) pa_nil)))
      (pg_tup rfl (pgs_cons (pg_name (i := 12) sc62.nd rfl (Or.inr rfl)) (pgs_cons (pg_name (i := 13) sc62.nd rfl (Or.inl rfl)) pgs_nil))))
    (pss_cons (ps_for PassesOwn.never rfl (pi_tup (pe_tup (pa_cons (pe_glob (v := .ref X.f42) rfl X.D42.g rfl) (pa_cons (pe_glob (v := .ref X.f43) rfl X.D43.g rfl) (pa_cons (pe_glob (v := .ref X.f44) rfl X.D44.g rfl) (pa_cons (pe_glob (v := .ref X.f45) rfl X.D45.g rfl) pa_nil))))))
        (pg_name (i := 14) sc62.nd rfl (Or.inr rfl))
      (pss_cons (ps_setLc (i := 15) (own := [("_law_late", 16)]) (g := gName 16) (tt := tYes) rfl sc62.nd rfl rfl (sw_true rfl rfl rfl (by decide +kernel))
          (pi_tup (pe_tup (pa_cons (pv 12) (pa_cons (pv 13) (pa_cons pe_non pa_nil))))) (blkOk_by (N := N62) (sc := defScope s62) (by decide +kernel))
          (fun _ _ _ _ _ => pg_name (i := 16) sc62.nd rfl (Or.inr rfl)) (fun _ _ _ _ _ => pts_nil)
          (fun _ _ _ _ _ => pe_word (Ts := Ts) (k := 151) X fx.x fx.l rfl B.t62 rfl B.m62 B.u62 hr1 (lamS_of ["_law_call_so", "_law_long", "_law_late"] (by decide +kernel) ⟨.inl rfl, .inl rfl, .inl rfl, trivial⟩) rfl (fun _ _ _ _ _ => rfl)
            (fun A' outer' s' H' E' f c' hr' => pe_callF (i := 14) H4 hr' rfl (Or.inr (Or.inr rfl)) (passes_call (takes_of rfl rfl rfl rfl) (fun _ _ _ _ h => h)) (pa_cons (pv 12) (pa_cons (pv 16) pa_nil)))))
      (pss_one (ps_if (PW.pt (pw_or (pt_cmpR (op_neD hr.units) (pv 15) (pe_lst (pa_cons pe_str (pa_cons pe_str (pa_cons pe_str pa_nil)))) (nomark _))
        (pw_or1 (pt_cmpR op_ne (pe_word (Ts := Ts) (k := 151) X fx.x fx.l rfl B.t62 rfl B.m62 B.u62 hr1 (lamS_of ["_law_call_so"] (by decide +kernel) ⟨.inl rfl, trivial⟩) rfl (fun _ _ _ _ _ => rfl)
            (fun A' outer' s' H' E' f c' hr' => pe_callF (i := 14) H4 hr' rfl (Or.inr (Or.inr rfl)) (passes_call (takes_of rfl rfl rfl rfl) (fun _ _ _ _ h => h)) (pa_cons pe_non (pa_cons pe_non pa_nil)))) pe_str (nomark _)))))
        (pss_one (ps_ret pe_bl)) pss_nil))))
    (pss_one (ps_for PassesOwn.never rfl (pi_tup (pe_tup (pa_cons (pe_glob (v := .ref X.f46) rfl X.D46.g rfl) (pa_cons (pe_glob (v := .ref X.f47) rfl X.D47.g rfl) (pa_cons (pe_glob (v := .ref X.f48) rfl X.D48.g rfl) pa_nil)))))
        (pg_name (i := 14) sc62.nd rfl (Or.inr rfl))
      (pss_one (ps_if (pt_cmpR (op_neD hr.units) (pe_lc (own := [("_law_odd", 17)]) (g := gName 17) rfl sc62.nd
          (pi_tup (pe_tup (pa_cons pe_non (pa_cons (pe_un un_neg pe_int) (pa_cons pe_int (pa_cons pe_bl (pa_cons pe_str pa_nil))))))) (blkOk_by (N := N62) (sc := defScope s62) (by decide +kernel))
          (fun _ _ _ _ _ => pg_name (i := 17) sc62.nd rfl (Or.inr rfl))
          (fun _ _ _ _ _ => pts_one (pt_cmpR op_ne (pe_word (Ts := Ts) (k := 5) X fx.x fx.l rfl B.t62 rfl B.m62 B.u62 (hr1.mono (by omega)) (lamS_of ["_law_call_so", "_law_odd"] (by decide +kernel) ⟨.inl rfl, .inl rfl, trivial⟩) rfl (fun _ _ _ _ _ => rfl)
            (fun A' outer' s' H' E' f c' hr' => pe_callF (i := 14) H3 hr' rfl (Or.inr (Or.inr rfl)) (passes_call (takes_of rfl rfl rfl rfl) (fun _ _ _ _ h => h)) (pa_cons (pv 17) pa_nil))) pe_str (nomark _)))
          (fun _ _ _ _ _ => pv 17)) (pe_lst pa_nil) (nomark _)) (pss_one (ps_ret pe_bl)) pss_nil)))))) pss_nil, fun D p s0 s2 s3 s4 s5 s6 s7 s8 s9 s10 s11 s12 s13 s14 s15 s16 s17 s18 H hp hT q => ?_⟩
  refine ⟨_, rfl, p, 5, rfl, hp, by omega, by omega, fun r H1 _ k1 d1 => ⟨rfl, _, rfl, ?_⟩⟩
  have hT1 := k1.tab hT
  by_cases c : r = 0
  case neg =>
    have e : decide (V.int (r : Nat) = V.int 0) = false := decide_eq_false fun z => by injection z with z; omega
    rw [e]
    exact iteF (q _ _ rfl hT1)
  have e : decide (V.int (r : Nat) = V.int 0) = true := decide_eq_true (by rw [c]; rfl)
  refine (if_pos e).mpr ?_
  refine ⟨_, rfl, p, 8, rfl, by omega, by omega, d1, fun u8 t8 H2 k2 d2 h8 z8 => ?_⟩
  refine ⟨_, rfl, p, 7, rfl, by omega, by omega, d2, fun u7 t7 H3 k3 d3 h7 z7 => ?_⟩
  refine ⟨(by show 2 ≤ sizeLine; decide), fun tp ntp => ⟨tp, _, rfl, SqT.of upd_same, rfl, _, _, rfl, _, _, rfl, rfl, ?_⟩⟩
  have k4' : Kp Ts [] H3 (upd H3 tp (.tup [u8, u7])) := .new ntp
  have hT4 := k4'.tab (k3.tab (k2.tab hT1))
  have a8 := (h8.kp k3).kp k4'
  have a7 := h7.kp k4'
  generalize hH4 : upd H3 tp (.tup [u8, u7]) = H4' at k4' hT4 a8 a7
  clear k4' k3 k2 k1 ntp
  -- the four
  refine ⟨(by show 4 ≤ sizeLine; decide), fun fp nfp => ?_⟩
  have kf : Kp Ts [] H4' (upd H4' fp (.tup [.ref X.f42, .ref X.f43, .ref X.f44, .ref X.f45])) := .new nfp
  refine ⟨fp, rfl, ⟨_, SqT.of upd_same⟩, ?_⟩
  refine for_tup (xs := [.ref X.f42, .ref X.f43, .ref X.f44, .ref X.f45]) (fun i σ' H' => ∃ s14 s15 s16, σ' = [s0, some (.ref p), s2, s3, s4, s5, s6, s7, s8, s9, s10, s11, some u8, some u7, s14, s15, s16, s17, s18] ∧ H' fp = some (.tup [.ref X.f42, .ref X.f43, .ref X.f44, .ref X.f45]) ∧ TA H' t8 u8 ∧ TA H' t7 u7 ∧ LamX.Tabs Ts H')
    ⟨s14, s15, s16, rfl, upd_same, a8.kp kf, a7.kp kf, kf.tab hT4⟩ (fun i σ' H' _ hP => by obtain ⟨_, _, _, _, h, _⟩ := hP; exact SqT.of h) (fun i x σ' H5 hxi hP => ?_) (fun σ' H5 hP => ?_)
  · obtain ⟨s14, s15, s16, rfl, hfp, b8, b7, hT5⟩ := hP
    obtain ⟨f, rfl, hm⟩ : ∃ f, x = .ref f ∧ f ∈ [X.f42, X.f43, X.f44, X.f45] := by
      have hx := List.mem_of_getElem? hxi
      rcases List.mem_cons.mp hx with rfl | hx
      · exact ⟨_, rfl, by simp⟩
      rcases List.mem_cons.mp hx with rfl | hx
      · exact ⟨_, rfl, by simp⟩
      rcases List.mem_cons.mp hx with rfl | hx
      · exact ⟨_, rfl, by simp⟩
      · cases List.mem_singleton.mp hx
        exact ⟨_, rfl, by simp⟩
    refine ⟨_, rfl, _, rfl, (by show 3 ≤ sizeLine; decide), fun tq ntq => ?_⟩
    have kq : Kp Ts [] H5 (upd H5 tq (.tup [u8, u7, .non])) := .new ntq
    refine ⟨tq, rfl, ⟨_, SqT.of upd_same⟩, fun L nL => ?_⟩
    have kL : Kp Ts [] (upd H5 tq (.tup [u8, u7, .non])) (upd (upd H5 tq (.tup [u8, u7, .non])) L (.lst [])) := .new nL
    have kqL := kq.trans kL
    refine lc_tup (xs := [u8, u7, .non]) (fun l H' => H' L = some (.lst ((wds.take l).map V.str)) ∧ H' tq = some (.tup [u8, u7, .non]) ∧ H' fp = some (.tup [.ref X.f42, .ref X.f43, .ref X.f44, .ref X.f45]) ∧ TA H' t8 u8 ∧ TA H' t7 u7 ∧ LamX.Tabs Ts H')
      ⟨upd_same, kL.tup _ _ upd_same, kqL.tup _ _ hfp, b8.kp kqL, b7.kp kqL, kqL.tab hT5⟩ (fun l H' _ hP => by obtain ⟨_, h, _⟩ := hP; exact SqT.of h) (fun l x H6 hxl hP => ?_) (fun H6 hP => ?_)
    · obtain ⟨hL, htq, hf6, c8, c7, hT6⟩ := hP
      refine ⟨rfl, hT6, fun H7 eN hT7 Q' hQ' => ?_⟩
      have k67 : Kp Ts [] H6 H7 := .extN eN hT7
      -- the word
      obtain ⟨pp, wd, hpp, hwd, says⟩ : ∃ pp wd, treeOr H7 x pp ∧ wds[l]? = some wd ∧ Says Ts X.k4 X.k5 X.k6 X.k12 (some t8) pp wd := by
        match l, hxl with
        | 0, hxl => cases hxl; exact ⟨some t8, _, ⟨c8.kp k67, by omega⟩, rfl, says_many rfl (by omega)⟩
        | 1, hxl => cases hxl; exact ⟨some t7, _, ⟨c7.kp k67, by omega⟩, rfl, says_unlike (by omega)⟩
        | 2, hxl => cases hxl; exact ⟨none, _, rfl, rfl, says_tree⟩
        | l + 3, hxl => cases hxl
      refine ⟨f, rfl, hm, _, rfl, _, rfl, u8, x, some t8, pp, rfl, ⟨c8.kp k67, by omega⟩, hpp, hT7, fun H8 k8 => says H8 _ fun H9 k9 => ?_⟩
      have k69 := k67.trans (k8.trans k9)
      have hL9 := k69.lst hL (by simp)
      have kS := Kp.set (Ts := Ts) (L := [L]) (o := .lst ((wds.take l).map V.str ++ [.str wd])) hL9 Mu.lst (by simp)
      refine ⟨_, hL9, ?_, ?_, kS.tup _ _ (k69.tup _ _ htq), kS.tup _ _ (k69.tup _ _ hf6), (c8.kp k69).kp kS, (c7.kp k69).kp kS, kS.tab (k69.tab hT6)⟩
      · rw [List.length_map, List.length_take]
        exact small1000 (by show min l 3 ≤ 1000; omega)
      · rw [upd_same, List.take_add_one, hwd, List.map_append]
        rfl
    · obtain ⟨hL, htq, hf6, c8, c7, hT6⟩ := hP
      have hL' : H6 L = some (.lst [.str "many7", .str "unlike", .str "tree"]) := hL
      refine ⟨_, rfl, (by show 3 ≤ sizeLine; decide), fun e ne => ?_⟩
      have ke : Kp Ts [] H6 (upd H6 e (.lst [.str "many7", .str "unlike", .str "tree"])) := .new ne
      refine ⟨.list [.str "many7", .str "unlike", .str "tree"], .list [.str "many7", .str "unlike", .str "tree"], .lst (SqL.of (ke.lst hL' (by simp))) (.cons (.str _) (.cons (.str _) (.cons (.str _) .nil))), .lst (SqL.of upd_same) (.cons (.str _) (.cons (.str _) (.cons (.str _) .nil))), by decide +kernel, by decide +kernel, _, rfl, ?_⟩
      have ew : (!PyData.eqv (.list [.str "many7", .str "unlike", .str "tree"]) (.list [.str "many7", .str "unlike", .str "tree"])) = false := by decide +kernel
      rw [ew]
      refine iteF ⟨ke.tab hT6, fun H7 eN hT7 Q' hQ' => ?_⟩
      have k67 : Kp Ts [] H6 H7 := ke.trans (.extN eN hT7)
      refine ⟨f, rfl, hm, .non, .non, none, none, rfl, rfl, rfl, hT7, fun H8 k8 => says_tree0 H8 _ fun H9 k9 => ?_⟩
      have k69 := k67.trans (k8.trans k9)
      exact ⟨rfl, _, rfl, iteF ⟨_, _, _, rfl, k69.tup _ _ hf6, c8.kp k69, c7.kp k69, k69.tab hT6⟩⟩
  -- the three
  obtain ⟨s14, s15, s16, rfl, _, _, _, hT5⟩ := hP
  refine ⟨(by show 3 ≤ sizeLine; decide), fun gp ngp => ?_⟩
  have kg : Kp Ts [] H5 (upd H5 gp (.tup [.ref X.f46, .ref X.f47, .ref X.f48])) := .new ngp
  refine ⟨gp, rfl, ⟨_, SqT.of upd_same⟩, ?_⟩
  refine for_tup (xs := [.ref X.f46, .ref X.f47, .ref X.f48]) (fun i σ' H' => ∃ s14 s17, σ' = [s0, some (.ref p), s2, s3, s4, s5, s6, s7, s8, s9, s10, s11, some u8, some u7, s14, s15, s16, s17, s18] ∧ H' gp = some (.tup [.ref X.f46, .ref X.f47, .ref X.f48]) ∧ LamX.Tabs Ts H')
    ⟨s14, s17, rfl, upd_same, kg.tab hT5⟩ (fun i σ' H' _ hP => by obtain ⟨_, _, _, h, _⟩ := hP; exact SqT.of h) (fun i x σ' H6 hxi hP => ?_) (fun σ' H6 hP => ?_)
  · obtain ⟨s14, s17, rfl, hgp, hT6⟩ := hP
    obtain ⟨f, rfl, hm⟩ : ∃ f, x = .ref f ∧ f ∈ [X.f46, X.f47, X.f48] := by
      have hx := List.mem_of_getElem? hxi
      rcases List.mem_cons.mp hx with rfl | hx
      · exact ⟨_, rfl, by simp⟩
      rcases List.mem_cons.mp hx with rfl | hx
      · exact ⟨_, rfl, by simp⟩
      · cases List.mem_singleton.mp hx
        exact ⟨_, rfl, by simp⟩
    refine ⟨_, rfl, (by show 5 ≤ sizeLine; decide), fun tq ntq => ?_⟩
    have kq : Kp Ts [] H6 (upd H6 tq (.tup [.non, .int (-1), .int 25, .bl true, .str "3"])) := .new ntq
    refine ⟨tq, rfl, ⟨_, SqT.of upd_same⟩, fun L nL => ?_⟩
    have kL : Kp Ts [] (upd H6 tq (.tup [.non, .int (-1), .int 25, .bl true, .str "3"])) (upd (upd H6 tq (.tup [.non, .int (-1), .int 25, .bl true, .str "3"])) L (.lst [])) := .new nL
    have kqL := kq.trans kL
    refine lc_tup (xs := [.non, .int (-1), .int 25, .bl true, .str "3"]) (fun l H' => H' L = some (.lst []) ∧ H' tq = some (.tup [.non, .int (-1), .int 25, .bl true, .str "3"]) ∧ H' gp = some (.tup [.ref X.f46, .ref X.f47, .ref X.f48]) ∧ LamX.Tabs Ts H')
      ⟨upd_same, kL.tup _ _ upd_same, kqL.tup _ _ hgp, kqL.tab hT6⟩ (fun l H' _ hP => by obtain ⟨_, h, _⟩ := hP; exact SqT.of h) (fun l x H7 hxl hP => ?_) (fun H7 hP => ?_)
    · obtain ⟨hL, htq, hg7, hT7⟩ := hP
      refine ⟨rfl, hT7, fun H8 eN hT8 Q' hQ' => ?_⟩
      have k78 : Kp Ts [] H7 H8 := .extN eN hT8
      have odd : simpV x = true ∧ wholeV x 0 24 = false := by
        match l, hxl with
        | 0, hxl => cases hxl; exact ⟨rfl, rfl⟩
        | 1, hxl => cases hxl; exact ⟨rfl, by decide⟩
        | 2, hxl => cases hxl; exact ⟨rfl, by decide⟩
        | 3, hxl => cases hxl; exact ⟨rfl, rfl⟩
        | 4, hxl => cases hxl; exact ⟨rfl, rfl⟩
        | l + 5, hxl => cases hxl
      exact ⟨f, rfl, hm, _, rfl, x, rfl, odd.1, odd.2, .inr (.inl ⟨rfl, rfl, _, rfl, k78.lst hL (by simp), k78.tup _ _ htq, k78.tup _ _ hg7, k78.tab hT7⟩)⟩
    · obtain ⟨hL, htq, hg7, hT7⟩ := hP
      refine ⟨(by show 0 ≤ sizeLine; decide), fun e ne => ?_⟩
      have ke : Kp Ts [] H7 (upd H7 e (.lst [])) := .new ne
      refine ⟨.list [], .list [], .lst (SqL.of (ke.lst hL (by simp))) .nil, .lst (SqL.of upd_same) .nil, by decide, by decide, _, rfl, ?_⟩
      exact iteF ⟨_, _, rfl, ke.tup _ _ hg7, ke.tab hT7⟩
  · obtain ⟨s14, s17, rfl, _, hT6⟩ := hP
    exact q _ _ rfl hT6
end
end K43

/-! DN: the law. -/
namespace K43
open PySem L2
def upDat (p : Nat × T) : PyData := .tuple [.int (p.1 : Nat), p.2.dat]
theorem ups_lay : ∀ ps : List (Nat × T), (∀ p ∈ ps, p.2.sz ≤ 40) → PyData.canLayAll0 (ps.map upDat) = true ∧ PyData.depthAll (ps.map upDat) ≤ 42
  | [], _ => ⟨rfl, Nat.zero_le _⟩
  | p :: ps, h => by
    obtain ⟨h1, h2⟩ := ups_lay ps fun q m => h q (List.mem_cons_of_mem _ m)
    have h3 := T.dat_depth p.2
    have h4 := h p (List.mem_cons_self ..)
    refine ⟨by simp [PyData.canLayAll0, PyData.canLay0, upDat, T.dat_lay, h1], ?_⟩
    simp only [List.map_cons, PyData.depthAll, upDat, PyData.depth]
    omega
theorem ups_shaped {ps : List (Nat × T)} (h : ∀ p ∈ ps, p.2.sz ≤ 40) : SeqAt.shaped (.list (ps.map upDat)) = true := by
  obtain ⟨h1, h2⟩ := ups_lay ps h
  exact Bool.and_eq_true_iff.mpr ⟨by simpa [PyData.canLay0] using h1, decide_eq_true (by simp only [PyData.depth]; omega)⟩
theorem UPs.dpAll {K : PySem.W.Frag} {H : Hp} {ps : List (Nat × T)} {xs : List V} (h : UPs H ps xs) : DpAll K H xs (ps.map upDat) := by
  induction h with
  | nil => exact .nil
  | cons h _ ih =>
    obtain ⟨a, u, rfl, ha, hu⟩ := h
    exact .cons (.tup (SqT.of ha) (.cons (.int _) (.cons hu.dp .nil))) ih
theorem noWhole {n : Nat} (hn : n ≤ 24) (z : wholeV (.int (n : Nat)) 0 24 = false) : False := by
  have z' : (decide ((0 : Int) ≤ (n : Int)) && decide ((n : Int) ≤ 24)) = false := z
  rw [decide_eq_true (show (0 : Int) ≤ (n : Int) by omega), decide_eq_true (show (n : Int) ≤ 24 by omega)] at z'
  cases z'
section
variable {P : Program} {w : World} {K : PySem.W.Frag} {mg : Str → Option Value} {base : Heap} {Ts : List (Addr × Str)}
def spLaw (K : PySem.W.Frag) (Ts : List (Addr × Str)) : Sp := fun vs H Q _ => ∃ (a : Addr) (ns : List Int), vs = [.ref a] ∧ SqL K H a (ns.map V.int) ∧ ns.length ≤ 63 ∧ LamX.Tabs Ts H ∧ ∀ H', Q (.bl true) H'
theorem ok62 (X : TX K mg) (Y : TMX K mg X.k12) (F : Fl P) (B : Tb X base Ts) (fx : Fx K X.k12) : FnOk P w K mg base CX0 161 X.f62 X.d62 ["_law_script"] (spLaw K Ts) := by
  have GD := ok50 (P := P) (w := w) (base := base) (Ts := Ts) X
  have GR := ok51 (P := P) (w := w) (base := base) (Ts := Ts) X
  have GK := ok52 (P := P) (w := w) (base := base) (Ts := Ts) X
  have GG := ok53 (P := P) (w := w) (base := base) (Ts := Ts) X 10 (by omega)
  have GU := ok57 (P := P) (w := w) (base := base) (Ts := Ts) X 10 (by omega)
  have GP := ok60 (P := P) (w := w) (base := base) (Ts := Ts) X Y F B
  have GB := ok61 (P := P) (w := w) (base := base) (Ts := Ts) X
  have G43 := ok43 (P := P) (w := w) (base := base) (Ts := Ts) X Y F B
  have G44 := ok44 (P := P) (w := w) (base := base) (Ts := Ts) X Y F B
  have G46 := ok46 (P := P) (w := w) (base := base) X
  have G47 := ok47 (P := P) (w := w) (base := base) (Ts := Ts) X
  have G48 := ok48 (P := P) (w := w) (base := base) (Ts := Ts) X
  refine code_ok X.C62 sc62 (fun vs H Q E h => by obtain ⟨a, ns, rfl, _⟩ := h; rfl) (fun A outer s H vs Q E hr h => ?_)
  obtain ⟨a, ns, rfl, ha, hl, hT, q⟩ := h
  obtain ⟨tB, hB, rB⟩ := law_bad (w := w) X Y F B fx (outer := outer) (s := s) (H0 := H) (E := E) hr
  obtain ⟨tE, hE, rE⟩ := law_end (w := w) X Y F B (outer := outer) (s := s) (H0 := H) (E := E) (Q := Q) hr q
  refine ⟨_, pss_cons (X := lawX P w base X A outer s H E) (ps_set (i := 1) sc62.nd rfl (Or.inl rfl) (pe_call GD (hr.mono (by omega)) rfl X.D50.g X.D50.F.kp X.D50.b .nil pass0 (pa_cons (pv 0) (pa_cons pe_int pa_nil))))
    (pss_cons (ps_set (i := 2) sc62.nd rfl (Or.inl rfl) (pe_op op_add pe_int (pe_call GR (hr.mono (by omega)) rfl X.D51.g X.D51.F.kp X.D51.b .nil pass0 (pa_cons (pv 1) (pa_cons pe_int pa_nil)))))
    (pss_cons (ps_set (i := 3) sc62.nd rfl (Or.inl rfl) (pe_call GG (hr.mono (by omega)) rfl X.D53.g X.D53.F.kp X.D53.b .nil pass0 (pa_cons (pv 1) (pa_cons (pv 2) pa_nil))))
    (pss_cons (ps_par3 (i := 4) (j := 5) (l := 6) rfl sc62.nd rfl rfl rfl (by decide) (by decide) (by decide) rfl rfl rfl (pa_cons (pv 3) (pa_cons (pe_tup pa_nil) (pa_cons (pe_tup pa_nil) pa_nil))) (by rfl))
    (pss_cons (ps_for PassesOwn.never rfl (pi_range1 rfl X.n_range (pa_cons (pe_call GR (hr.mono (by omega)) rfl X.D51.g X.D51.F.kp X.D51.b .nil pass0 (pa_cons (pv 1) (pa_cons pe_int pa_nil))) pa_nil)) (pg_name (i := 7) sc62.nd rfl (Or.inl rfl))
      (pss_cons (ps_set (i := 8) sc62.nd rfl (Or.inl rfl) (pe_call GU (hr.mono (by omega)) rfl X.D57.g X.D57.F.kp X.D57.b .nil pass0 (pa_cons (pv 4) (pa_cons pe_int pa_nil))))
      (pss_one (ps_set (i := 4) sc62.nd rfl (Or.inl rfl) (pe_ifExp (pt_cmpR (op_neD hr.units) (pv 8) (pe_lst pa_nil) (nomark _)) (pe_ix ix_tup (pe_call GK (hr.mono (by omega)) rfl X.D52.g X.D52.F.kp X.D52.b .nil pass0 (pa_cons (pv 1) (pa_cons (pv 8) pa_nil))) pe_int (fun _ _ => rfl)) (pv 4))))))
    (pss_cons (ps_for PassesOwn.never rfl (pi_range1 rfl X.n_range (pa_cons (pv 2) pa_nil)) (pg_name (i := 7) sc62.nd rfl (Or.inl rfl))
      (pss_one (ps_par (i := 5) (j := 6) rfl sc62.nd rfl rfl (by decide) rfl rfl (pa_cons (pe_tup (pa_cons (pv 5) (pa_cons (pe_tup pa_nil) pa_nil))) (pa_cons (pe_tup (pa_cons (pe_tup pa_nil) (pa_cons (pv 6) pa_nil))) pa_nil)) (by rfl))))
    (pss_cons (ps_if (PW.pt (pw_or (pt_cmpR (op_neT hr.units) (pe_call G47 (hr.mono (by omega)) rfl X.D47.g X.D47.F.kp X.D47.b .nil passL (pa_cons (pv 2) pa_nil)) (pv 5) (nomark _))
      (pw_or (pt_cmpR (op_neT hr.units) (pe_call G48 (hr.mono (by omega)) rfl X.D48.g X.D48.F.kp X.D48.b .nil passL (pa_cons (pv 2) pa_nil)) (pv 6) (nomark _))
      (pw_or1 (pt_not (pt_val (pe_call GP (hr.mono (by omega)) rfl X.D60.g X.D60.F.kp X.D60.b .nil pass0 (pa_cons (pv 3) (pa_cons (pv 4) (pa_cons (pv 2) pa_nil)))))))))) (pss_one (ps_ret pe_bl)) pss_nil)
    (pss_cons (ps_if (pt_not (pt_val (pe_call GP (hr.mono (by omega)) rfl X.D60.g X.D60.F.kp X.D60.b .nil pass0 (pa_cons (pv 3) (pa_cons (pe_call GG (hr.mono (by omega)) rfl X.D53.g X.D53.F.kp X.D53.b .nil pass0 (pa_cons (pv 1) (pa_cons (pv 2) pa_nil))) (pa_cons (pv 2) pa_nil)))))) (pss_one (ps_ret pe_bl)) pss_nil)
    (pss_cons (ps_if (pt_cmpR (op_neD hr.units) (pe_lst (pa_cons (pe_call G43 (hr.mono (by omega)) rfl X.D43.g X.D43.F.kp X.D43.b .nil passL (pa_cons (pv 5) (pa_cons (pv 6) pa_nil))) (pa_cons (pe_call G44 (hr.mono (by omega)) rfl X.D44.g X.D44.F.kp X.D44.b .nil passL (pa_cons (pv 5) (pa_cons (pv 6) pa_nil))) pa_nil)))
      (pe_lst (pa_cons (pe_op op_fdiv (pe_op op_mul (pv 2) (pe_op op_sub (pv 2) pe_int)) pe_int) (pa_cons (pe_op op_sub (pv 2) pe_int) pa_nil))) (nomark _)) (pss_one (ps_ret pe_bl)) pss_nil)
    (pss_cons (ps_par (i := 9) (j := 10) rfl sc62.nd rfl rfl (by decide) rfl rfl (pa_cons (pe_call GR (hr.mono (by omega)) rfl X.D51.g X.D51.F.kp X.D51.b .nil pass0 (pa_cons (pv 1) (pa_cons pe_int pa_nil))) (pa_cons (pe_call GR (hr.mono (by omega)) rfl X.D51.g X.D51.F.kp X.D51.b .nil pass0 (pa_cons (pv 1) (pa_cons pe_int pa_nil))) pa_nil)) (by rfl))
    (pss_cons (ps_if (pt_cmpR op_ne (pe_call G46 (hr.mono (by omega)) rfl X.D46.g X.D46.F.kp X.D46.b .nil passL (pa_cons (pv 9) pa_nil)) (pe_call GB (hr.mono (by omega)) rfl X.D61.g X.D61.F.kp X.D61.b .nil pass0 (pa_cons (pv 9) pa_nil)) (nomark _)) (pss_one (ps_ret pe_bl)) pss_nil)
    (pss_cons (ps_set (i := 11) sc62.nd rfl (Or.inl rfl) (pe_op op_mul (pe_op op_mul (pe_op op_mul (pe_op op_mul (pe_call G46 (hr.mono (by omega)) rfl X.D46.g X.D46.F.kp X.D46.b .nil passL (pa_cons (pv 10) pa_nil)) (pe_op op_add (pe_op op_mul pe_int (pv 10)) pe_int)) (pe_op op_add (pe_op op_mul pe_int (pv 10)) pe_int)) (pe_op op_add (pe_op op_mul pe_int (pv 10)) pe_int)) (pe_op op_add (pe_op op_mul pe_int (pv 10)) pe_int)))
    (pss_cons (ps_if (pt_cmpR op_ne (pe_op op_mul (pe_op op_mul (pe_op op_mul (pe_op op_mul (pe_call G46 (hr.mono (by omega)) rfl X.D46.g X.D46.F.kp X.D46.b .nil passL (pa_cons (pe_op op_add (pv 10) pe_int) pa_nil)) (pe_op op_add (pv 10) pe_int)) (pe_op op_add (pe_op op_mul pe_int (pv 10)) pe_int)) (pe_op op_add (pe_op op_mul pe_int (pv 10)) pe_int)) (pe_op op_add (pe_op op_mul pe_int (pv 10)) pe_int)) (pv 11) (nomark _)) (pss_one (ps_ret pe_bl)) pss_nil)
    (pss_cons hB hE))))))))))))), ?_⟩
  -- the drum, the forks, the tree
  refine ⟨_, rfl, a, ns, rfl, ha, hl, fun p H1 k1 d1 => ?_⟩
  refine ⟨_, rfl, p, 5, rfl, d1, by omega, by omega, fun r H2 hr5 k2 d2 => ⟨_, _, rfl, rfl, ?_⟩⟩
  have hT2 := k2.tab (k1.tab hT)
  dsimp only
  have en : (1 : Int) + (r : Int) = ((1 + r : Nat) : Int) := by omega
  rw [en]
  have hn1 : 1 ≤ 1 + r := by omega
  have hn5 : 1 + r ≤ 5 := by omega
  clear en
  generalize 1 + r = n at hn1 hn5
  refine ⟨_, rfl, _, rfl, p, n, rfl, by omega, by omega, d2, fun u1 t1 H3 k3 d3 h1 z1 => ?_⟩
  have hT3 := k3.tab hT2
  refine ⟨_, rfl, (by show 0 ≤ sizeLine; decide), fun e1 n1 => ⟨(by show 0 ≤ sizeLine; decide), fun e2 n2 => ⟨_, _, _, rfl, ?_⟩⟩⟩
  have ke : Kp Ts [] H3 (upd (upd H3 e1 (.tup [])) e2 (.tup [])) := (Kp.new n1).news n2
  have l1 : TA (upd (upd H3 e1 (.tup [])) e2 (.tup [])) .l (.ref e1) := (TA.leaf upd_same).upd n2
  have l2 : TA (upd (upd H3 e1 (.tup [])) e2 (.tup [])) .l (.ref e2) := .leaf upd_same
  have h1' := h1.kp ke
  have d3' := d3.kp ke (by simp)
  have hT4 := ke.tab hT3
  -- led up
  refine ⟨_, rfl, p, 6, rfl, d3', by omega, by omega, fun m H5 hm k5 d5 => ?_⟩
  refine ⟨(m : Int), rfl, by omega, by omega, ?_⟩
  refine for_range (n := m) (lo := 0) (fun i σ' H' => ∃ u4 t4 s7 s8, σ' = [some (.ref a), some (.ref p), some (.int (n : Nat)), some u1, some u4, some (.ref e1), some (.ref e2), s7, s8, none, none, none, none, none, none, none, none, none, none] ∧
      TA H' t1 u1 ∧ TA H' t4 u4 ∧ t4.sz = n ∧ TA H' .l (.ref e1) ∧ TA H' .l (.ref e2) ∧ Drum H' p ∧ LamX.Tabs Ts H')
    ⟨u1, t1, none, none, rfl, h1'.kp k5, h1'.kp k5, z1, l1.kp k5, l2.kp k5, d5, k5.tab hT4⟩ (fun i σ' H6 hi hP => ?_) (fun σ' H6 hP => ?_)
  · obtain ⟨u4, t4, s7, s8, rfl, b1, b4, z4, c1, c2, d6, hT6⟩ := hP
    refine ⟨_, rfl, u4, t4, 0, rfl, b4, by omega, by omega, fun c xs H7 k7 nc hc hxs => ?_⟩
    refine ⟨_, rfl, (by show 0 ≤ sizeLine; decide), fun e0 n0 => ?_⟩
    have k8 : Kp Ts [] H7 (upd H7 e0 (.lst [])) := .new n0
    have hszs : ∀ q ∈ t4.ups 0, q.2.sz ≤ 40 := fun q hq => by have := (ups_up t4 0 q hq).1; omega
    refine ⟨.list ((t4.ups 0).map upDat), .list [], .lst (SqL.of (k8.lst hc (by simp))) (hxs.kp k8).dpAll, .lst (SqL.of upd_same) .nil, ups_shaped hszs, by decide, _, rfl, ?_⟩
    have k68 := k7.trans k8
    have lx : xs.length ≤ 5 := by rw [← hxs.len]; have := ups_len t4 0; omega
    have hcp : c ≠ p := fun z => by
      obtain ⟨_, _, hd, _⟩ := d6
      rw [z] at nc
      obtain ⟨ps, e⟩ := nc _ hd
      cases e
    cases hups : t4.ups 0 with
    | nil =>
      exact iteF ⟨_, rfl, u4, t4, _, _, rfl, b1.kp k68, b4.kp k68, z4, c1.kp k68, c2.kp k68, d6.kp k68 (by simp), k68.tab hT6⟩
    | cons q0 qs =>
      have hne : xs ≠ [] := fun e => by
        have := hxs.len
        rw [hups, e] at this
        cases this
      refine iteT ⟨_, rfl, _, rfl, p, c, xs, rfl, d6.kp k68 (by simp), k8.lst hc (by simp), hcp, hne, by omega, fun v H9 hv k9 d9 => ?_⟩
      obtain ⟨j, hj⟩ := List.getElem?_of_mem hv
      obtain ⟨p5, hp5, a5, u5, rfl, ha5, hu5⟩ := ((hxs.kp k8).kp k9).at hj
      have hup := (ups_up t4 0 p5 (List.mem_of_getElem? hp5)).1
      have k69 : Kp Ts [p] H6 H9 := k68.wid.trans k9
      exact ⟨a5, _, 1, u5, rfl, rfl, SqT.of ha5, rfl, u5, p5.2, _, _, rfl, b1.kp k69, hu5, by omega, c1.kp k69, c2.kp k69, d9, k69.tab hT6⟩
  obtain ⟨u4, t4, s7, s8, rfl, b1, b4, z4, c1, c2, d6, hT6⟩ := hP
  -- least and greatest
  refine ⟨_, rfl, (n : Int), rfl, by omega, by omega, ?_⟩
  refine for_range (n := n) (lo := 0) (fun i σ' H' => ∃ v5 v6 s7, σ' = [some (.ref a), some (.ref p), some (.int (n : Nat)), some u1, some u4, some v5, some v6, s7, s8, none, none, none, none, none, none, none, none, none, none] ∧
      TA H' t1 u1 ∧ TA H' t4 u4 ∧ TA H' (comb true i) v5 ∧ TA H' (comb false i) v6 ∧ Drum H' p ∧ LamX.Tabs Ts H')
    ⟨_, _, s7, rfl, b1, b4, c1, c2, d6, hT6⟩ (fun i σ' H7 hi hP => ?_) (fun σ' H7 hP => ?_)
  · obtain ⟨v5, v6, s7, rfl, b1, b4, c1, c2, d7, hT7⟩ := hP
    refine ⟨_, rfl, (by show 0 ≤ sizeLine; decide), fun f1 n1 => ⟨(by show 2 ≤ sizeLine; decide), fun f2 n2 => ?_⟩⟩
    refine ⟨(by show 0 ≤ sizeLine; decide), fun f3 n3 => ⟨_, rfl, (by show 2 ≤ sizeLine; decide), fun f4 n4 => ⟨_, _, rfl, ?_⟩⟩⟩
    have ka : Kp Ts [] H7 (upd H7 f1 (.tup [])) := .new n1
    have kb := ka.news (o := .tup [v5, .ref f1]) n2
    have kc := kb.news (o := .tup []) n3
    have kd := kc.news (o := .tup [.ref f3, v6]) n4
    have g2 : TA (upd (upd H7 f1 (.tup [])) f2 (.tup [v5, .ref f1])) (comb true (i + 1)) (.ref f2) := .new n2 (c1.upd n1) (.leaf upd_same)
    have g4 : TA (upd (upd (upd (upd H7 f1 (.tup [])) f2 (.tup [v5, .ref f1])) f3 (.tup [])) f4 (.tup [.ref f3, v6])) (comb false (i + 1)) (.ref f4) := .new n4 (.leaf upd_same) (c2.kp kc)
    exact ⟨_, _, _, rfl, b1.kp kd, b4.kp kd, (g2.upd n3).upd n4, g4, d7.kp kd (by simp), kd.tab hT7⟩
  obtain ⟨v5, v6, s7, rfl, b1, b4, c1, c2, d7, hT7⟩ := hP
  have y1 : ∀ t : T, (!t.beq t) = false := fun t => by rw [T.beq_iff.mpr rfl]; rfl
  have zt := comb_sz true n
  have zf := comb_sz false n
  refine ⟨_, rfl, _, rfl, rfl, fun i ei _ u H8 k8 h8 => ?_, fun z => (noWhole (by omega) z).elim⟩
  cases natV ei
  refine ⟨_, rfl, _, _, h8, c1.kp k8, by omega, by omega, _, rfl, ?_⟩
  rw [y1]
  refine iteF ⟨_, rfl, _, rfl, rfl, fun i ei _ u H9 k9 h9 => ?_, fun z => (noWhole (by omega) z).elim⟩
  cases natV ei
  have k79 := k8.trans k9
  refine ⟨_, rfl, _, _, h9, c2.kp k79, by omega, by omega, _, rfl, ?_⟩
  rw [y1]
  refine iteF ⟨_, rfl, _, rfl, _, rfl, u1, u4, t1, t4, n, rfl, b1.kp k79, b4.kp k79, z1, z4, hn1, hn5, k79.tab hT7, fun Ha ka => ⟨_, rfl, ?_⟩⟩
  refine iteF ?_
  have k7a := k79.trans ka
  -- the other pair
  refine ⟨_, rfl, _, rfl, _, rfl, p, n, rfl, by omega, by omega, d7.kp k7a (by simp), fun u t Hb kb db hb zb => ?_⟩
  have k7b : Kp Ts [p] H7 Hb := k7a.wid.trans kb
  refine ⟨_, rfl, u1, u, t1, t, n, rfl, b1.kp k7b, hb, z1, zb, hn1, hn5, k7b.tab hT7, fun Hc kc => ⟨_, rfl, iteF ?_⟩⟩
  have k7c : Kp Ts [p] H7 Hc := k7b.trans kc.wid
  have dc := db.kp kc (by simp)
  -- longest and fewest from the least to the greatest
  have hg := good_of hn1 hn5 zt zf
  have hwn := wn n hn5 hn1
  obtain ⟨wc, hwc⟩ : ∃ c, wv (comb false n) (comb true n) = some (n * (n - 1) / 2, n - 1, c) := by
    cases e : wv (comb false n) (comb true n) with
    | none => rw [e] at hwn; cases hwn
    | some w3 =>
      rw [e] at hwn
      obtain ⟨x, y, z⟩ := w3
      have e2 : (x, y) = (n * (n - 1) / 2, n - 1) := Option.some.inj hwn
      cases e2
      exact ⟨z, rfl⟩
  refine ⟨_, rfl, _, rfl, v5, v6, some (comb true n), some (comb false n), rfl, ⟨c1.kp k7c, by omega⟩, ⟨c2.kp k7c, by omega⟩, k7c.tab hT7, fun Hd kd => outR_of (by omega) (by omega) (goodG_of hg fun He ke => ?_)⟩
  have k7e : Kp Ts [p] H7 He := k7c.trans (kd.trans ke).wid
  refine ⟨_, rfl, _, rfl, v5, v6, some (comb true n), some (comb false n), rfl, ⟨c1.kp k7e, by omega⟩, ⟨c2.kp k7e, by omega⟩, k7e.tab hT7, fun Hf kf => outR_of (by omega) (by omega) (goodG_of hg fun Hg kg => ?_)⟩
  rw [hwc]
  refine ⟨(by show 2 ≤ sizeLine; decide), fun q1 nq1 => ?_⟩
  refine ⟨_, rfl, _, rfl, _, _, rfl, rfl, _, _, rfl, rfl, .inl ⟨by omega, by omega⟩, _, _, rfl, rfl, ⟨by decide, by decide⟩, _, rfl, _, _, rfl, rfl, (by show 2 ≤ sizeLine; decide), fun q2 nq2 => ?_⟩
  have kq := (Kp.new (Ts := Ts) (L := []) (o := .lst [.int ((n * (n - 1) / 2 : Nat) : Int), .int ((n - 1 : Nat) : Int)]) nq1).trans (Kp.new (Ts := Ts) (L := []) (o := .lst [.int ((n : Int) * ((n : Int) - 1) / 2), .int ((n : Int) - 1)]) nq2)
  have kch : Kp Ts [] Hc (upd (upd Hg q1 (.lst [.int ((n * (n - 1) / 2 : Nat) : Int), .int ((n - 1 : Nat) : Int)])) q2 (.lst [.int ((n : Int) * ((n : Int) - 1) / 2), .int ((n : Int) - 1)])) := ((kd.trans ke).trans (kf.trans kg)).trans kq
  refine ⟨.list [.int ((n * (n - 1) / 2 : Nat) : Int), .int ((n - 1 : Nat) : Int)], .list [.int ((n : Int) * ((n : Int) - 1) / 2), .int ((n : Int) - 1)], .lst (SqL.of ((Kp.new (Ts := Ts) (L := []) nq2).lst upd_same (by simp))) (.cons (.int _) (.cons (.int _) .nil)), .lst (SqL.of upd_same) (.cons (.int _) (.cons (.int _) .nil)), rfl, rfl, _, rfl, ?_⟩
  have e1 : (n : Int) * ((n : Int) - 1) / 2 = ((n * (n - 1) / 2 : Nat) : Int) := by
    have : n = 1 ∨ n = 2 ∨ n = 3 ∨ n = 4 ∨ n = 5 := by omega
    rcases this with rfl | rfl | rfl | rfl | rfl <;> rfl
  have e2 : (n : Int) - 1 = ((n - 1 : Nat) : Int) := by omega
  have ee : (!PyData.eqv (.list [.int ((n * (n - 1) / 2 : Nat) : Int), .int ((n - 1 : Nat) : Int)]) (.list [.int ((n : Int) * ((n : Int) - 1) / 2), .int ((n : Int) - 1)])) = false := by
    rw [e1, e2]
    simp [PyData.eqv, PyData.eqvAll]
  rw [ee]
  refine iteF ?_
  have dh := dc.kp kch (by simp)
  have hTh := kch.tab (k7c.tab hT7)
  -- the counts
  refine ⟨_, rfl, p, 5, rfl, dh, by omega, by omega, fun x Hi hx ki di => ?_⟩
  refine ⟨_, rfl, p, 24, rfl, di, by omega, by omega, fun y Hj hy kj dj => ⟨_, _, rfl, ?_⟩⟩
  have hTj := kj.tab (ki.tab hTh)
  refine ⟨_, rfl, _, rfl, rfl, fun i ei _ => ?_, fun z => (noWhole (by omega) z).elim⟩
  cases natV ei
  refine ⟨_, rfl, x, rfl, by omega, fun Hk kk => ⟨rfl, _, rfl, ?_⟩⟩
  rw [lawB_cb x (by omega)]
  have ex : (!decide (V.int (cbN x : Nat) = V.int (cbN x : Nat))) = false := by simp
  refine (if_neg (by rw [ex]; exact Bool.false_ne_true)).mpr ?_
  have dk := dj.kp kk (by simp)
  have hTk := kk.tab hTj
  refine ⟨_, rfl, _, rfl, rfl, fun i ei _ => ?_, fun z => (noWhole (by omega) z).elim⟩
  cases natV ei
  refine ⟨_, rfl, _, _, rfl, rfl, .inl ⟨by decide, by decide⟩, _, _, rfl, rfl, _, _, rfl, rfl, .inr ⟨by omega, by omega⟩, ?_⟩
  refine ⟨_, rfl, _, _, rfl, rfl, .inl ⟨by decide, by decide⟩, _, _, rfl, rfl, _, _, rfl, rfl, .inr ⟨by omega, by omega⟩, ?_⟩
  refine ⟨_, rfl, _, _, rfl, rfl, .inl ⟨by decide, by decide⟩, _, _, rfl, rfl, _, _, rfl, rfl, .inr ⟨by omega, by omega⟩, ?_⟩
  refine ⟨_, rfl, _, _, rfl, rfl, .inl ⟨by decide, by decide⟩, _, _, rfl, rfl, _, _, rfl, rfl, .inr ⟨by omega, by omega⟩, ?_⟩
  refine ⟨_, rfl, _, _, rfl, rfl, .int ((y + 1 : Nat) : Int), ?_, rfl, fun i ei hi => ?_, fun z => ?_⟩
  · show [V.int ((y : Int) + 1)] = [V.int ((y + 1 : Nat) : Int)]
    rw [Int.natCast_add]
    rfl
  · cases natV ei
    refine ⟨_, rfl, _, _, rfl, rfl, _, _, rfl, rfl, .inr ⟨by omega, by omega⟩, ?_⟩
    refine ⟨_, rfl, _, _, rfl, rfl, .inl ⟨by decide, by decide⟩, _, _, rfl, rfl, _, _, rfl, rfl, .inr ⟨by omega, by omega⟩, ?_⟩
    refine ⟨_, rfl, _, _, rfl, rfl, .inl ⟨by decide, by decide⟩, _, _, rfl, rfl, _, _, rfl, rfl, .inr ⟨by omega, by omega⟩, ?_⟩
    refine ⟨_, rfl, _, _, rfl, rfl, .inl ⟨by decide, by decide⟩, _, _, rfl, rfl, _, _, rfl, rfl, .inr ⟨by omega, by omega⟩, ?_⟩
    refine ⟨_, rfl, rfl, _, rfl, ?_⟩
    have rc : (cbN (y + 1) : Int) * ((y : Int) + 2) * (3 * (y : Int) + 3) * (3 * (y : Int) + 4) * (3 * (y : Int) + 5) = (cbN y : Int) * (4 * (y : Int) + 2) * (4 * (y : Int) + 3) * (4 * (y : Int) + 4) * (4 * (y : Int) + 5) := by
      have := congrArg (fun z : Nat => (z : Int)) (recur y (by omega))
      simpa [Int.natCast_add, Int.natCast_mul] using this
    have ey : (!decide (V.int ((cbN (y + 1) : Int) * ((y : Int) + 2) * (3 * (y : Int) + 3) * (3 * (y : Int) + 4) * (3 * (y : Int) + 5)) = V.int ((cbN y : Int) * (4 * (y : Int) + 2) * (4 * (y : Int) + 3) * (4 * (y : Int) + 4) * (4 * (y : Int) + 5)))) = false := by
      rw [rc]; simp
    refine (if_neg (by rw [ey]; exact Bool.false_ne_true)).mpr ?_
    exact rB _ p _ _ _ _ _ _ _ _ _ _ _ _ _ _ _ _ _ _ _ dk hTk fun σ' H' l t => rE _ σ' H' l t
  · exact (noWhole (n := y + 1) (by omega) z).elim
end
end K43
set_option maxHeartbeats 0

/-! HA: the head: what is looked at, the run. -/
namespace K43
open PySem PySem.Spec PyProof.Rows L2
def dD (x : Str) (st : Stmt) : He.DefD := ⟨(x, none), x, x, defArgs st, defBody st, defScope st, [], []⟩
def fnL0 : List He.DefD := [dD "is_whole" s14, dD "need_number" s15, dD "need_few" s16, dD "tree_size" s19, dD "fits_tree" s20, dD "fork_count" s21, dD "reaches_of" s22, dD "need_tree" s23, dD "need_pair" s24, dD "catalan" s26, dD "number_by" s28, dD "can_turn" s30, dD "turned_once" s31, dD "lies_below" s32, dD "is_below" s33, dD "ranks_between" s36, dD "passed_by" s37, dD "depth_sum" s38, dD "need_few_forks" s39, dD "comb_tree" s40, dD "factorial" s41, dD "trees_between" s42, dD "longest_up" s43, dD "fewest_up" s44, dD "count_ways" s45, dD "count_below" s46, dD "least_tree" s47, dD "greatest_tree" s48, dD "_law_drum" s50, dD "_law_roll" s51]
def fnL1 : List He.DefD := [dD "_law_pick" s52, dD "_law_grown" s53, dD "_law_forks" s54, dD "_law_reached" s55, dD "_law_every" s56, dD "_law_ups" s57, dD "_law_word" s58, dD "_law_ways" s59, dD "_law_pair_right" s60, dD "_law_below" s61, dD "law" s62]
def fnL : List He.DefD := fnL0 ++ fnL1
def faL0 : List He.Fa := [.glo "is_whole", .glo "need_number", .glo "need_few", .glo "tree_size", .glo "fits_tree", .glo "fork_count", .glo "reaches_of", .glo "need_tree", .glo "need_pair", .glo "catalan", .glo "number_by", .glo "can_turn", .glo "turned_once", .glo "lies_below", .glo "is_below", .glo "ranks_between", .glo "passed_by", .glo "depth_sum", .glo "need_few_forks", .glo "comb_tree", .glo "factorial", .glo "trees_between", .glo "longest_up", .glo "fewest_up", .glo "count_ways", .glo "count_below", .glo "least_tree", .glo "greatest_tree", .glo "_law_drum", .glo "_law_roll"]
def faL1 : List He.Fa := [.glo "_law_pick", .glo "_law_grown", .glo "_law_forks", .glo "_law_reached", .glo "_law_every", .glo "_law_ups", .glo "_law_word", .glo "_law_ways", .glo "_law_pair_right", .glo "_law_below", .glo "law", .free "len", .free "isinstance", .free "int", .free "bool", .free "tuple", .free "range", .free "sum", .free "all", .free "zip", .free "sorted", .free "list", .free "max", .free "min", .free "abs", .free "str", .free "super", .int "MOST_FORKS" 24, .int "FEW_FORKS" 7, .glo "WorldError"]
def faL2 : List He.Fa := [.glo "InvalidCutting", .glo "InvalidCut", .exc "InvalidNumber", .glo "InvalidNumber", .exc "Unlike", .glo "Unlike", .exc "InvalidTree", .glo "InvalidTree", .glo "InvalidFork", .glo "InvalidReaches", .glo "InvalidMountain", .glo "InvalidHeights", .glo "InvalidVotes", .glo "TooMany", .exm "InvalidNumber" "InvalidTree" false, .exm "InvalidNumber" "InvalidCutting" false, .exm "InvalidNumber" "InvalidCut" false, .exm "InvalidNumber" "InvalidFork" false, .exm "InvalidNumber" "InvalidReaches" false, .exm "InvalidNumber" "InvalidMountain" false, .exm "InvalidNumber" "InvalidHeights" false, .exm "InvalidNumber" "InvalidVotes" false, .exm "InvalidNumber" "InvalidNumber" true, .exm "Unlike" "InvalidTree" false, .exm "Unlike" "InvalidCutting" false, .exm "Unlike" "InvalidCut" false, .exm "Unlike" "InvalidFork" false, .exm "Unlike" "InvalidReaches" false, .exm "Unlike" "InvalidMountain" false, .exm "Unlike" "InvalidHeights" false]
def faL3 : List He.Fa := [.exm "Unlike" "InvalidVotes" false, .exm "Unlike" "InvalidNumber" false, .exm "Unlike" "Unlike" true, .exm "InvalidTree" "InvalidTree" true, .exm "TooMany" "InvalidTree" false, .exm "TooMany" "InvalidCutting" false, .exm "TooMany" "InvalidCut" false, .exm "TooMany" "InvalidFork" false, .exm "TooMany" "InvalidReaches" false, .exm "TooMany" "InvalidMountain" false, .exm "TooMany" "InvalidHeights" false, .exm "TooMany" "InvalidVotes" false, .exm "TooMany" "InvalidNumber" false, .exm "TooMany" "Unlike" false, .exm "TooMany" "TooMany" true]
def faL : List He.Fa := faL0 ++ faL1 ++ faL2 ++ faL3
def tfL : List He.Defn := [("passed_by", none), ("trees_between", none), ("law", none)]
def loL0 : List PySem.Str := ["__name__", "WorldError", "InvalidCutting", "InvalidCut", "InvalidNumber", "Unlike", "InvalidTree", "InvalidFork", "InvalidReaches", "InvalidMountain", "InvalidHeights", "InvalidVotes", "TooMany", "MOST_FORKS", "FEW_FORKS", "is_whole", "need_number", "need_few", "tree_size", "fits_tree", "fork_count", "reaches_of", "need_tree", "need_pair", "catalan", "number_by", "can_turn", "turned_once", "lies_below", "is_below"]
def loL1 : List PySem.Str := ["ranks_between", "passed_by", "depth_sum", "need_few_forks", "comb_tree", "factorial", "trees_between", "longest_up", "fewest_up", "count_ways", "count_below", "least_tree", "greatest_tree", "_law_drum", "_law_roll", "_law_pick", "_law_grown", "_law_forks", "_law_reached", "_law_every", "_law_ups", "_law_word", "_law_ways", "_law_pair_right", "_law_below"]
def loL : List PySem.Str := loL0 ++ loL1
/-! ### TooMany -/
def tC (K : PySem.W.Frag) : Addr := He.ga K "TooMany"
def tI (K : PySem.W.Frag) : Addr := He.ma K (tC K) "__init__"
/-- the data of the __init__ -/
def dI (K : PySem.W.Frag) : Option FuncData := match K.lookup (tI K) with
  | some ⟨_, _, .func fd, _⟩ => some fd
  | _ => none
abbrev FnI : Type := Option (Str × Str × Arguments × FuncBody × Scope × Addr × List Str × Addr)
def fnI (K : PySem.W.Frag) : FnI := (dI K).map fun fd => (fd.name, fd.qualname, fd.params, fd.body, fd.scope, fd.globals, fd.closure.map (·.1), fd.builtins)
def vaI : FnI := some ("__init__", "TooMany.__init__", defArgs sI, .stmts (defBody sI), defScope sI, mainGlobals, ["__class__"], builtinsNs)
def ccI (K : PySem.W.Frag) : Addr := match dI K with
  | some fd => (match fd.closure with
    | [(_, c)] => c
    | _ => 0)
  | none => 0
def cdI (K : PySem.W.Frag) : Addr := match dI K with
  | some fd => (match fd.code with
    | .ref c => c
    | _ => 0)
  | none => 0
def clB (K : PySem.W.Frag) (C : Addr) : Bool := match K.lookup C with
  | some ⟨.type t, _, .cls cd, sl⟩ => decide (t = "type") && (cd.hasDict && (!cd.hasDel && (match cd.mro, sl.toList with
    | .ref D :: bm, [_, _, _, _, some (.builtin n), _] => decide (D = C) && (decide (n = "ValueError.__new__") && PySem.HandSPX.refsVE bm)
    | _, _ => false)))
  | _ => false
def fdB (K : PySem.W.Frag) : Bool := match dI K with
  | some fd => PySem.W.codeIn K fd.code "TooMany.__init__" && He.dflB K fd.defaults []
  | none => false
def coB (K : PySem.W.Frag) : Bool := match K.lookup (cdI K) with
  | some ⟨_, _, .fields vs, _⟩ => (match (vs[2]? : Option Value) with
    | some (.str f _) => decide (f = ("/claim/cut.py" : Str))
    | _ => false)
  | _ => false
def ceB (K : PySem.W.Frag) : Bool := match K.lookup (ccI K) with
  | some ⟨_, _, .cell (some (.ref D)), _⟩ => decide (D = tC K)
  | _ => false
def exL (K : PySem.W.Frag) : List Bool := [clB K (tC K), fdB K, coB K, ceB K, He.eqO (PySem.W.findIn K (.ref (tC K)) "__setattr__") (some (some (.builtin "object.__setattr__"))), decide (PySem.W.subIn K (.ref (tC K)) (.type "BaseException") = some true),
  decide (PySem.W.typeIn K (.ref (tC K)) = some (.type "type")), PySem.W.keepIn K (.ref (tC K)), He.eqO (PySem.W.findIn K (.ref (tC K)) "__init__") (some (some (.ref (tI K)))), decide (PySem.W.typeIn K (.ref (tI K)) = some (.type "function")),
  He.eqO (PySem.W.findIn K (.ref (tC K)) "limit") (some none), He.eqO (PySem.W.ks_superIn K (tC K) (tC K) "__init__") (some (some (.builtin "ValueError.__init__"))), decide (PySem.W.mroIn K (tC K) (.ref (tC K)) = some true),
  decide (PySem.W.subIn K (.ref (tC K)) (.type "ValueError") = some true), He.eqO (PySem.W.nsIn K PySem.cStatics "thirdparty.any") (some none), xfB K (tC K),
  !((He.cT K ("passed_by", none)).2 == (He.cT K ("trees_between", none)).2), !((He.cT K ("passed_by", none)).2 == (He.cT K ("law", none)).2), !((He.cT K ("trees_between", none)).2 == (He.cT K ("law", none)).2)]
def exA (K : PySem.W.Frag) : Bool := (exL K).all id
/-! ### the Hook -/
/-- what is looked at: what the module's names reach, and the model's own store -/
def asK (g : Addr → Option Obj) : List Addr := PySem.cStatics :: He.asD g 5
structure SaysK (h : Heap) (K : PySem.W.Frag) : Prop where
  d : He.SaysD faL fnL K
  i : fnI K = vaI
  ex : exA K = true
  hd : ∀ p ∈ tfL, PySem.W.codeHdIn K (He.cT K p).1 (He.cT K p).2 = true
  out : ∀ p ∈ tfL, K.lookup (He.cT K p).2 = none
  empty : ∀ p ∈ tfL, h.get? (He.cT K p).2 = some { cls := .none, data := .fields #[] }
abbrev AlK : Type := He.AlD × FnI × Bool
def obK (g : Addr → Option Obj) (K : PySem.W.Frag) : AlK := (He.obsD faL fnL K, fnI K, exA K && He.tabsB g tfL K)
def obG (g : Addr → Option Obj) : AlK := obK g (He.frT g (asK g))
def vaK : AlK := (He.valD fnL, vaI, true)
theorem says_of {h : Heap} (e : obG h.get? = vaK) : SaysK h (He.frT h.get? (asK h.get?)) := by
  have e1 : He.obsD faL fnL (He.frT h.get? (asK h.get?)) = He.valD fnL := congrArg (fun z : AlK => z.1) e
  have e2 : fnI (He.frT h.get? (asK h.get?)) = vaI := congrArg (fun z : AlK => z.2.1) e
  have e3 : (exA (He.frT h.get? (asK h.get?)) && He.tabsB h.get? tfL (He.frT h.get? (asK h.get?))) = true := congrArg (fun z : AlK => z.2.2) e
  obtain ⟨h1, h2⟩ := He.ba e3
  have each : ∀ p ∈ tfL, PySem.W.codeHdIn (He.frT h.get? (asK h.get?)) (He.cT (He.frT h.get? (asK h.get?)) p).1 (He.cT (He.frT h.get? (asK h.get?)) p).2 = true ∧ ∃ o, h.get? (He.cT (He.frT h.get? (asK h.get?)) p).2 = some o ∧ He.emptyTab o = true := fun p hp => by
    obtain ⟨g1, g2⟩ := He.ba (List.all_eq_true.mp h2 p hp)
    refine ⟨g1, ?_⟩
    cases z : h.get? (He.cT (He.frT h.get? (asK h.get?)) p).2 with
    | none => rw [z] at g2; cases g2
    | some o => rw [z] at g2; exact ⟨o, rfl, g2⟩
  refine ⟨e1, e2, h1, fun p hp => (each p hp).1, fun p hp => ?_, fun p hp => ?_⟩
  · obtain ⟨_, o, z, t⟩ := each p hp
    exact He.frT_none z t
  · obtain ⟨_, o, z, t⟩ := each p hp
    rw [z, He.emptyTab_eq t]
def hkK : PySem.W.Hook where
  α := AlK
  obs := fun s => obG s.heap.get?
  val := fun _ => vaK
  says := fun _ h => ∃ K : PySem.W.Frag, K.In h ∧ SaysK h K
  of := fun _ _ e => ⟨_, He.frT_in, says_of e⟩
  keeps := fun _ _ _ ⟨K, hK, c⟩ k => ⟨K, PySem.W.Frag.In.keeps hK k, ⟨c.d, c.i, c.ex, c.hd, c.out, fun p hp => k _ _ (c.empty p hp)⟩⟩
abbrev RR : PySem.W.OpenRow := PySem.W.OpenLaw.row PySem.Challenge.rw_eightworlds_k43_whole_chains_between_tre
def obS (s : PySem.W.SharedT) : AlK := obG (HandSHeadRun.getT s)
theorem obS_eq (s : PySem.W.SharedT) : obS s = hkK.obs s.abs := by
  have e : HandSHeadRun.getT s = s.abs.heap.get? := funext (HandSHeadRun.getT_eq s)
  unfold obS
  rw [e]
  rfl
theorem run (w : World) : HandSHeadRun.RunEq RR (PySem.W.view RR.prog [62]) hkK obS 4000 loL w := by
  intro os
  kernel_rfl
end K43
set_option maxHeartbeats 4000000

/-! HB: the facts of the text, off the head. -/
namespace K43
open PySem PySem.Spec PyProof.Rows L2
section
variable {K : PySem.W.Frag} {h : Heap} {mg : Str → Option Value}
theorem fun_of {x : Str} {st : Stmt} {f : Addr} {fd : FuncData} (F : FunD K x x (defArgs st) (defBody st) (defScope st) [] [] f fd) : Fun K x x st f fd := by
  obtain ⟨oc, od, dV, kV, doc, pm, an, cdv, ct, osl, e, lk, hc, hD, _⟩ := F.ex
  rcases hD with ⟨_, ed⟩ | ⟨ne, _⟩
  · subst ed
    exact ⟨⟨oc, od, kV, doc, pm, an, cdv, ct, osl, e, lk, hc⟩, F.kp⟩
  · exact absurd rfl ne
theorem df_of {x : Str} {st : Stmt} {ps : List Str} {f : Addr} {fd : FuncData} (F : FunD K x x (defArgs st) (defBody st) (defScope st) [] [] f fd) (g : mg x = some (.ref f))
    (hb : ∀ (kV doc pm : Value) (an : Option Addr) (cdv ct : Value) (us : List Value), us.length = ps.length → bindArgs (PySem.W.fnOf x x (defArgs st) (defBody st) (defScope st) .none kV doc pm an cdv ct) ⟨us, []⟩ = pure (ps.zip us)) : Df K mg x st ps f fd :=
  ⟨fun_of F, (fun_of F).binds hb, g⟩
theorem code_of {x : Str} {st : Stmt} {fd : FuncData} (F : Fun K x x st (He.ga K x) fd) : CodeAt K x st (He.ga K x) fd (He.cT K (x, none)).1 := by
  obtain ⟨oc, od, kV, doc, pm, an, cdv, ct, osl, e, lk, hc⟩ := F.ex
  obtain ⟨c, rfl⟩ := He.codeIn_ref hc
  have ec : He.codeOf K (x, none) = c := He.codeOf_eq (p := (x, none)) lk (by rw [e])
  refine ⟨oc, od, kV, doc, pm, an, ct, osl, ?_, lk, ?_⟩
  · show fd = PySem.W.fnOf x x (defArgs st) (defBody st) (defScope st) .none kV doc pm an (.ref (He.codeOf K (x, none))) ct
    rw [ec]; exact e
  · show PySem.W.codeIn K (.ref (He.codeOf K (x, none))) x = true
    rw [ec]; exact hc
theorem xc_of (X : K.In h) (G : h.Ns mainGlobals mg) {x : Str} (g : (He.Fa.glo x).ok K = true) (c : (He.Fa.exc x).ok K = true) : Xc K mg x (He.ga K x) := by
  obtain ⟨h1, h2, h3, h4⟩ := He.exc_ok c
  exact ⟨He.glo_ok X G g, h1, h2, h3, h4⟩
theorem tx_of (X : K.In h) (G : h.Ns mainGlobals mg) (c : He.SaysD faL fnL K) : ∃ T : TX K mg, (T.c37, T.p37) = He.cT K ("passed_by", none) ∧ (T.c42, T.p42) = He.cT K ("trees_between", none) ∧ (T.c62, T.p62) = He.cT K ("law", none) ∧ T.f62 = He.ga K "law" ∧ T.k12 = tC K := by
  obtain ⟨d14, F14⟩ := c.def_ 0 (d := dD "is_whole" s14) rfl
  obtain ⟨d15, F15⟩ := c.def_ 1 (d := dD "need_number" s15) rfl
  obtain ⟨d16, F16⟩ := c.def_ 2 (d := dD "need_few" s16) rfl
  obtain ⟨d19, F19⟩ := c.def_ 3 (d := dD "tree_size" s19) rfl
  obtain ⟨d20, F20⟩ := c.def_ 4 (d := dD "fits_tree" s20) rfl
  obtain ⟨d21, F21⟩ := c.def_ 5 (d := dD "fork_count" s21) rfl
  obtain ⟨d22, F22⟩ := c.def_ 6 (d := dD "reaches_of" s22) rfl
  obtain ⟨d23, F23⟩ := c.def_ 7 (d := dD "need_tree" s23) rfl
  obtain ⟨d24, F24⟩ := c.def_ 8 (d := dD "need_pair" s24) rfl
  obtain ⟨d26, F26⟩ := c.def_ 9 (d := dD "catalan" s26) rfl
  obtain ⟨d28, F28⟩ := c.def_ 10 (d := dD "number_by" s28) rfl
  obtain ⟨d30, F30⟩ := c.def_ 11 (d := dD "can_turn" s30) rfl
  obtain ⟨d31, F31⟩ := c.def_ 12 (d := dD "turned_once" s31) rfl
  obtain ⟨d32, F32⟩ := c.def_ 13 (d := dD "lies_below" s32) rfl
  obtain ⟨d33, F33⟩ := c.def_ 14 (d := dD "is_below" s33) rfl
  obtain ⟨d36, F36⟩ := c.def_ 15 (d := dD "ranks_between" s36) rfl
  obtain ⟨d37, F37⟩ := c.def_ 16 (d := dD "passed_by" s37) rfl
  obtain ⟨d38, F38⟩ := c.def_ 17 (d := dD "depth_sum" s38) rfl
  obtain ⟨d39, F39⟩ := c.def_ 18 (d := dD "need_few_forks" s39) rfl
  obtain ⟨d40, F40⟩ := c.def_ 19 (d := dD "comb_tree" s40) rfl
  obtain ⟨d41, F41⟩ := c.def_ 20 (d := dD "factorial" s41) rfl
  obtain ⟨d42, F42⟩ := c.def_ 21 (d := dD "trees_between" s42) rfl
  obtain ⟨d43, F43⟩ := c.def_ 22 (d := dD "longest_up" s43) rfl
  obtain ⟨d44, F44⟩ := c.def_ 23 (d := dD "fewest_up" s44) rfl
  obtain ⟨d45, F45⟩ := c.def_ 24 (d := dD "count_ways" s45) rfl
  obtain ⟨d46, F46⟩ := c.def_ 25 (d := dD "count_below" s46) rfl
  obtain ⟨d47, F47⟩ := c.def_ 26 (d := dD "least_tree" s47) rfl
  obtain ⟨d48, F48⟩ := c.def_ 27 (d := dD "greatest_tree" s48) rfl
  obtain ⟨d50, F50⟩ := c.def_ 28 (d := dD "_law_drum" s50) rfl
  obtain ⟨d51, F51⟩ := c.def_ 29 (d := dD "_law_roll" s51) rfl
  obtain ⟨d52, F52⟩ := c.def_ 30 (d := dD "_law_pick" s52) rfl
  obtain ⟨d53, F53⟩ := c.def_ 31 (d := dD "_law_grown" s53) rfl
  obtain ⟨d54, F54⟩ := c.def_ 32 (d := dD "_law_forks" s54) rfl
  obtain ⟨d55, F55⟩ := c.def_ 33 (d := dD "_law_reached" s55) rfl
  obtain ⟨d56, F56⟩ := c.def_ 34 (d := dD "_law_every" s56) rfl
  obtain ⟨d57, F57⟩ := c.def_ 35 (d := dD "_law_ups" s57) rfl
  obtain ⟨d58, F58⟩ := c.def_ 36 (d := dD "_law_word" s58) rfl
  obtain ⟨d59, F59⟩ := c.def_ 37 (d := dD "_law_ways" s59) rfl
  obtain ⟨d60, F60⟩ := c.def_ 38 (d := dD "_law_pair_right" s60) rfl
  obtain ⟨d61, F61⟩ := c.def_ 39 (d := dD "_law_below" s61) rfl
  obtain ⟨d62, F62⟩ := c.def_ 40 (d := dD "law" s62) rfl
  have D14 : Df K mg "is_whole" s14 ["value", "low", "high"] (He.ga K "is_whole") d14 := df_of F14 (He.glo_ok X G (c.fact 0 (f := .glo "is_whole") rfl)) fun _ _ _ _ _ _ us hl => match us, hl with | [_, _, _], _ => rfl
  have D15 : Df K mg "need_number" s15 ["value", "low", "high"] (He.ga K "need_number") d15 := df_of F15 (He.glo_ok X G (c.fact 1 (f := .glo "need_number") rfl)) fun _ _ _ _ _ _ us hl => match us, hl with | [_, _, _], _ => rfl
  have D16 : Df K mg "need_few" s16 ["many", "limit"] (He.ga K "need_few") d16 := df_of F16 (He.glo_ok X G (c.fact 2 (f := .glo "need_few") rfl)) fun _ _ _ _ _ _ us hl => match us, hl with | [_, _], _ => rfl
  have D19 : Df K mg "tree_size" s19 ["value", "left"] (He.ga K "tree_size") d19 := df_of F19 (He.glo_ok X G (c.fact 3 (f := .glo "tree_size") rfl)) fun _ _ _ _ _ _ us hl => match us, hl with | [_, _], _ => rfl
  have D20 : Df K mg "fits_tree" s20 ["value"] (He.ga K "fits_tree") d20 := df_of F20 (He.glo_ok X G (c.fact 4 (f := .glo "fits_tree") rfl)) fun _ _ _ _ _ _ us hl => match us, hl with | [_], _ => rfl
  have D21 : Df K mg "fork_count" s21 ["tree"] (He.ga K "fork_count") d21 := df_of F21 (He.glo_ok X G (c.fact 5 (f := .glo "fork_count") rfl)) fun _ _ _ _ _ _ us hl => match us, hl with | [_], _ => rfl
  have D22 : Df K mg "reaches_of" s22 ["tree"] (He.ga K "reaches_of") d22 := df_of F22 (He.glo_ok X G (c.fact 6 (f := .glo "reaches_of") rfl)) fun _ _ _ _ _ _ us hl => match us, hl with | [_], _ => rfl
  have D23 : Df K mg "need_tree" s23 ["value"] (He.ga K "need_tree") d23 := df_of F23 (He.glo_ok X G (c.fact 7 (f := .glo "need_tree") rfl)) fun _ _ _ _ _ _ us hl => match us, hl with | [_], _ => rfl
  have D24 : Df K mg "need_pair" s24 ["one", "other"] (He.ga K "need_pair") d24 := df_of F24 (He.glo_ok X G (c.fact 8 (f := .glo "need_pair") rfl)) fun _ _ _ _ _ _ us hl => match us, hl with | [_, _], _ => rfl
  have D26 : Df K mg "catalan" s26 ["many"] (He.ga K "catalan") d26 := df_of F26 (He.glo_ok X G (c.fact 9 (f := .glo "catalan") rfl)) fun _ _ _ _ _ _ us hl => match us, hl with | [_], _ => rfl
  have D28 : Df K mg "number_by" s28 ["tree"] (He.ga K "number_by") d28 := df_of F28 (He.glo_ok X G (c.fact 10 (f := .glo "number_by") rfl)) fun _ _ _ _ _ _ us hl => match us, hl with | [_], _ => rfl
  have D30 : Df K mg "can_turn" s30 ["tree", "first"] (He.ga K "can_turn") d30 := df_of F30 (He.glo_ok X G (c.fact 11 (f := .glo "can_turn") rfl)) fun _ _ _ _ _ _ us hl => match us, hl with | [_, _], _ => rfl
  have D31 : Df K mg "turned_once" s31 ["tree", "fork"] (He.ga K "turned_once") d31 := df_of F31 (He.glo_ok X G (c.fact 12 (f := .glo "turned_once") rfl)) fun _ _ _ _ _ _ us hl => match us, hl with | [_, _], _ => rfl
  have D32 : Df K mg "lies_below" s32 ["one", "other"] (He.ga K "lies_below") d32 := df_of F32 (He.glo_ok X G (c.fact 13 (f := .glo "lies_below") rfl)) fun _ _ _ _ _ _ us hl => match us, hl with | [_, _], _ => rfl
  have D33 : Df K mg "is_below" s33 ["one", "other"] (He.ga K "is_below") d33 := df_of F33 (He.glo_ok X G (c.fact 14 (f := .glo "is_below") rfl)) fun _ _ _ _ _ _ us hl => match us, hl with | [_, _], _ => rfl
  have D36 : Df K mg "ranks_between" s36 ["one", "other"] (He.ga K "ranks_between") d36 := df_of F36 (He.glo_ok X G (c.fact 15 (f := .glo "ranks_between") rfl)) fun _ _ _ _ _ _ us hl => match us, hl with | [_, _], _ => rfl
  have D37 : Df K mg "passed_by" s37 ["one", "other"] (He.ga K "passed_by") d37 := df_of F37 (He.glo_ok X G (c.fact 16 (f := .glo "passed_by") rfl)) fun _ _ _ _ _ _ us hl => match us, hl with | [_, _], _ => rfl
  have D38 : Df K mg "depth_sum" s38 ["tree"] (He.ga K "depth_sum") d38 := df_of F38 (He.glo_ok X G (c.fact 17 (f := .glo "depth_sum") rfl)) fun _ _ _ _ _ _ us hl => match us, hl with | [_], _ => rfl
  have D39 : Df K mg "need_few_forks" s39 ["one", "other"] (He.ga K "need_few_forks") d39 := df_of F39 (He.glo_ok X G (c.fact 18 (f := .glo "need_few_forks") rfl)) fun _ _ _ _ _ _ us hl => match us, hl with | [_, _], _ => rfl
  have D40 : Df K mg "comb_tree" s40 ["forks", "is_left"] (He.ga K "comb_tree") d40 := df_of F40 (He.glo_ok X G (c.fact 19 (f := .glo "comb_tree") rfl)) fun _ _ _ _ _ _ us hl => match us, hl with | [_, _], _ => rfl
  have D41 : Df K mg "factorial" s41 ["many"] (He.ga K "factorial") d41 := df_of F41 (He.glo_ok X G (c.fact 20 (f := .glo "factorial") rfl)) fun _ _ _ _ _ _ us hl => match us, hl with | [_], _ => rfl
  have D42 : Df K mg "trees_between" s42 ["one", "other"] (He.ga K "trees_between") d42 := df_of F42 (He.glo_ok X G (c.fact 21 (f := .glo "trees_between") rfl)) fun _ _ _ _ _ _ us hl => match us, hl with | [_, _], _ => rfl
  have D43 : Df K mg "longest_up" s43 ["one", "other"] (He.ga K "longest_up") d43 := df_of F43 (He.glo_ok X G (c.fact 22 (f := .glo "longest_up") rfl)) fun _ _ _ _ _ _ us hl => match us, hl with | [_, _], _ => rfl
  have D44 : Df K mg "fewest_up" s44 ["one", "other"] (He.ga K "fewest_up") d44 := df_of F44 (He.glo_ok X G (c.fact 23 (f := .glo "fewest_up") rfl)) fun _ _ _ _ _ _ us hl => match us, hl with | [_, _], _ => rfl
  have D45 : Df K mg "count_ways" s45 ["one", "other"] (He.ga K "count_ways") d45 := df_of F45 (He.glo_ok X G (c.fact 24 (f := .glo "count_ways") rfl)) fun _ _ _ _ _ _ us hl => match us, hl with | [_, _], _ => rfl
  have D46 : Df K mg "count_below" s46 ["forks"] (He.ga K "count_below") d46 := df_of F46 (He.glo_ok X G (c.fact 25 (f := .glo "count_below") rfl)) fun _ _ _ _ _ _ us hl => match us, hl with | [_], _ => rfl
  have D47 : Df K mg "least_tree" s47 ["forks"] (He.ga K "least_tree") d47 := df_of F47 (He.glo_ok X G (c.fact 26 (f := .glo "least_tree") rfl)) fun _ _ _ _ _ _ us hl => match us, hl with | [_], _ => rfl
  have D48 : Df K mg "greatest_tree" s48 ["forks"] (He.ga K "greatest_tree") d48 := df_of F48 (He.glo_ok X G (c.fact 27 (f := .glo "greatest_tree") rfl)) fun _ _ _ _ _ _ us hl => match us, hl with | [_], _ => rfl
  have D50 : Df K mg "_law_drum" s50 ["_law_script", "_law_k"] (He.ga K "_law_drum") d50 := df_of F50 (He.glo_ok X G (c.fact 28 (f := .glo "_law_drum") rfl)) fun _ _ _ _ _ _ us hl => match us, hl with | [_, _], _ => rfl
  have D51 : Df K mg "_law_roll" s51 ["_law_drum_here", "_law_many"] (He.ga K "_law_roll") d51 := df_of F51 (He.glo_ok X G (c.fact 29 (f := .glo "_law_roll") rfl)) fun _ _ _ _ _ _ us hl => match us, hl with | [_, _], _ => rfl
  have D52 : Df K mg "_law_pick" s52 ["_law_drum_here", "_law_things"] (He.ga K "_law_pick") d52 := df_of F52 (He.glo_ok X G (c.fact 30 (f := .glo "_law_pick") rfl)) fun _ _ _ _ _ _ us hl => match us, hl with | [_, _], _ => rfl
  have D53 : Df K mg "_law_grown" s53 ["_law_drum_here", "_law_forks_here"] (He.ga K "_law_grown") d53 := df_of F53 (He.glo_ok X G (c.fact 31 (f := .glo "_law_grown") rfl)) fun _ _ _ _ _ _ us hl => match us, hl with | [_, _], _ => rfl
  have D54 : Df K mg "_law_forks" s54 ["_law_tree_so"] (He.ga K "_law_forks") d54 := df_of F54 (He.glo_ok X G (c.fact 32 (f := .glo "_law_forks") rfl)) fun _ _ _ _ _ _ us hl => match us, hl with | [_], _ => rfl
  have D55 : Df K mg "_law_reached" s55 ["_law_tree_so"] (He.ga K "_law_reached") d55 := df_of F55 (He.glo_ok X G (c.fact 33 (f := .glo "_law_reached") rfl)) fun _ _ _ _ _ _ us hl => match us, hl with | [_], _ => rfl
  have D56 : Df K mg "_law_every" s56 ["_law_forks_here"] (He.ga K "_law_every") d56 := df_of F56 (He.glo_ok X G (c.fact 34 (f := .glo "_law_every") rfl)) fun _ _ _ _ _ _ us hl => match us, hl with | [_], _ => rfl
  have D57 : Df K mg "_law_ups" s57 ["_law_tree_so", "_law_first"] (He.ga K "_law_ups") d57 := df_of F57 (He.glo_ok X G (c.fact 35 (f := .glo "_law_ups") rfl)) fun _ _ _ _ _ _ us hl => match us, hl with | [_, _], _ => rfl
  have D58 : Df K mg "_law_word" s58 ["_law_call"] (He.ga K "_law_word") d58 := df_of F58 (He.glo_ok X G (c.fact 36 (f := .glo "_law_word") rfl)) fun _ _ _ _ _ _ us hl => match us, hl with | [_], _ => rfl
  have D59 : Df K mg "_law_ways" s59 ["_law_one", "_law_other_so", "_law_known"] (He.ga K "_law_ways") d59 := df_of F59 (He.glo_ok X G (c.fact 37 (f := .glo "_law_ways") rfl)) fun _ _ _ _ _ _ us hl => match us, hl with | [_, _, _], _ => rfl
  have D60 : Df K mg "_law_pair_right" s60 ["_law_one", "_law_other_so", "_law_forks_here"] (He.ga K "_law_pair_right") d60 := df_of F60 (He.glo_ok X G (c.fact 38 (f := .glo "_law_pair_right") rfl)) fun _ _ _ _ _ _ us hl => match us, hl with | [_, _, _], _ => rfl
  have D61 : Df K mg "_law_below" s61 ["_law_forks_here"] (He.ga K "_law_below") d61 := df_of F61 (He.glo_ok X G (c.fact 39 (f := .glo "_law_below") rfl)) fun _ _ _ _ _ _ us hl => match us, hl with | [_], _ => rfl
  have D62 : Df K mg "law" s62 ["_law_script"] (He.ga K "law") d62 := df_of F62 (He.glo_ok X G (c.fact 40 (f := .glo "law") rfl)) fun _ _ _ _ _ _ us hl => match us, hl with | [_], _ => rfl
  obtain ⟨t18, m18⟩ := He.int_ok X G (c.fact 57 (f := .int "MOST_FORKS" 24) rfl)
  obtain ⟨t35, m35⟩ := He.int_ok X G (c.fact 58 (f := .int "FEW_FORKS" 7) rfl)
  refine ⟨{
    f14 := He.ga K "is_whole", d14 := d14, D14 := D14,
    f15 := He.ga K "need_number", d15 := d15, D15 := D15,
    f16 := He.ga K "need_few", d16 := d16, D16 := D16,
    f19 := He.ga K "tree_size", d19 := d19, D19 := D19,
    f20 := He.ga K "fits_tree", d20 := d20, D20 := D20,
    f21 := He.ga K "fork_count", d21 := d21, D21 := D21,
    f22 := He.ga K "reaches_of", d22 := d22, D22 := D22,
    f23 := He.ga K "need_tree", d23 := d23, D23 := D23,
    f24 := He.ga K "need_pair", d24 := d24, D24 := D24,
    f26 := He.ga K "catalan", d26 := d26, D26 := D26,
    f28 := He.ga K "number_by", d28 := d28, D28 := D28,
    f30 := He.ga K "can_turn", d30 := d30, D30 := D30,
    f31 := He.ga K "turned_once", d31 := d31, D31 := D31,
    f32 := He.ga K "lies_below", d32 := d32, D32 := D32,
    f33 := He.ga K "is_below", d33 := d33, D33 := D33,
    f36 := He.ga K "ranks_between", d36 := d36, D36 := D36,
    f37 := He.ga K "passed_by", d37 := d37, D37 := D37,
    c37 := (He.cT K ("passed_by", none)).1, p37 := (He.cT K ("passed_by", none)).2, C37 := code_of D37.F,
    f38 := He.ga K "depth_sum", d38 := d38, D38 := D38,
    f39 := He.ga K "need_few_forks", d39 := d39, D39 := D39,
    f40 := He.ga K "comb_tree", d40 := d40, D40 := D40,
    f41 := He.ga K "factorial", d41 := d41, D41 := D41,
    f42 := He.ga K "trees_between", d42 := d42, D42 := D42,
    c42 := (He.cT K ("trees_between", none)).1, p42 := (He.cT K ("trees_between", none)).2, C42 := code_of D42.F,
    f43 := He.ga K "longest_up", d43 := d43, D43 := D43,
    f44 := He.ga K "fewest_up", d44 := d44, D44 := D44,
    f45 := He.ga K "count_ways", d45 := d45, D45 := D45,
    f46 := He.ga K "count_below", d46 := d46, D46 := D46,
    f47 := He.ga K "least_tree", d47 := d47, D47 := D47,
    f48 := He.ga K "greatest_tree", d48 := d48, D48 := D48,
    f50 := He.ga K "_law_drum", d50 := d50, D50 := D50,
    f51 := He.ga K "_law_roll", d51 := d51, D51 := D51,
    f52 := He.ga K "_law_pick", d52 := d52, D52 := D52,
    f53 := He.ga K "_law_grown", d53 := d53, D53 := D53,
    f54 := He.ga K "_law_forks", d54 := d54, D54 := D54,
    f55 := He.ga K "_law_reached", d55 := d55, D55 := D55,
    f56 := He.ga K "_law_every", d56 := d56, D56 := D56,
    f57 := He.ga K "_law_ups", d57 := d57, D57 := D57,
    f58 := He.ga K "_law_word", d58 := d58, D58 := D58,
    f59 := He.ga K "_law_ways", d59 := d59, D59 := D59,
    f60 := He.ga K "_law_pair_right", d60 := d60, D60 := D60,
    f61 := He.ga K "_law_below", d61 := d61, D61 := D61,
    f62 := He.ga K "law", d62 := d62, D62 := D62,
    c62 := (He.cT K ("law", none)).1, p62 := (He.cT K ("law", none)).2, C62 := code_of D62.F,
    n_len := He.free_ok X G (c.fact 41 (f := .free "len") rfl),
    n_isinstance := He.free_ok X G (c.fact 42 (f := .free "isinstance") rfl),
    n_int := He.free_ok X G (c.fact 43 (f := .free "int") rfl),
    n_bool := He.free_ok X G (c.fact 44 (f := .free "bool") rfl),
    n_tuple := He.free_ok X G (c.fact 45 (f := .free "tuple") rfl),
    n_range := He.free_ok X G (c.fact 46 (f := .free "range") rfl),
    n_sum := He.free_ok X G (c.fact 47 (f := .free "sum") rfl),
    n_all := He.free_ok X G (c.fact 48 (f := .free "all") rfl),
    n_zip := He.free_ok X G (c.fact 49 (f := .free "zip") rfl),
    n_sorted := He.free_ok X G (c.fact 50 (f := .free "sorted") rfl),
    n_list := He.free_ok X G (c.fact 51 (f := .free "list") rfl),
    n_max := He.free_ok X G (c.fact 52 (f := .free "max") rfl),
    n_min := He.free_ok X G (c.fact 53 (f := .free "min") rfl),
    n_abs := He.free_ok X G (c.fact 54 (f := .free "abs") rfl),
    n_str := He.free_ok X G (c.fact 55 (f := .free "str") rfl),
    n_super := He.free_ok X G (c.fact 56 (f := .free "super") rfl),
    t18 := t18, m18 := m18, t35 := t35, m35 := m35,
    k1 := He.ga K "WorldError",
    g1 := He.glo_ok X G (c.fact 59 (f := .glo "WorldError") rfl),
    k2 := He.ga K "InvalidCutting",
    g2 := He.glo_ok X G (c.fact 60 (f := .glo "InvalidCutting") rfl),
    k3 := He.ga K "InvalidCut",
    g3 := He.glo_ok X G (c.fact 61 (f := .glo "InvalidCut") rfl),
    k4 := He.ga K "InvalidNumber",
    K4 := xc_of X G (c.fact 63 (f := .glo "InvalidNumber") rfl) (c.fact 62 (f := .exc "InvalidNumber") rfl),
    k5 := He.ga K "Unlike",
    K5 := xc_of X G (c.fact 65 (f := .glo "Unlike") rfl) (c.fact 64 (f := .exc "Unlike") rfl),
    k6 := He.ga K "InvalidTree",
    K6 := xc_of X G (c.fact 67 (f := .glo "InvalidTree") rfl) (c.fact 66 (f := .exc "InvalidTree") rfl),
    k7 := He.ga K "InvalidFork",
    g7 := He.glo_ok X G (c.fact 68 (f := .glo "InvalidFork") rfl),
    k8 := He.ga K "InvalidReaches",
    g8 := He.glo_ok X G (c.fact 69 (f := .glo "InvalidReaches") rfl),
    k9 := He.ga K "InvalidMountain",
    g9 := He.glo_ok X G (c.fact 70 (f := .glo "InvalidMountain") rfl),
    k10 := He.ga K "InvalidHeights",
    g10 := He.glo_ok X G (c.fact 71 (f := .glo "InvalidHeights") rfl),
    k11 := He.ga K "InvalidVotes",
    g11 := He.glo_ok X G (c.fact 72 (f := .glo "InvalidVotes") rfl),
    k12 := He.ga K "TooMany",
    g12 := He.glo_ok X G (c.fact 73 (f := .glo "TooMany") rfl),
    e4_6 := He.exm_ok (c.fact 74 (f := .exm "InvalidNumber" "InvalidTree" false) rfl),
    e4_2 := He.exm_ok (c.fact 75 (f := .exm "InvalidNumber" "InvalidCutting" false) rfl),
    e4_3 := He.exm_ok (c.fact 76 (f := .exm "InvalidNumber" "InvalidCut" false) rfl),
    e4_7 := He.exm_ok (c.fact 77 (f := .exm "InvalidNumber" "InvalidFork" false) rfl),
    e4_8 := He.exm_ok (c.fact 78 (f := .exm "InvalidNumber" "InvalidReaches" false) rfl),
    e4_9 := He.exm_ok (c.fact 79 (f := .exm "InvalidNumber" "InvalidMountain" false) rfl),
    e4_10 := He.exm_ok (c.fact 80 (f := .exm "InvalidNumber" "InvalidHeights" false) rfl),
    e4_11 := He.exm_ok (c.fact 81 (f := .exm "InvalidNumber" "InvalidVotes" false) rfl),
    e4_4 := He.exm_ok (c.fact 82 (f := .exm "InvalidNumber" "InvalidNumber" true) rfl),
    e5_6 := He.exm_ok (c.fact 83 (f := .exm "Unlike" "InvalidTree" false) rfl),
    e5_2 := He.exm_ok (c.fact 84 (f := .exm "Unlike" "InvalidCutting" false) rfl),
    e5_3 := He.exm_ok (c.fact 85 (f := .exm "Unlike" "InvalidCut" false) rfl),
    e5_7 := He.exm_ok (c.fact 86 (f := .exm "Unlike" "InvalidFork" false) rfl),
    e5_8 := He.exm_ok (c.fact 87 (f := .exm "Unlike" "InvalidReaches" false) rfl),
    e5_9 := He.exm_ok (c.fact 88 (f := .exm "Unlike" "InvalidMountain" false) rfl),
    e5_10 := He.exm_ok (c.fact 89 (f := .exm "Unlike" "InvalidHeights" false) rfl),
    e5_11 := He.exm_ok (c.fact 90 (f := .exm "Unlike" "InvalidVotes" false) rfl),
    e5_4 := He.exm_ok (c.fact 91 (f := .exm "Unlike" "InvalidNumber" false) rfl),
    e5_5 := He.exm_ok (c.fact 92 (f := .exm "Unlike" "Unlike" true) rfl),
    e6_6 := He.exm_ok (c.fact 93 (f := .exm "InvalidTree" "InvalidTree" true) rfl),
    e12_6 := He.exm_ok (c.fact 94 (f := .exm "TooMany" "InvalidTree" false) rfl),
    e12_2 := He.exm_ok (c.fact 95 (f := .exm "TooMany" "InvalidCutting" false) rfl),
    e12_3 := He.exm_ok (c.fact 96 (f := .exm "TooMany" "InvalidCut" false) rfl),
    e12_7 := He.exm_ok (c.fact 97 (f := .exm "TooMany" "InvalidFork" false) rfl),
    e12_8 := He.exm_ok (c.fact 98 (f := .exm "TooMany" "InvalidReaches" false) rfl),
    e12_9 := He.exm_ok (c.fact 99 (f := .exm "TooMany" "InvalidMountain" false) rfl),
    e12_10 := He.exm_ok (c.fact 100 (f := .exm "TooMany" "InvalidHeights" false) rfl),
    e12_11 := He.exm_ok (c.fact 101 (f := .exm "TooMany" "InvalidVotes" false) rfl),
    e12_4 := He.exm_ok (c.fact 102 (f := .exm "TooMany" "InvalidNumber" false) rfl),
    e12_5 := He.exm_ok (c.fact 103 (f := .exm "TooMany" "Unlike" false) rfl),
    e12_12 := He.exm_ok (c.fact 104 (f := .exm "TooMany" "TooMany" true) rfl) }, rfl, rfl, rfl, rfl, rfl⟩
theorem cl_ok {C : Addr} (e : clB K C = true) : ∃ nm q N bs bm sn sub ab col dd k0 k1 k2 k3 k5, K.lookup C = some (excClassObj nm q C N bs bm true sn sub ab col dd k0 k1 k2 k3 k5 "ValueError.__new__") ∧ PySem.HandSPX.refsVE bm = true := by
  unfold clB at e
  split at e
  · rename_i t dd cd sl lk
    obtain ⟨e1, e⟩ := He.ba e
    obtain ⟨e2, e⟩ := He.ba e
    obtain ⟨e3, e⟩ := He.ba e
    split at e
    · rename_i D bm a0 a1 a2 a3 n a5 hm hs
      obtain ⟨e4, e⟩ := He.ba e
      obtain ⟨e5, e6⟩ := He.ba e
      have t1 := of_decide_eq_true e1
      have t4 := of_decide_eq_true e4
      have t5 := of_decide_eq_true e5
      subst t1 t4 t5
      obtain ⟨nm, bs, mro, ns, qn, hd, sn, sb, ab, col, dl⟩ := cd
      have t2 : hd = true := e2
      have t3 : dl = false := by
        cases dl with
        | false => rfl
        | true => cases e3
      have t6 : mro = .ref D :: bm := hm
      subst t2 t3 t6
      refine ⟨nm, qn, ns, bs, bm, sn, sb, ab, col, dd, a0, a1, a2, a3, a5, ?_, e6⟩
      rw [lk]
      have es : sl = #[a0, a1, a2, a3, some (.builtin "ValueError.__new__"), a5] := by
        rw [← Array.toList_inj]
        exact hs
      rw [es]
    · cases e
  · cases e
theorem tmx_of (X : K.In h) (G : h.Ns mainGlobals mg) (S : SaysK h K) : ∃ Y : TMX K mg (tC K), True ∧ Fx K (tC K) := by
  have ex := List.all_eq_true.mp S.ex
  have at_ : ∀ (i : Nat) (b : Bool), (exL K)[i]? = some b → b = true := fun i b e => ex b (List.mem_of_getElem? e)
  have b0 := at_ 0 _ rfl
  have b1 := at_ 1 _ rfl
  have b2 := at_ 2 _ rfl
  have b3 := at_ 3 _ rfl
  have b4 := He.eqO_ok (at_ 4 _ rfl)
  have b5 := of_decide_eq_true (at_ 5 _ rfl)
  have b6 := of_decide_eq_true (at_ 6 _ rfl)
  have b7 := at_ 7 _ rfl
  have b8 := He.eqO_ok (at_ 8 _ rfl)
  have b9 := of_decide_eq_true (at_ 9 _ rfl)
  have b10 := He.eqO_ok (at_ 10 _ rfl)
  have b11 := He.eqO_ok (at_ 11 _ rfl)
  have b12 := of_decide_eq_true (at_ 12 _ rfl)
  have b13 := of_decide_eq_true (at_ 13 _ rfl)
  have b14 := He.eqO_ok (at_ 14 _ rfl)
  have b15 := at_ 15 _ rfl
  -- the function
  have hi := S.i
  unfold fnI vaI at hi
  cases hd : dI K with
  | none => rw [hd] at hi; cases hi
  | some fd =>
    rw [hd] at hi
    have lk : ∃ oc od osl, K.lookup (tI K) = some ⟨oc, od, .func fd, osl⟩ := by
      unfold dI at hd
      split at hd
      · rename_i oc od fd' osl lk
        cases hd
        exact ⟨oc, od, osl, lk⟩
      · cases hd
    obtain ⟨oc, od, osl, lk⟩ := lk
    unfold fdB at b1
    unfold coB cdI at b2
    unfold ceB ccI at b3
    rw [hd] at b1 b2 b3
    obtain ⟨c1, c2⟩ := He.ba b1
    obtain ⟨n1, n2, n3, n4, n5, n6, n7, n8, n9, n10, n11, n12, n13, n14, n15⟩ := fd
    have hi2 : (some (n1, n2, n3, n4, n5, n6, n7.map (·.1), n15) : FnI) = some (("__init__" : Str), ("TooMany.__init__" : Str), defArgs sI, FuncBody.stmts (defBody sI), defScope sI, mainGlobals, ([("__class__" : Str)] : List Str), builtinsNs) := hi
    simp only [Option.some.injEq, Prod.mk.injEq] at hi2
    obtain ⟨r1, r2, r3, r4, r5, r6, r7, r8⟩ := hi2
    subst r1 r2 r3 r4 r5 r6 r8
    obtain ⟨cc, rfl⟩ : ∃ cc : Addr, n7 = [(("__class__" : Str), cc)] := by
      cases n7 with
      | nil => cases r7
      | cons p r =>
        obtain ⟨x, cc⟩ := p
        cases r with
        | nil =>
          have : x = ("__class__" : Str) := (List.cons.inj r7).1
          exact ⟨cc, by rw [this]⟩
        | cons _ _ => cases (List.cons.inj r7).2
    have dn : n8 = .none := by
      have c3 : He.dflB K n8 [] = true := c2
      cases n8 with
      | none => rfl
      | _ => cases c3
    subst dn
    obtain ⟨cda, rfl⟩ := He.codeIn_ref (cd := n13) c1
    have c2' : (match K.lookup cda with
      | some ⟨_, _, .fields vs, _⟩ => (match (vs[2]? : Option Value) with
        | some (.str f _) => decide (f = ("/claim/cut.py" : Str))
        | _ => false)
      | _ => false) = true := b2
    have c3' : (match K.lookup cc with
      | some ⟨_, _, .cell (some (.ref D)), _⟩ => decide (D = tC K)
      | _ => false) = true := b3
    have co : ∃ (oc : Value) (od : Option Addr) (vs : Array Value) (sl : Array (Option Value)) (tf : Tok), K.lookup cda = some ⟨oc, od, .fields vs, sl⟩ ∧ vs[2]? = some (.str "/claim/cut.py" tf) := by
      split at c2'
      · rename_i oc od vs sl lk2
        split at c2'
        · rename_i f tf hv
          have := of_decide_eq_true c2'
          subst this
          exact ⟨oc, od, vs, sl, tf, lk2, hv⟩
        · cases c2'
      · cases c2'
    have ce : ∃ (oc : Value) (od : Option Addr) (sl : Array (Option Value)), K.lookup cc = some ⟨oc, od, .cell (some (.ref (tC K))), sl⟩ := by
      split at c3'
      · rename_i oc od D sl lk2
        have := of_decide_eq_true c3'
        subst this
        exact ⟨oc, od, sl, lk2⟩
      · cases c3'
    refine ⟨⟨tI K, cc, cda, _, {
      ex := ⟨oc, od, osl, _, _, _, _, _, rfl, lk, c1⟩, code := co, cell := ce,
      oex := ⟨cl_ok b0, b4, b5, b6, b7⟩, iC := b8, tI := b9, lim := b10, sup := b11, sub := b12, subV := b13, opq := b14,
      b := .all fun us hl => match us, hl with | [_, _], _ => rfl }⟩, trivial, xfB_ok b15, b10⟩
end
end K43
set_option maxHeartbeats 0

/-! HC: the end. -/
namespace K43
open PySem PySem.Spec PyProof.Rows L2
theorem file_ok : Fl PySem.Challenge.rw_eightworlds_k43_whole_chains_between_tre.prog := ⟨by decide +kernel, by decide +kernel⟩
/-- the tables of the three defs that make lambdas -/
def tsK (K : PySem.W.Frag) : List (Addr × Str) := [((He.cT K ("passed_by", none)).2, ("passed_by.<locals>.<lambda>" : Str)), ((He.cT K ("trees_between", none)).2, ("trees_between.<locals>.<lambda>" : Str)), ((He.cT K ("law", none)).2, ("law.<locals>.<lambda>" : Str))]
theorem law_at {w : World} {mg : Str → Option Value} {fa : Addr} {h : Heap} {K : PySem.W.Frag} (KX : K.In h) (S : SaysK h K) (G : h.Ns mainGlobals mg) (hmg : mg ("law" : Str) = some (.ref fa)) :
    LamX.LawAtS PySem.Challenge.rw_eightworlds_k43_whole_chains_between_tre w K CX0 161 63 "_law_script" mg fa h := by
  obtain ⟨T, t37, t42, t62, tf, tk⟩ := tx_of KX G S.d
  obtain ⟨Y, _, fx⟩ := tmx_of (mg := mg) KX G S
  have ef : T.f62 = fa := by
    have := hmg.symm.trans T.D62.g
    cases this
    rfl
  have mem : ∀ p ∈ tfL, He.cT K p ∈ tfL.map (He.cT K) := fun p hp => List.mem_map.mpr ⟨p, hp, rfl⟩
  have ex := List.all_eq_true.mp S.ex
  have d12 : (!((He.cT K ("passed_by", none)).2 == (He.cT K ("trees_between", none)).2)) = true := ex _ (List.mem_of_getElem? (i := 16) rfl)
  have d13 : (!((He.cT K ("passed_by", none)).2 == (He.cT K ("law", none)).2)) = true := ex _ (List.mem_of_getElem? (i := 17) rfl)
  have d23 : (!((He.cT K ("trees_between", none)).2 == (He.cT K ("law", none)).2)) = true := ex _ (List.mem_of_getElem? (i := 18) rfl)
  simp only [Bool.not_eq_true', beq_eq_false_iff_ne, ne_eq] at d12 d13 d23
  refine ⟨T.d62, tfL.map (He.cT K), spLaw K (tsK K), fun p hp => ?_, fun p hp => ?_, fun p hp => ?_, fun s u => ?_, fun H a ns hl _ hH hS => ?_, fun base KB GB TB => ?_⟩
  · obtain ⟨q, hq, rfl⟩ := List.mem_map.mp hp
    exact S.empty q hq
  · obtain ⟨q, hq, rfl⟩ := List.mem_map.mp hp
    exact S.out q hq
  · obtain ⟨q, hq, rfl⟩ := List.mem_map.mp hp
    exact PySem.W.codeHd_of_K KX (S.hd q hq)
  · obtain ⟨oc, od, kV, doc, pm, an, cdv, ct, osl, e, lk, hc⟩ := T.D62.F.ex
    rw [e]
    exact .of_eq rfl
  · refine ⟨a, ns, rfl, hS, hl, fun p hp => ?_, fun _ => rfl⟩
    rcases List.mem_cons.mp hp with rfl | hp
    · exact .nil (hH _ (mem ("passed_by", none) (by simp [tfL])))
    rcases List.mem_cons.mp hp with rfl | hp
    · exact .nil (hH _ (mem ("trees_between", none) (by simp [tfL])))
    · cases List.mem_singleton.mp hp
      exact .nil (hH _ (mem ("law", none) (by simp [tfL])))
  · subst ef
    rw [← tk] at Y fx
    have c37 : T.c37 = (He.cT K ("passed_by", none)).1 := congrArg Prod.fst t37
    have p37 : T.p37 = (He.cT K ("passed_by", none)).2 := congrArg Prod.snd t37
    have c42 : T.c42 = (He.cT K ("trees_between", none)).1 := congrArg Prod.fst t42
    have p42 : T.p42 = (He.cT K ("trees_between", none)).2 := congrArg Prod.snd t42
    have c62 : T.c62 = (He.cT K ("law", none)).1 := congrArg Prod.fst t62
    have p62 : T.p62 = (He.cT K ("law", none)).2 := congrArg Prod.snd t62
    have B : Tb T base (tsK K) := by
      refine ⟨?_, ?_, fun p hp e => ?_, ?_, ?_, fun p hp e => ?_, ?_, ?_, fun p hp e => ?_⟩
      · rw [c37, p37]; exact TB _ (mem ("passed_by", none) (by simp [tfL]))
      · rw [p37]; simp [tsK]
      · rw [p37] at e
        rcases List.mem_cons.mp hp with rfl | hp
        · rfl
        rcases List.mem_cons.mp hp with rfl | hp
        · exact absurd e (Ne.symm d12)
        · cases List.mem_singleton.mp hp
          exact absurd e (Ne.symm d13)
      · rw [c42, p42]; exact TB _ (mem ("trees_between", none) (by simp [tfL]))
      · rw [p42]; simp [tsK]
      · rw [p42] at e
        rcases List.mem_cons.mp hp with rfl | hp
        · exact absurd e d12
        rcases List.mem_cons.mp hp with rfl | hp
        · rfl
        · cases List.mem_singleton.mp hp
          exact absurd e (Ne.symm d23)
      · rw [c62, p62]; exact TB _ (mem ("law", none) (by simp [tfL]))
      · rw [p62]; simp [tsK]
      · rw [p62] at e
        rcases List.mem_cons.mp hp with rfl | hp
        · exact absurd e d13
        rcases List.mem_cons.mp hp with rfl | hp
        · exact absurd e d23
        · cases List.mem_singleton.mp hp
          rfl
    exact ok62 T Y file_ok B fx
end K43
open PySem PySem.W PySem.Calls PyProof.Rows
set_option maxRecDepth 100000 in
set_option maxHeartbeats 0 in
theorem PySem.Challenge.cw_eightworlds_k43_whole_chains_between_tre_holds : PySem.Challenge.rw_eightworlds_k43_whole_chains_between_tre.Holds := by
  w_on; o_law
  refine HandSHeadRun.head_any (r := K43.RR) (q := view K43.RR.prog [62]) (H := K43.hkK) (ob := K43.obS) (M := 4000) (loose := K43.loL) (d := HandSHeadRun.topDef K43.RR.prog 62) (kwd := []) K43.obS_eq
    (by kernel_rfl) (fun s => by kernel_rfl) K43.run (by kernel_rfl) (by kernel_rfl) (by kernel_rfl) (by rfl) (by first | assumption | decide +kernel) (by decide +kernel) ⟨rfl, rfl, rfl, rfl, rfl, by decide +kernel⟩ ?hw ?hc
  case hw => w_witness2
  case hc =>
    refine LamX.walk_ofTsE (l := PySem.Challenge.rw_eightworlds_k43_whole_chains_between_tre) (n := 63) (k := 161) (x := "_law_script") (CX := fun _ => L2.CX0) rfl (by decide) (by kernel_rfl) ⟨rfl, by decide, by decide⟩ ?F (fun _ _ _ _ _ z => z)
    intro w mg fa h Y G hmg0
    obtain ⟨K, KX, S⟩ := Y
    have hmg : mg ("law" : PySem.Str) = some (.ref fa) := by
      have e : (HandSHeadRun.topDef K43.RR.prog 62).name = ("law" : PySem.Str) := by kernel_rfl
      rw [← e]
      exact hmg0
    exact ⟨K, KX, K43.law_at KX S G hmg⟩
