import PyProof.Rows.All
import Wide.All
import OpenK.AllK
import Wide.FinOn
import HandS.ForMost
import HandS.Evl
import HandS.Rev
import HandS.Style
import HandS.Conv
import HandS.Strs
import HandS.Walk
import PySem.Challenge.RW_archway_k46_whole_sentences_of_readers
set_option Elab.async false
set_option linter.all false
set_option autoImplicit false
set_option maxRecDepth 100000
set_option maxHeartbeats 4000000
/-! The plain law: part trees, their meaning, the walk of a reader, and that the sentence of a reader says what the reader says. Core Lean alone. -/
namespace K46
/-- the kinds of places -/
inductive Kd | letter | call | ret
  deriving DecidableEq
/-- a place: its kind and its label -/
structure Pl where
  k : Kd
  a : Nat
  deriving DecidableEq
/-- names of lines with one part, with two parts -/
inductive Un | not | all | first | last | denied | there
  deriving DecidableEq
inductive Bin | and | next | arch | both
  deriving DecidableEq
/-- a part of a sentence -/
inductive Pt
  | set (v : Nat)
  | pl (p : Pl)
  | nothing
  | un (o : Un) (p : Pt)
  | bin (o : Bin) (p q : Pt)
  deriving DecidableEq

/-! ### the law's own reading -/
def evalP (row : List Pl) (sets : List (List Nat)) (k : Nat) : Pt → Bool
  | .set v => decide (v < sets.length) && decide (k ∈ sets.getD v [])
  | .pl p => decide (row[k]? = some p)
  | .un .not p => !evalP row sets k p
  | .bin .and p q => evalP row sets k p && evalP row sets k q
  | _ => false
/-- the arches: (places so far, open calls from the last on, arches found) -/
def pstep : Nat × List Nat × List (Nat × Nat) → Pl → Nat × List Nat × List (Nat × Nat)
  | (k, st, fd), ⟨.letter, _⟩ => (k + 1, st, fd)
  | (k, st, fd), ⟨.call, _⟩ => (k + 1, k :: st, fd)
  | (k, c :: st, fd), ⟨.ret, _⟩ => (k + 1, st, fd ++ [(c, k)])
  | (k, [], fd), ⟨.ret, _⟩ => (k + 1, [], fd)
def pst (row : List Pl) : Nat × List Nat × List (Nat × Nat) := row.foldl pstep (0, [], [])
def pairsOf (row : List Pl) : List (Nat × Nat) := (pst row).2.2
def bitsOf (c m : Nat) : List Nat := (List.range m).filter fun k => decide (c / 2 ^ k % 2 = 1)
def evalT (row : List Pl) : Pt → List (List Nat) → Bool
  | .nothing, _ => decide (row.length = 0)
  | .un .denied p, S => !evalT row p S
  | .bin .both p q, S => evalT row p S && evalT row q S
  | .un .there p, S => (List.range (2 ^ row.length)).any fun c => evalT row p (S ++ [bitsOf c row.length])
  | .un .all p, S => (List.range row.length).all fun k => evalP row S k p
  | .un .first p, S => ((List.range row.length).take 1).all fun k => evalP row S k p
  | .un .last p, S => ((List.range row.length).drop (row.length - 1)).all fun k => evalP row S k p
  | .bin .next p q, S => (List.range (row.length - 1)).all fun k => !evalP row S k p || evalP row S (k + 1) q
  | .bin .arch p q, S => (pairsOf row).all fun x => !evalP row S x.1 p || evalP row S x.2 q
  | _, _ => false

/-! ### readers -/
structure Rd where
  nl : Nat
  nc : Nat
  nr : Nat
  empty : Nat
  letters : List Nat
  mul : List (List Nat)
  wrap : List (List (List Nat))
  acc : List Nat
namespace Rd
def n (R : Rd) : Nat := R.mul.length
def le (R : Rd) (a : Nat) : Nat := R.letters.getD a 0
def m (R : Rd) (u v : Nat) : Nat := (R.mul.getD u []).getD v 0
def w (R : Rd) (a b x : Nat) : Nat := ((R.wrap.getD a []).getD b []).getD x 0
end Rd
structure Fits (R : Rd) : Prop where
  ll : R.letters.length = R.nl
  lv : ∀ a, a < R.nl → R.le a < R.n
  mr : ∀ r ∈ R.mul, r.length = R.n
  mv : ∀ u v, u < R.n → v < R.n → R.m u v < R.n
  wl : R.wrap.length = R.nc
  wr : ∀ x ∈ R.wrap, x.length = R.nr
  wx : ∀ x ∈ R.wrap, ∀ y ∈ x, y.length = R.n
  wv : ∀ a b x, a < R.nc → b < R.nr → x < R.n → R.w a b x < R.n
  e : R.empty < R.n
  ac : ∀ v ∈ R.acc, v < R.n
/-- the reader's run: places so far, the value, the open calls from the last on (place, value ahead, label) -/
def sstep (R : Rd) : Nat × Nat × List (Nat × Nat × Nat) → Pl → Nat × Nat × List (Nat × Nat × Nat)
  | (k, u, s), ⟨.letter, a⟩ => (k + 1, R.m u (R.le a), s)
  | (k, u, s), ⟨.call, a⟩ => (k + 1, R.empty, (k, u, a) :: s)
  | (k, u, (c, v, a) :: s), ⟨.ret, b⟩ => (k + 1, R.m v (R.w a b u), s)
  | (k, u, []), ⟨.ret, b⟩ => (k + 1, u, [])
def sst (R : Rd) (row : List Pl) : Nat × Nat × List (Nat × Nat × Nat) := row.foldl (sstep R) (0, R.empty, [])
def accepts (R : Rd) (row : List Pl) : Bool := decide ((sst R row).2.1 ∈ R.acc)
def lim (R : Rd) : Kd → Nat
  | .letter => R.nl
  | .call => R.nc
  | .ret => R.nr
def Lab (R : Rd) (row : List Pl) : Prop := ∀ p ∈ row, p.a < lim R p.k
/-- every return closes a call, no call is open at the end -/
def Closes (row : List Pl) : Prop := ∀ k b, row[k]? = some ⟨.ret, b⟩ → (pst (row.take k)).2.1 ≠ []
def Bal (row : List Pl) : Prop := Closes row ∧ (pst row).2.1 = []

/-! ### the sentence of a reader -/
def yesP : Pt := .un .not (.bin .and (.set 0) (.un .not (.set 0)))
def everyP (ps : List Pt) : Pt := ps.foldr (fun p m => .bin .and p m) yesP
def someP (ps : List Pt) : Pt := ps.foldr (fun p m => .un .not (.bin .and (.un .not p) (.un .not m))) (.un .not yesP)
def ifThenP (p q : Pt) : Pt := .un .not (.bin .and p (.un .not q))
def behindL (R : Rd) (u : Nat) : List Pt :=
  (List.range R.nl).map (fun a => ifThenP (.pl ⟨.letter, a⟩) (.set (R.m u (R.le a)))) ++
  ((List.range R.nc).map (fun a => ifThenP (.pl ⟨.call, a⟩) (.set u)) ++
  (List.range R.nr).map (fun b => ifThenP (.pl ⟨.ret, b⟩) (.set (R.n + u))))
def behindP (R : Rd) (u : Nat) : Pt := everyP (behindL R u)
def apartP (v w : Nat) : Pt := if v = w then yesP else ifThenP (.set v) (.un .not (.set w))
def archL (R : Rd) (u a : Nat) : List Pt := (List.range R.nr).flatMap fun b => (List.range R.n).map fun i =>
  ifThenP (.bin .and (.pl ⟨.ret, b⟩) (.set (R.n + i))) (.set (R.m u (R.w a b i)))
def archP (R : Rd) (u a : Nat) : Pt := .bin .arch (.bin .and (.pl ⟨.call, a⟩) (.set u)) (everyP (archL R u a))
def callP (R : Rd) : Pt := someP ((List.range R.nc).map fun a => .pl ⟨.call, a⟩)
def apartL (R : Rd) : List Pt := (List.range R.n).flatMap fun v => (List.range R.n).map fun w => apartP v w
def headL (R : Rd) : List Pt :=
  [.un .all (everyP (apartL R)), .un .first (behindP R R.empty), .bin .next (callP R) (behindP R R.empty), .un .last (someP (R.acc.map .set))]
def nextL (R : Rd) : List Pt := (List.range R.n).map fun u => .bin .next (.bin .and (.un .not (callP R)) (.set u)) (behindP R u)
def archesL (R : Rd) : List Pt := (List.range R.n).flatMap fun u => (List.range R.nc).map fun a => archP R u a
def walkL (R : Rd) : List Pt := headL R ++ (nextL R ++ archesL R)
def walkP (R : Rd) : Pt := (walkL R).foldr (fun p m => .bin .both p m) (.un .all yesP)
def thereN : Nat → Pt → Pt
  | 0, p => p
  | n + 1, p => .un .there (thereN n p)
def somePlace : Pt := .un .denied .nothing
def sentP (R : Rd) : Pt :=
  if R.empty ∈ R.acc then .un .denied (.bin .both somePlace (.un .denied (thereN (2 * R.n) (walkP R))))
  else .bin .both somePlace (thereN (2 * R.n) (walkP R))

/-! ### what the abbreviations mean -/
section
variable {row : List Pl} {S : List (List Nat)} {k : Nat}
theorem ev_yes : evalP row S k yesP = true := by
  simp only [yesP, evalP]
  cases (decide (0 < S.length) && decide (k ∈ S.getD 0 [])) <;> rfl
theorem ev_every : ∀ ps : List Pt, evalP row S k (everyP ps) = ps.all fun p => evalP row S k p
  | [] => ev_yes
  | p :: r => by
    have ih := ev_every r
    show (evalP row S k p && evalP row S k (everyP r)) = _
    rw [ih]
    rfl
theorem ev_some : ∀ ps : List Pt, evalP row S k (someP ps) = ps.any fun p => evalP row S k p
  | [] => by
    show (!evalP row S k yesP) = false
    rw [ev_yes]
    rfl
  | p :: r => by
    have ih := ev_some r
    show (!(!evalP row S k p && !evalP row S k (someP r))) = _
    rw [ih, List.any_cons]
    cases evalP row S k p <;> cases r.any fun p => evalP row S k p <;> rfl
theorem ev_if (p q : Pt) : evalP row S k (ifThenP p q) = true ↔ (evalP row S k p = true → evalP row S k q = true) := by
  show (!(evalP row S k p && !evalP row S k q)) = true ↔ _
  cases evalP row S k p <;> cases evalP row S k q <;> simp
theorem ev_not (p : Pt) : evalP row S k (.un .not p) = true ↔ ¬ evalP row S k p = true := by
  show (!evalP row S k p) = true ↔ _
  cases evalP row S k p <;> simp
theorem ev_and (p q : Pt) : evalP row S k (.bin .and p q) = true ↔ (evalP row S k p = true ∧ evalP row S k q = true) := by
  show (evalP row S k p && evalP row S k q) = true ↔ _
  rw [Bool.and_eq_true]
theorem ev_pl (p : Pl) : evalP row S k (.pl p) = true ↔ row[k]? = some p := decide_eq_true_iff
end
/-- place k is in the set v -/
def Mem (S : List (List Nat)) (v k : Nat) : Prop := v < S.length ∧ k ∈ S.getD v []
theorem ev_set {row : List Pl} {S : List (List Nat)} {k v : Nat} : evalP row S k (.set v) = true ↔ Mem S v k := by
  show (decide (v < S.length) && decide (k ∈ S.getD v [])) = true ↔ _
  rw [Bool.and_eq_true, decide_eq_true_iff, decide_eq_true_iff]
  exact Iff.rfl

/-- what may stand behind a stretch with the value u -/
def Bh (R : Rd) (row : List Pl) (S : List (List Nat)) (u k : Nat) : Prop :=
  (∀ a, a < R.nl → row[k]? = some ⟨.letter, a⟩ → Mem S (R.m u (R.le a)) k) ∧
  (∀ a, a < R.nc → row[k]? = some ⟨.call, a⟩ → Mem S u k) ∧
  (∀ b, b < R.nr → row[k]? = some ⟨.ret, b⟩ → Mem S (R.n + u) k)
theorem ev_behind {R : Rd} {row : List Pl} {S : List (List Nat)} {u k : Nat} : evalP row S k (behindP R u) = true ↔ Bh R row S u k := by
  rw [behindP, ev_every, List.all_eq_true]
  constructor
  · intro h
    refine ⟨fun a ha e => ?_, fun a ha e => ?_, fun b hb e => ?_⟩
    · have := h (ifThenP (.pl ⟨.letter, a⟩) (.set (R.m u (R.le a)))) (by
        refine List.mem_append.mpr (.inl (List.mem_map.mpr ⟨a, List.mem_range.mpr ha, rfl⟩)))
      exact ev_set.mp ((ev_if _ _).mp this ((ev_pl _).mpr e))
    · have := h (ifThenP (.pl ⟨.call, a⟩) (.set u)) (by
        refine List.mem_append.mpr (.inr (List.mem_append.mpr (.inl (List.mem_map.mpr ⟨a, List.mem_range.mpr ha, rfl⟩)))))
      exact ev_set.mp ((ev_if _ _).mp this ((ev_pl _).mpr e))
    · have := h (ifThenP (.pl ⟨.ret, b⟩) (.set (R.n + u))) (by
        refine List.mem_append.mpr (.inr (List.mem_append.mpr (.inr (List.mem_map.mpr ⟨b, List.mem_range.mpr hb, rfl⟩)))))
      exact ev_set.mp ((ev_if _ _).mp this ((ev_pl _).mpr e))
  · rintro ⟨h1, h2, h3⟩ p hp
    rcases List.mem_append.mp hp with hp | hp
    · obtain ⟨a, ha, rfl⟩ := List.mem_map.mp hp
      exact (ev_if _ _).mpr fun e => ev_set.mpr (h1 a (List.mem_range.mp ha) ((ev_pl _).mp e))
    rcases List.mem_append.mp hp with hp | hp
    · obtain ⟨a, ha, rfl⟩ := List.mem_map.mp hp
      exact (ev_if _ _).mpr fun e => ev_set.mpr (h2 a (List.mem_range.mp ha) ((ev_pl _).mp e))
    · obtain ⟨a, ha, rfl⟩ := List.mem_map.mp hp
      exact (ev_if _ _).mpr fun e => ev_set.mpr (h3 a (List.mem_range.mp ha) ((ev_pl _).mp e))
/-- a call of the reader's labels stands at k -/
def IsC (R : Rd) (row : List Pl) (k : Nat) : Prop := ∃ a, a < R.nc ∧ row[k]? = some ⟨.call, a⟩
theorem ev_call {R : Rd} {row : List Pl} {S : List (List Nat)} {k : Nat} : evalP row S k (callP R) = true ↔ IsC R row k := by
  rw [callP, ev_some, List.any_eq_true]
  constructor
  · rintro ⟨p, hp, e⟩
    obtain ⟨a, ha, rfl⟩ := List.mem_map.mp hp
    exact ⟨a, List.mem_range.mp ha, (ev_pl _).mp e⟩
  · rintro ⟨a, ha, e⟩
    exact ⟨_, List.mem_map.mpr ⟨a, List.mem_range.mpr ha, rfl⟩, (ev_pl _).mpr e⟩
theorem ev_apart {row : List Pl} {S : List (List Nat)} {k v w : Nat} : evalP row S k (apartP v w) = true ↔ (v ≠ w → Mem S v k → ¬ Mem S w k) := by
  unfold apartP
  by_cases e : v = w
  · rw [if_pos e]
    exact ⟨fun _ h => absurd e h, fun _ => ev_yes⟩
  · rw [if_neg e, ev_if, ev_not, ev_set, ev_set]
    exact ⟨fun h _ => h, fun h => h e⟩

/-- the walk, in plain words -/
structure Walk (R : Rd) (row : List Pl) (S : List (List Nat)) : Prop where
  ap : ∀ k v w, k < row.length → v < R.n → w < R.n → v ≠ w → Mem S v k → ¬ Mem S w k
  fi : 0 < row.length → Bh R row S R.empty 0
  nc : ∀ k, k + 1 < row.length → IsC R row k → Bh R row S R.empty (k + 1)
  la : 0 < row.length → ∃ v ∈ R.acc, Mem S v (row.length - 1)
  nx : ∀ u k, u < R.n → k + 1 < row.length → ¬ IsC R row k → Mem S u k → Bh R row S u (k + 1)
  ar : ∀ u a c r, u < R.n → a < R.nc → (c, r) ∈ pairsOf row → row[c]? = some ⟨.call, a⟩ → Mem S u c →
    ∀ b i, b < R.nr → i < R.n → row[r]? = some ⟨.ret, b⟩ → Mem S (R.n + i) r → Mem S (R.m u (R.w a b i)) r

theorem both_all {row : List Pl} {S : List (List Nat)} (z : Pt) : ∀ ps : List Pt, evalT row (ps.foldr (fun p m => .bin .both p m) z) S = ((ps.all fun p => evalT row p S) && evalT row z S)
  | [] => by simp
  | p :: r => by
    show (evalT row p S && evalT row (r.foldr _ z) S) = _
    rw [both_all z r, List.all_cons, Bool.and_assoc]
theorem imp_or (a b : Bool) : (!a || b) = true ↔ (a = true → b = true) := by cases a <;> cases b <;> simp
theorem t_all {row : List Pl} {S : List (List Nat)} {p : Pt} : evalT row (.un .all p) S = true ↔ ∀ k, k < row.length → evalP row S k p = true := by
  show (List.all _ _) = true ↔ _
  rw [List.all_eq_true]
  exact ⟨fun h k hk => h k (List.mem_range.mpr hk), fun h k hk => h k (List.mem_range.mp hk)⟩
theorem t_first {row : List Pl} {S : List (List Nat)} {p : Pt} : evalT row (.un .first p) S = true ↔ (0 < row.length → evalP row S 0 p = true) := by
  show (List.all ((List.range row.length).take 1) _) = true ↔ _
  cases e : row.length with
  | zero => simp
  | succ m =>
    rw [show (List.range (m + 1)).take 1 = [0] by rw [List.range_succ_eq_map]; rfl]
    simp
theorem t_last {row : List Pl} {S : List (List Nat)} {p : Pt} : evalT row (.un .last p) S = true ↔ (0 < row.length → evalP row S (row.length - 1) p = true) := by
  show (List.all ((List.range row.length).drop (row.length - 1)) _) = true ↔ _
  cases e : row.length with
  | zero => simp
  | succ m =>
    rw [show (List.range (m + 1)).drop (m + 1 - 1) = [m] by rw [List.range_succ, Nat.add_sub_cancel, List.drop_append_of_le_length (by simp), List.drop_of_length_le (by simp)]; rfl]
    simp
theorem t_next {row : List Pl} {S : List (List Nat)} {p q : Pt} : evalT row (.bin .next p q) S = true ↔ ∀ k, k + 1 < row.length → evalP row S k p = true → evalP row S (k + 1) q = true := by
  show (List.all _ _) = true ↔ _
  rw [List.all_eq_true]
  constructor
  · intro h k hk
    exact (imp_or _ _).mp (h k (List.mem_range.mpr (by omega)))
  · intro h k hk
    have := List.mem_range.mp hk
    exact (imp_or _ _).mpr (h k (by omega))
theorem t_arch {row : List Pl} {S : List (List Nat)} {p q : Pt} : evalT row (.bin .arch p q) S = true ↔ ∀ c r, (c, r) ∈ pairsOf row → evalP row S c p = true → evalP row S r q = true := by
  show (List.all _ _) = true ↔ _
  rw [List.all_eq_true]
  constructor
  · intro h c r hk
    exact (imp_or _ _).mp (h (c, r) hk)
  · rintro h ⟨c, r⟩ hk
    exact (imp_or _ _).mpr (h c r hk)
theorem ev_archs {R : Rd} {row : List Pl} {S : List (List Nat)} {u a k : Nat} : evalP row S k (everyP (archL R u a)) = true ↔
    ∀ b i, b < R.nr → i < R.n → row[k]? = some ⟨.ret, b⟩ → Mem S (R.n + i) k → Mem S (R.m u (R.w a b i)) k := by
  rw [ev_every, List.all_eq_true]
  constructor
  · intro h b i hb hi e1 e2
    have := h (ifThenP (.bin .and (.pl ⟨.ret, b⟩) (.set (R.n + i))) (.set (R.m u (R.w a b i)))) (List.mem_flatMap.mpr ⟨b, List.mem_range.mpr hb, List.mem_map.mpr ⟨i, List.mem_range.mpr hi, rfl⟩⟩)
    exact ev_set.mp ((ev_if _ _).mp this ((ev_and _ _).mpr ⟨(ev_pl _).mpr e1, ev_set.mpr e2⟩))
  · intro h p hp
    obtain ⟨b, hb, hp⟩ := List.mem_flatMap.mp hp
    obtain ⟨i, hi, rfl⟩ := List.mem_map.mp hp
    refine (ev_if _ _).mpr fun e => ev_set.mpr ?_
    obtain ⟨e1, e2⟩ := (ev_and _ _).mp e
    exact h b i (List.mem_range.mp hb) (List.mem_range.mp hi) ((ev_pl _).mp e1) (ev_set.mp e2)
theorem walk_iff {R : Rd} {row : List Pl} {S : List (List Nat)} : evalT row (walkP R) S = true ↔ Walk R row S := by
  have hz : evalT row (.un .all yesP) S = true := t_all.mpr fun k _ => ev_yes
  rw [walkP, both_all, hz, Bool.and_true, List.all_eq_true]
  constructor
  · intro h
    have h1 := h _ (show (Pt.un .all (everyP (apartL R))) ∈ walkL R by simp [walkL, headL])
    have h2 := h _ (show (Pt.un .first (behindP R R.empty)) ∈ walkL R by simp [walkL, headL])
    have h3 := h _ (show (Pt.bin .next (callP R) (behindP R R.empty)) ∈ walkL R by simp [walkL, headL])
    have h4 := h _ (show (Pt.un .last (someP (R.acc.map .set))) ∈ walkL R by simp [walkL, headL])
    refine ⟨fun k v w hk hv hw hvw => ?_, fun h0 => ev_behind.mp (t_first.mp h2 h0), fun k hk hc => ev_behind.mp (t_next.mp h3 k hk (ev_call.mpr hc)), fun h0 => ?_, fun u k hu hk hc hm => ?_, fun u a c r hu ha hp ec hm => ?_⟩
    · have := t_all.mp h1 k hk
      rw [ev_every, List.all_eq_true] at this
      exact ev_apart.mp (this (apartP v w) (List.mem_flatMap.mpr ⟨v, List.mem_range.mpr hv, List.mem_map.mpr ⟨w, List.mem_range.mpr hw, rfl⟩⟩)) hvw
    · have := t_last.mp h4 h0
      rw [ev_some, List.any_eq_true] at this
      obtain ⟨p, hp, e⟩ := this
      obtain ⟨v, hv, rfl⟩ := List.mem_map.mp hp
      exact ⟨v, hv, ev_set.mp e⟩
    · have h5 := h (.bin .next (.bin .and (.un .not (callP R)) (.set u)) (behindP R u)) (List.mem_append.mpr (.inr (List.mem_append.mpr (.inl (List.mem_map.mpr ⟨u, List.mem_range.mpr hu, rfl⟩)))))
      exact ev_behind.mp (t_next.mp h5 k hk ((ev_and _ _).mpr ⟨(ev_not _).mpr fun e => hc (ev_call.mp e), ev_set.mpr hm⟩))
    · have h6 := h (archP R u a) (List.mem_append.mpr (.inr (List.mem_append.mpr (.inr (List.mem_flatMap.mpr ⟨u, List.mem_range.mpr hu, List.mem_map.mpr ⟨a, List.mem_range.mpr ha, rfl⟩⟩)))))
      exact ev_archs.mp (t_arch.mp h6 c r hp ((ev_and _ _).mpr ⟨(ev_pl _).mpr ec, ev_set.mpr hm⟩))
  · intro W p hp
    rcases List.mem_append.mp hp with hp | hp
    · simp only [headL, List.mem_cons, List.not_mem_nil, or_false] at hp
      rcases hp with rfl | rfl | rfl | rfl
      · refine t_all.mpr fun k hk => ?_
        rw [ev_every, List.all_eq_true]
        intro p hp
        obtain ⟨v, hv, hp⟩ := List.mem_flatMap.mp hp
        obtain ⟨w, hw, rfl⟩ := List.mem_map.mp hp
        exact ev_apart.mpr (W.ap k v w hk (List.mem_range.mp hv) (List.mem_range.mp hw))
      · exact t_first.mpr fun h0 => ev_behind.mpr (W.fi h0)
      · exact t_next.mpr fun k hk e => ev_behind.mpr (W.nc k hk (ev_call.mp e))
      · refine t_last.mpr fun h0 => ?_
        rw [ev_some, List.any_eq_true]
        obtain ⟨v, hv, hm⟩ := W.la h0
        exact ⟨_, List.mem_map.mpr ⟨v, hv, rfl⟩, ev_set.mpr hm⟩
    rcases List.mem_append.mp hp with hp | hp
    · obtain ⟨u, hu, rfl⟩ := List.mem_map.mp hp
      refine t_next.mpr fun k hk e => ?_
      obtain ⟨e1, e2⟩ := (ev_and _ _).mp e
      exact ev_behind.mpr (W.nx u k (List.mem_range.mp hu) hk (fun hc => (ev_not _).mp e1 (ev_call.mpr hc)) (ev_set.mp e2))
    · obtain ⟨u, hu, hp⟩ := List.mem_flatMap.mp hp
      obtain ⟨a, ha, rfl⟩ := List.mem_map.mp hp
      refine t_arch.mpr fun c r hp e => ?_
      obtain ⟨e1, e2⟩ := (ev_and _ _).mp e
      exact ev_archs.mpr (W.ar u a c r (List.mem_range.mp hu) (List.mem_range.mp ha) hp ((ev_pl _).mp e1) (ev_set.mp e2))

/-! ### the run, place by place -/
theorem take_succ_get {α : Type} {xs : List α} {k : Nat} {x : α} (h : xs[k]? = some x) : xs.take (k + 1) = xs.take k ++ [x] := by
  rw [List.take_add_one, h]
  rfl
theorem sst_snoc (R : Rd) (row : List Pl) (p : Pl) : sst R (row ++ [p]) = sstep R (sst R row) p := by
  unfold sst
  rw [List.foldl_append]
  rfl
theorem pst_snoc (row : List Pl) (p : Pl) : pst (row ++ [p]) = pstep (pst row) p := by
  unfold pst
  rw [List.foldl_append]
  rfl
/-- both runs keep the same calls open -/
theorem same_open (R : Rd) (row : List Pl) : (pst row).1 = row.length ∧ (sst R row).1 = row.length ∧ (pst row).2.1 = (sst R row).2.2.map (·.1) := by
  have H : ∀ (xs : List Pl) (k : Nat) (u : Nat) (s : List (Nat × Nat × Nat)) (fd : List (Nat × Nat)),
      (xs.foldl pstep (k, s.map (·.1), fd)).1 = k + xs.length ∧ (xs.foldl (sstep R) (k, u, s)).1 = k + xs.length ∧ (xs.foldl pstep (k, s.map (·.1), fd)).2.1 = (xs.foldl (sstep R) (k, u, s)).2.2.map (·.1) := by
    intro xs
    induction xs with
    | nil => intro k u s fd; exact ⟨rfl, rfl, rfl⟩
    | cons p r ih =>
      intro k u s fd
      obtain ⟨kd, a⟩ := p
      rw [List.length_cons, show k + (r.length + 1) = (k + 1) + r.length by omega]
      cases kd with
      | letter => exact ih (k + 1) _ s fd
      | call => exact ih (k + 1) _ ((k, u, a) :: s) fd
      | ret =>
        cases s with
        | nil => exact ih (k + 1) _ [] fd
        | cons e s =>
          obtain ⟨c, v, b⟩ := e
          exact ih (k + 1) _ s _
  have := H row 0 R.empty [] []
  rw [Nat.zero_add] at this
  exact this
theorem sst_k {R : Rd} {row : List Pl} : (sst R row).1 = row.length := (same_open R row).2.1
theorem pst_k {row : List Pl} : (pst row).1 = row.length := (same_open ⟨0, 0, 0, 0, [], [], [], []⟩ row).1
/-- value ahead of place k, calls open there -/
def uAt (R : Rd) (row : List Pl) (k : Nat) : Nat := (sst R (row.take k)).2.1
def oAt (R : Rd) (row : List Pl) (k : Nat) : List (Nat × Nat × Nat) := (sst R (row.take k)).2.2
theorem sst_at (R : Rd) (row : List Pl) {k : Nat} (hk : k ≤ row.length) : sst R (row.take k) = (k, uAt R row k, oAt R row k) := by
  have h1 : (sst R (row.take k)).1 = k := by rw [sst_k, List.length_take]; omega
  calc sst R (row.take k) = ((sst R (row.take k)).1, (sst R (row.take k)).2.1, (sst R (row.take k)).2.2) := rfl
    _ = _ := by rw [h1]; rfl
theorem at_succ (R : Rd) {row : List Pl} {k : Nat} {p : Pl} (h : row[k]? = some p) : (k + 1, uAt R row (k + 1), oAt R row (k + 1)) = sstep R (k, uAt R row k, oAt R row k) p := by
  have hk : k < row.length := (List.getElem?_eq_some_iff.mp h).1
  rw [← sst_at R row (by omega : k + 1 ≤ row.length), take_succ_get h, sst_snoc, sst_at R row (by omega)]
theorem at_letter (R : Rd) {row : List Pl} {k a : Nat} (h : row[k]? = some ⟨.letter, a⟩) : uAt R row (k + 1) = R.m (uAt R row k) (R.le a) ∧ oAt R row (k + 1) = oAt R row k := by
  have := at_succ R h
  injection this with _ e
  injection e with e1 e2
  exact ⟨e1, e2⟩
theorem at_call (R : Rd) {row : List Pl} {k a : Nat} (h : row[k]? = some ⟨.call, a⟩) : uAt R row (k + 1) = R.empty ∧ oAt R row (k + 1) = (k, uAt R row k, a) :: oAt R row k := by
  have := at_succ R h
  injection this with _ e
  injection e with e1 e2
  exact ⟨e1, e2⟩
theorem at_ret (R : Rd) {row : List Pl} {k b c v a : Nat} {s : List (Nat × Nat × Nat)} (h : row[k]? = some ⟨.ret, b⟩) (ho : oAt R row k = (c, v, a) :: s) : uAt R row (k + 1) = R.m v (R.w a b (uAt R row k)) ∧ oAt R row (k + 1) = s := by
  have := at_succ R h
  rw [ho] at this
  injection this with _ e
  injection e with e1 e2
  exact ⟨e1, e2⟩
theorem open_ret (R : Rd) {row : List Pl} (hb : Closes row) {k b : Nat} (h : row[k]? = some ⟨.ret, b⟩) : ∃ c v a s, oAt R row k = (c, v, a) :: s := by
  have h1 := hb k b h
  rw [(same_open R (row.take k)).2.2] at h1
  cases e : (sst R (row.take k)).2.2 with
  | nil => rw [e] at h1; exact absurd rfl h1
  | cons x s => exact ⟨x.1, x.2.1, x.2.2, s, e⟩
/-- what is open at k: calls ahead of k, with the values ahead of them -/
theorem opened (R : Rd) {row : List Pl} (hb : Closes row) : ∀ (k : Nat), k ≤ row.length → ∀ c v a, (c, v, a) ∈ oAt R row k → c < k ∧ row[c]? = some ⟨.call, a⟩ ∧ v = uAt R row c
  | 0, _, c, v, a, h => by
    exact absurd h (by show ¬ (c, v, a) ∈ (sst R (row.take 0)).2.2; rw [List.take_zero]; exact List.not_mem_nil)
  | k + 1, hk, c, v, a, h => by
    have ih := opened R hb k (by omega)
    obtain ⟨p, hp⟩ : ∃ p, row[k]? = some p := ⟨_, List.getElem?_eq_getElem (by omega)⟩
    obtain ⟨kd, x⟩ := p
    cases kd with
    | letter =>
      rw [(at_letter R hp).2] at h
      obtain ⟨h1, h2, h3⟩ := ih c v a h
      exact ⟨by omega, h2, h3⟩
    | call =>
      rw [(at_call R hp).2] at h
      rcases List.mem_cons.mp h with e | h
      · injection e with e1 e
        injection e with e2 e3
        subst e1 e2 e3
        exact ⟨by omega, hp, rfl⟩
      · obtain ⟨h1, h2, h3⟩ := ih c v a h
        exact ⟨by omega, h2, h3⟩
    | ret =>
      obtain ⟨c', v', a', s, e⟩ := open_ret R hb hp
      rw [(at_ret R hp e).2] at h
      obtain ⟨h1, h2, h3⟩ := ih c v a (by rw [e]; exact List.mem_cons_of_mem _ h)
      exact ⟨by omega, h2, h3⟩
/-- the arches found up to k -/
theorem pst_open (R : Rd) (row : List Pl) (k : Nat) : (pst (row.take k)).2.1 = (oAt R row k).map (·.1) := (same_open R (row.take k)).2.2
theorem pst_at (R : Rd) (row : List Pl) {k : Nat} (hk : k ≤ row.length) : pst (row.take k) = (k, (oAt R row k).map (·.1), (pst (row.take k)).2.2) := by
  have h1 : (pst (row.take k)).1 = k := by rw [pst_k, List.length_take]; omega
  calc pst (row.take k) = ((pst (row.take k)).1, (pst (row.take k)).2.1, (pst (row.take k)).2.2) := rfl
    _ = _ := by rw [h1, pst_open R row k]
theorem found_succ (R : Rd) {row : List Pl} (hb : Closes row) {k : Nat} {p : Pl} (h : row[k]? = some p) : (pst (row.take (k + 1))).2.2 = (pst (row.take k)).2.2 ++ (match p.k, oAt R row k with | .ret, e :: _ => [(e.1, k)] | _, _ => []) := by
  have hk : k < row.length := (List.getElem?_eq_some_iff.mp h).1
  rw [take_succ_get h, pst_snoc]
  conv => lhs; rw [pst_at R row (by omega : k ≤ row.length)]
  obtain ⟨kd, x⟩ := p
  cases kd with
  | letter => simp [pstep]
  | call => simp [pstep]
  | ret =>
    obtain ⟨c', v', a', s, e⟩ := open_ret R hb h
    rw [e]
    simp [pstep]
theorem pair_at (R : Rd) {row : List Pl} (hb : Closes row) : ∀ (k : Nat), k ≤ row.length → ∀ c r, (c, r) ∈ (pst (row.take k)).2.2 ↔ (r < k ∧ ∃ b v a s, row[r]? = some ⟨.ret, b⟩ ∧ oAt R row r = (c, v, a) :: s)
  | 0, _, c, r => by
    rw [List.take_zero]
    constructor
    · intro h
      exact absurd h List.not_mem_nil
    · rintro ⟨h, _⟩
      omega
  | k + 1, hk, c, r => by
    have ih := pair_at R hb k (by omega) c r
    obtain ⟨p, hp⟩ : ∃ p, row[k]? = some p := ⟨_, List.getElem?_eq_getElem (by omega)⟩
    rw [found_succ R hb hp, List.mem_append, ih]
    constructor
    · rintro (⟨h1, h2⟩ | h)
      · exact ⟨by omega, h2⟩
      · obtain ⟨kd, x⟩ := p
        cases kd with
        | letter => exact absurd h List.not_mem_nil
        | call => exact absurd h List.not_mem_nil
        | ret =>
          obtain ⟨c', v', a', s, e⟩ := open_ret R hb hp
          rw [e] at h
          have h' := List.mem_singleton.mp h
          injection h' with e1 e2
          subst e1 e2
          exact ⟨by omega, x, v', a', s, hp, e⟩
    · rintro ⟨h1, b, v, a, s, h2, h3⟩
      by_cases hr : r < k
      · exact .inl ⟨hr, b, v, a, s, h2, h3⟩
      · have : r = k := by omega
        subst this
        rw [hp] at h2
        cases h2
        rw [h3]
        exact .inr (List.mem_singleton.mpr rfl)
theorem pair_iff (R : Rd) {row : List Pl} (hb : Closes row) {c r : Nat} : (c, r) ∈ pairsOf row ↔ ∃ b v a s, row[r]? = some ⟨.ret, b⟩ ∧ oAt R row r = (c, v, a) :: s := by
  have := pair_at R hb row.length (Nat.le_refl _) c r
  rw [List.take_length] at this
  rw [pairsOf, this]
  constructor
  · exact fun h => h.2
  · rintro ⟨b, v, a, s, h1, h2⟩
    exact ⟨(List.getElem?_eq_some_iff.mp h1).1, b, v, a, s, h1, h2⟩
theorem u_zero (R : Rd) (row : List Pl) : uAt R row 0 = R.empty := by
  unfold uAt
  rw [List.take_zero]
  rfl
theorem u_end (R : Rd) (row : List Pl) : uAt R row row.length = (sst R row).2.1 := by
  unfold uAt
  rw [List.take_length]
/-- all values are values of the reader -/
theorem u_lt {R : Rd} (hf : Fits R) {row : List Pl} (hb : Closes row) (hl : Lab R row) : ∀ k, k ≤ row.length → uAt R row k < R.n
  | 0, _ => by rw [u_zero]; exact hf.e
  | k + 1, hk => by
    have ih := u_lt hf hb hl k (by omega)
    obtain ⟨p, hp⟩ : ∃ p, row[k]? = some p := ⟨_, List.getElem?_eq_getElem (by omega)⟩
    have hlp := hl p (List.mem_of_getElem? hp)
    obtain ⟨kd, x⟩ := p
    cases kd with
    | letter => rw [(at_letter R hp).1]; exact hf.mv _ _ ih (hf.lv x hlp)
    | call => rw [(at_call R hp).1]; exact hf.e
    | ret =>
      obtain ⟨c, v, a, s, e⟩ := open_ret R hb hp
      rw [(at_ret R hp e).1]
      obtain ⟨h1, h2, h3⟩ := opened R hb k (by omega) c v a (by rw [e]; exact List.mem_cons_self)
      have hla : a < R.nc := hl ⟨.call, a⟩ (List.mem_of_getElem? h2)
      have ihc := u_lt hf hb hl c (by omega)
      exact hf.mv _ _ (by rw [h3]; exact ihc) (hf.wv a x _ hla hlp ih)
termination_by k => k
/-- the mark of a place: the value that tells it -/
def mark (R : Rd) (row : List Pl) (k : Nat) : Nat := match row[k]? with
  | some ⟨.call, _⟩ => uAt R row k
  | _ => uAt R row (k + 1)
theorem mark_call (R : Rd) {row : List Pl} {k a : Nat} (h : row[k]? = some ⟨.call, a⟩) : mark R row k = uAt R row k := by unfold mark; rw [h]
theorem mark_letter (R : Rd) {row : List Pl} {k a : Nat} (h : row[k]? = some ⟨.letter, a⟩) : mark R row k = uAt R row (k + 1) := by unfold mark; rw [h]
theorem mark_ret (R : Rd) {row : List Pl} {k a : Nat} (h : row[k]? = some ⟨.ret, a⟩) : mark R row k = uAt R row (k + 1) := by unfold mark; rw [h]
theorem mark_lt {R : Rd} (hf : Fits R) {row : List Pl} (hb : Closes row) (hl : Lab R row) {k : Nat} (hk : k < row.length) : mark R row k < R.n := by
  unfold mark
  split
  · exact u_lt hf hb hl k (by omega)
  · exact u_lt hf hb hl (k + 1) (by omega)
theorem isC_iff {R : Rd} {row : List Pl} (hl : Lab R row) {k : Nat} : IsC R row k ↔ ∃ a, row[k]? = some ⟨.call, a⟩ :=
  ⟨fun ⟨a, _, h⟩ => ⟨a, h⟩, fun ⟨a, h⟩ => ⟨a, hl ⟨.call, a⟩ (List.mem_of_getElem? h), h⟩⟩
theorem mark_not (R : Rd) {row : List Pl} {k : Nat} (h : ¬ ∃ a, row[k]? = some ⟨.call, a⟩) : mark R row k = uAt R row (k + 1) := by
  unfold mark
  split
  · rename_i a e
    exact absurd ⟨a, e⟩ h
  · rfl
theorem last_not_call {row : List Pl} (hb : Bal row) (h0 : 0 < row.length) : ¬ ∃ a, row[row.length - 1]? = some ⟨.call, a⟩ := by
  rintro ⟨a, h⟩
  let R : Rd := ⟨0, 0, 0, 0, [], [], [], []⟩
  have h1 := (at_call R h).2
  have h2 := hb.2
  rw [show row.length - 1 + 1 = row.length by omega] at h1
  have h3 := pst_open R row row.length
  rw [List.take_length, h2, h1] at h3
  cases h3

/-- FIRST WAY: in all sets of which the walk is true every place is told by its mark -/
theorem walk_marks {R : Rd} (hf : Fits R) {row : List Pl} {S : List (List Nat)} (hb : Closes row) (hl : Lab R row) (W : Walk R row S) : ∀ k, k < row.length → Mem S (mark R row k) k
  | k, hk => by
    have bh : Bh R row S (uAt R row k) k := by
      cases k with
      | zero => rw [u_zero]; exact W.fi hk
      | succ j =>
        by_cases hc : ∃ a, row[j]? = some ⟨.call, a⟩
        · obtain ⟨a, hc⟩ := hc
          rw [(at_call R hc).1]
          exact W.nc j hk ((isC_iff hl).mpr ⟨a, hc⟩)
        · have ih := walk_marks hf hb hl W j (by omega)
          rw [mark_not R hc] at ih
          exact W.nx _ j (u_lt hf hb hl (j + 1) (by omega)) hk (fun q => hc ((isC_iff hl).mp q)) ih
    obtain ⟨p, hp⟩ : ∃ p, row[k]? = some p := ⟨_, List.getElem?_eq_getElem hk⟩
    have hlp := hl p (List.mem_of_getElem? hp)
    obtain ⟨kd, x⟩ := p
    cases kd with
    | letter => rw [mark_letter R hp, (at_letter R hp).1]; exact bh.1 x hlp hp
    | call => rw [mark_call R hp]; exact bh.2.1 x hlp hp
    | ret =>
      obtain ⟨c, v, a, s, e⟩ := open_ret R hb hp
      obtain ⟨h1, h2, h3⟩ := opened R hb k (by omega) c v a (by rw [e]; exact List.mem_cons_self)
      have hla : a < R.nc := hl ⟨.call, a⟩ (List.mem_of_getElem? h2)
      have ihc := walk_marks hf hb hl W c (by omega)
      rw [mark_call R h2, ← h3] at ihc
      rw [mark_ret R hp, (at_ret R hp e).1]
      have hu := u_lt hf hb hl k (by omega)
      refine W.ar v a c k (by rw [h3]; exact u_lt hf hb hl c (by omega)) hla ((pair_iff R hb).mpr ⟨x, v, a, s, hp, e⟩) h2 ihc x (uAt R row k) hlp hu hp (bh.2.2 x hlp hp)
termination_by k => k
theorem walk_acc {R : Rd} (hf : Fits R) {row : List Pl} {S : List (List Nat)} (hb : Bal row) (hl : Lab R row) (h0 : 0 < row.length) (W : Walk R row S) : (sst R row).2.1 ∈ R.acc := by
  obtain ⟨v, hv, hm⟩ := W.la h0
  have h1 := walk_marks hf hb.1 hl W (row.length - 1) (by omega)
  rw [mark_not R (last_not_call hb h0), show row.length - 1 + 1 = row.length by omega, u_end] at h1
  have hlt : (sst R row).2.1 < R.n := by rw [← u_end]; exact u_lt hf hb.1 hl _ (Nat.le_refl _)
  by_cases e : v = (sst R row).2.1
  · rw [← e]; exact hv
  · exact absurd h1 (W.ap (row.length - 1) v _ (by omega) (hf.ac v hv) hlt e hm)

/-- SECOND WAY: the sets of the marks -/
def isRet (row : List Pl) (k : Nat) : Bool := match row[k]? with
  | some ⟨.ret, _⟩ => true
  | _ => false
def inSet (R : Rd) (row : List Pl) (j k : Nat) : Bool := if j < R.n then decide (mark R row k = j) else isRet row k && decide (R.n + uAt R row k = j)
def setsOf (R : Rd) (row : List Pl) : List (List Nat) := (List.range (2 * R.n)).map fun j => (List.range row.length).filter fun k => inSet R row j k
theorem mem_sets {R : Rd} {row : List Pl} {j k : Nat} (hj : j < 2 * R.n) (hk : k < row.length) : Mem (setsOf R row) j k ↔ inSet R row j k = true := by
  unfold Mem setsOf
  rw [List.length_map, List.length_range, List.getD_eq_getElem?_getD, List.getElem?_map, List.getElem?_range hj]
  show (j < 2 * R.n ∧ k ∈ (List.range row.length).filter fun k => inSet R row j k) ↔ _
  rw [List.mem_filter, List.mem_range]
  exact ⟨fun h => h.2.2, fun h => ⟨hj, hk, h⟩⟩
theorem in_low {R : Rd} {row : List Pl} {j k : Nat} (hj : j < R.n) (hk : k < row.length) : Mem (setsOf R row) j k ↔ mark R row k = j := by
  rw [mem_sets (by omega) hk, inSet, if_pos hj, decide_eq_true_iff]
theorem in_high {R : Rd} {row : List Pl} {i k : Nat} (hi : i < R.n) (hk : k < row.length) : Mem (setsOf R row) (R.n + i) k ↔ (isRet row k = true ∧ uAt R row k = i) := by
  rw [mem_sets (by omega) hk, inSet, if_neg (by omega), Bool.and_eq_true, decide_eq_true_iff]
  constructor
  · exact fun ⟨h1, h2⟩ => ⟨h1, by omega⟩
  · exact fun ⟨h1, h2⟩ => ⟨h1, by omega⟩
theorem bh_sets {R : Rd} (hf : Fits R) {row : List Pl} (hb : Closes row) (hl : Lab R row) {k : Nat} (hk : k < row.length) : Bh R row (setsOf R row) (uAt R row k) k := by
  have hu := u_lt hf hb hl k (by omega)
  refine ⟨fun a ha h => ?_, fun a ha h => ?_, fun b hb' h => ?_⟩
  · have := (at_letter R h).1
    refine (in_low (hf.mv _ _ hu (hf.lv a ha)) hk).mpr ?_
    rw [mark_letter R h, this]
  · exact (in_low hu hk).mpr (mark_call R h)
  · exact (in_high hu hk).mpr ⟨by unfold isRet; rw [h], rfl⟩
theorem walk_sets {R : Rd} (hf : Fits R) {row : List Pl} (hb : Bal row) (hl : Lab R row) (ha : (sst R row).2.1 ∈ R.acc) : Walk R row (setsOf R row) := by
  refine ⟨fun k v w hk hv hw hvw h1 h2 => hvw (((in_low hv hk).mp h1).symm.trans ((in_low hw hk).mp h2)), fun h0 => ?_, fun k hk hc => ?_, fun h0 => ?_, fun u k hu hk hc hm => ?_, fun u a c r hu ha hp hc hm b i hb' hi hr hm2 => ?_⟩
  · have := bh_sets hf hb.1 hl (k := 0) h0
    rw [u_zero] at this
    exact this
  · obtain ⟨a, _, hc⟩ := hc
    have := bh_sets hf hb.1 hl (k := k + 1) hk
    rw [(at_call R hc).1] at this
    exact this
  · refine ⟨_, ha, (in_low (hf.ac _ ha) (by omega)).mpr ?_⟩
    rw [mark_not R (last_not_call hb h0), show row.length - 1 + 1 = row.length by omega, u_end]
  · have h1 := (in_low hu (by omega)).mp hm
    rw [mark_not R (fun q => hc ((isC_iff hl).mpr q))] at h1
    have := bh_sets hf hb.1 hl (k := k + 1) hk
    rw [h1] at this
    exact this
  · obtain ⟨b', v, a', s, h1, h2⟩ := (pair_iff R hb.1).mp hp
    rw [hr] at h1
    cases h1
    have hrl : r < row.length := (List.getElem?_eq_some_iff.mp hr).1
    obtain ⟨h3, h4, h5⟩ := opened R hb.1 r (by omega) c v a' (by rw [h2]; exact List.mem_cons_self)
    rw [hc] at h4
    cases h4
    have h6 := (in_low hu (by omega)).mp hm
    rw [mark_call R hc, ← h5] at h6
    subst h6
    obtain ⟨_, h7⟩ := (in_high hi hrl).mp hm2
    subst h7
    refine (in_low (hf.mv _ _ hu (hf.wv a b _ ha hb' hi)) hrl).mpr ?_
    rw [mark_ret R hr, (at_ret R hr h2).1]

/-! ### all sets are tried -/
theorem code_of (f : Nat → Bool) : ∀ m : Nat, ∃ c, c < 2 ^ m ∧ ∀ k, k < m → decide (c / 2 ^ k % 2 = 1) = f k
  | 0 => ⟨0, by decide, fun k h => absurd h (Nat.not_lt_zero k)⟩
  | m + 1 => by
    obtain ⟨c, h1, h2⟩ := code_of f m
    have e : 2 ^ (m + 1) = 2 ^ m + 2 ^ m := by rw [Nat.pow_succ]; omega
    cases hm : f m with
    | false =>
      refine ⟨c, by omega, fun k hk => ?_⟩
      by_cases q : k < m
      · exact h2 k q
      · have : k = m := by omega
        subst this
        rw [hm, Nat.div_eq_of_lt h1]
        rfl
    | true =>
      refine ⟨c + 2 ^ m, by omega, fun k hk => ?_⟩
      by_cases q : k < m
      · rw [← h2 k q]
        have e2 : 2 ^ m = 2 ^ k * (2 * 2 ^ (m - k - 1)) := by
          rw [← Nat.mul_assoc, ← Nat.pow_succ, ← Nat.pow_add]
          congr 1
          omega
        rw [e2, Nat.add_mul_div_left _ _ (Nat.two_pow_pos k), Nat.add_mul_mod_self_left]
      · have : k = m := by omega
        subst this
        rw [hm, show c + 2 ^ k = c + 2 ^ k * 1 by omega, Nat.add_mul_div_left _ _ (Nat.two_pow_pos k), Nat.div_eq_of_lt h1]
        rfl
theorem bits_of (f : Nat → Bool) (m : Nat) : ∃ c, c < 2 ^ m ∧ bitsOf c m = (List.range m).filter f := by
  obtain ⟨c, h1, h2⟩ := code_of f m
  refine ⟨c, h1, ?_⟩
  unfold bitsOf
  exact List.filter_congr fun k hk => h2 k (List.mem_range.mp hk)
theorem t_there {row : List Pl} {S : List (List Nat)} {p : Pt} : evalT row (.un .there p) S = true ↔ ∃ c, c < 2 ^ row.length ∧ evalT row p (S ++ [bitsOf c row.length]) = true := by
  show (List.any _ _) = true ↔ _
  rw [List.any_eq_true]
  exact ⟨fun ⟨c, h1, h2⟩ => ⟨c, List.mem_range.mp h1, h2⟩, fun ⟨c, h1, h2⟩ => ⟨c, List.mem_range.mpr h1, h2⟩⟩
theorem there_out {row : List Pl} {p : Pt} : ∀ (n : Nat) (S : List (List Nat)), evalT row (thereN n p) S = true → ∃ L, evalT row p (S ++ L) = true
  | 0, S, h => ⟨[], by rw [List.append_nil]; exact h⟩
  | n + 1, S, h => by
    obtain ⟨c, _, h2⟩ := t_there.mp h
    obtain ⟨L, h3⟩ := there_out n _ h2
    exact ⟨_, by rw [List.append_assoc] at h3; exact h3⟩
theorem there_in {row : List Pl} {p : Pt} : ∀ (fs : List (Nat → Bool)) (S : List (List Nat)), evalT row p (S ++ fs.map fun f => (List.range row.length).filter f) = true → evalT row (thereN fs.length p) S = true
  | [], S, h => by
    rw [List.map_nil, List.append_nil] at h
    exact h
  | f :: fs, S, h => by
    obtain ⟨c, h1, h2⟩ := bits_of f row.length
    refine t_there.mpr ⟨c, h1, there_in fs _ ?_⟩
    rw [h2, List.append_assoc]
    exact h
theorem there_iff {R : Rd} (hf : Fits R) {row : List Pl} (hb : Bal row) (hl : Lab R row) (h0 : 0 < row.length) : evalT row (thereN (2 * R.n) (walkP R)) [] = accepts R row := by
  rw [Bool.eq_iff_iff, accepts, decide_eq_true_iff]
  constructor
  · intro h
    obtain ⟨L, h⟩ := there_out _ _ h
    exact walk_acc hf hb hl h0 (walk_iff.mp h)
  · intro h
    have := there_in (row := row) (p := walkP R) ((List.range (2 * R.n)).map fun j => fun k => inSet R row j k) [] (by
      rw [List.nil_append, List.map_map]
      exact walk_iff.mpr (walk_sets hf hb hl h))
    rw [List.length_map, List.length_range] at this
    exact this
/-- THE LAW: the sentence of a reader is true of a text exactly if the reader accepts it -/
theorem sentence_says {R : Rd} (hf : Fits R) {row : List Pl} (hb : Bal row) (hl : Lab R row) : evalT row (sentP R) [] = accepts R row := by
  by_cases h0 : 0 < row.length
  · have hs : evalT row somePlace [] = true := by
      show (!decide (row.length = 0)) = true
      rw [decide_eq_false (by omega)]
      rfl
    have ht := there_iff hf hb hl h0
    unfold sentP
    by_cases e : R.empty ∈ R.acc
    · rw [if_pos e]
      show (!(evalT row somePlace [] && !evalT row (thereN (2 * R.n) (walkP R)) [])) = _
      rw [hs, ht]
      cases accepts R row <;> rfl
    · rw [if_neg e]
      show (evalT row somePlace [] && evalT row (thereN (2 * R.n) (walkP R)) []) = _
      rw [hs, ht]
      cases accepts R row <;> rfl
  · have e0 : row = [] := List.eq_nil_of_length_eq_zero (by omega)
    subst e0
    unfold sentP
    by_cases e : R.empty ∈ R.acc
    · rw [if_pos e]
      show true = decide (R.empty ∈ R.acc)
      rw [decide_eq_true e]
    · rw [if_neg e]
      show false = decide (R.empty ∈ R.acc)
      rw [decide_eq_false e]
theorem pairs_le (row : List Pl) : (pst row).2.1.length ≤ row.length ∧ (pst row).2.2.length ≤ row.length := by
  have H : ∀ (xs : List Pl) (k : Nat) (s : List Nat) (fd : List (Nat × Nat)), (xs.foldl pstep (k, s, fd)).2.1.length ≤ s.length + xs.length ∧ (xs.foldl pstep (k, s, fd)).2.2.length ≤ fd.length + xs.length := by
    intro xs
    induction xs with
    | nil => intro k s fd; exact ⟨Nat.le_refl _, Nat.le_refl _⟩
    | cons p r ih =>
      intro k s fd
      obtain ⟨kd, a⟩ := p
      rw [List.length_cons]
      cases kd with
      | letter =>
        have := ih (k + 1) s fd
        exact ⟨by show (r.foldl pstep (k + 1, s, fd)).2.1.length ≤ _; omega, by show (r.foldl pstep (k + 1, s, fd)).2.2.length ≤ _; omega⟩
      | call =>
        have := ih (k + 1) (k :: s) fd
        rw [List.length_cons] at this
        exact ⟨by show (r.foldl pstep (k + 1, k :: s, fd)).2.1.length ≤ _; omega, by show (r.foldl pstep (k + 1, k :: s, fd)).2.2.length ≤ _; omega⟩
      | ret =>
        cases s with
        | nil =>
          have := ih (k + 1) [] fd
          exact ⟨by show (r.foldl pstep (k + 1, [], fd)).2.1.length ≤ _; omega, by show (r.foldl pstep (k + 1, [], fd)).2.2.length ≤ _; omega⟩
        | cons c s =>
          have := ih (k + 1) s (fd ++ [(c, k)])
          rw [List.length_append, List.length_singleton] at this
          rw [List.length_cons]
          exact ⟨by show (r.foldl pstep (k + 1, s, fd ++ [(c, k)])).2.1.length ≤ _; omega, by show (r.foldl pstep (k + 1, s, fd ++ [(c, k)])).2.2.length ≤ _; omega⟩
  have := H row 0 [] []
  simp only [List.length_nil, Nat.zero_add] at this
  exact this
end K46

/-! How a sentence is laid out in lines, and the machine with a stack that lays it out. -/
namespace K46
/-- a line -/
inductive Ln
  | set (v : Nat)
  | pl (p : Pl)
  | nothing
  | un (o : Un) (i : Nat)
  | bin (o : Bin) (i j : Nat)
/-- lines that a part takes; how deep it is -/
def sz : Pt → Nat
  | .un _ p => sz p + 1
  | .bin _ p q => sz p + sz q + 1
  | _ => 1
def dep : Pt → Nat
  | .un .there p => dep p + 2
  | .un _ p => dep p + 1
  | .bin _ p q => max (dep p) (dep q) + 1
  | _ => 1
theorem sz_pos (p : Pt) : 0 < sz p := by cases p <;> simp [sz]
theorem dep_pos (p : Pt) : 0 < dep p := by
  cases p with
  | un o p => cases o <;> simp [dep]
  | bin o p q => simp [dep]
  | _ => simp [dep]
theorem dep_un (o : Un) (p : Pt) : dep p < dep (.un o p) := by cases o <;> simp [dep]
theorem dep_there (p : Pt) : dep (.un .there p) = dep p + 2 := rfl
theorem dep_binl (o : Bin) (p q : Pt) : dep p < dep (.bin o p q) := by
  show dep p < max (dep p) (dep q) + 1
  omega
theorem dep_binr (o : Bin) (p q : Pt) : dep q < dep (.bin o p q) := by
  show dep q < max (dep p) (dep q) + 1
  omega
/-- the lines of a part, from the number b on -/
def lay (b : Nat) : Pt → List Ln
  | .set v => [.set v]
  | .pl p => [.pl p]
  | .nothing => [.nothing]
  | .un o p => lay b p ++ [.un o (b + sz p - 1)]
  | .bin o p q => lay b p ++ (lay (b + sz p) q ++ [.bin o (b + sz p - 1) (b + sz p + sz q - 1)])
theorem lay_len : ∀ (p : Pt) (b : Nat), (lay b p).length = sz p
  | .set _, _ => rfl
  | .pl _, _ => rfl
  | .nothing, _ => rfl
  | .un o p, b => by
    have := lay_len p b
    simp only [lay, sz, List.length_append, List.length_singleton, this]
  | .bin o p q, b => by
    have h1 := lay_len p b
    have h2 := lay_len q (b + sz p)
    simp only [lay, sz, List.length_append, List.length_singleton, h1, h2]
    omega
/-- the line at i bears the part -/
def Bears (ls : List Ln) : Nat → Pt → Prop
  | i, .set v => ls[i]? = some (.set v)
  | i, .pl p => ls[i]? = some (.pl p)
  | i, .nothing => ls[i]? = some .nothing
  | i, .un o p => ∃ j, ls[i]? = some (.un o j) ∧ Bears ls j p
  | i, .bin o p q => ∃ j k, ls[i]? = some (.bin o j k) ∧ Bears ls j p ∧ Bears ls k q
theorem bears_more {ls : List Ln} (more : List Ln) : ∀ (p : Pt) (i : Nat), Bears ls i p → Bears (ls ++ more) i p
  | .set v, i, h => by
    have h : ls[i]? = some (.set v) := h
    show (ls ++ more)[i]? = some (.set v)
    rw [List.getElem?_append_left (List.getElem?_eq_some_iff.mp h).1, h]
  | .pl p, i, h => by
    have h : ls[i]? = some (.pl p) := h
    show (ls ++ more)[i]? = some (.pl p)
    rw [List.getElem?_append_left (List.getElem?_eq_some_iff.mp h).1, h]
  | .nothing, i, h => by
    have h : ls[i]? = some .nothing := h
    show (ls ++ more)[i]? = some .nothing
    rw [List.getElem?_append_left (List.getElem?_eq_some_iff.mp h).1, h]
  | .un o p, i, ⟨j, h, hp⟩ => ⟨j, by rw [List.getElem?_append_left (List.getElem?_eq_some_iff.mp h).1, h], bears_more more p j hp⟩
  | .bin o p q, i, ⟨j, k, h, hp, hq⟩ => ⟨j, k, by rw [List.getElem?_append_left (List.getElem?_eq_some_iff.mp h).1, h], bears_more more p j hp, bears_more more q k hq⟩
theorem last_at {pre mid : List Ln} {x : Ln} {n : Nat} (h : pre.length + mid.length = n) : (pre ++ (mid ++ [x]))[n]? = some x := by
  rw [← List.append_assoc, List.getElem?_append_right (by rw [List.length_append]; omega), List.length_append, show n - (pre.length + mid.length) = 0 by omega]
  rfl
theorem bears_lay : ∀ (p : Pt) (pre : List Ln), Bears (pre ++ lay pre.length p) (pre.length + sz p - 1) p
  | .set v, pre => last_at (mid := []) rfl
  | .pl p, pre => last_at (mid := []) rfl
  | .nothing, pre => last_at (mid := []) rfl
  | .un o p, pre => by
    have ih := bears_lay p pre
    have hp := sz_pos p
    refine ⟨pre.length + sz p - 1, last_at (by rw [lay_len]; simp only [sz]; omega), ?_⟩
    rw [lay, ← List.append_assoc]
    exact bears_more _ p _ ih
  | .bin o p q, pre => by
    have h1 := bears_lay p pre
    have h2 := bears_lay q (pre ++ lay pre.length p)
    have hp := sz_pos p
    have hq := sz_pos q
    rw [List.length_append, lay_len] at h2
    refine ⟨pre.length + sz p - 1, pre.length + sz p + sz q - 1, ?_, ?_, ?_⟩
    · have e : pre ++ lay pre.length (.bin o p q) = pre ++ ((lay pre.length p ++ lay (pre.length + sz p) q) ++ [.bin o (pre.length + sz p - 1) (pre.length + sz p + sz q - 1)]) := by
        rw [lay, List.append_assoc]
      rw [e]
      exact last_at (by rw [List.length_append, lay_len, lay_len]; simp only [sz]; omega)
    · rw [lay, ← List.append_assoc]
      exact bears_more _ p _ h1
    · rw [lay, ← List.append_assoc, ← List.append_assoc]
      exact bears_more _ q _ h2

/-- the machine: rows, numbers, what waits (the next first) leads to the rows T -/
inductive Run (T : List Ln) : List Ln → List Nat → List (Pt × Bool) → Prop
  | done {ns} : Run T T ns []
  | set {v rs ns b w} : Run T (rs ++ [.set v]) (ns ++ [rs.length]) w → Run T rs ns ((.set v, b) :: w)
  | pl {p rs ns b w} : Run T (rs ++ [.pl p]) (ns ++ [rs.length]) w → Run T rs ns ((.pl p, b) :: w)
  | nothing {rs ns b w} : Run T (rs ++ [.nothing]) (ns ++ [rs.length]) w → Run T rs ns ((.nothing, b) :: w)
  | openUn {o p rs ns w} : Run T rs ns ((p, false) :: (.un o p, true) :: w) → Run T rs ns ((.un o p, false) :: w)
  | shutUn {o p rs ns i w} : Run T (rs ++ [.un o i]) (ns ++ [rs.length]) w → Run T rs (ns ++ [i]) ((.un o p, true) :: w)
  | openBin {o p q rs ns w} : Run T rs ns ((p, false) :: (q, false) :: (.bin o p q, true) :: w) → Run T rs ns ((.bin o p q, false) :: w)
  | shutBin {o p q rs ns i j w} : Run T (rs ++ [.bin o i j]) (ns ++ [rs.length]) w → Run T rs (ns ++ [i, j]) ((.bin o p q, true) :: w)
theorem run_part {T : List Ln} : ∀ (p : Pt) (rs : List Ln) (ns : List Nat) (w : List (Pt × Bool)), Run T (rs ++ lay rs.length p) (ns ++ [rs.length + sz p - 1]) w → Run T rs ns ((p, false) :: w)
  | .set v, rs, ns, w, h => .set h
  | .pl p, rs, ns, w, h => .pl h
  | .nothing, rs, ns, w, h => .nothing h
  | .un o p, rs, ns, w, h => by
    have hp := sz_pos p
    refine .openUn (run_part p rs ns _ (.shutUn ?_))
    rw [List.length_append, lay_len, List.append_assoc]
    exact h
  | .bin o p q, rs, ns, w, h => by
    have hp := sz_pos p
    have hq := sz_pos q
    refine .openBin (run_part p rs ns _ (run_part q _ _ _ ?_))
    rw [List.length_append, lay_len, List.append_assoc, List.append_assoc]
    refine .shutBin ?_
    rw [List.append_assoc, List.append_assoc, List.length_append, List.length_append, lay_len, lay_len]
    have e : rs.length + (sz p + sz q) = rs.length + sz (.bin o p q) - 1 := by simp only [sz]; omega
    rw [e]
    exact h
theorem run_lay (p : Pt) : Run (lay 0 p) [] [] [(p, false)] := run_part p [] [] [] .done
/-- the rows only grow -/
theorem run_grows {T rs : List Ln} {ns : List Nat} {w : List (Pt × Bool)} (h : Run T rs ns w) : rs.length ≤ T.length := by
  induction h with
  | done => exact Nat.le_refl _
  | set _ ih => rw [List.length_append] at ih; omega
  | pl _ ih => rw [List.length_append] at ih; omega
  | nothing _ ih => rw [List.length_append] at ih; omega
  | openUn _ ih => exact ih
  | shutUn _ ih => rw [List.length_append] at ih; omega
  | openBin _ ih => exact ih
  | shutBin _ ih => rw [List.length_append] at ih; omega
/-- what is still to do -/
def wt : List (Pt × Bool) → Nat
  | [] => 0
  | (p, false) :: w => 2 * sz p + wt w
  | (_, true) :: w => 1 + wt w
theorem wt_cons (p : Pt) (b : Bool) (w : List (Pt × Bool)) : wt w < wt ((p, b) :: w) := by
  have := sz_pos p
  cases b <;> simp only [wt] <;> omega
theorem wt_len : ∀ w : List (Pt × Bool), w.length ≤ wt w
  | [] => Nat.le_refl _
  | (p, b) :: w => by
    have h1 := wt_len w
    have h2 := wt_cons p b w
    rw [List.length_cons]
    omega
theorem wt_un (o : Un) (p : Pt) (w : List (Pt × Bool)) : wt ((p, false) :: (.un o p, true) :: w) < wt ((.un o p, false) :: w) := by
  simp only [wt, sz]
  omega
theorem wt_bin (o : Bin) (p q : Pt) (w : List (Pt × Bool)) : wt ((p, false) :: (q, false) :: (.bin o p q, true) :: w) < wt ((.bin o p q, false) :: w) := by
  simp only [wt, sz]
  omega

/-! ### which parts speak of a place, which of a text -/
def isP : Pt → Bool
  | .set _ => true
  | .pl _ => true
  | .un .not p => isP p
  | .bin .and p q => isP p && isP q
  | _ => false
def isT : Pt → Bool
  | .nothing => true
  | .un .denied p => isT p
  | .un .there p => isT p
  | .un .all p => isP p
  | .un .first p => isP p
  | .un .last p => isP p
  | .bin .both p q => isT p && isT q
  | .bin .next p q => isP p && isP q
  | .bin .arch p q => isP p && isP q
  | _ => false
end K46

/-! The text by places, and how parts, readers, rows, lines lie in the heap. -/
namespace K46
open PySem L2 Evl
/-! ### the text -/
def top (i : Nat) : Stmt := PySem.Challenge.pw_archway_k46_whole_sentences_of_readers.main.body.getD i (.Pass ⟨0, 0, 0, 0⟩)
abbrev sYes : Stmt := top 8
abbrev sEvery : Stmt := top 9
abbrev sSome : Stmt := top 10
abbrev sIfThen : Stmt := top 11
abbrev sBehind : Stmt := top 12
abbrev sApart : Stmt := top 13
abbrev sArch : Stmt := top 14
abbrev sParts : Stmt := top 15
abbrev sWalk : Stmt := top 16
abbrev sAdd : Stmt := top 17
abbrev sLaid : Stmt := top 18
abbrev sSent : Stmt := top 19
abbrev sCheck : Stmt := top 22
abbrev sBeh : Stmt := top 23
abbrev sValue : Stmt := top 24
abbrev sAccepts : Stmt := top 25
abbrev sDraw : Stmt := top 27
abbrev sText : Stmt := top 28
abbrev sProduct : Stmt := top 29
abbrev sTrue : Stmt := top 30
abbrev sPairs : Stmt := top 31
abbrev sSomeSet : Stmt := top 32
abbrev sSo : Stmt := top 33
abbrev sTiny : Stmt := top 34
abbrev sLaw : Stmt := top 35
/-! ### words -/
def kdS : Kd → Str
  | .letter => "letter"
  | .call => "call"
  | .ret => "return"
def unS : Un → Str
  | .not => "not"
  | .all => "all"
  | .first => "first"
  | .last => "last"
  | .denied => "denied"
  | .there => "there"
def binS : Bin → Str
  | .and => "and"
  | .next => "next"
  | .arch => "arch"
  | .both => "both"
/-! ### parts -/
def PtAt (H : Hp) : V → Pt → Prop
  | v, .set n => ∃ a, v = .ref a ∧ H a = some (.tup [.str "set", .int (n : Nat)])
  | v, .pl p => ∃ a, v = .ref a ∧ H a = some (.tup [.str (kdS p.k), .int (p.a : Nat)])
  | v, .nothing => ∃ a, v = .ref a ∧ H a = some (.tup [.str "nothing"])
  | v, .un o p => ∃ a x, v = .ref a ∧ H a = some (.tup [.str (unS o), x]) ∧ PtAt H x p
  | v, .bin o p q => ∃ a x y, v = .ref a ∧ H a = some (.tup [.str (binS o), x, y]) ∧ PtAt H x p ∧ PtAt H y q
/-- the tuples stay -/
def Tps (H H' : Hp) : Prop := ∀ a xs, H a = some (.tup xs) → H' a = some (.tup xs)
theorem Tps.refl (H : Hp) : Tps H H := fun _ _ h => h
theorem Tps.trans {H H1 H2 : Hp} (a : Tps H H1) (b : Tps H1 H2) : Tps H H2 := fun x o h => b x o (a x o h)
theorem tps_of {H H' : Hp} (e : Same H H') : Tps H H' := fun a xs h => e a _ h
theorem tps_put {H : Hp} {p : Addr} {ys : List V} (h : H p = some (.lst ys)) (o : HO) : Tps H (upd H p o) := fun a xs q => by
  rw [upd_ne (ne_of q h (fun z => nomatch z))]
  exact q
theorem PtAt.tps {H H' : Hp} (e : Tps H H') : ∀ {p : Pt} {v : V}, PtAt H v p → PtAt H' v p
  | .set _, _, ⟨a, h1, h2⟩ => ⟨a, h1, e _ _ h2⟩
  | .pl _, _, ⟨a, h1, h2⟩ => ⟨a, h1, e _ _ h2⟩
  | .nothing, _, ⟨a, h1, h2⟩ => ⟨a, h1, e _ _ h2⟩
  | .un _ p, _, ⟨a, x, h1, h2, h3⟩ => ⟨a, x, h1, e _ _ h2, PtAt.tps e h3⟩
  | .bin _ p q, _, ⟨a, x, y, h1, h2, h3, h4⟩ => ⟨a, x, y, h1, e _ _ h2, PtAt.tps e h3, PtAt.tps e h4⟩
theorem PtAt.mono {H H' : Hp} (e : Same H H') {p : Pt} {v : V} (h : PtAt H v p) : PtAt H' v p := h.tps (tps_of e)
abbrev PtsAt (H : Hp) : List V → List Pt → Prop := Paired (PtAt H)
theorem PtsAt.tps {H H' : Hp} (e : Tps H H') {vs : List V} {ps : List Pt} (h : PtsAt H vs ps) : PtsAt H' vs ps := Paired.mapP h fun _ _ q => q.tps e
theorem PtsAt.mono {H H' : Hp} (e : Same H H') {vs : List V} {ps : List Pt} (h : PtsAt H vs ps) : PtsAt H' vs ps := h.tps (tps_of e)
theorem paired_at {α β : Type} {F : α → β → Prop} : ∀ {xs : List α} {ys : List β} {i : Nat} {x : α}, Paired F xs ys → xs[i]? = some x → ∃ y, ys[i]? = some y ∧ F x y
  | _, _, _, _, .nil, h => by simp at h
  | _, _, 0, _, .cons r _, h => by
    simp at h
    subst h
    exact ⟨_, rfl, r⟩
  | _, _, i + 1, _, .cons _ t, h => by
    obtain ⟨y, h1, h2⟩ := paired_at (i := i) t (by simpa using h)
    exact ⟨y, by simpa using h1, h2⟩
theorem paired_at' {α β : Type} {F : α → β → Prop} : ∀ {xs : List α} {ys : List β} {i : Nat} {y : β}, Paired F xs ys → ys[i]? = some y → ∃ x, xs[i]? = some x ∧ F x y
  | _, _, _, _, .nil, h => by simp at h
  | _, _, 0, _, .cons r _, h => by
    simp at h
    subst h
    exact ⟨_, rfl, r⟩
  | _, _, i + 1, _, .cons _ t, h => by
    obtain ⟨y, h1, h2⟩ := paired_at' (i := i) t (by simpa using h)
    exact ⟨y, by simpa using h1, h2⟩
theorem paired_append {α β : Type} {F : α → β → Prop} : ∀ {xs xs' : List α} {ys ys' : List β}, Paired F xs ys → Paired F xs' ys' → Paired F (xs ++ xs') (ys ++ ys')
  | _, _, _, _, .nil, s => s
  | _, _, _, _, .cons r t, s => .cons r (paired_append t s)
theorem same_new {H : Hp} {p : Addr} (h : H p = none) (o : HO) : Same H (upd H p o) := fun b u q => by rw [upd_ne (ne_of_none q h)]; exact q
/-- a change at a place that H0 does not know -/
theorem same_put {H0 H : Hp} {p : Addr} (e : Same H0 H) (h : H0 p = none) (o : HO) : Same H0 (upd H p o) := fun b u q => by
  rw [upd_ne (ne_of_none q h)]
  exact e b u q
theorem same_sqt {K : PySem.W.Frag} {H H' : Hp} {a : Addr} {xs : List V} (e : Same H H') (h : SqT K H a xs) : SqT K H' a xs := ex_t e h
theorem small (n : Nat) (h : n ≤ 100000 := by first | decide | omega) : n ≤ sizeLine := sz_of h
/-! ### what an expression gives: a part, a new list of parts -/
def EP (te : TE) (σ : L2.St) (H : Hp) (p : Pt) : Prop := ∀ H1, Same H H1 → ∀ Q : VK, (∀ v H2, Same H1 H2 → PtAt H2 v p → Q v H2) → te σ H1 Q
def ELP (te : TE) (σ : L2.St) (H : Hp) (ps : List Pt) : Prop := ∀ H1, Same H H1 → ∀ Q : VK, (∀ a vs H2, H1 a = none → Same H1 H2 → H2 a = some (.lst vs) → PtsAt H2 vs ps → Q (.ref a) H2) → te σ H1 Q
section
variable {te ta tb : TE} {σ : L2.St} {H : Hp} {p q : Pt}
theorem EP.mono {H' : Hp} (e : Same H H') (h : EP te σ H p) : EP te σ H' p := fun H1 e1 Q k => h H1 (e.trans e1) Q k
theorem ep_var {i : Nat} {v : V} (h : σ[i]? = some (some v)) (hp : PtAt H v p) : EP (tVar i) σ H p := fun H1 e Q k => ⟨v, h, k v H1 (Same.refl _) (hp.mono e)⟩
theorem ep_set {n : Nat} (h : Ev te σ H (.int (n : Nat))) : EP (tTup (tCons (tC (.str "set")) (tCons te tNil))) σ H (.set n) := fun H1 e Q k =>
  h H1 e _ fun H2 e2 => ⟨small 2, fun a ha => k _ _ (e2.trans (same_new ha _)) ⟨a, rfl, upd_same⟩⟩
theorem ep_pl (kd : Kd) {n : Nat} (h : Ev te σ H (.int (n : Nat))) : EP (tTup (tCons (tC (.str (kdS kd))) (tCons te tNil))) σ H (.pl ⟨kd, n⟩) := fun H1 e Q k =>
  h H1 e _ fun H2 e2 => ⟨small 2, fun a ha => k _ _ (e2.trans (same_new ha _)) ⟨a, rfl, upd_same⟩⟩
theorem ep_nothing : EP (tTup (tCons (tC (.str "nothing")) tNil)) σ H .nothing := fun H1 e Q k =>
  ⟨small 1, fun a ha => k _ _ (same_new ha _) ⟨a, rfl, upd_same⟩⟩
theorem ep_un (o : Un) (h : EP te σ H p) : EP (tTup (tCons (tC (.str (unS o))) (tCons te tNil))) σ H (.un o p) := fun H1 e Q k =>
  h H1 e _ fun v H2 e2 hv => ⟨small 2, fun a ha => k _ _ (e2.trans (same_new ha _)) ⟨a, v, rfl, upd_same, hv.mono (same_new ha _)⟩⟩
theorem ep_bin (o : Bin) (h : EP ta σ H p) (h' : EP tb σ H q) : EP (tTup (tCons (tC (.str (binS o))) (tCons ta (tCons tb tNil)))) σ H (.bin o p q) := fun H1 e Q k =>
  h H1 e _ fun v H2 e2 hv => h' H2 (e.trans e2) _ fun u H3 e3 hu => ⟨small 3, fun a ha => k _ _ ((e2.trans e3).trans (same_new ha _)) ⟨a, v, u, rfl, upd_same, hv.mono (e3.trans (same_new ha _)), hu.mono (same_new ha _)⟩⟩
/-- name = part -/
theorem s_part {i : Nat} {D : Ends} (h : EP te σ H p) (k : ∀ v H1, Same H H1 → PtAt H1 v p → D.nx (σ.set i (some v)) H1) : tAsg te (gName i) D σ H := h H (Same.refl _) _ fun v H1 e hv => k v H1 e hv
theorem s_retP {D : Ends} (h : EP te σ H p) (k : ∀ v H1, Same H H1 → PtAt H1 v p → D.rt v H1) : tRet te D σ H := h H (Same.refl _) _ k
/-- [part for x in range(n)] -/
theorem elp_range {ti : TA} {j : Nat} {vs : List Nat} {n : Nat} (f : Nat → Pt) (hn : n ≤ 1000) (hr : EvA ti σ H [.int (n : Nat)]) (hw : ∀ x, wipe ((wipe σ vs).set j (some x)) vs = wipe σ vs)
    (he : ∀ (i : Nat) H1, Same H H1 → i < n → EP te ((wipe σ vs).set j (some (.int (i : Nat)))) H1 (f i)) :
    ELP (tLc (iRng1 ti) (gName j) tYes te vs) σ H ((List.range n).map f) := fun H0 e0 Q k => hr H0 e0 _ fun H1 e1 => ⟨_, rfl, by omega, by omega, fun Dl hD =>
  lc_range (lo := 0) (n := (n : Int).toNat) (fun i H' => Same H1 H' ∧ ∃ xs, H' Dl = some (.lst xs) ∧ PtsAt H' xs ((List.range i).map f)) ⟨same_new hD _, [], upd_same, .nil⟩
    (fun i H' hi ⟨s1, xs, h1, h2⟩ => by
      have e0' : (0 : Int) + (i : Int) = (i : Int) := Int.zero_add _
      show wipe ((wipe σ vs).set j (some (.int ((0 : Int) + (i : Int))))) vs = wipe σ vs ∧ te ((wipe σ vs).set j (some (.int ((0 : Int) + (i : Int))))) H' fun y H4 => ∃ acc, H4 Dl = some (.lst acc) ∧ acc.length < sizeLine ∧ _
      rw [e0']
      refine ⟨hw _, he i H' ((e0.trans e1).trans s1) (by omega) H' (Same.refl _) _ fun v H2 e2 hv => ⟨xs, e2 _ _ h1, sz_lt ?_, ?_⟩⟩
      · have := h2.length
        rw [List.length_map, List.length_range] at this
        omega
      · have hs : Same H1 (upd H2 Dl (.lst (xs ++ [v]))) := same_put (s1.trans e2) hD _
        refine ⟨hs, _, upd_same, ?_⟩
        rw [List.range_succ, List.map_append]
        have ht := tps_put (e2 _ _ h1) (.lst (xs ++ [v]))
        exact paired_append (h2.tps ((tps_of e2).trans ht)) (.cons (hv.tps ht) .nil))
    (fun H' ⟨s1, xs, h1, h2⟩ => k Dl xs H' (by
      cases hz : H0 Dl with
      | none => rfl
      | some o => rw [e1 _ _ hz] at hD; cases hD) (e1.trans s1) h1 h2)⟩
end
end K46

/-! yes, every, some, if_then, apart, walk_part's loop. -/
namespace K46
open PySem L2 Evl
/-- a def that keeps a promise, as its callers need it -/
def Called (P : Program) (w : World) (K : PySem.W.Frag) (mg : Str → Option Value) (base : Heap) (k : Nat) (x : Str) (ps : List Str) (sp : Sp) : Prop :=
  ∃ (f : Addr) (fd : FuncData), FnOk P w K mg base CX0 k f fd ps sp ∧ mg x = some (.ref f) ∧ PySem.W.keepIn K (.ref f) = true ∧ Binds K fd ps []
/-- a def of the text -/
def Here (K : PySem.W.Frag) (mg : Str → Option Value) (x : Str) (st : Stmt) : Prop := ∃ (f : Addr) (fd : FuncData), Fun K x x st f fd ∧ mg x = some (.ref f)
/-- a tuple that the top has written -/
def WTup (K : PySem.W.Frag) (a : Addr) (xs : List V) : Prop :=
  ∃ (o : Obj) (its : Array Value) (n : Nat), K.lookup a = some o ∧ o.cls = .type "tuple" ∧ o.dict = none ∧ o.data = .seq its n ∧ its.size ≤ sizeLine ∧ Vals xs its.toList
theorem WTup.sq {K : PySem.W.Frag} {a : Addr} {xs : List V} (h : WTup K a xs) (H : Hp) : SqT K H a xs := by
  obtain ⟨o, its, n, h1, h2, _, h3, h4, h5⟩ := h
  exact .inr ⟨o, its, n, h1, h2, h3, h4, h5⟩
def leaves : List Str := ["set", "letter", "call", "return", "nothing"]
def kinds : List Str := ["letter", "call", "return"]
/-- the other names of the top -/
structure Glob (K : PySem.W.Frag) (mg : Str → Option Value) : Prop where
  rev : mg "reversed" = none
  rng : mg "range" = none
  len : mg "len" = none
  tup : mg "tuple" = none
  enu : mg "enumerate" = none
  int : mg "int" = none
  max : mg "max" = none
  lst : mg "list" = none
  all : mg "all" = none
  most : ∃ t, mg "MOST_LINES" = some (.int 4000 t)
  leaves : ∃ a, mg "LEAVES" = some (.ref a) ∧ WTup K a (leaves.map V.str)
  kinds : ∃ a, mg "KINDS" = some (.ref a) ∧ WTup K a (kinds.map V.str)
/-- the slots, written out -/
theorem st_is {F : L2.St → Hp → Prop} {σ : L2.St} {H : Hp} (σ' : L2.St) (e : σ = σ') (h : F σ' H) : F σ H := by
  rw [e]
  exact h
section
variable {P : Program} {w : World} {K : PySem.W.Frag} {mg : Str → Option Value} {base : Heap}
theorem Called.mono {j k : Nat} {x : Str} {ps : List Str} {sp : Sp} (h : Called P w K mg base j x ps sp) (l : j ≤ k) : Called P w K mg base k x ps sp := by
  obtain ⟨f, fd, F, r⟩ := h
  exact ⟨f, fd, F.mono l, r⟩
/-! ### yes -/
def spYes : Sp := fun vs H Q _ => vs = [] ∧ ∀ v H', Same H H' → PtAt H' v yesP → Q v H'
theorem ep_yes {σ : L2.St} {H : Hp} {E : XK} : EP (tCall spYes [] E tNil) σ H yesP := fun H1 e Q k => ⟨rfl, k⟩
theorem scYes : FnScope [] [] (defScope sYes) := ⟨rfl, rfl, rfl, by decide +kernel, rfl, by decide +kernel, by decide +kernel⟩
theorem c_yes (h : Here K mg "yes" sYes) : Called P w K mg base 1 "yes" [] spYes := by
  obtain ⟨f, fd, F, m⟩ := h
  refine ⟨f, fd, F.ok scYes (fun vs H Q E h => ?_) (fun cdv A outer s H vs Q E hr h => ?_), m, F.kp, F.binds fun _ _ _ _ _ _ us hl => match us, hl with | [], _ => rfl⟩
  · rw [h.1]; rfl
  · obtain ⟨rfl, k⟩ := h
    refine ⟨_, pss_one (ps_ret (pe_tup (pa_cons pe_str (pa_cons (pe_tup (pa_cons pe_str (pa_cons (pe_tup (pa_cons pe_str (pa_cons pe_int pa_nil))) (pa_cons (pe_tup (pa_cons pe_str (pa_cons (pe_tup (pa_cons pe_str (pa_cons pe_int pa_nil))) pa_nil))) pa_nil)))) pa_nil)))), ?_⟩
    exact s_retP (ep_un .not (ep_bin .and (ep_set (n := 0) ev_c) (ep_un .not (ep_set (n := 0) ev_c)))) k
/-! ### if_then -/
def spIf : Sp := fun vs H Q _ => ∃ x y p q, vs = [x, y] ∧ PtAt H x p ∧ PtAt H y q ∧ ∀ v H', Same H H' → PtAt H' v (ifThenP p q) → Q v H'
theorem ep_if {σ : L2.St} {H : Hp} {E : XK} {ta tb : TE} {p q : Pt} (h1 : EP ta σ H p) (h2 : EP tb σ H q) : EP (tCall spIf [] E (tCons ta (tCons tb tNil))) σ H (ifThenP p q) := fun H1 e Q k =>
  h1 H1 e _ fun v H2 e2 hv => h2 H2 (e.trans e2) _ fun u H3 e3 hu => ⟨v, u, p, q, rfl, hv.mono e3, hu, fun z H4 e4 hz => k z H4 ((e2.trans e3).trans e4) hz⟩
theorem scIf : FnScope ["first", "second"] ["first", "second"] (defScope sIfThen) := ⟨rfl, rfl, rfl, by decide +kernel, rfl, by decide +kernel, by decide +kernel⟩
theorem c_if (h : Here K mg "if_then" sIfThen) : Called P w K mg base 1 "if_then" ["first", "second"] spIf := by
  obtain ⟨f, fd, F, m⟩ := h
  refine ⟨f, fd, F.ok scIf (fun vs H Q E h => ?_) (fun cdv A outer s H vs Q E hr h => ?_), m, F.kp, F.binds fun _ _ _ _ _ _ us hl => match us, hl with | [_, _], _ => rfl⟩
  · obtain ⟨x, y, p, q, rfl, _⟩ := h; rfl
  · obtain ⟨x, y, p, q, rfl, hx, hy, k⟩ := h
    refine ⟨_, pss_one (ps_ret (pe_tup (pa_cons pe_str (pa_cons (pe_tup (pa_cons pe_str (pa_cons (pv 0) (pa_cons (pe_tup (pa_cons pe_str (pa_cons (pv 1) pa_nil))) pa_nil)))) pa_nil)))), ?_⟩
    exact s_retP (ep_un .not (ep_bin .and (ep_var rfl hx) (ep_un .not (ep_var rfl hy)))) k
/-! ### every, some: a list folded from behind -/
def spFold (f : List Pt → Pt) (K : PySem.W.Frag) : Sp := fun vs H Q _ => ∃ a xs ps, vs = [.ref a] ∧ SqL K H a xs ∧ PtsAt H xs ps ∧ ∀ v H', Same H H' → PtAt H' v (f ps) → Q v H'
theorem drop_one {α : Type} {ps : List α} {i : Nat} {p : α} (hi : i < ps.length) (h : ps[ps.length - 1 - i]? = some p) : ps.drop (ps.length - (i + 1)) = p :: ps.drop (ps.length - i) := by
  have e : ps.length - 1 - i = ps.length - (i + 1) := by omega
  rw [e] at h
  obtain ⟨h1, h2⟩ := List.getElem?_eq_some_iff.mp h
  rw [List.drop_eq_getElem_cons h1, h2]
  congr 1
  congr 1
  omega
/-- the loop: slot 2 holds the item -/
theorem s_fold {D : Ends} {tb : TS} {ta : TA} {σ : L2.St} {H : Hp} {ps : List Pt} {z : Pt} (g : Pt → Pt → Pt) (mk : V → Option V → L2.St) (hset : ∀ m y v, (mk m y).set 2 (some v) = mk m (some v))
    {m0 : V} (h0 : σ = mk m0 none) (hz : PtAt H m0 z) (ha : ∀ R : List V → Hp → Prop, (∀ a xs H1, Same H H1 → SqL K H1 a xs → PtsAt H1 xs ps → R [.ref a] H1) → ta σ H R)
    (hb : ∀ m p v q H1 (D1 : Ends), Same H H1 → PtAt H1 m q → PtAt H1 v p → (∀ m' H2, Same H1 H2 → PtAt H2 m' (g p q) → D1.nx (mk m' (some v)) H2) → tb D1 (mk m (some v)) H1)
    (hd : ∀ m y H1, Same H H1 → PtAt H1 m (ps.foldr g z) → D.nx (mk m y) H1) : tFor (iRev K ta) (gName 2) tb D σ H := by
  refine ha _ fun a xs H1 e1 hx hp => ⟨a, xs, rfl, hx, ?_⟩
  have hl := hp.length
  refine RT.for_Itv (fun i σ' H' => ∃ m y, σ' = mk m y ∧ Same H1 H' ∧ PtAt H' m ((ps.drop (ps.length - i)).foldr g z)) ⟨m0, none, h0, Same.refl _, ?_⟩ (fun i σ' H' ⟨_, _, _, s1, _⟩ => ex_l s1 hx) ?_ ?_
  · rw [Nat.sub_zero, List.drop_length]
    exact hz.mono e1
  · rintro i x σ' H' hi hxi ⟨m, y, rfl, s1, hm⟩
    obtain ⟨p, hpi, hxp⟩ := paired_at hp hxi
    show tb _ ((mk m y).set 2 (some x)) H'
    rw [hset]
    refine hb m p x _ H' _ (e1.trans s1) hm (hxp.mono s1) fun m' H2 e2 hm' => ⟨m', _, rfl, s1.trans e2, ?_⟩
    rw [hl] at hi hpi
    rw [drop_one hi hpi]
    exact hm'
  · rintro σ' H' ⟨m, y, rfl, s1, hm⟩
    refine hd m y H' (e1.trans s1) ?_
    rw [hl, Nat.sub_self, List.drop_zero] at hm
    exact hm
theorem from_var {σ : L2.St} {H : Hp} {i : Nat} {a : Addr} {xs : List V} {ps : List Pt} (hi : σ[i]? = some (some (.ref a))) (hx : SqL K H a xs) (hp : PtsAt H xs ps) (R : List V → Hp → Prop)
    (k : ∀ a xs H1, Same H H1 → SqL K H1 a xs → PtsAt H1 xs ps → R [.ref a] H1) : tCons (tVar i) tNil σ H R := ⟨_, hi, k a xs H (Same.refl _) hx hp⟩
theorem from_list {σ : L2.St} {H : Hp} {te : TE} {ps : List Pt} (h : ELP te σ H ps) (R : List V → Hp → Prop)
    (k : ∀ a xs H1, Same H H1 → SqL K H1 a xs → PtsAt H1 xs ps → R [.ref a] H1) : tCons te tNil σ H R := h H (Same.refl _) _ fun a vs H1 _ e1 h1 hp => k a vs H1 e1 (SqL.of h1) hp
theorem scEvery : FnScope ["parts", "made", "part"] ["parts"] (defScope sEvery) := ⟨rfl, rfl, rfl, by decide +kernel, rfl, by decide +kernel, by decide +kernel⟩
theorem c_every (T : Glob K mg) (y : Called P w K mg base 1 "yes" [] spYes) (h : Here K mg "every" sEvery) : Called P w K mg base 2 "every" ["parts"] (spFold everyP K) := by
  obtain ⟨f, fd, F, m⟩ := h
  obtain ⟨fy, fyd, Gy, my, ky, by_⟩ := y
  refine ⟨f, fd, F.ok scEvery (fun vs H Q E h => ?_) (fun cdv A outer s H vs Q E hr h => ?_), m, F.kp, F.binds fun _ _ _ _ _ _ us hl => match us, hl with | [_], _ => rfl⟩
  · obtain ⟨a, xs, ps, rfl, _⟩ := h; rfl
  · obtain ⟨a, xs, ps, rfl, hx, hp, k⟩ := h
    refine ⟨_, pss_cons (ps_set (i := 1) scEvery.nd rfl (Or.inl rfl) (pe_call0 Gy hr rfl my ky by_ .nil pass0))
      (pss_cons (ps_for PassesOwn.never rfl (pi_reversed rfl T.rev (pa_cons (pv 0) pa_nil)) (pg_name (i := 2) scEvery.nd rfl (Or.inl rfl))
        (pss_one (ps_set (i := 1) scEvery.nd rfl (Or.inl rfl) (pe_tup (pa_cons pe_str (pa_cons (pv 2) (pa_cons (pv 1) pa_nil)))))))
      (pss_one (ps_ret (pv 1)))), ?_⟩
    refine s_part ep_yes fun v H1 e1 hv => ?_
    refine s_fold (K := K) (fun p q => .bin .and p q) (fun m y => [some (.ref a), some m, y]) (fun _ _ _ => rfl) rfl hv (from_var rfl (ex_l e1 hx) (hp.mono e1)) ?_ ?_
    · intro m p v q H2 D1 e2 hm hv k2
      exact s_part (ep_bin .and (ep_var rfl hv) (ep_var rfl hm)) fun m' H3 e3 hm' => k2 m' H3 e3 hm'
    · intro m y H2 e2 hm
      exact ⟨_, rfl, k _ _ (e1.trans e2) hm⟩
theorem scSome : FnScope ["parts", "made", "part"] ["parts"] (defScope sSome) := ⟨rfl, rfl, rfl, by decide +kernel, rfl, by decide +kernel, by decide +kernel⟩
theorem c_some (T : Glob K mg) (y : Called P w K mg base 1 "yes" [] spYes) (h : Here K mg "some" sSome) : Called P w K mg base 2 "some" ["parts"] (spFold someP K) := by
  obtain ⟨f, fd, F, m⟩ := h
  obtain ⟨fy, fyd, Gy, my, ky, by_⟩ := y
  refine ⟨f, fd, F.ok scSome (fun vs H Q E h => ?_) (fun cdv A outer s H vs Q E hr h => ?_), m, F.kp, F.binds fun _ _ _ _ _ _ us hl => match us, hl with | [_], _ => rfl⟩
  · obtain ⟨a, xs, ps, rfl, _⟩ := h; rfl
  · obtain ⟨a, xs, ps, rfl, hx, hp, k⟩ := h
    refine ⟨_, pss_cons (ps_set (i := 1) scSome.nd rfl (Or.inl rfl) (pe_tup (pa_cons pe_str (pa_cons (pe_call0 Gy hr rfl my ky by_ .nil pass0) pa_nil))))
      (pss_cons (ps_for PassesOwn.never rfl (pi_reversed rfl T.rev (pa_cons (pv 0) pa_nil)) (pg_name (i := 2) scSome.nd rfl (Or.inl rfl))
        (pss_one (ps_set (i := 1) scSome.nd rfl (Or.inl rfl) (pe_tup (pa_cons pe_str (pa_cons (pe_tup (pa_cons pe_str (pa_cons (pe_tup (pa_cons pe_str (pa_cons (pv 2) pa_nil))) (pa_cons (pe_tup (pa_cons pe_str (pa_cons (pv 1) pa_nil))) pa_nil)))) pa_nil))))))
      (pss_one (ps_ret (pv 1)))), ?_⟩
    refine s_part (ep_un .not ep_yes) fun v H1 e1 hv => ?_
    refine s_fold (K := K) (fun p m => .un .not (.bin .and (.un .not p) (.un .not m))) (fun m y => [some (.ref a), some m, y]) (fun _ _ _ => rfl) rfl hv (from_var rfl (ex_l e1 hx) (hp.mono e1)) ?_ ?_
    · intro m p v q H2 D1 e2 hm hv k2
      exact s_part (ep_un .not (ep_bin .and (ep_un .not (ep_var rfl hv)) (ep_un .not (ep_var rfl hm)))) fun m' H3 e3 hm' => k2 m' H3 e3 hm'
    · intro m y H2 e2 hm
      exact ⟨_, rfl, k _ _ (e1.trans e2) hm⟩
/-! ### apart -/
def spApart : Sp := fun vs H Q _ => ∃ v u : Nat, vs = [.int (v : Nat), .int (u : Nat)] ∧ ∀ x H', Same H H' → PtAt H' x (apartP v u) → Q x H'
theorem scApart : FnScope ["v", "w"] ["v", "w"] (defScope sApart) := ⟨rfl, rfl, rfl, by decide +kernel, rfl, by decide +kernel, by decide +kernel⟩
theorem c_apart (y : Called P w K mg base 1 "yes" [] spYes) (i : Called P w K mg base 1 "if_then" ["first", "second"] spIf) (h : Here K mg "apart" sApart) : Called P w K mg base 2 "apart" ["v", "w"] spApart := by
  obtain ⟨f, fd, F, m⟩ := h
  obtain ⟨fy, fyd, Gy, my, ky, by_⟩ := y
  obtain ⟨fi, fid, Gi, mi, ki, bi⟩ := i
  refine ⟨f, fd, F.ok scApart (fun vs H Q E h => ?_) (fun cdv A outer s H vs Q E hr h => ?_), m, F.kp, F.binds fun _ _ _ _ _ _ us hl => match us, hl with | [_, _], _ => rfl⟩
  · obtain ⟨v, u, rfl, _⟩ := h; rfl
  · obtain ⟨v, u, rfl, k⟩ := h
    refine ⟨_, pss_cons (ps_if (pt_cmpR op_eq (pv 0) (pv 1) (nomark _)) (pss_one (ps_ret (pe_call0 Gy hr rfl my ky by_ .nil pass0))) pss_nil)
      (pss_one (ps_ret (pe_call Gi hr rfl mi ki bi .nil pass0 (pa_cons (pe_tup (pa_cons pe_str (pa_cons (pv 0) pa_nil))) (pa_cons (pe_tup (pa_cons pe_str (pa_cons (pe_tup (pa_cons pe_str (pa_cons (pv 1) pa_nil))) pa_nil))) pa_nil))))), ?_⟩
    refine ⟨_, rfl, _, rfl, rfl, _, rfl, ite2 (fun c => ?_) (fun c => ?_)⟩
    · have e : v = u := by
        have := V.int.inj (of_decide_eq_true c)
        omega
      refine s_retP ep_yes fun x H1 e1 hx => k x H1 e1 ?_
      unfold apartP
      rw [if_pos e]
      exact hx
    · have e : ¬ v = u := fun q => c (decide_eq_true (by rw [q]))
      refine s_retP (ep_if (ep_set (ev_var rfl)) (ep_un .not (ep_set (ev_var rfl)))) fun x H1 e1 hx => k x H1 e1 ?_
      unfold apartP
      rw [if_neg e]
      exact hx
end
end K46

/-! Readers in the heap; behind, arch_part, walk_parts, walk_part. -/
namespace K46
open PySem L2 Evl
/-! ### readers in the heap -/
abbrev nI (n : Nat) : V := .int (n : Nat)
def RowI (H : Hp) (v : V) (xs : List Nat) : Prop := ∃ a, v = .ref a ∧ H a = some (.tup (xs.map nI))
def MatI (H : Hp) (v : V) (xs : List (List Nat)) : Prop := ∃ a vs, v = .ref a ∧ H a = some (.tup vs) ∧ Paired (RowI H) vs xs
def CubI (H : Hp) (v : V) (xs : List (List (List Nat))) : Prop := ∃ a vs, v = .ref a ∧ H a = some (.tup vs) ∧ Paired (MatI H) vs xs
theorem RowI.tps {H H' : Hp} (e : Tps H H') {v : V} {xs : List Nat} (h : RowI H v xs) : RowI H' v xs := by
  obtain ⟨a, h1, h2⟩ := h
  exact ⟨a, h1, e _ _ h2⟩
theorem MatI.tps {H H' : Hp} (e : Tps H H') {v : V} {xs : List (List Nat)} (h : MatI H v xs) : MatI H' v xs := by
  obtain ⟨a, vs, h1, h2, h3⟩ := h
  exact ⟨a, vs, h1, e _ _ h2, Paired.mapP h3 fun _ _ q => q.tps e⟩
theorem CubI.tps {H H' : Hp} (e : Tps H H') {v : V} {xs : List (List (List Nat))} (h : CubI H v xs) : CubI H' v xs := by
  obtain ⟨a, vs, h1, h2, h3⟩ := h
  exact ⟨a, vs, h1, e _ _ h2, Paired.mapP h3 fun _ _ q => q.tps e⟩
/-- the reader at v, its parts -/
structure RdIn (H : Hp) (a : Addr) (R : Rd) (vl vle vm vw va : V) : Prop where
  tup : H a = some (.tup [vl, nI R.empty, vle, vm, vw, va])
  la : RowI H vl [R.nl, R.nc, R.nr]
  le : RowI H vle R.letters
  mu : MatI H vm R.mul
  wr : CubI H vw R.wrap
  ac : RowI H va R.acc
theorem RdIn.tps {H H' : Hp} (e : Tps H H') {a : Addr} {R : Rd} {vl vle vm vw va : V} (h : RdIn H a R vl vle vm vw va) : RdIn H' a R vl vle vm vw va :=
  ⟨e _ _ h.tup, h.la.tps e, h.le.tps e, h.mu.tps e, h.wr.tps e, h.ac.tps e⟩
theorem RdIn.mono {H H' : Hp} (e : Same H H') {a : Addr} {R : Rd} {vl vle vm vw va : V} (h : RdIn H a R vl vle vm vw va) : RdIn H' a R vl vle vm vw va := h.tps (tps_of e)
def RdAt (H : Hp) (a : Addr) (R : Rd) : Prop := ∃ vl vle vm vw va, RdIn H a R vl vle vm vw va
/-- the readers of the law are small -/
structure Small (R : Rd) : Prop where
  f : Fits R
  n : R.n ≤ 2
  nl : R.nl ≤ 2
  nc : R.nc ≤ 2
  nr : R.nr ≤ 2
  a : R.acc.length ≤ 2
section
variable {K : PySem.W.Frag} {σ : L2.St} {H : Hp} {ta ti : TE} {v : V}
theorem map_at {xs : List Nat} {i : Nat} (h : i < xs.length) : (xs.map nI)[i]? = some (nI (xs.getD i 0)) := by
  rw [List.getElem?_map, List.getElem?_eq_getElem h, List.getD_eq_getElem?_getD, List.getElem?_eq_getElem h]
  rfl
theorem ev_row {xs : List Nat} {i : Nat} (hr : RowI H v xs) (ha : Ev ta σ H v) (hi : Ev ti σ H (nI i)) (hl : i < xs.length) : Ev (tOp (rIxT K) ta ti) σ H (nI (xs.getD i 0)) := by
  obtain ⟨a, rfl, h⟩ := hr
  exact ev_op ha hi (rv_ixT (SqT.of h) (atI_nat (map_at hl)))
theorem getD_of {α : Type} {xs : List α} {i : Nat} {x : α} (d : α) (h : xs[i]? = some x) : xs.getD i d = x := by
  rw [List.getD_eq_getElem?_getD, h]
  rfl
theorem ev_mat {xs : List (List Nat)} {i : Nat} (hr : MatI H v xs) (ha : Ev ta σ H v) (hi : Ev ti σ H (nI i)) (hl : i < xs.length) : ∃ u, Ev (tOp (rIxT K) ta ti) σ H u ∧ RowI H u (xs.getD i []) := by
  obtain ⟨a, vs, rfl, h, hp⟩ := hr
  obtain ⟨u, h1, h2⟩ := paired_at' hp (List.getElem?_eq_getElem hl)
  refine ⟨u, ev_op ha hi (rv_ixT (SqT.of h) (atI_nat h1)), ?_⟩
  rw [getD_of _ (List.getElem?_eq_getElem hl)]
  exact h2
theorem ev_cub {xs : List (List (List Nat))} {i : Nat} (hr : CubI H v xs) (ha : Ev ta σ H v) (hi : Ev ti σ H (nI i)) (hl : i < xs.length) : ∃ u, Ev (tOp (rIxT K) ta ti) σ H u ∧ MatI H u (xs.getD i []) := by
  obtain ⟨a, vs, rfl, h, hp⟩ := hr
  obtain ⟨u, h1, h2⟩ := paired_at' hp (List.getElem?_eq_getElem hl)
  refine ⟨u, ev_op ha hi (rv_ixT (SqT.of h) (atI_nat h1)), ?_⟩
  rw [getD_of _ (List.getElem?_eq_getElem hl)]
  exact h2
theorem getD_mem {α : Type} {xs : List α} {i : Nat} {d : α} (h : i < xs.length) : xs.getD i d ∈ xs := by
  rw [getD_of _ (List.getElem?_eq_getElem h)]
  exact List.getElem_mem h
/-- mul[u][x] -/
theorem ev_m {R : Rd} (hf : Fits R) {u x : Nat} {tm tu tx : TE} (hr : MatI H v R.mul) (hm : Ev tm σ H v) (hu : Ev tu σ H (nI u)) (hx : Ev tx σ H (nI x)) (lu : u < R.n) (lx : x < R.n) : Ev (tOp (rIxT K) (tOp (rIxT K) tm tu) tx) σ H (nI (R.m u x)) := by
  obtain ⟨w, h1, h2⟩ := ev_mat (K := K) hr hm hu lu
  exact ev_row h2 h1 hx (by rw [hf.mr _ (getD_mem lu)]; exact lx)
/-- wrap[a][b][x] -/
theorem ev_w {R : Rd} (hf : Fits R) {a b x : Nat} {tw ta tb tx : TE} (hr : CubI H v R.wrap) (hw : Ev tw σ H v) (ha : Ev ta σ H (nI a)) (hb : Ev tb σ H (nI b)) (hx : Ev tx σ H (nI x)) (la : a < R.nc) (lb : b < R.nr) (lx : x < R.n) :
    Ev (tOp (rIxT K) (tOp (rIxT K) (tOp (rIxT K) tw ta) tb) tx) σ H (nI (R.w a b x)) := by
  have l1 : a < R.wrap.length := by rw [hf.wl]; exact la
  obtain ⟨w1, h1, h2⟩ := ev_cub (K := K) hr hw ha l1
  have m1 := getD_mem (d := []) l1
  have l2 : b < (R.wrap.getD a []).length := by rw [hf.wr _ m1]; exact lb
  obtain ⟨w2, h3, h4⟩ := ev_mat (K := K) h2 h1 hb l2
  exact ev_row h4 h3 hx (by rw [hf.wx _ m1 _ (getD_mem l2)]; exact lx)
theorem MatI.len {xs : List (List Nat)} (h : MatI H v xs) : ∃ a vs, v = .ref a ∧ H a = some (.tup vs) ∧ vs.length = xs.length := by
  obtain ⟨a, vs, h1, h2, h3⟩ := h
  exact ⟨a, vs, h1, h2, h3.length⟩
/-- len(x) of a tuple -/
theorem ev_lenT {a : Addr} {vs : List V} (ha : Ev ta σ H (.ref a)) (h : H a = some (.tup vs)) : Ev (tCB (rLenS K) (tCons ta tNil)) σ H (nI vs.length) := fun H1 e Q q =>
  ha H1 e _ fun H2 e2 => ⟨a, vs, rfl, Or.inr (SqT.of ((e.trans e2) _ _ h)), q H2 e2⟩
theorem ev_lenM {xs : List (List Nat)} (hr : MatI H v xs) (ha : Ev ta σ H v) : Ev (tCB (rLenS K) (tCons ta tNil)) σ H (nI xs.length) := by
  obtain ⟨a, vs, rfl, h2, h3⟩ := hr.len
  rw [← h3]
  exact ev_lenT ha h2
theorem ev_addN {tb : TE} {i j : Nat} (ha : Ev ta σ H (nI i)) (hb : Ev tb σ H (nI j)) : Ev (tOp (rI0 fun i j => .int (i + j)) ta tb) σ H (nI (i + j)) := fun H1 e Q q =>
  ha H1 e _ fun H2 e2 => hb H2 (e.trans e2) _ fun H3 e3 => ⟨_, _, rfl, rfl, by
    have : ((i : Nat) : Int) + ((j : Nat) : Int) = ((i + j : Nat) : Int) := by omega
    show Q (.int (((i : Nat) : Int) + ((j : Nat) : Int))) H3
    rw [this]
    exact q H3 (e2.trans e3)⟩
theorem cr_len {X : Cx} : CallR X (.builtin "len") (rLenS X.K) := call_len_seq
theorem ev_litN {i : Int} {j : Nat} (h : i = (j : Nat)) : Ev (tC (.int i)) σ H (nI j) := by
  rw [h]
  exact ev_c
end
/-! ### a list of parts that a def makes -/
/-- l, which H0 does not know, holds the parts -/
def Ls (H0 H : Hp) (l : Addr) (ps : List Pt) : Prop := Same H0 H ∧ H0 l = none ∧ ∃ vs, H l = some (.lst vs) ∧ PtsAt H vs ps
section
variable {K : PySem.W.Frag} {σ : L2.St} {H0 H : Hp} {l : Addr} {ps qs : List Pt} {te to : TE} {D : Ends}
theorem Ls.mono {H' : Hp} (e : Same H H') (h : Ls H0 H l ps) : Ls H0 H' l ps := by
  obtain ⟨h1, h2, vs, h3, h4⟩ := h
  exact ⟨h1.trans e, h2, vs, e _ _ h3, h4.mono e⟩
theorem free_of {H1 : Hp} (e : Same H0 H1) (h : H1 l = none) : H0 l = none := Same.free e h
/-- name = [part, ..] -/
theorem s_lst {i : Nat} (h : ELP te σ H ps) (k : ∀ l H1, Ls H H1 l ps → D.nx (σ.set i (some (.ref l))) H1) : tAsg te (gName i) D σ H :=
  h H (Same.refl _) _ fun a vs H2 ha e2 h2 hp => k a H2 ⟨e2, ha, vs, h2, hp⟩
/-- l += [part, ..] -/
theorem s_ext {i : Nat} (hl : Ls H0 H l ps) (hi : σ[i]? = some (some (.ref l))) (h : ELP te σ H qs) (hz : ps.length + qs.length ≤ 1000) (k : ∀ H1, Ls H0 H1 l (ps ++ qs) → D.nx (σ.set i (some (.ref l))) H1) : tAug i te rExt2 D σ H := by
  obtain ⟨h1, h2, vs, h3, h4⟩ := hl
  refine ⟨_, hi, h H (Same.refl _) _ fun b ws H2 hb e2 hb2 hq => ?_⟩
  have l1 := h4.length
  have l2 := hq.length
  refine ⟨l, b, vs, ws, rfl, rfl, e2 _ _ h3, hb2, small _ (by omega), k _ ⟨same_put (h1.trans e2) h2 _, h2, _, upd_same, ?_⟩⟩
  have t := tps_put (e2 _ _ h3) (.lst (vs ++ ws))
  exact paired_append (h4.tps ((tps_of e2).trans t)) (hq.tps t)
/-- l.append(part) -/
theorem s_appP {p : Pt} (hl : Ls H0 H l ps) (ho : Ev to σ H (.ref l)) (h : EP te σ H p) (hz : ps.length ≤ 1000) (k : ∀ H1, Ls H0 H1 l (ps ++ [p]) → D.nx σ H1) : tDrop (tBM K "list" rAppend to (tCons te tNil)) D σ H := by
  obtain ⟨h1, h2, vs, h3, h4⟩ := hl
  have l1 := h4.length
  refine ho H (Same.refl _) _ fun H1 e1 => ⟨Or.inl ⟨rfl, vs, SqL.of (e1 l _ h3)⟩, h H1 e1 _ fun v H2 e2 hv => ⟨l, vs, v, rfl, rfl, e2 l _ (e1 l _ h3), sz_lt (by omega), k _ ⟨same_put (h1.trans (e1.trans e2)) h2 _, h2, _, upd_same, ?_⟩⟩⟩
  have t := tps_put (e2 _ _ (e1 _ _ h3)) (.lst (vs ++ [v]))
  exact paired_append (h4.tps ((tps_of (e1.trans e2)).trans t)) (.cons (hv.tps t) .nil)
theorem elp_one {p : Pt} (h : EP te σ H p) : ELP (tLst (tCons te tNil)) σ H [p] := fun H1 e Q k =>
  h H1 e _ fun v H2 e2 hv => ⟨small 1, fun a ha => k a [v] _ (free_of e2 ha) (e2.trans (same_new ha _)) upd_same (.cons (hv.mono (same_new ha _)) .nil)⟩
theorem elp_nil : ELP (tLst tNil) σ H [] := fun H1 e Q k => ⟨small 0, fun a ha => k a [] _ ha (same_new ha _) upd_same .nil⟩
theorem ls_step {p : Pt} (hl : Ls H0 H l ps) (h : EP te σ H p) (hz : ps.length ≤ 1000) : te σ H fun y H4 => ∃ acc, H4 l = some (.lst acc) ∧ acc.length < sizeLine ∧ Ls H0 (upd H4 l (.lst (acc ++ [y]))) l (ps ++ [p]) := by
  obtain ⟨h1, h2, vs, h3, h4⟩ := hl
  have l1 := h4.length
  refine h H (Same.refl _) _ fun v H2 e2 hv => ⟨vs, e2 l _ h3, sz_lt (by omega), same_put (h1.trans e2) h2 _, h2, _, upd_same, ?_⟩
  have t := tps_put (e2 _ _ h3) (.lst (vs ++ [v]))
  exact paired_append (h4.tps ((tps_of e2).trans t)) (.cons (hv.tps t) .nil)
theorem tyes {F : Bool → Hp → Prop} (h : F true H) : tYes σ H F := h
theorem flat_len (n m : Nat) (f : Nat → Nat → Pt) : ((List.range n).flatMap fun v => (List.range m).map (f v)).length = n * m := by
  induction n with
  | zero => simp
  | succ n ih => rw [List.range_succ, List.flatMap_append, List.length_append, ih]; simp; rw [Nat.succ_mul]
/-- [part for x in range(n) for y in range(m)] -/
theorem elp_range2 {ti tj : TA} {j j1 : Nat} {vs vs1 : List Nat} {n m : Nat} (f : Nat → Nat → Pt) (hn : n ≤ 10) (hm : m ≤ 10) (hr : EvA ti σ H [.int (n : Nat)]) (hr1 : ∀ (i : Nat) H1, Same H H1 → EvA tj ((wipe σ vs).set j (some (.int (i : Nat)))) H1 [.int (m : Nat)])
    (hw : ∀ x, wipe ((wipe σ vs).set j (some x)) vs = wipe σ vs) (hw1 : ∀ x y, wipe ((wipe ((wipe σ vs).set j (some x)) vs1).set j1 (some y)) vs1 = wipe ((wipe σ vs).set j (some x)) vs1)
    (he : ∀ (i k : Nat) H1, Same H H1 → i < n → k < m → EP te ((wipe ((wipe σ vs).set j (some (.int (i : Nat)))) vs1).set j1 (some (.int (k : Nat)))) H1 (f i k)) :
    ELP (tLc2 (iRng1 ti) (gName j) tYes (iRng1 tj) (gName j1) tYes te vs vs1) σ H ((List.range n).flatMap fun v => (List.range m).map (f v)) := fun H0 e0 Q k => hr H0 e0 _ fun H1 e1 => ⟨_, rfl, by omega, by omega, fun Dl hD => by
  refine ⟨fun i r H' => r = n - i ∧ i ≤ n ∧ Ls H1 H' Dl ((List.range i).flatMap fun v => (List.range m).map (f v)), ⟨n, by omega, Nat.zero_le _, same_new hD _, hD, [], upd_same, .nil⟩, ?_⟩
  rintro i r H2 ⟨rfl, hi, L⟩
  by_cases hlt : i < n
  · refine .inr ⟨by show i < (n : Int).toNat; omega, fun H' => Ls H1 H' Dl ((List.range (i + 1)).flatMap fun v => (List.range m).map (f v)), fun H' L' => ⟨n - (i + 1), by omega, rfl, by omega, L'⟩, ?_⟩
    rintro x H3 ⟨rfl, rfl⟩
    refine ⟨hw _, ?_⟩
    have ez : (0 : Int) + (i : Nat) = (i : Nat) := Int.zero_add _
    rw [ez]
    refine tyes (iteT ?_)
    refine hr1 i H3 ((e0.trans e1).trans L.1) H3 (Same.refl _) _ fun H4 e4 => ⟨_, rfl, by omega, by omega, ?_⟩
    refine ⟨fun q r H' => r = m - q ∧ q ≤ m ∧ Ls H1 H' Dl (((List.range i).flatMap fun v => (List.range m).map (f v)) ++ (List.range q).map (f i)), ⟨m, by omega, Nat.zero_le _, ?_⟩, ?_⟩
    · rw [show List.range 0 = [] from rfl, List.map_nil, List.append_nil]
      exact L.mono e4
    · rintro q r H5 ⟨rfl, hq, L5⟩
      by_cases hqt : q < m
      · refine .inr ⟨by show q < (m : Int).toNat; omega, fun H' => Ls H1 H' Dl (((List.range i).flatMap fun v => (List.range m).map (f v)) ++ (List.range (q + 1)).map (f i)), fun H' L' => ⟨m - (q + 1), by omega, rfl, by omega, L'⟩, ?_⟩
        rintro y H6 ⟨rfl, rfl⟩
        have ey : (0 : Int) + (q : Nat) = (q : Nat) := Int.zero_add _
        rw [ey]
        refine ⟨hw1 _ _, ?_⟩
        refine tyes (iteT ?_)
        have st := ls_step L5 (he i q H6 ((e0.trans e1).trans L5.1) hlt hqt) (by
          rw [List.length_append, flat_len, List.length_map, List.length_range]
          have : i * m ≤ 10 * 10 := Nat.mul_le_mul (by omega) hm
          omega)
        rw [List.append_assoc] at st
        rw [List.range_succ, List.map_append]
        exact st
      · have eq : q = m := by omega
        subst eq
        refine .inl ⟨by show (q : Int).toNat ≤ q; omega, ?_⟩
        show Ls H1 H5 Dl ((List.range (i + 1)).flatMap fun v => (List.range q).map (f v))
        rw [List.range_succ, List.flatMap_append]
        simp only [List.flatMap_cons, List.flatMap_nil, List.append_nil]
        exact L5
  · have ei : i = n := by omega
    subst ei
    refine .inl ⟨by show (i : Int).toNat ≤ i; omega, ?_⟩
    obtain ⟨s1, _, ys, h1, h2⟩ := L
    exact k Dl ys H2 (free_of e1 hD) (e1.trans s1) h1 h2⟩
/-- every(l), some(l) of a new list -/
theorem ep_fold {f : List Pt → Pt} {E : XK} (h : ELP te σ H ps) : EP (tCall (spFold f K) [] E (tCons te tNil)) σ H (f ps) := fun H1 e Q k =>
  h H1 e _ fun a vs H2 ha e2 h2 hp => ⟨a, vs, ps, rfl, SqL.of h2, hp, fun v H3 e3 hv => k v H3 (e2.trans e3) hv⟩
/-- every(name) -/
theorem ep_foldv {f : List Pt → Pt} {E : XK} (hl : Ls H0 H l ps) (h : Ev te σ H (.ref l)) : EP (tCall (spFold f K) [] E (tCons te tNil)) σ H (f ps) := fun H1 e Q k => by
  obtain ⟨h1, h2, vs, h3, h4⟩ := hl
  exact h H1 e _ fun H2 e2 => ⟨l, vs, ps, rfl, SqL.of ((e.trans e2) _ _ h3), h4.mono (e.trans e2), fun v H3 e3 hv => k v H3 (e2.trans e3) hv⟩
/-- [part for x in a tuple of ints] -/
theorem elp_tup {tt : TE} {j : Nat} {vs : List Nat} {v : V} {xs : List Nat} (f : Nat → Pt) (hr : RowI H v xs) (ht : Ev tt σ H v) (hn : xs.length ≤ 1000) (hw : ∀ x, wipe ((wipe σ vs).set j (some x)) vs = wipe σ vs)
    (he : ∀ (x : Nat) H1, Same H H1 → x ∈ xs → EP te ((wipe σ vs).set j (some (nI x))) H1 (f x)) : ELP (tLc (iTup K tt) (gName j) tYes te vs) σ H (xs.map f) := fun H1 e1 Q k => by
  obtain ⟨a, rfl, ha⟩ := hr
  refine ht H1 e1 _ fun H2 e2 => ⟨a, rfl, ⟨_, SqT.of ((e1.trans e2) _ _ ha)⟩, fun Dl hD => ?_⟩
  refine lc_tup (K := K) (a := a) (xs := xs.map nI) (fun i H' => Same H2 H' ∧ ∃ ys, H' Dl = some (.lst ys) ∧ PtsAt H' ys ((xs.take i).map f)) ⟨same_new hD _, [], upd_same, .nil⟩ (fun i H' _ q => SqT.of (q.1 _ _ ((e1.trans e2) _ _ ha))) ?_ ?_
  · rintro i x H' hx ⟨s1, ys, h1, h2⟩
    obtain ⟨n, hn1, rfl⟩ : ∃ n, xs[i]? = some n ∧ x = nI n := by
      rw [List.getElem?_map] at hx
      cases hz : xs[i]? with
      | none => rw [hz] at hx; cases hx
      | some n => rw [hz] at hx; exact ⟨n, rfl, (Option.some.inj hx).symm⟩
    have hi : i < xs.length := (List.getElem?_eq_some_iff.mp hn1).1
    refine ⟨hw _, ?_⟩
    show te ((wipe σ vs).set j (some (nI n))) H' _
    refine he n H' ((e1.trans e2).trans s1) (List.mem_of_getElem? hn1) H' (Same.refl _) _ fun v H3 e3 hv => ⟨ys, e3 _ _ h1, sz_lt ?_, same_put (s1.trans e3) hD _, _, upd_same, ?_⟩
    · have := h2.length
      rw [List.length_map, List.length_take] at this
      omega
    · have t := tps_put (e3 _ _ h1) (.lst (ys ++ [v]))
      rw [take_succ_get hn1, List.map_append]
      exact paired_append (h2.tps ((tps_of e3).trans t)) (.cons (hv.tps t) .nil)
  · rintro H' ⟨s1, ys, h1, h2⟩
    rw [List.length_map, List.take_length] at h2
    exact k Dl ys H' (free_of e2 hD) (e2.trans s1) h1 h2
end
section
variable {P : Program} {w : World} {K : PySem.W.Frag} {mg : Str → Option Value} {base : Heap}
/-! ### behind -/
def spBehind : Sp := fun vs H Q _ => ∃ a R u, vs = [.ref a, nI u] ∧ RdAt H a R ∧ Small R ∧ u < R.n ∧ ∀ v H', Same H H' → PtAt H' v (behindP R u) → Q v H'
abbrev nBehind : List Str := ["reader", "u", "labels", "_", "letters", "mul", "parts", "a", "b"]
theorem scBehind : FnScope nBehind ["reader", "u"] (defScope sBehind) := ⟨rfl, rfl, rfl, by decide +kernel, rfl, by decide +kernel, by decide +kernel⟩
theorem c_behind (T : Glob K mg) (y : Called P w K mg base 2 "every" ["parts"] (spFold everyP K)) (i : Called P w K mg base 1 "if_then" ["first", "second"] spIf) (h : Here K mg "behind" sBehind) : Called P w K mg base 3 "behind" ["reader", "u"] spBehind := by
  obtain ⟨f, fd, F, m⟩ := h
  obtain ⟨fy, fyd, Gy, my, ky, by_⟩ := y
  obtain ⟨fi, fid, Gi, mi, ki, bi⟩ := i
  refine ⟨f, fd, F.ok scBehind (fun vs H Q E h => ?_) (fun cdv A outer s H vs Q E hr h => ?_), m, F.kp, F.binds fun _ _ _ _ _ _ us hl => match us, hl with | [_, _], _ => rfl⟩
  · obtain ⟨a, R, u, rfl, _⟩ := h; rfl
  · obtain ⟨a, R, u, rfl, ⟨vl, vle, vm, vw, va, hR⟩, hs, hu, k⟩ := h
    have hr1 := hr.mono (show 1 ≤ 2 by decide)
    refine ⟨_, pss_cons (ps_asg (pv 0) (pg_tup (by rfl) (pgs_cons (pg_name (i := 2) scBehind.nd rfl (Or.inl rfl)) (pgs_cons (pg_name (i := 3) scBehind.nd rfl (Or.inl rfl)) (pgs_cons (pg_name (i := 4) scBehind.nd rfl (Or.inr rfl)) (pgs_cons (pg_name (i := 5) scBehind.nd rfl (Or.inr rfl)) (pgs_cons (pg_name (i := 3) scBehind.nd rfl (Or.inl rfl)) (pgs_cons (pg_name (i := 3) scBehind.nd rfl (Or.inl rfl)) pgs_nil))))))))
      (pss_cons (ps_setLc (i := 6) (own := [("a", 7)]) (g := gName 7) (tt := tYes) rfl scBehind.nd rfl rfl (sw_true rfl rfl rfl (by decide +kernel)) (pi_range1 rfl T.rng (pa_cons (pe_ix (r := rIxT K) ix_tup (pv 2) pe_int (fun _ _ => rfl)) pa_nil)) (blkOk_by (N := nBehind) (sc := defScope sBehind) (by decide +kernel)) (fun _ _ _ _ _ => pg_name (i := 7) scBehind.nd rfl (Or.inl rfl)) (fun _ _ _ _ _ => pts_nil)
          (fun _ _ _ _ _ => pe_call Gi hr1 rfl mi ki bi .nil pass0 (pa_cons (pe_tup (pa_cons pe_str (pa_cons (pv 7) pa_nil))) (pa_cons (pe_tup (pa_cons pe_str (pa_cons (pe_ix (r := rIxT K) ix_tup (pe_ix (r := rIxT K) ix_tup (pv 5) (pv 1) (fun _ _ => rfl)) (pe_ix (r := rIxT K) ix_tup (pv 4) (pv 7) (fun _ _ => rfl)) (fun _ _ => rfl)) pa_nil))) pa_nil))))
      (pss_cons (ps_aug (i := 6) scBehind.nd rfl (Or.inl rfl) (pe_lc (own := [("a", 7)]) (g := gName 7) (tt := tYes) rfl scBehind.nd (pi_range1 rfl T.rng (pa_cons (pe_ix (r := rIxT K) ix_tup (pv 2) pe_int (fun _ _ => rfl)) pa_nil)) (blkOk_by (N := nBehind) (sc := defScope sBehind) (by decide +kernel)) (fun _ _ _ _ _ => pg_name (i := 7) scBehind.nd rfl (Or.inl rfl)) (fun _ _ _ _ _ => pts_nil)
          (fun _ _ _ _ _ => pe_call Gi hr1 rfl mi ki bi .nil pass0 (pa_cons (pe_tup (pa_cons pe_str (pa_cons (pv 7) pa_nil))) (pa_cons (pe_tup (pa_cons pe_str (pa_cons (pv 1) pa_nil))) pa_nil)))) iop_ext)
      (pss_cons (ps_aug (i := 6) scBehind.nd rfl (Or.inl rfl) (pe_lc (own := [("b", 8)]) (g := gName 8) (tt := tYes) rfl scBehind.nd (pi_range1 rfl T.rng (pa_cons (pe_ix (r := rIxT K) ix_tup (pv 2) pe_int (fun _ _ => rfl)) pa_nil)) (blkOk_by (N := nBehind) (sc := defScope sBehind) (by decide +kernel)) (fun _ _ _ _ _ => pg_name (i := 8) scBehind.nd rfl (Or.inl rfl)) (fun _ _ _ _ _ => pts_nil)
          (fun _ _ _ _ _ => pe_call Gi hr1 rfl mi ki bi .nil pass0 (pa_cons (pe_tup (pa_cons pe_str (pa_cons (pv 8) pa_nil))) (pa_cons (pe_tup (pa_cons pe_str (pa_cons (pe_op op_add (pe_callB (r := rLenS K) cr_len rfl T.len PySem.boot_len (pa_cons (pv 5) pa_nil)) (pv 1)) pa_nil))) pa_nil)))) iop_ext)
      (pss_one (ps_ret (pe_call Gy hr rfl my ky by_ .nil pass0 (pa_cons (pv 6) pa_nil))))))), ?_⟩
    refine ⟨_, rfl, a, _, rfl, SqT.of hR.tup, rfl, _, _, rfl, _, _, rfl, _, _, rfl, _, _, rfl, _, _, rfl, _, _, rfl, rfl, ?_⟩
    have hf := hs.f
    refine st_is [some (.ref a), some (nI u), some vl, some va, some vle, some vm, none, none, none] rfl ?_
    refine s_lst (elp_range (n := R.nl) (fun x => ifThenP (.pl ⟨.letter, x⟩) (.set (R.m u (R.le x)))) (by have := hs.nl; omega) (ea_cons (ev_row (i := 0) hR.la (ev_var rfl) (ev_litN rfl) (by show 0 < 3; decide)) ea_nil) (fun _ => rfl) fun x H1 e1 hx =>
      ep_if (ep_pl .letter (ev_var rfl)) (ep_set (ev_m hf (hR.mono e1).mu (ev_var rfl) (ev_var rfl) (ev_row (hR.mono e1).le (ev_var rfl) (ev_var rfl) (by rw [hf.ll]; exact hx)) hu (hf.lv x hx)))) fun l H1 L1 => ?_
    have R1 := hR.mono L1.1
    refine st_is [some (.ref a), some (nI u), some vl, some va, some vle, some vm, some (.ref l), none, none] rfl ?_
    refine s_ext L1 rfl (elp_range (n := R.nc) (fun x => ifThenP (.pl ⟨.call, x⟩) (.set u)) (by have := hs.nc; omega) (ea_cons (ev_row (i := 1) R1.la (ev_var rfl) (ev_litN rfl) (by show 1 < 3; decide)) ea_nil) (fun _ => rfl) fun x H2 e2 hx =>
      ep_if (ep_pl .call (ev_var rfl)) (ep_set (ev_var rfl))) (by simp only [List.length_map, List.length_range]; have := hs.nl; have := hs.nc; omega) fun H2 L2 => ?_
    have R2 := hR.mono L2.1
    refine st_is [some (.ref a), some (nI u), some vl, some va, some vle, some vm, some (.ref l), none, none] rfl ?_
    refine s_ext L2 rfl (elp_range (n := R.nr) (fun x => ifThenP (.pl ⟨.ret, x⟩) (.set (R.n + u))) (by have := hs.nr; omega) (ea_cons (ev_row (i := 2) R2.la (ev_var rfl) (ev_litN rfl) (by show 2 < 3; decide)) ea_nil) (fun _ => rfl) fun x H3 e3 hx =>
      ep_if (ep_pl .ret (ev_var rfl)) (ep_set (ev_addN (ev_lenM (R2.mono e3).mu (ev_var rfl)) (ev_var rfl)))) (by simp only [List.length_append, List.length_map, List.length_range]; have := hs.nl; have := hs.nc; have := hs.nr; omega) fun H3 L3 => ?_
    refine st_is [some (.ref a), some (nI u), some vl, some va, some vle, some vm, some (.ref l), none, none] rfl ?_
    refine s_retP (ep_foldv L3 (ev_var rfl)) fun v H4 e4 hv => k v H4 (L3.1.trans e4) ?_
    rw [List.append_assoc] at hv
    exact hv
/-! ### arch_part -/
def spArch : Sp := fun vs H Q _ => ∃ r R u a, vs = [.ref r, nI u, nI a] ∧ RdAt H r R ∧ Small R ∧ u < R.n ∧ a < R.nc ∧ ∀ v H', Same H H' → PtAt H' v (archP R u a) → Q v H'
theorem scArch : FnScope ["reader", "u", "a", "mul", "wrap", "count", "parts", "b", "i", "inside"] ["reader", "u", "a"] (defScope sArch) := ⟨rfl, rfl, rfl, by decide +kernel, rfl, by decide +kernel, by decide +kernel⟩
theorem ev_item {σ : L2.St} {H : Hp} {te : TE} {r : Addr} {xs : List V} {i : Int} {j : Nat} {v : V} (h : H r = some (.tup xs)) (hr : Ev te σ H (.ref r)) (hi : i = (j : Nat)) (hj : xs[j]? = some v) : Ev (tOp (rIxT K) te (tC (.int i))) σ H v := by
  rw [hi]
  exact ev_op hr ev_c (rv_ixT (SqT.of h) (atI_nat hj))
theorem c_arch (T : Glob K mg) (y : Called P w K mg base 2 "every" ["parts"] (spFold everyP K)) (i : Called P w K mg base 1 "if_then" ["first", "second"] spIf) (h : Here K mg "arch_part" sArch) : Called P w K mg base 3 "arch_part" ["reader", "u", "a"] spArch := by
  obtain ⟨f, fd, F, m⟩ := h
  obtain ⟨fy, fyd, Gy, my, ky, by_⟩ := y
  obtain ⟨fi, fid, Gi, mi, ki, bi⟩ := i
  refine ⟨f, fd, F.ok scArch (fun vs H Q E h => ?_) (fun cdv A outer s H vs Q E hr h => ?_), m, F.kp, F.binds fun _ _ _ _ _ _ us hl => match us, hl with | [_, _, _], _ => rfl⟩
  · obtain ⟨r, R, u, a, rfl, _⟩ := h; rfl
  · obtain ⟨r, R, u, a, rfl, ⟨vl, vle, vm, vw, va, hR⟩, hs, hu, hla, k⟩ := h
    have hr1 := hr.mono (show 1 ≤ 2 by decide)
    refine ⟨_, pss_cons (ps_par (i := 3) (j := 4) (by rfl) scArch.nd rfl rfl (by decide) rfl rfl (pa_cons (pe_ix (r := rIxT K) ix_tup (pv 0) pe_int (fun _ _ => rfl)) (pa_cons (pe_ix (r := rIxT K) ix_tup (pv 0) pe_int (fun _ _ => rfl)) pa_nil)) (by rfl))
      (pss_cons (ps_set (i := 5) scArch.nd rfl (Or.inl rfl) (pe_callB (r := rLenS K) cr_len rfl T.len PySem.boot_len (pa_cons (pv 3) pa_nil)))
      (pss_cons (ps_set (i := 6) scArch.nd rfl (Or.inl rfl) (pe_lst pa_nil))
      (pss_cons (ps_for PassesOwn.never rfl (pi_range1 rfl T.rng (pa_cons (pe_ix (r := rIxT K) ix_tup (pe_ix (r := rIxT K) ix_tup (pv 0) pe_int (fun _ _ => rfl)) pe_int (fun _ _ => rfl)) pa_nil)) (pg_name (i := 7) scArch.nd rfl (Or.inl rfl))
        (pss_one (ps_for PassesOwn.never rfl (pi_range1 rfl T.rng (pa_cons (pv 5) pa_nil)) (pg_name (i := 8) scArch.nd rfl (Or.inl rfl))
          (pss_cons (ps_set (i := 9) scArch.nd rfl (Or.inl rfl) (pe_tup (pa_cons pe_str (pa_cons (pe_tup (pa_cons pe_str (pa_cons (pv 7) pa_nil))) (pa_cons (pe_tup (pa_cons pe_str (pa_cons (pe_op op_add (pv 5) (pv 8)) pa_nil))) pa_nil)))))
          (pss_one (ps_expr (pe_bm PySem.F.plainAttrs_list PySem.F.slot_list_append PySem.F.type_list_append mt_append (pv 6) (pa_cons (pe_call Gi hr1 rfl mi ki bi .nil pass0 (pa_cons (pv 9) (pa_cons (pe_tup (pa_cons pe_str (pa_cons
              (pe_ix (r := rIxT K) ix_tup (pe_ix (r := rIxT K) ix_tup (pv 3) (pv 1) (fun _ _ => rfl)) (pe_ix (r := rIxT K) ix_tup (pe_ix (r := rIxT K) ix_tup (pe_ix (r := rIxT K) ix_tup (pv 4) (pv 2) (fun _ _ => rfl)) (pv 7) (fun _ _ => rfl)) (pv 8) (fun _ _ => rfl)) (fun _ _ => rfl)) pa_nil))) pa_nil))) pa_nil))))))))
      (pss_one (ps_ret (pe_tup (pa_cons pe_str (pa_cons (pe_tup (pa_cons pe_str (pa_cons (pe_tup (pa_cons pe_str (pa_cons (pv 2) pa_nil))) (pa_cons (pe_tup (pa_cons pe_str (pa_cons (pv 1) pa_nil))) pa_nil)))) (pa_cons (pe_call Gy hr rfl my ky by_ .nil pass0 (pa_cons (pv 6) pa_nil)) pa_nil)))))))))
      , ?_⟩
    have hf := hs.f
    refine ⟨_, rfl, r, _, 3, vm, rfl, rfl, SqT.of hR.tup, atI_nat (j := 3) rfl, _, rfl, r, _, 4, vw, rfl, rfl, SqT.of hR.tup, atI_nat (j := 4) rfl, _, _, rfl, ?_⟩
    refine st_is [some (.ref r), some (nI u), some (nI a), some vm, some vw, none, none, none, none, none] rfl ?_
    refine s_asg (ev_lenM hR.mu (ev_var rfl)) fun H2 e2 => ?_
    have R2 := hR.mono e2
    refine st_is [some (.ref r), some (nI u), some (nI a), some vm, some vw, some (nI R.n), none, none, none, none] rfl ?_
    refine s_lst elp_nil fun l H3 L3 => ?_
    have R3 := R2.mono L3.1
    refine st_is [some (.ref r), some (nI u), some (nI a), some vm, some vw, some (nI R.n), some (.ref l), none, none, none] rfl ?_
    have h2 := hs.n
    have h3 := hs.nr
    refine s_forR1 (n := (R.nr : Nat)) (ea_cons (ev_row (i := 2) R3.la (ev_item (K := K) (j := 0) R3.tup (ev_var rfl) rfl rfl) (ev_litN rfl) (by show 2 < 3; decide)) ea_nil) (by omega)
      (fun b σ' H' => ∃ y7 y8 y9, σ' = [some (.ref r), some (nI u), some (nI a), some vm, some vw, some (nI R.n), some (.ref l), y7, y8, y9] ∧ Ls H2 H' l ((List.range b).flatMap fun b => (List.range R.n).map fun i => ifThenP (.bin .and (.pl ⟨.ret, b⟩) (.set (R.n + i))) (.set (R.m u (R.w a b i)))))
      (fun H4 e4 => ⟨_, _, _, rfl, L3.mono e4⟩) ?_ ?_
    · rintro b σ' H4 hb ⟨y7, y8, y9, rfl, L4⟩
      refine st_is [some (.ref r), some (nI u), some (nI a), some vm, some vw, some (nI R.n), some (.ref l), some (nI b), y8, y9] rfl ?_
      refine s_forR1 (n := (R.n : Nat)) (ea_cons (ev_var rfl) ea_nil) (by omega)
        (fun i σ' H' => ∃ y8 y9, σ' = [some (.ref r), some (nI u), some (nI a), some vm, some vw, some (nI R.n), some (.ref l), some (nI b), y8, y9] ∧ Ls H2 H' l (((List.range b).flatMap fun b => (List.range R.n).map fun i => ifThenP (.bin .and (.pl ⟨.ret, b⟩) (.set (R.n + i))) (.set (R.m u (R.w a b i)))) ++ (List.range i).map fun i => ifThenP (.bin .and (.pl ⟨.ret, b⟩) (.set (R.n + i))) (.set (R.m u (R.w a b i)))))
        (fun H5 e5 => ⟨_, _, rfl, by rw [show List.range 0 = [] from rfl, List.map_nil, List.append_nil]; exact L4.mono e5⟩) ?_ ?_
      · rintro i σ' H5 hi ⟨z8, z9, rfl, L5⟩
        refine st_is [some (.ref r), some (nI u), some (nI a), some vm, some vw, some (nI R.n), some (.ref l), some (nI b), some (nI i), z9] rfl ?_
        refine s_part (ep_bin .and (ep_pl .ret (ev_var rfl)) (ep_set (ev_addN (ev_var rfl) (ev_var rfl)))) fun v H6 e6 hv => ?_
        have L6 := L5.mono e6
        have R6 := R2.mono L6.1
        refine st_is [some (.ref r), some (nI u), some (nI a), some vm, some vw, some (nI R.n), some (.ref l), some (nI b), some (nI i), some v] rfl ?_
        refine s_appP L6 (ev_var rfl) (ep_if (ep_var rfl hv) (ep_set (ev_m hf R6.mu (ev_var rfl) (ev_var rfl) (ev_w hf R6.wr (ev_var rfl) (ev_var rfl) (ev_var rfl) (ev_var rfl) hla (by omega) (by omega)) hu (hf.wv _ _ _ hla (by omega) (by omega))))) ?_ fun H7 L7 => ⟨_, _, rfl, ?_⟩
        · rw [List.length_append, flat_len, List.length_map, List.length_range]
          have : b * R.n ≤ 2 * 2 := Nat.mul_le_mul (by omega) h2
          omega
        · rw [List.range_succ, List.map_append, ← List.append_assoc]
          exact L7
      · rintro σ' H5 ⟨z8, z9, rfl, L5⟩
        refine ⟨_, _, _, rfl, ?_⟩
        rw [List.range_succ, List.flatMap_append]
        simp only [List.flatMap_cons, List.flatMap_nil, List.append_nil]
        exact L5
    · rintro σ' H4 ⟨y7, y8, y9, rfl, L4⟩
      refine s_retP (ep_bin .arch (ep_bin .and (ep_pl .call (ev_var rfl)) (ep_set (ev_var rfl))) (ep_foldv L4 (ev_var rfl))) fun v H5 e5 hv => k v H5 (e2.trans (L4.1.trans e5)) hv
end
end K46

/-! walk_parts, walk_part. -/
namespace K46
open PySem L2 Evl
section
variable {P : Program} {w : World} {K : PySem.W.Frag} {mg : Str → Option Value} {base : Heap}
theorem ep_behind {σ : L2.St} {H : Hp} {ta tb : TE} {E : XK} {a : Addr} {R : Rd} {u : Nat} (hR : RdAt H a R) (hs : Small R) (hu : u < R.n) (h1 : Ev ta σ H (.ref a)) (h2 : Ev tb σ H (nI u)) : EP (tCall spBehind [] E (tCons ta (tCons tb tNil))) σ H (behindP R u) := fun H1 e Q k =>
  h1 H1 e _ fun H2 e2 => h2 H2 (e.trans e2) _ fun H3 e3 => by
    obtain ⟨vl, vle, vm, vw, va, q⟩ := hR
    exact ⟨a, R, u, rfl, ⟨vl, vle, vm, vw, va, q.mono ((e.trans e2).trans e3)⟩, hs, hu, fun v H4 e4 hv => k v H4 ((e2.trans e3).trans e4) hv⟩
theorem ep_arch {σ : L2.St} {H : Hp} {ta tb tc : TE} {E : XK} {r : Addr} {R : Rd} {u a : Nat} (hR : RdAt H r R) (hs : Small R) (hu : u < R.n) (ha : a < R.nc) (h1 : Ev ta σ H (.ref r)) (h2 : Ev tb σ H (nI u)) (h3 : Ev tc σ H (nI a)) : EP (tCall spArch [] E (tCons ta (tCons tb (tCons tc tNil)))) σ H (archP R u a) := fun H1 e Q k =>
  h1 H1 e _ fun H2 e2 => h2 H2 (e.trans e2) _ fun H3 e3 => h3 H3 ((e.trans e2).trans e3) _ fun H4 e4 => by
    obtain ⟨vl, vle, vm, vw, va, q⟩ := hR
    exact ⟨r, R, u, a, rfl, ⟨vl, vle, vm, vw, va, q.mono (((e.trans e2).trans e3).trans e4)⟩, hs, hu, ha, fun v H5 e5 hv => k v H5 (((e2.trans e3).trans e4).trans e5) hv⟩
theorem ep_apart {σ : L2.St} {H : Hp} {ta tb : TE} {E : XK} {v u : Nat} (h1 : Ev ta σ H (nI v)) (h2 : Ev tb σ H (nI u)) : EP (tCall spApart [] E (tCons ta (tCons tb tNil))) σ H (apartP v u) := fun H1 e Q k =>
  h1 H1 e _ fun H2 e2 => h2 H2 (e.trans e2) _ fun H3 e3 => ⟨v, u, rfl, fun x H4 e4 hx => k x H4 ((e2.trans e3).trans e4) hx⟩
def spParts : Sp := fun vs H Q _ => ∃ a R, vs = [.ref a] ∧ RdAt H a R ∧ Small R ∧ ∀ l H', Ls H H' l (walkL R) → Q (.ref l) H'
abbrev nParts : List Str := ["reader", "labels", "empty", "_", "mul", "accepted", "count", "a", "call", "parts", "u", "v", "w"]
theorem scParts : FnScope nParts ["reader"] (defScope sParts) := ⟨rfl, rfl, rfl, by decide +kernel, rfl, by decide +kernel, by decide +kernel⟩
theorem c_parts (T : Glob K mg) (y : Called P w K mg base 2 "every" ["parts"] (spFold everyP K)) (ys : Called P w K mg base 2 "some" ["parts"] (spFold someP K)) (ya : Called P w K mg base 2 "apart" ["v", "w"] spApart)
    (yb : Called P w K mg base 3 "behind" ["reader", "u"] spBehind) (yr : Called P w K mg base 3 "arch_part" ["reader", "u", "a"] spArch) (h : Here K mg "walk_parts" sParts) : Called P w K mg base 4 "walk_parts" ["reader"] spParts := by
  obtain ⟨f, fd, F, m⟩ := h
  obtain ⟨fy, fyd, Gy, my, ky, by_⟩ := y
  obtain ⟨fs, fsd, Gs, ms, ks, bs⟩ := ys
  obtain ⟨fa, fad, Ga, ma, ka, ba⟩ := ya
  obtain ⟨fb, fbd, Gb, mb, kb, bb⟩ := yb
  obtain ⟨fr, frd, Gr, mr, kr, br⟩ := yr
  refine ⟨f, fd, F.ok scParts (fun vs H Q E h => ?_) (fun cdv A outer s H vs Q E hr h => ?_), m, F.kp, F.binds fun _ _ _ _ _ _ us hl => match us, hl with | [_], _ => rfl⟩
  · obtain ⟨a, R, rfl, _⟩ := h; rfl
  · obtain ⟨a, R, rfl, ⟨vl, vle, vm, vw, va, hR⟩, hs, k⟩ := h
    have hr2 := hr.mono (show 2 ≤ 3 by decide)
    refine ⟨_, pss_cons (ps_asg (pv 0) (pg_tup (by rfl) (pgs_cons (pg_name (i := 1) scParts.nd rfl (Or.inl rfl)) (pgs_cons (pg_name (i := 2) scParts.nd rfl (Or.inl rfl)) (pgs_cons (pg_name (i := 3) scParts.nd rfl (Or.inl rfl)) (pgs_cons (pg_name (i := 4) scParts.nd rfl (Or.inl rfl)) (pgs_cons (pg_name (i := 3) scParts.nd rfl (Or.inl rfl)) (pgs_cons (pg_name (i := 5) scParts.nd rfl (Or.inl rfl)) pgs_nil))))))))
      (pss_cons (ps_set (i := 6) scParts.nd rfl (Or.inr rfl) (pe_callB (r := rLenS K) cr_len rfl T.len PySem.boot_len (pa_cons (pv 4) pa_nil)))
      (pss_cons (ps_set (i := 8) scParts.nd rfl (Or.inl rfl) (pe_call Gs hr2 rfl ms ks bs .nil pass0 (pa_cons (pe_lc (own := [("a", 7)]) (g := gName 7) (tt := tYes) rfl scParts.nd (pi_range1 rfl T.rng (pa_cons (pe_ix (r := rIxT K) ix_tup (pv 1) pe_int (fun _ _ => rfl)) pa_nil)) (blkOk_by (N := nParts) (sc := defScope sParts) (by decide +kernel)) (fun _ _ _ _ _ => pg_name (i := 7) scParts.nd rfl (Or.inl rfl)) (fun _ _ _ _ _ => pts_nil)
          (fun _ _ _ _ _ => pe_tup (pa_cons pe_str (pa_cons (pv 7) pa_nil)))) pa_nil)))
      (pss_cons (ps_set (i := 9) scParts.nd rfl (Or.inl rfl) (pe_lst (pa_cons (pe_tup (pa_cons pe_str (pa_cons (pe_call Gy hr2 rfl my ky by_ .nil pass0 (pa_cons
          (pe_lc2 (own := [("v", 11), ("w", 12)]) (vs1 := [12]) (g := gName 11) (tt := tYes) (g1 := gName 12) (tt1 := tYes) (wi1 := iRng1 (tCons (tVar 6) tNil)) rfl scParts.nd (pi_range1 rfl T.rng (pa_cons (pv 6) pa_nil)) (blkOk_by (N := nParts) (sc := defScope sParts) (by decide +kernel)) (by decide) (fun _ _ _ _ _ => pg_name (i := 11) scParts.nd rfl (Or.inl rfl)) (fun _ _ _ _ _ => pts_nil) (fun _ _ _ _ _ => pi_range1 rfl T.rng (pa_cons (pv 6) pa_nil)) (fun _ _ _ _ _ => pg_name (i := 12) scParts.nd rfl (Or.inl rfl)) (fun _ _ _ _ _ => pts_nil)
            (fun _ _ _ _ _ => pe_call Ga hr2 rfl ma ka ba .nil pass0 (pa_cons (pv 11) (pa_cons (pv 12) pa_nil)))) pa_nil)) pa_nil))) pa_nil)))
      (pss_cons (ps_expr (pe_bm PySem.F.plainAttrs_list PySem.F.slot_list_append PySem.F.type_list_append mt_append (pv 9) (pa_cons (pe_tup (pa_cons pe_str (pa_cons (pe_call Gb hr rfl mb kb bb .nil pass0 (pa_cons (pv 0) (pa_cons (pv 2) pa_nil))) pa_nil))) pa_nil)))
      (pss_cons (ps_expr (pe_bm PySem.F.plainAttrs_list PySem.F.slot_list_append PySem.F.type_list_append mt_append (pv 9) (pa_cons (pe_tup (pa_cons pe_str (pa_cons (pv 8) (pa_cons (pe_call Gb hr rfl mb kb bb .nil pass0 (pa_cons (pv 0) (pa_cons (pv 2) pa_nil))) pa_nil)))) pa_nil)))
      (pss_cons (ps_expr (pe_bm PySem.F.plainAttrs_list PySem.F.slot_list_append PySem.F.type_list_append mt_append (pv 9) (pa_cons (pe_tup (pa_cons pe_str (pa_cons (pe_call Gs hr2 rfl ms ks bs .nil pass0 (pa_cons (pe_lc (own := [("v", 11)]) (g := gName 11) (tt := tYes) rfl scParts.nd (pi_tup (pv 5)) (blkOk_by (N := nParts) (sc := defScope sParts) (by decide +kernel)) (fun _ _ _ _ _ => pg_name (i := 11) scParts.nd rfl (Or.inl rfl)) (fun _ _ _ _ _ => pts_nil)
          (fun _ _ _ _ _ => pe_tup (pa_cons pe_str (pa_cons (pv 11) pa_nil)))) pa_nil)) pa_nil))) pa_nil)))
      (pss_cons (ps_for PassesOwn.never rfl (pi_range1 rfl T.rng (pa_cons (pv 6) pa_nil)) (pg_name (i := 10) scParts.nd rfl (Or.inl rfl))
        (pss_one (ps_expr (pe_bm PySem.F.plainAttrs_list PySem.F.slot_list_append PySem.F.type_list_append mt_append (pv 9) (pa_cons (pe_tup (pa_cons pe_str (pa_cons (pe_tup (pa_cons pe_str (pa_cons (pe_tup (pa_cons pe_str (pa_cons (pv 8) pa_nil))) (pa_cons (pe_tup (pa_cons pe_str (pa_cons (pv 10) pa_nil))) pa_nil)))) (pa_cons (pe_call Gb hr rfl mb kb bb .nil pass0 (pa_cons (pv 0) (pa_cons (pv 10) pa_nil))) pa_nil)))) pa_nil)))))
      (pss_cons (ps_for PassesOwn.never rfl (pi_range1 rfl T.rng (pa_cons (pv 6) pa_nil)) (pg_name (i := 10) scParts.nd rfl (Or.inl rfl))
        (pss_one (ps_for PassesOwn.never rfl (pi_range1 rfl T.rng (pa_cons (pe_ix (r := rIxT K) ix_tup (pv 1) pe_int (fun _ _ => rfl)) pa_nil)) (pg_name (i := 7) scParts.nd rfl (Or.inl rfl))
          (pss_one (ps_expr (pe_bm PySem.F.plainAttrs_list PySem.F.slot_list_append PySem.F.type_list_append mt_append (pv 9) (pa_cons (pe_call Gr hr rfl mr kr br .nil pass0 (pa_cons (pv 0) (pa_cons (pv 10) (pa_cons (pv 7) pa_nil)))) pa_nil)))))))
      (pss_one (ps_ret (pv 9))))))))))), ?_⟩
    have h2 := hs.n
    have h3 := hs.nc
    have h4 := hs.a
    have hat : ∀ H', Same H H' → RdAt H' a R := fun H' e => ⟨vl, vle, vm, vw, va, hR.mono e⟩
    refine ⟨_, rfl, a, _, rfl, SqT.of hR.tup, rfl, _, _, rfl, _, _, rfl, _, _, rfl, _, _, rfl, _, _, rfl, _, _, rfl, rfl, ?_⟩
    refine st_is [some (.ref a), some vl, some (nI R.empty), some vw, some vm, some va, none, none, none, none, none, none, none] rfl ?_
    refine s_asg (ev_lenM hR.mu (ev_var rfl)) fun H1 e1 => ?_
    have R1 := hR.mono e1
    refine st_is [some (.ref a), some vl, some (nI R.empty), some vw, some vm, some va, some (nI R.n), none, none, none, none, none, none] rfl ?_
    refine s_part (ep_fold (f := someP) (ps := (List.range R.nc).map fun a => .pl ⟨.call, a⟩) (elp_range (n := R.nc) (fun a => .pl ⟨.call, a⟩) (by omega) (ea_cons (ev_row (i := 1) R1.la (ev_var rfl) (ev_litN rfl) (by show 1 < 3; decide)) ea_nil) (fun _ => rfl) fun x H2 e2 hx => ep_pl .call (ev_var rfl))) fun vc H2 e2 hc => ?_
    have e12 := e1.trans e2
    refine st_is [some (.ref a), some vl, some (nI R.empty), some vw, some vm, some va, some (nI R.n), none, some vc, none, none, none, none] rfl ?_
    refine s_lst (elp_one (ep_un .all (ep_fold (f := everyP) (ps := apartL R) (elp_range2 (n := R.n) (m := R.n) apartP (by omega) (by omega) (ea_cons (ev_var rfl) ea_nil) (fun i H3 e3 => ea_cons (ev_var rfl) ea_nil) (fun _ => rfl) (fun _ _ => rfl) fun i j H3 e3 hi hj => ep_apart (ev_var rfl) (ev_var rfl))))) fun l H3 L3 => ?_
    have c3 : PtAt H3 vc (callP R) := PtAt.mono L3.1 hc
    refine st_is [some (.ref a), some vl, some (nI R.empty), some vw, some vm, some va, some (nI R.n), none, some vc, some (.ref l), none, none, none] rfl ?_
    refine s_appP L3 (ev_var rfl) (ep_un .first (ep_behind (hat H3 (e12.trans L3.1)) hs hs.f.e (ev_var rfl) (ev_var rfl))) (by simp) fun H4 L4 => ?_
    refine s_appP L4 (ev_var rfl) (ep_bin .next (ep_var rfl (hc.mono L4.1)) (ep_behind (hat H4 (e12.trans L4.1)) hs hs.f.e (ev_var rfl) (ev_var rfl))) (by simp) fun H5 L5 => ?_
    refine s_appP L5 (ev_var rfl) (ep_un .last (ep_fold (f := someP) (ps := R.acc.map .set) (elp_tup (fun x => .set x) (hR.mono (e12.trans L5.1)).ac (ev_var rfl) (by omega) (fun _ => rfl) fun x H6 e6 hx => ep_set (ev_var rfl)))) (by simp) fun H6 L6 => ?_
    refine s_forR1 (n := (R.n : Nat)) (ea_cons (ev_var rfl) ea_nil) (by omega)
      (fun i σ' H' => ∃ y10 y11 y12, σ' = [some (.ref a), some vl, some (nI R.empty), some vw, some vm, some va, some (nI R.n), none, some vc, some (.ref l), y10, y11, y12] ∧ Ls H2 H' l (headL R ++ (List.range i).map fun u => .bin .next (.bin .and (.un .not (callP R)) (.set u)) (behindP R u)))
      (fun H7 e7 => ⟨_, _, _, rfl, by rw [show List.range 0 = [] from rfl, List.map_nil, List.append_nil]; exact L6.mono e7⟩) ?_ ?_
    · rintro i σ' H7 hi ⟨y10, y11, y12, rfl, L7⟩
      refine st_is [some (.ref a), some vl, some (nI R.empty), some vw, some vm, some va, some (nI R.n), none, some vc, some (.ref l), some (nI i), y11, y12] rfl ?_
      refine s_appP L7 (ev_var rfl) (ep_bin .next (ep_bin .and (ep_un .not (ep_var rfl (hc.mono L7.1))) (ep_set (ev_var rfl))) (ep_behind (hat H7 (e12.trans L7.1)) hs (by omega) (ev_var rfl) (ev_var rfl))) (by rw [List.length_append, List.length_map, List.length_range]; show 4 + i ≤ 1000; omega) fun H8 L8 => ⟨_, _, _, rfl, ?_⟩
      rw [List.append_assoc] at L8
      rw [List.range_succ, List.map_append]
      exact L8
    rintro σ' H7 ⟨y10, y11, y12, rfl, L7⟩
    refine s_forR1 (n := (R.n : Nat)) (ea_cons (ev_var rfl) ea_nil) (by omega)
      (fun i σ' H' => ∃ y7 y10 y11 y12, σ' = [some (.ref a), some vl, some (nI R.empty), some vw, some vm, some va, some (nI R.n), y7, some vc, some (.ref l), y10, y11, y12] ∧ Ls H2 H' l (headL R ++ (nextL R ++ (List.range i).flatMap fun u => (List.range R.nc).map fun a => archP R u a)))
      (fun H8 e8 => ⟨_, _, _, _, rfl, by rw [show List.range 0 = [] from rfl, List.flatMap_nil, List.append_nil]; exact L7.mono e8⟩) ?_ ?_
    · rintro i σ' H8 hi ⟨y7, y10, y11, y12, rfl, L8⟩
      refine st_is [some (.ref a), some vl, some (nI R.empty), some vw, some vm, some va, some (nI R.n), y7, some vc, some (.ref l), some (nI i), y11, y12] rfl ?_
      refine s_forR1 (n := (R.nc : Nat)) (ea_cons (ev_row (i := 1) (hR.mono (e12.trans L8.1)).la (ev_var rfl) (ev_litN rfl) (by show 1 < 3; decide)) ea_nil) (by omega)
        (fun j σ' H' => ∃ y7 y11 y12, σ' = [some (.ref a), some vl, some (nI R.empty), some vw, some vm, some va, some (nI R.n), y7, some vc, some (.ref l), some (nI i), y11, y12] ∧ Ls H2 H' l ((headL R ++ (nextL R ++ (List.range i).flatMap fun u => (List.range R.nc).map fun a => archP R u a)) ++ (List.range j).map fun a => archP R i a))
        (fun H9 e9 => ⟨_, _, _, rfl, by rw [show List.range 0 = [] from rfl, List.map_nil, List.append_nil]; exact L8.mono e9⟩) ?_ ?_
      · rintro j σ' H9 hj ⟨y7, y11, y12, rfl, L9⟩
        refine st_is [some (.ref a), some vl, some (nI R.empty), some vw, some vm, some va, some (nI R.n), some (nI j), some vc, some (.ref l), some (nI i), y11, y12] rfl ?_
        refine s_appP L9 (ev_var rfl) (ep_arch (hat H9 (e12.trans L9.1)) hs (by omega) (by omega) (ev_var rfl) (ev_var rfl) (ev_var rfl)) ?_ fun H10 L10 => ⟨_, _, _, rfl, ?_⟩
        · rw [List.length_append, List.length_append, List.length_append, flat_len, List.length_map, List.length_range]
          have : i * R.nc ≤ 2 * 2 := Nat.mul_le_mul (by omega) h3
          have e4 : (headL R).length = 4 := rfl
          have e5 : (nextL R).length = R.n := by unfold nextL; rw [List.length_map, List.length_range]
          omega
        · rw [List.range_succ, List.map_append, ← List.append_assoc]
          exact L10
      · rintro σ' H9 ⟨y7, y11, y12, rfl, L9⟩
        refine ⟨_, _, _, _, rfl, ?_⟩
        rw [List.range_succ, List.flatMap_append]
        simp only [List.flatMap_cons, List.flatMap_nil, List.append_nil]
        rw [List.append_assoc, List.append_assoc] at L9
        exact L9
    rintro σ' H8 ⟨y7, y10, y11, y12, rfl, L8⟩
    refine ⟨_, rfl, k l H8 ?_⟩
    obtain ⟨q1, q2, q3⟩ := L8
    exact ⟨e12.trans q1, free_of e12 q2, q3⟩
/-! ### walk_part -/
def spWalk : Sp := fun vs H Q _ => ∃ a R, vs = [.ref a] ∧ RdAt H a R ∧ Small R ∧ ∀ v H', Same H H' → PtAt H' v (walkP R) → Q v H'
theorem scWalk : FnScope ["reader", "made", "part"] ["reader"] (defScope sWalk) := ⟨rfl, rfl, rfl, by decide +kernel, rfl, by decide +kernel, by decide +kernel⟩
theorem elp_parts {σ : L2.St} {H : Hp} {ta : TE} {E : XK} {a : Addr} {R : Rd} (hR : RdAt H a R) (hs : Small R) (h1 : Ev ta σ H (.ref a)) : ELP (tCall spParts [] E (tCons ta tNil)) σ H (walkL R) := fun H1 e Q k =>
  h1 H1 e _ fun H2 e2 => by
    obtain ⟨vl, vle, vm, vw, va, q⟩ := hR
    refine ⟨a, R, rfl, ⟨vl, vle, vm, vw, va, q.mono (e.trans e2)⟩, hs, fun l H3 L => ?_⟩
    obtain ⟨l1, l2, vs, l3, l4⟩ := L
    exact k l vs H3 (free_of e2 l2) (e2.trans l1) l3 l4
theorem c_walk (T : Glob K mg) (y : Called P w K mg base 1 "yes" [] spYes) (yp : Called P w K mg base 4 "walk_parts" ["reader"] spParts) (h : Here K mg "walk_part" sWalk) : Called P w K mg base 5 "walk_part" ["reader"] spWalk := by
  obtain ⟨f, fd, F, m⟩ := h
  obtain ⟨fy, fyd, Gy, my, ky, by_⟩ := y
  obtain ⟨fp, fpd, Gp, mp, kp, bp⟩ := yp
  refine ⟨f, fd, F.ok scWalk (fun vs H Q E h => ?_) (fun cdv A outer s H vs Q E hr h => ?_), m, F.kp, F.binds fun _ _ _ _ _ _ us hl => match us, hl with | [_], _ => rfl⟩
  · obtain ⟨a, R, rfl, _⟩ := h; rfl
  · obtain ⟨a, R, rfl, ⟨vl, vle, vm, vw, va, hR⟩, hs, k⟩ := h
    have hr1 := hr.mono (show 1 ≤ 4 by decide)
    refine ⟨_, pss_cons (ps_set (i := 1) scWalk.nd rfl (Or.inl rfl) (pe_tup (pa_cons pe_str (pa_cons (pe_call0 Gy hr1 rfl my ky by_ .nil pass0) pa_nil))))
      (pss_cons (ps_for PassesOwn.never rfl (pi_reversed rfl T.rev (pa_cons (pe_call Gp hr rfl mp kp bp .nil pass0 (pa_cons (pv 0) pa_nil)) pa_nil)) (pg_name (i := 2) scWalk.nd rfl (Or.inl rfl))
        (pss_one (ps_set (i := 1) scWalk.nd rfl (Or.inl rfl) (pe_tup (pa_cons pe_str (pa_cons (pv 2) (pa_cons (pv 1) pa_nil)))))))
      (pss_one (ps_ret (pv 1)))), ?_⟩
    refine s_part (ep_un .all ep_yes) fun v H1 e1 hv => ?_
    refine s_fold (K := K) (ps := walkL R) (fun p q => .bin .both p q) (fun m y => [some (.ref a), some m, y]) (fun _ _ _ => rfl) rfl hv (from_list (elp_parts ⟨vl, vle, vm, vw, va, hR.mono e1⟩ hs (ev_var rfl))) ?_ ?_
    · intro m p v q H2 D1 e2 hm hv k2
      exact s_part (ep_bin .both (ep_var rfl hv) (ep_var rfl hm)) fun m' H3 e3 hm' => k2 m' H3 e3 hm'
    · intro m y H2 e2 hm
      exact ⟨_, rfl, k _ _ (e1.trans e2) hm⟩
end
end K46

/-! add_line, laid_out, sentence_for. -/
namespace K46
open PySem L2 Evl
/-! ### lines in the heap -/
def lnV : Ln → List V
  | .set n => [.str "set", nI n]
  | .pl p => [.str (kdS p.k), nI p.a]
  | .nothing => [.str "nothing"]
  | .un o i => [.str (unS o), nI i]
  | .bin o i j => [.str (binS o), nI i, nI j]
def LnAt (H : Hp) (v : V) (l : Ln) : Prop := ∃ a, v = .ref a ∧ H a = some (.tup (lnV l))
theorem LnAt.tps {H H' : Hp} (e : Tps H H') {v : V} {l : Ln} (h : LnAt H v l) : LnAt H' v l := by
  obtain ⟨a, h1, h2⟩ := h
  exact ⟨a, h1, e _ _ h2⟩
def LinesAt (H : Hp) (a : Addr) (ls : List Ln) : Prop := ∃ vs, H a = some (.tup vs) ∧ Paired (LnAt H) vs ls
theorem LinesAt.tps {H H' : Hp} (e : Tps H H') {a : Addr} {ls : List Ln} (h : LinesAt H a ls) : LinesAt H' a ls := by
  obtain ⟨vs, h1, h2⟩ := h
  exact ⟨vs, e _ _ h1, Paired.mapP h2 fun _ _ q => q.tps e⟩
/-! ### a part's name and its own parts -/
def nameOf : Pt → Str
  | .set _ => "set"
  | .pl p => kdS p.k
  | .nothing => "nothing"
  | .un o _ => unS o
  | .bin o _ _ => binS o
def kids : Pt → List Pt
  | .un _ p => [p]
  | .bin _ p q => [p, q]
  | _ => []
def leafLn : Pt → Option Ln
  | .set v => some (.set v)
  | .pl p => some (.pl p)
  | .nothing => some .nothing
  | _ => none
theorem pt_head {H : Hp} {x : V} : ∀ {p : Pt}, PtAt H x p → ∃ a xs, x = .ref a ∧ H a = some (.tup (.str (nameOf p) :: xs)) ∧ (leafLn p = none → Paired (PtAt H) xs (kids p)) ∧ (∀ l, leafLn p = some l → LnAt H x l)
  | .set _, ⟨a, h1, h2⟩ => ⟨a, _, h1, h2, (fun q => nomatch q), fun l q => by cases q; exact ⟨a, h1, h2⟩⟩
  | .pl _, ⟨a, h1, h2⟩ => ⟨a, _, h1, h2, (fun q => nomatch q), fun l q => by cases q; exact ⟨a, h1, h2⟩⟩
  | .nothing, ⟨a, h1, h2⟩ => ⟨a, _, h1, h2, (fun q => nomatch q), fun l q => by cases q; exact ⟨a, h1, h2⟩⟩
  | .un _ _, ⟨a, x, h1, h2, h3⟩ => ⟨a, _, h1, h2, fun _ => .cons h3 .nil, fun l q => nomatch q⟩
  | .bin _ _ _, ⟨a, x, y, h1, h2, h3, h4⟩ => ⟨a, _, h1, h2, fun _ => .cons h3 (.cons h4 .nil), fun l q => nomatch q⟩
theorem in_leaves (p : Pt) : inV (.str (nameOf p)) (leaves.map V.str) = (leafLn p).isSome := by
  cases p with
  | set v => exact (by decide +kernel : inV (.str "set") (leaves.map V.str) = true)
  | pl p =>
    obtain ⟨k, a⟩ := p
    cases k with
    | letter => exact (by decide +kernel : inV (.str "letter") (leaves.map V.str) = true)
    | call => exact (by decide +kernel : inV (.str "call") (leaves.map V.str) = true)
    | ret => exact (by decide +kernel : inV (.str "return") (leaves.map V.str) = true)
  | nothing => exact (by decide +kernel : inV (.str "nothing") (leaves.map V.str) = true)
  | un o p =>
    show inV (.str (unS o)) (leaves.map V.str) = false
    cases o <;> decide +kernel
  | bin o p q =>
    show inV (.str (binS o)) (leaves.map V.str) = false
    cases o <;> decide +kernel
theorem kids_pos {p : Pt} (h : leafLn p = none) : 0 < (kids p).length ∧ (kids p).length ≤ 2 := by
  cases p with
  | un o p => exact ⟨by show 0 < 1; decide, by show 1 ≤ 2; decide⟩
  | bin o p q => exact ⟨by show 0 < 2; decide, by show 2 ≤ 2; decide⟩
  | _ => cases h
/-- one turn of the machine -/
theorem run_turn {T rs : List Ln} {ns : List Nat} {p : Pt} {b : Bool} {w : List (Pt × Bool)} (h : Run T rs ns ((p, b) :: w)) :
    (∃ l, leafLn p = some l ∧ Run T (rs ++ [l]) (ns ++ [rs.length]) w) ∨
    (leafLn p = none ∧ b = false ∧ Run T rs ns ((kids p).map (fun q => (q, false)) ++ (p, true) :: w) ∧ wt ((kids p).map (fun q => (q, false)) ++ (p, true) :: w) < wt ((p, b) :: w)) ∨
    (leafLn p = none ∧ b = true ∧ ∃ ms is l, ns = ms ++ is ∧ is.length = (kids p).length ∧ lnV l = .str (nameOf p) :: is.map nI ∧ Run T (rs ++ [l]) (ms ++ [rs.length]) w) := by
  cases h with
  | set h => exact .inl ⟨_, rfl, h⟩
  | pl h => exact .inl ⟨_, rfl, h⟩
  | nothing h => exact .inl ⟨_, rfl, h⟩
  | openUn h => exact .inr (.inl ⟨rfl, rfl, h, wt_un _ _ _⟩)
  | openBin h => exact .inr (.inl ⟨rfl, rfl, h, wt_bin _ _ _ _⟩)
  | shutUn h => exact .inr (.inr ⟨rfl, rfl, _, [_], _, rfl, rfl, rfl, h⟩)
  | shutBin h => exact .inr (.inr ⟨rfl, rfl, _, [_, _], _, rfl, rfl, rfl, h⟩)
/-! ### the machine's state in the heap -/
def ItAt (H : Hp) (v : V) (q : Pt × Bool) : Prop := ∃ a x, v = .ref a ∧ H a = some (.tup [x, .bl q.2]) ∧ PtAt H x q.1
theorem ItAt.tps {H H' : Hp} (e : Tps H H') {v : V} {q : Pt × Bool} (h : ItAt H v q) : ItAt H' v q := by
  obtain ⟨a, x, h1, h2, h3⟩ := h
  exact ⟨a, x, h1, e _ _ h2, h3.tps e⟩
structure Mach (H0 H : Hp) (lr ln lw : Addr) (rs : List Ln) (ns : List Nat) (W : List (Pt × Bool)) : Prop where
  same : Same H0 H
  r0 : H0 lr = none
  n0 : H0 ln = none
  w0 : H0 lw = none
  rn : lr ≠ ln
  rw' : lr ≠ lw
  nw : ln ≠ lw
  r : ∃ xr, H lr = some (.lst xr) ∧ Paired (LnAt H) xr rs
  n : H ln = some (.lst (ns.map nI))
  w : ∃ xw, H lw = some (.lst xw) ∧ Paired (ItAt H) xw W.reverse
section
variable {H0 H : Hp} {lr ln lw : Addr} {rs : List Ln} {ns : List Nat} {W : List (Pt × Bool)}
theorem Mach.mono {H' : Hp} (e : Same H H') (m : Mach H0 H lr ln lw rs ns W) : Mach H0 H' lr ln lw rs ns W := by
  obtain ⟨xr, h1, h2⟩ := m.r
  obtain ⟨xw, h3, h4⟩ := m.w
  exact ⟨m.same.trans e, m.r0, m.n0, m.w0, m.rn, m.rw', m.nw, ⟨xr, e _ _ h1, Paired.mapP h2 fun _ _ q => q.tps (tps_of e)⟩, e _ _ m.n, ⟨xw, e _ _ h3, Paired.mapP h4 fun _ _ q => q.tps (tps_of e)⟩⟩
/-- a row more -/
theorem Mach.row {xr : List V} {v : V} {l : Ln} (m : Mach H0 H lr ln lw rs ns W) (h : H lr = some (.lst xr)) (hp : Paired (LnAt H) xr rs) (hv : LnAt H v l) : Mach H0 (upd H lr (.lst (xr ++ [v]))) lr ln lw (rs ++ [l]) ns W := by
  have t := tps_put h (.lst (xr ++ [v]))
  obtain ⟨xw, h3, h4⟩ := m.w
  exact ⟨same_put m.same m.r0 _, m.r0, m.n0, m.w0, m.rn, m.rw', m.nw, ⟨_, upd_same, paired_append (Paired.mapP hp fun _ _ q => q.tps t) (.cons (hv.tps t) .nil)⟩, by rw [upd_ne m.rn.symm]; exact m.n, ⟨xw, by rw [upd_ne m.rw'.symm]; exact h3, Paired.mapP h4 fun _ _ q => q.tps t⟩⟩
/-- a number more -/
theorem Mach.num (k : Nat) (m : Mach H0 H lr ln lw rs ns W) : Mach H0 (upd H ln (.lst (ns.map nI ++ [nI k]))) lr ln lw rs (ns ++ [k]) W := by
  have t := tps_put m.n (.lst (ns.map nI ++ [nI k]))
  obtain ⟨xr, h1, h2⟩ := m.r
  obtain ⟨xw, h3, h4⟩ := m.w
  exact ⟨same_put m.same m.n0 _, m.r0, m.n0, m.w0, m.rn, m.rw', m.nw, ⟨_, by rw [upd_ne m.rn]; exact h1, Paired.mapP h2 fun _ _ q => q.tps t⟩, by rw [upd_same, List.map_append]; rfl, ⟨xw, by rw [upd_ne m.nw.symm]; exact h3, Paired.mapP h4 fun _ _ q => q.tps t⟩⟩
/-- another list of numbers -/
theorem Mach.nums {H' : Hp} {ln' : Addr} {ms : List Nat} (m : Mach H0 H lr ln lw rs ns W) (e : Same H H') (hn : H ln' = none) (h : H' ln' = some (.lst (ms.map nI))) : Mach H0 H' lr ln' lw rs ms W := by
  have m' := m.mono e
  obtain ⟨xr, h1, h2⟩ := m.r
  obtain ⟨xw, h3, h4⟩ := m.w
  exact ⟨m'.same, m.r0, m.same.free hn, m.w0, ne_of_none h1 hn, m.rw', (ne_of_none h3 hn).symm, m'.r, h, m'.w⟩
theorem Mach.put {xw ys : List V} {V' : List (Pt × Bool)} (m : Mach H0 H lr ln lw rs ns W) (h : H lw = some (.lst xw)) (hp : Paired (ItAt H) ys V'.reverse) : Mach H0 (upd H lw (.lst ys)) lr ln lw rs ns V' := by
  have t := tps_put h (.lst ys)
  obtain ⟨xr, h1, h2⟩ := m.r
  exact ⟨same_put m.same m.w0 _, m.r0, m.n0, m.w0, m.rn, m.rw', m.nw, ⟨_, by rw [upd_ne m.rw']; exact h1, Paired.mapP h2 fun _ _ q => q.tps t⟩, by rw [upd_ne m.nw]; exact m.n, ⟨_, upd_same, Paired.mapP hp fun _ _ q => q.tps t⟩⟩
theorem paired_snoc {α β : Type} {F : α → β → Prop} : ∀ {ys : List β} {xs : List α} {y : β}, Paired F xs (ys ++ [y]) → ∃ xs' x, xs = xs' ++ [x] ∧ Paired F xs' ys ∧ F x y
  | [], _, _, .cons r .nil => ⟨[], _, rfl, .nil, r⟩
  | _ :: _, _, _, .cons r t => by
    obtain ⟨xs', x, e, h1, h2⟩ := paired_snoc t
    exact ⟨_ :: xs', x, by rw [e]; rfl, .cons r h1, h2⟩
end
/-- tuple(x) -/
def rTupS (K : PySem.W.Frag) : List V → Hp → VK → Prop := fun xs H Q => ∃ p ys, xs = [.ref p] ∧ ((SqL K H p ys ∧ ∀ l, H l = none → Q (.ref l) (upd H l (.tup ys))) ∨ (SqT K H p ys ∧ Q (.ref p) H))
theorem cr_tup {X : Cx} : CallR X (.type "tuple") (rTupS X.K) := call_tuple_of
theorem cut_tail (y : V) (xs : List V) : cutV (y :: xs) (some 1) none = xs := by
  unfold cutV
  rw [show HT.sIx (y :: xs).length 0 (some 1) = min 1 (y :: xs).length from HT.sIx_nat _ _ 1, HT.sIx_none]
  rw [show min 1 (y :: xs).length = 1 by rw [List.length_cons]; omega]
  show List.take ((y :: xs).length - 1) xs = xs
  rw [List.length_cons, Nat.add_sub_cancel]
  exact List.take_length
theorem cut_at (xs ys : List V) : cutV (xs ++ ys) (some (xs.length : Nat)) none = ys := by
  unfold cutV
  rw [HT.sIx_nat, HT.sIx_none, List.length_append, show min xs.length (xs.length + ys.length) = xs.length by omega, List.drop_left, List.take_of_length_le (by omega)]
theorem cut_to (xs ys : List V) : cutV (xs ++ ys) none (some (xs.length : Nat)) = xs := by
  unfold cutV
  rw [HT.sIx_nat, HT.sIx_none, List.length_append, show min xs.length (xs.length + ys.length) = xs.length by omega, List.drop_zero, Nat.sub_zero, List.take_left]
theorem int_sub (a b : Nat) (h : b ≤ a) : ((a : Nat) : Int) - ((b : Nat) : Int) = ((a - b : Nat) : Int) := by omega
section
variable {P : Program} {w : World} {K : PySem.W.Frag} {mg : Str → Option Value} {base : Heap}
theorem go_name {i : Nat} {v : V} {σ : L2.St} {H : Hp} {Q : L2.St → Hp → Prop} (h : Q (σ.set i (some v)) H) : gName i v σ H Q := h
/-! ### add_line -/
def spAdd : Sp := fun vs H Q _ => ∃ l v xs, vs = [.ref l, v] ∧ H l = some (.lst xs) ∧ xs.length < 4000 ∧ Q (nI xs.length) (upd H l (.lst (xs ++ [v])))
theorem scAdd : FnScope ["rows", "line"] ["rows", "line"] (defScope sAdd) := ⟨rfl, rfl, rfl, by decide +kernel, rfl, by decide +kernel, by decide +kernel⟩
theorem c_add (T : Glob K mg) (h : Here K mg "add_line" sAdd) : Called P w K mg base 1 "add_line" ["rows", "line"] spAdd := by
  obtain ⟨f, fd, F, m⟩ := h
  obtain ⟨t, mt⟩ := T.most
  refine ⟨f, fd, F.ok scAdd (fun vs H Q E h => ?_) (fun cdv A outer s H vs Q E hr h => ?_), m, F.kp, F.binds fun _ _ _ _ _ _ us hl => match us, hl with | [_, _], _ => rfl⟩
  · obtain ⟨l, v, xs, rfl, _⟩ := h; rfl
  · obtain ⟨l, v, xs, rfl, hl, hz, k⟩ := h
    refine ⟨_, pss_cons (ps_if (pt_cmpR op_eq (pe_callB (r := rLenS K) cr_len rfl T.len PySem.boot_len (pa_cons (pv 0) pa_nil)) (pe_glob (v := .int 4000) rfl mt ⟨_, rfl⟩) (nomark _)) (pss_one ps_never) pss_nil)
      (pss_cons (ps_expr (pe_bm PySem.F.plainAttrs_list PySem.F.slot_list_append PySem.F.type_list_append mt_append (pv 0) (pa_cons (pv 1) pa_nil)))
      (pss_one (ps_ret (pe_op op_sub (pe_callB (r := rLenS K) cr_len rfl T.len PySem.boot_len (pa_cons (pv 0) pa_nil)) pe_int)))), ?_⟩
    refine ⟨_, rfl, l, xs, rfl, .inl (SqL.of hl), rfl, _, rfl, ite2 (fun c => ?_) (fun c => ?_)⟩
    · have := V.int.inj (of_decide_eq_true c)
      omega
    · refine ⟨_, rfl, .inl ⟨rfl, _, SqL.of hl⟩, _, rfl, l, xs, v, rfl, rfl, hl, sz_lt (by omega), ?_⟩
      refine ⟨_, rfl, l, _, rfl, .inl (SqL.of upd_same), _, _, rfl, rfl, ?_⟩
      show Q (.int ((((xs ++ [v]).length : Nat) : Int) - 1)) _
      rw [List.length_append, List.length_singleton, show (((xs.length + 1 : Nat) : Int) - 1) = (xs.length : Int) by omega]
      exact k
/-! ### laid_out -/
def spLaid : Sp := fun vs H Q _ => ∃ v p, vs = [v] ∧ PtAt H v p ∧ sz p ≤ 3000 ∧ ∀ a H', Same H H' → LinesAt H' a (lay 0 p) → Q (.ref a) H'
abbrev nLaid : List Str := ["part", "rows", "numbers", "waiting", "item", "ready", "count", "line", "inner"]
theorem scLaid : FnScope nLaid ["part"] (defScope sLaid) := ⟨rfl, rfl, rfl, by decide +kernel, rfl, by decide +kernel, by decide +kernel⟩
/-- the new entries of the stack: a part's own parts, the last one first, none of them seen yet -/
theorem s_items {σ : L2.St} {H : Hp} {a : Addr} {nm : Str} {xs : List V} {ps : List Pt} (hσ : σ[4]? = some (some (.ref a))) (h8 : (wipe σ [8]).length = 9) (ha : H a = some (.tup (.str nm :: xs))) (hp : Paired (PtAt H) xs ps) (h0 : 0 < ps.length) (hz : ps.length ≤ 2) {Q : VK}
    (k : ∀ b ys H2, H b = none → Same H H2 → H2 b = some (.lst ys) → Paired (ItAt H2) ys (ps.map fun q => (q, false)).reverse → Q (.ref b) H2) :
    tLc (RT.iRevA K (tSl (rSlT K) (tVar 4) (tPart (tC (.int 1))) tNoPart)) (gName 8) tYes (tTup (tCons (tVar 8) (tCons (tC (.bl false)) tNil))) [8] σ H Q := by
  have hl := hp.length
  refine ⟨_, hσ, 1, rfl, a, _, rfl, SqT.of ha, ?_, fun t ht => ?_⟩
  · rintro ⟨q, _⟩
    rw [show HT.sIx (V.str nm :: xs).length 0 (some 1) = min 1 (V.str nm :: xs).length from HT.sIx_nat _ _ 1, List.length_cons] at q
    omega
  rw [cut_tail]
  have s1 : Same H (upd H t (.tup xs)) := same_new ht _
  refine ⟨t, xs, rfl, .inr ⟨SqT.of upd_same, fun D hD => ?_⟩⟩
  refine ⟨fun i m H' => m = xs.length - i ∧ i ≤ xs.length ∧ Same (upd H t (.tup xs)) H' ∧ ∃ ys, H' D = some (.lst ys) ∧ Paired (ItAt H') ys ((ps.drop (ps.length - i)).map fun q => (q, false)).reverse, ⟨xs.length, rfl, Nat.zero_le _, same_new hD _, [], upd_same, ?_⟩, ?_⟩
  · rw [Nat.sub_zero, List.drop_length]
    exact .nil
  rintro i m H' ⟨rfl, hi, s2, ys, h1, h2⟩
  by_cases hlt : i < xs.length
  · have hj : xs.length - 1 - i < xs.length := by omega
    have hx : xs[xs.length - 1 - i]? = some xs[xs.length - 1 - i] := List.getElem?_eq_getElem hj
    have hsq : SqT K H' t xs := SqT.of (s2 _ _ upd_same)
    refine .inr ⟨⟨hlt, xs, _, hsq, hx⟩, fun H' => i + 1 ≤ xs.length ∧ Same (upd H t (.tup xs)) H' ∧ ∃ ys, H' D = some (.lst ys) ∧ Paired (ItAt H') ys ((ps.drop (ps.length - (i + 1))).map fun q => (q, false)).reverse, fun H2 ⟨q1, q2⟩ => ⟨xs.length - (i + 1), by omega, rfl, q1, q2⟩, ?_⟩
    rintro x H2 ⟨rfl, hy⟩
    have hxi := hy xs hsq
    obtain ⟨p, hpi, hxp⟩ := paired_at hp hxi
    refine ⟨?_, ?_⟩
    · show ((σ.set 8 none).set 8 (some x)).set 8 none = σ.set 8 none
      rw [List.set_set, List.set_set]
    refine tyes (iteT ?_)
    refine ⟨x, ?_, small 2, fun u hu => ⟨ys, ?_, sz_lt ?_, ?_⟩⟩
    · show ((wipe σ [8]).set 8 (some x))[8]? = some (some x)
      rw [List.getElem?_set_self (by omega)]
    · rw [upd_ne (ne_of_none h1 hu)]
      exact h1
    · have := h2.length
      rw [List.length_reverse, List.length_map, List.length_drop] at this
      omega
    · have s3 : Same H2 (upd H2 u (.tup [x, .bl false])) := same_new hu _
      have h1' : (upd H2 u (.tup [x, .bl false])) D = some (.lst ys) := s3 _ _ h1
      have t3 := tps_put h1' (.lst (ys ++ [.ref u]))
      refine ⟨by omega, same_put (s2.trans s3) hD _, _, upd_same, ?_⟩
      rw [hl] at hlt hpi
      rw [drop_one hlt hpi, List.map_cons, List.reverse_cons]
      refine paired_append (Paired.mapP h2 fun _ _ q => q.tps ((tps_of s3).trans t3)) (.cons ⟨u, x, rfl, t3 _ _ upd_same, ?_⟩ .nil)
      exact hxp.tps ((tps_of (s1.trans (s2.trans s3))).trans t3)
  · have e : i = xs.length := by omega
    subst e
    rw [hl, Nat.sub_self, List.drop_zero] at h2
    exact .inl ⟨Nat.le_refl _, k D ys H' (s1.free hD) (s1.trans s2) h1 h2⟩
theorem c_laid (T : Glob K mg) (y : Called P w K mg base 1 "add_line" ["rows", "line"] spAdd) (h : Here K mg "laid_out" sLaid) : Called P w K mg base 2 "laid_out" ["part"] spLaid := by
  obtain ⟨f, fd, F, m⟩ := h
  obtain ⟨fy, fyd, Gy, my, ky, by_⟩ := y
  obtain ⟨aL, mL, hL⟩ := T.leaves
  refine ⟨f, fd, F.ok scLaid (fun vs H Q E h => ?_) (fun cdv A outer s H vs Q E hr h => ?_), m, F.kp, F.binds fun _ _ _ _ _ _ us hl => match us, hl with | [_], _ => rfl⟩
  · obtain ⟨v, p, rfl, _⟩ := h; rfl
  · obtain ⟨v, p, rfl, hv, hz, k⟩ := h
    refine ⟨_, pss_cons (ps_set (i := 1) scLaid.nd rfl (Or.inl rfl) (pe_lst pa_nil))
      (pss_cons (ps_set (i := 2) scLaid.nd rfl (Or.inl rfl) (pe_lst pa_nil))
      (pss_cons (ps_set (i := 3) scLaid.nd rfl (Or.inl rfl) (pe_lst (pa_cons (pe_tup (pa_cons (pv 0) (pa_cons pe_bl pa_nil))) pa_nil)))
      (pss_cons (ps_while PassesOwn.never (pt_truth (pv 3) (by intro _; rfl))
        (pss_cons (ps_asg (pe_bm0 PySem.F.plainAttrs_list PySem.F.slot_list_pop PySem.F.type_list_pop mt_pop (pv 3)) (pg_tup (by rfl) (pgs_cons (pg_name (i := 4) scLaid.nd rfl (Or.inl rfl)) (pgs_cons (pg_name (i := 5) scLaid.nd rfl (Or.inl rfl)) pgs_nil))))
        (pss_one (ps_if (pt_cmpR (r := rIn K false) op_in_seq (pe_ix (r := rIxT K) ix_tup (pv 4) pe_int (fun _ _ => rfl)) (pe_glob (v := .ref aL) rfl mL rfl) (by rfl))
          (pss_one (ps_expr (pe_bm PySem.F.plainAttrs_list PySem.F.slot_list_append PySem.F.type_list_append mt_append (pv 2) (pa_cons (pe_call Gy hr rfl my ky by_ .nil pass0 (pa_cons (pv 1) (pa_cons (pv 4) pa_nil))) pa_nil))))
          (pss_one (ps_if (pt_val (pv 5))
            (pss_cons (ps_set (i := 6) scLaid.nd rfl (Or.inl rfl) (pe_op op_sub (pe_callB (r := rLenS K) cr_len rfl T.len PySem.boot_len (pa_cons (pv 4) pa_nil)) pe_int))
            (pss_cons (ps_set (i := 7) scLaid.nd rfl (Or.inl rfl) (pe_op (r := rCatT K) op_catT (pe_tup (pa_cons (pe_ix (r := rIxT K) ix_tup (pv 4) pe_int (fun _ _ => rfl)) pa_nil)) (pe_callTy (r := rTupS K) cr_tup rfl T.tup (by decide +kernel) (pa_cons (pe_slice (r := rSlL K) sl_list (pv 2) (po_some (pe_op op_sub (pe_callB (r := rLenS K) cr_len rfl T.len PySem.boot_len (pa_cons (pv 2) pa_nil)) (pv 6))) po_none) pa_nil))))
            (pss_one (ps_set (i := 2) scLaid.nd rfl (Or.inl rfl) (pe_op op_cat (pe_slice (r := rSlL K) sl_list (pv 2) po_none (po_some (pe_op op_sub (pe_callB (r := rLenS K) cr_len rfl T.len PySem.boot_len (pa_cons (pv 2) pa_nil)) (pv 6)))) (pe_lst (pa_cons (pe_call Gy hr rfl my ky by_ .nil pass0 (pa_cons (pv 1) (pa_cons (pv 7) pa_nil))) pa_nil)))))))
            (pss_cons (ps_expr (pe_bm PySem.F.plainAttrs_list PySem.F.slot_list_append PySem.F.type_list_append mt_append (pv 3) (pa_cons (pe_tup (pa_cons (pv 4) (pa_cons pe_bl pa_nil))) pa_nil)))
            (pss_one (ps_aug (i := 3) scLaid.nd rfl (Or.inl rfl) (pe_lc (own := [("inner", 8)]) (g := gName 8) (tt := tYes) (wi := RT.iRevA K (tSl (rSlT K) (tVar 4) (tPart (tC (.int 1))) tNoPart)) rfl scLaid.nd (RT.pi_revA rfl T.rev (pe_slice (r := rSlT K) sl_tup (pv 4) (po_some pe_int) po_none)) (blkOk_by (N := nLaid) (sc := defScope sLaid) (by decide +kernel)) (fun _ _ _ _ _ => pg_name (i := 8) scLaid.nd rfl (Or.inl rfl)) (fun _ _ _ _ _ => pts_nil)
                (fun _ _ _ _ _ => pe_tup (pa_cons (pv 8) (pa_cons pe_bl pa_nil)))) iop_ext)))))))))
      (pss_one (ps_ret (pe_callTy (r := rTupS K) cr_tup rfl T.tup (by decide +kernel) (pa_cons (pv 1) pa_nil))))))), ?_⟩
    refine ⟨small 0, fun lr h1 => ⟨small 0, fun ln h2 => ?_⟩⟩
    refine ⟨_, rfl, small 2, fun tp h3 => ⟨small 1, fun lw h4 => ?_⟩⟩
    have s1 : Same H (upd H lr (.lst [])) := same_new h1 _
    have s2 := s1.trans (same_new h2 (.lst []))
    have s3 := s2.trans (same_new h3 (.tup [v, .bl false]))
    have s4 := s3.trans (same_new h4 (.lst [.ref tp]))
    have nrn : lr ≠ ln := ne_of_none upd_same h2
    have nrt : lr ≠ tp := ne_of_none ((same_new h2 (.lst [])) _ _ upd_same) h3
    have nnt : ln ≠ tp := ne_of_none upd_same h3
    have nrw : lr ≠ lw := ne_of_none ((same_new h3 _) _ _ ((same_new h2 (.lst [])) _ _ upd_same)) h4
    have nnw : ln ≠ lw := ne_of_none ((same_new h3 _) _ _ upd_same) h4
    have ntw : tp ≠ lw := ne_of_none upd_same h4
    have M0 : Mach H _ lr ln lw [] [] [(p, false)] := ⟨s4, h1, s1.free h2, s3.free h4, nrn, nrw, nnw, ⟨[], (same_new h4 _) _ _ ((same_new h3 _) _ _ ((same_new h2 (.lst [])) _ _ upd_same)), .nil⟩, (same_new h4 _) _ _ ((same_new h3 _) _ _ upd_same), ⟨_, upd_same, .cons ⟨tp, v, rfl, (same_new h4 _) _ _ upd_same, hv.mono s4⟩ .nil⟩⟩
    refine go_name (st_is [some v, some (.ref lr), some (.ref ln), some (.ref lw), none, none, none, none, none] rfl ?_)
    refine ⟨fun m σ' H' => ∃ ln y4 y5 y6 y7 rs ns W, m = wt W ∧ σ' = [some v, some (.ref lr), some (.ref ln), some (.ref lw), y4, y5, y6, y7, none] ∧ Mach H H' lr ln lw rs ns W ∧ Run (lay 0 p) rs ns W ∧ wt W ≤ 6000 ∧ ns.length ≤ rs.length, ⟨_, ln, _, _, _, _, [], [], [(p, false)], rfl, rfl, M0, run_lay p, by simp only [wt]; omega, Nat.le_refl _⟩, ?_⟩
    rintro m σ' H' ⟨ln, y4, y5, y6, y7, rs, ns, W, rfl, rfl, M, R, hwt, hns⟩
    obtain ⟨xr, hr1, hr2⟩ := M.r
    obtain ⟨xw, hw1, hw2⟩ := M.w
    have lxr := hr2.length
    have lT := lay_len p 0
    refine ⟨_, rfl, _, .inl ⟨xw, SqL.of hw1, rfl⟩, ?_⟩
    cases W with
    | nil =>
      have e : xw = [] := by
        cases hw2
        rfl
      subst e
      refine iteF ?_
      cases R
      refine ⟨_, rfl, lr, xr, rfl, .inl ⟨SqL.of hr1, fun a ha => ?_⟩⟩
      have e5 : Same H' (upd H' a (.tup xr)) := same_new ha _
      exact k a _ (M.same.trans e5) ⟨xr, upd_same, Paired.mapP hr2 fun _ _ q => q.tps (tps_of e5)⟩
    | cons pb W =>
      obtain ⟨q, b⟩ := pb
      have hw2' : Paired (ItAt H') xw (W.reverse ++ [(q, b)]) := by
        rw [← List.reverse_cons]
        exact hw2
      obtain ⟨zw, x0, rfl, hzw, t, x, rfl, ht, hx⟩ := paired_snoc hw2'
      have ene : (!(zw ++ [V.ref t]).isEmpty) = true := by cases zw <;> rfl
      rw [ene]
      refine iteT ?_
      have lzw := hzw.length
      rw [List.length_reverse] at lzw
      have lW := wt_len W
      have wlt := wt_cons q b W
      -- the top entry is taken off
      have t1 := tps_put hw1 (.lst zw)
      have M1 : Mach H (upd H' lw (.lst zw)) lr ln lw rs ns W := M.put hw1 hzw
      have hx1 := hx.tps t1
      obtain ⟨ap, xs, rfl, hap, hkids, hleaf⟩ := pt_head hx1
      have key : ∀ N : L2.St → Hp → Prop, (∀ σ' H', N σ' H' ↔ ∃ m', m' < wt ((q, b) :: W) ∧ ∃ ln y4 y5 y6 y7 rs ns W, m' = wt W ∧ σ' = [some v, some (.ref lr), some (.ref ln), some (.ref lw), y4, y5, y6, y7, none] ∧ Mach H H' lr ln lw rs ns W ∧ Run (lay 0 p) rs ns W ∧ wt W ≤ 6000 ∧ ns.length ≤ rs.length) → True := fun _ _ => trivial
      refine ⟨fun σ' H' => ∃ m', m' < wt ((q, b) :: W) ∧ ∃ ln y4 y5 y6 y7 rs ns W, m' = wt W ∧ σ' = [some v, some (.ref lr), some (.ref ln), some (.ref lw), y4, y5, y6, y7, none] ∧ Mach H H' lr ln lw rs ns W ∧ Run (lay 0 p) rs ns W ∧ wt W ≤ 6000 ∧ ns.length ≤ rs.length, fun _ _ h => h, ?_⟩
      refine ⟨_, rfl, .inl ⟨rfl, _, SqL.of hw1⟩, lw, _, .ref t, rfl, rfl, hw1, by rw [List.length_append, List.length_singleton, Nat.add_sub_cancel, List.getElem?_append_right (Nat.le_refl _), Nat.sub_self]; rfl, ?_⟩
      rw [List.dropLast_concat]
      refine ⟨t, _, rfl, SqT.of (t1 _ _ ht), rfl, _, _, rfl, _, _, rfl, rfl, ?_⟩
      refine st_is [some v, some (.ref lr), some (.ref ln), some (.ref lw), some (.ref ap), some (.bl b), y6, y7, none] rfl ?_
      -- is it a leaf?
      refine ⟨_, rfl, ap, _, 0, _, rfl, rfl, SqT.of hap, atI_nat (j := 0) rfl, aL, _, rfl, .inr (hL.sq _), rfl, flat_strs _, (leafLn q).isSome, ?_, ?_⟩
      · show V.bl (inV (.str (nameOf q)) (leaves.map V.str)) = _
        rw [in_leaves]
      have gr := run_grows R
      rw [lT] at gr
      rcases run_turn R with ⟨l, e1, R'⟩ | ⟨e1, rfl, R', hlt⟩ | ⟨e1, rfl, ms, is, l, rfl, e2, e3, R'⟩
      · rw [e1]
        refine iteT ?_
        obtain ⟨xr1, hr3, hr4⟩ := M1.r
        have lx := hr4.length
        refine ⟨_, rfl, .inl ⟨rfl, _, SqL.of M1.n⟩, _, rfl, _, rfl, lr, _, xr1, rfl, hr3, by omega, ?_⟩
        have M2 := M1.row hr3 hr4 (hleaf l e1)
        rw [lx]
        refine ⟨ln, _, _, rfl, rfl, M2.n, sz_lt (by rw [List.length_map]; omega), ?_⟩
        refine ⟨wt W, wlt, ln, _, _, _, _, _, _, _, rfl, rfl, M2.num rs.length, R', by omega, by simp only [List.length_append, List.length_singleton]; omega⟩
      · rw [e1]
        refine iteF ?_
        refine ⟨_, rfl, false, rfl, iteF ?_⟩
        have e1 : leafLn q = none := e1
        -- a part that is not seen yet: itself again, then its own parts
        obtain ⟨hk1, hk2⟩ := kids_pos e1
        obtain ⟨xw1, hw3, hw4⟩ := M1.w
        have lw4 := hw4.length
        rw [List.length_reverse] at lw4
        refine ⟨_, rfl, .inl ⟨rfl, _, SqL.of hw3⟩, _, rfl, small 2, fun u hu => ?_⟩
        have s5 : Same (upd H' lw (.lst zw)) (upd (upd H' lw (.lst zw)) u (.tup [.ref ap, .bl true])) := same_new hu _
        refine ⟨lw, _, _, rfl, rfl, s5 _ _ hw3, sz_lt (by omega), ?_⟩
        have M2 := M1.mono s5
        have M3 : Mach H (upd (upd (upd H' lw (.lst zw)) u (.tup [.ref ap, .bl true])) lw (.lst (xw1 ++ [.ref u]))) lr ln lw rs ns ((q, true) :: W) := M2.put (s5 _ _ hw3) (by
          rw [List.reverse_cons]
          exact paired_append (Paired.mapP hw4 fun _ _ z => z.tps (tps_of s5)) (.cons ⟨u, _, rfl, upd_same, hx1.tps (tps_of s5)⟩ .nil))
        have t5 := tps_put (s5 _ _ hw3) (.lst (xw1 ++ [.ref u]))
        refine ⟨_, rfl, s_items rfl rfl (t5 _ _ (s5 _ _ hap)) (Paired.mapP (hkids e1) fun _ _ z => PtAt.tps ((tps_of s5).trans t5) z) hk1 hk2 fun c ys H6 hc s6 hys hpy => ?_⟩
        have lys : ys.length = (kids q).length := by
          have := hpy.length
          rw [List.length_reverse, List.length_map] at this
          exact this
        refine ⟨lw, c, _, ys, rfl, rfl, s6 _ _ upd_same, hys, small _ (by rw [List.length_append, List.length_singleton]; omega), ?_⟩
        have M4 := M3.mono s6
        have M5 := M4.put (V' := (kids q).map (fun q => (q, false)) ++ (q, true) :: W) (s6 _ _ upd_same) (ys := (xw1 ++ [.ref u]) ++ ys) (by
          rw [List.reverse_append, List.reverse_cons]
          refine paired_append (paired_append (Paired.mapP hw4 fun _ _ z => z.tps (((tps_of s5).trans t5).trans (tps_of s6))) (.cons ⟨u, _, rfl, s6 _ _ (t5 _ _ upd_same), hx1.tps (((tps_of s5).trans t5).trans (tps_of s6))⟩ .nil)) hpy)
        exact ⟨_, hlt, ln, _, _, _, _, _, _, _, rfl, rfl, M5, R', by omega, hns⟩
      · rw [e1]
        refine iteF ?_
        refine ⟨_, rfl, true, rfl, iteT ?_⟩
        have e1 : leafLn q = none := e1
        have e2 : is.length = (kids q).length := e2
        obtain ⟨hk1, hk2⟩ := kids_pos e1
        have lk := (hkids e1).length
        -- how many parts it has
        refine ⟨_, rfl, ap, _, rfl, .inr (SqT.of hap), _, _, rfl, rfl, ?_⟩
        have ec : V.int ((((V.str (nameOf q) :: xs).length : Nat) : Int) - 1) = nI is.length := by
          rw [List.length_cons, lk, ← e2]
          show V.int _ = V.int _
          congr 1
          omega
        refine go_name (st_is [some v, some (.ref lr), some (.ref ln), some (.ref lw), some (.ref ap), some (.bl true), some (nI is.length), y7, none] (by rw [← ec]; rfl) ?_)
        have en : V.int ((((ms ++ is).map nI).length : Int) - (is.length : Int)) = nI (ms.map nI).length := by
          rw [List.length_map, List.length_map, List.length_append]
          show V.int _ = V.int _
          congr 1
          omega
        -- its line: the word, and the last numbers
        refine ⟨_, rfl, ap, _, 0, _, rfl, rfl, SqT.of hap, atI_nat (j := 0) rfl, small 1, fun u hu => ?_⟩
        have s5 : Same (upd H' lw (.lst zw)) (upd (upd H' lw (.lst zw)) u (.tup [.str (nameOf q)])) := same_new hu _
        have M2 := M1.mono s5
        refine ⟨_, rfl, _, rfl, ln, _, rfl, .inl (SqL.of M2.n), _, rfl, _, _, rfl, rfl, _, en, ln, _, rfl, SqL.of M2.n, fun c hc => ?_⟩
        rw [List.map_append, cut_at]
        have s6 := same_new hc (.lst (is.map nI))
        refine ⟨c, _, rfl, .inl ⟨SqL.of upd_same, fun d hd => ?_⟩⟩
        have s7 := same_new hd (.tup (is.map nI))
        refine ⟨u, d, [.str (nameOf q)], is.map nI, rfl, rfl, SqT.of (s7 _ _ (s6 _ _ upd_same)), SqT.of upd_same, by simp, small _ (by simp only [List.length_map, List.length_singleton]; omega), ?_, fun hne g hg => ?_⟩
        · intro z
          have := congrArg List.length z
          rw [List.length_map, List.length_nil] at this
          omega
        have s8 := same_new hg (.tup ([.str (nameOf q)] ++ is.map nI))
        have M3 := ((M2.mono s6).mono s7).mono s8
        refine go_name (st_is [some v, some (.ref lr), some (.ref ln), some (.ref lw), some (.ref ap), some (.bl true), some (nI is.length), some (.ref g), none] rfl ?_)
        -- the numbers: these off, the line's own on
        refine ⟨_, rfl, _, rfl, ln, _, rfl, .inl (SqL.of M3.n), _, rfl, _, _, rfl, rfl, _, en, ln, _, rfl, SqL.of M3.n, fun c2 hc2 => ?_⟩
        rw [List.map_append, cut_to]
        have s9 := same_new hc2 (.lst (ms.map nI))
        have M4 := M3.mono s9
        obtain ⟨xr1, hr3, hr4⟩ := M4.r
        have lx := hr4.length
        refine ⟨_, rfl, _, rfl, lr, _, xr1, rfl, hr3, by omega, ?_⟩
        rw [lx]
        have M5 := M4.row (v := .ref g) (l := l) hr3 hr4 ⟨g, rfl, by rw [e3]; exact s9 _ _ upd_same⟩
        obtain ⟨zr, zr1, _⟩ := M3.r
        have ncr : c2 ≠ lr := (ne_of_none zr1 hc2).symm
        refine ⟨small 1, fun e he => ?_⟩
        have s10 := same_new he (.lst [nI rs.length])
        refine ⟨c2, e, _, _, rfl, rfl, s10 _ _ ((upd_ne ncr).trans upd_same), upd_same, small _ (by simp only [List.length_map, List.length_singleton]; rw [List.length_append] at hns; omega), fun n2 hn2 => ?_⟩
        have s11 := same_new hn2 (.lst (ms.map nI ++ [nI rs.length]))
        have M6 : Mach H _ lr n2 lw (rs ++ [l]) (ms ++ [rs.length]) W := (M5.mono s10).nums s11 hn2 (by rw [upd_same, List.map_append]; rfl)
        refine go_name ?_
        exact ⟨wt W, wlt, n2, _, _, _, _, _, _, _, rfl, rfl, M6, R', by omega, by rw [List.length_append] at hns; simp only [List.length_append, List.length_singleton]; omega⟩
end
end K46

/-! sentence_for. -/
namespace K46
open PySem L2 Evl
theorem in_acc (e : Nat) (xs : List Nat) : inV (nI e) (xs.map nI) = decide (e ∈ xs) := by
  induction xs with
  | nil => rfl
  | cons x r ih =>
    have h : inV (nI e) ((x :: r).map nI) = (eqV (nI x) (nI e) || inV (nI e) (r.map nI)) := rfl
    rw [h, ih]
    have h2 : eqV (nI x) (nI e) = decide (e = x) := by
      show (((x : Nat) : Int) == ((e : Nat) : Int)) = _
      by_cases q : e = x
      · subst q; simp
      · rw [decide_eq_false q]
        exact beq_false_of_ne fun z => q (by omega)
    rw [h2]
    by_cases q : e = x
    · simp [q]
    · simp [q]
theorem flat_ints (xs : List Nat) : (xs.map nI).all flatV = true := by
  rw [List.all_map]
  exact List.all_eq_true.mpr fun _ _ => rfl
section
variable {P : Program} {w : World} {K : PySem.W.Frag} {mg : Str → Option Value} {base : Heap}
def spSent : Sp := fun vs H Q _ => ∃ a R, vs = [.ref a] ∧ RdAt H a R ∧ Small R ∧ sz (sentP R) ≤ 3000 ∧ ∀ l H', Same H H' → LinesAt H' l (lay 0 (sentP R)) → Q (.ref l) H'
theorem scSent : FnScope ["reader", "made", "_", "some_place"] ["reader"] (defScope sSent) := ⟨rfl, rfl, rfl, by decide +kernel, rfl, by decide +kernel, by decide +kernel⟩
theorem ep_walk {σ : L2.St} {H : Hp} {ta : TE} {E : XK} {a : Addr} {R : Rd} (hR : RdAt H a R) (hs : Small R) (h1 : Ev ta σ H (.ref a)) : EP (tCall spWalk [] E (tCons ta tNil)) σ H (walkP R) := fun H1 e Q k =>
  h1 H1 e _ fun H2 e2 => by
    obtain ⟨vl, vle, vm, vw, va, q⟩ := hR
    exact ⟨a, R, rfl, ⟨vl, vle, vm, vw, va, q.mono (e.trans e2)⟩, hs, fun v H3 e3 hv => k v H3 (e2.trans e3) hv⟩
theorem s_laid {σ : L2.St} {H : Hp} {te : TE} {E : XK} {p : Pt} {D : Ends} (h : EP te σ H p) (hz : sz p ≤ 3000) (k : ∀ l H', Same H H' → LinesAt H' l (lay 0 p) → D.rt (.ref l) H') : tRet (tCall spLaid [] E (tCons te tNil)) D σ H :=
  h H (Same.refl _) _ fun v H2 e2 hv => ⟨v, p, rfl, hv, hz, fun l H3 e3 hl => k l H3 (e2.trans e3) hl⟩
theorem c_sent (T : Glob K mg) (yw : Called P w K mg base 5 "walk_part" ["reader"] spWalk) (yl : Called P w K mg base 2 "laid_out" ["part"] spLaid) (h : Here K mg "sentence_for" sSent) : Called P w K mg base 6 "sentence_for" ["reader"] spSent := by
  obtain ⟨f, fd, F, m⟩ := h
  obtain ⟨fw, fwd, Gw, mw, kw, bw⟩ := yw
  obtain ⟨fl, fld, Gl, ml, kl, bl⟩ := yl
  refine ⟨f, fd, F.ok scSent (fun vs H Q E h => ?_) (fun cdv A outer s H vs Q E hr h => ?_), m, F.kp, F.binds fun _ _ _ _ _ _ us hl => match us, hl with | [_], _ => rfl⟩
  · obtain ⟨a, R, rfl, _⟩ := h; rfl
  · obtain ⟨a, R, rfl, ⟨vl, vle, vm, vw, va, hR⟩, hs, hz, k⟩ := h
    have hr2 := hr.mono (show 2 ≤ 5 by decide)
    refine ⟨_, pss_cons (ps_set (i := 1) scSent.nd rfl (Or.inl rfl) (pe_call Gw hr rfl mw kw bw .nil pass0 (pa_cons (pv 0) pa_nil)))
      (pss_cons (ps_for PassesOwn.never rfl (pi_range1 rfl T.rng (pa_cons (pe_op op_mul pe_int (pe_callB (r := rLenS K) cr_len rfl T.len PySem.boot_len (pa_cons (pe_ix (r := rIxT K) ix_tup (pv 0) pe_int (fun _ _ => rfl)) pa_nil))) pa_nil)) (pg_name (i := 2) scSent.nd rfl (Or.inl rfl))
        (pss_one (ps_set (i := 1) scSent.nd rfl (Or.inl rfl) (pe_tup (pa_cons pe_str (pa_cons (pv 1) pa_nil))))))
      (pss_cons (ps_set (i := 3) scSent.nd rfl (Or.inl rfl) (pe_tup (pa_cons pe_str (pa_cons (pe_tup (pa_cons pe_str pa_nil)) pa_nil))))
      (pss_cons (ps_if (pt_cmpR (r := rIn K false) op_in_seq (pe_ix (r := rIxT K) ix_tup (pv 0) pe_int (fun _ _ => rfl)) (pe_ix (r := rIxT K) ix_tup (pv 0) pe_int (fun _ _ => rfl)) (by rfl))
        (pss_one (ps_ret (pe_call Gl hr2 rfl ml kl bl .nil pass0 (pa_cons (pe_tup (pa_cons pe_str (pa_cons (pe_tup (pa_cons pe_str (pa_cons (pv 3) (pa_cons (pe_tup (pa_cons pe_str (pa_cons (pv 1) pa_nil))) pa_nil)))) pa_nil))) pa_nil)))) pss_nil)
      (pss_one (ps_ret (pe_call Gl hr2 rfl ml kl bl .nil pass0 (pa_cons (pe_tup (pa_cons pe_str (pa_cons (pv 3) (pa_cons (pv 1) pa_nil)))) pa_nil))))))), ?_⟩
    refine s_part (ep_walk ⟨vl, vle, vm, vw, va, hR⟩ hs (ev_var rfl)) fun v H1 e1 hv => ?_
    have R1 := hR.mono e1
    have h2 := hs.n
    refine st_is [some (.ref a), some v, none, none] rfl ?_
    have hE : EvA (tCons (tOp (rI CMul fun i j => .int (i * j)) (tC (.int 2)) (tCB (rLenS K) (tCons (tOp (rIxT K) (tVar 0) (tC (.int 3))) tNil))) tNil) [some (.ref a), some v, none, none] H1 [.int ((2 * R.n : Nat) : Int)] := by
      refine ea_cons ?_ ea_nil
      have e2 : ((2 * R.n : Nat) : Int) = 2 * ((R.n : Nat) : Int) := by omega
      rw [e2]
      exact ev_op (x := .int 2) (y := nI R.n) ev_c (ev_lenM R1.mu (ev_item (K := K) (j := 3) R1.tup (ev_var rfl) rfl rfl)) (rv_I (C := CMul) (g := fun i j => .int (i * j)) (.inl ⟨by decide, by decide⟩))
    refine s_forR1 (n := ((2 * R.n : Nat) : Int)) hE (by omega) (fun i σ' H' => ∃ x y, σ' = [some (.ref a), some x, y, none] ∧ Same H1 H' ∧ PtAt H' x (thereN i (walkP R)))
      (fun H2 e2 => ⟨v, none, rfl, e2, hv.mono e2⟩) ?_ ?_
    · rintro i σ' H2 hi ⟨x, y, rfl, s2, hx⟩
      refine st_is [some (.ref a), some x, some (nI i), none] rfl ?_
      exact s_part (ep_un .there (ep_var rfl hx)) fun u H3 e3 hu => ⟨u, _, rfl, s2.trans e3, hu⟩
    rintro σ' H2 ⟨x, y, rfl, s2, hx⟩
    have hx : PtAt H2 x (thereN (2 * R.n) (walkP R)) := hx
    refine s_part (ep_un .denied ep_nothing) fun u H3 e3 hu => ?_
    have hu : PtAt H3 u somePlace := hu
    refine st_is [some (.ref a), some x, y, some u] rfl ?_
    have R3 := (R1.mono s2).mono e3
    obtain ⟨ac, rfl, hac⟩ := R3.ac
    refine ⟨_, rfl, a, _, 1, _, rfl, rfl, SqT.of R3.tup, atI_nat (j := 1) rfl, _, rfl, a, _, 5, _, rfl, rfl, SqT.of R3.tup, atI_nat (j := 5) rfl, ac, _, rfl, .inr (SqT.of hac), rfl, flat_ints _, decide (R.empty ∈ R.acc), ?_, ite2 (fun c => ?_) (fun c => ?_)⟩
    · show V.bl (inV (nI R.empty) (R.acc.map nI)) = _
      rw [in_acc]
    · have c := of_decide_eq_true c
      have es : sentP R = .un .denied (.bin .both somePlace (.un .denied (thereN (2 * R.n) (walkP R)))) := by
        unfold sentP
        rw [if_pos c]
      rw [es] at hz k
      exact s_laid (ep_un .denied (ep_bin .both (ep_var rfl hu) (ep_un .denied (ep_var rfl (hx.mono e3))))) hz fun l H4 e4 hl => k l H4 (e1.trans (s2.trans (e3.trans e4))) hl
    · have c : ¬ R.empty ∈ R.acc := fun z => c (decide_eq_true z)
      have es : sentP R = .bin .both somePlace (thereN (2 * R.n) (walkP R)) := by
        unfold sentP
        rw [if_neg c]
      rw [es] at hz k
      exact s_laid (ep_bin .both (ep_var rfl hu) (ep_var rfl (hx.mono e3))) hz fun l H4 e4 hl => k l H4 (e1.trans (s2.trans (e3.trans e4))) hl
end
end K46

/-! check_labels, value_behind, value, accepts. -/
namespace K46
open PySem L2 Evl
/-- a row in the heap -/
def RowAt (H : Hp) (a : Addr) (row : List Pl) : Prop := ∃ xs, H a = some (.lst xs) ∧ Paired (fun v p => PtAt H v (.pl p)) xs row
theorem RowAt.mono {H H' : Hp} (e : Same H H') {a : Addr} {row : List Pl} (h : RowAt H a row) : RowAt H' a row := by
  obtain ⟨xs, h1, h2⟩ := h
  exact ⟨xs, e _ _ h1, Paired.mapP h2 fun _ _ q => PtAt.mono e q⟩
theorem rdAt_mono {H H' : Hp} (e : Same H H') {a : Addr} {R : Rd} (h : RdAt H a R) : RdAt H' a R := by
  obtain ⟨vl, vle, vm, vw, va, q⟩ := h
  exact ⟨vl, vle, vm, vw, va, q.mono e⟩
def kdN : Kd → Nat
  | .letter => 0
  | .call => 1
  | .ret => 2
theorem kinds_at (k : Kd) : kinds[kdN k]? = some (kdS k) := by cases k <;> rfl
theorem kinds_first (k : Kd) : ∀ m, m < kdN k → kinds[m]? ≠ some (kdS k) := by
  intro m hm
  cases k with
  | letter => exact absurd hm (Nat.not_lt_zero _)
  | call =>
    have e : m = 0 := by
      have : m < 1 := hm
      omega
    subst e
    decide +kernel
  | ret =>
    have hm : m < 2 := hm
    have e : m = 0 ∨ m = 1 := by omega
    rcases e with e | e <;> subst e <;> decide +kernel
theorem lim_at (R : Rd) (k : Kd) : ([R.nl, R.nc, R.nr].map nI)[kdN k]? = some (nI (lim R k)) := by cases k <;> rfl
section
variable {P : Program} {w : World} {K : PySem.W.Frag} {mg : Str → Option Value} {base : Heap}
/-! ### check_labels -/
def spCheck : Sp := fun vs H Q _ => ∃ r t R row, vs = [.ref r, .ref t] ∧ RdAt H r R ∧ RowAt H t row ∧ Lab R row ∧ ∀ H', Same H H' → Q .non H'
theorem scCheck : FnScope ["reader", "text", "number", "place"] ["reader", "text"] (defScope sCheck) := ⟨rfl, rfl, rfl, by decide +kernel, rfl, by decide +kernel, by decide +kernel⟩
theorem c_check (T : Glob K mg) (h : Here K mg "check_labels" sCheck) : Called P w K mg base 1 "check_labels" ["reader", "text"] spCheck := by
  obtain ⟨f, fd, F, m⟩ := h
  obtain ⟨aK, mK, hK⟩ := T.kinds
  refine ⟨f, fd, F.ok scCheck (fun vs H Q E h => ?_) (fun cdv A outer s H vs Q E hr h => ?_), m, F.kp, F.binds fun _ _ _ _ _ _ us hl => match us, hl with | [_, _], _ => rfl⟩
  · obtain ⟨r, t, R, row, rfl, _⟩ := h; rfl
  · obtain ⟨r, t, R, row, rfl, ⟨vl, vle, vm, vw, va, hR⟩, ⟨xs, ht, hp⟩, hlab, k⟩ := h
    refine ⟨_, pss_one (ps_for PassesOwn.never rfl (pi_enum rfl T.enu (pa_cons (pv 1) pa_nil)) (pg_tup (by rfl) (pgs_cons (pg_name (i := 2) scCheck.nd rfl (Or.inl rfl)) (pgs_cons (pg_name (i := 3) scCheck.nd rfl (Or.inl rfl)) pgs_nil)))
      (pss_one (ps_if (pt_not (pt_chain op_le op_lt pe_int (pe_ix (r := rIxT K) ix_tup (pv 3) pe_int (fun _ _ => rfl))
          (pe_ix (r := rIxT K) ix_tup (pe_ix (r := rIxT K) ix_tup (pv 0) pe_int (fun _ _ => rfl)) (pe_bm PySem.F.plainAttrs_tuple PySem.F.slot_tuple_index PySem.F.type_tuple_index mt_tup_index (pe_glob (v := .ref aK) rfl mK rfl) (pa_cons (pe_ix (r := rIxT K) ix_tup (pv 3) pe_int (fun _ _ => rfl)) pa_nil)) (fun _ _ => rfl))))
        (pss_one ps_never) pss_nil))), ?_⟩
    refine ⟨_, rfl, t, xs, rfl, SqL.of ht, ?_⟩
    refine for_it (walk_enum (xs := xs)) (fun i σ' H' => ∃ y2 y3, σ' = [some (.ref r), some (.ref t), y2, y3] ∧ Same H H') ⟨_, _, rfl, Same.refl _⟩ (fun i σ' H' _ ⟨_, _, _, s1⟩ => SqL.of (s1 _ _ ht)) ?_ ?_
    · rintro i v σ' H1 H2 hi ⟨y2, y3, rfl, s1⟩ ⟨u, x, y, rfl, hu, rfl, hx, hy⟩
      obtain ⟨p, hpi, hpt⟩ := paired_at hp hy
      have s2 := s1.trans (same_new hu (.tup [x, y]))
      refine ⟨u, _, rfl, SqT.of upd_same, rfl, _, _, rfl, _, _, rfl, rfl, ?_⟩
      refine st_is [some (.ref r), some (.ref t), some x, some y] rfl ?_
      obtain ⟨b, rfl, hb⟩ := PtAt.mono s2 hpt
      have R2 := hR.mono s2
      obtain ⟨al, rfl, hal⟩ := R2.la
      have hlt := hlab p (List.mem_of_getElem? hpi)
      refine ⟨_, rfl, b, _, 1, _, rfl, rfl, SqT.of hb, atI_nat (j := 1) rfl, _, _, rfl, rfl, true, ?_, iteT ?_⟩
      · show V.bl (decide ((0 : Int) ≤ (p.a : Nat))) = _
        rw [decide_eq_true (by omega)]
      refine ⟨_, rfl, r, _, 0, _, rfl, rfl, SqT.of R2.tup, atI_nat (j := 0) rfl, ?_⟩
      obtain ⟨o, its, n, q1, q2, q3, _⟩ := id hK
      refine ⟨.inr (.inl ⟨rfl, o, q1, q2, q3⟩), _, rfl, b, _, 0, _, rfl, rfl, SqT.of hb, atI_nat (j := 0) rfl, aK, kinds, kdS p.k, kdN p.k, rfl, rfl, hK.sq _, kinds_at _, kinds_first _, ?_⟩
      refine ⟨al, _, (kdN p.k : Nat), _, rfl, rfl, SqT.of hal, atI_nat (lim_at R p.k), _, _, rfl, rfl, true, ?_, ?_⟩
      · show V.bl (decide (((p.a : Nat) : Int) < ((lim R p.k : Nat) : Int))) = _
        rw [decide_eq_true (by omega)]
      exact ⟨_, _, rfl, s2⟩
    · rintro σ' H1 ⟨y2, y3, rfl, s1⟩
      exact k H1 s1
/-! ### value_behind -/
def OpAt (H : Hp) (v : V) (e : Nat × Nat × Nat) : Prop := ∃ a, v = .ref a ∧ H a = some (.tup [nI e.2.1, nI e.2.2])
theorem OpAt.tps {H H' : Hp} (e : Tps H H') {v : V} {x : Nat × Nat × Nat} (h : OpAt H v x) : OpAt H' v x := by
  obtain ⟨a, h1, h2⟩ := h
  exact ⟨a, h1, e _ _ h2⟩
def spBeh : Sp := fun vs H Q _ => ∃ r t R row, vs = [.ref r, nI R.empty, .ref t] ∧ RdAt H r R ∧ Small R ∧ RowAt H t row ∧ row.length ≤ 1000 ∧ Closes row ∧ Lab R row ∧ ∀ H', Same H H' → Q (nI (sst R row).2.1) H'
abbrev nBeh : List Str := ["reader", "start", "text", "_", "empty", "letters", "mul", "wrap", "value_now", "opened", "kind", "label", "ahead", "call"]
theorem scBeh : FnScope nBeh ["reader", "start", "text"] (defScope sBeh) := ⟨rfl, rfl, rfl, by decide +kernel, rfl, by decide +kernel, by decide +kernel⟩
theorem o_zero (R : Rd) (row : List Pl) : oAt R row 0 = [] := by
  unfold oAt
  rw [List.take_zero]
  rfl
theorem c_beh (T : Glob K mg) (y : Called P w K mg base 1 "check_labels" ["reader", "text"] spCheck) (h : Here K mg "value_behind" sBeh) : Called P w K mg base 2 "value_behind" ["reader", "start", "text"] spBeh := by
  obtain ⟨f, fd, F, m⟩ := h
  obtain ⟨fy, fyd, Gy, my, ky, by_⟩ := y
  refine ⟨f, fd, F.ok scBeh (fun vs H Q E h => ?_) (fun cdv A outer s H vs Q E hr h => ?_), m, F.kp, F.binds fun _ _ _ _ _ _ us hl => match us, hl with | [_, _, _], _ => rfl⟩
  · obtain ⟨r, t, R, row, rfl, _⟩ := h; rfl
  · obtain ⟨r, t, R, row, rfl, hRd, hs, hrow, hz, hcl, hlab, k⟩ := h
    refine ⟨_, pss_cons (ps_expr (pe_call Gy hr rfl my ky by_ .nil pass0 (pa_cons (pv 0) (pa_cons (pv 2) pa_nil))))
      (pss_cons (ps_asg (pv 0) (pg_tup (by rfl) (pgs_cons (pg_name (i := 3) scBeh.nd rfl (Or.inl rfl)) (pgs_cons (pg_name (i := 4) scBeh.nd rfl (Or.inl rfl)) (pgs_cons (pg_name (i := 5) scBeh.nd rfl (Or.inl rfl)) (pgs_cons (pg_name (i := 6) scBeh.nd rfl (Or.inl rfl)) (pgs_cons (pg_name (i := 7) scBeh.nd rfl (Or.inl rfl)) (pgs_cons (pg_name (i := 3) scBeh.nd rfl (Or.inl rfl)) pgs_nil))))))))
      (pss_cons (ps_set (i := 8) scBeh.nd rfl (Or.inl rfl) (pv 1))
      (pss_cons (ps_set (i := 9) scBeh.nd rfl (Or.inl rfl) (pe_lst pa_nil))
      (pss_cons (ps_for PassesOwn.never rfl (pi_list (pv 2)) (pg_tup (by rfl) (pgs_cons (pg_name (i := 10) scBeh.nd rfl (Or.inl rfl)) (pgs_cons (pg_name (i := 11) scBeh.nd rfl (Or.inl rfl)) pgs_nil)))
        (pss_one (ps_if (pt_cmpR op_eq (pv 10) pe_str (nomark _))
          (pss_one (ps_set (i := 8) scBeh.nd rfl (Or.inl rfl) (pe_ix (r := rIxT K) ix_tup (pe_ix (r := rIxT K) ix_tup (pv 6) (pv 8) (fun _ _ => rfl)) (pe_ix (r := rIxT K) ix_tup (pv 5) (pv 11) (fun _ _ => rfl)) (fun _ _ => rfl))))
          (pss_one (ps_if (pt_cmpR op_eq (pv 10) pe_str (nomark _))
            (pss_cons (ps_expr (pe_bm PySem.F.plainAttrs_list PySem.F.slot_list_append PySem.F.type_list_append mt_append (pv 9) (pa_cons (pe_tup (pa_cons (pv 8) (pa_cons (pv 11) pa_nil))) pa_nil)))
              (pss_one (ps_set (i := 8) scBeh.nd rfl (Or.inl rfl) (pv 4))))
            (pss_cons (ps_asg (pe_bm0 PySem.F.plainAttrs_list PySem.F.slot_list_pop PySem.F.type_list_pop mt_pop (pv 9)) (pg_tup (by rfl) (pgs_cons (pg_name (i := 12) scBeh.nd rfl (Or.inl rfl)) (pgs_cons (pg_name (i := 13) scBeh.nd rfl (Or.inl rfl)) pgs_nil))))
              (pss_one (ps_set (i := 8) scBeh.nd rfl (Or.inl rfl) (pe_ix (r := rIxT K) ix_tup (pe_ix (r := rIxT K) ix_tup (pv 6) (pv 12) (fun _ _ => rfl)) (pe_ix (r := rIxT K) ix_tup (pe_ix (r := rIxT K) ix_tup (pe_ix (r := rIxT K) ix_tup (pv 7) (pv 13) (fun _ _ => rfl)) (pv 11) (fun _ _ => rfl)) (pv 8) (fun _ _ => rfl)) (fun _ _ => rfl))))))))))
      (pss_one (ps_ret (pv 8))))))), ?_⟩
    have hf := hs.f
    refine ⟨_, rfl, _, rfl, r, t, R, row, rfl, hRd, hrow, hlab, fun H1 e1 => ?_⟩
    obtain ⟨vl, vle, vm, vw, va, hR⟩ := rdAt_mono e1 hRd
    obtain ⟨xs, ht, hp⟩ := hrow.mono e1
    refine ⟨_, rfl, r, _, rfl, SqT.of hR.tup, rfl, _, _, rfl, _, _, rfl, _, _, rfl, _, _, rfl, _, _, rfl, _, _, rfl, rfl, ?_⟩
    refine st_is [some (.ref r), some (nI R.empty), some (.ref t), some va, some (nI R.empty), some vle, some vm, some vw, none, none, none, none, none, none] rfl ?_
    refine ⟨_, rfl, small 0, fun lo hlo => ?_⟩
    have lp := hp.length
    refine go_name (st_is [some (.ref r), some (nI R.empty), some (.ref t), some va, some (nI R.empty), some vle, some vm, some vw, some (nI R.empty), some (.ref lo), none, none, none, none] rfl ?_)
    refine s_forL (xs := xs) (ev_var rfl) (SqL.of ((same_new hlo _) _ _ ht)) (fun i σ' H' => ∃ y10 y11 y12 y13 ys, σ' = [some (.ref r), some (nI R.empty), some (.ref t), some va, some (nI R.empty), some vle, some vm, some vw, some (nI (uAt R row i)), some (.ref lo), y10, y11, y12, y13] ∧ Same H1 H' ∧ H' lo = some (.lst ys) ∧ Paired (OpAt H') ys (oAt R row i).reverse ∧ ys.length ≤ i)
      (fun H2 e2 => ⟨_, _, _, _, [], by rw [u_zero], (same_new hlo _).trans e2, e2 _ _ upd_same, by rw [o_zero]; exact .nil, Nat.le_refl _⟩) (fun i σ' H' _ ⟨_, _, _, _, _, _, s1, _⟩ => SqL.of (s1 _ _ ht)) ?_ ?_
    · rintro i x σ' H2 hx ⟨y10, y11, y12, y13, ys, rfl, s1, h1, h2, h3⟩
      have hi : i < xs.length := (List.getElem?_eq_some_iff.mp hx).1
      obtain ⟨q, hq, b, rfl, hb⟩ := paired_at hp hx
      obtain ⟨kd, a⟩ := q
      have hla := hlab _ (List.mem_of_getElem? hq)
      have R2 := hR.mono s1
      have hu := u_lt hf hcl hlab i (by omega)
      refine ⟨b, _, rfl, SqT.of (s1 _ _ hb), rfl, _, _, rfl, _, _, rfl, rfl, ?_⟩
      refine st_is [some (.ref r), some (nI R.empty), some (.ref t), some va, some (nI R.empty), some vle, some vm, some vw, some (nI (uAt R row i)), some (.ref lo), some (.str (kdS kd)), some (nI a), y12, y13] rfl ?_
      cases kd with
      | letter =>
        refine ⟨_, rfl, rfl, true, by decide +kernel, iteT ?_⟩
        refine s_asg (ev_m hf R2.mu (ev_var rfl) (ev_var rfl) (ev_row R2.le (ev_var rfl) (ev_var rfl) (by rw [hf.ll]; exact hla)) hu (hf.lv a hla)) fun H3 e3 => ?_
        obtain ⟨z1, z2⟩ := at_letter R hq
        refine ⟨_, _, _, _, ys, by rw [z1]; rfl, s1.trans e3, e3 _ _ h1, by rw [z2]; exact Paired.mapP h2 fun _ _ q => q.tps (tps_of e3), by omega⟩
      | call =>
        refine ⟨_, rfl, rfl, false, by decide +kernel, iteF ?_⟩
        refine ⟨_, rfl, rfl, true, by decide +kernel, iteT ?_⟩
        obtain ⟨z1, z2⟩ := at_call R hq
        refine ⟨_, rfl, .inl ⟨rfl, _, SqL.of h1⟩, _, rfl, _, rfl, small 2, fun u hu2 => ?_⟩
        have s2 := same_new hu2 (.tup [nI (uAt R row i), nI a])
        refine ⟨lo, ys, _, rfl, rfl, s2 _ _ h1, sz_lt (by omega), ?_⟩
        have t2 := tps_put (s2 _ _ h1) (.lst (ys ++ [.ref u]))
        refine ⟨_, rfl, _, _, _, _, ys ++ [.ref u], by rw [z1]; rfl, same_put (s1.trans s2) hlo _, upd_same, ?_, by rw [List.length_append, List.length_singleton]; omega⟩
        rw [z2, List.reverse_cons]
        exact paired_append (Paired.mapP h2 fun _ _ q => q.tps ((tps_of s2).trans t2)) (.cons ⟨u, rfl, t2 _ _ upd_same⟩ .nil)
      | ret =>
        refine ⟨_, rfl, rfl, false, by decide +kernel, iteF ?_⟩
        refine ⟨_, rfl, rfl, false, by decide +kernel, iteF ?_⟩
        obtain ⟨c, v, l, st, e⟩ := open_ret R hcl hq
        obtain ⟨z1, z2⟩ := at_ret R hq e
        obtain ⟨w1, w2, w3⟩ := opened R hcl i (by omega) c v l (by rw [e]; exact List.mem_cons_self)
        have hlc : l < R.nc := hlab ⟨.call, l⟩ (List.mem_of_getElem? w2)
        have hlv : v < R.n := by rw [w3]; exact u_lt hf hcl hlab c (by omega)
        rw [e, List.reverse_cons] at h2
        obtain ⟨ys', y, rfl, g1, u, rfl, g2⟩ := paired_snoc h2
        have t2 := tps_put h1 (.lst ys')
        refine ⟨_, rfl, .inl ⟨rfl, _, SqL.of h1⟩, lo, _, .ref u, rfl, rfl, h1, by rw [List.length_append, List.length_singleton, Nat.add_sub_cancel, List.getElem?_append_right (Nat.le_refl _), Nat.sub_self]; rfl, ?_⟩
        rw [List.dropLast_concat]
        refine ⟨u, _, rfl, SqT.of (t2 _ _ g2), rfl, _, _, rfl, _, _, rfl, rfl, ?_⟩
        refine st_is [some (.ref r), some (nI R.empty), some (.ref t), some va, some (nI R.empty), some vle, some vm, some vw, some (nI (uAt R row i)), some (.ref lo), some (.str (kdS .ret)), some (nI a), some (nI v), some (nI l)] rfl ?_
        have s3 : Same H1 (upd H2 lo (.lst ys')) := same_put s1 hlo _
        have R3 := hR.mono s3
        refine s_asg (ev_m hf R3.mu (ev_var rfl) (ev_var rfl) (ev_w hf R3.wr (ev_var rfl) (ev_var rfl) (ev_var rfl) (ev_var rfl) hlc hla hu) hlv (hf.wv _ _ _ hlc hla hu)) fun H3 e3 => ?_
        refine ⟨_, _, _, _, ys', by rw [z1]; rfl, s3.trans e3, e3 _ _ upd_same, by rw [z2]; exact Paired.mapP g1 fun _ _ q => q.tps (t2.trans (tps_of e3)), by rw [List.length_append] at h3; omega⟩
    · rintro σ' H2 ⟨y10, y11, y12, y13, ys, rfl, s1, h1, h2, h3⟩
      refine ⟨_, rfl, ?_⟩
      have := k H2 (e1.trans s1)
      rw [← u_end, ← lp] at this
      exact this
/-! ### value, accepts -/
def spValue : Sp := fun vs H Q _ => ∃ r t R row, vs = [.ref r, .ref t] ∧ RdAt H r R ∧ Small R ∧ RowAt H t row ∧ row.length ≤ 1000 ∧ Closes row ∧ Lab R row ∧ ∀ H', Same H H' → Q (nI (sst R row).2.1) H'
theorem scValue : FnScope ["reader", "text"] ["reader", "text"] (defScope sValue) := ⟨rfl, rfl, rfl, by decide +kernel, rfl, by decide +kernel, by decide +kernel⟩
theorem c_value (y : Called P w K mg base 2 "value_behind" ["reader", "start", "text"] spBeh) (h : Here K mg "value" sValue) : Called P w K mg base 3 "value" ["reader", "text"] spValue := by
  obtain ⟨f, fd, F, m⟩ := h
  obtain ⟨fy, fyd, Gy, my, ky, by_⟩ := y
  refine ⟨f, fd, F.ok scValue (fun vs H Q E h => ?_) (fun cdv A outer s H vs Q E hr h => ?_), m, F.kp, F.binds fun _ _ _ _ _ _ us hl => match us, hl with | [_, _], _ => rfl⟩
  · obtain ⟨r, t, R, row, rfl, _⟩ := h; rfl
  · obtain ⟨r, t, R, row, rfl, hRd, q⟩ := h
    obtain ⟨vl, vle, vm, vw, va, hR⟩ := id hRd
    refine ⟨_, pss_one (ps_ret (pe_call Gy hr rfl my ky by_ .nil pass0 (pa_cons (pv 0) (pa_cons (pe_ix (r := rIxT K) ix_tup (pv 0) pe_int (fun _ _ => rfl)) (pa_cons (pv 1) pa_nil))))), ?_⟩
    exact ⟨_, rfl, _, rfl, r, _, 1, _, rfl, rfl, SqT.of hR.tup, atI_nat (j := 1) rfl, _, rfl, r, t, R, row, rfl, hRd, q⟩
def spAccepts : Sp := fun vs H Q _ => ∃ r t R row, vs = [.ref r, .ref t] ∧ RdAt H r R ∧ Small R ∧ RowAt H t row ∧ row.length ≤ 1000 ∧ Closes row ∧ Lab R row ∧ ∀ H', Same H H' → Q (.bl (accepts R row)) H'
theorem scAccepts : FnScope ["reader", "text"] ["reader", "text"] (defScope sAccepts) := ⟨rfl, rfl, rfl, by decide +kernel, rfl, by decide +kernel, by decide +kernel⟩
theorem c_accepts (y : Called P w K mg base 3 "value" ["reader", "text"] spValue) (h : Here K mg "accepts" sAccepts) : Called P w K mg base 4 "accepts" ["reader", "text"] spAccepts := by
  obtain ⟨f, fd, F, m⟩ := h
  obtain ⟨fy, fyd, Gy, my, ky, by_⟩ := y
  refine ⟨f, fd, F.ok scAccepts (fun vs H Q E h => ?_) (fun cdv A outer s H vs Q E hr h => ?_), m, F.kp, F.binds fun _ _ _ _ _ _ us hl => match us, hl with | [_, _], _ => rfl⟩
  · obtain ⟨r, t, R, row, rfl, _⟩ := h; rfl
  · obtain ⟨r, t, R, row, rfl, hRd, h1, h2, h3, h4, h5, k⟩ := h
    refine ⟨_, pss_one (ps_ret (pe_cmpR (r := rIn K false) op_in_seq (pe_call Gy hr rfl my ky by_ .nil pass0 (pa_cons (pv 0) (pa_cons (pv 1) pa_nil))) (pe_ix (r := rIxT K) ix_tup (pv 0) pe_int (fun _ _ => rfl)) (by rfl))), ?_⟩
    refine ⟨_, rfl, _, rfl, r, t, R, row, rfl, hRd, h1, h2, h3, h4, h5, fun H1 e1 => ?_⟩
    obtain ⟨vl, vle, vm, vw, va, hR⟩ := rdAt_mono e1 hRd
    obtain ⟨ac, rfl, hac⟩ := hR.ac
    refine ⟨_, rfl, r, _, 5, _, rfl, rfl, SqT.of hR.tup, atI_nat (j := 5) rfl, ac, _, rfl, .inr (SqT.of hac), rfl, flat_ints _, ?_⟩
    have e : inV (nI (sst R row).2.1) (R.acc.map nI) = accepts R row := in_acc _ _
    show Q (.bl (inV (nI (sst R row).2.1) (R.acc.map nI))) H1
    rw [e]
    exact k H1 e1
end
end K46

/-! _law_pairs_of, _law_true. -/
namespace K46
open PySem L2 Evl
/-! ### sets in the heap -/
def SetAt (H : Hp) (v : V) (s : List Nat) : Prop := ∃ b, v = .ref b ∧ H b = some (.lst (s.map nI))
def SetsAt (H : Hp) (a : Addr) (S : List (List Nat)) : Prop := ∃ xs, H a = some (.lst xs) ∧ Paired (SetAt H) xs S
theorem SetsAt.mono {H H' : Hp} (e : Same H H') {a : Addr} {S : List (List Nat)} (h : SetsAt H a S) : SetsAt H' a S := by
  obtain ⟨xs, h1, h2⟩ := h
  exact ⟨xs, e _ _ h1, Paired.mapP h2 fun _ _ ⟨b, q1, q2⟩ => ⟨b, q1, e _ _ q2⟩⟩
theorem LinesAt.mono {H H' : Hp} (e : Same H H') {a : Addr} {ls : List Ln} (h : LinesAt H a ls) : LinesAt H' a ls := h.tps (tps_of e)
/-- what the law's readings of a sentence know -/
structure Scene (H : Hp) (L rw st : Addr) (ls : List Ln) (row : List Pl) (S : List (List Nat)) : Prop where
  li : LinesAt H L ls
  ro : RowAt H rw row
  se : SetsAt H st S
  n : row.length ≤ 4
  c : Closes row
theorem Scene.mono {H H' : Hp} (e : Same H H') {L rw st : Addr} {ls : List Ln} {row : List Pl} {S : List (List Nat)} (h : Scene H L rw st ls row S) : Scene H' L rw st ls row S :=
  ⟨h.li.mono e, h.ro.mono e, h.se.mono e, h.n, h.c⟩
theorem lines_get {H : Hp} {L : Addr} {ls : List Ln} {i : Nat} {l : Ln} (h : LinesAt H L ls) (hi : ls[i]? = some l) : ∃ vs b, H L = some (.tup vs) ∧ vs[i]? = some (.ref b) ∧ H b = some (.tup (lnV l)) := by
  obtain ⟨vs, h1, h2⟩ := h
  obtain ⟨v, h3, b, rfl, h4⟩ := paired_at' h2 hi
  exact ⟨vs, b, h1, h3, h4⟩
theorem row_get {H : Hp} {a : Addr} {row : List Pl} {i : Nat} {p : Pl} (h : RowAt H a row) (hi : row[i]? = some p) : ∃ vs b, H a = some (.lst vs) ∧ vs.length = row.length ∧ vs[i]? = some (.ref b) ∧ H b = some (.tup [.str (kdS p.k), nI p.a]) := by
  obtain ⟨vs, h1, h2⟩ := h
  obtain ⟨v, h3, b, rfl, h4⟩ := paired_at' h2 hi
  exact ⟨vs, b, h1, h2.length, h3, h4⟩
section
variable {P : Program} {w : World} {K : PySem.W.Frag} {mg : Str → Option Value} {base : Heap}
/-! ### _law_pairs_of -/
def PairAt (H : Hp) (v : V) (x : Nat × Nat) : Prop := ∃ b, v = .ref b ∧ H b = some (.tup [nI x.1, nI x.2])
theorem PairAt.tps {H H' : Hp} (e : Tps H H') {v : V} {x : Nat × Nat} (h : PairAt H v x) : PairAt H' v x := by
  obtain ⟨b, h1, h2⟩ := h
  exact ⟨b, h1, e _ _ h2⟩
def spPairs : Sp := fun vs H Q _ => ∃ a row, vs = [.ref a] ∧ RowAt H a row ∧ row.length ≤ 100 ∧ Closes row ∧ ∀ l xs H', Same H H' → H' l = some (.lst xs) → Paired (PairAt H') xs (pairsOf row) → Q (.ref l) H'
theorem scPairs : FnScope ["_law_row", "_law_opened", "_law_found", "_law_k"] ["_law_row"] (defScope sPairs) := ⟨rfl, rfl, rfl, by decide +kernel, rfl, by decide +kernel, by decide +kernel⟩
theorem pst_take {row : List Pl} {k : Nat} {p : Pl} (h : row[k]? = some p) : pst (row.take (k + 1)) = pstep (pst (row.take k)) p ∧ (pst (row.take k)).1 = k := by
  have hk : k < row.length := (List.getElem?_eq_some_iff.mp h).1
  refine ⟨by rw [take_succ_get h, pst_snoc], ?_⟩
  rw [pst_k, List.length_take]
  omega
theorem pst_turn {row : List Pl} {k : Nat} {p : Pl} (h : row[k]? = some p) : pst (row.take (k + 1)) = pstep (k, (pst (row.take k)).2.1, (pst (row.take k)).2.2) p := by
  obtain ⟨h1, h2⟩ := pst_take h
  rw [h1]
  congr 1
  exact Prod.ext h2 rfl
theorem c_pairs (T : Glob K mg) (h : Here K mg "_law_pairs_of" sPairs) : Called P w K mg base 1 "_law_pairs_of" ["_law_row"] spPairs := by
  obtain ⟨f, fd, F, m⟩ := h
  refine ⟨f, fd, F.ok scPairs (fun vs H Q E h => ?_) (fun cdv A outer s H vs Q E hr h => ?_), m, F.kp, F.binds fun _ _ _ _ _ _ us hl => match us, hl with | [_], _ => rfl⟩
  · obtain ⟨a, row, rfl, _⟩ := h; rfl
  · obtain ⟨a, row, rfl, hrow, hz, hcl, k⟩ := h
    refine ⟨_, pss_cons (ps_set (i := 1) scPairs.nd rfl (Or.inl rfl) (pe_lst pa_nil))
      (pss_cons (ps_set (i := 2) scPairs.nd rfl (Or.inl rfl) (pe_lst pa_nil))
      (pss_cons (ps_for PassesOwn.never rfl (pi_range1 rfl T.rng (pa_cons (pe_callB (r := rLenS K) cr_len rfl T.len PySem.boot_len (pa_cons (pv 0) pa_nil)) pa_nil)) (pg_name (i := 3) scPairs.nd rfl (Or.inl rfl))
        (pss_cons (ps_if (pt_cmpR op_eq (pe_ix (r := rIxT K) ix_tup (pe_ix (r := rIxL K) ix_list (pv 0) (pv 3) (fun _ _ => rfl)) pe_int (fun _ _ => rfl)) pe_str (nomark _))
          (pss_one (ps_expr (pe_bm PySem.F.plainAttrs_list PySem.F.slot_list_append PySem.F.type_list_append mt_append (pv 1) (pa_cons (pv 3) pa_nil)))) pss_nil)
        (pss_one (ps_if (pt_cmpR op_eq (pe_ix (r := rIxT K) ix_tup (pe_ix (r := rIxL K) ix_list (pv 0) (pv 3) (fun _ _ => rfl)) pe_int (fun _ _ => rfl)) pe_str (nomark _))
          (pss_one (ps_expr (pe_bm PySem.F.plainAttrs_list PySem.F.slot_list_append PySem.F.type_list_append mt_append (pv 2) (pa_cons (pe_tup (pa_cons (pe_bm0 PySem.F.plainAttrs_list PySem.F.slot_list_pop PySem.F.type_list_pop mt_pop (pv 1)) (pa_cons (pv 3) pa_nil))) pa_nil)))) pss_nil))))
      (pss_one (ps_ret (pv 2))))), ?_⟩
    obtain ⟨rs, hr1, hr2⟩ := hrow
    have lr := hr2.length
    refine ⟨small 0, fun lo h1 => ⟨small 0, fun lf h2 => ?_⟩⟩
    have s1 : Same H (upd H lo (.lst [])) := same_new h1 _
    have s2 := s1.trans (same_new h2 (.lst []))
    have nof : lo ≠ lf := ne_of_none upd_same h2
    refine go_name (st_is [some (.ref a), some (.ref lo), some (.ref lf), none] rfl ?_)
    have hE : EvA (tCons (tCB (rLenS K) (tCons (tVar 0) tNil)) tNil) [some (.ref a), some (.ref lo), some (.ref lf), none] (upd (upd H lo (.lst [])) lf (.lst [])) [.int (row.length : Nat)] := by
      rw [← lr]
      exact ea_cons (ev_len (ev_var rfl) (SqL.of (s2 _ _ hr1))) ea_nil
    refine s_forR1 (n := (row.length : Nat)) hE (by omega) (fun i σ' H' => ∃ y, σ' = [some (.ref a), some (.ref lo), some (.ref lf), y] ∧ Same H H' ∧ H' lo = some (.lst ((pst (row.take i)).2.1.reverse.map nI)) ∧ ∃ fs, H' lf = some (.lst fs) ∧ Paired (PairAt H') fs (pst (row.take i)).2.2)
      (fun H2 e2 => ⟨_, rfl, s2.trans e2, by rw [e2 _ _ (show _ = some (HO.lst []) from by rw [upd_ne nof]; exact upd_same), List.take_zero]; rfl, [], e2 _ _ upd_same, by rw [List.take_zero]; exact .nil⟩) ?_ ?_
    · rintro i σ' H2 hi ⟨y, rfl, e2, g1, fs, g2, g3⟩
      have hi : i < row.length := by omega
      obtain ⟨q, hq⟩ : ∃ q, row[i]? = some q := ⟨_, List.getElem?_eq_getElem hi⟩
      obtain ⟨kd, la⟩ := q
      obtain ⟨vx, hx1, b, rfl, hb⟩ := paired_at' hr2 hq
      have hb2 := e2 _ _ hb
      have hr12 := e2 _ _ hr1
      have pl := pairs_le (row.take i)
      rw [List.length_take] at pl
      have pt := pst_turn hq
      refine st_is [some (.ref a), some (.ref lo), some (.ref lf), some (nI i)] rfl ?_
      refine ⟨_, rfl, _, rfl, a, _, _, _, rfl, rfl, SqL.of hr12, atI_nat hx1, b, _, 0, _, rfl, rfl, SqT.of hb2, atI_nat (j := 0) rfl, rfl, ?_⟩
      cases kd with
      | letter =>
        have hb2 : H2 b = some (.tup [.str (kdS .letter), nI la]) := hb2
        refine ⟨false, (by decide +kernel : V.bl (decide (V.str (kdS .letter) = V.str "call")) = V.bl false), iteF ?_⟩
        refine ⟨_, rfl, _, rfl, a, _, _, _, rfl, rfl, SqL.of hr12, atI_nat hx1, b, _, 0, _, rfl, rfl, SqT.of hb2, atI_nat (j := 0) rfl, rfl, false, (by decide +kernel : V.bl (decide (V.str (kdS .letter) = V.str "return")) = V.bl false), iteF ?_⟩
        have e1 : pst (row.take (i + 1)) = (i + 1, (pst (row.take i)).2.1, (pst (row.take i)).2.2) := pt
        refine ⟨_, rfl, e2, ?_, fs, g2, ?_⟩
        · rw [e1]; exact g1
        · rw [e1]; exact g3
      | call =>
        refine ⟨true, (by decide +kernel : V.bl (decide (V.str (kdS .call) = V.str "call")) = V.bl true), iteT ?_⟩
        have e1 : pst (row.take (i + 1)) = (i + 1, i :: (pst (row.take i)).2.1, (pst (row.take i)).2.2) := pt
        refine ⟨_, rfl, .inl ⟨rfl, _, SqL.of g1⟩, _, rfl, lo, _, _, rfl, rfl, g1, sz_lt (by rw [List.length_map, List.length_reverse]; omega), ?_⟩
        have t := tps_put g1 (.lst ((pst (row.take i)).2.1.reverse.map nI ++ [nI i]))
        have e3 : Same H (upd H2 lo (.lst ((pst (row.take i)).2.1.reverse.map nI ++ [nI i]))) := same_put e2 h1 _
        refine ⟨_, rfl, _, rfl, a, _, _, _, rfl, rfl, SqL.of (e3 _ _ hr1), atI_nat hx1, b, _, 0, _, rfl, rfl, SqT.of (t _ _ hb2), atI_nat (j := 0) rfl, rfl, false, (by decide +kernel : V.bl (decide (V.str (kdS .call) = V.str "return")) = V.bl false), iteF ?_⟩
        refine ⟨_, rfl, e3, ?_, fs, ?_, ?_⟩
        · rw [e1, upd_same, List.reverse_cons, List.map_append]; rfl
        · rw [upd_ne nof.symm]; exact g2
        · rw [e1]; exact Paired.mapP g3 fun _ _ q => q.tps t
      | ret =>
        refine ⟨false, (by decide +kernel : V.bl (decide (V.str (kdS .ret) = V.str "call")) = V.bl false), iteF ?_⟩
        refine ⟨_, rfl, _, rfl, a, _, _, _, rfl, rfl, SqL.of hr12, atI_nat hx1, b, _, 0, _, rfl, rfl, SqT.of hb2, atI_nat (j := 0) rfl, rfl, true, (by decide +kernel : V.bl (decide (V.str (kdS .ret) = V.str "return")) = V.bl true), iteT ?_⟩
        obtain ⟨c, st, es⟩ : ∃ c st, (pst (row.take i)).2.1 = c :: st := by
          cases z : (pst (row.take i)).2.1 with
          | nil => exact absurd z (hcl i la hq)
          | cons c st => exact ⟨c, st, rfl⟩
        have e1 : pst (row.take (i + 1)) = (i + 1, st, (pst (row.take i)).2.2 ++ [(c, i)]) := by rw [pt, es]; rfl
        rw [es, List.reverse_cons, List.map_append] at g1
        have g1 : H2 lo = some (.lst (st.reverse.map nI ++ [nI c])) := g1
        have t := tps_put g1 (.lst (st.reverse.map nI))
        have e3 : Same H (upd H2 lo (.lst (st.reverse.map nI))) := same_put e2 h1 _
        have g2' : (upd H2 lo (.lst (st.reverse.map nI))) lf = some (.lst fs) := by rw [upd_ne nof.symm]; exact g2
        refine ⟨_, rfl, .inl ⟨rfl, _, SqL.of g2⟩, _, rfl, .inl ⟨rfl, _, SqL.of g1⟩, lo, _, nI c, rfl, rfl, g1, by rw [List.length_append, List.length_singleton, Nat.add_sub_cancel, List.getElem?_append_right (Nat.le_refl _), Nat.sub_self]; rfl, ?_⟩
        rw [List.dropLast_concat]
        refine ⟨_, rfl, small 2, fun u hu => ?_⟩
        have s4 := same_new hu (.tup [nI c, nI i])
        have lf3 := g3.length
        refine ⟨lf, fs, _, rfl, rfl, s4 _ _ g2', sz_lt (by omega), ?_⟩
        have t4 := tps_put (s4 _ _ g2') (.lst (fs ++ [.ref u]))
        refine ⟨_, rfl, same_put (e3.trans s4) (s1.free h2) _, ?_, fs ++ [.ref u], upd_same, ?_⟩
        · rw [e1, upd_ne nof]
          exact s4 _ _ upd_same
        · rw [e1]
          exact paired_append (Paired.mapP g3 fun _ _ q => q.tps ((t.trans (tps_of s4)).trans t4)) (.cons ⟨u, rfl, t4 _ _ upd_same⟩ .nil)
    · rintro σ' H2 ⟨y, rfl, e2, g1, fs, g2, g3⟩
      have e : ((row.length : Nat) : Int).toNat = row.length := by omega
      rw [e, List.take_length] at g3
      exact ⟨_, rfl, k lf fs H2 e2 g2 g3⟩
/-! ### _law_true -/
def spTrue (m : Nat) : Sp := fun vs H Q _ => ∃ L num rw st k ls row S p, vs = [.ref L, nI num, .ref rw, .ref st, nI k] ∧ Scene H L rw st ls row S ∧ Bears ls num p ∧ isP p = true ∧ dep p ≤ m ∧ k < row.length ∧ ∀ H', Same H H' → Q (.bl (evalP row S k p)) H'
abbrev nTrue : List Str := ["_law_sentence", "_law_number", "_law_row", "_law_sets", "_law_k", "_law_line"]
abbrev aTrue : List Str := ["_law_sentence", "_law_number", "_law_row", "_law_sets", "_law_k"]
theorem scTrue : FnScope nTrue aTrue (defScope sTrue) := ⟨rfl, rfl, rfl, by decide +kernel, rfl, by decide +kernel, by decide +kernel⟩
theorem shaped_pl (a : Pl) : SeqAt.shaped (.tuple [.str (kdS a.k), .int (a.a : Nat)]) = true := by
  obtain ⟨k, n⟩ := a
  have h : PyData.strOk (kdS k) = true := by cases k <;> decide +kernel
  have h1 : PyData.canLay0 (.tuple [.str (kdS k), .int (n : Nat)]) = true := by
    show (PyData.strOk (kdS k) && (true && true)) = true
    rw [h]
    rfl
  have h2 : PyData.depth (.tuple [.str (kdS k), .int (n : Nat)]) ≤ 64 := by
    simp [PyData.depth, PyData.depthAll]
  unfold SeqAt.shaped
  rw [h1, decide_eq_true h2]
  rfl
theorem eqv_pl (a b : Pl) : PyData.eqv (.tuple [.str (kdS a.k), .int (a.a : Nat)]) (.tuple [.str (kdS b.k), .int (b.a : Nat)]) = decide (a = b) := by
  obtain ⟨ka, na⟩ := a
  obtain ⟨kb, nb⟩ := b
  show ((kdS ka == kdS kb) && ((((na : Nat) : Int) == ((nb : Nat) : Int)) && true)) = _
  rw [Bool.and_true]
  have h1 : (kdS ka == kdS kb) = decide (ka = kb) := by cases ka <;> cases kb <;> decide +kernel
  have h2 : (((na : Nat) : Int) == ((nb : Nat) : Int)) = decide (na = nb) := by
    by_cases q : na = nb
    · subst q; simp
    · rw [decide_eq_false q]
      exact beq_false_of_ne fun z => q (by omega)
  rw [h1, h2]
  by_cases q1 : ka = kb <;> by_cases q2 : na = nb <;> simp [q1, q2]
theorem c_true (T : Glob K mg) (h : Here K mg "_law_true" sTrue) : ∀ m : Nat, Called P w K mg base m "_law_true" aTrue (spTrue m)
  | 0 => by
    obtain ⟨f, fd, F, m⟩ := h
    have no : ∀ vs H Q E, ¬ spTrue 0 vs H Q E := fun vs H Q E h => by
      obtain ⟨L, num, rw, st, k, ls, row, S, p, _, _, _, _, h1, _⟩ := h
      have := dep_pos p
      omega
    exact ⟨f, fd, ⟨fun vs H Q E h => absurd h (no vs H Q E), fun A outer s H args us vs Q E _ _ _ _ h => absurd h (no vs H Q E)⟩, m, F.kp, F.binds fun _ _ _ _ _ _ us hl => match us, hl with | [_, _, _, _, _], _ => rfl⟩
  | n + 1 => by
    obtain ⟨f, fd, F, m⟩ := id h
    obtain ⟨fy, fyd, Gy, my, ky, by_⟩ := c_true T h n
    refine ⟨f, fd, F.ok scTrue (fun vs H Q E h => ?_) (fun cdv A outer s H vs Q E hr h => ?_), m, F.kp, F.binds fun _ _ _ _ _ _ us hl => match us, hl with | [_, _, _, _, _], _ => rfl⟩
    · obtain ⟨L, num, rw, st, k, ls, row, S, p, rfl, _⟩ := h; rfl
    · obtain ⟨L, num, rw, st, k, ls, row, S, p, rfl, C, hbe, hp, hd, hk, q⟩ := h
      refine ⟨_, pss_cons (ps_set (i := 5) scTrue.nd rfl (Or.inl rfl) (pe_ix (r := rIxT K) ix_tup (pv 0) (pv 1) (fun _ _ => rfl)))
        (pss_cons (ps_if (pt_cmpR op_eq (pe_ix (r := rIxT K) ix_tup (pv 5) pe_int (fun _ _ => rfl)) pe_str (nomark _))
          (pss_one (ps_ret (pe_not (pe_call Gy hr rfl my ky by_ .nil pass0 (pa_cons (pv 0) (pa_cons (pe_ix (r := rIxT K) ix_tup (pv 5) pe_int (fun _ _ => rfl)) (pa_cons (pv 2) (pa_cons (pv 3) (pa_cons (pv 4) pa_nil))))))))) pss_nil)
        (pss_cons (ps_if (pt_cmpR op_eq (pe_ix (r := rIxT K) ix_tup (pv 5) pe_int (fun _ _ => rfl)) pe_str (nomark _))
          (pss_one (ps_ret (pe_and (pe_call Gy hr rfl my ky by_ .nil pass0 (pa_cons (pv 0) (pa_cons (pe_ix (r := rIxT K) ix_tup (pv 5) pe_int (fun _ _ => rfl)) (pa_cons (pv 2) (pa_cons (pv 3) (pa_cons (pv 4) pa_nil))))))
              (pe_one (pe_call Gy hr rfl my ky by_ .nil pass0 (pa_cons (pv 0) (pa_cons (pe_ix (r := rIxT K) ix_tup (pv 5) pe_int (fun _ _ => rfl)) (pa_cons (pv 2) (pa_cons (pv 3) (pa_cons (pv 4) pa_nil)))))))))) pss_nil)
        (pss_cons (ps_if (pt_cmpR op_eq (pe_ix (r := rIxT K) ix_tup (pv 5) pe_int (fun _ _ => rfl)) pe_str (nomark _))
          (pss_one (ps_ret (pe_and (pe_cmpR op_lt (pe_ix (r := rIxT K) ix_tup (pv 5) pe_int (fun _ _ => rfl)) (pe_callB (r := rLenS K) cr_len rfl T.len PySem.boot_len (pa_cons (pv 3) pa_nil)) (nomark _))
              (pe_one (pe_cmpR (r := rIn K false) op_in_seq (pv 4) (pe_ix (r := rIxL K) ix_list (pv 3) (pe_ix (r := rIxT K) ix_tup (pv 5) pe_int (fun _ _ => rfl)) (fun _ _ => rfl)) (by rfl)))))) pss_nil)
        (pss_one (ps_ret (pe_cmpR (r := rEqD K) (op_eqD hr.units) (pe_ix (r := rIxL K) ix_list (pv 2) (pv 4) (fun _ _ => rfl)) (pv 5) (nomark _))))))), ?_⟩
      cases p with
      | set v =>
        obtain ⟨vs, b, h1, h2, h3⟩ := lines_get C.li hbe
        have h3 : H b = some (.tup [.str "set", nI v]) := h3
        obtain ⟨xs, g1, g2⟩ := C.se
        have lx := g2.length
        refine ⟨_, rfl, _, rfl, L, vs, _, _, rfl, rfl, SqT.of h1, atI_nat h2, ?_⟩
        refine go_name (st_is [some (.ref L), some (nI num), some (.ref rw), some (.ref st), some (nI k), some (.ref b)] rfl ?_)
        refine ⟨_, rfl, b, _, 0, _, rfl, rfl, SqT.of h3, atI_nat (j := 0) rfl, rfl, false, by decide +kernel, iteF ?_⟩
        refine ⟨_, rfl, b, _, 0, _, rfl, rfl, SqT.of h3, atI_nat (j := 0) rfl, rfl, false, by decide +kernel, iteF ?_⟩
        refine ⟨_, rfl, b, _, 0, _, rfl, rfl, SqT.of h3, atI_nat (j := 0) rfl, rfl, true, by decide +kernel, iteT ?_⟩
        refine ⟨_, rfl, b, _, 1, _, rfl, rfl, SqT.of h3, atI_nat (j := 1) rfl, _, rfl, st, xs, rfl, .inl (SqL.of g1), _, _, rfl, rfl, decide (v < S.length), ?_, ite2 (fun c => ?_) (fun c => ?_)⟩
        · show V.bl (decide (((v : Nat) : Int) < ((xs.length : Nat) : Int))) = _
          rw [lx]
          congr 1
          by_cases z : v < S.length
          · rw [decide_eq_true z, decide_eq_true (by omega)]
          · rw [decide_eq_false z, decide_eq_false (by omega)]
        · have c := of_decide_eq_true c
          obtain ⟨y, g3, d, rfl, g4⟩ := paired_at' g2 (List.getElem?_eq_getElem c)
          refine ⟨_, rfl, _, rfl, _, rfl, b, _, 1, _, rfl, rfl, SqT.of h3, atI_nat (j := 1) rfl, st, xs, _, _, rfl, rfl, SqL.of g1, atI_nat g3, d, _, rfl, .inl (SqL.of g4), rfl, flat_ints _, ?_⟩
          have e : evalP row S k (.set v) = inV (nI k) (S[v].map nI) := by
            show (decide (v < S.length) && decide (k ∈ S.getD v [])) = _
            rw [decide_eq_true c, Bool.true_and, in_acc, getD_of _ (List.getElem?_eq_getElem c)]
          have q' := q H (Same.refl _)
          rw [e] at q'
          exact q'
        · have c : ¬ v < S.length := fun z => c (decide_eq_true z)
          have e : evalP row S k (.set v) = false := by
            show (decide (v < S.length) && decide (k ∈ S.getD v [])) = _
            rw [decide_eq_false c, Bool.false_and]
          have q' := q H (Same.refl _)
          rw [e] at q'
          exact q'
      | pl p =>
        obtain ⟨vs, b, h1, h2, h3⟩ := lines_get C.li hbe
        have h3 : H b = some (.tup [.str (kdS p.k), nI p.a]) := h3
        obtain ⟨rp, hrp⟩ : ∃ rp, row[k]? = some rp := ⟨_, List.getElem?_eq_getElem hk⟩
        obtain ⟨rs, d, g1, _, g2, g3⟩ := row_get C.ro hrp
        refine ⟨_, rfl, _, rfl, L, vs, _, _, rfl, rfl, SqT.of h1, atI_nat h2, ?_⟩
        refine go_name (st_is [some (.ref L), some (nI num), some (.ref rw), some (.ref st), some (nI k), some (.ref b)] rfl ?_)
        refine ⟨_, rfl, b, _, 0, _, rfl, rfl, SqT.of h3, atI_nat (j := 0) rfl, rfl, false, by cases p.k <;> decide +kernel, iteF ?_⟩
        refine ⟨_, rfl, b, _, 0, _, rfl, rfl, SqT.of h3, atI_nat (j := 0) rfl, rfl, false, by cases p.k <;> decide +kernel, iteF ?_⟩
        refine ⟨_, rfl, b, _, 0, _, rfl, rfl, SqT.of h3, atI_nat (j := 0) rfl, rfl, false, by cases p.k <;> decide +kernel, iteF ?_⟩
        refine ⟨_, rfl, _, rfl, rw, rs, _, _, rfl, rfl, SqL.of g1, atI_nat g2, _, rfl, .tuple [.str (kdS rp.k), .int (rp.a : Nat)], .tuple [.str (kdS p.k), .int (p.a : Nat)], .tup (SqT.of g3) (.cons (.str _) (.cons (.int _) .nil)), .tup (SqT.of h3) (.cons (.str _) (.cons (.int _) .nil)), shaped_pl rp, shaped_pl p, ?_⟩
        rw [eqv_pl]
        have e : evalP row S k (.pl p) = decide (rp = p) := by
          show decide (row[k]? = some p) = _
          rw [hrp]
          by_cases z : rp = p
          · subst z; simp
          · rw [decide_eq_false z, decide_eq_false (fun y => z (Option.some.inj y))]
        have q' := q H (Same.refl _)
        rw [e] at q'
        exact q'
      | nothing => cases hp
      | un o p =>
        cases o with
        | not =>
          obtain ⟨j, hbe, hbj⟩ := hbe
          obtain ⟨vs, b, h1, h2, h3⟩ := lines_get C.li hbe
          have h3 : H b = some (.tup [.str "not", nI j]) := h3
          have dl := dep_un .not p
          refine ⟨_, rfl, _, rfl, L, vs, _, _, rfl, rfl, SqT.of h1, atI_nat h2, ?_⟩
          refine go_name (st_is [some (.ref L), some (nI num), some (.ref rw), some (.ref st), some (nI k), some (.ref b)] rfl ?_)
          refine ⟨_, rfl, b, _, 0, _, rfl, rfl, SqT.of h3, atI_nat (j := 0) rfl, rfl, true, by decide +kernel, iteT ?_⟩
          refine ⟨_, rfl, _, rfl, b, _, 1, _, rfl, rfl, SqT.of h3, atI_nat (j := 1) rfl, _, rfl, _, rfl, _, rfl, L, j, rw, st, k, ls, row, S, p, rfl, C, hbj, hp, by omega, hk, fun H1 e1 => ?_⟩
          exact ⟨_, rfl, q H1 e1⟩
        | _ => cases hp
      | bin o p1 p2 =>
        cases o with
        | and =>
          obtain ⟨j1, j2, hbe, hb1, hb2⟩ := hbe
          obtain ⟨vs, b, h1, h2, h3⟩ := lines_get C.li hbe
          have h3 : H b = some (.tup [.str "and", nI j1, nI j2]) := h3
          have dl := dep_binl .and p1 p2
          have dr := dep_binr .and p1 p2
          have hp : (isP p1 && isP p2) = true := hp
          rw [Bool.and_eq_true] at hp
          refine ⟨_, rfl, _, rfl, L, vs, _, _, rfl, rfl, SqT.of h1, atI_nat h2, ?_⟩
          refine go_name (st_is [some (.ref L), some (nI num), some (.ref rw), some (.ref st), some (nI k), some (.ref b)] rfl ?_)
          refine ⟨_, rfl, b, _, 0, _, rfl, rfl, SqT.of h3, atI_nat (j := 0) rfl, rfl, false, by decide +kernel, iteF ?_⟩
          refine ⟨_, rfl, b, _, 0, _, rfl, rfl, SqT.of h3, atI_nat (j := 0) rfl, rfl, true, by decide +kernel, iteT ?_⟩
          refine ⟨_, rfl, _, rfl, b, _, 1, _, rfl, rfl, SqT.of h3, atI_nat (j := 1) rfl, _, rfl, _, rfl, _, rfl, L, j1, rw, st, k, ls, row, S, p1, rfl, C, hb1, hp.1, by omega, hk, fun H1 e1 => ?_⟩
          refine ⟨_, rfl, ite2 (fun c => ?_) (fun c => ?_)⟩
          · refine ⟨_, rfl, _, rfl, b, _, 2, _, rfl, rfl, SqT.of (e1 _ _ h3), atI_nat (j := 2) rfl, _, rfl, _, rfl, _, rfl, L, j2, rw, st, k, ls, row, S, p2, rfl, C.mono e1, hb2, hp.2, by omega, hk, fun H2 e2 => ?_⟩
            have e : evalP row S k (.bin .and p1 p2) = evalP row S k p2 := by
              show (evalP row S k p1 && evalP row S k p2) = _
              rw [c, Bool.true_and]
            have q' := q H2 (e1.trans e2)
            rw [e] at q'
            exact q'
          · have e : evalP row S k (.bin .and p1 p2) = false := by
              show (evalP row S k p1 && evalP row S k p2) = _
              rw [Bool.not_eq_true _ |>.mp c, Bool.false_and]
            have q' := q H1 e1
            rw [e] at q'
            exact q'
        | _ => cases hp
end
end K46

/-! _law_some_set, _law_so. -/
namespace K46
open PySem L2 Evl
/-! ### the bits of a code -/
theorem bits_snoc (c m : Nat) : bitsOf c (m + 1) = bitsOf c m ++ (if c / 2 ^ m % 2 = 1 then [m] else []) := by
  unfold bitsOf
  rw [List.range_succ, List.filter_append]
  congr 1
  by_cases h : c / 2 ^ m % 2 = 1
  · rw [if_pos h]
    simp [h]
  · rw [if_neg h]
    simp [h]
theorem bits_le (c m : Nat) : (bitsOf c m).length ≤ m := by
  have := List.length_filter_le (fun k => decide (c / 2 ^ k % 2 = 1)) (List.range m)
  rw [List.length_range] at this
  exact this
theorem pow_small {i : Nat} (h : i ≤ 4) : (0 : Int) ≤ ((2 ^ i : Nat) : Int) ∧ ((2 ^ i : Nat) : Int) ≤ 16 :=
  ⟨Int.natCast_nonneg _, Int.ofNat_le.mpr (Nat.pow_le_pow_right (by decide) h : 2 ^ i ≤ 2 ^ 4)⟩
theorem any_snoc {n : Nat} {f : Nat → Bool} (h : (List.range n).any f = false) (h2 : f n = false) : (List.range (n + 1)).any f = false := by
  rw [List.range_succ, List.any_append, h]
  simp [h2]
theorem any_hit {n i : Nat} {f : Nat → Bool} (hi : i < n) (h : f i = true) : (List.range n).any f = true := List.any_eq_true.mpr ⟨i, List.mem_range.mpr hi, h⟩
section
variable {P : Program} {w : World} {K : PySem.W.Frag} {mg : Str → Option Value} {base : Heap}
def spSo (m : Nat) : Sp := fun vs H Q _ => ∃ L num rw st ls row S p, vs = [.ref L, nI num, .ref rw, .ref st] ∧ Scene H L rw st ls row S ∧ S.length ≤ 1000 ∧ Bears ls num p ∧ isT p = true ∧ S.length + dep p ≤ 1000 ∧ dep p ≤ m ∧ ∀ H', Same H H' → Q (.bl (evalT row p S)) H'
def spSomeSet (m : Nat) : Sp := fun vs H Q _ => ∃ L num rw st ls row S p, vs = [.ref L, nI num, .ref rw, .ref st] ∧ Scene H L rw st ls row S ∧ Bears ls num p ∧ isT p = true ∧ S.length + 1 + dep p ≤ 1000 ∧ dep p + 1 ≤ m ∧ ∀ H', Same H H' → Q (.bl ((List.range (2 ^ row.length)).any fun c => evalT row p (S ++ [bitsOf c row.length]))) H'
abbrev nSome : List Str := ["_law_sentence", "_law_number", "_law_row", "_law_sets", "_law_size", "_law_k", "_law_code", "_law_chosen", "_law_left"]
abbrev aSo : List Str := ["_law_sentence", "_law_number", "_law_row", "_law_sets"]
theorem scSomeSet : FnScope nSome aSo (defScope sSomeSet) := ⟨rfl, rfl, rfl, by decide +kernel, rfl, by decide +kernel, by decide +kernel⟩
/-- int(x) -/
def rInt1 : List V → Hp → VK → Prop := fun xs H Q => (∃ i, xs = [.int i] ∧ Q (.int i) H) ∨ ∃ k, xs = [.bl k] ∧ Q (.int (if k then 1 else 0)) H
theorem cr_int {X : Cx} : CallR X (.type "int") rInt1 := call_int1
theorem row_len {H : Hp} {a : Addr} {row : List Pl} (h : RowAt H a row) : ∃ xs, H a = some (.lst xs) ∧ xs.length = row.length := by
  obtain ⟨xs, h1, h2⟩ := h
  exact ⟨xs, h1, h2.length⟩
theorem ev_rowlen {σ : L2.St} {H : Hp} {te : TE} {a : Addr} {row : List Pl} (h : RowAt H a row) (he : Ev te σ H (.ref a)) : Ev (tCB (rLenS K) (tCons te tNil)) σ H (nI row.length) := by
  obtain ⟨xs, h1, h2⟩ := row_len h
  rw [← h2]
  exact ev_len he (SqL.of h1)
theorem c_some_set {z n : Nat} (T : Glob K mg) (y : Called P w K mg base z "_law_so" aSo (spSo n)) (h : Here K mg "_law_some_set" sSomeSet) : Called P w K mg base (z + 1) "_law_some_set" aSo (spSomeSet (n + 1)) := by
  obtain ⟨f, fd, F, m⟩ := h
  obtain ⟨fy, fyd, Gy, my, ky, by_⟩ := y
  refine ⟨f, fd, F.ok scSomeSet (fun vs H Q E h => ?_) (fun cdv A outer s H vs Q E hr h => ?_), m, F.kp, F.binds fun _ _ _ _ _ _ us hl => match us, hl with | [_, _, _, _], _ => rfl⟩
  · obtain ⟨L, num, rw, st, ls, row, S, p, rfl, _⟩ := h; rfl
  · obtain ⟨L, num, rw, st, ls, row, S, p, rfl, C, hbe, hp, hd0, hd, q⟩ := h
    refine ⟨_, pss_cons (ps_set (i := 4) scSomeSet.nd rfl (Or.inl rfl) pe_int)
      (pss_cons (ps_for PassesOwn.never rfl (pi_range1 rfl T.rng (pa_cons (pe_callB (r := rLenS K) cr_len rfl T.len PySem.boot_len (pa_cons (pv 2) pa_nil)) pa_nil)) (pg_name (i := 5) scSomeSet.nd rfl (Or.inl rfl))
        (pss_one (ps_set (i := 4) scSomeSet.nd rfl (Or.inl rfl) (pe_op op_mul (pv 4) pe_int))))
      (pss_cons (ps_for PassesOwn.never rfl (pi_range1 rfl T.rng (pa_cons (pv 4) pa_nil)) (pg_name (i := 6) scSomeSet.nd rfl (Or.inl rfl))
        (pss_cons (ps_set (i := 7) scSomeSet.nd rfl (Or.inl rfl) (pe_lst pa_nil))
        (pss_cons (ps_set (i := 8) scSomeSet.nd rfl (Or.inl rfl) (pv 6))
        (pss_cons (ps_for PassesOwn.never rfl (pi_range1 rfl T.rng (pa_cons (pe_callB (r := rLenS K) cr_len rfl T.len PySem.boot_len (pa_cons (pv 2) pa_nil)) pa_nil)) (pg_name (i := 5) scSomeSet.nd rfl (Or.inl rfl))
          (pss_cons (ps_if (pt_cmpR op_eq (pe_op op_mod (pe_callTy (r := rInt1) cr_int rfl T.int (by decide +kernel) (pa_cons (pv 8) pa_nil)) pe_int) pe_int (nomark _))
            (pss_one (ps_expr (pe_bm PySem.F.plainAttrs_list PySem.F.slot_list_append PySem.F.type_list_append mt_append (pv 7) (pa_cons (pv 5) pa_nil)))) pss_nil)
          (pss_one (ps_set (i := 8) scSomeSet.nd rfl (Or.inl rfl) (pe_op op_fdiv (pv 8) pe_int)))))
        (pss_one (ps_if (pt_val (pe_call Gy hr rfl my ky by_ .nil pass0 (pa_cons (pv 0) (pa_cons (pv 1) (pa_cons (pv 2) (pa_cons (pe_op op_cat (pv 3) (pe_lst (pa_cons (pv 7) pa_nil))) pa_nil))))))
          (pss_one (ps_ret pe_bl)) pss_nil))))))
      (pss_one (ps_ret pe_bl)))), ?_⟩
    have hn := C.n
    refine go_name (st_is [some (.ref L), some (nI num), some (.ref rw), some (.ref st), some (.int 1), none, none, none, none] rfl ?_)
    have hE : EvA (tCons (tCB (rLenS K) (tCons (tVar 2) tNil)) tNil) [some (.ref L), some (nI num), some (.ref rw), some (.ref st), some (.int 1), none, none, none, none] H [.int (row.length : Nat)] := ea_cons (ev_rowlen C.ro (ev_var rfl)) ea_nil
    refine s_forR1 (n := (row.length : Nat)) hE (by omega) (fun i σ' H' => ∃ y5, σ' = [some (.ref L), some (nI num), some (.ref rw), some (.ref st), some (.int ((2 ^ i : Nat) : Int)), y5, none, none, none] ∧ Same H H')
      (fun H1 e1 => ⟨_, rfl, e1⟩) ?_ ?_
    · rintro i σ' H1 hi ⟨y5, rfl, e1⟩
      have hi : i < 4 := by omega
      have hb := pow_small (show i ≤ 4 by omega)
      refine ⟨_, rfl, _, _, rfl, rfl, .inl ⟨Int.lt_of_lt_of_le (by decide) hb.1, Int.lt_of_le_of_lt hb.2 (by decide)⟩, ?_⟩
      refine go_name ⟨some (nI i), ?_, e1⟩
      have e : ((2 ^ i : Nat) : Int) * 2 = ((2 ^ (i + 1) : Nat) : Int) := by
        rw [Nat.pow_succ]
        omega
      show [some (.ref L), some (nI num), some (.ref rw), some (.ref st), some (.int (((2 ^ i : Nat) : Int) * 2)), some (nI i), none, none, none] = _
      rw [e]
    rintro σ' H1 ⟨y5, rfl, e1⟩
    have et : ((row.length : Nat) : Int).toNat = row.length := by omega
    rw [et]
    have hb := pow_small hn
    have hE2 : EvA (tCons (tVar 4) tNil) [some (.ref L), some (nI num), some (.ref rw), some (.ref st), some (.int ((2 ^ row.length : Nat) : Int)), y5, none, none, none] H1 [.int ((2 ^ row.length : Nat) : Int)] := ea_cons (ev_var rfl) ea_nil
    refine s_forR1 (n := ((2 ^ row.length : Nat) : Int)) hE2 ⟨hb.1, Int.le_trans hb.2 (by decide)⟩ (fun i σ' H' => ∃ y5 y6 y7 y8, σ' = [some (.ref L), some (nI num), some (.ref rw), some (.ref st), some (.int ((2 ^ row.length : Nat) : Int)), y5, y6, y7, y8] ∧ Same H H' ∧ (List.range i).any (fun c => evalT row p (S ++ [bitsOf c row.length])) = false)
      (fun H2 e2 => ⟨_, _, _, _, rfl, e1.trans e2, rfl⟩) ?_ ?_
    · rintro c σ' H2 hc ⟨y5, y6, y7, y8, rfl, e2, hno⟩
      have hc : c < 2 ^ row.length := by omega
      refine ⟨small 0, fun lc h1 => ?_⟩
      have s1 := e2.trans (same_new h1 (.lst []))
      refine go_name ⟨_, rfl, ?_⟩
      refine go_name (st_is [some (.ref L), some (nI num), some (.ref rw), some (.ref st), some (.int ((2 ^ row.length : Nat) : Int)), y5, some (nI c), some (.ref lc), some (nI c)] rfl ?_)
      have hE3 : EvA (tCons (tCB (rLenS K) (tCons (tVar 2) tNil)) tNil) [some (.ref L), some (nI num), some (.ref rw), some (.ref st), some (.int ((2 ^ row.length : Nat) : Int)), y5, some (nI c), some (.ref lc), some (nI c)] (upd H2 lc (.lst [])) [.int (row.length : Nat)] := ea_cons (ev_rowlen (C.ro.mono s1) (ev_var rfl)) ea_nil
      refine s_forR1 (n := (row.length : Nat)) hE3 (by omega) (fun i σ' H' => ∃ y5, σ' = [some (.ref L), some (nI num), some (.ref rw), some (.ref st), some (.int ((2 ^ row.length : Nat) : Int)), y5, some (nI c), some (.ref lc), some (nI (c / 2 ^ i))] ∧ Same H H' ∧ H' lc = some (.lst ((bitsOf c i).map nI)))
        (fun H3 e3 => ⟨_, by rw [Nat.pow_zero, Nat.div_one] , s1.trans e3, e3 _ _ upd_same⟩) ?_ ?_
      · rintro i σ' H3 hi ⟨y5, rfl, e3, g⟩
        refine st_is [some (.ref L), some (nI num), some (.ref rw), some (.ref st), some (.int ((2 ^ row.length : Nat) : Int)), some (nI i), some (nI c), some (.ref lc), some (nI (c / 2 ^ i))] rfl ?_
        have fin : ∀ H4, Same H H4 → H4 lc = some (.lst ((bitsOf c (i + 1)).map nI)) → tAsg (tOp (rI CDiv fun i j => .int (i / j)) (tVar 8) (tC (.int 2))) (gName 8) { nx := fun σ' H' => ∃ y5, σ' = [some (.ref L), some (nI num), some (.ref rw), some (.ref st), some (.int ((2 ^ row.length : Nat) : Int)), y5, some (nI c), some (.ref lc), some (nI (c / 2 ^ (i + 1)))] ∧ Same H H' ∧ H' lc = some (.lst ((bitsOf c (i + 1)).map nI)), rt := fun _ _ => False } [some (.ref L), some (nI num), some (.ref rw), some (.ref st), some (.int ((2 ^ row.length : Nat) : Int)), some (nI i), some (nI c), some (.ref lc), some (nI (c / 2 ^ i))] H4 := fun H4 e4 g4 => by
          refine ⟨_, rfl, _, _, rfl, rfl, ⟨by decide, by decide⟩, ?_⟩
          refine go_name ⟨some (nI i), ?_, e4, g4⟩
          have e : ((c / 2 ^ i : Nat) : Int) / 2 = ((c / 2 ^ (i + 1) : Nat) : Int) := by
            rw [Nat.pow_succ, ← Nat.div_div_eq_div_mul]
            omega
          show [some (.ref L), some (nI num), some (.ref rw), some (.ref st), some (.int ((2 ^ row.length : Nat) : Int)), some (nI i), some (nI c), some (.ref lc), some (.int (((c / 2 ^ i : Nat) : Int) / 2))] = _
          rw [e]
        refine ⟨_, rfl, .inl ⟨_, rfl, _, _, rfl, rfl, by show (0 : Int) < 2; decide, rfl, decide (c / 2 ^ i % 2 = 1), ?_, ite2 (fun d => ?_) (fun d => ?_)⟩⟩
        · show V.bl (decide (V.int (((c / 2 ^ i : Nat) : Int) % 2) = V.int 1)) = _
          congr 1
          by_cases d : c / 2 ^ i % 2 = 1
          · rw [decide_eq_true d, decide_eq_true]
            congr 1
            omega
          · rw [decide_eq_false d, decide_eq_false]
            intro q
            have := V.int.inj q
            omega
        · have d := of_decide_eq_true d
          have hl := bits_le c i
          refine ⟨_, rfl, .inl ⟨rfl, _, SqL.of g⟩, _, rfl, lc, _, _, rfl, rfl, g, sz_lt (by rw [List.length_map]; omega), ?_⟩
          exact fin _ (same_put e3 (e2.free h1) _) (by rw [upd_same, bits_snoc, if_pos d, List.map_append]; rfl)
        · have d : ¬ c / 2 ^ i % 2 = 1 := fun z => d (decide_eq_true z)
          exact fin H3 e3 (by rw [bits_snoc, if_neg d, List.append_nil]; exact g)
      rintro σ' H3 ⟨y5, rfl, e3, g⟩
      have g : H3 lc = some (.lst ((bitsOf c row.length).map nI)) := by rw [et] at g; exact g
      obtain ⟨xs, g1, g2⟩ := C.se.mono e3
      have lx := g2.length
      refine ⟨_, rfl, _, rfl, _, rfl, _, rfl, _, rfl, small 1, fun u hu => ?_⟩
      have s4 := same_new hu (.lst [.ref lc])
      refine ⟨st, u, xs, _, rfl, rfl, s4 _ _ g1, upd_same, small _ (by rw [List.length_singleton]; omega), fun t ht => ?_⟩
      have s5 := s4.trans (same_new ht (.lst (xs ++ [.ref lc])))
      have e5 := e3.trans s5
      have C5 := C.mono e5
      refine ⟨L, num, rw, t, ls, row, S ++ [bitsOf c row.length], p, rfl, ⟨C5.li, C5.ro, ⟨_, upd_same, paired_append (Paired.mapP g2 fun _ _ ⟨b, q1, q2⟩ => ⟨b, q1, s5 _ _ q2⟩) (.cons ⟨lc, rfl, s5 _ _ g⟩ .nil)⟩, C5.n, C5.c⟩, by rw [List.length_append, List.length_singleton]; omega, hbe, hp, by rw [List.length_append, List.length_singleton]; omega, by omega, fun H6 e6 => ?_⟩
      refine ⟨_, rfl, ite2 (fun d => ?_) (fun d => ?_)⟩
      · have q' := q H6 (e5.trans e6)
        rw [any_hit (f := fun c => evalT row p (S ++ [bitsOf c row.length])) hc d] at q'
        exact q'
      · exact ⟨_, _, _, _, rfl, e5.trans e6, any_snoc hno (Bool.not_eq_true _ |>.mp d)⟩
    · rintro σ' H2 ⟨y5, y6, y7, y8, rfl, e2, hno⟩
      have et2 : ((2 ^ row.length : Nat) : Int).toNat = 2 ^ row.length := by omega
      rw [et2] at hno
      have q' := q H2 e2
      rw [hno] at q'
      exact q'
end
end K46

/-! _law_so; both by one induction. -/
namespace K46
open PySem L2 Evl
theorem rg_nI (n : Nat) : rgV 0 (n : Nat) = (List.range n).map nI := by
  unfold rgV
  rw [show (((n : Nat) : Int) - 0).toNat = n by omega]
  refine List.map_congr_left fun i _ => ?_
  show V.int ((0 : Int) + (i : Nat)) = V.int (i : Nat)
  rw [Int.zero_add]
theorem sIx_m1 (n d : Nat) : HT.sIx n d (some (-1)) = n - 1 := by
  show (if (-1 : Int) < 0 then ((-1 : Int) + (n : Int)).toNat else min (-1 : Int).toNat n) = n - 1
  rw [if_pos (by decide)]
  omega
theorem cut_first (xs : List V) : cutV xs none (some 1) = xs.take 1 := by
  unfold cutV
  rw [show HT.sIx xs.length xs.length (some 1) = min 1 xs.length from HT.sIx_nat _ _ 1, HT.sIx_none, List.drop_zero, Nat.sub_zero, List.take_eq_take_iff]
  omega
theorem cut_last (xs : List V) : cutV xs (some (-1)) none = xs.drop (xs.length - 1) := by
  unfold cutV
  rw [sIx_m1, HT.sIx_none]
  exact List.take_of_length_le (by rw [List.length_drop]; omega)
theorem cut_but (xs : List V) : cutV xs none (some (-1)) = xs.take (xs.length - 1) := by
  unfold cutV
  rw [sIx_m1, HT.sIx_none, List.drop_zero, Nat.sub_zero]
theorem given_all {n : Nat} (v : Nat → V) : given n (fun _ => true) v = (List.range n).map v := by
  unfold given
  rw [List.filter_eq_self.mpr fun _ _ => rfl]
theorem range_get (ks : List Nat) (f : Nat → V) : (List.range ks.length).map (fun i => f (ks.getD i 0)) = ks.map f := by
  apply List.ext_getElem
  · rw [List.length_map, List.length_map, List.length_range]
  · intro i h1 h2
    rw [List.getElem_map, List.getElem_map, List.getElem_range]
    rw [List.length_map] at h2
    rw [getD_of _ (List.getElem?_eq_getElem h2)]
section
variable {P : Program} {w : World} {K : PySem.W.Frag} {mg : Str → Option Value} {base : Heap}
theorem et_yes {σ : L2.St} {H : Hp} : EvT tYes σ H true := fun H1 _ Q q => q H1 (Ex.refl H1)
theorem nI_at {ks : List Nat} {i : Nat} {x : V} (h : (ks.map nI)[i]? = some x) : x = nI (ks.getD i 0) ∧ ks.getD i 0 ∈ ks := by
  rw [List.getElem?_map] at h
  cases z : ks[i]? with
  | none => rw [z] at h; cases h
  | some k =>
    rw [z] at h
    rw [getD_of _ z]
    exact ⟨(Option.some.inj h).symm, List.mem_of_getElem? z⟩
/-- [test of k for k in a list], the list known -/
theorem el_tests {σ : L2.St} {H : Hp} {a : Addr} {ks : List Nat} {tl te : TE} (f : Nat → Bool) (hz : ks.length ≤ 100) (h : Ev tl σ H (.ref a)) (hx : SqL K H a (ks.map nI)) (he : ∀ k H1, Ex H H1 → k ∈ ks → Ev te ((wipe σ [8]).set 8 (some (nI k))) H1 (.bl (f k))) :
    EvL (tLc (iList K tl) (gName 8) tYes te [8]) σ H ((ks.map f).map V.bl) := by
  have r := el_lcL (K := K) (j := 8) (vs := [8]) (t := tYes) (fun _ => true) (fun i => V.bl (f (ks.getD i 0))) h hx (by rw [List.length_map]; omega) (fun x => by show ((σ.set 8 none).set 8 (some x)).set 8 none = σ.set 8 none; rw [List.set_set, List.set_set])
    (fun i x H1 _ _ => et_yes) (te := te) (fun i x H1 e1 hx _ => by
      obtain ⟨e, hm⟩ := nI_at hx
      rw [e]
      exact he _ H1 e1 hm)
  rw [given_all, List.length_map, range_get ks fun k => V.bl (f k)] at r
  rw [List.map_map]
  exact r
/-- the same, a new list -/
theorem el_testsN {σ : L2.St} {H : Hp} {ks : List Nat} {tl te : TE} (f : Nat → Bool) (hz : ks.length ≤ 100) (h : EvL tl σ H (ks.map nI)) (he : ∀ k H1, Ex H H1 → k ∈ ks → Ev te ((wipe σ [8]).set 8 (some (nI k))) H1 (.bl (f k))) :
    EvL (tLc (iList K tl) (gName 8) tYes te [8]) σ H ((ks.map f).map V.bl) := by
  have r := el_lcNL (K := K) (j := 8) (vs := [8]) (t := tYes) (fun _ => true) (fun i => V.bl (f (ks.getD i 0))) h (by rw [List.length_map]; omega) (fun x => by show ((σ.set 8 none).set 8 (some x)).set 8 none = σ.set 8 none; rw [List.set_set, List.set_set])
    (fun i x H1 _ _ => et_yes) (te := te) (fun i x H1 e1 hx _ => by
      obtain ⟨e, hm⟩ := nI_at hx
      rw [e]
      exact he _ H1 e1 hm)
  rw [given_all, List.length_map, range_get ks fun k => V.bl (f k)] at r
  rw [List.map_map]
  exact r
theorem ev_all {σ : L2.St} {H : Hp} {te : TE} {bs : List Bool} (h : EvL te σ H (bs.map V.bl)) : Ev (tCB (rAll K) (tCons te tNil)) σ H (.bl (bs.all id)) := fun H1 e Q q =>
  h H1 e _ fun p H2 _ e2 h2 => ⟨p, bs, rfl, SqL.of h2, q H2 e2⟩
theorem ev_true {σ : L2.St} {H : Hp} {t1 t2 t3 t4 t5 : TE} {E : XK} {m : Nat} {L rw st : Addr} {num k : Nat} {ls : List Ln} {row : List Pl} {S : List (List Nat)} {p : Pt} (C : Scene H L rw st ls row S) (hb : Bears ls num p) (hp : isP p = true) (hd : dep p ≤ m) (hk : k < row.length)
    (h1 : Ev t1 σ H (.ref L)) (h2 : Ev t2 σ H (nI num)) (h3 : Ev t3 σ H (.ref rw)) (h4 : Ev t4 σ H (.ref st)) (h5 : Ev t5 σ H (nI k)) : Ev (tCall (spTrue m) [] E (tCons t1 (tCons t2 (tCons t3 (tCons t4 (tCons t5 tNil)))))) σ H (.bl (evalP row S k p)) :=
  Evl.ev_call (ea_cons h1 (ea_cons h2 (ea_cons h3 (ea_cons h4 (ea_cons h5 ea_nil))))) fun H1 e1 Q q E => ⟨L, num, rw, st, k, ls, row, S, p, rfl, C.mono e1, hb, hp, hd, hk, fun H2 e2 => q H2 e2⟩
theorem ev_so {σ : L2.St} {H : Hp} {t1 t2 t3 t4 : TE} {E : XK} {m : Nat} {L rw st : Addr} {num : Nat} {ls : List Ln} {row : List Pl} {S : List (List Nat)} {p : Pt} (C : Scene H L rw st ls row S) (hS : S.length ≤ 1000) (hb : Bears ls num p) (hp : isT p = true) (hd0 : S.length + dep p ≤ 1000) (hd : dep p ≤ m)
    (h1 : Ev t1 σ H (.ref L)) (h2 : Ev t2 σ H (nI num)) (h3 : Ev t3 σ H (.ref rw)) (h4 : Ev t4 σ H (.ref st)) : Ev (tCall (spSo m) [] E (tCons t1 (tCons t2 (tCons t3 (tCons t4 tNil))))) σ H (.bl (evalT row p S)) :=
  Evl.ev_call (ea_cons h1 (ea_cons h2 (ea_cons h3 (ea_cons h4 ea_nil)))) fun H1 e1 Q q E => ⟨L, num, rw, st, ls, row, S, p, rfl, C.mono e1, hS, hb, hp, hd0, hd, fun H2 e2 => q H2 e2⟩
theorem ev_some_set {σ : L2.St} {H : Hp} {t1 t2 t3 t4 : TE} {E : XK} {m : Nat} {L rw st : Addr} {num : Nat} {ls : List Ln} {row : List Pl} {S : List (List Nat)} {p : Pt} (C : Scene H L rw st ls row S) (hb : Bears ls num p) (hp : isT p = true) (hd0 : S.length + 1 + dep p ≤ 1000) (hd : dep p + 1 ≤ m)
    (h1 : Ev t1 σ H (.ref L)) (h2 : Ev t2 σ H (nI num)) (h3 : Ev t3 σ H (.ref rw)) (h4 : Ev t4 σ H (.ref st)) : Ev (tCall (spSomeSet m) [] E (tCons t1 (tCons t2 (tCons t3 (tCons t4 tNil))))) σ H (.bl (evalT row (.un .there p) S)) :=
  Evl.ev_call (ea_cons h1 (ea_cons h2 (ea_cons h3 (ea_cons h4 ea_nil)))) fun H1 e1 Q q E => ⟨L, num, rw, st, ls, row, S, p, rfl, C.mono e1, hb, hp, hd0, hd, fun H2 e2 => q H2 e2⟩
/-- the loop over the pairs, and the return behind it -/
theorem s_pairs {H : Hp} {D : Ends} {m : Nat} {L rw st b l : Addr} {num j1 j2 : Nat} {ls : List Ln} {row : List Pl} {S : List (List Nat)} {p1 p2 : Pt} {nm : Str} {y5 y7 y8 : Option V} {prs : List (Nat × Nat)} {xs : List V}
    (C : Scene H L rw st ls row S) (h3 : H b = some (.tup [.str nm, nI j1, nI j2])) (hb1 : Bears ls j1 p1) (hb2 : Bears ls j2 p2) (hp1 : isP p1 = true) (hp2 : isP p2 = true) (hd1 : dep p1 ≤ m) (hd2 : dep p2 ≤ m)
    (hl : H l = some (.lst xs)) (hx : Paired (PairAt H) xs prs) (hr : ∀ x ∈ prs, x.1 < row.length ∧ x.2 < row.length)
    (q : ∀ H', Same H H' → D.rt (.bl (prs.all fun x => !evalP row S x.1 p1 || evalP row S x.2 p2)) H') :
    tSeq (tFor (iList K (tVar 6)) (gName 7) (tIfS (tB (tCall (spTrue m) [] E0 (tCons (tVar 0) (tCons (tOp (rIxT K) (tVar 4) (tC (.int 1))) (tCons (tVar 2) (tCons (tVar 3) (tCons (tOp (rIxT K) (tVar 7) (tC (.int 0))) tNil)))))))
      (tIfS (tNot (tB (tCall (spTrue m) [] E0 (tCons (tVar 0) (tCons (tOp (rIxT K) (tVar 4) (tC (.int 2))) (tCons (tVar 2) (tCons (tVar 3) (tCons (tOp (rIxT K) (tVar 7) (tC (.int 1))) tNil)))))))) (tRet (tC (.bl false))) tNext) tNext)) (tRet (tC (.bl true))) D
      [some (.ref L), some (nI num), some (.ref rw), some (.ref st), some (.ref b), y5, some (.ref l), y7, y8] H := by
  refine s_forL (xs := xs) (ev_var rfl) (SqL.of hl) (fun i σ' H' => ∃ y7, σ' = [some (.ref L), some (nI num), some (.ref rw), some (.ref st), some (.ref b), y5, some (.ref l), y7, y8] ∧ Same H H' ∧ ((prs.take i).all fun x => !evalP row S x.1 p1 || evalP row S x.2 p2) = true)
    (fun H1 e1 => ⟨_, rfl, e1, rfl⟩) (fun i σ' H' _ ⟨_, _, e1, _⟩ => SqL.of (e1 _ _ hl)) ?_ ?_
  · rintro i x σ' H1 hi ⟨y7, rfl, e1, hall⟩
    obtain ⟨pr, hpr, u, rfl, hu⟩ := paired_at hx hi
    have hm := hr pr (List.mem_of_getElem? hpr)
    have C1 := C.mono e1
    refine go_name (st_is [some (.ref L), some (nI num), some (.ref rw), some (.ref st), some (.ref b), y5, some (.ref l), some (.ref u), y8] rfl ?_)
    refine s_if (et_B (ev_true C1 hb1 hp1 hd1 hm.1 (ev_var rfl) (ev_item (K := K) (j := 1) (e1 _ _ h3) (ev_var rfl) rfl rfl) (ev_var rfl) (ev_var rfl) (ev_item (K := K) (j := 0) (e1 _ _ hu) (ev_var rfl) rfl rfl))) (fun c H2 e2 => ?_) (fun c H2 e2 => ?_)
    · have e12 := e1.trans e2
      refine s_if (et_not (et_B (ev_true (C.mono e12) hb2 hp2 hd2 hm.2 (ev_var rfl) (ev_item (K := K) (j := 2) (e12 _ _ h3) (ev_var rfl) rfl rfl) (ev_var rfl) (ev_var rfl) (ev_item (K := K) (j := 1) (e12 _ _ hu) (ev_var rfl) rfl rfl)))) (fun d H3 e3 => ?_) (fun d H3 e3 => ?_)
      · have d : evalP row S pr.2 p2 = false := by
          cases z : evalP row S pr.2 p2 with
          | false => rfl
          | true => rw [z] at d; cases d
        have e : (prs.all fun x => !evalP row S x.1 p1 || evalP row S x.2 p2) = false := by
          rw [List.all_eq_false]
          exact ⟨pr, List.mem_of_getElem? hpr, by rw [c, d]; decide⟩
        have q' := q H3 (e12.trans e3)
        rw [e] at q'
        exact q'
      · have d : evalP row S pr.2 p2 = true := by
          cases z : evalP row S pr.2 p2 with
          | true => rfl
          | false => rw [z] at d; cases d
        refine ⟨_, rfl, e12.trans e3, ?_⟩
        rw [take_succ_get hpr, List.all_append, hall]
        simp [c, d]
    · refine ⟨_, rfl, e1.trans e2, ?_⟩
      rw [take_succ_get hpr, List.all_append, hall]
      simp [c]
  · rintro σ' H1 ⟨y7, rfl, e1, hall⟩
    rw [hx.length, List.take_length] at hall
    have q' := q H1 e1
    rw [hall] at q'
    exact q'
abbrev nSo : List Str := ["_law_sentence", "_law_number", "_law_row", "_law_sets", "_law_line", "_law_places", "_law_pairs", "_law_pair", "_law_k"]
theorem scSo : FnScope nSo aSo (defScope sSo) := ⟨rfl, rfl, rfl, by decide +kernel, rfl, by decide +kernel, by decide +kernel⟩
/-- the pairs of neighbours, made in a comprehension over a cut list -/
theorem s_next0 {σ : L2.St} {H : Hp} {lp : Addr} {n : Nat} {Q : VK} (hn : n ≤ 100) (hσ : σ[5]? = some (some (.ref lp))) (h8 : σ.length = 9) (hlp : H lp = some (.lst ((List.range n).map nI)))
    (k : ∀ l xs H', Same H H' → H' l = some (.lst xs) → Paired (PairAt H') xs ((List.range (n - 1)).map fun k => (k, k + 1)) → Q (.ref l) H') :
    tLc (iList K (tSl (rSlL K) (tVar 5) tNoPart (tPart (tUn (rU fun i => .int (-i)) (tC (.int 1)))))) (gName 8) tYes (tTup (tCons (tVar 8) (tCons (tOp (rI0 fun i j => .int (i + j)) (tVar 8) (tC (.int 1))) tNil))) [8] σ H Q := by
  refine ⟨_, hσ, 1, rfl, _, rfl, lp, _, rfl, SqL.of hlp, fun c hc => ?_⟩
  have ecut : cutV ((List.range n).map nI) none (some (-1)) = (List.range (n - 1)).map nI := by
    rw [cut_but, List.length_map, List.length_range, ← List.map_take, List.take_range, show min (n - 1) n = n - 1 by omega]
  rw [ecut]
  have s1 : Same H (upd H c (.lst ((List.range (n - 1)).map nI))) := same_new hc _
  refine ⟨c, rfl, ⟨_, SqL.of upd_same⟩, fun D hD => ?_⟩
  refine lc_list (K := K) (a := c) (xs := (List.range (n - 1)).map nI) (fun i H' => Same (upd H c (.lst ((List.range (n - 1)).map nI))) H' ∧ ∃ ys, H' D = some (.lst ys) ∧ Paired (PairAt H') ys ((List.range i).map fun k => (k, k + 1))) ⟨same_new hD _, [], upd_same, .nil⟩ (fun i H' _ q => SqL.of (q.1 _ _ upd_same)) ?_ ?_
  · rintro i x H1 hx ⟨e1, ys, g1, g2⟩
    have hi : i < n - 1 := by
      have := (List.getElem?_eq_some_iff.mp hx).1
      rw [List.length_map, List.length_range] at this
      exact this
    have ex : x = nI i := by
      rw [List.getElem?_map, List.getElem?_range hi] at hx
      exact (Option.some.inj hx).symm
    subst ex
    refine ⟨?_, tyes (iteT ?_)⟩
    · show ((σ.set 8 none).set 8 _).set 8 none = σ.set 8 none
      rw [List.set_set, List.set_set]
    have hv : ((wipe σ [8]).set 8 (some (nI i)))[8]? = some (some (nI i)) := by
      show ((σ.set 8 none).set 8 (some (nI i)))[8]? = _
      rw [List.getElem?_set_self (by rw [List.length_set]; omega)]
    refine ⟨_, hv, _, hv, _, _, rfl, rfl, small 2, fun u hu => ⟨ys, ?_, sz_lt ?_, ?_⟩⟩
    · rw [upd_ne (ne_of_none g1 hu)]
      exact g1
    · have := g2.length
      rw [List.length_map, List.length_range] at this
      omega
    · have s2 : Same H1 (upd H1 u (.tup [nI i, .int (((i : Nat) : Int) + 1)])) := same_new hu _
      have t := tps_put (s2 _ _ g1) (.lst (ys ++ [.ref u]))
      refine ⟨same_put (e1.trans s2) hD _, _, upd_same, ?_⟩
      rw [List.range_succ, List.map_append]
      exact paired_append (Paired.mapP g2 fun _ _ q => q.tps ((tps_of s2).trans t)) (.cons ⟨u, rfl, t _ _ upd_same⟩ .nil)
  · rintro H1 ⟨e1, ys, g1, g2⟩
    rw [List.length_map, List.length_range] at g2
    exact k D ys H1 (s1.trans e1) g1 g2
theorem s_next {σ : L2.St} {H : Hp} {lp : Addr} {n : Nat} {D : Ends} (hn : n ≤ 100) (hσ : σ[5]? = some (some (.ref lp))) (h8 : σ.length = 9) (hlp : H lp = some (.lst ((List.range n).map nI)))
    (k : ∀ l xs H', Same H H' → H' l = some (.lst xs) → Paired (PairAt H') xs ((List.range (n - 1)).map fun k => (k, k + 1)) → D.nx (σ.set 6 (some (.ref l))) H') :
    tAsg (tLc (iList K (tSl (rSlL K) (tVar 5) tNoPart (tPart (tUn (rU fun i => .int (-i)) (tC (.int 1)))))) (gName 8) tYes (tTup (tCons (tVar 8) (tCons (tOp (rI0 fun i j => .int (i + j)) (tVar 8) (tC (.int 1))) tNil))) [8]) (gName 6) D σ H :=
  s_next0 (Q := fun v H' => D.nx (σ.set 6 (some v)) H') hn hσ h8 hlp k
theorem pairs_in {row : List Pl} (hc : Closes row) : ∀ x ∈ pairsOf row, x.1 < row.length ∧ x.2 < row.length := by
  rintro ⟨c, r⟩ hx
  obtain ⟨b, v, a, s, h1, h2⟩ := (pair_iff ⟨0, 0, 0, 0, [], [], [], []⟩ hc).mp hx
  have hr : r < row.length := (List.getElem?_eq_some_iff.mp h1).1
  obtain ⟨h3, _⟩ := opened ⟨0, 0, 0, 0, [], [], [], []⟩ hc r (by omega) c v a (by rw [h2]; exact List.mem_cons_self)
  exact ⟨by show c < row.length; omega, hr⟩
theorem c_so {z n : Nat} (hz : 60 ≤ z) (hn : n ≤ 60) (T : Glob K mg) (y : Called P w K mg base z "_law_so" aSo (spSo n)) (ys : Called P w K mg base z "_law_some_set" aSo (spSomeSet n)) (yt : Called P w K mg base 60 "_law_true" aTrue (spTrue 60)) (yp : Called P w K mg base 1 "_law_pairs_of" ["_law_row"] spPairs) (h : Here K mg "_law_so" sSo) : Called P w K mg base (z + 1) "_law_so" aSo (spSo (n + 1)) := by
  obtain ⟨f, fd, F, m⟩ := h
  obtain ⟨fy, fyd, Gy, my, ky, by_⟩ := y
  obtain ⟨fs, fsd, Gs, ms, ks, bs⟩ := ys
  obtain ⟨ft, ftd, Gt, mt, kt, bt⟩ := yt
  obtain ⟨fp, fpd, Gp, mp, kp, bp⟩ := yp
  refine ⟨f, fd, F.ok scSo (fun vs H Q E h => ?_) (fun cdv A outer s H vs Q E hr h => ?_), m, F.kp, F.binds fun _ _ _ _ _ _ us hl => match us, hl with | [_, _, _, _], _ => rfl⟩
  · obtain ⟨L, num, rw, st, ls, row, S, p, rfl, _⟩ := h; rfl
  · obtain ⟨L, num, rw, st, ls, row, S, p, rfl, C, hS, hbe, hp, hd0, hd, q⟩ := h
    have hrt := hr.mono hz
    have hrp := hr.mono (show 1 ≤ z by omega)
    refine ⟨_, pss_cons (ps_set (i := 4) scSo.nd rfl (Or.inr rfl) (pe_ix (r := rIxT K) ix_tup (pv 0) (pv 1) (fun _ _ => rfl)))
      (pss_cons (ps_set (i := 5) scSo.nd rfl (Or.inl rfl) (pe_listRg rfl rfl T.lst (prg_1 rfl T.rng (pe_callB (r := rLenS K) cr_len rfl T.len PySem.boot_len (pa_cons (pv 2) pa_nil)))))
      (pss_cons (ps_if (pt_cmpR op_eq (pe_ix (r := rIxT K) ix_tup (pv 4) pe_int (fun _ _ => rfl)) pe_str (nomark _))
        (pss_one (ps_ret (pe_cmpR op_eq (pe_callB (r := rLenS K) cr_len rfl T.len PySem.boot_len (pa_cons (pv 2) pa_nil)) pe_int (nomark _)))) pss_nil)
      (pss_cons (ps_if (pt_cmpR op_eq (pe_ix (r := rIxT K) ix_tup (pv 4) pe_int (fun _ _ => rfl)) pe_str (nomark _))
        (pss_one (ps_ret (pe_not (pe_call Gy hr rfl my ky by_ .nil pass0 (pa_cons (pv 0) (pa_cons (pe_ix (r := rIxT K) ix_tup (pv 4) pe_int (fun _ _ => rfl)) (pa_cons (pv 2) (pa_cons (pv 3) pa_nil)))))))) pss_nil)
      (pss_cons (ps_if (pt_cmpR op_eq (pe_ix (r := rIxT K) ix_tup (pv 4) pe_int (fun _ _ => rfl)) pe_str (nomark _))
        (pss_one (ps_ret (pe_and (pe_call Gy hr rfl my ky by_ .nil pass0 (pa_cons (pv 0) (pa_cons (pe_ix (r := rIxT K) ix_tup (pv 4) pe_int (fun _ _ => rfl)) (pa_cons (pv 2) (pa_cons (pv 3) pa_nil)))))
            (pe_one (pe_call Gy hr rfl my ky by_ .nil pass0 (pa_cons (pv 0) (pa_cons (pe_ix (r := rIxT K) ix_tup (pv 4) pe_int (fun _ _ => rfl)) (pa_cons (pv 2) (pa_cons (pv 3) pa_nil))))))))) pss_nil)
      (pss_cons (ps_if (pt_cmpR op_eq (pe_ix (r := rIxT K) ix_tup (pv 4) pe_int (fun _ _ => rfl)) pe_str (nomark _))
        (pss_one (ps_ret (pe_call Gs hr rfl ms ks bs .nil pass0 (pa_cons (pv 0) (pa_cons (pe_ix (r := rIxT K) ix_tup (pv 4) pe_int (fun _ _ => rfl)) (pa_cons (pv 2) (pa_cons (pv 3) pa_nil))))))) pss_nil)
      (pss_cons (ps_if (pt_cmpR op_eq (pe_ix (r := rIxT K) ix_tup (pv 4) pe_int (fun _ _ => rfl)) pe_str (nomark _))
        (pss_one (ps_ret (pe_callB (r := rAll K) (cr_all rfl) rfl T.all (by decide +kernel) (pa_cons (pe_lc (own := [("_law_k", 8)]) (g := gName 8) (tt := tYes) rfl scSo.nd (pi_list (pv 5)) (blkOk_by (N := nSo) (sc := defScope sSo) (by decide +kernel)) (fun _ _ _ _ _ => pg_name (i := 8) scSo.nd rfl (Or.inl rfl)) (fun _ _ _ _ _ => pts_nil)
          (fun _ _ _ _ _ => pe_call Gt hrt rfl mt kt bt .nil pass0 (pa_cons (pv 0) (pa_cons (pe_ix (r := rIxT K) ix_tup (pv 4) pe_int (fun _ _ => rfl)) (pa_cons (pv 2) (pa_cons (pv 3) (pa_cons (pv 8) pa_nil))))))) pa_nil)))) pss_nil)
      (pss_cons (ps_if (pt_cmpR op_eq (pe_ix (r := rIxT K) ix_tup (pv 4) pe_int (fun _ _ => rfl)) pe_str (nomark _))
        (pss_one (ps_ret (pe_callB (r := rAll K) (cr_all rfl) rfl T.all (by decide +kernel) (pa_cons (pe_lc (own := [("_law_k", 8)]) (g := gName 8) (tt := tYes) rfl scSo.nd (pi_list (pe_slice (r := rSlL K) sl_list (pv 5) po_none (po_some pe_int))) (blkOk_by (N := nSo) (sc := defScope sSo) (by decide +kernel)) (fun _ _ _ _ _ => pg_name (i := 8) scSo.nd rfl (Or.inl rfl)) (fun _ _ _ _ _ => pts_nil)
          (fun _ _ _ _ _ => pe_call Gt hrt rfl mt kt bt .nil pass0 (pa_cons (pv 0) (pa_cons (pe_ix (r := rIxT K) ix_tup (pv 4) pe_int (fun _ _ => rfl)) (pa_cons (pv 2) (pa_cons (pv 3) (pa_cons (pv 8) pa_nil))))))) pa_nil)))) pss_nil)
      (pss_cons (ps_if (pt_cmpR op_eq (pe_ix (r := rIxT K) ix_tup (pv 4) pe_int (fun _ _ => rfl)) pe_str (nomark _))
        (pss_one (ps_ret (pe_callB (r := rAll K) (cr_all rfl) rfl T.all (by decide +kernel) (pa_cons (pe_lc (own := [("_law_k", 8)]) (g := gName 8) (tt := tYes) rfl scSo.nd (pi_list (pe_slice (r := rSlL K) sl_list (pv 5) (po_some (pe_un un_neg pe_int)) po_none)) (blkOk_by (N := nSo) (sc := defScope sSo) (by decide +kernel)) (fun _ _ _ _ _ => pg_name (i := 8) scSo.nd rfl (Or.inl rfl)) (fun _ _ _ _ _ => pts_nil)
          (fun _ _ _ _ _ => pe_call Gt hrt rfl mt kt bt .nil pass0 (pa_cons (pv 0) (pa_cons (pe_ix (r := rIxT K) ix_tup (pv 4) pe_int (fun _ _ => rfl)) (pa_cons (pv 2) (pa_cons (pv 3) (pa_cons (pv 8) pa_nil))))))) pa_nil)))) pss_nil)
      (pss_cons (ps_setLc (i := 6) (own := [("_law_k", 8)]) (g := gName 8) (tt := tYes) rfl scSo.nd rfl rfl (sw_true rfl rfl rfl (by decide +kernel)) (pi_list (pe_slice (r := rSlL K) sl_list (pv 5) po_none (po_some (pe_un un_neg pe_int)))) (blkOk_by (N := nSo) (sc := defScope sSo) (by decide +kernel)) (fun _ _ _ _ _ => pg_name (i := 8) scSo.nd rfl (Or.inl rfl)) (fun _ _ _ _ _ => pts_nil)
          (fun _ _ _ _ _ => pe_tup (pa_cons (pv 8) (pa_cons (pe_op op_add (pv 8) pe_int) pa_nil))))
      (pss_cons (ps_if (pt_cmpR op_eq (pe_ix (r := rIxT K) ix_tup (pv 4) pe_int (fun _ _ => rfl)) pe_str (nomark _))
        (pss_one (ps_set (i := 6) scSo.nd rfl (Or.inl rfl) (pe_call Gp hrp rfl mp kp bp .nil pass0 (pa_cons (pv 2) pa_nil)))) pss_nil)
      (pss_cons (ps_for PassesOwn.never rfl (pi_list (pv 6)) (pg_name (i := 7) scSo.nd rfl (Or.inl rfl))
        (pss_one (ps_if (pt_val (pe_call Gt hrt rfl mt kt bt .nil pass0 (pa_cons (pv 0) (pa_cons (pe_ix (r := rIxT K) ix_tup (pv 4) pe_int (fun _ _ => rfl)) (pa_cons (pv 2) (pa_cons (pv 3) (pa_cons (pe_ix (r := rIxT K) ix_tup (pv 7) pe_int (fun _ _ => rfl)) pa_nil)))))))
          (pss_one (ps_if (pt_not (pt_val (pe_call Gt hrt rfl mt kt bt .nil pass0 (pa_cons (pv 0) (pa_cons (pe_ix (r := rIxT K) ix_tup (pv 4) pe_int (fun _ _ => rfl)) (pa_cons (pv 2) (pa_cons (pv 3) (pa_cons (pe_ix (r := rIxT K) ix_tup (pv 7) pe_int (fun _ _ => rfl)) pa_nil))))))))
            (pss_one (ps_ret pe_bl)) pss_nil)) pss_nil)))
      (pss_one (ps_ret pe_bl))))))))))))), ?_⟩
    have hrow := C.n
    have key : ∃ l, ls[num]? = some l := by
      cases p with
      | set v => exact ⟨_, hbe⟩
      | pl p => exact ⟨_, hbe⟩
      | nothing => exact ⟨_, hbe⟩
      | un o p => obtain ⟨j, h1, _⟩ := hbe; exact ⟨_, h1⟩
      | bin o p1 p2 => obtain ⟨j, k, h1, _⟩ := hbe; exact ⟨_, h1⟩
    obtain ⟨l, hl⟩ := key
    obtain ⟨vs, b, g1, g2, g3⟩ := lines_get C.li hl
    refine ⟨_, rfl, _, rfl, L, vs, _, _, rfl, rfl, SqT.of g1, atI_nat g2, ?_⟩
    refine go_name (st_is [some (.ref L), some (nI num), some (.ref rw), some (.ref st), some (.ref b), none, none, none, none] rfl ?_)
    refine ev_rowlen (K := K) C.ro (ev_var (σ := [some (.ref L), some (nI num), some (.ref rw), some (.ref st), some (.ref b), none, none, none, none]) (i := 2) rfl) H (Same.refl _) _ fun H1 e1 => ⟨_, rfl, RgOk.of_le (by decide) (by omega) (by decide) (by omega), fun lp hlp => ?_⟩
    rw [rg_nI]
    have s2 := e1.trans (same_new hlp (.lst ((List.range row.length).map nI)))
    have C2 := C.mono s2
    have hpl : upd H1 lp (.lst ((List.range row.length).map nI)) lp = some (.lst ((List.range row.length).map nI)) := upd_same
    have q2 : ∀ H', Same (upd H1 lp (.lst ((List.range row.length).map nI))) H' → Q (.bl (evalT row p S)) H' := fun H' e => q H' (s2.trans e)
    have g3 := s2 _ _ g3
    generalize upd H1 lp (.lst ((List.range row.length).map nI)) = H2 at *
    refine go_name (st_is [some (.ref L), some (nI num), some (.ref rw), some (.ref st), some (.ref b), some (.ref lp), none, none, none] rfl ?_)
    have lrange : (List.range row.length).length ≤ 100 := by rw [List.length_range]; omega
    have lin : ∀ k, k ∈ List.range row.length → k < row.length := fun k hk => List.mem_range.mp hk
    cases p with
    | set v => cases hp
    | pl p => cases hp
    | nothing =>
      have el : l = .nothing := Option.some.inj (hl.symm.trans hbe)
      subst el
      have h3 : H2 b = some (.tup [.str "nothing"]) := g3
      refine ⟨_, rfl, b, _, 0, _, rfl, rfl, SqT.of h3, atI_nat (j := 0) rfl, rfl, true, (by decide +kernel : V.bl (decide (V.str "nothing" = V.str "nothing")) = V.bl true), iteT ?_⟩
      refine ev_rowlen (K := K) C2.ro (ev_var rfl) H2 (Same.refl _) _ fun H3 e3 => ⟨rfl, ?_⟩
      have e : evalT row .nothing S = decide (V.int (row.length : Nat) = V.int 0) := by
        show decide (row.length = 0) = _
        by_cases z : row.length = 0
        · rw [decide_eq_true z, z]
          rfl
        · rw [decide_eq_false z, decide_eq_false]
          intro y
          have := V.int.inj y
          omega
      have q' := q2 H3 e3
      rw [e] at q'
      exact q'
    | un o p =>
      obtain ⟨j, hbe, hbj⟩ := hbe
      have el : l = .un o j := Option.some.inj (hl.symm.trans hbe)
      subst el
      have dl := dep_un o p
      cases o with
      | not => cases hp
      | denied =>
        have h3 : H2 b = some (.tup [.str "denied", nI j]) := g3
        refine ⟨_, rfl, b, _, 0, _, rfl, rfl, SqT.of h3, atI_nat (j := 0) rfl, rfl, false, (by decide +kernel : V.bl (decide (V.str "denied" = V.str "nothing")) = V.bl false), iteF ?_⟩
        refine ⟨_, rfl, b, _, 0, _, rfl, rfl, SqT.of h3, atI_nat (j := 0) rfl, rfl, true, (by decide +kernel : V.bl (decide (V.str "denied" = V.str "denied")) = V.bl true), iteT ?_⟩
        exact s_ret (ev_notV (ev_so C2 hS hbj hp (by omega) (by omega) (ev_var rfl) (ev_item (K := K) (j := 1) h3 (ev_var rfl) rfl rfl) (ev_var rfl) (ev_var rfl))) fun H3 e3 => q2 H3 e3
      | there =>
        have dt := dep_there p
        have h3 : H2 b = some (.tup [.str "there", nI j]) := g3
        refine ⟨_, rfl, b, _, 0, _, rfl, rfl, SqT.of h3, atI_nat (j := 0) rfl, rfl, false, (by decide +kernel : V.bl (decide (V.str "there" = V.str "nothing")) = V.bl false), iteF ?_⟩
        refine ⟨_, rfl, b, _, 0, _, rfl, rfl, SqT.of h3, atI_nat (j := 0) rfl, rfl, false, (by decide +kernel : V.bl (decide (V.str "there" = V.str "denied")) = V.bl false), iteF ?_⟩
        refine ⟨_, rfl, b, _, 0, _, rfl, rfl, SqT.of h3, atI_nat (j := 0) rfl, rfl, false, (by decide +kernel : V.bl (decide (V.str "there" = V.str "both")) = V.bl false), iteF ?_⟩
        refine ⟨_, rfl, b, _, 0, _, rfl, rfl, SqT.of h3, atI_nat (j := 0) rfl, rfl, true, (by decide +kernel : V.bl (decide (V.str "there" = V.str "there")) = V.bl true), iteT ?_⟩
        exact s_ret (ev_some_set C2 hbj hp (by omega) (by omega) (ev_var rfl) (ev_item (K := K) (j := 1) h3 (ev_var rfl) rfl rfl) (ev_var rfl) (ev_var rfl)) fun H3 e3 => q2 H3 e3
      | all =>
        have h3 : H2 b = some (.tup [.str "all", nI j]) := g3
        refine ⟨_, rfl, b, _, 0, _, rfl, rfl, SqT.of h3, atI_nat (j := 0) rfl, rfl, false, (by decide +kernel : V.bl (decide (V.str "all" = V.str "nothing")) = V.bl false), iteF ?_⟩
        refine ⟨_, rfl, b, _, 0, _, rfl, rfl, SqT.of h3, atI_nat (j := 0) rfl, rfl, false, (by decide +kernel : V.bl (decide (V.str "all" = V.str "denied")) = V.bl false), iteF ?_⟩
        refine ⟨_, rfl, b, _, 0, _, rfl, rfl, SqT.of h3, atI_nat (j := 0) rfl, rfl, false, (by decide +kernel : V.bl (decide (V.str "all" = V.str "both")) = V.bl false), iteF ?_⟩
        refine ⟨_, rfl, b, _, 0, _, rfl, rfl, SqT.of h3, atI_nat (j := 0) rfl, rfl, false, (by decide +kernel : V.bl (decide (V.str "all" = V.str "there")) = V.bl false), iteF ?_⟩
        refine ⟨_, rfl, b, _, 0, _, rfl, rfl, SqT.of h3, atI_nat (j := 0) rfl, rfl, true, (by decide +kernel : V.bl (decide (V.str "all" = V.str "all")) = V.bl true), iteT ?_⟩
        refine s_ret (ev_all (el_tests (K := K) (ks := List.range row.length) (fun k => evalP row S k p) lrange (ev_var rfl) (SqL.of hpl) fun k H3 e3 hk => ev_true (C2.mono e3) hbj hp (by omega) (lin k hk) (ev_var rfl) (ev_item (K := K) (j := 1) (e3 _ _ h3) (ev_var rfl) rfl rfl) (ev_var rfl) (ev_var rfl) (ev_var rfl))) fun H3 e3 => ?_
        have q' := q2 H3 e3
        have e : evalT row (.un .all p) S = ((List.range row.length).map fun k => evalP row S k p).all id := by
          rw [List.all_map]
          rfl
        rw [e] at q'
        exact q'
      | first =>
        have h3 : H2 b = some (.tup [.str "first", nI j]) := g3
        refine ⟨_, rfl, b, _, 0, _, rfl, rfl, SqT.of h3, atI_nat (j := 0) rfl, rfl, false, (by decide +kernel : V.bl (decide (V.str "first" = V.str "nothing")) = V.bl false), iteF ?_⟩
        refine ⟨_, rfl, b, _, 0, _, rfl, rfl, SqT.of h3, atI_nat (j := 0) rfl, rfl, false, (by decide +kernel : V.bl (decide (V.str "first" = V.str "denied")) = V.bl false), iteF ?_⟩
        refine ⟨_, rfl, b, _, 0, _, rfl, rfl, SqT.of h3, atI_nat (j := 0) rfl, rfl, false, (by decide +kernel : V.bl (decide (V.str "first" = V.str "both")) = V.bl false), iteF ?_⟩
        refine ⟨_, rfl, b, _, 0, _, rfl, rfl, SqT.of h3, atI_nat (j := 0) rfl, rfl, false, (by decide +kernel : V.bl (decide (V.str "first" = V.str "there")) = V.bl false), iteF ?_⟩
        refine ⟨_, rfl, b, _, 0, _, rfl, rfl, SqT.of h3, atI_nat (j := 0) rfl, rfl, false, (by decide +kernel : V.bl (decide (V.str "first" = V.str "all")) = V.bl false), iteF ?_⟩
        refine ⟨_, rfl, b, _, 0, _, rfl, rfl, SqT.of h3, atI_nat (j := 0) rfl, rfl, true, (by decide +kernel : V.bl (decide (V.str "first" = V.str "first")) = V.bl true), iteT ?_⟩
        have hcut : EvL (tSl (rSlL K) (tVar 5) tNoPart (tPart (tC (.int 1)))) [some (.ref L), some (nI num), some (.ref rw), some (.ref st), some (.ref b), some (.ref lp), none, none, none] H2 (((List.range row.length).take 1).map nI) := fun H3 e3 Q3 q3 =>
          ⟨_, rfl, 1, rfl, lp, _, rfl, SqL.of (e3 _ _ hpl), fun c hc => q3 c _ hc (same_new hc _) (by rw [upd_same, cut_first, List.map_take])⟩
        refine s_ret (ev_all (el_testsN (K := K) (ks := (List.range row.length).take 1) (fun k => evalP row S k p) (by rw [List.length_take]; omega) hcut fun k H3 e3 hk => ev_true (C2.mono e3) hbj hp (by omega) (lin k (List.mem_of_mem_take hk)) (ev_var rfl) (ev_item (K := K) (j := 1) (e3 _ _ h3) (ev_var rfl) rfl rfl) (ev_var rfl) (ev_var rfl) (ev_var rfl))) fun H3 e3 => ?_
        have q' := q2 H3 e3
        have e : evalT row (.un .first p) S = (((List.range row.length).take 1).map fun k => evalP row S k p).all id := by
          rw [List.all_map]
          rfl
        rw [e] at q'
        exact q'
      | last =>
        have h3 : H2 b = some (.tup [.str "last", nI j]) := g3
        refine ⟨_, rfl, b, _, 0, _, rfl, rfl, SqT.of h3, atI_nat (j := 0) rfl, rfl, false, (by decide +kernel : V.bl (decide (V.str "last" = V.str "nothing")) = V.bl false), iteF ?_⟩
        refine ⟨_, rfl, b, _, 0, _, rfl, rfl, SqT.of h3, atI_nat (j := 0) rfl, rfl, false, (by decide +kernel : V.bl (decide (V.str "last" = V.str "denied")) = V.bl false), iteF ?_⟩
        refine ⟨_, rfl, b, _, 0, _, rfl, rfl, SqT.of h3, atI_nat (j := 0) rfl, rfl, false, (by decide +kernel : V.bl (decide (V.str "last" = V.str "both")) = V.bl false), iteF ?_⟩
        refine ⟨_, rfl, b, _, 0, _, rfl, rfl, SqT.of h3, atI_nat (j := 0) rfl, rfl, false, (by decide +kernel : V.bl (decide (V.str "last" = V.str "there")) = V.bl false), iteF ?_⟩
        refine ⟨_, rfl, b, _, 0, _, rfl, rfl, SqT.of h3, atI_nat (j := 0) rfl, rfl, false, (by decide +kernel : V.bl (decide (V.str "last" = V.str "all")) = V.bl false), iteF ?_⟩
        refine ⟨_, rfl, b, _, 0, _, rfl, rfl, SqT.of h3, atI_nat (j := 0) rfl, rfl, false, (by decide +kernel : V.bl (decide (V.str "last" = V.str "first")) = V.bl false), iteF ?_⟩
        refine ⟨_, rfl, b, _, 0, _, rfl, rfl, SqT.of h3, atI_nat (j := 0) rfl, rfl, true, (by decide +kernel : V.bl (decide (V.str "last" = V.str "last")) = V.bl true), iteT ?_⟩
        have hcut : EvL (tSl (rSlL K) (tVar 5) (tPart (tUn (rU fun i => .int (-i)) (tC (.int 1)))) tNoPart) [some (.ref L), some (nI num), some (.ref rw), some (.ref st), some (.ref b), some (.ref lp), none, none, none] H2 (((List.range row.length).drop (row.length - 1)).map nI) := fun H3 e3 Q3 q3 =>
          ⟨_, rfl, 1, rfl, _, rfl, lp, _, rfl, SqL.of (e3 _ _ hpl), fun c hc => q3 c _ hc (same_new hc _) (by
            have ec := cut_last ((List.range row.length).map nI)
            rw [List.length_map, List.length_range] at ec
            show (upd H3 c (.lst (cutV ((List.range row.length).map nI) (some (-1)) none))) c = _
            rw [upd_same, ec, List.map_drop])⟩
        refine s_ret (ev_all (el_testsN (K := K) (ks := (List.range row.length).drop (row.length - 1)) (fun k => evalP row S k p) (by rw [List.length_drop]; omega) hcut fun k H3 e3 hk => ev_true (C2.mono e3) hbj hp (by omega) (lin k (List.mem_of_mem_drop hk)) (ev_var rfl) (ev_item (K := K) (j := 1) (e3 _ _ h3) (ev_var rfl) rfl rfl) (ev_var rfl) (ev_var rfl) (ev_var rfl))) fun H3 e3 => ?_
        have q' := q2 H3 e3
        have e : evalT row (.un .last p) S = (((List.range row.length).drop (row.length - 1)).map fun k => evalP row S k p).all id := by
          rw [List.all_map]
          rfl
        rw [e] at q'
        exact q'
    | bin o p1 p2 =>
      obtain ⟨j1, j2, hbe, hb1, hb2⟩ := hbe
      have el : l = .bin o j1 j2 := Option.some.inj (hl.symm.trans hbe)
      subst el
      have dl := dep_binl o p1 p2
      have dr := dep_binr o p1 p2
      cases o with
      | and => cases hp
      | both =>
        have h3 : H2 b = some (.tup [.str "both", nI j1, nI j2]) := g3
        have hp : (isT p1 && isT p2) = true := hp
        rw [Bool.and_eq_true] at hp
        refine ⟨_, rfl, b, _, 0, _, rfl, rfl, SqT.of h3, atI_nat (j := 0) rfl, rfl, false, (by decide +kernel : V.bl (decide (V.str "both" = V.str "nothing")) = V.bl false), iteF ?_⟩
        refine ⟨_, rfl, b, _, 0, _, rfl, rfl, SqT.of h3, atI_nat (j := 0) rfl, rfl, false, (by decide +kernel : V.bl (decide (V.str "both" = V.str "denied")) = V.bl false), iteF ?_⟩
        refine ⟨_, rfl, b, _, 0, _, rfl, rfl, SqT.of h3, atI_nat (j := 0) rfl, rfl, true, (by decide +kernel : V.bl (decide (V.str "both" = V.str "both")) = V.bl true), iteT ?_⟩
        exact s_ret (ev_andV (ev_so C2 hS hb1 hp.1 (by omega) (by omega) (ev_var rfl) (ev_item (K := K) (j := 1) h3 (ev_var rfl) rfl rfl) (ev_var rfl) (ev_var rfl)) fun _ => ev_so C2 hS hb2 hp.2 (by omega) (by omega) (ev_var rfl) (ev_item (K := K) (j := 2) h3 (ev_var rfl) rfl rfl) (ev_var rfl) (ev_var rfl)) fun H3 e3 => q2 H3 e3
      | next =>
        have h3 : H2 b = some (.tup [.str "next", nI j1, nI j2]) := g3
        have hp : (isP p1 && isP p2) = true := hp
        rw [Bool.and_eq_true] at hp
        refine ⟨_, rfl, b, _, 0, _, rfl, rfl, SqT.of h3, atI_nat (j := 0) rfl, rfl, false, (by decide +kernel : V.bl (decide (V.str "next" = V.str "nothing")) = V.bl false), iteF ?_⟩
        refine ⟨_, rfl, b, _, 0, _, rfl, rfl, SqT.of h3, atI_nat (j := 0) rfl, rfl, false, (by decide +kernel : V.bl (decide (V.str "next" = V.str "denied")) = V.bl false), iteF ?_⟩
        refine ⟨_, rfl, b, _, 0, _, rfl, rfl, SqT.of h3, atI_nat (j := 0) rfl, rfl, false, (by decide +kernel : V.bl (decide (V.str "next" = V.str "both")) = V.bl false), iteF ?_⟩
        refine ⟨_, rfl, b, _, 0, _, rfl, rfl, SqT.of h3, atI_nat (j := 0) rfl, rfl, false, (by decide +kernel : V.bl (decide (V.str "next" = V.str "there")) = V.bl false), iteF ?_⟩
        refine ⟨_, rfl, b, _, 0, _, rfl, rfl, SqT.of h3, atI_nat (j := 0) rfl, rfl, false, (by decide +kernel : V.bl (decide (V.str "next" = V.str "all")) = V.bl false), iteF ?_⟩
        refine ⟨_, rfl, b, _, 0, _, rfl, rfl, SqT.of h3, atI_nat (j := 0) rfl, rfl, false, (by decide +kernel : V.bl (decide (V.str "next" = V.str "first")) = V.bl false), iteF ?_⟩
        refine ⟨_, rfl, b, _, 0, _, rfl, rfl, SqT.of h3, atI_nat (j := 0) rfl, rfl, false, (by decide +kernel : V.bl (decide (V.str "next" = V.str "last")) = V.bl false), iteF ?_⟩
        refine s_next (K := K) (σ := [some (.ref L), some (nI num), some (.ref rw), some (.ref st), some (.ref b), some (.ref lp), none, none, none]) (n := row.length) (by omega) rfl rfl hpl fun lq xs H3 e3 hlq hxs => ?_
        refine st_is [some (.ref L), some (nI num), some (.ref rw), some (.ref st), some (.ref b), some (.ref lp), some (.ref lq), none, none] rfl ?_
        refine ⟨_, rfl, b, _, 0, _, rfl, rfl, SqT.of (e3 _ _ h3), atI_nat (j := 0) rfl, rfl, false, (by decide +kernel : V.bl (decide (V.str "next" = V.str "arch")) = V.bl false), iteF ?_⟩
        refine s_pairs (K := K) (C2.mono e3) (e3 _ _ h3) hb1 hb2 hp.1 hp.2 (by omega) (by omega) hlq hxs (fun x hx => ?_) fun H4 e4 => ?_
        · obtain ⟨k, hk, rfl⟩ := List.mem_map.mp hx
          have := List.mem_range.mp hk
          exact ⟨by show k < _; omega, by show k + 1 < _; omega⟩
        · have q' := q2 H4 (e3.trans e4)
          have e : evalT row (.bin .next p1 p2) S = (((List.range (row.length - 1)).map fun k => (k, k + 1)).all fun x => !evalP row S x.1 p1 || evalP row S x.2 p2) := by
            rw [List.all_map]
            rfl
          rw [e] at q'
          exact q'
      | arch =>
        have h3 : H2 b = some (.tup [.str "arch", nI j1, nI j2]) := g3
        have hp : (isP p1 && isP p2) = true := hp
        rw [Bool.and_eq_true] at hp
        refine ⟨_, rfl, b, _, 0, _, rfl, rfl, SqT.of h3, atI_nat (j := 0) rfl, rfl, false, (by decide +kernel : V.bl (decide (V.str "arch" = V.str "nothing")) = V.bl false), iteF ?_⟩
        refine ⟨_, rfl, b, _, 0, _, rfl, rfl, SqT.of h3, atI_nat (j := 0) rfl, rfl, false, (by decide +kernel : V.bl (decide (V.str "arch" = V.str "denied")) = V.bl false), iteF ?_⟩
        refine ⟨_, rfl, b, _, 0, _, rfl, rfl, SqT.of h3, atI_nat (j := 0) rfl, rfl, false, (by decide +kernel : V.bl (decide (V.str "arch" = V.str "both")) = V.bl false), iteF ?_⟩
        refine ⟨_, rfl, b, _, 0, _, rfl, rfl, SqT.of h3, atI_nat (j := 0) rfl, rfl, false, (by decide +kernel : V.bl (decide (V.str "arch" = V.str "there")) = V.bl false), iteF ?_⟩
        refine ⟨_, rfl, b, _, 0, _, rfl, rfl, SqT.of h3, atI_nat (j := 0) rfl, rfl, false, (by decide +kernel : V.bl (decide (V.str "arch" = V.str "all")) = V.bl false), iteF ?_⟩
        refine ⟨_, rfl, b, _, 0, _, rfl, rfl, SqT.of h3, atI_nat (j := 0) rfl, rfl, false, (by decide +kernel : V.bl (decide (V.str "arch" = V.str "first")) = V.bl false), iteF ?_⟩
        refine ⟨_, rfl, b, _, 0, _, rfl, rfl, SqT.of h3, atI_nat (j := 0) rfl, rfl, false, (by decide +kernel : V.bl (decide (V.str "arch" = V.str "last")) = V.bl false), iteF ?_⟩
        refine s_next (K := K) (σ := [some (.ref L), some (nI num), some (.ref rw), some (.ref st), some (.ref b), some (.ref lp), none, none, none]) (n := row.length) (by omega) rfl rfl hpl fun lq xs H3 e3 hlq hxs => ?_
        refine st_is [some (.ref L), some (nI num), some (.ref rw), some (.ref st), some (.ref b), some (.ref lp), some (.ref lq), none, none] rfl ?_
        refine ⟨_, rfl, b, _, 0, _, rfl, rfl, SqT.of (e3 _ _ h3), atI_nat (j := 0) rfl, rfl, true, (by decide +kernel : V.bl (decide (V.str "arch" = V.str "arch")) = V.bl true), iteT ?_⟩
        refine ⟨_, rfl, rw, row, rfl, C2.ro.mono e3, by omega, C.c, fun lr ys H4 e4 hlr hys => ?_⟩
        refine go_name (st_is [some (.ref L), some (nI num), some (.ref rw), some (.ref st), some (.ref b), some (.ref lp), some (.ref lr), none, none] rfl ?_)
        have e34 := e3.trans e4
        exact s_pairs (K := K) (C2.mono e34) (e34 _ _ h3) hb1 hb2 hp.1 hp.2 (by omega) (by omega) hlr hys (pairs_in C.c) fun H5 e5 => q2 H5 (e34.trans e5)
theorem both (T : Glob K mg) (yt : Called P w K mg base 60 "_law_true" aTrue (spTrue 60)) (yp : Called P w K mg base 1 "_law_pairs_of" ["_law_row"] spPairs) (h1 : Here K mg "_law_so" sSo) (h2 : Here K mg "_law_some_set" sSomeSet) :
    ∀ m : Nat, m ≤ 60 → Called P w K mg base (62 + m) "_law_so" aSo (spSo m) ∧ Called P w K mg base (62 + m) "_law_some_set" aSo (spSomeSet m)
  | 0, _ => by
    refine ⟨?_, ?_⟩
    · obtain ⟨f, fd, F, m⟩ := h1
      have no : ∀ vs H Q E, ¬ spSo 0 vs H Q E := fun vs H Q E h => by
        obtain ⟨L, num, rw, st, ls, row, S, p, _, _, _, _, _, _, h1, _⟩ := h
        have := dep_pos p
        omega
      exact ⟨f, fd, ⟨fun vs H Q E h => absurd h (no vs H Q E), fun A outer s H args us vs Q E _ _ _ _ h => absurd h (no vs H Q E)⟩, m, F.kp, F.binds fun _ _ _ _ _ _ us hl => match us, hl with | [_, _, _, _], _ => rfl⟩
    · obtain ⟨f, fd, F, m⟩ := h2
      have no : ∀ vs H Q E, ¬ spSomeSet 0 vs H Q E := fun vs H Q E h => by
        obtain ⟨L, num, rw, st, ls, row, S, p, _, _, _, _, _, h1, _⟩ := h
        omega
      exact ⟨f, fd, ⟨fun vs H Q E h => absurd h (no vs H Q E), fun A outer s H args us vs Q E _ _ _ _ h => absurd h (no vs H Q E)⟩, m, F.kp, F.binds fun _ _ _ _ _ _ us hl => match us, hl with | [_, _, _, _], _ => rfl⟩
  | n + 1, hn => by
    obtain ⟨ih1, ih2⟩ := both T yt yp h1 h2 n (by omega)
    exact ⟨c_so (z := 62 + n) (by omega) (by omega) T ih1 ih2 yt yp h1, c_some_set (z := 62 + n) T ih1 h2⟩
end
end K46

/-! _law_draw, _law_product, _law_text. -/
namespace K46
open PySem L2 Evl
/-- the state of the draws -/
def StAt (H : Hp) (a c : Addr) : Prop := ∃ (s0 pos s3 : Int) (ns : List Int), H a = some (.lst [.int s0, .int pos, .ref c, .int s3]) ∧ c ≠ a ∧ 0 ≤ pos ∧ H c = some (.lst (ns.map V.int))
/-- all but what stands at a is as it was -/
def Off (a : Addr) (H H' : Hp) : Prop := ∀ b o, b ≠ a → H b = some o → H' b = some o
theorem Off.refl (a : Addr) (H : Hp) : Off a H H := fun _ _ _ h => h
theorem Off.trans {a : Addr} {H H1 H2 : Hp} (x : Off a H H1) (y : Off a H1 H2) : Off a H H2 := fun b o n h => y b o n (x b o n h)
theorem off_of {a : Addr} {H H' : Hp} (e : Same H H') : Off a H H' := fun b o _ h => e b o h
theorem off_put {a : Addr} {H : Hp} (o : HO) : Off a H (upd H a o) := fun b u n h => by
  rw [upd_ne n]
  exact h
theorem off_tps {a : Addr} {H H' : Hp} (x : Off a H H') {ys : List V} (ha : H a = some (.lst ys)) : Tps H H' := fun b xs h => x b _ (ne_of h ha (fun z => nomatch z)) h
theorem StAt.tps {a c : Addr} {H H' : Hp} (s : StAt H a c) (x : Off a H H') : Tps H H' := by
  obtain ⟨s0, pos, s3, ns, h, _⟩ := s
  exact off_tps x h
theorem StAt.ne {a c b : Addr} {H : Hp} (s : StAt H a c) (h : H b = none) : b ≠ a ∧ b ≠ c := by
  obtain ⟨s0, pos, s3, ns, h1, _, _, h2⟩ := s
  exact ⟨(ne_of_none h1 h).symm, (ne_of_none h2 h).symm⟩
theorem StAt.mono {a c : Addr} {H H' : Hp} (s : StAt H a c) (e : Same H H') : StAt H' a c := by
  obtain ⟨s0, pos, s3, ns, h1, h2, h3, h4⟩ := s
  exact ⟨s0, pos, s3, ns, e _ _ h1, h2, h3, e _ _ h4⟩
/-- another place is written -/
theorem StAt.put {a c b : Addr} {H : Hp} (s : StAt H a c) (hb : b ≠ a) (hn : b ≠ c) (o : HO) : StAt (upd H b o) a c := by
  obtain ⟨s0, pos, s3, ns, h1, h2, h3, h4⟩ := s
  exact ⟨s0, pos, s3, ns, by rw [upd_ne hb.symm]; exact h1, h2, h3, by rw [upd_ne hn.symm]; exact h4⟩
section
variable {P : Program} {w : World} {K : PySem.W.Frag} {mg : Str → Option Value} {base : Heap}
theorem s_const {i : Nat} {v : V} {D : Ends} {σ : L2.St} {H : Hp} (h : D.nx (σ.set i (some v)) H) : tAsg (tC v) (gName i) D σ H := h
theorem seq_is {t u : TS} {D : Ends} {σ : L2.St} {H : Hp} (h : t { D with nx := u D } σ H) : tSeq t u D σ H := h
theorem nx_is {D : Ends} {σ : L2.St} {H : Hp} (h : D.nx σ H) : D.nx σ H := h
/-! ### _law_draw -/
def spDraw : Sp := fun vs H Q _ => ∃ (a c : Addr) (n : Int), vs = [.ref a, .int n] ∧ StAt H a c ∧ 0 < n ∧ n < 1000000 ∧ ∀ (d : Nat) H', (d : Int) < n → Off a H H' → StAt H' a c → Q (nI d) H'
abbrev nDraw : List Str := ["_law_state", "_law_limit", "_law_position", "_law_cell", "_law_mixed", "_law_digit"]
theorem scDraw : FnScope nDraw ["_law_state", "_law_limit"] (defScope sDraw) := ⟨rfl, rfl, rfl, by decide +kernel, rfl, by decide +kernel, by decide +kernel⟩
theorem rInt_of {i : Int} {H : Hp} {Q : VK} (h : Q (.int i) H) : (∃ j, [V.int i] = [V.int j] ∧ Q (.int j) H) ∨ ∃ k, [V.int i] = [V.bl k] ∧ Q (.int (if k then 1 else 0)) H := .inl ⟨i, rfl, h⟩
def rInt : List V → Hp → VK → Prop := fun xs H Q => (∃ i, xs = [.int i] ∧ Q (.int i) H) ∨ ∃ k, xs = [.bl k] ∧ Q (.int (if k then 1 else 0)) H
theorem cr_int0 {X : Cx} : CallR X (.type "int") rInt := call_int1
theorem c_draw (T : Glob K mg) (h : Here K mg "_law_draw" sDraw) : Called P w K mg base 1 "_law_draw" ["_law_state", "_law_limit"] spDraw := by
  obtain ⟨f, fd, F, m⟩ := h
  refine ⟨f, fd, F.ok scDraw (fun vs H Q E h => ?_) (fun cdv A outer s H vs Q E hr h => ?_), m, F.kp, F.binds fun _ _ _ _ _ _ us hl => match us, hl with | [_, _], _ => rfl⟩
  · obtain ⟨a, c, n, rfl, _⟩ := h; rfl
  · obtain ⟨a, c, n, rfl, ⟨s0, pos, s3, ns, ha, hca, hpos, hc⟩, hn0, hn1, q⟩ := h
    refine ⟨_, pss_cut (ps_if (pt_cmpR op_lt (pe_ix (r := rIxL K) ix_list (pv 0) pe_int (fun _ _ => rfl)) (pv 1) (nomark _))
        (pss_cons (ps_set (i := 2) scDraw.nd rfl (Or.inl rfl) (pe_ix (r := rIxL K) ix_list (pv 0) pe_int (fun _ _ => rfl)))
        (pss_cons (ps_asg (pe_op op_add (pv 2) pe_int) (pg_sub (pv 0) pe_int set_list))
        (pss_cons (ps_set (i := 3) scDraw.nd rfl (Or.inl rfl) pe_int)
        (pss_cut (ps_if (pt_cmpR op_lt (pv 2) (pe_callB (r := rLenS K) cr_len rfl T.len PySem.boot_len (pa_cons (pe_ix (r := rIxL K) ix_list (pv 0) pe_int (fun _ _ => rfl)) pa_nil)) (nomark _))
          (pss_one (ps_set (i := 3) scDraw.nd rfl (Or.inl rfl) (pe_ix (r := rIxL K) ix_list (pe_ix (r := rIxL K) ix_list (pv 0) pe_int (fun _ _ => rfl)) (pv 2) (fun _ _ => rfl)))) pss_nil)
        (pss_one (ps_if (pt_cmpR op_ge (pv 3) (pe_op op_pow pe_int pe_int) (nomark _))
          (pss_one (ps_asg (pv 3) (pg_sub (pv 0) pe_int set_list)))
          (pss_cons (ps_asg (pe_op op_mod (pe_callTy (r := rInt) cr_int0 rfl T.int (by decide +kernel) (pa_cons (pe_op op_mul (pe_op op_add (pe_op op_add (pe_op op_add (pe_ix (r := rIxL K) ix_list (pv 0) pe_int (fun _ _ => rfl)) (pe_op op_mod (pe_callTy (r := rInt) cr_int0 rfl T.int (by decide +kernel) (pa_cons (pv 3) pa_nil)) pe_int)) (pv 2)) pe_int) pe_int) pa_nil)) pe_int) (pg_sub (pv 0) pe_int set_list))
          (pss_cons (ps_set (i := 4) scDraw.nd rfl (Or.inl rfl) (pe_op op_mod (pe_callTy (r := rInt) cr_int0 rfl T.int (by decide +kernel) (pa_cons (pe_op op_add (pe_op op_mul (pe_ix (r := rIxL K) ix_list (pv 0) pe_int (fun _ _ => rfl)) pe_int) pe_int) pa_nil)) pe_int))
          (pss_one (ps_asg (pe_op op_add (pe_op op_mul (pv 4) pe_int) (pe_op op_mod (pe_callTy (r := rInt) cr_int0 rfl T.int (by decide +kernel) (pa_cons (pe_op op_add (pe_op op_mul (pv 4) pe_int) (pe_ix (r := rIxL K) ix_list (pv 0) pe_int (fun _ _ => rfl))) pa_nil)) pe_int)) (pg_sub (pv 0) pe_int set_list)))))))))))
        pss_nil)
      (pss_cons (ps_set (i := 5) scDraw.nd rfl (Or.inl rfl) (pe_op op_mod (pe_callTy (r := rInt) cr_int0 rfl T.int (by decide +kernel) (pa_cons (pe_ix (r := rIxL K) ix_list (pv 0) pe_int (fun _ _ => rfl)) pa_nil)) (pv 1)))
      (pss_cons (ps_asg (pe_op op_fdiv (pe_ix (r := rIxL K) ix_list (pv 0) pe_int (fun _ _ => rfl)) (pv 1)) (pg_sub (pv 0) pe_int set_list))
      (pss_one (ps_ret (pv 5))))), ?_⟩
    have hc' : ∀ o, upd H a o c = some (.lst (ns.map V.int)) := fun o => by
      rw [upd_ne hca]
      exact hc
    refine ⟨fun σ' H' => ∃ (t0 t1 t3 : Int) (y2 y3 y4 y5 : Option V), σ' = [some (.ref a), some (.int n), y2, y3, y4, y5] ∧ 0 ≤ t1 ∧ H' = upd H a (.lst [.int t0, .int t1, .ref c, .int t3]), ?_, ?_⟩
    · -- the refill
      refine ⟨_, rfl, a, _, 0, _, rfl, rfl, SqL.of ha, atI_nat (j := 0) rfl, _, rfl, _, _, rfl, rfl, _, rfl, ite2 (fun _ => ?_) (fun _ => ?_)⟩
      · refine ⟨_, rfl, a, _, 1, _, rfl, rfl, SqL.of ha, atI_nat (j := 1) rfl, ?_⟩
        refine go_name (st_is [some (.ref a), some (.int n), some (.int pos), none, none, none] rfl ?_)
        refine ⟨_, rfl, _, _, rfl, rfl, _, rfl, a, _, 1, 1, rfl, rfl, ha, rfl, ?_⟩
        dsimp only
        refine seq_is ?_
        refine s_const ?_
        refine st_is [some (.ref a), some (.int n), some (.int pos), some (.int 0), none, none] rfl ?_
        have h1 : (upd H a (.lst ([V.int s0, .int pos, .ref c, .int s3].set 1 (.int (pos + 1))))) a = some (.lst [.int s0, .int (pos + 1), .ref c, .int s3]) := upd_same
        refine ⟨fun σ' H' => ∃ x : Int, σ' = [some (.ref a), some (.int n), some (.int pos), some (.int x), none, none] ∧ H' = upd H a (.lst [.int s0, .int (pos + 1), .ref c, .int s3]), ?_, ?_⟩
        · refine ⟨_, rfl, _, rfl, a, _, 2, _, rfl, rfl, SqL.of h1, atI_nat (j := 2) rfl, c, _, rfl, .inl (SqL.of (hc' _)), _, _, rfl, rfl, _, rfl, ite2 (fun e => ?_) (fun _ => ⟨0, rfl, rfl⟩)⟩
          have e : pos < (((ns.map V.int).length : Nat) : Int) := of_decide_eq_true e
          rw [List.length_map] at e
          have hk : pos.toNat < ns.length := by omega
          have ek : pos = ((pos.toNat : Nat) : Int) := by omega
          have hat : atI (ns.map V.int) pos = some (.int ns[pos.toNat]) := at_of ek (by rw [List.getElem?_map, List.getElem?_eq_getElem hk]; rfl)
          exact ⟨_, rfl, a, _, 2, _, rfl, rfl, SqL.of h1, atI_nat (j := 2) rfl, _, rfl, c, _, pos, _, rfl, rfl, SqL.of (hc' _), hat, _, rfl, rfl⟩
        · rintro σ' H' ⟨x, rfl, rfl⟩
          have h2 : (upd H a (.lst [V.int s0, .int (pos + 1), .ref c, .int s3])) a = some (.lst [.int s0, .int (pos + 1), .ref c, .int s3]) := upd_same
          refine ⟨_, rfl, _, _, rfl, rfl, ⟨by decide, by decide, by decide⟩, _, _, rfl, rfl, _, rfl, ite2 (fun _ => ?_) (fun _ => ?_)⟩
          · refine ⟨_, rfl, _, rfl, a, _, 0, 0, rfl, rfl, h2, rfl, ?_⟩
            rw [upd_upd]
            exact ⟨x, pos + 1, s3, _, _, _, _, rfl, by omega, rfl⟩
          · refine ⟨_, rfl, a, _, 3, _, rfl, rfl, SqL.of h2, atI_nat (j := 3) rfl, _, rfl, .inl ⟨_, rfl, _, _, rfl, rfl, by show (0 : Int) < 2147483629; decide, _, _, rfl, rfl, _, rfl, _, _, rfl, rfl, _, _, rfl, rfl, _, _, rfl, rfl, .inr ⟨by decide, by decide⟩, .inl ⟨_, rfl, _, _, rfl, rfl, by show (0 : Int) < 2147483647; decide, _, rfl, a, _, 3, 3, rfl, rfl, h2, rfl, ?_⟩⟩⟩
            rw [upd_upd]
            have h3 : ∀ z3 : Int, (upd H a (.lst ([V.int s0, .int (pos + 1), .ref c, .int s3].set 3 (.int z3)))) a = some (.lst [.int s0, .int (pos + 1), .ref c, .int z3]) := fun _ => upd_same
            refine ⟨_, rfl, a, _, 3, _, rfl, rfl, SqL.of (h3 _), atI_nat (j := 3) rfl, _, _, rfl, rfl, .inr ⟨by decide, by decide⟩, _, _, rfl, rfl, .inl ⟨_, rfl, _, _, rfl, rfl, by show (0 : Int) < 2147483629; decide, ?_⟩⟩
            refine go_name (st_is [some (.ref a), some (.int n), some (.int pos), some (.int x), some (.int _), none] rfl ?_)
            refine ⟨_, rfl, _, _, rfl, rfl, .inr ⟨by decide, by decide⟩, _, rfl, _, _, rfl, rfl, .inr ⟨by decide, by decide⟩, _, rfl, a, _, 3, _, rfl, rfl, SqL.of (h3 _), atI_nat (j := 3) rfl, _, _, rfl, rfl, .inl ⟨_, rfl, _, _, rfl, rfl, by show (0 : Int) < 2147483587; decide, _, _, rfl, rfl, _, rfl, a, _, 0, 0, rfl, rfl, h3 _, rfl, ?_⟩⟩
            rw [upd_upd]
            exact ⟨_, pos + 1, _, _, _, _, _, rfl, by omega, rfl⟩
      · refine ⟨s0, pos, s3, _, _, _, _, rfl, hpos, ?_⟩
        funext b
        by_cases e : b = a
        · subst e
          rw [upd_same, ha]
        · rw [upd_ne e]
    · rintro σ' H' ⟨t0, t1, t3, y2, y3, y4, y5, rfl, h1, rfl⟩
      have h2 : (upd H a (.lst [V.int t0, .int t1, .ref c, .int t3])) a = some (.lst [.int t0, .int t1, .ref c, .int t3]) := upd_same
      refine ⟨_, rfl, a, _, 0, _, rfl, rfl, SqL.of h2, atI_nat (j := 0) rfl, .inl ⟨_, rfl, _, rfl, _, _, rfl, rfl, hn0, ?_⟩⟩
      refine go_name (st_is [some (.ref a), some (.int n), y2, y3, y4, some (.int (t0 % n))] rfl ?_)
      refine ⟨_, rfl, a, _, 0, _, rfl, rfl, SqL.of h2, atI_nat (j := 0) rfl, _, rfl, _, _, rfl, rfl, ⟨hn0, by omega⟩, _, rfl, a, _, 0, 0, rfl, rfl, h2, rfl, ?_⟩
      rw [upd_upd]
      have e1 := Int.emod_nonneg t0 (show n ≠ 0 by omega)
      have e2 := Int.emod_lt_of_pos t0 hn0
      have e3 : t0 % n = (((t0 % n).toNat : Nat) : Int) := by omega
      refine ⟨_, rfl, ?_⟩
      rw [e3]
      exact q _ _ (by omega) (off_put _) ⟨t0 / n, t1, t3, ns, upd_same, hca, h1, hc' _⟩
/-! ### _law_product -/
def spProd : Sp := fun vs H Q _ => ∃ (kd n x y : Nat), vs = [nI kd, nI n, nI x, nI y] ∧ x < n ∧ y < n ∧ n ≤ 2 ∧ ∀ z : Nat, z < n → Q (nI z) H
theorem scProd : FnScope ["_law_kind", "_law_count", "_law_x", "_law_y"] ["_law_kind", "_law_count", "_law_x", "_law_y"] (defScope sProduct) := ⟨rfl, rfl, rfl, by decide +kernel, rfl, by decide +kernel, by decide +kernel⟩
def rMaxI : List V → Hp → VK → Prop := fun xs H Q => ∃ i j, xs = [.int i, .int j] ∧ Q (.int (if j > i then j else i)) H
theorem cr_max2 {X : Cx} (hc : X.calm = true) : CallR X (.builtin "max") rMaxI := call_max2 hc
theorem c_prod (T : Glob K mg) (h : Here K mg "_law_product" sProduct) : Called P w K mg base 1 "_law_product" ["_law_kind", "_law_count", "_law_x", "_law_y"] spProd := by
  obtain ⟨f, fd, F, m⟩ := h
  refine ⟨f, fd, F.ok scProd (fun vs H Q E h => ?_) (fun cdv A outer s H vs Q E hr h => ?_), m, F.kp, F.binds fun _ _ _ _ _ _ us hl => match us, hl with | [_, _, _, _], _ => rfl⟩
  · obtain ⟨kd, n, x, y, rfl, _⟩ := h; rfl
  · obtain ⟨kd, n, x, y, rfl, hx, hy, hn, q⟩ := h
    refine ⟨_, pss_cons (ps_if (pt_cmpR op_eq (pv 0) pe_int (nomark _)) (pss_one (ps_ret (pe_op op_mod (pe_callTy (r := rInt) cr_int0 rfl T.int (by decide +kernel) (pa_cons (pe_op op_add (pv 2) (pv 3)) pa_nil)) (pv 1)))) pss_nil)
      (pss_cons (ps_if (pt_cmpR op_eq (pv 0) pe_int (nomark _)) (pss_one (ps_ret (pe_callB (r := rMaxI) (cr_max2 rfl) rfl T.max (by decide +kernel) (pa_cons (pv 2) (pa_cons (pv 3) pa_nil))))) pss_nil)
      (pss_cons (ps_if (pt_cmpR op_eq (pv 0) pe_int (nomark _)) (pss_one (ps_ret (pe_ifExp (pt_cmpR op_eq (pv 3) pe_int (nomark _)) (pv 2) (pv 3)))) pss_nil)
      (pss_one (ps_ret (pe_ifExp (pt_cmpR op_eq (pv 2) pe_int (nomark _)) (pv 3) (pv 2)))))), ?_⟩
    refine ⟨_, rfl, rfl, _, rfl, ite2 (fun _ => ?_) (fun _ => ?_)⟩
    · refine ⟨_, rfl, _, rfl, _, _, rfl, rfl, .inl ⟨_, rfl, _, rfl, _, _, rfl, rfl, by omega, ?_⟩⟩
      have e1 := Int.emod_nonneg (((x : Nat) : Int) + ((y : Nat) : Int)) (show ((n : Nat) : Int) ≠ 0 by omega)
      have e2 := Int.emod_lt_of_pos (((x : Nat) : Int) + ((y : Nat) : Int)) (show (0 : Int) < ((n : Nat) : Int) by omega)
      have e3 : (((x : Nat) : Int) + ((y : Nat) : Int)) % ((n : Nat) : Int) = ((((((x : Nat) : Int) + ((y : Nat) : Int)) % ((n : Nat) : Int)).toNat : Nat) : Int) := by omega
      show Q (.int ((((x : Nat) : Int) + ((y : Nat) : Int)) % ((n : Nat) : Int))) H
      rw [e3]
      exact q _ (by omega)
    refine ⟨_, rfl, rfl, _, rfl, ite2 (fun _ => ?_) (fun _ => ?_)⟩
    · refine ⟨_, rfl, _, rfl, _, _, rfl, ?_⟩
      show Q (.int (if ((y : Nat) : Int) > ((x : Nat) : Int) then ((y : Nat) : Int) else ((x : Nat) : Int))) H
      by_cases z : ((y : Nat) : Int) > ((x : Nat) : Int)
      · rw [if_pos z]; exact q y hy
      · rw [if_neg z]; exact q x hx
    refine ⟨_, rfl, rfl, _, rfl, ite2 (fun _ => ?_) (fun _ => ?_)⟩
    · exact ⟨_, rfl, rfl, _, rfl, ite2 (fun _ => ⟨_, rfl, q x hx⟩) (fun _ => ⟨_, rfl, q y hy⟩)⟩
    · exact ⟨_, rfl, rfl, _, rfl, ite2 (fun _ => ⟨_, rfl, q y hy⟩) (fun _ => ⟨_, rfl, q x hx⟩)⟩
end
end K46

/-! _law_text. -/
namespace K46
open PySem L2 Evl
/-! ### rows that grow -/
def lim3 (nl nc nr : Nat) : Kd → Nat
  | .letter => nl
  | .call => nc
  | .ret => nr
def Labs (nl nc nr : Nat) (row : List Pl) : Prop := ∀ p ∈ row, p.a < lim3 nl nc nr p.k
theorem labs_snoc {nl nc nr : Nat} {row : List Pl} {p : Pl} (h : Labs nl nc nr row) (hp : p.a < lim3 nl nc nr p.k) : Labs nl nc nr (row ++ [p]) := fun q hq => by
  rcases List.mem_append.mp hq with hq | hq
  · exact h q hq
  · rw [List.mem_singleton.mp hq]
    exact hp
theorem closes_snoc {row : List Pl} {p : Pl} (h : Closes row) (hp : p.k = .ret → (pst row).2.1 ≠ []) : Closes (row ++ [p]) := fun k b hk => by
  by_cases hlt : k < row.length
  · rw [List.getElem?_append_left hlt] at hk
    rw [List.take_append_of_le_length (by omega)]
    exact h k b hk
  · have hk2 : k < (row ++ [p]).length := (List.getElem?_eq_some_iff.mp hk).1
    rw [List.length_append, List.length_singleton] at hk2
    have e : k = row.length := by omega
    subst e
    rw [List.getElem?_append_right (Nat.le_refl _), Nat.sub_self] at hk
    have e2 : p = ⟨.ret, b⟩ := Option.some.inj hk
    rw [List.take_left]
    exact hp (by rw [e2])
theorem open_letter {row : List Pl} {b : Nat} : (pst (row ++ [⟨.letter, b⟩])).2.1.length = (pst row).2.1.length := by
  rw [pst_snoc]
  generalize pst row = x
  obtain ⟨k, s, f⟩ := x
  rfl
theorem open_call {row : List Pl} {b : Nat} : (pst (row ++ [⟨.call, b⟩])).2.1.length = (pst row).2.1.length + 1 := by
  rw [pst_snoc]
  generalize pst row = x
  obtain ⟨k, s, f⟩ := x
  rfl
theorem open_retn {row : List Pl} {b : Nat} : (pst (row ++ [⟨.ret, b⟩])).2.1.length = (pst row).2.1.length - 1 := by
  rw [pst_snoc]
  generalize pst row = x
  obtain ⟨k, s, f⟩ := x
  cases s <;> rfl
theorem bal_close : ∀ (rets row : List Pl), Closes row → (pst row).2.1.length = rets.length → (∀ p ∈ rets, p.k = .ret) → Bal (row ++ rets)
  | [], row, h, hl, _ => by
    rw [List.append_nil]
    exact ⟨h, List.eq_nil_of_length_eq_zero hl⟩
  | p :: rets, row, h, hl, hk => by
    have e : row ++ p :: rets = (row ++ [p]) ++ rets := by simp
    rw [e]
    obtain ⟨kd, b⟩ := p
    have hkd : kd = .ret := hk ⟨kd, b⟩ List.mem_cons_self
    subst hkd
    refine bal_close rets _ (closes_snoc h fun _ z => ?_) ?_ fun q hq => hk q (List.mem_cons_of_mem _ hq)
    · rw [z] at hl
      cases hl
    · rw [open_retn, hl]
      rfl
theorem closes_nil : Closes [] := fun k b h => by simp at h
theorem closes_app {row rets : List Pl} (h : Bal (row ++ rets)) : Closes (row ++ rets) := h.1
section
variable {P : Program} {w : World} {K : PySem.W.Frag} {mg : Str → Option Value} {base : Heap}
theorem off_put2 {a l : Addr} {H H' : Hp} (x : Off a H H') (h : H l = none) (o : HO) : Off a H (upd H' l o) := fun b u n q => by
  rw [upd_ne (ne_of_none q h)]
  exact x b u n q
/-- a draw -/
theorem x_draw {σ : L2.St} {H : Hp} {ta tn : TE} {E : XK} {a c : Addr} {n : Int} {Q : VK} (S : StAt H a c) (h0 : 0 < n) (h1 : n < 1000000) (ha : Ev ta σ H (.ref a)) (hn : Ev tn σ H (.int n)) (q : ∀ (d : Nat) H', (d : Int) < n → Off a H H' → StAt H' a c → Q (nI d) H') :
    tCall spDraw [] E (tCons ta (tCons tn tNil)) σ H Q :=
  ha H (Same.refl _) _ fun H1 e1 => hn H1 e1 _ fun H2 e2 => ⟨a, c, n, rfl, S.mono (e1.trans e2), h0, h1, fun d H3 hd o s => q d H3 hd ((off_of (e1.trans e2)).trans o) s⟩
/-- (kind, draw) -/
theorem x_place {σ : L2.St} {H : Hp} {ta tn : TE} {E : XK} {a c : Addr} {n : Nat} {Q : VK} (kd : Kd) (S : StAt H a c) (h0 : 0 < n) (h1 : n ≤ 2) (ha : Ev ta σ H (.ref a)) (hn : Ev tn σ H (nI n)) (q : ∀ (b : Nat) v H', b < n → Off a H H' → StAt H' a c → PtAt H' v (.pl ⟨kd, b⟩) → Q v H') :
    tTup (tCons (tC (.str (kdS kd))) (tCons (tCall spDraw [] E (tCons ta (tCons tn tNil))) tNil)) σ H Q :=
  x_draw S (by omega) (by omega) ha hn fun d H1 hd o s => ⟨small 2, fun p hp => q d _ _ (by omega) (o.trans (off_of (same_new hp _))) (s.mono (same_new hp _)) ⟨p, rfl, upd_same⟩⟩
def spText : Sp := fun vs H Q _ => ∃ (a c al : Addr) (most nl nc nr : Nat), vs = [.ref a, .ref al, nI most] ∧ StAt H a c ∧ H al = some (.tup [nI nl, nI nc, nI nr]) ∧ 0 < nl ∧ nl ≤ 2 ∧ 0 < nc ∧ nc ≤ 2 ∧ 0 < nr ∧ nr ≤ 2 ∧ most ≤ 4 ∧
  ∀ r row H', Off a H H' → StAt H' a c → RowAt H' r row → Bal row → Labs nl nc nr row → row.length ≤ 20 → Q (.ref r) H'
abbrev nText : List Str := ["_law_state", "_law_labels", "_law_most", "_law_row", "_law_opened", "_law_k", "_law_kind"]
theorem scText : FnScope nText ["_law_state", "_law_labels", "_law_most"] (defScope sText) := ⟨rfl, rfl, rfl, by decide +kernel, rfl, by decide +kernel, by decide +kernel⟩
theorem c_text (T : Glob K mg) (y : Called P w K mg base 1 "_law_draw" ["_law_state", "_law_limit"] spDraw) (h : Here K mg "_law_text" sText) : Called P w K mg base 2 "_law_text" ["_law_state", "_law_labels", "_law_most"] spText := by
  obtain ⟨f, fd, F, m⟩ := h
  obtain ⟨fy, fyd, Gy, my, ky, by_⟩ := y
  refine ⟨f, fd, F.ok scText (fun vs H Q E h => ?_) (fun cdv A outer s H vs Q E hr h => ?_), m, F.kp, F.binds fun _ _ _ _ _ _ us hl => match us, hl with | [_, _, _], _ => rfl⟩
  · obtain ⟨a, c, al, most, nl, nc, nr, rfl, _⟩ := h; rfl
  · obtain ⟨a, c, al, most, nl, nc, nr, rfl, S, hal, l1, l2, c1, c2, r1, r2, hm, q⟩ := h
    refine ⟨_, pss_cons (ps_set (i := 3) scText.nd rfl (Or.inl rfl) (pe_lst pa_nil))
      (pss_cons (ps_set (i := 4) scText.nd rfl (Or.inl rfl) pe_int)
      (pss_cons (ps_for PassesOwn.never rfl (pi_range1 rfl T.rng (pa_cons (pe_call Gy hr rfl my ky by_ .nil pass0 (pa_cons (pv 0) (pa_cons (pe_op op_add (pv 2) pe_int) pa_nil))) pa_nil)) (pg_name (i := 5) scText.nd rfl (Or.inl rfl))
        (pss_cons (ps_set (i := 6) scText.nd rfl (Or.inl rfl) (pe_call Gy hr rfl my ky by_ .nil pass0 (pa_cons (pv 0) (pa_cons pe_int pa_nil))))
        (pss_one (ps_if (PW.pt (pw_and (pt_cmpR op_eq (pv 6) pe_int (nomark _)) (pw_and1 (pt_cmpR op_gt (pv 4) pe_int (nomark _)))))
          (pss_cons (ps_expr (pe_bm PySem.F.plainAttrs_list PySem.F.slot_list_append PySem.F.type_list_append mt_append (pv 3) (pa_cons (pe_tup (pa_cons pe_str (pa_cons (pe_call Gy hr rfl my ky by_ .nil pass0 (pa_cons (pv 0) (pa_cons (pe_ix (r := rIxT K) ix_tup (pv 1) pe_int (fun _ _ => rfl)) pa_nil))) pa_nil))) pa_nil)))
            (pss_one (ps_set (i := 4) scText.nd rfl (Or.inl rfl) (pe_op op_sub (pv 4) pe_int))))
          (pss_one (ps_if (pt_cmpR op_eq (pv 6) pe_int (nomark _))
            (pss_cons (ps_expr (pe_bm PySem.F.plainAttrs_list PySem.F.slot_list_append PySem.F.type_list_append mt_append (pv 3) (pa_cons (pe_tup (pa_cons pe_str (pa_cons (pe_call Gy hr rfl my ky by_ .nil pass0 (pa_cons (pv 0) (pa_cons (pe_ix (r := rIxT K) ix_tup (pv 1) pe_int (fun _ _ => rfl)) pa_nil))) pa_nil))) pa_nil)))
              (pss_one (ps_set (i := 4) scText.nd rfl (Or.inl rfl) (pe_op op_add (pv 4) pe_int))))
            (pss_one (ps_expr (pe_bm PySem.F.plainAttrs_list PySem.F.slot_list_append PySem.F.type_list_append mt_append (pv 3) (pa_cons (pe_tup (pa_cons pe_str (pa_cons (pe_call Gy hr rfl my ky by_ .nil pass0 (pa_cons (pv 0) (pa_cons (pe_ix (r := rIxT K) ix_tup (pv 1) pe_int (fun _ _ => rfl)) pa_nil))) pa_nil))) pa_nil))))))))))
      (pss_one (ps_ret (pe_op op_cat (pv 3) (pe_lc (own := [("_law_k", 5)]) (g := gName 5) (tt := tYes) rfl scText.nd (pi_range1 rfl T.rng (pa_cons (pv 4) pa_nil)) (blkOk_by (N := nText) (sc := defScope sText) (by decide +kernel)) (fun _ _ _ _ _ => pg_name (i := 5) scText.nd rfl (Or.inl rfl)) (fun _ _ _ _ _ => pts_nil)
          (fun _ _ _ _ _ => pe_tup (pa_cons pe_str (pa_cons (pe_call Gy hr rfl my ky by_ .nil pass0 (pa_cons (pv 0) (pa_cons (pe_ix (r := rIxT K) ix_tup (pv 1) pe_int (fun _ _ => rfl)) pa_nil))) pa_nil))))))))), ?_⟩
    refine ⟨small 0, fun lr hlr => ?_⟩
    have s1 : Same H (upd H lr (.lst [])) := same_new hlr _
    obtain ⟨nra, nrc⟩ := S.ne hlr
    refine go_name ?_
    refine st_is [some (.ref a), some (.ref al), some (nI most), some (.ref lr), none, none, none] rfl ?_
    dsimp only
    refine seq_is ?_
    refine s_const ?_
    refine st_is [some (.ref a), some (.ref al), some (nI most), some (.ref lr), some (nI 0), none, none] rfl ?_
    dsimp only
    refine seq_is ?_
    refine x_draw (n := ((most : Nat) : Int) + 1) (S.mono s1) (by omega) (by omega) (ev_var rfl) (ev_op (x := nI most) (y := .int 1) (ev_var rfl) ev_c (rv_I0 (g := fun i j => .int (i + j)))) fun turns H1 hd o1 S1 => ?_
    refine ⟨_, rfl, by omega, by omega, ?_⟩
    have hal1 : H1 al = some (.tup [nI nl, nI nc, nI nr]) := ((tps_of s1).trans ((S.mono s1).tps o1)) _ _ hal
    have hl1 : H1 lr = some (.lst []) := o1 _ _ nra upd_same
    have o01 : Off a H H1 := (off_of s1).trans o1
    refine for_range (lo := 0) (n := ((turns : Nat) : Int).toNat) (fun i σ' H' => ∃ (row : List Pl) (op : Nat) (y5 y6 : Option V) (xs : List V), σ' = [some (.ref a), some (.ref al), some (nI most), some (.ref lr), some (nI op), y5, y6] ∧ Off a H H' ∧ StAt H' a c ∧ H' al = some (.tup [nI nl, nI nc, nI nr]) ∧ H' lr = some (.lst xs) ∧ Paired (fun v p => PtAt H' v (.pl p)) xs row ∧ Closes row ∧ (pst row).2.1.length = op ∧ Labs nl nc nr row ∧ row.length ≤ i)
      ⟨[], 0, _, _, [], rfl, o01, S1, hal1, hl1, .nil, closes_nil, rfl, fun p hp => absurd hp List.not_mem_nil, Nat.le_refl _⟩ ?_ ?_
    · rintro i σ' H2 hi ⟨row, op, y5, y6, xs, rfl, o2, S2, hal2, hl2, hp, hcl, hop, hlab, hlen⟩
      have lx := hp.length
      refine go_name ?_
      refine st_is [some (.ref a), some (.ref al), some (nI most), some (.ref lr), some (nI op), some (.int ((0 : Int) + (i : Nat))), y6] rfl ?_
      refine seq_is ?_
      refine x_draw (n := 4) S2 (by decide) (by decide) (ev_var rfl) ev_c fun kd H3 hkd o3 S3 => ?_
      refine go_name ?_
      refine st_is [some (.ref a), some (.ref al), some (nI most), some (.ref lr), some (nI op), some (.int ((0 : Int) + (i : Nat))), some (nI kd)] rfl ?_
      dsimp only
      have t3 := S2.tps o3
      have hal3 := t3 _ _ hal2
      have hl3 := o3 _ _ nra hl2
      have o23 := o2.trans o3
      -- one place more
      have more : ∀ (k : Kd) (n : Nat) (b : Nat) (v : V) (H4 : Hp), lim3 nl nc nr k = n → b < n → Off a H3 H4 → StAt H4 a c → PtAt H4 v (.pl ⟨k, b⟩) → (k = .ret → 0 < op) →
          H4 lr = some (.lst xs) ∧ xs.length < sizeLine ∧ Off a H (upd H4 lr (.lst (xs ++ [v]))) ∧ StAt (upd H4 lr (.lst (xs ++ [v]))) a c ∧ (upd H4 lr (.lst (xs ++ [v]))) al = some (.tup [nI nl, nI nc, nI nr]) ∧ (upd H4 lr (.lst (xs ++ [v]))) lr = some (.lst (xs ++ [v])) ∧ Paired (fun u p => PtAt (upd H4 lr (.lst (xs ++ [v]))) u (.pl p)) (xs ++ [v]) (row ++ [⟨k, b⟩]) ∧ Closes (row ++ [⟨k, b⟩]) ∧ Labs nl nc nr (row ++ [⟨k, b⟩]) ∧ (row ++ [(⟨k, b⟩ : Pl)]).length ≤ i + 1 := by
        intro k n b v H4 hk hb o4 S4 hv hret
        have hl4 := o4 _ _ nra hl3
        have t4 := S3.tps o4
        have tp := tps_put hl4 (.lst (xs ++ [v]))
        refine ⟨hl4, sz_lt (by omega), off_put2 (o23.trans o4) hlr _, S4.put nra nrc _, tp _ _ (t4 _ _ hal3), upd_same, ?_, closes_snoc hcl fun z y => ?_, labs_snoc hlab (by show b < lim3 nl nc nr k; omega), by rw [List.length_append, List.length_singleton]; omega⟩
        · exact paired_append (Paired.mapP hp fun _ _ q => PtAt.tps ((t3.trans t4).trans tp) q) (.cons (PtAt.tps tp hv) .nil)
        · have := hret z
          rw [y] at hop
          simp at hop
          omega
      have one : ∀ (j : Nat) (H4 : Hp), Same H3 H4 → j < 3 → Ev (tOp (rIxT K) (tVar 1) (tC (.int (j : Nat)))) [some (.ref a), some (.ref al), some (nI most), some (.ref lr), some (nI op), some (.int ((0 : Int) + (i : Nat))), some (nI kd)] H4 (nI ([nl, nc, nr].getD j 0)) := fun j H4 e4 hj =>
        ev_row (K := K) (xs := [nl, nc, nr]) ⟨al, rfl, e4 _ _ hal3⟩ (ev_var rfl) ev_c hj
      -- the else of both tests, and the call
      have other : ∀ H4, H4 = H3 → tIfS (tTest (tOp rEq (tVar 6) (tC (.int 2))))
          (tSeq (tDrop (tBM K "list" rAppend (tVar 3) (tCons (tTup (tCons (tC (.str "call")) (tCons (tCall spDraw [] E0 (tCons (tVar 0) (tCons (tOp (rIxT K) (tVar 1) (tC (.int 1))) tNil))) tNil))) tNil)))
            (tAsg (tOp (rI0 fun i j => .int (i + j)) (tVar 4) (tC (.int 1))) (gName 4)))
          (tDrop (tBM K "list" rAppend (tVar 3) (tCons (tTup (tCons (tC (.str "letter")) (tCons (tCall spDraw [] E0 (tCons (tVar 0) (tCons (tOp (rIxT K) (tVar 1) (tC (.int 0))) tNil))) tNil))) tNil)))
          { nx := fun σ' H' => ∃ (row : List Pl) (op : Nat) (y5 y6 : Option V) (xs : List V), σ' = [some (.ref a), some (.ref al), some (nI most), some (.ref lr), some (nI op), y5, y6] ∧ Off a H H' ∧ StAt H' a c ∧ H' al = some (.tup [nI nl, nI nc, nI nr]) ∧ H' lr = some (.lst xs) ∧ Paired (fun v p => PtAt H' v (.pl p)) xs row ∧ Closes row ∧ (pst row).2.1.length = op ∧ Labs nl nc nr row ∧ row.length ≤ i + 1, rt := fun _ _ => False }
          [some (.ref a), some (.ref al), some (nI most), some (.ref lr), some (nI op), some (.int ((0 : Int) + (i : Nat))), some (nI kd)] H4 := by
        rintro H4 rfl
        refine ⟨_, rfl, rfl, _, rfl, ite2 (fun _ => ?_) (fun _ => ?_)⟩
        · refine ⟨_, rfl, .inl ⟨rfl, _, SqL.of hl3⟩, x_place .call S3 c1 c2 (ev_var rfl) (one 1 _ (Same.refl _) (by decide)) fun b v H5 hb o5 S5 hv => ?_⟩
          obtain ⟨g1, g2, g3, g4, g5, g6, g7, g8, g9, g10⟩ := more .call nc b v H5 rfl hb o5 S5 hv (fun z => nomatch z)
          refine ⟨lr, xs, v, rfl, rfl, g1, g2, ?_⟩
          refine ⟨_, rfl, _, _, rfl, rfl, ?_⟩
          refine go_name ⟨row ++ [⟨.call, b⟩], op + 1, some (.int ((0 : Int) + (i : Nat))), some (nI kd), xs ++ [v], ?_, g3, g4, g5, g6, g7, g8, by rw [open_call, hop], g9, g10⟩
          rfl
        · refine ⟨_, rfl, .inl ⟨rfl, _, SqL.of hl3⟩, x_place .letter S3 l1 l2 (ev_var rfl) (one 0 _ (Same.refl _) (by decide)) fun b v H5 hb o5 S5 hv => ?_⟩
          obtain ⟨g1, g2, g3, g4, g5, g6, g7, g8, g9, g10⟩ := more .letter nl b v H5 rfl hb o5 S5 hv (fun z => nomatch z)
          exact ⟨lr, xs, v, rfl, rfl, g1, g2, row ++ [⟨.letter, b⟩], op, _, _, xs ++ [v], rfl, g3, g4, g5, g6, g7, g8, by rw [open_letter, hop], g9, g10⟩
      refine ⟨_, rfl, rfl, _, rfl, ite2 (fun _ => ?_) (fun _ => ?_)⟩
      · refine ⟨_, rfl, _, _, rfl, rfl, decide (0 < op), ?_, ite2 (fun hpos => ?_) (fun _ => ?_)⟩
        · show V.bl (decide ((0 : Int) < ((op : Nat) : Int))) = _
          congr 1
          by_cases z : 0 < op
          · rw [decide_eq_true z, decide_eq_true (by omega)]
          · rw [decide_eq_false z, decide_eq_false (by omega)]
        · have hpos := of_decide_eq_true hpos
          refine ⟨_, rfl, .inl ⟨rfl, _, SqL.of hl3⟩, x_place .ret S3 r1 r2 (ev_var rfl) (one 2 _ (Same.refl _) (by decide)) fun b v H5 hb o5 S5 hv => ?_⟩
          obtain ⟨g1, g2, g3, g4, g5, g6, g7, g8, g9, g10⟩ := more .ret nr b v H5 rfl hb o5 S5 hv (fun _ => hpos)
          refine ⟨lr, xs, v, rfl, rfl, g1, g2, ?_⟩
          refine ⟨_, rfl, _, _, rfl, rfl, ?_⟩
          refine go_name ⟨row ++ [⟨.ret, b⟩], op - 1, some (.int ((0 : Int) + (i : Nat))), some (nI kd), xs ++ [v], ?_, g3, g4, g5, g6, g7, g8, by rw [open_retn, hop], g9, g10⟩
          have e : ((op : Nat) : Int) - 1 = ((op - 1 : Nat) : Int) := by omega
          show [some (.ref a), some (.ref al), some (nI most), some (.ref lr), some (.int (((op : Nat) : Int) - 1)), some (.int ((0 : Int) + (i : Nat))), some (nI kd)] = _
          rw [e]
        · exact other H3 rfl
      · exact other H3 rfl
    · rintro σ' H2 ⟨row, op, y5, y6, xs, rfl, o2, S2, hal2, hl2, hp, hcl, hop, hlab, hlen⟩
      have lx := hp.length
      have hlen2 : row.length ≤ 5 := by omega
      have hop3 : op ≤ row.length := by
        have := (pairs_le row).1
        omega
      refine ⟨_, rfl, _, rfl, _, rfl, by omega, by omega, fun D hD => ?_⟩
      obtain ⟨nDa, nDc⟩ := S2.ne hD
      refine lc_range (lo := 0) (n := ((op : Nat) : Int).toNat) (fun j H' => Off a H2 H' ∧ StAt H' a c ∧ H' al = some (.tup [nI nl, nI nc, nI nr]) ∧ ∃ ys rets, H' D = some (.lst ys) ∧ Paired (fun u p => PtAt H' u (.pl p)) ys rets ∧ rets.length = j ∧ ∀ p ∈ rets, p.k = .ret ∧ p.a < nr)
        ⟨off_of (same_new hD _), S2.mono (same_new hD _), (same_new hD _) _ _ hal2, [], [], upd_same, .nil, rfl, fun p hp => absurd hp List.not_mem_nil⟩ ?_ ?_
      · rintro j H3 hj ⟨o3, S3, hal3, ys, rets, g1, g2, g3, g4⟩
        have ly := g2.length
        refine ⟨rfl, tyes (iteT ?_)⟩
        refine x_place .ret S3 r1 r2 (ev_var rfl) (ev_row (K := K) (xs := [nl, nc, nr]) (i := 2) ⟨al, rfl, hal3⟩ (ev_var rfl) ev_c (by show 2 < 3; decide)) fun b v H4 hb o4 S4 hv => ?_
        have g1' := o4 _ _ nDa g1
        have t4 := S3.tps o4
        have tp := tps_put g1' (.lst (ys ++ [v]))
        refine ⟨ys, g1', sz_lt (by omega), off_put2 (o3.trans o4) hD _, S4.put nDa nDc _, tp _ _ (t4 _ _ hal3), ys ++ [v], rets ++ [⟨.ret, b⟩], upd_same, paired_append (Paired.mapP g2 fun _ _ q => PtAt.tps (t4.trans tp) q) (.cons (PtAt.tps tp hv) .nil), by rw [List.length_append, List.length_singleton, g3], fun p hp => ?_⟩
        rcases List.mem_append.mp hp with hp | hp
        · exact g4 p hp
        · rw [List.mem_singleton.mp hp]
          exact ⟨rfl, hb⟩
      · rintro H3 ⟨o3, S3, hal3, ys, rets, g1, g2, g3, g4⟩
        have ly := g2.length
        have hl3 := o3 _ _ nra hl2
        have t3 := S2.tps o3
        refine ⟨lr, D, xs, ys, rfl, rfl, hl3, g1, small _ (by omega), fun r hr => ?_⟩
        have s4 := same_new hr (.lst (xs ++ ys))
        have hbal : Bal (row ++ rets) := bal_close rets row hcl (by omega) fun p hp => (g4 p hp).1
        refine q r (row ++ rets) _ ((o2.trans o3).trans (off_of s4)) (S3.mono s4) ⟨xs ++ ys, upd_same, paired_append (Paired.mapP hp fun _ _ q => PtAt.tps (t3.trans (tps_of s4)) q) (Paired.mapP g2 fun _ _ q => PtAt.tps (tps_of s4) q)⟩ hbal (fun p hp => ?_) (by rw [List.length_append]; omega)
        rcases List.mem_append.mp hp with hp | hp
        · exact hlab p hp
        · obtain ⟨e1, e2⟩ := g4 p hp
          rw [e1]
          exact e2
end
end K46

/-! _law_tiny_reader. -/
namespace K46
open PySem L2 Evl
section
variable {P : Program} {w : World} {K : PySem.W.Frag} {mg : Str → Option Value} {base : Heap}
/-- what an expression with draws gives, from any heap in which H0's tuples stand -/
def ES (a c : Addr) (H0 : Hp) (te : TE) (σ : L2.St) (Post : Hp → V → Prop) : Prop := ∀ H, Tps H0 H → StAt H a c → ∀ Q : VK, (∀ v H', Off a H H' → StAt H' a c → Post H' v → Q v H') → te σ H Q
/-- the values stay as tuples stay -/
def Lasts (Post : Hp → V → Prop) : Prop := ∀ H H' v, Tps H H' → Post H v → Post H' v
/-- a tuple of n such -/
def TupOf (n : Nat) (Post : Hp → V → Prop) : Hp → V → Prop := fun H v => ∃ b xs, v = .ref b ∧ H b = some (.tup xs) ∧ xs.length = n ∧ ∀ x ∈ xs, Post H x
theorem TupOf.lasts {n : Nat} {Post : Hp → V → Prop} (h : Lasts Post) : Lasts (TupOf n Post) := fun H H' v e ⟨b, xs, h1, h2, h3, h4⟩ => ⟨b, xs, h1, e _ _ h2, h3, fun x hx => h H H' x e (h4 x hx)⟩
/-- a number below n -/
def Below (n : Nat) : Hp → V → Prop := fun _ v => ∃ d, v = nI d ∧ d < n
theorem Below.lasts {n : Nat} : Lasts (Below n) := fun _ _ _ _ h => h
section
variable {a c : Addr} {H0 : Hp} {σ : L2.St} {te ti : TE}
theorem es_draw {ta tn : TE} {E : XK} {n : Nat} (h0 : 0 < n) (h1 : n ≤ 4) (ha : ∀ H, Tps H0 H → Ev ta σ H (.ref a)) (hn : ∀ H, Tps H0 H → Ev tn σ H (nI n)) : ES a c H0 (tCall spDraw [] E (tCons ta (tCons tn tNil))) σ (Below n) := fun H t S Q q =>
  x_draw S (by omega) (by omega) (ha H t) (hn H t) fun d H' hd o s => q _ H' o s ⟨d, rfl, by omega⟩
/-- a tuple made by a comprehension whose element draws -/
theorem es_tuple {Post : Hp → V → Prop} {j n : Nat} {vs : List Nat} (hl : Lasts Post) (hn : n ≤ 1000) (hi : ∀ H, Tps H0 H → Ev ti σ H (nI n)) (hw : ∀ x, wipe ((wipe σ vs).set j (some x)) vs = wipe σ vs)
    (he : ∀ i, i < n → ES a c H0 te ((wipe σ vs).set j (some (nI i))) Post) : ES a c H0 (tCB (rTupS K) (tCons (tLc (iRng1 (tCons ti tNil)) (gName j) tYes te vs) tNil)) σ (TupOf n Post) := fun H t S Q q => by
  refine hi H t H (Same.refl _) _ fun H1 e1 => ⟨_, rfl, by omega, by omega, fun D hD => ?_⟩
  have S1 := S.mono e1
  obtain ⟨nDa, nDc⟩ := S1.ne hD
  refine lc_range (lo := 0) (n := ((n : Nat) : Int).toNat) (fun i H' => Off a H1 H' ∧ StAt H' a c ∧ Tps H0 H' ∧ ∃ xs, H' D = some (.lst xs) ∧ xs.length = i ∧ ∀ x ∈ xs, Post H' x) ⟨off_of (same_new hD _), S1.mono (same_new hD _), (t.trans (tps_of e1)).trans (tps_of (same_new hD _)), [], upd_same, rfl, fun x hx => absurd hx List.not_mem_nil⟩ ?_ ?_
  · rintro i H2 hlt ⟨o2, S2, t2, xs, g1, g2, g3⟩
    have ez : (0 : Int) + (i : Nat) = (i : Nat) := Int.zero_add _
    rw [ez]
    refine ⟨hw _, tyes (iteT ?_)⟩
    refine he i (by omega) H2 t2 S2 _ fun v H3 o3 S3 hv => ?_
    have g1' := o3 _ _ nDa g1
    have t3 := S2.tps o3
    have tp := tps_put g1' (.lst (xs ++ [v]))
    refine ⟨xs, g1', sz_lt (by omega), off_put2 (o2.trans o3) hD _, S3.put nDa nDc _, (t2.trans t3).trans tp, xs ++ [v], upd_same, by rw [List.length_append, List.length_singleton, g2], fun x hx => ?_⟩
    rcases List.mem_append.mp hx with hx | hx
    · exact hl _ _ _ (t3.trans tp) (g3 x hx)
    · rw [List.mem_singleton.mp hx]
      exact hl _ _ _ tp hv
  · rintro H2 ⟨o2, S2, t2, xs, g1, g2, g3⟩
    refine ⟨D, xs, rfl, .inl ⟨SqL.of g1, fun l hl' => ?_⟩⟩
    have s3 := same_new hl' (.tup xs)
    exact q _ _ (((off_of e1).trans o2).trans (off_of s3)) (S2.mono s3) ⟨l, xs, rfl, upd_same, by omega, fun x hx => hl _ _ _ (tps_of s3) (g3 x hx)⟩
/-- name = such -/
theorem s_es {Post : Hp → V → Prop} {i : Nat} {D : Ends} {H : Hp} (h : ES a c H0 te σ Post) (t : Tps H0 H) (S : StAt H a c) (k : ∀ v H', Off a H H' → StAt H' a c → Tps H H' → Post H' v → D.nx (σ.set i (some v)) H') : tAsg te (gName i) D σ H :=
  h H t S _ fun v H' o s p => k v H' o s (S.tps o) p
end
/-! ### numbers out of tuples -/
theorem nats_of {n : Nat} : ∀ {xs : List V} {H : Hp}, (∀ x ∈ xs, Below n H x) → ∃ ds : List Nat, xs = ds.map nI ∧ ∀ d ∈ ds, d < n
  | [], _, _ => ⟨[], rfl, fun d hd => absurd hd List.not_mem_nil⟩
  | x :: r, H, h => by
    obtain ⟨ds, e, hd⟩ := nats_of (H := H) fun y hy => h y (List.mem_cons_of_mem _ hy)
    obtain ⟨d, e1, e2⟩ := h x List.mem_cons_self
    refine ⟨d :: ds, by rw [e1, e]; rfl, fun y hy => ?_⟩
    rcases List.mem_cons.mp hy with rfl | hy
    · exact e2
    · exact hd y hy
def RowOk (l n : Nat) (ds : List Nat) : Prop := ds.length = l ∧ ∀ d ∈ ds, d < n
def MatOk (r l n : Nat) (xs : List (List Nat)) : Prop := xs.length = r ∧ ∀ ds ∈ xs, RowOk l n ds
theorem row_of {l n : Nat} {H : Hp} {v : V} (h : TupOf l (Below n) H v) : ∃ ds, RowI H v ds ∧ RowOk l n ds := by
  obtain ⟨b, xs, rfl, h1, h2, h3⟩ := h
  obtain ⟨ds, rfl, h4⟩ := nats_of h3
  rw [List.length_map] at h2
  exact ⟨ds, ⟨b, rfl, h1⟩, h2, h4⟩
theorem list_of {α : Type} {F : V → α → Prop} {G : α → Prop} : ∀ {xs : List V}, (∀ x ∈ xs, ∃ y, F x y ∧ G y) → ∃ ys, Paired F xs ys ∧ ∀ y ∈ ys, G y
  | [], _ => ⟨[], .nil, fun y hy => absurd hy List.not_mem_nil⟩
  | x :: r, h => by
    obtain ⟨ys, h1, h2⟩ := list_of fun y hy => h y (List.mem_cons_of_mem _ hy)
    obtain ⟨y, h3, h4⟩ := h x List.mem_cons_self
    refine ⟨y :: ys, .cons h3 h1, fun z hz => ?_⟩
    rcases List.mem_cons.mp hz with rfl | hz
    · exact h4
    · exact h2 z hz
theorem mat_of {r l n : Nat} {H : Hp} {v : V} (h : TupOf r (TupOf l (Below n)) H v) : ∃ xs, MatI H v xs ∧ MatOk r l n xs := by
  obtain ⟨b, vs, rfl, h1, h2, h3⟩ := h
  obtain ⟨ys, g1, g2⟩ := list_of (F := RowI H) (G := RowOk l n) fun x hx => row_of (h3 x hx)
  exact ⟨ys, ⟨b, vs, rfl, h1, g1⟩, by rw [← g1.length]; exact h2, g2⟩
theorem cub_of {q r l n : Nat} {H : Hp} {v : V} (h : TupOf q (TupOf r (TupOf l (Below n))) H v) : ∃ xs, CubI H v xs ∧ xs.length = q ∧ ∀ x ∈ xs, MatOk r l n x := by
  obtain ⟨b, vs, rfl, h1, h2, h3⟩ := h
  obtain ⟨ys, g1, g2⟩ := list_of (F := MatI H) (G := MatOk r l n) fun x hx => mat_of (h3 x hx)
  exact ⟨ys, ⟨b, vs, rfl, h1, g1⟩, by rw [← g1.length]; exact h2, g2⟩
/-- such numbers make a fitting reader -/
theorem fits_of {nl nc nr n : Nat} {le ac : List Nat} {mu : List (List Nat)} {wr : List (List (List Nat))} (h0 : 0 < n) (h1 : RowOk nl n le) (h2 : MatOk n n n mu) (h3 : wr.length = nc) (h4 : ∀ x ∈ wr, MatOk nr n n x) (h5 : ∀ d ∈ ac, d < n) :
    Fits ⟨nl, nc, nr, 0, le, mu, wr, ac⟩ ∧ (⟨nl, nc, nr, 0, le, mu, wr, ac⟩ : Rd).n = n := by
  have hn : mu.length = n := h2.1
  refine ⟨⟨h1.1, fun a ha => ?_, fun r hr => ?_, fun u v hu hv => ?_, h3, fun x hx => (h4 x hx).1, fun x hx y hy => ?_, fun a b x ha hb hx => ?_, ?_, fun v hv => ?_⟩, hn⟩
  · show le.getD a 0 < mu.length
    rw [hn]
    exact h1.2 _ (getD_mem (by rw [h1.1]; exact ha))
  · show r.length = mu.length
    rw [hn]
    exact (h2.2 r hr).1
  · show (mu.getD u []).getD v 0 < mu.length
    have hu : u < mu.length := hu
    have hv : v < mu.length := hv
    have m := h2.2 _ (getD_mem (d := []) hu)
    rw [hn]
    exact m.2 _ (getD_mem (by rw [m.1]; omega))
  · show y.length = mu.length
    rw [hn]
    exact ((h4 x hx).2 y hy).1
  · show ((wr.getD a []).getD b []).getD x 0 < mu.length
    have ha : a < nc := ha
    have hb : b < nr := hb
    have hx : x < mu.length := hx
    have m := h4 _ (getD_mem (d := []) (show a < wr.length by omega))
    have m2 := m.2 _ (getD_mem (d := []) (show b < (wr.getD a []).length by rw [m.1]; exact hb))
    rw [hn]
    exact m2.2 _ (getD_mem (by rw [m2.1]; omega))
  · show 0 < mu.length
    omega
  · show v < mu.length
    rw [hn]
    exact h5 v hv
/-! ### the def -/
def spTiny : Sp := fun vs H Q _ => ∃ (a c al : Addr) (nl nc nr n : Nat), vs = [.ref a, .ref al, nI n] ∧ StAt H a c ∧ H al = some (.tup [nI nl, nI nc, nI nr]) ∧ nl ≤ 2 ∧ nc ≤ 2 ∧ nr ≤ 2 ∧ 0 < n ∧ n ≤ 2 ∧
  ∀ r R H', Off a H H' → StAt H' a c → RdAt H' r R → Small R → R.nl = nl → R.nc = nc → R.nr = nr → R.n = n → Q (.ref r) H'
abbrev nTiny : List Str := ["_law_state", "_law_labels", "_law_count", "_law_kind", "_law_mul", "_law_letters", "_law_wrap", "_law_accepted", "_law_x", "_law_y", "_law_k", "_law_b", "_law_a"]
theorem scTiny : FnScope nTiny ["_law_state", "_law_labels", "_law_count"] (defScope sTiny) := ⟨rfl, rfl, rfl, by decide +kernel, rfl, by decide +kernel, by decide +kernel⟩
/-! the scopes of the comprehensions that hold another one, read off the text -/
def valOf : Stmt → Expr
  | .Assign _ v _ => v
  | _ => .Name "" ⟨0, 0, 0, 0⟩
def argOf : Expr → Expr
  | .Call _ (a :: _) _ _ => a
  | e => e
def eltOf : Expr → Expr
  | .ListComp e _ _ _ => e
  | e => e
def compScope : Expr → Scope
  | .ListComp _ _ sc _ => sc
  | _ => defScope sYes
def outerOf (i : Nat) : Expr := argOf (valOf ((defBody sTiny).getD i (.Pass ⟨0, 0, 0, 0⟩)))
def scMul : Scope := compScope (outerOf 1)
def scWrapA : Scope := compScope (outerOf 3)
def scWrapB : Scope := compScope (argOf (eltOf (outerOf 3)))
theorem es_prod {a c : Addr} {H0 : Hp} {σ : L2.St} {t1 t2 t3 t4 : TE} {E : XK} {kd n x y : Nat} (hx : x < n) (hy : y < n) (hn : n ≤ 2) (h1 : ∀ H, Ev t1 σ H (nI kd)) (h2 : ∀ H, Ev t2 σ H (nI n)) (h3 : ∀ H, Ev t3 σ H (nI x)) (h4 : ∀ H, Ev t4 σ H (nI y)) :
    ES a c H0 (tCall spProd [] E (tCons t1 (tCons t2 (tCons t3 (tCons t4 tNil))))) σ (Below n) := fun H t S Q q =>
  ea_cons (h1 H) (ea_cons (h2 H) (ea_cons (h3 H) (ea_cons (h4 H) ea_nil))) H (Same.refl _) _ fun H1 e1 => ⟨kd, n, x, y, rfl, hx, hy, hn, fun z hz => q _ H1 (off_of e1) (S.mono e1) ⟨z, rfl, hz⟩⟩
/-- the accepted values: a comprehension whose test draws -/
theorem es_accept {a c : Addr} {H0 : Hp} {σ : L2.St} {n : Nat} (hn : n ≤ 2) (h0 : σ[0]? = some (some (.ref a))) (h2 : σ[2]? = some (some (nI n))) (h8 : σ.length = 13) :
    ES a c H0 (tCB (rTupS K) (tCons (tLc (iRng1 (tCons (tVar 2) tNil)) (gName 8) (tTest (tOp rEq (tCall spDraw [] E0 (tCons (tVar 0) (tCons (tC (.int 2)) tNil))) (tC (.int 1)))) (tVar 8) [8]) tNil)) σ (fun H v => ∃ ds, RowI H v ds ∧ ds.length ≤ 2 ∧ ∀ d ∈ ds, d < n) := fun H t S Q q => by
  refine ⟨_, h2, _, rfl, by omega, by omega, fun D hD => ?_⟩
  obtain ⟨nDa, nDc⟩ := S.ne hD
  refine lc_range (lo := 0) (n := ((n : Nat) : Int).toNat) (fun i H' => Off a H H' ∧ StAt H' a c ∧ ∃ ds : List Nat, H' D = some (.lst (ds.map nI)) ∧ ds.length ≤ i ∧ ∀ d ∈ ds, d < n) ⟨off_of (same_new hD _), S.mono (same_new hD _), [], upd_same, Nat.le_refl _, fun d hd => absurd hd List.not_mem_nil⟩ ?_ ?_
  · rintro i H2 hlt ⟨o2, S2, ds, g1, g2, g3⟩
    have ez : (0 : Int) + (i : Nat) = (i : Nat) := Int.zero_add _
    rw [ez]
    have v0 : ((wipe σ [8]).set 8 (some (nI i)))[0]? = some (some (.ref a)) := by
      show ((σ.set 8 none).set 8 (some (nI i)))[0]? = _
      rw [List.getElem?_set_ne (by decide), List.getElem?_set_ne (by decide)]
      exact h0
    have v8 : ((wipe σ [8]).set 8 (some (nI i)))[8]? = some (some (nI i)) := by
      show ((σ.set 8 none).set 8 (some (nI i)))[8]? = _
      rw [List.getElem?_set_self (by rw [List.length_set]; omega)]
    refine ⟨?_, ?_⟩
    · show ((σ.set 8 none).set 8 _).set 8 none = σ.set 8 none
      rw [List.set_set, List.set_set]
    refine x_draw (n := 2) S2 (by decide) (by decide) (ev_var v0) ev_c fun d H3 hd o3 S3 => ⟨rfl, _, rfl, ?_⟩
    have g1' := o3 _ _ nDa g1
    refine ite2 (fun _ => ?_) (fun _ => ?_)
    · refine ⟨_, v8, ds.map nI, g1', sz_lt (by rw [List.length_map]; omega), off_put2 (o2.trans o3) hD _, S3.put nDa nDc _, ds ++ [i], by rw [upd_same, List.map_append]; rfl, by rw [List.length_append, List.length_singleton]; omega, fun x hx => ?_⟩
      rcases List.mem_append.mp hx with hx | hx
      · exact g3 x hx
      · rw [List.mem_singleton.mp hx]
        omega
    · exact ⟨o2.trans o3, S3, ds, g1', by omega, g3⟩
  · rintro H2 ⟨o2, S2, ds, g1, g2, g3⟩
    refine ⟨D, _, rfl, .inl ⟨SqL.of g1, fun l hl' => ?_⟩⟩
    have s3 := same_new hl' (.tup (ds.map nI))
    exact q _ _ (o2.trans (off_of s3)) (S2.mono s3) ⟨ds, ⟨l, rfl, upd_same⟩, by omega, g3⟩
theorem c_tiny (T : Glob K mg) (y : Called P w K mg base 1 "_law_draw" ["_law_state", "_law_limit"] spDraw) (yp : Called P w K mg base 1 "_law_product" ["_law_kind", "_law_count", "_law_x", "_law_y"] spProd) (h : Here K mg "_law_tiny_reader" sTiny) : Called P w K mg base 2 "_law_tiny_reader" ["_law_state", "_law_labels", "_law_count"] spTiny := by
  obtain ⟨f, fd, F, m⟩ := h
  obtain ⟨fy, fyd, Gy, my, ky, by_⟩ := y
  obtain ⟨fp, fpd, Gp, mp, kp, bp⟩ := yp
  refine ⟨f, fd, F.ok scTiny (fun vs H Q E h => ?_) (fun cdv A outer s H vs Q E hr h => ?_), m, F.kp, F.binds fun _ _ _ _ _ _ us hl => match us, hl with | [_, _, _], _ => rfl⟩
  · obtain ⟨a, c, al, nl, nc, nr, n, rfl, _⟩ := h; rfl
  · obtain ⟨a, c, al, nl, nc, nr, n, rfl, S, hal, hnl, hnc, hnr, h0, hn, q⟩ := h
    refine ⟨_, pss_cons (ps_set (i := 3) scTiny.nd rfl (Or.inr rfl) (pe_call Gy hr rfl my ky by_ .nil pass0 (pa_cons (pv 0) (pa_cons pe_int pa_nil))))
      (pss_cons (ps_set (i := 4) scTiny.nd rfl (Or.inl rfl) (pe_callTy (r := rTupS K) cr_tup rfl T.tup (by decide +kernel) (pa_cons
        (pe_lc (own := [("_law_x", 8)]) (g := gName 8) (tt := tYes) rfl scTiny.nd (pi_range1 rfl T.rng (pa_cons (pv 2) pa_nil)) (blkOk_by (N := nTiny) (sc := defScope sTiny) (by decide +kernel)) (fun _ _ _ _ _ => pg_name (i := 8) scTiny.nd rfl (Or.inr rfl)) (fun _ _ _ _ _ => pts_nil)
          (fun _ _ _ _ _ => pe_callTy (r := rTupS K) cr_tup rfl T.tup (by decide +kernel) (pa_cons
            (pe_lc (own := [("_law_y", 9)]) (g := gName 9) (tt := tYes) rfl scTiny.nd (pi_range1 rfl T.rng (pa_cons (pv 2) pa_nil)) (blkOk_by (N := nTiny) (sc := relS scMul (defScope sTiny)) (by decide +kernel)) (fun _ _ _ _ _ => pg_name (i := 9) scTiny.nd rfl (Or.inl rfl)) (fun _ _ _ _ _ => pts_nil)
              (fun _ _ _ _ _ => pe_call Gp hr rfl mp kp bp .nil pass0 (pa_cons (pv 3) (pa_cons (pv 2) (pa_cons (pv 8) (pa_cons (pv 9) pa_nil)))))) pa_nil))) pa_nil)))
      (pss_cons (ps_set (i := 5) scTiny.nd rfl (Or.inl rfl) (pe_callTy (r := rTupS K) cr_tup rfl T.tup (by decide +kernel) (pa_cons
        (pe_lc (own := [("_law_k", 10)]) (g := gName 10) (tt := tYes) rfl scTiny.nd (pi_range1 rfl T.rng (pa_cons (pe_ix (r := rIxT K) ix_tup (pv 1) pe_int (fun _ _ => rfl)) pa_nil)) (blkOk_by (N := nTiny) (sc := defScope sTiny) (by decide +kernel)) (fun _ _ _ _ _ => pg_name (i := 10) scTiny.nd rfl (Or.inl rfl)) (fun _ _ _ _ _ => pts_nil)
          (fun _ _ _ _ _ => pe_call Gy hr rfl my ky by_ .nil pass0 (pa_cons (pv 0) (pa_cons (pv 2) pa_nil)))) pa_nil)))
      (pss_cons (ps_set (i := 6) scTiny.nd rfl (Or.inl rfl) (pe_callTy (r := rTupS K) cr_tup rfl T.tup (by decide +kernel) (pa_cons
        (pe_lc (own := [("_law_a", 12)]) (g := gName 12) (tt := tYes) rfl scTiny.nd (pi_range1 rfl T.rng (pa_cons (pe_ix (r := rIxT K) ix_tup (pv 1) pe_int (fun _ _ => rfl)) pa_nil)) (blkOk_by (N := nTiny) (sc := defScope sTiny) (by decide +kernel)) (fun _ _ _ _ _ => pg_name (i := 12) scTiny.nd rfl (Or.inl rfl)) (fun _ _ _ _ _ => pts_nil)
          (fun _ _ _ _ _ => pe_callTy (r := rTupS K) cr_tup rfl T.tup (by decide +kernel) (pa_cons
            (pe_lc (own := [("_law_b", 11)]) (g := gName 11) (tt := tYes) rfl scTiny.nd (pi_range1 rfl T.rng (pa_cons (pe_ix (r := rIxT K) ix_tup (pv 1) pe_int (fun _ _ => rfl)) pa_nil)) (blkOk_by (N := nTiny) (sc := relS scWrapA (defScope sTiny)) (by decide +kernel)) (fun _ _ _ _ _ => pg_name (i := 11) scTiny.nd rfl (Or.inl rfl)) (fun _ _ _ _ _ => pts_nil)
              (fun _ _ _ _ _ => pe_callTy (r := rTupS K) cr_tup rfl T.tup (by decide +kernel) (pa_cons
                (pe_lc (own := [("_law_x", 8)]) (g := gName 8) (tt := tYes) rfl scTiny.nd (pi_range1 rfl T.rng (pa_cons (pv 2) pa_nil)) (blkOk_by (N := nTiny) (sc := relS scWrapB (relS scWrapA (defScope sTiny))) (by decide +kernel)) (fun _ _ _ _ _ => pg_name (i := 8) scTiny.nd rfl (Or.inl rfl)) (fun _ _ _ _ _ => pts_nil)
                  (fun _ _ _ _ _ => pe_call Gy hr rfl my ky by_ .nil pass0 (pa_cons (pv 0) (pa_cons (pv 2) pa_nil)))) pa_nil))) pa_nil))) pa_nil)))
      (pss_cons (ps_set (i := 7) scTiny.nd rfl (Or.inl rfl) (pe_callTy (r := rTupS K) cr_tup rfl T.tup (by decide +kernel) (pa_cons
        (pe_lc (own := [("_law_x", 8)]) (g := gName 8) rfl scTiny.nd (pi_range1 rfl T.rng (pa_cons (pv 2) pa_nil)) (blkOk_by (N := nTiny) (sc := defScope sTiny) (by decide +kernel)) (fun _ _ _ _ _ => pg_name (i := 8) scTiny.nd rfl (Or.inl rfl)) (fun _ _ _ _ _ => pts_one (pt_cmpR op_eq (pe_call Gy hr rfl my ky by_ .nil pass0 (pa_cons (pv 0) (pa_cons pe_int pa_nil))) pe_int (nomark _)))
          (fun _ _ _ _ _ => pv 8)) pa_nil)))
      (pss_one (ps_ret (pe_tup (pa_cons (pv 1) (pa_cons pe_int (pa_cons (pv 5) (pa_cons (pv 4) (pa_cons (pv 6) (pa_cons (pv 7) pa_nil))))))))))))), ?_⟩
    -- kind
    refine s_es (H0 := H) (es_draw (n := 4) (by decide) (by decide) (fun _ _ => ev_var rfl) (fun _ _ => ev_c)) (Tps.refl _) S fun vk H1 o1 S1 t1 hk => ?_
    obtain ⟨kd, rfl, _⟩ := hk
    have hal1 := t1 _ _ hal
    refine st_is [some (.ref a), some (.ref al), some (nI n), some (nI kd), none, none, none, none, none, none, none, none, none] rfl ?_
    -- mul
    refine s_es (H0 := H1) (es_tuple (K := K) (n := n) (TupOf.lasts Below.lasts) (by omega) (fun _ _ => ev_var rfl) (fun _ => rfl) fun x hx => es_tuple (K := K) (n := n) Below.lasts (by omega) (fun _ _ => ev_var rfl) (fun _ => rfl) fun y hy => es_prod (kd := kd) (n := n) (x := x) (y := y) hx hy hn (fun _ => ev_var rfl) (fun _ => ev_var rfl) (fun _ => ev_var rfl) (fun _ => ev_var rfl)) (Tps.refl _) S1 fun vm H2 o2 S2 t2 hm => ?_
    have hal2 := t2 _ _ hal1
    refine st_is [some (.ref a), some (.ref al), some (nI n), some (nI kd), some vm, none, none, none, none, none, none, none, none] rfl ?_
    -- letters
    have lab : ∀ (j : Nat) (σ : L2.St) (H' : Hp), Tps H2 H' → σ[1]? = some (some (.ref al)) → j < 3 → Ev (tOp (rIxT K) (tVar 1) (tC (.int (j : Nat)))) σ H' (nI ([nl, nc, nr].getD j 0)) := fun j σ H' t hσ hj => ev_row (K := K) (xs := [nl, nc, nr]) ⟨al, rfl, t _ _ hal2⟩ (ev_var hσ) ev_c hj
    refine s_es (H0 := H2) (es_tuple (K := K) (n := nl) (Below.lasts (n := n)) (by omega) (fun H' t => lab 0 _ H' t rfl (by decide)) (fun _ => rfl) fun x hx => es_draw (n := n) h0 (by omega) (fun _ _ => ev_var rfl) (fun _ _ => ev_var rfl)) (Tps.refl _) S2 fun vle H3 o3 S3 t3 hle => ?_
    refine st_is [some (.ref a), some (.ref al), some (nI n), some (nI kd), some vm, some vle, none, none, none, none, none, none, none] rfl ?_
    -- wrap
    refine s_es (H0 := H2) (es_tuple (K := K) (n := nc) (TupOf.lasts (TupOf.lasts (Below.lasts (n := n)))) (by omega) (fun H' t => lab 1 _ H' t rfl (by decide)) (fun _ => rfl) fun x hx => es_tuple (K := K) (n := nr) (TupOf.lasts (Below.lasts (n := n))) (by omega) (fun H' t => lab 2 _ H' t rfl (by decide)) (fun _ => rfl) fun y hy => es_tuple (K := K) (n := n) (Below.lasts (n := n)) (by omega) (fun _ _ => ev_var rfl) (fun _ => rfl) fun z hz => es_draw (n := n) h0 (by omega) (fun _ _ => ev_var rfl) (fun _ _ => ev_var rfl)) t3 S3 fun vw H4 o4 S4 t4 hwr => ?_
    refine st_is [some (.ref a), some (.ref al), some (nI n), some (nI kd), some vm, some vle, some vw, none, none, none, none, none, none] rfl ?_
    -- accepted
    refine s_es (H0 := H4) (es_accept (K := K) hn rfl rfl rfl) (Tps.refl _) S4 fun va H5 o5 S5 t5 hac => ?_
    refine st_is [some (.ref a), some (.ref al), some (nI n), some (nI kd), some vm, some vle, some vw, some va, none, none, none, none, none] rfl ?_
    obtain ⟨mu, m1, m2⟩ := mat_of hm
    obtain ⟨le, e1, e2⟩ := row_of hle
    obtain ⟨wr, w1, w2, w3⟩ := cub_of hwr
    obtain ⟨ac, a1, a2, a3⟩ := hac
    refine ⟨_, rfl, _, rfl, _, rfl, _, rfl, _, rfl, small 6, fun r hr' => ?_⟩
    have s6 := same_new hr' (.tup [V.ref al, .int 0, vle, vm, vw, va])
    obtain ⟨hf, hN⟩ := fits_of (nl := nl) (nc := nc) (nr := nr) h0 e2 m2 w2 w3 a3
    have t6 := tps_of s6
    refine q r ⟨nl, nc, nr, 0, le, mu, wr, ac⟩ _ ((((o1.trans o2).trans (o3.trans o4)).trans o5).trans (off_of s6)) (S5.mono s6) ⟨.ref al, vle, vm, vw, va, upd_same, ⟨al, rfl, t6 _ _ (t5 _ _ (t4 _ _ (t3 _ _ hal2)))⟩, e1.tps (t4.trans (t5.trans t6)), m1.tps (t3.trans (t4.trans (t5.trans t6))), w1.tps (t5.trans t6), a1.tps t6⟩ ⟨hf, by rw [hN]; exact hn, hnl, hnc, hnr, a2⟩ rfl rfl rfl hN
end
end K46

/-! How long and how deep the sentences of the law's readers are. -/
namespace K46
structure BP (p : Pt) (s d : Nat) : Prop where
  s : sz p ≤ s
  d : dep p ≤ d
  k : isP p = true
structure BT (p : Pt) (s d : Nat) : Prop where
  s : sz p ≤ s
  d : dep p ≤ d
  k : isT p = true
theorem BP.mono {p : Pt} {s d s' d' : Nat} (h : BP p s d) (h1 : s ≤ s') (h2 : d ≤ d') : BP p s' d' := ⟨Nat.le_trans h.s h1, Nat.le_trans h.d h2, h.k⟩
theorem BT.mono {p : Pt} {s d s' d' : Nat} (h : BT p s d) (h1 : s ≤ s') (h2 : d ≤ d') : BT p s' d' := ⟨Nat.le_trans h.s h1, Nat.le_trans h.d h2, h.k⟩
theorem bp_set (v : Nat) : BP (.set v) 1 1 := ⟨Nat.le_refl _, Nat.le_refl _, rfl⟩
theorem bp_pl (p : Pl) : BP (.pl p) 1 1 := ⟨Nat.le_refl _, Nat.le_refl _, rfl⟩
theorem bp_not {p : Pt} {s d : Nat} (h : BP p s d) : BP (.un .not p) (s + 1) (d + 1) := ⟨Nat.succ_le_succ h.s, Nat.succ_le_succ h.d, h.k⟩
theorem bp_and {p q : Pt} {s d s' d' : Nat} (h : BP p s d) (h' : BP q s' d') : BP (.bin .and p q) (s + s' + 1) (max d d' + 1) := by
  refine ⟨?_, ?_, ?_⟩
  · have := h.s
    have := h'.s
    show sz p + sz q + 1 ≤ _
    omega
  · have := h.d
    have := h'.d
    show max (dep p) (dep q) + 1 ≤ _
    omega
  · show (isP p && isP q) = true
    rw [h.k, h'.k]
    rfl
theorem bp_if {p q : Pt} {s d s' d' : Nat} (h : BP p s d) (h' : BP q s' d') : BP (ifThenP p q) (s + s' + 3) (max d (d' + 1) + 2) := by
  have := bp_not (bp_and h (bp_not h'))
  exact this.mono (by omega) (by omega)
theorem bp_yes : BP yesP 5 4 := ⟨by decide, by decide, rfl⟩
theorem bp_every {s d : Nat} : ∀ {ps : List Pt}, (∀ p ∈ ps, BP p s d) → BP (everyP ps) (ps.length * (s + 1) + 5) (ps.length + max d 4)
  | [], _ => bp_yes.mono (by simp) (by simp; omega)
  | p :: r, h => by
    have ih := bp_every fun q hq => h q (List.mem_cons_of_mem _ hq)
    have := bp_and (h p List.mem_cons_self) ih
    refine this.mono ?_ ?_
    · rw [List.length_cons, Nat.succ_mul]
      omega
    · rw [List.length_cons]
      omega
theorem bp_some {s d : Nat} : ∀ {ps : List Pt}, (∀ p ∈ ps, BP p s d) → BP (someP ps) (ps.length * (s + 4) + 6) (3 * ps.length + max d 5)
  | [], _ => (bp_not bp_yes).mono (by simp) (by simp; omega)
  | p :: r, h => by
    have ih := bp_some fun q hq => h q (List.mem_cons_of_mem _ hq)
    have := bp_not (bp_and (bp_not (h p List.mem_cons_self)) (bp_not ih))
    refine this.mono ?_ ?_
    · rw [List.length_cons, Nat.succ_mul]
      omega
    · rw [List.length_cons]
      omega
theorem bt_un {o : Un} {p : Pt} {s d : Nat} (h : BP p s d) (ho : o = .all ∨ o = .first ∨ o = .last) : BT (.un o p) (s + 1) (d + 1) := by
  rcases ho with rfl | rfl | rfl <;> exact ⟨Nat.succ_le_succ h.s, Nat.succ_le_succ h.d, h.k⟩
theorem bt_bin {o : Bin} {p q : Pt} {s d s' d' : Nat} (h : BP p s d) (h' : BP q s' d') (ho : o = .next ∨ o = .arch) : BT (.bin o p q) (s + s' + 1) (max d d' + 1) := by
  have h1 := bp_and h h'
  rcases ho with rfl | rfl <;> exact ⟨h1.s, h1.d, h1.k⟩
theorem bt_both {p q : Pt} {s d s' d' : Nat} (h : BT p s d) (h' : BT q s' d') : BT (.bin .both p q) (s + s' + 1) (max d d' + 1) := by
  refine ⟨?_, ?_, ?_⟩
  · have := h.s
    have := h'.s
    show sz p + sz q + 1 ≤ _
    omega
  · have := h.d
    have := h'.d
    show max (dep p) (dep q) + 1 ≤ _
    omega
  · show (isT p && isT q) = true
    rw [h.k, h'.k]
    rfl
theorem bt_fold {s d : Nat} : ∀ {ps : List Pt}, (∀ p ∈ ps, BT p s d) → BT (ps.foldr (fun p m => .bin .both p m) (.un .all yesP)) (ps.length * (s + 1) + 6) (ps.length + max d 5)
  | [], _ => (bt_un bp_yes (.inl rfl)).mono (by simp) (by simp; omega)
  | p :: r, h => by
    have ih := bt_fold fun q hq => h q (List.mem_cons_of_mem _ hq)
    have := bt_both (h p List.mem_cons_self) ih
    refine this.mono ?_ ?_
    · rw [List.length_cons, Nat.succ_mul]
      omega
    · rw [List.length_cons]
      omega
theorem bt_there {p : Pt} {s d : Nat} (h : BT p s d) : ∀ n : Nat, BT (thereN n p) (s + n) (d + 2 * n)
  | 0 => h
  | n + 1 => by
    have ih := bt_there h n
    refine ⟨?_, ?_, ih.k⟩
    · have := ih.s
      show sz (thereN n p) + 1 ≤ _
      omega
    · have := ih.d
      show dep (thereN n p) + 2 ≤ _
      omega
theorem bt_denied {p : Pt} {s d : Nat} (h : BT p s d) : BT (.un .denied p) (s + 1) (d + 1) := ⟨Nat.succ_le_succ h.s, Nat.succ_le_succ h.d, h.k⟩
theorem bt_nothing : BT .nothing 1 1 := ⟨Nat.le_refl _, Nat.le_refl _, rfl⟩
section
variable {R : Rd} (h : Small R)
include h
theorem b_behind (u : Nat) : BP (behindP R u) 41 10 := by
  have h1 := h.nl
  have h2 := h.nc
  have h3 := h.nr
  refine (bp_every (s := 5) (d := 4) (ps := behindL R u) fun p hp => ?_).mono ?_ ?_
  · rcases List.mem_append.mp hp with hp | hp
    · obtain ⟨a, _, rfl⟩ := List.mem_map.mp hp
      exact bp_if (bp_pl _) (bp_set _)
    rcases List.mem_append.mp hp with hp | hp
    · obtain ⟨a, _, rfl⟩ := List.mem_map.mp hp
      exact bp_if (bp_pl _) (bp_set _)
    · obtain ⟨a, _, rfl⟩ := List.mem_map.mp hp
      exact bp_if (bp_pl _) (bp_set _)
  · simp only [behindL, List.length_append, List.length_map, List.length_range]
    omega
  · simp only [behindL, List.length_append, List.length_map, List.length_range]
    omega
theorem b_call : BP (callP R) 16 11 := by
  have h2 := h.nc
  refine (bp_some (s := 1) (d := 1) fun p hp => ?_).mono ?_ ?_
  · obtain ⟨a, _, rfl⟩ := List.mem_map.mp hp
    exact bp_pl _
  · simp only [List.length_map, List.length_range]
    omega
  · simp only [List.length_map, List.length_range]
    omega
theorem b_apart : BP (everyP (apartL R)) 33 9 := by
  have h1 := h.n
  have hl : (apartL R).length = R.n * R.n := flat_len _ _ _
  have hm : R.n * R.n ≤ 2 * 2 := Nat.mul_le_mul h1 h1
  refine (bp_every (s := 6) (d := 5) fun p hp => ?_).mono ?_ ?_
  · obtain ⟨v, _, hp⟩ := List.mem_flatMap.mp hp
    obtain ⟨w, _, rfl⟩ := List.mem_map.mp hp
    unfold apartP
    split
    · exact bp_yes.mono (by decide) (by decide)
    · exact bp_if (bp_set _) (bp_not (bp_set _))
  · rw [hl]
    omega
  · rw [hl]
    omega
theorem b_arch (u a : Nat) : BT (archP R u a) 41 9 := by
  have h1 := h.n
  have h3 := h.nr
  have hl : (archL R u a).length = R.nr * R.n := flat_len _ _ _
  have hm : R.nr * R.n ≤ 2 * 2 := Nat.mul_le_mul h3 h1
  refine (bt_bin (bp_and (bp_pl _) (bp_set _)) (bp_every (s := 7) (d := 4) (ps := archL R u a) fun p hp => ?_) (.inr rfl)).mono ?_ ?_
  · obtain ⟨v, _, hp⟩ := List.mem_flatMap.mp hp
    obtain ⟨w, _, rfl⟩ := List.mem_map.mp hp
    exact bp_if (bp_and (bp_pl _) (bp_set _)) (bp_set _)
  · rw [hl]
    omega
  · rw [hl]
    omega
theorem b_walk : BT (walkP R) 700 30 := by
  have h1 := h.n
  have h2 := h.nc
  have h4 := h.a
  have hl : (walkL R).length ≤ 10 := by
    have hm : R.n * R.nc ≤ 2 * 2 := Nat.mul_le_mul h1 h2
    have ha : (archesL R).length = R.n * R.nc := flat_len _ _ _
    have hn : (nextL R).length = R.n := by
      unfold nextL
      rw [List.length_map, List.length_range]
    have hh : (headL R).length = 4 := rfl
    unfold walkL
    rw [List.length_append, List.length_append, ha, hn, hh]
    omega
  refine (bt_fold (s := 62) (d := 14) fun p hp => ?_).mono ?_ ?_
  · rcases List.mem_append.mp hp with hp | hp
    · simp only [headL, List.mem_cons, List.not_mem_nil, or_false] at hp
      rcases hp with rfl | rfl | rfl | rfl
      · exact (bt_un (b_apart h) (.inl rfl)).mono (by decide) (by decide)
      · exact (bt_un (b_behind h _) (.inr (.inl rfl))).mono (by decide) (by decide)
      · exact (bt_bin (b_call h) (b_behind h _) (.inl rfl)).mono (by decide) (by decide)
      · refine (bt_un (bp_some (s := 1) (d := 1) fun p hp => ?_) (.inr (.inr rfl))).mono ?_ ?_
        · obtain ⟨v, _, rfl⟩ := List.mem_map.mp hp
          exact bp_set _
        · rw [List.length_map]
          omega
        · rw [List.length_map]
          omega
    rcases List.mem_append.mp hp with hp | hp
    · obtain ⟨u, _, rfl⟩ := List.mem_map.mp hp
      exact (bt_bin (bp_and (bp_not (b_call h)) (bp_set _)) (b_behind h _) (.inl rfl)).mono (by decide) (by decide)
    · obtain ⟨u, _, hp⟩ := List.mem_flatMap.mp hp
      obtain ⟨a, _, rfl⟩ := List.mem_map.mp hp
      exact (b_arch h _ _).mono (by decide) (by decide)
  · have : (walkL R).length * 63 ≤ 10 * 63 := Nat.mul_le_mul_right _ hl
    omega
  · omega
theorem b_sent : BT (sentP R) 800 50 := by
  have h1 := h.n
  have hw := bt_there (b_walk h) (2 * R.n)
  have hs := bt_denied bt_nothing
  unfold sentP
  split
  · exact (bt_denied (bt_both hs (bt_denied hw))).mono (by omega) (by omega)
  · exact (bt_both hs hw).mono (by omega) (by omega)
end
end K46

/-! law. -/
namespace K46
open PySem L2 Evl
section
variable {P : Program} {w : World} {K : PySem.W.Frag} {mg : Str → Option Value} {base : Heap}
def spLaw (K : PySem.W.Frag) : Sp := fun vs H Q _ => ∃ (a : Addr) (ns : List Int), vs = [.ref a] ∧ SqL K H a (ns.map V.int) ∧ ns.length ≤ 63 ∧ ∀ H', Q (.bl true) H'
abbrev nLaw : List Str := ["_law_script", "_law_state", "_law_k", "_law_labels", "_law_count", "_law_reader", "_law_lines", "_law_row"]
theorem scLaw : FnScope nLaw ["_law_script"] (defScope sLaw) := ⟨rfl, rfl, rfl, by decide +kernel, rfl, by decide +kernel, by decide +kernel⟩
theorem cr_list {X : Cx} : CallR X (.type "list") (rListS X.K) := call_list_of
theorem bears_sent (p : Pt) : Bears (lay 0 p) (sz p - 1) p := by
  have h := bears_lay p []
  rw [List.nil_append, List.length_nil, Nat.zero_add] at h
  exact h
/-- _law_so over the sentence of the reader -/
theorem x_so {σ : L2.St} {H : Hp} {t3 : TE} {E : XK} {L : Addr} {R : Rd} {row : List Pl} {Q : VK} (hs : Small R) (hL : LinesAt H L (lay 0 (sentP R))) (h6 : σ[6]? = some (some (.ref L))) (hn : row.length ≤ 4) (hc : Closes row)
    (h3 : ∀ Q' : VK, (∀ rw H', Same H H' → RowAt H' rw row → Q' (.ref rw) H') → t3 σ H Q') (q : ∀ H', Same H H' → Q (.bl (evalT row (sentP R) [])) H') :
    tCall (spSo 60) [] E (tCons (tVar 6) (tCons (tOp (rI0 fun i j => .int (i - j)) (tCB (rLenS K) (tCons (tVar 6) tNil)) (tC (.int 1))) (tCons t3 (tCons (tLst tNil) tNil)))) σ H Q := by
  obtain ⟨vs, g1, g2⟩ := id hL
  have b := b_sent hs
  have ls := sz_pos (sentP R)
  have lv : vs.length = sz (sentP R) := by rw [g2.length, lay_len]
  refine ⟨_, h6, _, h6, L, vs, rfl, .inr (SqT.of g1), _, _, rfl, rfl, ?_⟩
  refine h3 _ fun rw H1 e1 hrow => ⟨small 0, fun st hst => ?_⟩
  have s2 := e1.trans (same_new hst (.lst []))
  refine ⟨L, sz (sentP R) - 1, rw, st, lay 0 (sentP R), row, [], sentP R, ?_, ⟨hL.mono s2, hrow.mono (same_new hst _), ⟨[], upd_same, .nil⟩, hn, hc⟩, by decide, bears_sent _, b.k, ?_, ?_, fun H' e => q H' (s2.trans e)⟩
  · have en : ((vs.length : Nat) : Int) - 1 = ((sz (sentP R) - 1 : Nat) : Int) := by omega
    show [V.ref L, V.int (((vs.length : Nat) : Int) - 1), V.ref rw, V.ref st] = [V.ref L, V.int ((sz (sentP R) - 1 : Nat) : Int), V.ref rw, V.ref st]
    rw [en]
  · have := b.d
    show 0 + dep (sentP R) ≤ 1000
    omega
  · have := b.d
    omega
theorem x_accepts {σ : L2.St} {H : Hp} {t2 : TE} {E : XK} {r : Addr} {R : Rd} {row : List Pl} {Q : VK} (hs : Small R) (hR : RdAt H r R) (h5 : σ[5]? = some (some (.ref r))) (hn : row.length ≤ 4) (hc : Closes row) (hl : Lab R row)
    (h2 : ∀ Q' : VK, (∀ rw H', Same H H' → RowAt H' rw row → Q' (.ref rw) H') → t2 σ H Q') (q : ∀ H', Same H H' → Q (.bl (accepts R row)) H') :
    tCall spAccepts [] E (tCons (tVar 5) (tCons t2 tNil)) σ H Q :=
  ⟨_, h5, h2 _ fun rw H1 e1 hrow => ⟨r, rw, R, row, rfl, rdAt_mono e1 hR, hs, hrow, by omega, hc, hl, fun H' e => q H' (e1.trans e)⟩⟩
theorem rdAt_tps {H H' : Hp} (e : Tps H H') {a : Addr} {R : Rd} (h : RdAt H a R) : RdAt H' a R := by
  obtain ⟨vl, vle, vm, vw, va, q⟩ := h
  exact ⟨vl, vle, vm, vw, va, q.tps e⟩
theorem row_none {σ : L2.St} {H : Hp} (Q' : VK) (k : ∀ rw H', Same H H' → RowAt H' rw [] → Q' (.ref rw) H') : tLst tNil σ H Q' := ⟨small 0, fun p hp => k p _ (same_new hp _) ⟨[], upd_same, .nil⟩⟩
theorem es_label {σ : L2.St} {a c : Addr} {H0 : Hp} (h1 : σ[1]? = some (some (.ref a))) : ES a c H0 (tOp (rI0 fun i j => .int (i + j)) (tC (.int 1)) (tCall spDraw [] E0 (tCons (tVar 1) (tCons (tC (.int 2)) tNil)))) σ (fun _ v => ∃ d : Nat, v = nI d ∧ 0 < d ∧ d ≤ 2) := fun H t S Q q => by
  have r : tCall spDraw [] E0 (tCons (tVar 1) (tCons (tC (.int 2)) tNil)) σ H (fun y H2 => rI0 (fun i j => .int (i + j)) (.int 1) y H2 Q) := x_draw (n := 2) S (by decide) (by decide) (ev_var h1) ev_c fun d H2 hd o S2 => by
    refine ⟨1, ((d : Nat) : Int), rfl, rfl, ?_⟩
    have e : (1 : Int) + ((d : Nat) : Int) = ((d + 1 : Nat) : Int) := by omega
    show Q (.int ((1 : Int) + ((d : Nat) : Int))) H2
    rw [e]
    exact q _ H2 o S2 ⟨d + 1, rfl, by omega, by omega⟩
  exact r
theorem c_law (T : Glob K mg) (yd : Called P w K mg base 1 "_law_draw" ["_law_state", "_law_limit"] spDraw) (yt : Called P w K mg base 2 "_law_tiny_reader" ["_law_state", "_law_labels", "_law_count"] spTiny)
    (ys : Called P w K mg base 6 "sentence_for" ["reader"] spSent) (yx : Called P w K mg base 2 "_law_text" ["_law_state", "_law_labels", "_law_most"] spText) (yo : Called P w K mg base 122 "_law_so" aSo (spSo 60)) (ya : Called P w K mg base 4 "accepts" ["reader", "text"] spAccepts) {f : Addr} {fd : FuncData} (F : Fun K "law" "law" sLaw f fd) :
    FnOk P w K mg base CX0 123 f fd ["_law_script"] (spLaw K) := by
  obtain ⟨fD, fDd, GD, mD, kD, bD⟩ := yd
  obtain ⟨fT, fTd, GT, mT, kT, bT⟩ := yt
  obtain ⟨fS, fSd, GS, mS, kS, bS⟩ := ys
  obtain ⟨fX, fXd, GX, mX, kX, bX⟩ := yx
  obtain ⟨fO, fOd, GO, mO, kO, bO⟩ := yo
  obtain ⟨fA, fAd, GA, mA, kA, bA⟩ := ya
  refine F.ok scLaw (fun vs H Q E h => ?_) (fun cdv A outer s H vs Q E hr h => ?_)
  · obtain ⟨a, ns, rfl, _⟩ := h; rfl
  · obtain ⟨sc, ns, rfl, hS, hlen, q⟩ := h
    have hr1 := hr.mono (show 1 ≤ 122 by decide)
    have hr2 := hr.mono (show 2 ≤ 122 by decide)
    have hr4 := hr.mono (show 4 ≤ 122 by decide)
    have hr6 := hr.mono (show 6 ≤ 122 by decide)
    refine ⟨_, pss_cons (ps_set (i := 1) scLaw.nd rfl (Or.inr rfl) (pe_lst (pa_cons pe_int (pa_cons pe_int (pa_cons (pe_callTy (r := rListS K) cr_list rfl T.lst (by decide +kernel) (pa_cons (pv 0) pa_nil)) (pa_cons pe_int pa_nil))))))
      (pss_cons (ps_set (i := 3) scLaw.nd rfl (Or.inl rfl) (pe_callTy (r := rTupS K) cr_tup rfl T.tup (by decide +kernel) (pa_cons (pe_lc (own := [("_law_k", 2)]) (g := gName 2) (tt := tYes) rfl scLaw.nd (pi_range1 rfl T.rng (pa_cons pe_int pa_nil)) (blkOk_by (N := nLaw) (sc := defScope sLaw) (by decide +kernel)) (fun _ _ _ _ _ => pg_name (i := 2) scLaw.nd rfl (Or.inl rfl)) (fun _ _ _ _ _ => pts_nil)
          (fun _ _ _ _ _ => pe_op op_add pe_int (pe_call GD hr1 rfl mD kD bD .nil pass0 (pa_cons (pv 1) (pa_cons pe_int pa_nil))))) pa_nil)))
      (pss_cons (ps_set (i := 4) scLaw.nd rfl (Or.inl rfl) (pe_op op_add pe_int (pe_callTy (r := rInt) cr_int0 rfl T.int (by decide +kernel) (pa_cons (pe_cmpR op_eq (pe_call GD hr1 rfl mD kD bD .nil pass0 (pa_cons (pv 1) (pa_cons pe_int pa_nil))) pe_int (nomark _)) pa_nil))))
      (pss_cut (ps_if (pt_cmpR op_eq (pv 4) pe_int (nomark _)) (pss_one (ps_set (i := 3) scLaw.nd rfl (Or.inl rfl) (pe_tup (pa_cons pe_int (pa_cons pe_int (pa_cons pe_int pa_nil)))))) pss_nil)
      (pss_cons (ps_set (i := 5) scLaw.nd rfl (Or.inl rfl) (pe_call GT hr2 rfl mT kT bT .nil pass0 (pa_cons (pv 1) (pa_cons (pv 3) (pa_cons (pv 4) pa_nil)))))
      (pss_cons (ps_set (i := 6) scLaw.nd rfl (Or.inl rfl) (pe_call GS hr6 rfl mS kS bS .nil pass0 (pa_cons (pv 5) pa_nil)))
      (pss_cons (ps_for PassesOwn.never rfl (pi_range1 rfl T.rng (pa_cons pe_int pa_nil)) (pg_name (i := 2) scLaw.nd rfl (Or.inl rfl))
        (pss_cons (ps_set (i := 7) scLaw.nd rfl (Or.inl rfl) (pe_call GX hr2 rfl mX kX bX .nil pass0 (pa_cons (pv 1) (pa_cons (pv 3) (pa_cons (pe_op op_sub pe_int (pe_op op_mul pe_int (pv 4))) pa_nil)))))
        (pss_one (ps_if (PW.pt (pw_and (pt_cmpR op_le (pe_callB (r := rLenS K) cr_len rfl T.len PySem.boot_len (pa_cons (pv 7) pa_nil)) (pe_op op_sub pe_int (pe_op op_mul pe_int (pv 4))) (nomark _))
            (pw_and1 (pt_cmpR op_ne (pe_call GO hr rfl mO kO bO .nil pass0 (pa_cons (pv 6) (pa_cons (pe_op op_sub (pe_callB (r := rLenS K) cr_len rfl T.len PySem.boot_len (pa_cons (pv 6) pa_nil)) pe_int) (pa_cons (pv 7) (pa_cons (pe_lst pa_nil) pa_nil)))))
              (pe_call GA hr4 rfl mA kA bA .nil pass0 (pa_cons (pv 5) (pa_cons (pe_callTy (r := rListS K) cr_list rfl T.lst (by decide +kernel) (pa_cons (pv 7) pa_nil)) pa_nil))) (nomark _)))))
          (pss_one (ps_ret pe_bl)) pss_nil))))
      (pss_one (ps_ret (pe_cmpR op_eq (pe_call GO hr rfl mO kO bO .nil pass0 (pa_cons (pv 6) (pa_cons (pe_op op_sub (pe_callB (r := rLenS K) cr_len rfl T.len PySem.boot_len (pa_cons (pv 6) pa_nil)) pe_int) (pa_cons (pe_lst pa_nil) (pa_cons (pe_lst pa_nil) pa_nil)))))
          (pe_call GA hr4 rfl mA kA bA .nil pass0 (pa_cons (pv 5) (pa_cons (pe_lst pa_nil) pa_nil))) (nomark _)))))))))), ?_⟩
    -- the state
    refine ⟨_, rfl, sc, _, rfl, .inl hS, fun c hc => ⟨small 4, fun a ha => ?_⟩⟩
    have sca : c ≠ a := ne_of_none upd_same ha
    have S0 : StAt (upd (upd H c (.lst (ns.map V.int))) a (.lst [.int 0, .int 0, .ref c, .int 1])) a c := ⟨0, 0, 1, ns, upd_same, sca, by decide, by rw [upd_ne sca]; exact upd_same⟩
    generalize upd (upd H c (.lst (ns.map V.int))) a (.lst [.int 0, .int 0, .ref c, .int 1]) = H1 at *
    refine go_name ?_
    refine st_is [some (.ref sc), some (.ref a), none, none, none, none, none, none] rfl ?_
    -- the labels
    refine s_es (H0 := H1) (es_tuple (K := K) (n := 3) (Post := fun _ v => ∃ d : Nat, v = nI d ∧ 0 < d ∧ d ≤ 2) (fun _ _ _ _ z => z) (by decide) (fun _ _ => ev_c) (fun _ => rfl) fun i hi => es_label rfl) (Tps.refl _) S0 fun vl H2 o2 S2 t2 hl => ?_
    obtain ⟨al, xs, rfl, hal, h3, hx⟩ := hl
    obtain ⟨x1, x2, x3, rfl⟩ : ∃ x1 x2 x3, xs = [x1, x2, x3] := by
      match xs, h3 with
      | [x1, x2, x3], _ => exact ⟨x1, x2, x3, rfl⟩
    obtain ⟨nl, rfl, l1, l2⟩ := hx x1 (by simp)
    obtain ⟨nc, rfl, c1, c2⟩ := hx x2 (by simp)
    obtain ⟨nr, rfl, r1, r2⟩ := hx x3 (by simp)
    refine st_is [some (.ref sc), some (.ref a), none, some (.ref al), none, none, none, none] rfl ?_
    -- how many values
    refine x_draw (n := 4) S2 (by decide) (by decide) (ev_var rfl) ev_c fun d H3 hd o3 S3 => ⟨rfl, .inr ⟨_, rfl, _, _, rfl, rfl, ?_⟩⟩
    have t3 := S2.tps o3
    obtain ⟨n, en, n1, n2⟩ : ∃ n : Nat, V.int ((1 : Int) + (if decide (nI d = V.int 1) = true then 1 else 0)) = nI n ∧ 0 < n ∧ n ≤ 2 := by
      by_cases z : decide (nI d = V.int 1) = true
      · rw [if_pos z]
        exact ⟨2, rfl, by decide, by decide⟩
      · rw [if_neg z]
        exact ⟨1, rfl, by decide, by decide⟩
    refine go_name ?_
    refine st_is [some (.ref sc), some (.ref a), none, some (.ref al), some (nI n), none, none, none] (by rw [← en]; rfl) ?_
    refine ⟨fun σ' H' => ∃ (al nl nc nr : _), σ' = [some (.ref sc), some (.ref a), none, some (.ref al), some (nI n), none, none, none] ∧ H' al = some (.tup [nI nl, nI nc, nI nr]) ∧ 0 < nl ∧ nl ≤ 2 ∧ 0 < nc ∧ nc ≤ 2 ∧ 0 < nr ∧ nr ≤ 2 ∧ StAt H' a c, ?_, ?_⟩
    · refine ⟨_, rfl, rfl, _, rfl, ite2 (fun _ => ?_) (fun _ => ?_)⟩
      · refine ⟨small 3, fun p hp => ?_⟩
        refine go_name ?_
        exact ⟨p, 1, 1, 1, rfl, upd_same, by decide, by decide, by decide, by decide, by decide, by decide, S3.mono (same_new hp _)⟩
      · exact ⟨al, nl, nc, nr, rfl, t3 _ _ hal, l1, l2, c1, c2, r1, r2, S3⟩
    clear hal l1 l2 c1 c2 r1 r2 hx
    rintro σ' H4 ⟨al, nl, nc, nr, rfl, hal, l1, l2, c1, c2, r1, r2, S4⟩
    -- the reader
    refine ⟨_, rfl, _, rfl, _, rfl, a, c, al, nl, nc, nr, n, rfl, S4, hal, l2, c2, r2, n1, n2, fun r R H5 o5 S5 hR hsm e1 e2 e3 e4 => ?_⟩
    have t5 := S4.tps o5
    have hal5 := t5 _ _ hal
    refine go_name ?_
    refine st_is [some (.ref sc), some (.ref a), none, some (.ref al), some (nI n), some (.ref r), none, none] rfl ?_
    -- the sentence
    refine ⟨_, rfl, r, R, rfl, hR, hsm, Nat.le_trans (b_sent hsm).s (by decide), fun L H6 e6 hL => ?_⟩
    have hal6 := e6 _ _ hal5
    have S6 := S5.mono e6
    have hR6 := rdAt_mono e6 hR
    refine go_name ?_
    refine st_is [some (.ref sc), some (.ref a), none, some (.ref al), some (nI n), some (.ref r), some (.ref L), none] rfl ?_
    have labOf : ∀ row, Labs nl nc nr row → Lab R row := fun row h p hp => by
      have := h p hp
      have e : lim R p.k = lim3 nl nc nr p.k := by
        cases p.k with
        | letter => exact e1
        | call => exact e2
        | ret => exact e3
      rw [e]
      exact this
    have hE : EvA (tCons (tC (.int 2)) tNil) [some (.ref sc), some (.ref a), none, some (.ref al), some (nI n), some (.ref r), some (.ref L), none] H6 [.int 2] := ea_cons ev_c ea_nil
    refine s_forR1 (n := 2) hE (by decide) (fun i σ' H' => ∃ y2 y7, σ' = [some (.ref sc), some (.ref a), y2, some (.ref al), some (nI n), some (.ref r), some (.ref L), y7] ∧ StAt H' a c ∧ H' al = some (.tup [nI nl, nI nc, nI nr]) ∧ RdAt H' r R ∧ LinesAt H' L (lay 0 (sentP R)))
      (fun H7 e7 => ⟨_, _, rfl, S6.mono e7, e7 _ _ hal6, rdAt_mono e7 hR6, hL.mono e7⟩) ?_ ?_
    · rintro i σ' H7 hi ⟨y2, y7, rfl, S7, hal7, hR7, hL7⟩
      refine st_is [some (.ref sc), some (.ref a), some (nI i), some (.ref al), some (nI n), some (.ref r), some (.ref L), y7] rfl ?_
      have em : (6 : Int) - 2 * ((n : Nat) : Int) = ((6 - 2 * n : Nat) : Int) := by omega
      refine ⟨_, rfl, _, rfl, _, rfl, _, _, rfl, rfl, .inl ⟨by decide, by decide⟩, _, _, rfl, rfl, a, c, al, 6 - 2 * n, nl, nc, nr, ?_, S7, hal7, l1, l2, c1, c2, r1, r2, by omega, fun rw row H8 o8 S8 hrow hbal hlab hlen => ?_⟩
      · show [V.ref a, V.ref al, V.int ((6 : Int) - 2 * ((n : Nat) : Int))] = [V.ref a, V.ref al, V.int ((6 - 2 * n : Nat) : Int)]
        rw [em]
      have t8 := S7.tps o8
      have hal8 := t8 _ _ hal7
      have hR8 := rdAt_tps t8 hR7
      have hL8 := hL7.tps t8
      refine go_name ?_
      refine st_is [some (.ref sc), some (.ref a), some (nI i), some (.ref al), some (nI n), some (.ref r), some (.ref L), some (.ref rw)] rfl ?_
      obtain ⟨rs, g1, g2⟩ := row_len hrow
      refine ⟨_, rfl, rw, rs, rfl, .inl (SqL.of g1), _, rfl, _, _, rfl, rfl, .inl ⟨by decide, by decide⟩, _, _, rfl, rfl, _, _, rfl, rfl, _, rfl, ite2 (fun hle => ?_) (fun _ => ?_)⟩
      · have hle : ((rs.length : Nat) : Int) ≤ (6 : Int) - 2 * ((n : Nat) : Int) := of_decide_eq_true hle
        have hn4 : row.length ≤ 4 := by omega
        refine x_so (K := K) hsm hL8 rfl hn4 hbal.1 (fun Q' k => ⟨_, rfl, k rw H8 (Same.refl _) hrow⟩) fun H9 e9 => ?_
        have hrow9 := hrow.mono e9
        refine x_accepts hsm (rdAt_mono e9 hR8) rfl hn4 hbal.1 (labOf row hlab) (fun Q' k => by
          obtain ⟨ys, k1, k2⟩ := hrow9
          exact ⟨_, rfl, rw, ys, rfl, .inl (SqL.of k1), fun l hl => k l _ (same_new hl _) ⟨ys, upd_same, Paired.mapP k2 fun _ _ z => PtAt.mono (same_new hl _) z⟩⟩) fun H10 e10 => ⟨rfl, false, ?_, iteF ?_⟩
        · rw [sentence_says hsm.f hbal (labOf row hlab), decide_eq_true rfl]
          rfl
        · have e90 := e9.trans e10
          exact ⟨_, _, rfl, S8.mono e90, e90 _ _ hal8, rdAt_mono e90 hR8, hL8.mono e90⟩
      · exact ⟨_, _, rfl, S8, hal8, hR8, hL8⟩
    · rintro σ' H7 ⟨y2, y7, rfl, S7, hal7, hR7, hL7⟩
      have hb0 : Bal [] := ⟨closes_nil, rfl⟩
      have hl0 : Lab R [] := fun p hp => absurd hp List.not_mem_nil
      refine x_so (K := K) (row := []) hsm hL7 rfl (by decide) closes_nil row_none fun H8 e8 => ?_
      refine x_accepts (row := []) hsm (rdAt_mono e8 hR7) rfl (by decide) closes_nil hl0 row_none fun H9 e9 => ⟨rfl, ?_⟩
      rw [sentence_says hsm.f hb0 hl0, decide_eq_true rfl]
      exact q H9
end
end K46

/-! The end: what the top has written, the head. -/
namespace K46
open PySem L2
theorem here_mk {K : PySem.W.Frag} {h : Heap} {mg : Str → Option Value} (X : K.In h) (G : h.Ns mainGlobals mg) {x : Str} {st : Stmt} {f : Addr} {od an : Option Addr} {osl : Array (Option Value)} {oc kV doc pm cdv ct : Value}
    (a : PySem.W.nsIn K mainGlobals x = some (some (.ref f))) (l : K.lookup f = some ⟨oc, od, .func (PySem.W.fnOf x x (defArgs st) (defBody st) (defScope st) .none kV doc pm an cdv ct), osl⟩) (c : PySem.W.codeIn K cdv x = true) (k : PySem.W.keepIn K (.ref f) = true) : Here K mg x st :=
  ⟨f, _, fun_mk l c k, PySem.W.mg_of X G a⟩
theorem leaves_mk {K : PySem.W.Frag} {a : Addr} {sl : Array (Option Value)} {t1 t2 t3 t4 t5 : Tok} {n : Nat} (l : K.lookup a = some ⟨.type "tuple", none, .seq #[.str "set" t1, .str "letter" t2, .str "call" t3, .str "return" t4, .str "nothing" t5] n, sl⟩) : WTup K a (leaves.map V.str) :=
  ⟨_, _, n, l, rfl, rfl, rfl, by show 5 ≤ sizeLine; decide, .cons ⟨_, rfl⟩ (.cons ⟨_, rfl⟩ (.cons ⟨_, rfl⟩ (.cons ⟨_, rfl⟩ (.cons ⟨_, rfl⟩ .nil))))⟩
theorem kinds_mk {K : PySem.W.Frag} {a : Addr} {sl : Array (Option Value)} {t1 t2 t3 : Tok} {n : Nat} (l : K.lookup a = some ⟨.type "tuple", none, .seq #[.str "letter" t1, .str "call" t2, .str "return" t3] n, sl⟩) : WTup K a (kinds.map V.str) :=
  ⟨_, _, n, l, rfl, rfl, rfl, by show 3 ≤ sizeLine; decide, .cons ⟨_, rfl⟩ (.cons ⟨_, rfl⟩ (.cons ⟨_, rfl⟩ .nil))⟩
theorem tops_mk {K : PySem.W.Frag} {h : Heap} {mg : Str → Option Value} (X : K.In h) (G : h.Ns mainGlobals mg) {aL aK : Addr} {t : Tok}
    (m : PySem.W.nsIn K mainGlobals "MOST_LINES" = some (some (.int 4000 t))) (l : PySem.W.nsIn K mainGlobals "LEAVES" = some (some (.ref aL))) (l2 : WTup K aL (leaves.map V.str)) (k : PySem.W.nsIn K mainGlobals "KINDS" = some (some (.ref aK))) (k2 : WTup K aK (kinds.map V.str))
    (z0 : PySem.W.nsIn K mainGlobals "reversed" = some none)
    (z1 : PySem.W.nsIn K mainGlobals "range" = some none)
    (z2 : PySem.W.nsIn K mainGlobals "len" = some none)
    (z3 : PySem.W.nsIn K mainGlobals "tuple" = some none)
    (z4 : PySem.W.nsIn K mainGlobals "enumerate" = some none)
    (z5 : PySem.W.nsIn K mainGlobals "int" = some none)
    (z6 : PySem.W.nsIn K mainGlobals "max" = some none)
    (z7 : PySem.W.nsIn K mainGlobals "list" = some none)
    (z8 : PySem.W.nsIn K mainGlobals "all" = some none)
    : Glob K mg :=
  ⟨PySem.W.mg_none_of X G z0, PySem.W.mg_none_of X G z1, PySem.W.mg_none_of X G z2, PySem.W.mg_none_of X G z3, PySem.W.mg_none_of X G z4, PySem.W.mg_none_of X G z5, PySem.W.mg_none_of X G z6, PySem.W.mg_none_of X G z7, PySem.W.mg_none_of X G z8, ⟨t, PySem.W.mg_of X G m⟩, ⟨aL, PySem.W.mg_of X G l, l2⟩, ⟨aK, PySem.W.mg_of X G k, k2⟩⟩
structure Tops (K : PySem.W.Frag) (mg : Str → Option Value) : Prop where
  g : Glob K mg
  h0 : Here K mg "yes" sYes
  h1 : Here K mg "every" sEvery
  h2 : Here K mg "some" sSome
  h3 : Here K mg "if_then" sIfThen
  h4 : Here K mg "behind" sBehind
  h5 : Here K mg "apart" sApart
  h6 : Here K mg "arch_part" sArch
  h7 : Here K mg "walk_parts" sParts
  h8 : Here K mg "walk_part" sWalk
  h9 : Here K mg "add_line" sAdd
  h10 : Here K mg "laid_out" sLaid
  h11 : Here K mg "sentence_for" sSent
  h12 : Here K mg "check_labels" sCheck
  h13 : Here K mg "value_behind" sBeh
  h14 : Here K mg "value" sValue
  h15 : Here K mg "accepts" sAccepts
  h16 : Here K mg "_law_draw" sDraw
  h17 : Here K mg "_law_text" sText
  h18 : Here K mg "_law_product" sProduct
  h19 : Here K mg "_law_true" sTrue
  h20 : Here K mg "_law_pairs_of" sPairs
  h21 : Here K mg "_law_some_set" sSomeSet
  h22 : Here K mg "_law_so" sSo
  h23 : Here K mg "_law_tiny_reader" sTiny
  h24 : Here K mg "law" sLaw
theorem all_mk {P : Program} {w : World} {K : PySem.W.Frag} {mg : Str → Option Value} {fa : Addr} (T : Tops K mg) (hfa : mg "law" = some (.ref fa)) :
    ∃ fd : FuncData, (∀ (s : Shared) (v : Value), BindsTo s fd ⟨[v], []⟩ [("_law_script", v)]) ∧ ∀ base : Heap, K.In base → base.Ns mainGlobals mg → FnOk P w K mg base CX0 123 fa fd ["_law_script"] (spLaw K) := by
  obtain ⟨f, fd, F, m⟩ := T.h24
  have e := hfa.symm.trans m
  cases e
  refine ⟨fd, fun s v => ?_, fun base _ _ => ?_⟩
  · obtain ⟨oc, od, kV, doc, pm, an, cdv, ct, osl, rfl, lk, hcd⟩ := F.ex
    exact .of_eq rfl
  have G := T.g
  have yes := c_yes (P := P) (w := w) (base := base) T.h0
  have ift := c_if (P := P) (w := w) (base := base) T.h3
  have every := c_every G yes T.h1
  have some' := c_some G yes T.h2
  have apart := c_apart yes ift T.h5
  have behind := c_behind G every ift T.h4
  have arch := c_arch G every ift T.h6
  have parts := c_parts G every some' apart behind arch T.h7
  have walk := c_walk G yes parts T.h8
  have add := c_add (P := P) (w := w) (base := base) G T.h9
  have laid := c_laid G add T.h10
  have sent := c_sent G walk laid T.h11
  have check := c_check (P := P) (w := w) (base := base) G T.h12
  have beh := c_beh G check T.h13
  have value := c_value beh T.h14
  have acc := c_accepts value T.h15
  have draw := c_draw (P := P) (w := w) (base := base) G T.h16
  have prod := c_prod (P := P) (w := w) (base := base) G T.h18
  have text := c_text G draw T.h17
  have tiny := c_tiny G draw prod T.h23
  have pairs := c_pairs (P := P) (w := w) (base := base) G T.h20
  have true' := c_true (P := P) (w := w) (base := base) G T.h19 60
  have so := (both G true' pairs T.h22 T.h21 60 (by decide)).1
  exact c_law G draw tiny sent text so acc F
end K46
open PySem PySem.W PyProof.Rows
set_option maxRecDepth 100000 in
set_option maxHeartbeats 0 in
theorem PySem.Challenge.cw_archway_k46_whole_sentences_of_readers_holds : PySem.Challenge.rw_archway_k46_whole_sentences_of_readers.Holds := by
  w_on; o_law; k_head; (case hw => w_witness2)
  k_fill
  refine L2.walk_of (l := PySem.Challenge.rw_archway_k46_whole_sentences_of_readers) (n := 63) (k := 123) (x := "_law_script") (CX := fun _ => L2.CX0) (sp := fun w => K46.spLaw _) rfl (by decide) rfl ⟨rfl, by decide, by decide⟩ (fun w h Y => PySem.W.kIn_of Y) ?F (fun _ _ a ns hl _ hS => ⟨a, ns, rfl, hS, hl, fun _ => rfl⟩) (fun _ _ _ _ _ h => h)
  case F =>
    intro w mg fa h KX G hmg
    refine K46.all_mk ?T hmg
    refine' K46.Tops.mk ?g ?h0 ?h1 ?h2 ?h3 ?h4 ?h5 ?h6 ?h7 ?h8 ?h9 ?h10 ?h11 ?h12 ?h13 ?h14 ?h15 ?h16 ?h17 ?h18 ?h19 ?h20 ?h21 ?h22 ?h23 ?h24
    case g =>
      refine' K46.tops_mk KX G ?gm ?gl (K46.leaves_mk ?gl2) ?gk (K46.kinds_mk ?gk2) ?z0 ?z1 ?z2 ?z3 ?z4 ?z5 ?z6 ?z7 ?z8
      (case gm => k_is); (case gl => k_is); (case gl2 => k_is); (case gk => k_is); (case gk2 => k_is)
      (case z0 => k_is); (case z1 => k_is); (case z2 => k_is); (case z3 => k_is); (case z4 => k_is); (case z5 => k_is); (case z6 => k_is); (case z7 => k_is); (case z8 => k_is)
    case h0 =>
      refine' K46.here_mk KX G ?a0 ?l0 ?c0 ?k0
      (case a0 => k_is); (case l0 => k_is); (case c0 => k_is); (case k0 => k_is)
    case h1 =>
      refine' K46.here_mk KX G ?a1 ?l1 ?c1 ?k1
      (case a1 => k_is); (case l1 => k_is); (case c1 => k_is); (case k1 => k_is)
    case h2 =>
      refine' K46.here_mk KX G ?a2 ?l2 ?c2 ?k2
      (case a2 => k_is); (case l2 => k_is); (case c2 => k_is); (case k2 => k_is)
    case h3 =>
      refine' K46.here_mk KX G ?a3 ?l3 ?c3 ?k3
      (case a3 => k_is); (case l3 => k_is); (case c3 => k_is); (case k3 => k_is)
    case h4 =>
      refine' K46.here_mk KX G ?a4 ?l4 ?c4 ?k4
      (case a4 => k_is); (case l4 => k_is); (case c4 => k_is); (case k4 => k_is)
    case h5 =>
      refine' K46.here_mk KX G ?a5 ?l5 ?c5 ?k5
      (case a5 => k_is); (case l5 => k_is); (case c5 => k_is); (case k5 => k_is)
    case h6 =>
      refine' K46.here_mk KX G ?a6 ?l6 ?c6 ?k6
      (case a6 => k_is); (case l6 => k_is); (case c6 => k_is); (case k6 => k_is)
    case h7 =>
      refine' K46.here_mk KX G ?a7 ?l7 ?c7 ?k7
      (case a7 => k_is); (case l7 => k_is); (case c7 => k_is); (case k7 => k_is)
    case h8 =>
      refine' K46.here_mk KX G ?a8 ?l8 ?c8 ?k8
      (case a8 => k_is); (case l8 => k_is); (case c8 => k_is); (case k8 => k_is)
    case h9 =>
      refine' K46.here_mk KX G ?a9 ?l9 ?c9 ?k9
      (case a9 => k_is); (case l9 => k_is); (case c9 => k_is); (case k9 => k_is)
    case h10 =>
      refine' K46.here_mk KX G ?a10 ?l10 ?c10 ?k10
      (case a10 => k_is); (case l10 => k_is); (case c10 => k_is); (case k10 => k_is)
    case h11 =>
      refine' K46.here_mk KX G ?a11 ?l11 ?c11 ?k11
      (case a11 => k_is); (case l11 => k_is); (case c11 => k_is); (case k11 => k_is)
    case h12 =>
      refine' K46.here_mk KX G ?a12 ?l12 ?c12 ?k12
      (case a12 => k_is); (case l12 => k_is); (case c12 => k_is); (case k12 => k_is)
    case h13 =>
      refine' K46.here_mk KX G ?a13 ?l13 ?c13 ?k13
      (case a13 => k_is); (case l13 => k_is); (case c13 => k_is); (case k13 => k_is)
    case h14 =>
      refine' K46.here_mk KX G ?a14 ?l14 ?c14 ?k14
      (case a14 => k_is); (case l14 => k_is); (case c14 => k_is); (case k14 => k_is)
    case h15 =>
      refine' K46.here_mk KX G ?a15 ?l15 ?c15 ?k15
      (case a15 => k_is); (case l15 => k_is); (case c15 => k_is); (case k15 => k_is)
    case h16 =>
      refine' K46.here_mk KX G ?a16 ?l16 ?c16 ?k16
      (case a16 => k_is); (case l16 => k_is); (case c16 => k_is); (case k16 => k_is)
    case h17 =>
      refine' K46.here_mk KX G ?a17 ?l17 ?c17 ?k17
      (case a17 => k_is); (case l17 => k_is); (case c17 => k_is); (case k17 => k_is)
    case h18 =>
      refine' K46.here_mk KX G ?a18 ?l18 ?c18 ?k18
      (case a18 => k_is); (case l18 => k_is); (case c18 => k_is); (case k18 => k_is)
    case h19 =>
      refine' K46.here_mk KX G ?a19 ?l19 ?c19 ?k19
      (case a19 => k_is); (case l19 => k_is); (case c19 => k_is); (case k19 => k_is)
    case h20 =>
      refine' K46.here_mk KX G ?a20 ?l20 ?c20 ?k20
      (case a20 => k_is); (case l20 => k_is); (case c20 => k_is); (case k20 => k_is)
    case h21 =>
      refine' K46.here_mk KX G ?a21 ?l21 ?c21 ?k21
      (case a21 => k_is); (case l21 => k_is); (case c21 => k_is); (case k21 => k_is)
    case h22 =>
      refine' K46.here_mk KX G ?a22 ?l22 ?c22 ?k22
      (case a22 => k_is); (case l22 => k_is); (case c22 => k_is); (case k22 => k_is)
    case h23 =>
      refine' K46.here_mk KX G ?a23 ?l23 ?c23 ?k23
      (case a23 => k_is); (case l23 => k_is); (case c23 => k_is); (case k23 => k_is)
    case h24 =>
      refine' K46.here_mk KX G ?a24 ?l24 ?c24 ?k24
      (case a24 => k_is); (case l24 => k_is); (case c24 => k_is); (case k24 => k_is)
#print axioms PySem.Challenge.cw_archway_k46_whole_sentences_of_readers_holds

