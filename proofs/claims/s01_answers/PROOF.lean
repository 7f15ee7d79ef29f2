import PyProof.Rows.All
import Wide.All
import OpenK.AllK
import Wide.FinOn
import PyProof.EqAt
import PyProof.EqKinds
import PyProof.TupleCall
import Open.SpecLaws
import KE.OsGo
import HandS.ForSpec
import HandS.Iter
import HandS.ExcInit
import HandS.ExcField
import PySem.Challenge.RW_nightballoons_s01_answers
set_option Elab.async false
set_option linter.all false
set_option maxRecDepth 100000
set_option maxHeartbeats 4000000
namespace Nb
open Si95
/-! ### the balloon -/
structure Good (b : Balloon) : Prop where
  w1 : 1 ≤ b.weight
  w2 : b.weight ≤ 10000
  d1 : 1 ≤ b.day
  d2 : b.day ≤ 100
  n1 : 1 ≤ b.night
  n2 : b.night ≤ b.day
  o2 : b.over ≤ 10000
  l1 : 1 ≤ b.leak
  l2 : b.leak ≤ 200
  g1 : 1 ≤ b.gas
  g2 : b.gas ≤ 200
  s2 : b.sand ≤ 10000
/-- gas left behind a day -/
def left (b : Balloon) (g s : Nat) : Nat := min g ((b.weight + s + b.over) / b.day) - b.leak
theorem left_le (b : Balloon) (g s : Nat) : left b g s ≤ g := by
  unfold left
  omega
theorem left_lt {b : Balloon} (G : Good b) {g : Nat} (s : Nat) (h : 1 ≤ g) : left b g s < g := by
  unfold left
  have := G.l1
  omega
theorem left_mono (b : Balloon) {g g' s s' : Nat} (hg : g ≤ g') (hs : s ≤ s') : left b g s ≤ left b g' s' := by
  unfold left
  have h : (b.weight + s + b.over) / b.day ≤ (b.weight + s' + b.over) / b.day := Nat.div_le_div_right (by omega)
  omega
/-- what is thrown, from the night's gas and sand on -/
def run (b : Balloon) (f g s : Nat) : List Nat :=
  if b.weight ≤ b.night * g then (b.weight + s - b.night * g) :: b.plain f ⟨g, s - (b.weight + s - b.night * g)⟩ else []
theorem plain_succ (b : Balloon) (f g s : Nat) : b.plain (f + 1) ⟨g, s⟩ = run b f (left b g s) s := by
  show (match b.least (b.byDay ⟨g, s⟩) with
    | none => []
    | some t => t :: b.plain f (Balloon.byNight (b.byDay ⟨g, s⟩) t)) = _
  unfold run
  by_cases c : b.weight ≤ b.night * left b g s
  · have e : b.least (b.byDay ⟨g, s⟩) = some (b.weight + s - b.night * left b g s) := if_pos c
    rw [e, if_pos c] <;> rfl
  · have e : b.least (b.byDay ⟨g, s⟩) = none := if_neg c
    rw [e, if_neg c]
theorem run_out {b : Balloon} {g : Nat} (f s : Nat) (c : ¬ b.weight ≤ b.night * g) : run b f g s = [] := if_neg c
theorem run_on {b : Balloon} {g : Nat} (f s : Nat) (c : b.weight ≤ b.night * g) : run b (f + 1) g s =
    (b.weight + s - b.night * g) :: run b f (left b g (s - (b.weight + s - b.night * g))) (s - (b.weight + s - b.night * g)) := by
  have e : run b (f + 1) g s = (b.weight + s - b.night * g) :: b.plain (f + 1) ⟨g, s - (b.weight + s - b.night * g)⟩ := if_pos c
  rw [e, plain_succ]
theorem up_pos {b : Balloon} (G : Good b) {g : Nat} (c : b.weight ≤ b.night * g) : 1 ≤ g := by
  have := G.w1
  cases g with
  | zero => simp at c; omega
  | succ g => omega
theorem plain_len (b : Balloon) : ∀ (f : Nat) (st : Stand), (b.plain f st).length ≤ f
  | 0, _ => Nat.le_refl _
  | f + 1, ⟨g, s⟩ => by
    rw [plain_succ]
    unfold run
    split
    · rw [List.length_cons]
      exact Nat.succ_le_succ (plain_len b f _)
    · exact Nat.zero_le _
theorem plain_mono (b : Balloon) : ∀ (f g g' s s' : Nat), g ≤ g' → s ≤ s' → (b.plain f ⟨g, s⟩).length ≤ (b.plain f ⟨g', s'⟩).length
  | 0, _, _, _, _, _, _ => Nat.le_refl _
  | f + 1, g, g', s, s', hg, hs => by
    rw [plain_succ, plain_succ]
    have hl := left_mono b hg hs
    have hm : b.night * left b g s ≤ b.night * left b g' s' := Nat.mul_le_mul_left _ hl
    unfold run
    by_cases c : b.weight ≤ b.night * left b g s
    · rw [if_pos c, if_pos (Nat.le_trans c hm), List.length_cons, List.length_cons]
      refine Nat.succ_le_succ (plain_mono b f _ _ _ _ hl ?_)
      omega
    · rw [if_neg c]
      exact Nat.zero_le _
theorem plain_with (b : Balloon) (x : Nat) : ∀ (f : Nat) (st : Stand), (b.with_ x).plain f st = b.plain f st
  | 0, _ => rfl
  | f + 1, ⟨g, s⟩ => by
    rw [plain_succ, plain_succ]
    show run (b.with_ x) f (left b g s) s = run b f (left b g s) s
    unfold run
    show (if b.weight ≤ b.night * left b g s then _ :: (b.with_ x).plain f ⟨left b g s, s - (b.weight + s - b.night * left b g s)⟩ else []) = _
    rw [plain_with b x f] <;> rfl
/-- the plan by as little as has to be, from so much sand -/
def little (b : Balloon) (s : Nat) : List Nat := b.plain (b.gas + 1) ⟨b.gas, s⟩
theorem little_run (b : Balloon) (s : Nat) : little b s = run b b.gas (left b b.gas s) s := plain_succ b b.gas b.gas s
theorem little_len (b : Balloon) (s : Nat) : (little b s).length ≤ b.gas + 1 := plain_len b _ _
theorem nights_with (b : Balloon) (s : Nat) : (b.with_ s).nights = (little b s).length := by
  show ((b.with_ s).plain (b.gas + 1) ⟨b.gas, s⟩).length = _
  rw [plain_with] <;> rfl
theorem little_mono (b : Balloon) {s s' : Nat} (h : s ≤ s') : (little b s).length ≤ (little b s').length := plain_mono b _ _ _ _ _ (Nat.le_refl _) h
/-! ### how much sand is enough -/
theorem halved_least (f : Nat → Bool) (mono : ∀ s t, s ≤ t → f s = true → f t = true) : ∀ (k lo hi : Nat), lo < hi → hi ≤ lo + 1 + k → f lo = false → f hi = true →
    halved f k lo hi ≤ hi ∧ ∀ s, f s = true ↔ halved f k lo hi ≤ s
  | 0, lo, hi, h1, h2, h3, h4 => by
    have e : hi = lo + 1 := by omega
    refine ⟨Nat.le_refl _, fun s => ⟨fun h => ?_, fun h => mono _ _ h h4⟩⟩
    show hi ≤ s
    by_cases c : s ≤ lo
    · rw [mono s lo c h] at h3
      cases h3
    · omega
  | k + 1, lo, hi, h1, h2, h3, h4 => by
    unfold halved
    by_cases c : hi ≤ lo + 1
    · rw [if_pos c]
      refine ⟨Nat.le_refl _, fun s => ⟨fun h => ?_, fun h => mono _ _ h h4⟩⟩
      by_cases c : s ≤ lo
      · rw [mono s lo c h] at h3
        cases h3
      · omega
    · rw [if_neg c]
      dsimp only
      by_cases d : f ((lo + hi) / 2) = true
      · rw [if_pos d]
        obtain ⟨a, q⟩ := halved_least f mono k lo ((lo + hi) / 2) (by omega) (by omega) h3 d
        exact ⟨by omega, q⟩
      · rw [if_neg d]
        exact halved_least f mono k ((lo + hi) / 2) hi (by omega) (by omega) (by simpa using d) h4
theorem most_some {b : Balloon} (h : b.weight ≤ b.day * b.gas) : b.most = some (b.day * b.gas - b.weight) := if_pos h
theorem most_none {b : Balloon} (h : ¬ b.weight ≤ b.day * b.gas) : b.most = none := if_neg h
theorem needs_none {b : Balloon} (n : Nat) (h : ¬ b.weight ≤ b.day * b.gas) : b.needs n = none := by
  unfold Balloon.needs
  rw [most_none h]
theorem needs_less {b : Balloon} {n : Nat} (h : b.weight ≤ b.day * b.gas) (c : ¬ n ≤ (little b (b.day * b.gas - b.weight)).length) : b.needs n = none := by
  unfold Balloon.needs
  rw [most_some h]
  dsimp only
  rw [nights_with, if_pos (by omega)]
theorem needs_some {b : Balloon} {n : Nat} (h : b.weight ≤ b.day * b.gas) (c : n ≤ (little b (b.day * b.gas - b.weight)).length) :
    ∃ L, b.needs n = some L ∧ L ≤ b.day * b.gas - b.weight ∧ ∀ s, n ≤ (little b s).length ↔ L ≤ s := by
  unfold Balloon.needs
  rw [most_some h]
  dsimp only
  rw [nights_with, if_neg (by omega), nights_with]
  by_cases z : n ≤ (little b 0).length
  · rw [if_pos z]
    exact ⟨0, rfl, Nat.zero_le _, fun s => ⟨fun _ => Nat.zero_le _, fun _ => Nat.le_trans z (little_mono b (Nat.zero_le s))⟩⟩
  · rw [if_neg z]
    have ef : (fun s => decide (n ≤ (b.with_ s).nights)) = fun s => decide (n ≤ (little b s).length) := by
      funext s
      rw [nights_with]
    rw [ef]
    have hm : 0 < b.day * b.gas - b.weight := by
      by_cases e : b.day * b.gas - b.weight = 0
      · rw [e] at c
        exact absurd c z
      · omega
    obtain ⟨q1, q2⟩ := halved_least (fun s => decide (n ≤ (little b s).length)) (fun s t l e => decide_eq_true (Nat.le_trans (of_decide_eq_true e) (little_mono b l))) (b.day * b.gas - b.weight) 0 (b.day * b.gas - b.weight) hm (by omega)
      (decide_eq_false z) (decide_eq_true c)
    exact ⟨_, rfl, q1, fun s => ⟨fun h => (q2 s).mp (decide_eq_true h), fun h => of_decide_eq_true ((q2 s).mpr h)⟩⟩
/-! ### a plan looked over -/
theorem goes_nil (b : Balloon) (i g s : Nat) : b.goes i ⟨g, s⟩ [] = .ok ⟨g, s⟩ := rfl
theorem goes_sand {b : Balloon} {i g s t : Nat} {l : List Nat} (c : s < t) : b.goes i ⟨g, s⟩ (t :: l) = .error (i, 1) := by
  show (if s < t then _ else _) = _
  rw [if_pos c]
theorem goes_down {b : Balloon} {i g s t : Nat} {l : List Nat} (c : ¬ s < t) (d : ¬ b.weight + (s - t) ≤ b.night * left b g s) : b.goes i ⟨g, s⟩ (t :: l) = .error (i, 2) := by
  show (if s < t then _ else if b.up ⟨left b g s, s - t⟩ = false then _ else _) = _
  have e : b.up ⟨left b g s, s - t⟩ = false := decide_eq_false d
  rw [if_neg c, if_pos e]
theorem goes_on {b : Balloon} {i g s t : Nat} {l : List Nat} (c : ¬ s < t) (d : b.weight + (s - t) ≤ b.night * left b g s) : b.goes i ⟨g, s⟩ (t :: l) = b.goes (i + 1) ⟨left b g s, s - t⟩ l := by
  show (if s < t then _ else if b.up ⟨left b g s, s - t⟩ = false then _ else _) = _
  have e : b.up ⟨left b g s, s - t⟩ = true := decide_eq_true d
  rw [if_neg c, if_neg (by rw [e]; decide)]
  rfl
theorem drop_at {α : Type} : ∀ {l : List α} {i : Nat} {x : α}, l[i]? = some x → l.drop i = x :: l.drop (i + 1)
  | [], i, x, h => by simp at h
  | a :: l, 0, x, h => by
    have e : a = x := Option.some.inj h
    subst e
    rfl
  | a :: l, i + 1, x, h => by
    exact drop_at (l := l) (i := i) (x := x) h
/-! ### what each call does -/
theorem good_init : Good init := ⟨by decide, by decide, by decide, by decide, by decide, by decide, by decide, by decide, by decide, by decide, by decide, by decide⟩
theorem good_step {b : Balloon} (G : Good b) (q : Call) : Good (step b q).1 := by
  cases q with
  | begins w a c o k =>
    show Good (if w < 1 ∨ MASS < w ∨ c < 1 ∨ a < c ∨ LIFT < a ∨ MASS < o ∨ k < 1 ∨ GAS < k then (b, ok (-1)) else (⟨w, a, c, o, k, 1, 0⟩, ok 0)).1
    by_cases z : w < 1 ∨ MASS < w ∨ c < 1 ∨ a < c ∨ LIFT < a ∨ MASS < o ∨ k < 1 ∨ GAS < k
    · rw [if_pos z]
      exact G
    · rw [if_neg z]
      unfold MASS LIFT GAS at z
      constructor <;> dsimp only <;> omega
  | load g s =>
    show Good (if g < 1 ∨ GAS < g ∨ MASS < s then (b, ok (-1)) else if ({ b with gas := g, sand := s } : Balloon).lifts = false then (b, ok (-6)) else ({ b with gas := g, sand := s }, ok ((b.day * g - b.weight - s : Nat) : Int))).1
    by_cases z : g < 1 ∨ GAS < g ∨ MASS < s
    · rw [if_pos z]
      exact G
    · rw [if_neg z]
      by_cases y : ({ b with gas := g, sand := s } : Balloon).lifts = false
      · rw [if_pos y]
        exact G
      · rw [if_neg y]
        unfold MASS GAS at z
        exact ⟨G.w1, G.w2, G.d1, G.d2, G.n1, G.n2, G.o2, G.l1, G.l2, by show 1 ≤ g; omega, by show g ≤ 200; omega, by show s ≤ 10000; omega⟩
  | check l =>
    show Good (if b.lifts = false then (b, ok (-3)) else (b, _)).1
    split <;> exact G
  | nights =>
    show Good (if b.lifts = false then (b, ok (-3)) else (b, _)).1
    split <;> exact G
  | needs n =>
    show Good (if GAS < n then (b, ok (-1)) else (b, _)).1
    split <;> exact G
  | most => exact G
/-- what a call answers -/
def ans (b : Balloon) (q : Call) : List Int := (step b q).2.v :: (step b q).2.l
end Nb
namespace Nb
open Si95
/-! ### the request, call by call -/
inductive Rep : Int → List Int → Call → Prop
  | begins (w a c o k : Nat) : Rep 0 [(w : Int), (a : Int), (c : Int), (o : Int), (k : Int)] (.begins w a c o k)
  | load (g s : Nat) : Rep 1 [(g : Int), (s : Int)] (.load g s)
  | check (l : List Nat) : l.length ≤ 40 → Rep 2 (Si95.ints l) (.check l)
  | nights : Rep 3 [] .nights
  | needs (n : Nat) : Rep 4 [(n : Int)] (.needs n)
  | most : Rep 5 [] .most
/-- what is still to be answered from place i on -/
def Rest (l : List Int) (i : Nat) (b : Balloon) (out : List Int) : Prop :=
  ∃ f raw, PyFlat.calls PySi95.shape f (l.drop i) = some raw ∧ (raw.map PySi95.whole).all Si95Neutral.asked1 = true ∧ out = PyFlat.told (PyFlat.played Si95Neutral.step b (raw.map PySi95.whole))
/-- how many numbers a call has, the place of its first; kind 2 tells it itself -/
def Cut (l : List Int) (i : Nat) (kind : Int) (first many : Nat) : Prop :=
  (kind = 2 ∧ l[i + 1]? = some (many : Int) ∧ first = i + 2) ∨ (kind ≠ 2 ∧ first = i + 1 ∧ ([5, 2, 0, 0, 1, 0] : List Nat)[kind.toNat]? = some many)
theorem callOf_begins (x0 x1 x2 x3 x4 : Int) : Si95Neutral.callOf [0, x0, x1, x2, x3, x4] = some (.begins x0.toNat x1.toNat x2.toNat x3.toNat x4.toNat) := rfl
theorem callOf_load (x0 x1 : Int) : Si95Neutral.callOf [1, x0, x1] = some (.load x0.toNat x1.toNat) := rfl
theorem callOf_check (r : List Int) : Si95Neutral.callOf (2 :: r) = if (r.map Int.toNat).length ≤ 40 then some (.check (r.map Int.toNat)) else none := rfl
theorem callOf_nights : Si95Neutral.callOf [3] = some .nights := rfl
theorem callOf_needs (x0 : Int) : Si95Neutral.callOf [4, x0] = some (.needs x0.toNat) := rfl
theorem callOf_most : Si95Neutral.callOf [5] = some .most := rfl
theorem ints_toNat : ∀ {r : List Int}, (∀ x ∈ r, 0 ≤ x) → Si95.ints (r.map Int.toNat) = r
  | [], _ => rfl
  | x :: r, h => by
    show ((x.toNat : Nat) : Int) :: Si95.ints (r.map Int.toNat) = x :: r
    rw [ints_toNat fun y hy => h y (List.mem_cons_of_mem _ hy), Int.toNat_of_nonneg (h x (List.mem_cons_self ..))]
theorem step_of {b : Balloon} {c : List (List Int)} {q : Call} (h : Si95Neutral.callOf (c.headD []) = some q) : Si95Neutral.step b c = ((Si95.step b q).1, ans b q) := by
  unfold Si95Neutral.step
  rw [h] <;> rfl
theorem told_cons (a : List Int) (r : List (List Int)) : PyFlat.told (a :: r) = (a.length : Int) :: (a ++ PyFlat.told r) := rfl
/-- one call taken off -/
theorem rest_one {l : List Int} {j f : Nat} {b : Balloon} {c : List (List Int)} {cs : List (List (List Int))} {q : Call} (hq : Si95Neutral.callOf ((PySi95.whole c).headD []) = some q) (hc : PyFlat.calls PySi95.shape f (l.drop j) = some cs)
    (ha : ((c :: cs).map PySi95.whole).all Si95Neutral.asked1 = true) :
    ∃ out', PyFlat.told (PyFlat.played Si95Neutral.step b ((c :: cs).map PySi95.whole)) = ((ans b q).length : Int) :: (ans b q ++ out') ∧ Rest l j (Si95.step b q).1 out' := by
  rw [List.map_cons, List.all_cons, Bool.and_eq_true] at ha
  refine ⟨_, ?_, f, cs, hc, ha.2, rfl⟩
  show PyFlat.told ((Si95Neutral.step b (PySi95.whole c)).2 :: PyFlat.played Si95Neutral.step (Si95Neutral.step b (PySi95.whole c)).1 (cs.map PySi95.whole)) = _
  rw [step_of hq, told_cons]
theorem calls_succ {f : Nat} {p : Int} {r : List Int} {raw : List (List (List Int))} (h : PyFlat.calls PySi95.shape (f + 1) (p :: r) = some raw) :
    ∃ c t cs, PyFlat.call PySi95.shape (p :: r) = some (c, t) ∧ PyFlat.calls PySi95.shape f t = some cs ∧ raw = c :: cs := by
  have h' : (match PyFlat.call PySi95.shape (p :: r) with
    | none => none
    | some (c, t) => match PyFlat.calls PySi95.shape f t with
      | none => none
      | some cs => some (c :: cs)) = some raw := h
  split at h'
  · cases h'
  · next c t e =>
    split at h'
    · cases h'
    · next cs e2 => exact ⟨c, t, cs, e, e2, (Option.some.inj h').symm⟩
theorem call_plain {p : Int} {r : List Int} {n : Nat} {c : List (List Int)} {t : List Int} (hs : PySi95.shape p = some (n, 0)) (h : PyFlat.call PySi95.shape (p :: r) = some (c, t)) : n ≤ r.length ∧ c = [p :: r.take n] ∧ t = r.drop n := by
  have h' : (match PySi95.shape p with
    | none => none
    | some (n, k) => if r.length < n then none else match PyFlat.rows k (r.drop n) with
      | none => none
      | some (xs, t) => some ((p :: r.take n) :: xs, t)) = some (c, t) := h
  rw [hs] at h'
  dsimp only at h'
  by_cases z : r.length < n
  · rw [if_pos z] at h'
    cases h'
  · rw [if_neg z] at h'
    have h2 : some ([p :: r.take n], r.drop n) = some (c, t) := h'
    cases h2
    exact ⟨by omega, rfl, rfl⟩
theorem call_check {r : List Int} {c : List (List Int)} {t : List Int} (h : PyFlat.call PySi95.shape (2 :: r) = some (c, t)) : ∃ (n : Int) (r' : List Int), r = n :: r' ∧ 0 ≤ n ∧ n.toNat ≤ r'.length ∧ c = [[2], r'.take n.toNat] ∧ t = r'.drop n.toNat := by
  have h' : (match PyFlat.rows 1 r with
      | none => none
      | some (xs, t) => some ((2 :: r.take 0) :: xs, t)) = some (c, t) := h
  cases r with
  | nil => cases h'
  | cons n r' =>
    refine ⟨n, r', rfl, ?_⟩
    by_cases z : 0 ≤ n ∧ n.toNat ≤ r'.length
    · have e : PyFlat.rows 1 (n :: r') = some ([r'.take n.toNat], r'.drop n.toNat) := by
        have e1 : PyFlat.row (n :: r') = some (r'.take n.toNat, r'.drop n.toNat) := if_pos z
        unfold PyFlat.rows
        rw [e1] <;> rfl
      rw [e] at h'
      have h2 : some ([[2], r'.take n.toNat], r'.drop n.toNat) = some (c, t) := h'
      cases h2
      exact ⟨z.1, z.2, rfl, rfl⟩
    · have e : PyFlat.rows 1 (n :: r') = none := by
        have e1 : PyFlat.row (n :: r') = none := if_neg z
        unfold PyFlat.rows
        rw [e1]
      rw [e] at h'
      cases h'
theorem kinds {p : Int} {r : List Int} {c : List (List Int)} {t : List Int} (h : PyFlat.call PySi95.shape (p :: r) = some (c, t)) : p = 0 ∨ p = 1 ∨ p = 2 ∨ p = 3 ∨ p = 4 ∨ p = 5 := by
  refine Decidable.byContradiction fun k => ?_
  have e : PySi95.shape p = none := by
    unfold PySi95.shape
    rw [if_neg (by omega), if_neg (by omega), if_neg (by omega), if_neg (by omega), if_neg (by omega), if_neg (by omega)]
  have h' : (match PySi95.shape p with
    | none => none
    | some (n, k) => if r.length < n then none else match PyFlat.rows k (r.drop n) with
      | none => none
      | some (xs, t) => some ((p :: r.take n) :: xs, t)) = some (c, t) := h
  rw [e] at h'
  cases h'
theorem list1 {r : List Int} (h : 1 ≤ r.length) : ∃ x r', r = x :: r' := by
  cases r with
  | nil => simp at h
  | cons x r' => exact ⟨x, r', rfl⟩
theorem drop_le {α : Type} {l : List α} {i : Nat} {x : α} {r : List α} (h : l.drop i = x :: r) : l[i]? = some x ∧ l.drop (i + 1) = r := by
  constructor
  · have e : (l.drop i)[0]? = some x := by rw [h] <;> rfl
    rw [List.getElem?_drop] at e
    exact e
  · have e : (l.drop i).drop 1 = r := by rw [h] <;> rfl
    rw [List.drop_drop] at e
    exact e
theorem nonneg_drop {l : List Int} (hn : ∀ x ∈ l, 0 ≤ x) (i : Nat) : ∀ x ∈ l.drop i, 0 ≤ x := fun x hx => hn x (List.mem_of_mem_drop hx)
theorem back {x : Int} (h : 0 ≤ x) : ((x.toNat : Nat) : Int) = x := Int.toNat_of_nonneg h
theorem rest_step {l : List Int} {i : Nat} {b : Balloon} {out : List Int} (hn : ∀ x ∈ l, 0 ≤ x) (R : Rest l i b out) (hi : i < l.length) :
    ∃ kind nums q first many out', l[i]? = some kind ∧ Rep kind nums q ∧ Cut l i kind first many ∧ first + many ≤ l.length ∧ (l.drop first).take many = nums ∧ out = ((ans b q).length : Int) :: (ans b q ++ out') ∧ Rest l (first + many) (Si95.step b q).1 out' := by
  obtain ⟨f, raw, hc, ha, ho⟩ := R
  have hd : l.drop i = l[i] :: l.drop (i + 1) := List.drop_eq_getElem_cons hi
  have hk : l[i]? = some l[i] := List.getElem?_eq_getElem hi
  rw [hd] at hc
  generalize l[i] = p at hd hk hc
  cases f with
  | zero => cases hc
  | succ f =>
  obtain ⟨c, t, cs, h1, h2, rfl⟩ := calls_succ hc
  have hlen : (l.drop (i + 1)).length = l.length - (i + 1) := List.length_drop
  have nn := nonneg_drop hn (i + 1)
  have plain : ∀ (n : Nat) (nums : List Int) (q : Call), PySi95.shape p = some (n, 0) → p ≠ 2 → ([5, 2, 0, 0, 1, 0] : List Nat)[p.toNat]? = some n → (∀ nums, nums.length = n → (∀ x ∈ nums, 0 ≤ x) → ∃ q, Rep p nums q ∧ Si95Neutral.callOf ((PySi95.whole [p :: nums]).headD []) = some q) →
      ∃ kind nums q first many out', l[i]? = some kind ∧ Rep kind nums q ∧ Cut l i kind first many ∧ first + many ≤ l.length ∧ (l.drop first).take many = nums ∧ out = ((ans b q).length : Int) :: (ans b q ++ out') ∧ Rest l (first + many) (Si95.step b q).1 out' := by
    intro n _ _ hs h2' hm hq
    obtain ⟨z1, z2, z3⟩ := call_plain hs h1
    obtain ⟨q, r1, r2⟩ := hq ((l.drop (i + 1)).take n) (by rw [List.length_take]; omega) (fun x hx => nn x (List.mem_of_mem_take hx))
    have e : t = l.drop (i + 1 + n) := by rw [z3, List.drop_drop]
    rw [e] at h2
    rw [z2] at ha ho
    obtain ⟨out', o1, o2⟩ := rest_one (b := b) r2 h2 ha
    exact ⟨p, _, q, i + 1, n, out', hk, r1, .inr ⟨h2', rfl, hm⟩, by omega, rfl, ho.trans o1, o2⟩
  rcases kinds h1 with rfl | rfl | rfl | rfl | rfl | rfl
  · refine plain 5 [] .most rfl (by decide) rfl fun nums hl hz => ?_
    match nums, hl, hz with
    | [x0, x1, x2, x3, x4], _, hz =>
      have h := Rep.begins x0.toNat x1.toNat x2.toNat x3.toNat x4.toNat
      rw [back (hz x0 (by simp)), back (hz x1 (by simp)), back (hz x2 (by simp)), back (hz x3 (by simp)), back (hz x4 (by simp))] at h
      exact ⟨_, h, callOf_begins ..⟩
  · refine plain 2 [] .most rfl (by decide) rfl fun nums hl hz => ?_
    match nums, hl, hz with
    | [x0, x1], _, hz =>
      have h := Rep.load x0.toNat x1.toNat
      rw [back (hz x0 (by simp)), back (hz x1 (by simp))] at h
      exact ⟨_, h, callOf_load ..⟩
  · obtain ⟨n, r', e1, e2, e3, e4, e5⟩ := call_check h1
    obtain ⟨g1, g2⟩ := drop_le e1
    rw [e4] at ha ho
    have hr : ∀ x ∈ r'.take n.toNat, 0 ≤ x := fun x hx => nn x (by rw [e1]; exact List.mem_cons_of_mem _ (List.mem_of_mem_take hx))
    have hlen2 : (l.drop (i + 1)).length = r'.length + 1 := by rw [e1, List.length_cons]
    have h40 : ((r'.take n.toNat).map Int.toNat).length ≤ 40 := by
      refine Decidable.byContradiction fun k => ?_
      have a1 := ha
      rw [List.map_cons, List.all_cons, Bool.and_eq_true] at a1
      have a2 := a1.1
      unfold Si95Neutral.asked1 at a2
      rw [Bool.and_eq_true, Bool.and_eq_true] at a2
      have a3 : (Si95Neutral.callOf (2 :: r'.take n.toNat)).isSome = true := a2.2.2
      rw [callOf_check, if_neg k] at a3
      cases a3
    have hq : Si95Neutral.callOf ((PySi95.whole [[2], r'.take n.toNat]).headD []) = some (.check ((r'.take n.toNat).map Int.toNat)) := by
      show Si95Neutral.callOf (2 :: r'.take n.toNat) = _
      rw [callOf_check, if_pos h40]
    have e : t = l.drop (i + 2 + n.toNat) := by rw [e5, ← g2, List.drop_drop]
    rw [e] at h2
    obtain ⟨out', o1, o2⟩ := rest_one (b := b) hq h2 ha
    have rp := Rep.check _ h40
    rw [ints_toNat hr] at rp
    refine ⟨2, _, _, i + 2, n.toNat, out', hk, rp, .inl ⟨rfl, by rw [back e2]; exact g1, rfl⟩, by omega, ?_, ho.trans o1, o2⟩
    rw [← g2]
  · refine plain 0 [] .most rfl (by decide) rfl fun nums hl hz => ?_
    match nums, hl, hz with
    | [], _, hz => exact ⟨_, .nights, callOf_nights⟩
  · refine plain 1 [] .most rfl (by decide) rfl fun nums hl hz => ?_
    match nums, hl, hz with
    | [x0], _, hz =>
      have h := Rep.needs x0.toNat
      rw [back (hz x0 (by simp))] at h
      exact ⟨_, h, callOf_needs ..⟩
  · refine plain 0 [] .most rfl (by decide) rfl fun nums hl hz => ?_
    match nums, hl, hz with
    | [], _, hz => exact ⟨_, .most, callOf_most⟩
theorem rest_end {l : List Int} {i : Nat} {b : Balloon} {out : List Int} (R : Rest l i b out) (hi : l.length ≤ i) : out = [] := by
  obtain ⟨f, raw, hc, ha, ho⟩ := R
  rw [List.drop_eq_nil_of_le hi] at hc
  have e : raw = [] := by
    cases f with
    | zero => exact (Option.some.inj hc).symm
    | succ f => exact (Option.some.inj hc).symm
  rw [ho, e] <;> rfl
theorem rest_start {l : List Int} (h : PySi95.answers_asked l = true) : Rest l 0 init (PySi95.answers l) ∧ (PySi95.answers l).length ≤ 10000000 := by
  unfold PySi95.answers_asked at h
  cases e : PyFlat.calls PySi95.shape l.length l with
  | none =>
    rw [e] at h
    cases h
  | some raw =>
    rw [e] at h
    dsimp only at h
    rw [Bool.and_eq_true, Bool.and_eq_true] at h
    obtain ⟨⟨_, h1⟩, h2⟩ := h
    unfold Si95Neutral.asked at h1
    rw [Bool.and_eq_true] at h1
    have ea : PySi95.answers l = PyFlat.told (PyFlat.played Si95Neutral.step Si95Neutral.start (raw.map PySi95.whole)) := by
      unfold PySi95.answers PySi95.calls
      rw [e]
    refine ⟨⟨l.length, raw, ?_, h1.1, ea⟩, of_decide_eq_true h2⟩
    rw [List.drop_zero]
    exact e
end Nb
/-! ### a method's call within a try -/
namespace Nb
open PySem PySem.Spec PyProof.Rows L2
/-- o.m(e, ..) within a try: what it raises is wished for at the slots as they stand -/
def tMethS (C : Addr) (m : Str) (sp : Sp) (E : L2.St → XK) (ta : TE) (t : TA) : TE := fun σ H Q => ta σ H fun x H1 => ∃ a dx fs, x = .ref a ∧ H1 a = some (.ins C dx fs) ∧ fs.lookup m = none ∧ t σ H1 fun vs H2 => sp (x :: vs) H2 Q (E σ)
theorem pe_methS {X : Cx} {CX : CXT} {k : Nat} {f C : Addr} {fd : FuncData} {ps : List Str} {sp : Sp} {E : L2.St → XK} {m : Str} {pos apos : Pos} {e o : Expr} {es : List Expr} {ta : TE} {t : TA} {pl : Sem Bool} (he : PE X o ta) (c : Cls X.K C) (hm : Meth X.K C m f)
    (F : FnOk X.prog X.w X.K X.mg X.base CX k f fd ps sp) (hr : Room k X.A) (hb : Binds X.K fd ps []) (hx : ∀ σ, PassesAt CX X σ (E σ)) (ha : PA X (e :: es) t)
    (hst : starEach (e :: es) X.env = (false, eval e X.env) :: starEach es X.env := by rfl) (hpl : (backTo pos (starEach es X.env)).any (·.1) = false := by rfl)
    (ht : eval (.Call (.Attribute o m apos) (e :: es) [] pos) X.env = (do
      let ov ← eval o X.env
      standAt apos.atName
      let (f, first) ← holding [ov] (getMethod ov m pl)
      callWith pos f first (backTo pos (starEach (e :: es) X.env)) (backToKw pos (keywordEach [] X.env))) := by rfl) :
    PE X (.Call (.Attribute o m apos) (e :: es) [] pos) (tMethS C m sp E ta t) := by
  refine ⟨fun pins s σ H Q I h => ?_⟩
  refine PySem.W.methodCall_KW (pl := pl) (thn (he.run pins s σ H _ I h) fun u s1 ⟨x, H1, I1, rx, a, dx, fs, ex, ea, l, q⟩ => ?_) ht
  subst ex
  obtain rfl : u = Value.ref a := rx
  refine getmeth_ok I1 ea c hm l ?_
  refine PySem.W.callWith_K (first := [.ref a]) (h₀ := X.base) I.ok.mod.kin hm.kp (thn (ha.run pos pins s1 σ H1 _ I1 q) fun us s2 ⟨vs, H2, I2, r, q2⟩ => ⟨I2.kIn, ?_⟩) hst hpl
  exact run_fnS (us := .ref a :: us) (vs := .ref a :: vs) F hr hb (hx σ) I2 (.cons rfl r) q2
/-! ### readings that leave the heap as it is -/
def Gv (t : TE) (σ : L2.St) (H : Hp) (v : V) : Prop := ∀ Q : VK, Q v H → t σ H Q
def GvA (t : TA) (σ : L2.St) (H : Hp) (vs : List V) : Prop := ∀ Q : List V → Hp → Prop, Q vs H → t σ H Q
section
variable {σ : L2.St} {H : Hp} {ta tb tc te : TE} {v x y z : V} {i j k : Int} {K : PySem.W.Frag}
theorem gv_var {n : Nat} (h : σ[n]? = some (some v)) : Gv (tVar n) σ H v := fun _ q => ⟨v, h, q⟩
theorem gv_c : Gv (tC v) σ H v := fun _ q => q
theorem gv_set {n : Nat} {u : TS} {D : Ends} (h : Gv te σ H v) (q : u D (σ.set n (some v)) H) : tSeq (tAsg te (gName n)) u D σ H := h _ q
theorem gv_setL {n : Nat} {D : Ends} (h : Gv te σ H v) (q : D.nx (σ.set n (some v)) H) : tAsg te (gName n) D σ H := h _ q
theorem gv_ret {D : Ends} (h : Gv te σ H v) (q : D.rt v H) : tRet te D σ H := h _ q
theorem gv_ifT {t u : TS} {D : Ends} {b : Bool} (h : Gv te σ H (.bl b)) (q : if b = true then t D σ H else u D σ H) : tIfS (tTest te) t u D σ H := h _ ⟨b, rfl, q⟩
theorem gv_ifB {t u : TS} {D : Ends} {b : Bool} (h : Gv te σ H (.bl b)) (q : if b = true then t D σ H else u D σ H) : tIfS (tB te) t u D σ H := h _ ⟨b, rfl, q⟩
theorem gv_ifN {t u : TS} {D : Ends} {b : Bool} (h : Gv te σ H (.bl b)) (q : if b = true then u D σ H else t D σ H) : tIfS (tNot (tB te)) t u D σ H := h _ ⟨b, rfl, by
  cases b with
  | true =>
    rw [if_pos rfl] at q
    exact iteF q
  | false =>
    rw [if_neg Bool.false_ne_true] at q
    exact iteT q⟩
theorem gv_par {n m : Nat} {t : TA} {u : TS} {D : Ends} {x y : V} (h : GvA t σ H [x, y]) (q : u D ((σ.set n (some x)).set m (some y)) H) : tSeq (tPar n m t) u D σ H := h _ ⟨x, y, rfl, q⟩
theorem gv_testB {b : Bool} {Q : Bool → Hp → Prop} (h : Gv te σ H (.bl b)) (q : Q b H) : tB te σ H Q := h _ ⟨b, rfl, q⟩
theorem gv_testT {b : Bool} {Q : Bool → Hp → Prop} (h : Gv te σ H (.bl b)) (q : Q b H) : tTest te σ H Q := h _ ⟨b, rfl, q⟩
theorem gv_callR {sp : Sp} {E : XK} {t : TA} {vs : List V} {Q : VK} (h : GvA t σ H vs) (q : sp vs H Q E) : tCall sp [] E t σ H Q := h _ (by rw [List.append_nil]; exact q)
theorem gv_setCall {sp : Sp} {E : XK} {t : TA} {vs : List V} {n : Nat} {u : TS} {D : Ends} (h : GvA t σ H vs) (q : sp vs H (fun v H' => u D (σ.set n (some v)) H') E) : tSeq (tAsg (tCall sp [] E t) (gName n)) u D σ H := h _ (by rw [List.append_nil]; exact q)
theorem gv_sq {te' : TS} {u : TS} {D : Ends} (h : te' { D with nx := u D } σ H) : tSeq te' u D σ H := h
theorem gv_is (h : Gv te σ H v) (e : v = z) : Gv te σ H z := by
  subst e
  exact h
theorem gv_op {g : Int → Int → V} (ha : Gv ta σ H (.int i)) (hb : Gv tb σ H (.int j)) : Gv (tOp (rI0 g) ta tb) σ H (g i j) := fun _ q => ha _ (hb _ ⟨i, j, rfl, rfl, q⟩)
theorem gv_opC {C : Int → Int → Prop} {g : Int → Int → V} (ha : Gv ta σ H (.int i)) (hb : Gv tb σ H (.int j)) (hc : C i j) : Gv (tOp (rI C g) ta tb) σ H (g i j) := fun _ q => ha _ (hb _ ⟨i, j, rfl, rfl, hc, q⟩)
theorem gv_add (ha : Gv ta σ H (.int i)) (hb : Gv tb σ H (.int j)) : Gv (tOp (rI0 fun i j => .int (i + j)) ta tb) σ H (.int (i + j)) := gv_op ha hb
theorem gv_sub (ha : Gv ta σ H (.int i)) (hb : Gv tb σ H (.int j)) : Gv (tOp (rI0 fun i j => .int (i - j)) ta tb) σ H (.int (i - j)) := gv_op ha hb
theorem gv_mul (ha : Gv ta σ H (.int i)) (hb : Gv tb σ H (.int j)) (hc : -(2 ^ 64) < i ∧ i < 2 ^ 64) : Gv (tOp (rI CMul fun i j => .int (i * j)) ta tb) σ H (.int (i * j)) := gv_opC ha hb (.inl hc)
theorem gv_div (ha : Gv ta σ H (.int i)) (hb : Gv tb σ H (.int j)) (hc : 0 < j ∧ j < 1073741824) : Gv (tOp (rI CDiv fun i j => .int (i / j)) ta tb) σ H (.int (i / j)) := gv_opC ha hb hc
theorem gv_lt (ha : Gv ta σ H (.int i)) (hb : Gv tb σ H (.int j)) : Gv (tOp (rI0 fun i j => .bl (decide (i < j))) ta tb) σ H (.bl (decide (i < j))) := gv_op ha hb
theorem gv_le (ha : Gv ta σ H (.int i)) (hb : Gv tb σ H (.int j)) : Gv (tOp (rI0 fun i j => .bl (decide (i ≤ j))) ta tb) σ H (.bl (decide (i ≤ j))) := gv_op ha hb
theorem gv_gt (ha : Gv ta σ H (.int i)) (hb : Gv tb σ H (.int j)) : Gv (tOp (rI0 fun i j => .bl (decide (j < i))) ta tb) σ H (.bl (decide (j < i))) := gv_op ha hb
theorem gv_ge (ha : Gv ta σ H (.int i)) (hb : Gv tb σ H (.int j)) : Gv (tOp (rI0 fun i j => .bl (decide (j ≤ i))) ta tb) σ H (.bl (decide (j ≤ i))) := gv_op ha hb
theorem gv_chainLe (ha : Gv ta σ H (.int i)) (hb : Gv tb σ H (.int j)) (hc : Gv tc σ H (.int k)) : Gv (tChain (rI0 fun i j => .bl (decide (i ≤ j))) (rI0 fun i j => .bl (decide (i ≤ j))) ta tb tc) σ H (.bl (decide (i ≤ j) && decide (j ≤ k))) := fun Q q => ha _ (hb _ ⟨i, j, rfl, rfl, decide (i ≤ j), rfl, by
  cases e : decide (i ≤ j) with
  | true =>
    rw [e] at q
    exact iteT (hc _ ⟨j, k, rfl, rfl, q⟩)
  | false =>
    rw [e] at q
    exact iteF q⟩)
theorem gv_andV {a b : Bool} (h1 : Gv ta σ H (.bl a)) (h2 : Gv tb σ H (.bl b)) : Gv (tAndV ta tb) σ H (.bl (a && b)) := fun Q q => h1 _ ⟨a, rfl, by
  cases a with
  | true => exact iteT (h2 _ q)
  | false => exact iteF q⟩
theorem ga_nil : GvA tNil σ H [] := fun _ q => q
theorem ga_cons {tr : TA} {vs : List V} (h : Gv ta σ H v) (hr : GvA tr σ H vs) : GvA (tCons ta tr) σ H (v :: vs) := fun _ q => h _ (hr _ q)
theorem gv_cb {r : List V → Hp → VK → Prop} {t : TA} {vs : List V} (h : GvA t σ H vs) (hr : ∀ Q : VK, Q z H → r vs H Q) : Gv (tCB r t) σ H z := fun Q q => h _ (hr Q q)
theorem gv_fld {a C dx : Addr} {fs : List (Str × V)} {f : Str} (h : Gv te σ H (.ref a)) (ha : H a = some (.ins C dx fs)) (c : Cls K C) (n : NoAttr K C f) (l : fs.lookup f = some v) : Gv (tFld K te f) σ H v := fun _ q => h _ ⟨a, C, dx, fs, v, rfl, ha, c, n, l, q⟩
theorem gv_meth {a C dx : Addr} {fs : List (Str × V)} {m : Str} {sp : Sp} {E : XK} {t : TA} {vs : List V} (h : Gv te σ H (.ref a)) (ha : H a = some (.ins C dx fs)) (l : fs.lookup m = none) (hv : GvA t σ H vs)
    (hs : ∀ Q : VK, Q z H → sp (.ref a :: vs) H Q E) : Gv (tMeth C m sp [] E te t) σ H z := fun Q q => h _ ⟨a, dx, fs, rfl, ha, l, hv _ (by rw [List.append_nil]; exact hs Q q)⟩
theorem gv_call {sp : Sp} {E : XK} {t : TA} {vs : List V} (hv : GvA t σ H vs) (hs : ∀ Q : VK, Q z H → sp vs H Q E) : Gv (tCall sp [] E t) σ H z := fun Q q => hv _ (by rw [List.append_nil]; exact hs Q q)
end
/-! ### attributes by name -/
theorem lk_here {k : Str} {v : V} {r : List (Str × V)} : List.lookup k ((k, v) :: r) = some v := by
  have e : (k == k) = true := beq_self_eq_true k
  simp only [List.lookup, e]
theorem lk_past {k g : Str} {v : V} {r : List (Str × V)} (h : (k == g) = false) : List.lookup k ((g, v) :: r) = List.lookup k r := by
  simp only [List.lookup, h]
theorem lk_no {k : Str} : ∀ {r : List (Str × V)}, (r.map (·.1)).contains k = false → List.lookup k r = none
  | [], _ => rfl
  | (g, v) :: r, h => by
    have h' : ((g :: r.map (·.1)).contains k) = false := h
    rw [List.contains_cons, Bool.or_eq_false_iff] at h'
    rw [lk_past h'.1]
    exact lk_no h'.2
theorem put_here {f : Str} {v x : V} {r : List (Str × V)} : putF f v ((f, x) :: r) = (f, v) :: r := if_pos rfl
theorem put_past {f g : Str} {v x : V} {r : List (Str × V)} (h : ¬ g = f) : putF f v ((g, x) :: r) = (g, x) :: putF f v r := if_neg h
theorem put_new {f : Str} {v : V} : ∀ {r : List (Str × V)}, (r.map (·.1)).contains f = false → putF f v r = r ++ [(f, v)]
  | [], _ => rfl
  | (g, x) :: r, h => by
    have h' : ((g :: r.map (·.1)).contains f) = false := h
    rw [List.contains_cons, Bool.or_eq_false_iff] at h'
    rw [put_past (fun e => by rw [e, beq_self_eq_true] at h'; cases h'.1), put_new h'.2] <;> rfl
/-! ### the text by places -/
def top (i : Nat) : Stmt := PySem.Challenge.pw_nightballoons_s01_answers.main.body.getD i (.Pass ⟨0, 0, 0, 0⟩)
abbrev sBInit : Stmt := inClass (top 3) 0
abbrev sSpare : Stmt := inClass (top 3) 1
abbrev sLifted : Stmt := inClass (top 3) 2
abbrev sLeft : Stmt := inClass (top 3) 3
abbrev sStays : Stmt := inClass (top 3) 4
abbrev sThrown : Stmt := inClass (top 3) 5
abbrev sWrong : Stmt := top 4
abbrev sFirst : Stmt := top 5
abbrev sBehind : Stmt := top 6
abbrev sLittle : Stmt := top 7
abbrev sEnough : Stmt := top 8
abbrev sLeastE : Stmt := top 9
abbrev sRInit : Stmt := inClass (top 22) 0
abbrev sMust : Stmt := top 23
abbrev sDInit : Stmt := inClass (top 24) 0
abbrev sBegins : Stmt := inClass (top 24) 1
abbrev sLoad : Stmt := inClass (top 24) 2
abbrev sCheck : Stmt := inClass (top 24) 3
abbrev sNights : Stmt := inClass (top 24) 4
abbrev sNeeds : Stmt := inClass (top 24) 5
abbrev sMost : Stmt := inClass (top 24) 6
abbrev sTold : Stmt := inClass (top 24) 7
abbrev sAnswer : Stmt := inClass (top 24) 8
abbrev sAt : Stmt := top 25
abbrev sAns : Stmt := top 26
/-! ### the heap: how a balloon and a desk lie in it -/
def bF (b : Si95.Balloon) : List (Str × V) :=
  [("weight", .int (b.weight : Int)), ("by_day", .int (b.day : Int)), ("by_night", .int (b.night : Int)), ("over", .int (b.over : Int)), ("leak", .int (b.leak : Int)), ("gas", .int (b.gas : Int)), ("sand", .int (b.sand : Int))]
theorem bF_weight (b : Si95.Balloon) : (bF b).lookup ("weight" : Str) = some (.int (b.weight : Int)) := lk_here
theorem bF_day (b : Si95.Balloon) : (bF b).lookup ("by_day" : Str) = some (.int (b.day : Int)) := (lk_past (by decide +kernel)).trans lk_here
theorem bF_night (b : Si95.Balloon) : (bF b).lookup ("by_night" : Str) = some (.int (b.night : Int)) := (lk_past (by decide +kernel)).trans ((lk_past (by decide +kernel)).trans lk_here)
theorem bF_over (b : Si95.Balloon) : (bF b).lookup ("over" : Str) = some (.int (b.over : Int)) := (lk_past (by decide +kernel)).trans ((lk_past (by decide +kernel)).trans ((lk_past (by decide +kernel)).trans lk_here))
theorem bF_leak (b : Si95.Balloon) : (bF b).lookup ("leak" : Str) = some (.int (b.leak : Int)) := (lk_past (by decide +kernel)).trans ((lk_past (by decide +kernel)).trans ((lk_past (by decide +kernel)).trans ((lk_past (by decide +kernel)).trans lk_here)))
theorem bF_gas (b : Si95.Balloon) : (bF b).lookup ("gas" : Str) = some (.int (b.gas : Int)) :=
  (lk_past (by decide +kernel)).trans ((lk_past (by decide +kernel)).trans ((lk_past (by decide +kernel)).trans ((lk_past (by decide +kernel)).trans ((lk_past (by decide +kernel)).trans lk_here))))
theorem bF_sand (b : Si95.Balloon) : (bF b).lookup ("sand" : Str) = some (.int (b.sand : Int)) :=
  (lk_past (by decide +kernel)).trans ((lk_past (by decide +kernel)).trans ((lk_past (by decide +kernel)).trans ((lk_past (by decide +kernel)).trans ((lk_past (by decide +kernel)).trans ((lk_past (by decide +kernel)).trans lk_here)))))
theorem bF_no (b : Si95.Balloon) {m : Str} (h : (["weight", "by_day", "by_night", "over", "leak", "gas", "sand"] : List Str).contains m = false) : (bF b).lookup m = none := lk_no h
theorem bF_putGas (b : Si95.Balloon) (g : Nat) : putF "gas" (.int (g : Int)) (bF b) = bF { b with gas := g } := by
  unfold bF
  rw [put_past (by decide +kernel), put_past (by decide +kernel), put_past (by decide +kernel), put_past (by decide +kernel), put_past (by decide +kernel), put_here]
theorem bF_putSand (b : Si95.Balloon) (s : Nat) : putF "sand" (.int (s : Int)) (bF b) = bF { b with sand := s } := by
  unfold bF
  rw [put_past (by decide +kernel), put_past (by decide +kernel), put_past (by decide +kernel), put_past (by decide +kernel), put_past (by decide +kernel), put_past (by decide +kernel), put_here]
theorem bF_new (w d n o l : Nat) : putF "sand" (.int 0) (putF "gas" (.int 1) (putF "leak" (.int (l : Int)) (putF "over" (.int (o : Int)) (putF "by_night" (.int (n : Int)) (putF "by_day" (.int (d : Int)) (putF "weight" (.int (w : Int)) [])))))) = bF ⟨w, d, n, o, l, 1, 0⟩ := by
  have e1 : putF "weight" (.int (w : Int)) ([] : List (Str × V)) = [(("weight" : Str), V.int (w : Int))] := put_new (show ([] : List Str).contains "weight" = false by decide +kernel)
  have e2 : putF "by_day" (.int (d : Int)) [(("weight" : Str), V.int (w : Int))] = [(("weight" : Str), V.int (w : Int)), (("by_day" : Str), V.int (d : Int))] := put_new (show (["weight"] : List Str).contains "by_day" = false by decide +kernel)
  have e3 : putF "by_night" (.int (n : Int)) [(("weight" : Str), V.int (w : Int)), (("by_day" : Str), V.int (d : Int))] = [(("weight" : Str), V.int (w : Int)), (("by_day" : Str), V.int (d : Int)), (("by_night" : Str), V.int (n : Int))] := put_new (show (["weight", "by_day"] : List Str).contains "by_night" = false by decide +kernel)
  have e4 : putF "over" (.int (o : Int)) [(("weight" : Str), V.int (w : Int)), (("by_day" : Str), V.int (d : Int)), (("by_night" : Str), V.int (n : Int))] = [(("weight" : Str), V.int (w : Int)), (("by_day" : Str), V.int (d : Int)), (("by_night" : Str), V.int (n : Int)), (("over" : Str), V.int (o : Int))] := put_new (show (["weight", "by_day", "by_night"] : List Str).contains "over" = false by decide +kernel)
  have e5 : putF "leak" (.int (l : Int)) [(("weight" : Str), V.int (w : Int)), (("by_day" : Str), V.int (d : Int)), (("by_night" : Str), V.int (n : Int)), (("over" : Str), V.int (o : Int))] = [(("weight" : Str), V.int (w : Int)), (("by_day" : Str), V.int (d : Int)), (("by_night" : Str), V.int (n : Int)), (("over" : Str), V.int (o : Int)), (("leak" : Str), V.int (l : Int))] := put_new (show (["weight", "by_day", "by_night", "over"] : List Str).contains "leak" = false by decide +kernel)
  have e6 : putF "gas" (.int 1) [(("weight" : Str), V.int (w : Int)), (("by_day" : Str), V.int (d : Int)), (("by_night" : Str), V.int (n : Int)), (("over" : Str), V.int (o : Int)), (("leak" : Str), V.int (l : Int))] = [(("weight" : Str), V.int (w : Int)), (("by_day" : Str), V.int (d : Int)), (("by_night" : Str), V.int (n : Int)), (("over" : Str), V.int (o : Int)), (("leak" : Str), V.int (l : Int)), (("gas" : Str), V.int 1)] := put_new (show (["weight", "by_day", "by_night", "over", "leak"] : List Str).contains "gas" = false by decide +kernel)
  have e7 : putF "sand" (.int 0) [(("weight" : Str), V.int (w : Int)), (("by_day" : Str), V.int (d : Int)), (("by_night" : Str), V.int (n : Int)), (("over" : Str), V.int (o : Int)), (("leak" : Str), V.int (l : Int)), (("gas" : Str), V.int 1)] = [(("weight" : Str), V.int (w : Int)), (("by_day" : Str), V.int (d : Int)), (("by_night" : Str), V.int (n : Int)), (("over" : Str), V.int (o : Int)), (("leak" : Str), V.int (l : Int)), (("gas" : Str), V.int 1), (("sand" : Str), V.int 0)] := put_new (show (["weight", "by_day", "by_night", "over", "leak", "gas"] : List Str).contains "sand" = false by decide +kernel)
  rw [e1, e2, e3, e4, e5, e6, e7] <;> rfl
def BalAt (C : Addr) (H : Hp) (a : Addr) (b : Si95.Balloon) : Prop := ∃ dx, H a = some (.ins C dx (bF b))
theorem BalAt.same {C : Addr} {H H' : Hp} {a : Addr} {b : Si95.Balloon} (h : BalAt C H a b) (s : Same H H') : BalAt C H' a b := by
  obtain ⟨dx, e⟩ := h
  exact ⟨dx, s _ _ e⟩
theorem same_upd {H : Hp} {p : Addr} {o : HO} (h : H p = none) : Same H (upd H p o) := fun b x e => by
  rw [upd_ne (ne_of_none e h)]
  exact e
/-! ### what the top has written -/
structure Txt (K : PySem.W.Frag) (mg : Str → Option Value) (CB CD CF aH : Addr) : Prop where
  clB : Cls K CB
  nW : NoAttr K CB "weight"
  nD : NoAttr K CB "by_day"
  nN : NoAttr K CB "by_night"
  nO : NoAttr K CB "over"
  nL : NoAttr K CB "leak"
  nG : NoAttr K CB "gas"
  nS : NoAttr K CB "sand"
  gB : mg "Balloon" = some (.ref CB)
  clD : Cls K CD
  nB : NoAttr K CD "balloon"
  gD : mg "Desk" = some (.ref CD)
  gF : mg "Refused" = some (.ref CF)
  oF : OexC K CF
  xF : XfC K CF
  nF : PySem.W.findIn K (.ref CF) "numbers" = some none
  eF : PySem.W.exmOne K (.ref CF) (.ref CF) = some true
  vV : PySem.W.findCls K (.type "ValueError") (.type "type") "__init__" = some (.val (.builtin "ValueError.__init__"))
  mV : mg "ValueError" = none
  mMin : mg "min" = none
  mMax : mg "max" = none
  mLen : mg "len" = none
  mList : mg "list" = none
  mEnum : mg "enumerate" = none
  cNS : ∃ t, mg "NO_SAND" = some (.int 1 t)
  cCD : ∃ t, mg "COMES_DOWN" = some (.int 2 t)
  cNT : ∃ t, mg "NOT_AS_TOLD" = some (.int (-1) t)
  cNL : ∃ t, mg "NOT_LIFTED" = some (.int (-3) t)
  cCB : ∃ t, mg "CANT_BE" = some (.int (-6) t)
  cMW : ∃ t, mg "MOST_WEIGHT" = some (.int 10000 t)
  cML : ∃ t, mg "MOST_LIFT" = some (.int 100 t)
  cMO : ∃ t, mg "MOST_OVER" = some (.int 10000 t)
  cMG : ∃ t, mg "MOST_GAS" = some (.int 200 t)
  cMS : ∃ t, mg "MOST_SAND" = some (.int 10000 t)
  cMN : ∃ t, mg "MOST_NIGHTS" = some (.int 200 t)
  cCH : ∃ t, mg "CHECK" = some (.int 2 t)
  gH : mg "HOW_MANY_NUMBERS" = some (.ref aH)
  tH : ∀ H, SqT K H aH [.int 5, .int 2, .int 0, .int 0, .int 1, .int 0]
/-- a method that keeps its promise -/
structure Mth (P : Program) (w : World) (K : PySem.W.Frag) (mg : Str → Option Value) (base : Heap) (CX : CXT) (k : Nat) (C : Addr) (m : Str) (ps : List Str) (sp : Sp) : Prop where
  ex : ∃ f fd, Meth K C m f ∧ FnOk P w K mg base CX k f fd ps sp ∧ Binds K fd ps []
/-- a def that keeps its promise -/
structure Def (P : Program) (w : World) (K : PySem.W.Frag) (mg : Str → Option Value) (base : Heap) (CX : CXT) (k : Nat) (x : Str) (ps : List Str) (sp : Sp) : Prop where
  ex : ∃ f fd, mg x = some (.ref f) ∧ PySem.W.keepIn K (.ref f) = true ∧ FnOk P w K mg base CX k f fd ps sp ∧ Binds K fd ps []
/-- a class whose __init__ keeps its promise -/
structure Mkr (P : Program) (w : World) (K : PySem.W.Frag) (mg : Str → Option Value) (base : Heap) (CX : CXT) (k : Nat) (C : Addr) (ps : List Str) (sp : Sp) : Prop where
  ex : ∃ f fd, Mk K C f ∧ FnOk P w K mg base CX k f fd ps sp ∧ Binds K fd ps []
end Nb
namespace Nb
open PySem PySem.Spec PyProof.Rows L2
/-! ### numbers -/
theorem left_int {b : Si95.Balloon} (G : Good b) (g s : Nat) :
    (if (if ((b.weight : Int) + (s : Int) + (b.over : Int)) / (b.day : Int) < (g : Int) then ((b.weight : Int) + (s : Int) + (b.over : Int)) / (b.day : Int) else (g : Int)) - (b.leak : Int) > 0 then
      (if ((b.weight : Int) + (s : Int) + (b.over : Int)) / (b.day : Int) < (g : Int) then ((b.weight : Int) + (s : Int) + (b.over : Int)) / (b.day : Int) else (g : Int)) - (b.leak : Int) else 0) = ((left b g s : Nat) : Int) := by
  have e : ((b.weight : Int) + (s : Int) + (b.over : Int)) / (b.day : Int) = (((b.weight + s + b.over) / b.day : Nat) : Int) := by
    rw [Int.natCast_ediv] <;> rfl
  rw [e]
  unfold left
  generalize (b.weight + s + b.over) / b.day = q
  split <;> split <;> omega
theorem stays_int (b : Si95.Balloon) (g s : Nat) : decide ((b.weight : Int) + (s : Int) ≤ (b.night : Int) * (g : Int)) = decide (b.weight + s ≤ b.night * g) := by
  have e : (b.night : Int) * (g : Int) = ((b.night * g : Nat) : Int) := (Int.natCast_mul _ _).symm
  rw [e]
  generalize b.night * g = q
  by_cases c : b.weight + s ≤ q
  · rw [decide_eq_true c, decide_eq_true (by omega)]
  · rw [decide_eq_false c, decide_eq_false (by omega)]
theorem thrown_int (b : Si95.Balloon) (g s : Nat) : (if (b.weight : Int) + (s : Int) - (b.night : Int) * (g : Int) > 0 then (b.weight : Int) + (s : Int) - (b.night : Int) * (g : Int) else 0) = ((b.weight + s - b.night * g : Nat) : Int) := by
  have e : (b.night : Int) * (g : Int) = ((b.night * g : Nat) : Int) := (Int.natCast_mul _ _).symm
  rw [e]
  generalize b.night * g = q
  split <;> omega
theorem lifts_int (b : Si95.Balloon) : decide ((b.sand : Int) ≤ (b.day : Int) * (b.gas : Int) - (b.weight : Int)) = b.lifts := by
  show _ = decide (b.weight + b.sand ≤ b.day * b.gas)
  have e : (b.day : Int) * (b.gas : Int) = ((b.day * b.gas : Nat) : Int) := (Int.natCast_mul _ _).symm
  rw [e]
  generalize b.day * b.gas = q
  by_cases c : b.weight + b.sand ≤ q
  · rw [decide_eq_true c, decide_eq_true (by omega)]
  · rw [decide_eq_false c, decide_eq_false (by omega)]
theorem few {n : Nat} (h : n ≤ 10000) : -(2 ^ 64) < ((n : Nat) : Int) ∧ ((n : Nat) : Int) < 2 ^ 64 := by omega
/-! ### the promises of a balloon's methods -/
def spBInit (CB : Addr) : Sp := fun vs H Q _ => ∃ (p dx : Addr) (w d n o l : Nat), vs = [.ref p, .int (w : Int), .int (d : Int), .int (n : Int), .int (o : Int), .int (l : Int)] ∧ H p = some (.ins CB dx []) ∧
  ∀ H' : Hp, BalAt CB H' p ⟨w, d, n, o, l, 1, 0⟩ → (∀ b o, H b = some o → b ≠ p → H' b = some o) → Q .non H'
def spSpare (CB : Addr) : Sp := fun vs H Q _ => ∃ (a : Addr) (b : Si95.Balloon), vs = [.ref a] ∧ BalAt CB H a b ∧ Good b ∧ Q (.int ((b.day : Int) * (b.gas : Int) - (b.weight : Int))) H
def spLifted (CB : Addr) : Sp := fun vs H Q _ => ∃ (a : Addr) (b : Si95.Balloon), vs = [.ref a] ∧ BalAt CB H a b ∧ Good b ∧ Q (.bl b.lifts) H
def spLeft (CB : Addr) : Sp := fun vs H Q _ => ∃ (a : Addr) (b : Si95.Balloon) (g s : Nat), vs = [.ref a, .int (g : Int), .int (s : Int)] ∧ BalAt CB H a b ∧ Good b ∧ Q (.int ((left b g s : Nat) : Int)) H
def spStays (CB : Addr) : Sp := fun vs H Q _ => ∃ (a : Addr) (b : Si95.Balloon) (g s : Nat), vs = [.ref a, .int (g : Int), .int (s : Int)] ∧ BalAt CB H a b ∧ Good b ∧ Q (.bl (decide (b.weight + s ≤ b.night * g))) H
def spThrown (CB : Addr) : Sp := fun vs H Q _ => ∃ (a : Addr) (b : Si95.Balloon) (g s : Nat), vs = [.ref a, .int (g : Int), .int (s : Int)] ∧ BalAt CB H a b ∧ Good b ∧ Q (.int ((b.weight + s - b.night * g : Nat) : Int)) H
section
variable {P : Program} {w : World} {K : PySem.W.Frag} {mg : Str → Option Value} {base : Heap} {CB CD CF aH : Addr}
theorem scBInit : FnScope ["self", "weight", "by_day", "by_night", "over", "leak"] ["self", "weight", "by_day", "by_night", "over", "leak"] (defScope sBInit) := ⟨rfl, rfl, rfl, by decide +kernel, rfl, by decide +kernel, by decide +kernel⟩
theorem ok_binit {f : Addr} {fd : FuncData} (F : Fun K "__init__" "Balloon.__init__" sBInit f fd) (T : Txt K mg CB CD CF aH) : FnOk P w K mg base CX0 1 f fd ["self", "weight", "by_day", "by_night", "over", "leak"] (spBInit CB) := by
  refine F.ok scBInit (fun vs H Q E h => ?_) (fun cdv A outer s H vs Q E hr h => ?_)
  · obtain ⟨p, dx, w, d, n, o, l, rfl, _⟩ := h
    rfl
  · obtain ⟨p, dx, w, d, n, o, l, rfl, hp, k⟩ := h
    refine ⟨_, pss_cons (ps_fld (pv 0) (pv 1) rfl) (pss_cons (ps_fld (pv 0) (pv 2) rfl) (pss_cons (ps_fld (pv 0) (pv 3) rfl) (pss_cons (ps_fld (pv 0) (pv 4) rfl) (pss_cons (ps_fld (pv 0) (pv 5) rfl)
      (pss_cons (ps_fld (pv 0) pe_int rfl) (pss_one (ps_fld (pv 0) pe_int rfl))))))), ?_⟩
    refine ⟨_, rfl, _, rfl, p, CB, dx, [], rfl, hp, T.clB, T.nW, (by decide), ?_⟩
    refine ⟨_, rfl, _, rfl, p, CB, dx, _, rfl, upd_same, T.clB, T.nD, (by have := length_putF "weight" (V.int (w : Int)) []; exact Nat.lt_of_le_of_lt this (by decide)), ?_⟩
    refine ⟨_, rfl, _, rfl, p, CB, dx, _, rfl, upd_same, T.clB, T.nN, ?_, ?_⟩
    · refine Nat.lt_of_le_of_lt (length_putF _ _ _) (Nat.lt_of_le_of_lt (Nat.succ_le_succ (length_putF _ _ _)) (by decide))
    refine ⟨_, rfl, _, rfl, p, CB, dx, _, rfl, upd_same, T.clB, T.nO, ?_, ?_⟩
    · refine Nat.lt_of_le_of_lt (length_putF _ _ _) (Nat.lt_of_le_of_lt (Nat.succ_le_succ (length_putF _ _ _)) (Nat.lt_of_le_of_lt (Nat.succ_le_succ (Nat.succ_le_succ (length_putF _ _ _))) (by decide)))
    refine ⟨_, rfl, _, rfl, p, CB, dx, _, rfl, upd_same, T.clB, T.nL, ?_, ?_⟩
    · have h1 := length_putF "over" (V.int (o : Int)) (putF "by_night" (V.int (n : Int)) (putF "by_day" (V.int (d : Int)) (putF "weight" (V.int (w : Int)) [])))
      have h2 := length_putF "by_night" (V.int (n : Int)) (putF "by_day" (V.int (d : Int)) (putF "weight" (V.int (w : Int)) []))
      have h3 := length_putF "by_day" (V.int (d : Int)) (putF "weight" (V.int (w : Int)) [])
      have h4 := length_putF "weight" (V.int (w : Int)) []
      have h5 : ([] : List (Str × V)).length = 0 := rfl
      show (putF "over" (V.int (o : Int)) (putF "by_night" (V.int (n : Int)) (putF "by_day" (V.int (d : Int)) (putF "weight" (V.int (w : Int)) [])))).length < 1000
      omega
    refine ⟨_, rfl, p, CB, dx, _, rfl, upd_same, T.clB, T.nG, ?_, ?_⟩
    · have h0 := length_putF "leak" (V.int (l : Int)) (putF "over" (V.int (o : Int)) (putF "by_night" (V.int (n : Int)) (putF "by_day" (V.int (d : Int)) (putF "weight" (V.int (w : Int)) []))))
      have h1 := length_putF "over" (V.int (o : Int)) (putF "by_night" (V.int (n : Int)) (putF "by_day" (V.int (d : Int)) (putF "weight" (V.int (w : Int)) [])))
      have h2 := length_putF "by_night" (V.int (n : Int)) (putF "by_day" (V.int (d : Int)) (putF "weight" (V.int (w : Int)) []))
      have h3 := length_putF "by_day" (V.int (d : Int)) (putF "weight" (V.int (w : Int)) [])
      have h4 := length_putF "weight" (V.int (w : Int)) []
      have h5 : ([] : List (Str × V)).length = 0 := rfl
      show (putF "leak" (V.int (l : Int)) (putF "over" (V.int (o : Int)) (putF "by_night" (V.int (n : Int)) (putF "by_day" (V.int (d : Int)) (putF "weight" (V.int (w : Int)) []))))).length < 1000
      omega
    refine ⟨_, rfl, p, CB, dx, _, rfl, upd_same, T.clB, T.nS, ?_, ?_⟩
    · have hg := length_putF "gas" (V.int 1) (putF "leak" (V.int (l : Int)) (putF "over" (V.int (o : Int)) (putF "by_night" (V.int (n : Int)) (putF "by_day" (V.int (d : Int)) (putF "weight" (V.int (w : Int)) [])))))
      have h0 := length_putF "leak" (V.int (l : Int)) (putF "over" (V.int (o : Int)) (putF "by_night" (V.int (n : Int)) (putF "by_day" (V.int (d : Int)) (putF "weight" (V.int (w : Int)) []))))
      have h1 := length_putF "over" (V.int (o : Int)) (putF "by_night" (V.int (n : Int)) (putF "by_day" (V.int (d : Int)) (putF "weight" (V.int (w : Int)) [])))
      have h2 := length_putF "by_night" (V.int (n : Int)) (putF "by_day" (V.int (d : Int)) (putF "weight" (V.int (w : Int)) []))
      have h3 := length_putF "by_day" (V.int (d : Int)) (putF "weight" (V.int (w : Int)) [])
      have h4 := length_putF "weight" (V.int (w : Int)) []
      have h5 : ([] : List (Str × V)).length = 0 := rfl
      show (putF "gas" (V.int 1) (putF "leak" (V.int (l : Int)) (putF "over" (V.int (o : Int)) (putF "by_night" (V.int (n : Int)) (putF "by_day" (V.int (d : Int)) (putF "weight" (V.int (w : Int)) [])))))).length < 1000
      omega
    refine k _ ⟨dx, Eq.trans upd_same (congrArg (fun q => some (HO.ins CB dx q)) (bF_new w d n o l))⟩ fun b x e hb => ?_
    rw [upd_ne hb, upd_ne hb, upd_ne hb, upd_ne hb, upd_ne hb, upd_ne hb, upd_ne hb]
    exact e
theorem scSpare : FnScope ["self"] ["self"] (defScope sSpare) := ⟨rfl, rfl, rfl, by decide +kernel, rfl, by decide +kernel, by decide +kernel⟩
theorem ok_spare {f : Addr} {fd : FuncData} (F : Fun K "spare" "Balloon.spare" sSpare f fd) (T : Txt K mg CB CD CF aH) : FnOk P w K mg base CX0 1 f fd ["self"] (spSpare CB) := by
  refine F.ok scSpare (fun vs H Q E h => ?_) (fun cdv A outer s H vs Q E hr h => ?_)
  · obtain ⟨a, b, rfl, _⟩ := h
    rfl
  · obtain ⟨a, b, rfl, ⟨dx, h1⟩, G, k⟩ := h
    refine ⟨_, pss_one (ps_ret (pe_op op_sub (pe_op op_mul (pe_fld (pv 0) rfl) (pe_fld (pv 0) rfl)) (pe_fld (pv 0) rfl))), ?_⟩
    have v0 : Gv (tVar 0) (start ["self"] [V.ref a]) H (.ref a) := gv_var rfl
    exact gv_op (gv_opC (gv_fld v0 h1 T.clB T.nD (bF_day b)) (gv_fld v0 h1 T.clB T.nG (bF_gas b)) (.inl (few (Nat.le_trans G.d2 (by decide))))) (gv_fld v0 h1 T.clB T.nW (bF_weight b)) _ k
theorem scLifted : FnScope ["self"] ["self"] (defScope sLifted) := ⟨rfl, rfl, rfl, by decide +kernel, rfl, by decide +kernel, by decide +kernel⟩
theorem ok_lifted {f : Addr} {fd : FuncData} (F : Fun K "is_lifted" "Balloon.is_lifted" sLifted f fd) (T : Txt K mg CB CD CF aH) (M : Mth P w K mg base CX0 1 CB "spare" ["self"] (spSpare CB)) : FnOk P w K mg base CX0 2 f fd ["self"] (spLifted CB) := by
  obtain ⟨fS, fdS, mS, GS, bS⟩ := M
  refine F.ok scLifted (fun vs H Q E h => ?_) (fun cdv A outer s H vs Q E hr h => ?_)
  · obtain ⟨a, b, rfl, _⟩ := h
    rfl
  · obtain ⟨a, b, rfl, ⟨dx, h1⟩, G, k⟩ := h
    refine ⟨_, pss_one (ps_ret (pe_cmpR op_le (pe_fld (pv 0) rfl) (pe_meth0 (pv 0) T.clB mS GS hr bS .nil pass0) (nomark _))), ?_⟩
    have v0 : Gv (tVar 0) (start ["self"] [V.ref a]) H (.ref a) := gv_var rfl
    refine gv_is (gv_op (gv_fld v0 h1 T.clB T.nS (bF_sand b)) (gv_meth v0 h1 (bF_no b (by decide +kernel)) ga_nil fun Q q => ⟨a, b, rfl, ⟨dx, h1⟩, G, q⟩)) (congrArg V.bl (lifts_int b)) _ k
theorem scLeft : FnScope ["self", "gas", "sand", "kept"] ["self", "gas", "sand"] (defScope sLeft) := ⟨rfl, rfl, rfl, by decide +kernel, rfl, by decide +kernel, by decide +kernel⟩
theorem ok_left {f : Addr} {fd : FuncData} (F : Fun K "left_by_night" "Balloon.left_by_night" sLeft f fd) (T : Txt K mg CB CD CF aH) : FnOk P w K mg base CX0 1 f fd ["self", "gas", "sand"] (spLeft CB) := by
  refine F.ok scLeft (fun vs H Q E h => ?_) (fun cdv A outer s H vs Q E hr h => ?_)
  · obtain ⟨a, b, g, s, rfl, _⟩ := h
    rfl
  · obtain ⟨a, b, g, s, rfl, ⟨dx, h1⟩, G, k⟩ := h
    refine ⟨_, pss_cons (ps_set (i := 3) scLeft.nd rfl (Or.inl rfl) (pe_callB (call_min2 rfl) (by rfl) T.mMin (by decide +kernel) (pa_cons (pv 1) (pa_cons (pe_op op_fdiv (pe_op op_add (pe_op op_add (pe_fld (pv 0) rfl) (pv 2)) (pe_fld (pv 0) rfl)) (pe_fld (pv 0) rfl)) pa_nil))))
      (pss_one (ps_ret (pe_callB (call_max2 rfl) (by rfl) T.mMax (by decide +kernel) (pa_cons pe_int (pa_cons (pe_op op_sub (pv 3) (pe_fld (pv 0) rfl)) pa_nil))))), ?_⟩
    have v0 : Gv (tVar 0) (start ["self", "gas", "sand", "kept"] [V.ref a, V.int (g : Int), V.int (s : Int)]) H (.ref a) := gv_var rfl
    refine gv_set (gv_cb (ga_cons (gv_var rfl) (ga_cons (gv_div (gv_add (gv_add (gv_fld v0 h1 T.clB T.nW (bF_weight b)) (gv_var rfl)) (gv_fld v0 h1 T.clB T.nO (bF_over b))) (gv_fld v0 h1 T.clB T.nD (bF_day b)) (And.intro ?_ ?_)) ga_nil)) (fun Q q => ⟨_, _, rfl, q⟩)) ?_
    · have := G.d1
      show (0 : Int) < (b.day : Int)
      omega
    · have := G.d2
      show (b.day : Int) < 1073741824
      omega
    · refine gv_is (gv_cb (ga_cons gv_c (ga_cons (gv_op (gv_var rfl) (gv_fld (gv_var rfl) h1 T.clB T.nL (bF_leak b))) ga_nil)) (fun Q q => ⟨_, _, rfl, q⟩)) (congrArg V.int (left_int G g s)) _ k
theorem scStays : FnScope ["self", "gas", "sand"] ["self", "gas", "sand"] (defScope sStays) := ⟨rfl, rfl, rfl, by decide +kernel, rfl, by decide +kernel, by decide +kernel⟩
theorem ok_stays {f : Addr} {fd : FuncData} (F : Fun K "stays_up" "Balloon.stays_up" sStays f fd) (T : Txt K mg CB CD CF aH) : FnOk P w K mg base CX0 1 f fd ["self", "gas", "sand"] (spStays CB) := by
  refine F.ok scStays (fun vs H Q E h => ?_) (fun cdv A outer s H vs Q E hr h => ?_)
  · obtain ⟨a, b, g, s, rfl, _⟩ := h
    rfl
  · obtain ⟨a, b, g, s, rfl, ⟨dx, h1⟩, G, k⟩ := h
    refine ⟨_, pss_one (ps_ret (pe_cmpR op_le (pe_op op_add (pe_fld (pv 0) rfl) (pv 2)) (pe_op op_mul (pe_fld (pv 0) rfl) (pv 1)) (nomark _))), ?_⟩
    have v0 : Gv (tVar 0) (start ["self", "gas", "sand"] [V.ref a, V.int (g : Int), V.int (s : Int)]) H (.ref a) := gv_var rfl
    refine gv_is (gv_op (gv_op (gv_fld v0 h1 T.clB T.nW (bF_weight b)) (gv_var rfl)) (gv_opC (gv_fld v0 h1 T.clB T.nN (bF_night b)) (gv_var rfl) (.inl (few (Nat.le_trans G.n2 (Nat.le_trans G.d2 (by decide))))))) (congrArg V.bl (stays_int b g s)) _ k
theorem scThrown : FnScope ["self", "gas", "sand"] ["self", "gas", "sand"] (defScope sThrown) := ⟨rfl, rfl, rfl, by decide +kernel, rfl, by decide +kernel, by decide +kernel⟩
theorem ok_thrown {f : Addr} {fd : FuncData} (F : Fun K "least_thrown" "Balloon.least_thrown" sThrown f fd) (T : Txt K mg CB CD CF aH) : FnOk P w K mg base CX0 1 f fd ["self", "gas", "sand"] (spThrown CB) := by
  refine F.ok scThrown (fun vs H Q E h => ?_) (fun cdv A outer s H vs Q E hr h => ?_)
  · obtain ⟨a, b, g, s, rfl, _⟩ := h
    rfl
  · obtain ⟨a, b, g, s, rfl, ⟨dx, h1⟩, G, k⟩ := h
    refine ⟨_, pss_one (ps_ret (pe_callB (call_max2 rfl) (by rfl) T.mMax (by decide +kernel) (pa_cons pe_int (pa_cons (pe_op op_sub (pe_op op_add (pe_fld (pv 0) rfl) (pv 2)) (pe_op op_mul (pe_fld (pv 0) rfl) (pv 1))) pa_nil)))), ?_⟩
    have v0 : Gv (tVar 0) (start ["self", "gas", "sand"] [V.ref a, V.int (g : Int), V.int (s : Int)]) H (.ref a) := gv_var rfl
    refine gv_is (gv_cb (ga_cons gv_c (ga_cons (gv_op (gv_op (gv_fld v0 h1 T.clB T.nW (bF_weight b)) (gv_var rfl)) (gv_opC (gv_fld v0 h1 T.clB T.nN (bF_night b)) (gv_var rfl) (.inl (few (Nat.le_trans G.n2 (Nat.le_trans G.d2 (by decide))))))) ga_nil))
      (fun Q q => ⟨_, _, rfl, q⟩)) (congrArg V.int (thrown_int b g s)) _ k
end
end Nb
namespace Nb
open PySem PySem.Spec PyProof.Rows L2
/-! ### plans: the promises -/
def wrongN (b : Si95.Balloon) (g s t : Nat) : Nat := if s < t then 1 else if b.weight + (s - t) ≤ b.night * g then 0 else 2
abbrev nV (n : Nat) : V := .int (n : Int)
def spWrong (CB : Addr) : Sp := fun vs H Q _ => ∃ (a : Addr) (b : Si95.Balloon) (g s t : Nat), vs = [.ref a, nV g, nV s, nV t] ∧ BalAt CB H a b ∧ Good b ∧ Q (nV (wrongN b g s t)) H
def spFirst (K : PySem.W.Frag) (CB : Addr) : Sp := fun vs H Q _ => ∃ (a p : Addr) (b : Si95.Balloon) (plan : List Nat), vs = [.ref a, .ref p] ∧ BalAt CB H a b ∧ Good b ∧ SqL K H p (plan.map nV) ∧
  ∀ H', Same H H' → (∀ x, b.goes 0 b.begun plan = .ok x → Q .non H') ∧ (∀ i n, b.goes 0 b.begun plan = .error (i, n) → ∀ t, H' t = some (.tup [nV i, nV n]) → Q (.ref t) H')
def spBehind (K : PySem.W.Frag) (CB : Addr) : Sp := fun vs H Q _ => ∃ (a p : Addr) (b : Si95.Balloon) (plan : List Nat) (st : Si95.Stand), vs = [.ref a, .ref p] ∧ BalAt CB H a b ∧ Good b ∧ SqL K H p (plan.map nV) ∧ b.goes 0 b.begun plan = .ok st ∧
  ∀ H' t, Same H H' → H' t = some (.tup [nV st.gas, nV st.sand]) → Q (.ref t) H'
def spLittle (CB : Addr) : Sp := fun vs H Q _ => ∃ (a : Addr) (b : Si95.Balloon) (s : Nat), vs = [.ref a, nV s] ∧ BalAt CB H a b ∧ Good b ∧
  ∀ H' p, Same H H' → H' p = some (.lst ((little b s).map nV)) → Q (.ref p) H'
def spEnough (CB : Addr) : Sp := fun vs H Q _ => ∃ (a : Addr) (b : Si95.Balloon) (s n : Nat), vs = [.ref a, nV s, nV n] ∧ BalAt CB H a b ∧ Good b ∧
  ∀ H', Same H H' → Q (.bl (decide (n ≤ (little b s).length))) H'
def spLeastE (CB : Addr) : Sp := fun vs H Q _ => ∃ (a : Addr) (b : Si95.Balloon) (n L : Nat), vs = [.ref a, nV n] ∧ BalAt CB H a b ∧ Good b ∧ b.weight ≤ b.day * b.gas ∧ L ≤ b.day * b.gas - b.weight ∧ (∀ s, n ≤ (little b s).length ↔ L ≤ s) ∧
  ∀ H', Same H H' → Q (nV L) H'
section
variable {P : Program} {w : World} {K : PySem.W.Frag} {mg : Str → Option Value} {base : Heap} {CB CD CF aH : Addr}
theorem sub_int {s t : Nat} (h : ¬ s < t) : V.int ((s : Int) - (t : Int)) = nV (s - t) := congrArg V.int (by omega)
theorem map_at {l : List Nat} {i : Nat} {x : V} (h : (l.map nV)[i]? = some x) : ∃ t, l[i]? = some t ∧ x = nV t := by
  rw [List.getElem?_map] at h
  cases e : l[i]? with
  | none =>
    rw [e] at h
    cases h
  | some t =>
    rw [e] at h
    exact ⟨t, rfl, (Option.some.inj h).symm⟩
/-! ### wrong_in -/
theorem scWrong : FnScope ["balloon", "gas", "sand", "thrown"] ["balloon", "gas", "sand", "thrown"] (defScope sWrong) := ⟨rfl, rfl, rfl, by decide +kernel, rfl, by decide +kernel, by decide +kernel⟩
theorem ok_wrong {f : Addr} {fd : FuncData} (F : Fun K "wrong_in" "wrong_in" sWrong f fd) (T : Txt K mg CB CD CF aH) (M : Mth P w K mg base CX0 1 CB "stays_up" ["self", "gas", "sand"] (spStays CB)) : FnOk P w K mg base CX0 2 f fd ["balloon", "gas", "sand", "thrown"] (spWrong CB) := by
  obtain ⟨fS, fdS, mS, GS, bS⟩ := M
  obtain ⟨tn, gNS⟩ := T.cNS
  obtain ⟨tc, gCD⟩ := T.cCD
  refine F.ok scWrong (fun vs H Q E h => ?_) (fun cdv A outer s H vs Q E hr h => ?_)
  · obtain ⟨a, b, g, s, t, rfl, _⟩ := h
    rfl
  · obtain ⟨a, b, g, s, t, rfl, ⟨dx, h1⟩, G, k⟩ := h
    refine ⟨_, pss_cons (ps_if (pt_cmpR op_gt (pv 3) (pv 2) (nomark _)) (pss_one (ps_ret (pe_glob (v := .int 1) rfl gNS ⟨_, rfl⟩))) pss_nil)
      (pss_cons (ps_if (pt_not (pt_val (pe_meth (pv 0) T.clB mS GS hr bS .nil pass0 (pa_cons (pv 1) (pa_cons (pe_op op_sub (pv 2) (pv 3)) pa_nil))))) (pss_one (ps_ret (pe_glob (v := .int 2) rfl gCD ⟨_, rfl⟩))) pss_nil)
      (pss_one (ps_ret pe_int))), ?_⟩
    unfold wrongN at k
    refine gv_sq (gv_ifT (gv_gt (gv_var rfl) (gv_var rfl)) ?_)
    by_cases c : s < t
    · rw [if_pos (decide_eq_true (show (s : Int) < (t : Int) by omega))]
      rw [if_pos c] at k
      exact gv_ret gv_c k
    · rw [if_neg (by rw [decide_eq_true_eq]; omega)]
      rw [if_neg c] at k
      refine gv_sq (gv_ifN (gv_meth (gv_var rfl) h1 (bF_no b (by decide +kernel)) (ga_cons (gv_var rfl) (ga_cons (gv_is (gv_sub (gv_var rfl) (gv_var rfl)) (sub_int c)) ga_nil)) fun Q q => ⟨a, b, g, s - t, rfl, ⟨dx, h1⟩, G, q⟩) ?_)
      by_cases d : b.weight + (s - t) ≤ b.night * g
      · rw [if_pos (decide_eq_true d)]
        rw [if_pos d] at k
        exact k
      · rw [if_neg (by rw [decide_eq_true_eq]; exact d)]
        rw [if_neg d] at k
        exact gv_ret gv_c k
/-! ### first_wrong -/
theorem scFirst : FnScope ["balloon", "plan", "gas", "sand", "night", "thrown", "wrong"] ["balloon", "plan"] (defScope sFirst) := ⟨rfl, rfl, rfl, by decide +kernel, rfl, by decide +kernel, by decide +kernel⟩
theorem ok_first {f : Addr} {fd : FuncData} (F : Fun K "first_wrong" "first_wrong" sFirst f fd) (T : Txt K mg CB CD CF aH) (M : Mth P w K mg base CX0 1 CB "left_by_night" ["self", "gas", "sand"] (spLeft CB))
    (D : Def P w K mg base CX0 2 "wrong_in" ["balloon", "gas", "sand", "thrown"] (spWrong CB)) : FnOk P w K mg base CX0 3 f fd ["balloon", "plan"] (spFirst K CB) := by
  obtain ⟨fL, fdL, mL, GL, bL⟩ := M
  obtain ⟨fW, fdW, gW, kW, GW, bW⟩ := D
  refine F.ok scFirst (fun vs H Q E h => ?_) (fun cdv A outer s H vs Q E hr h => ?_)
  · obtain ⟨a, p, b, plan, rfl, _⟩ := h
    rfl
  · obtain ⟨a, p, b, plan, rfl, hB, G, hS, k⟩ := h
    have hr1 : Room 1 _ := hr.mono (by decide)
    refine ⟨_, pss_cons (ps_par (i := 2) (j := 3) (by rfl) scFirst.nd rfl rfl (by decide) rfl rfl (pa_cons (pe_fld (pv 0) rfl) (pa_cons (pe_fld (pv 0) rfl) pa_nil)) (by rfl))
      (pss_cons (ps_for PassesOwn.never rfl (pi_enum rfl T.mEnum (pa_cons (pv 1) pa_nil)) (pg_tup rfl (pgs_cons (pg_name (i := 4) scFirst.nd rfl (Or.inl rfl)) (pgs_cons (pg_name (i := 5) scFirst.nd rfl (Or.inl rfl)) pgs_nil)))
        (pss_cons (ps_set (i := 2) scFirst.nd rfl (Or.inl rfl) (pe_meth (pv 0) T.clB mL GL hr1 bL .nil pass0 (pa_cons (pv 2) (pa_cons (pv 3) pa_nil))))
        (pss_cons (ps_set (i := 6) scFirst.nd rfl (Or.inl rfl) (pe_call GW hr rfl gW kW bW .nil pass0 (pa_cons (pv 0) (pa_cons (pv 2) (pa_cons (pv 3) (pa_cons (pv 5) pa_nil))))))
        (pss_cons (ps_if (pt_cmpR op_gt (pv 6) pe_int (nomark _)) (pss_one (ps_ret (pe_tup (pa_cons (pv 4) (pa_cons (pv 6) pa_nil))))) pss_nil)
        (pss_one (ps_set (i := 3) scFirst.nd rfl (Or.inl rfl) (pe_op op_sub (pv 3) (pv 5))))))))
      (pss_one (ps_ret pe_non))), ?_⟩
    obtain ⟨dx, h1⟩ := id hB
    have v0 : Gv (tVar 0) (start ["balloon", "plan", "gas", "sand", "night", "thrown", "wrong"] [V.ref a, V.ref p]) H (.ref a) := gv_var rfl
    refine gv_par (ga_cons (gv_fld v0 h1 T.clB T.nG (bF_gas b)) (ga_cons (gv_fld v0 h1 T.clB T.nS (bF_sand b)) ga_nil)) ?_
    refine ⟨_, rfl, p, plan.map nV, rfl, hS, fun i m σ H' => ∃ (g s : Nat) (y4 y5 y6 : Option V), σ = [some (.ref a), some (.ref p), some (nV g), some (nV s), y4, y5, y6] ∧ i + m = plan.length ∧ Same H H' ∧ b.goes 0 b.begun plan = b.goes i ⟨g, s⟩ (plan.drop i),
      ⟨plan.length, b.gas, b.sand, none, none, none, rfl, Nat.zero_add _, Same.refl H, rfl⟩, fun i m σ H' hW => ?_⟩
    obtain ⟨g, s, y4, y5, y6, rfl, em, sm, eg⟩ := hW
    have hA : SqL K H' p (plan.map nV) := sm.seq hS
    by_cases hi : i < plan.length
    · have gi : (plan.map nV)[i]? = some (nV plan[i]) := by
        rw [List.getElem?_map, List.getElem?_eq_getElem hi]
        rfl
      refine .inr ⟨⟨_, _, hA, gi⟩, fun σ' H'' => ∃ (g s : Nat) (y4 y5 y6 : Option V), σ' = [some (.ref a), some (.ref p), some (nV g), some (nV s), y4, y5, y6] ∧ Same H H'' ∧ b.goes 0 b.begun plan = b.goes (i + 1) ⟨g, s⟩ (plan.drop (i + 1)), fun σ' H'' hN => ?_, fun x H'' hy => ?_⟩
      · obtain ⟨g', s', z4, z5, z6, e1, e2, e3⟩ := hN
        exact ⟨m - 1, by omega, g', s', z4, z5, z6, e1, by omega, e2, e3⟩
      · obtain ⟨t, x1, rfl, nT, rfl, f1⟩ := hy
        have ex : x1 = nV plan[i] := Option.some.inj ((f1 _ hA).symm.trans gi)
        subst ex
        have sT : Same H (upd H' t (.tup [.int (i : Int), nV plan[i]])) := sm.trans (same_upd nT)
        have ed : plan.drop i = plan[i] :: plan.drop (i + 1) := drop_at (List.getElem?_eq_getElem hi)
        rw [ed] at eg
        generalize plan[i] = n at *
        obtain ⟨dx', h1'⟩ := hB.same sT
        refine ⟨t, _, rfl, SqT.of upd_same, rfl, _, _, rfl, _, _, rfl, rfl, ?_⟩
        refine gv_set (gv_meth (gv_var rfl) h1' (bF_no b (by decide +kernel)) (ga_cons (gv_var rfl) (ga_cons (gv_var rfl) ga_nil)) fun Q q => ⟨a, b, g, s, rfl, ⟨dx', h1'⟩, G, q⟩) ?_
        refine gv_set (gv_call (ga_cons (gv_var rfl) (ga_cons (gv_var rfl) (ga_cons (gv_var rfl) (ga_cons (gv_var rfl) ga_nil)))) fun Q q => ⟨a, b, left b g s, s, n, rfl, ⟨dx', h1'⟩, G, q⟩) ?_
        refine gv_sq (gv_ifT (gv_gt (gv_var rfl) gv_c) ?_)
        unfold wrongN
        by_cases c : s < n
        · rw [if_pos c, if_pos (by decide)]
          rw [goes_sand c] at eg
          refine ⟨_, rfl, _, rfl, (by show 2 ≤ sizeLine; decide), fun q hq => ?_⟩
          exact (k _ (sT.trans (same_upd hq))).2 _ _ eg q upd_same
        · rw [if_neg c]
          by_cases d : b.weight + (s - n) ≤ b.night * left b g s
          · rw [if_pos d, if_neg (by decide)]
            rw [goes_on c d] at eg
            refine gv_setL (gv_is (gv_sub (gv_var rfl) (gv_var rfl)) (sub_int c)) ?_
            exact ⟨_, _, _, _, _, rfl, sT, eg⟩
          · rw [if_neg d, if_pos (by decide)]
            rw [goes_down c d] at eg
            refine ⟨_, rfl, _, rfl, (by show 2 ≤ sizeLine; decide), fun q hq => ?_⟩
            exact (k _ (sT.trans (same_upd hq))).2 _ _ eg q upd_same
    · refine .inl ⟨⟨_, hA, by rw [List.length_map]; omega⟩, ?_⟩
      rw [List.drop_eq_nil_of_le (by omega), goes_nil] at eg
      exact (k _ sm).1 _ eg
/-! ### left_behind -/
theorem scBehind : FnScope ["balloon", "plan", "gas", "sand", "thrown"] ["balloon", "plan"] (defScope sBehind) := ⟨rfl, rfl, rfl, by decide +kernel, rfl, by decide +kernel, by decide +kernel⟩
theorem ok_behind {f : Addr} {fd : FuncData} (F : Fun K "left_behind" "left_behind" sBehind f fd) (T : Txt K mg CB CD CF aH) (M : Mth P w K mg base CX0 1 CB "left_by_night" ["self", "gas", "sand"] (spLeft CB)) : FnOk P w K mg base CX0 2 f fd ["balloon", "plan"] (spBehind K CB) := by
  obtain ⟨fL, fdL, mL, GL, bL⟩ := M
  refine F.ok scBehind (fun vs H Q E h => ?_) (fun cdv A outer s H vs Q E hr h => ?_)
  · obtain ⟨a, p, b, plan, st, rfl, _⟩ := h
    rfl
  · obtain ⟨a, p, b, plan, st, rfl, hB, G, hS, hg, k⟩ := h
    refine ⟨_, pss_cons (ps_par (i := 2) (j := 3) (by rfl) scBehind.nd rfl rfl (by decide) rfl rfl (pa_cons (pe_fld (pv 0) rfl) (pa_cons (pe_fld (pv 0) rfl) pa_nil)) (by rfl))
      (pss_cons (ps_for PassesOwn.never rfl (pi_list (pv 1)) (pg_name (i := 4) scBehind.nd rfl (Or.inl rfl))
        (pss_cons (ps_set (i := 2) scBehind.nd rfl (Or.inl rfl) (pe_meth (pv 0) T.clB mL GL hr bL .nil pass0 (pa_cons (pv 2) (pa_cons (pv 3) pa_nil))))
        (pss_one (ps_set (i := 3) scBehind.nd rfl (Or.inl rfl) (pe_op op_sub (pv 3) (pv 4))))))
      (pss_one (ps_ret (pe_tup (pa_cons (pv 2) (pa_cons (pv 3) pa_nil)))))), ?_⟩
    obtain ⟨dx, h1⟩ := id hB
    have v0 : Gv (tVar 0) (start ["balloon", "plan", "gas", "sand", "thrown"] [V.ref a, V.ref p]) H (.ref a) := gv_var rfl
    refine gv_par (ga_cons (gv_fld v0 h1 T.clB T.nG (bF_gas b)) (ga_cons (gv_fld v0 h1 T.clB T.nS (bF_sand b)) ga_nil)) ?_
    refine ⟨_, rfl, p, rfl, ⟨_, hS⟩, for_list (K := K) (a := p) (xs := plan.map nV) (fun i σ H' => ∃ (g s : Nat) (y4 : Option V), σ = [some (.ref a), some (.ref p), some (nV g), some (nV s), y4] ∧ H' = H ∧ b.goes i ⟨g, s⟩ (plan.drop i) = .ok st)
      ⟨b.gas, b.sand, none, rfl, rfl, hg⟩ (fun i σ H' _ ⟨_, _, _, _, e, _⟩ => by rw [e]; exact hS) ?_ ?_⟩
    · rintro i y σ H' hi ⟨g, s, y4, rfl, rfl, eg⟩
      obtain ⟨n, hn, rfl⟩ := map_at hi
      rw [drop_at hn] at eg
      refine gv_set (gv_meth (gv_var rfl) h1 (bF_no b (by decide +kernel)) (ga_cons (gv_var rfl) (ga_cons (gv_var rfl) ga_nil)) fun Q q => ⟨a, b, g, s, rfl, ⟨dx, h1⟩, G, q⟩) ?_
      by_cases c : s < n
      · rw [goes_sand c] at eg
        cases eg
      · by_cases d : b.weight + (s - n) ≤ b.night * left b g s
        · rw [goes_on c d] at eg
          refine gv_setL (gv_is (gv_sub (gv_var rfl) (gv_var rfl)) (sub_int c)) ?_
          exact ⟨_, _, _, rfl, rfl, eg⟩
        · rw [goes_down c d] at eg
          cases eg
    · rintro σ H' ⟨g, s, y4, rfl, rfl, eg⟩
      rw [List.length_map, List.drop_length, goes_nil] at eg
      cases eg
      exact ⟨_, rfl, _, rfl, (by show 2 ≤ sizeLine; decide), fun q hq => k _ q (same_upd hq) upd_same⟩
/-! ### as_little -/
theorem scLittle : FnScope ["balloon", "sand", "gas", "plan", "thrown"] ["balloon", "sand"] (defScope sLittle) := ⟨rfl, rfl, rfl, by decide +kernel, rfl, by decide +kernel, by decide +kernel⟩
theorem ok_little {f : Addr} {fd : FuncData} (F : Fun K "as_little" "as_little" sLittle f fd) (T : Txt K mg CB CD CF aH) (ML : Mth P w K mg base CX0 1 CB "left_by_night" ["self", "gas", "sand"] (spLeft CB))
    (MS : Mth P w K mg base CX0 1 CB "stays_up" ["self", "gas", "sand"] (spStays CB)) (MT : Mth P w K mg base CX0 1 CB "least_thrown" ["self", "gas", "sand"] (spThrown CB)) : FnOk P w K mg base CX0 2 f fd ["balloon", "sand"] (spLittle CB) := by
  obtain ⟨fL, fdL, mL, GL, bL⟩ := ML
  obtain ⟨fS, fdS, mS, GS, bS⟩ := MS
  obtain ⟨fT, fdT, mT, GT, bT⟩ := MT
  refine F.ok scLittle (fun vs H Q E h => ?_) (fun cdv A outer s H vs Q E hr h => ?_)
  · obtain ⟨a, b, s, rfl, _⟩ := h
    rfl
  · obtain ⟨a, b, s0, rfl, hB, G, k⟩ := h
    refine ⟨_, pss_cons (ps_set (i := 2) scLittle.nd rfl (Or.inl rfl) (pe_meth (pv 0) T.clB mL GL hr bL .nil pass0 (pa_cons (pe_fld (pv 0) rfl) (pa_cons (pv 1) pa_nil))))
      (pss_cons (ps_set (i := 3) scLittle.nd rfl (Or.inl rfl) (pe_lst pa_nil))
      (pss_cons (ps_while PassesOwn.never (pt_val (pe_meth (pv 0) T.clB mS GS hr bS .nil pass0 (pa_cons (pv 2) (pa_cons pe_int pa_nil))))
        (pss_cons (ps_set (i := 4) scLittle.nd rfl (Or.inl rfl) (pe_meth (pv 0) T.clB mT GT hr bT .nil pass0 (pa_cons (pv 2) (pa_cons (pv 1) pa_nil))))
        (pss_cons (ps_expr (pe_bm PySem.F.plainAttrs_list PySem.F.slot_list_append PySem.F.type_list_append mt_append (pv 3) (pa_cons (pv 4) pa_nil)))
        (pss_cons (ps_set (i := 1) scLittle.nd rfl (Or.inl rfl) (pe_op op_sub (pv 1) (pv 4)))
        (pss_one (ps_set (i := 2) scLittle.nd rfl (Or.inl rfl) (pe_meth (pv 0) T.clB mL GL hr bL .nil pass0 (pa_cons (pv 2) (pa_cons (pv 1) pa_nil)))))))))
      (pss_one (ps_ret (pv 3))))), ?_⟩
    obtain ⟨dx, h1⟩ := id hB
    refine gv_set (gv_meth (gv_var rfl) h1 (bF_no b (by decide +kernel)) (ga_cons (gv_fld (gv_var rfl) h1 T.clB T.nG (bF_gas b)) (ga_cons (gv_var rfl) ga_nil)) fun Q q => ⟨a, b, b.gas, s0, rfl, ⟨dx, h1⟩, G, q⟩) ?_
    refine ⟨Nat.zero_le _, fun p hp => ?_⟩
    refine ⟨fun m σ H' => ∃ (g s : Nat) (acc : List Nat) (y4 : Option V) (f : Nat), σ = [some (.ref a), some (nV s), some (nV g), some (.ref p), y4] ∧ m = g ∧ Same H H' ∧ H' p = some (.lst (acc.map nV)) ∧ g ≤ f ∧ acc ++ run b f g s = little b s0,
      ⟨left b b.gas s0, left b b.gas s0, s0, [], none, b.gas, rfl, rfl, same_upd hp, upd_same, left_le b b.gas s0, (little_run b s0).symm⟩, fun m σ H' hW => ?_⟩
    obtain ⟨g, s, acc, y4, f, rfl, rfl, sm, hL, hf, el⟩ := hW
    obtain ⟨dx', h1'⟩ := hB.same sm
    refine gv_testB (gv_meth (gv_var rfl) h1' (bF_no b (by decide +kernel)) (ga_cons (gv_var rfl) (ga_cons gv_c ga_nil)) fun Q q => ⟨a, b, m, 0, rfl, ⟨dx', h1'⟩, G, q⟩) ?_
    by_cases c : b.weight ≤ b.night * m
    · rw [if_pos (decide_eq_true (show b.weight + 0 ≤ b.night * m from c))]
      have hm := up_pos G c
      obtain ⟨f, rfl⟩ : ∃ f', f = f' + 1 := ⟨f - 1, by omega⟩
      rw [run_on f s c] at el
      have ht : ¬ s < b.weight + s - b.night * m := by omega
      refine ⟨fun σ' H'' => ∃ (g s : Nat) (acc : List Nat) (y4 : Option V) (f : Nat), σ' = [some (.ref a), some (nV s), some (nV g), some (.ref p), y4] ∧ g < m ∧ Same H H'' ∧ H'' p = some (.lst (acc.map nV)) ∧ g ≤ f ∧ acc ++ run b f g s = little b s0, fun σ' H'' hN => ?_, ?_⟩
      · obtain ⟨g', s', acc', z4, f', e1, e2, e3, e4, e5, e6⟩ := hN
        exact ⟨g', e2, g', s', acc', z4, f', e1, rfl, e3, e4, e5, e6⟩
      · have hlen : acc.length ≤ 201 := by
          have q := little_len b s0
          rw [← el, List.length_append] at q
          have := G.g2
          omega
        refine gv_set (gv_meth (gv_var rfl) h1' (bF_no b (by decide +kernel)) (ga_cons (gv_var rfl) (ga_cons (gv_var rfl) ga_nil)) fun Q q => ⟨a, b, m, s, rfl, ⟨dx', h1'⟩, G, q⟩) ?_
        refine ⟨_, rfl, .inl ⟨rfl, _, SqL.of hL⟩, _, rfl, p, _, _, rfl, rfl, hL, (by rw [List.length_map]; exact small1000 (by omega)), ?_⟩
        have sm2 : Same H (upd H' p (.lst (acc.map nV ++ [nV (b.weight + s - b.night * m)]))) := fun x o e => by
          rw [upd_ne (ne_of_none e hp)]
          exact sm _ _ e
        obtain ⟨dx2, h2⟩ := hB.same sm2
        refine gv_set (gv_is (gv_sub (gv_var rfl) (gv_var rfl)) (sub_int ht)) ?_
        refine gv_setL (gv_meth (gv_var rfl) h2 (bF_no b (by decide +kernel)) (ga_cons (gv_var rfl) (ga_cons (gv_var rfl) ga_nil)) fun Q q => ⟨a, b, m, s - (b.weight + s - b.night * m), rfl, ⟨dx2, h2⟩, G, q⟩) ?_
        refine ⟨_, _, acc ++ [b.weight + s - b.night * m], _, f, rfl, left_lt G _ hm, sm2, ?_, ?_, ?_⟩
        · rw [upd_same, List.map_append] <;> rfl
        · have := left_lt G (s - (b.weight + s - b.night * m)) hm
          omega
        · rw [List.append_assoc]
          exact el
    · rw [if_neg (by rw [decide_eq_true_eq]; exact c)]
      rw [run_out f s c, List.append_nil] at el
      refine gv_ret (gv_var rfl) (k _ p sm ?_)
      rw [hL, el]
/-! ### is_enough, least_enough -/
theorem scEnough : FnScope ["balloon", "sand", "many"] ["balloon", "sand", "many"] (defScope sEnough) := ⟨rfl, rfl, rfl, by decide +kernel, rfl, by decide +kernel, by decide +kernel⟩
theorem ok_enough {f : Addr} {fd : FuncData} (F : Fun K "is_enough" "is_enough" sEnough f fd) (T : Txt K mg CB CD CF aH) (D : Def P w K mg base CX0 2 "as_little" ["balloon", "sand"] (spLittle CB)) : FnOk P w K mg base CX0 3 f fd ["balloon", "sand", "many"] (spEnough CB) := by
  obtain ⟨fA, fdA, gA, kA, GA, bA⟩ := D
  refine F.ok scEnough (fun vs H Q E h => ?_) (fun cdv A outer s H vs Q E hr h => ?_)
  · obtain ⟨a, b, s, n, rfl, _⟩ := h
    rfl
  · obtain ⟨a, b, s, n, rfl, hB, G, k⟩ := h
    refine ⟨_, pss_one (ps_ret (pe_cmpR op_ge (pe_callB call_len_seq (by rfl) T.mLen PySem.boot_len (pa_cons (pe_call GA hr rfl gA kA bA .nil pass0 (pa_cons (pv 0) (pa_cons (pv 1) pa_nil))) pa_nil)) (pv 2) (nomark _))), ?_⟩
    refine ⟨_, rfl, _, rfl, a, b, s, rfl, hB, G, fun H' p sm hp => ?_⟩
    refine ⟨p, _, rfl, .inl (SqL.of hp), _, rfl, _, _, rfl, rfl, ?_⟩
    have e : decide ((n : Int) ≤ (((little b s).map nV).length : Int)) = decide (n ≤ (little b s).length) := by
      rw [List.length_map]
      by_cases c : n ≤ (little b s).length
      · rw [decide_eq_true c, decide_eq_true (by omega)]
      · rw [decide_eq_false c, decide_eq_false (by omega)]
    show Q (.bl (decide ((n : Int) ≤ (((little b s).map nV).length : Int)))) H'
    rw [e]
    exact k H' sm
theorem scLeastE : FnScope ["balloon", "many", "low", "high", "middle"] ["balloon", "many"] (defScope sLeastE) := ⟨rfl, rfl, rfl, by decide +kernel, rfl, by decide +kernel, by decide +kernel⟩
theorem ok_leastE {f : Addr} {fd : FuncData} (F : Fun K "least_enough" "least_enough" sLeastE f fd) (T : Txt K mg CB CD CF aH) (M : Mth P w K mg base CX0 1 CB "spare" ["self"] (spSpare CB))
    (D : Def P w K mg base CX0 3 "is_enough" ["balloon", "sand", "many"] (spEnough CB)) : FnOk P w K mg base CX0 4 f fd ["balloon", "many"] (spLeastE CB) := by
  obtain ⟨fE, fdE, gE, kE, GE, bE⟩ := D
  obtain ⟨fS, fdS, mS, GS, bS⟩ := M
  refine F.ok scLeastE (fun vs H Q E h => ?_) (fun cdv A outer s H vs Q E hr h => ?_)
  · obtain ⟨a, b, n, L, rfl, _⟩ := h
    rfl
  · obtain ⟨a, b, n, L, rfl, hB, G, hw, hL, hn, k⟩ := h
    have hr1 : Room 1 _ := hr.mono (by decide)
    refine ⟨_, pss_cons (ps_set (i := 2) scLeastE.nd rfl (Or.inl rfl) pe_int)
      (pss_cons (ps_set (i := 3) scLeastE.nd rfl (Or.inl rfl) (pe_meth0 (pv 0) T.clB mS GS hr1 bS .nil pass0))
      (pss_cons (ps_while PassesOwn.never (pt_cmpR op_lt (pv 2) (pv 3) (nomark _))
        (pss_cons (ps_set (i := 4) scLeastE.nd rfl (Or.inl rfl) (pe_op op_fdiv (pe_op op_add (pv 2) (pv 3)) pe_int))
        (pss_one (ps_if (pt_val (pe_call GE hr rfl gE kE bE .nil pass0 (pa_cons (pv 0) (pa_cons (pv 4) (pa_cons (pv 1) pa_nil)))))
          (pss_one (ps_set (i := 3) scLeastE.nd rfl (Or.inl rfl) (pv 4))) (pss_one (ps_set (i := 2) scLeastE.nd rfl (Or.inl rfl) (pe_op op_add (pv 4) pe_int)))))))
      (pss_one (ps_ret (pv 2))))), ?_⟩
    obtain ⟨dx, h1⟩ := id hB
    refine gv_set gv_c ?_
    have esp : V.int ((b.day : Int) * (b.gas : Int) - (b.weight : Int)) = nV (b.day * b.gas - b.weight) := by
      refine congrArg V.int ?_
      rw [(Int.natCast_mul b.day b.gas).symm]
      omega
    refine gv_set (gv_is (gv_meth (gv_var rfl) h1 (bF_no b (by decide +kernel)) ga_nil fun Q q => ⟨a, b, rfl, ⟨dx, h1⟩, G, q⟩) esp) ?_
    refine ⟨fun m σ H' => ∃ (lo hi : Nat) (y4 : Option V), σ = [some (.ref a), some (nV n), some (nV lo), some (nV hi), y4] ∧ m = hi - lo ∧ Same H H' ∧ lo ≤ L ∧ L ≤ hi, ⟨_, 0, b.day * b.gas - b.weight, none, rfl, rfl, Same.refl H, Nat.zero_le _, hL⟩, fun m σ H' hW => ?_⟩
    obtain ⟨lo, hi, y4, rfl, rfl, sm, l1, l2⟩ := hW
    refine gv_testT (gv_lt (gv_var rfl) (gv_var rfl)) ?_
    by_cases c : lo < hi
    · rw [if_pos (decide_eq_true (show (lo : Int) < (hi : Int) by omega))]
      refine ⟨fun σ' H'' => ∃ (lo' hi' : Nat) (y4 : Option V), σ' = [some (.ref a), some (nV n), some (nV lo'), some (nV hi'), y4] ∧ hi' - lo' < hi - lo ∧ Same H H'' ∧ lo' ≤ L ∧ L ≤ hi', fun σ' H'' hN => ?_, ?_⟩
      · obtain ⟨lo', hi', z4, e1, e2, e3, e4, e5⟩ := hN
        exact ⟨_, e2, lo', hi', z4, e1, rfl, e3, e4, e5⟩
      · have em : V.int (((lo : Int) + (hi : Int)) / 2) = nV ((lo + hi) / 2) := congrArg V.int (by omega)
        refine gv_set (gv_is (gv_div (gv_add (gv_var rfl) (gv_var rfl)) gv_c ⟨by decide, by decide⟩) em) ?_
        refine ⟨_, rfl, _, rfl, _, rfl, a, b, (lo + hi) / 2, n, rfl, hB.same sm, G, fun H2 sm2 => ⟨_, rfl, ?_⟩⟩
        show (if decide (n ≤ (little b ((lo + hi) / 2)).length) = true then _ else _)
        by_cases d : n ≤ (little b ((lo + hi) / 2)).length
        · rw [if_pos (decide_eq_true d)]
          have q := (hn _).mp d
          exact gv_setL (gv_var rfl) ⟨lo, (lo + hi) / 2, _, rfl, by omega, sm.trans sm2, l1, q⟩
        · rw [if_neg (by rw [decide_eq_true_eq]; exact d)]
          have q : ¬ L ≤ (lo + hi) / 2 := fun z => d ((hn _).mpr z)
          have e1 : V.int (((((lo + hi) / 2 : Nat)) : Int) + 1) = nV ((lo + hi) / 2 + 1) := rfl
          exact gv_setL (gv_is (gv_add (gv_var rfl) gv_c) e1) ⟨(lo + hi) / 2 + 1, hi, _, rfl, by omega, sm.trans sm2, by omega, l2⟩
    · rw [if_neg (by rw [decide_eq_true_eq]; omega)]
      have e : lo = L := by omega
      subst e
      exact gv_ret (gv_var rfl) (k _ sm)
end
end Nb
namespace Nb
open PySem PySem.Spec PyProof.Rows L2
/-! ### the desk in the heap -/
def dF (ab : Addr) : List (Str × V) := [("balloon", .ref ab)]
theorem dF_balloon (ab : Addr) : (dF ab).lookup ("balloon" : Str) = some (.ref ab) := lk_here
theorem dF_no (ab : Addr) {m : Str} (h : (["balloon"] : List Str).contains m = false) : (dF ab).lookup m = none := lk_no h
theorem dF_put (ab x : Addr) : putF "balloon" (.ref x) (dF ab) = dF x := put_here
theorem dF_new (x : Addr) : putF "balloon" (.ref x) [] = dF x := rfl
def DeskAt (CB CD : Addr) (H : Hp) (a : Addr) (b : Si95.Balloon) : Prop := ∃ dx ab, H a = some (.ins CD dx (dF ab)) ∧ BalAt CB H ab b
theorem DeskAt.same {CB CD : Addr} {H H' : Hp} {a : Addr} {b : Si95.Balloon} (h : DeskAt CB CD H a b) (s : Same H H') : DeskAt CB CD H' a b := by
  obtain ⟨dx, ab, e, hB⟩ := h
  exact ⟨dx, ab, s _ _ e, hB.same s⟩
theorem upd_none {H : Hp} {a r : Addr} {o : HO} (h : upd H a o r = none) : H r = none := by
  by_cases e : r = a
  · rw [e, upd_same] at h
    cases h
  · rw [upd_ne e] at h
    exact h
/-- all but instances stands as it was -/
def Keep (H H' : Hp) : Prop := ∀ c o, H c = some o → (∀ C dx fs, o ≠ .ins C dx fs) → H' c = some o
theorem Keep.of {H H' : Hp} (s : Same H H') : Keep H H' := fun c o e _ => s c o e
theorem Keep.trans {H H1 H2 : Hp} (a : Keep H H1) (b : Keep H1 H2) : Keep H H2 := fun c o e n => b c o (a c o e n) n
theorem Keep.lst {H H' : Hp} (k : Keep H H') {c : Addr} {xs : List V} (h : H c = some (.lst xs)) : H' c = some (.lst xs) := k c _ h fun _ _ _ z => by cases z
theorem Keep.seq {K : PySem.W.Frag} {H H' : Hp} {a : Addr} {xs : List V} (k : Keep H H') (h : SqL K H a xs) : SqL K H' a xs := by
  rcases h with (h | ⟨o, h⟩) | h
  · exact .inl (.inl (k _ _ h fun _ _ _ z => by cases z))
  · exact .inl (.inr ⟨o, k _ _ h fun _ _ _ z => by cases z⟩)
  · exact .inr h
/-- a call's two ways out: its answer handed back; its refusal raised -/
def Fin (CB CD CF : Addr) (a : Addr) (H : Hp) (b' : Si95.Balloon) (l : List Int) (Q : VK) (E : XK) : Prop :=
  (∀ H' p, H p = none → Keep H H' → DeskAt CB CD H' a b' → H' p = some (.lst (l.map V.int)) → Q (.ref p) H') ∧
  (∀ H' d p, H p = none → Keep H H' → DeskAt CB CD H' a b' → H' d = some (.xd [("numbers", .ref p)]) → H' p = some (.lst (l.map V.int)) → E (.ref CF) (some d) H')
theorem Fin.refuse {CB CD CF a : Addr} {H : Hp} {b : Si95.Balloon} {q : Si95.Call} {z : Int} {Q : VK} {E : XK} (hD : DeskAt CB CD H a b) (h : Fin CB CD CF a H (Si95.step b q).1 (ans b q) Q E) (e : Si95.step b q = (b, Si95.ok z)) {H0 : Hp} (s0 : Same H H0) :
    ∀ d l H', H0 l = none → Same H0 H' → H' d = some (.xd [("numbers", .ref l)]) → H' l = some (.lst [.int z]) → E (.ref CF) (some d) H' := fun d l H' nl s hd hl => by
  have s2 := s0.trans s
  refine h.2 H' d l (s0.free nl) (Keep.of s2) ?_ hd ?_
  · rw [e]
    exact hD.same s2
  · unfold ans
    rw [e]
    exact hl
theorem Fin.answer {CB CD CF a : Addr} {H : Hp} {b : Si95.Balloon} {q : Si95.Call} {l : List Int} {Q : VK} {E : XK} (hD : DeskAt CB CD H a b) (h : Fin CB CD CF a H (Si95.step b q).1 (ans b q) Q E) (e : (Si95.step b q).1 = b) (ea : ans b q = l) {H' : Hp} {p : Addr} (np : H p = none) (s : Same H H')
    (hp : H' p = some (.lst (l.map V.int))) : Q (.ref p) H' := by
  refine h.1 H' p np (Keep.of s) ?_ ?_
  · rw [e]
    exact hD.same s
  · rw [ea]
    exact hp
theorem Fin.raised {CB CD CF a : Addr} {H : Hp} {b : Si95.Balloon} {q : Si95.Call} {l : List Int} {Q : VK} {E : XK} (hD : DeskAt CB CD H a b) (h : Fin CB CD CF a H (Si95.step b q).1 (ans b q) Q E) (e : (Si95.step b q).1 = b) (ea : ans b q = l) {H' : Hp} {d p : Addr} (np : H p = none) (s : Same H H')
    (hd : H' d = some (.xd [("numbers", .ref p)])) (hp : H' p = some (.lst (l.map V.int))) : E (.ref CF) (some d) H' := by
  refine h.2 H' d p np (Keep.of s) ?_ hd ?_
  · rw [e]
    exact hD.same s
  · rw [ea]
    exact hp
theorem ints_nV (l : List Nat) : (Si95.ints l).map V.int = l.map nV := by
  unfold Si95.ints
  rw [List.map_map] <;> rfl
/-! ### the promises -/
def spRInit (CF : Addr) : Sp := fun vs H Q _ => ∃ (x : Addr) (v : V), vs = [.ref x, v] ∧ H x = some (exo x CF none) ∧ ∀ dx, H dx = none → dx ≠ x → Q .non (upd (upd H dx (exd dx [("numbers", v)])) x (exo x CF (some dx)))
def spMust (CF : Addr) : Sp := fun vs H Q E => ∃ (c : Bool) (z : Int), vs = [.bl c, .int z] ∧ (c = true → Q .non H) ∧
  (c = false → ∀ d l H', H l = none → Same H H' → H' d = some (.xd [("numbers", .ref l)]) → H' l = some (.lst [.int z]) → E (.ref CF) (some d) H')
def spDInit (CB CD : Addr) : Sp := fun vs H Q _ => ∃ (p dx : Addr), vs = [.ref p] ∧ H p = some (.ins CD dx []) ∧ ∀ H' : Hp, DeskAt CB CD H' p Si95.init → (∀ b o, H b = some o → b ≠ p → H' b = some o) → Q .non H'
def spBegins (K : PySem.W.Frag) (CB CD CF : Addr) : Sp := fun vs H Q E => ∃ (a p : Addr) (b : Si95.Balloon) (w d n o l : Nat), vs = [.ref a, .ref p] ∧ DeskAt CB CD H a b ∧ Good b ∧ SqL K H p [nV w, nV d, nV n, nV o, nV l] ∧
  Fin CB CD CF a H (Si95.step b (.begins w d n o l)).1 (ans b (.begins w d n o l)) Q E
def spLoad (CB CD CF : Addr) : Sp := fun vs H Q E => ∃ (a : Addr) (b : Si95.Balloon) (g s : Nat), vs = [.ref a, nV g, nV s] ∧ DeskAt CB CD H a b ∧ Good b ∧ Fin CB CD CF a H (Si95.step b (.load g s)).1 (ans b (.load g s)) Q E
def spCheck (K : PySem.W.Frag) (CB CD CF : Addr) : Sp := fun vs H Q E => ∃ (a p : Addr) (b : Si95.Balloon) (l : List Nat), vs = [.ref a, .ref p] ∧ DeskAt CB CD H a b ∧ Good b ∧ SqL K H p (l.map nV) ∧ l.length ≤ 40 ∧
  Fin CB CD CF a H (Si95.step b (.check l)).1 (ans b (.check l)) Q E
def spNights (CB CD CF : Addr) : Sp := fun vs H Q E => ∃ (a : Addr) (b : Si95.Balloon), vs = [.ref a] ∧ DeskAt CB CD H a b ∧ Good b ∧ Fin CB CD CF a H (Si95.step b .nights).1 (ans b .nights) Q E
def spNeeds (CB CD CF : Addr) : Sp := fun vs H Q E => ∃ (a : Addr) (b : Si95.Balloon) (n : Nat), vs = [.ref a, nV n] ∧ DeskAt CB CD H a b ∧ Good b ∧ Fin CB CD CF a H (Si95.step b (.needs n)).1 (ans b (.needs n)) Q E
def spMost (CB CD CF : Addr) : Sp := fun vs H Q E => ∃ (a : Addr) (b : Si95.Balloon), vs = [.ref a] ∧ DeskAt CB CD H a b ∧ Good b ∧ Fin CB CD CF a H (Si95.step b .most).1 (ans b .most) Q E
def spTold (K : PySem.W.Frag) (CB CD CF : Addr) : Sp := fun vs H Q E => ∃ (a p : Addr) (b : Si95.Balloon) (kind : Int) (nums : List Int) (q : Si95.Call), vs = [.ref a, .int kind, .ref p] ∧ DeskAt CB CD H a b ∧ Good b ∧ Rep kind nums q ∧ SqL K H p (nums.map V.int) ∧
  Fin CB CD CF a H (Si95.step b q).1 (ans b q) Q E
def spAnswer (K : PySem.W.Frag) (CB CD : Addr) : Sp := fun vs H Q _ => ∃ (a p : Addr) (b : Si95.Balloon) (kind : Int) (nums : List Int) (q : Si95.Call), vs = [.ref a, .int kind, .ref p] ∧ DeskAt CB CD H a b ∧ Good b ∧ Rep kind nums q ∧ SqL K H p (nums.map V.int) ∧
  ∀ H' p', H p' = none → Keep H H' → DeskAt CB CD H' a (Si95.step b q).1 → H' p' = some (.lst ((ans b q).map V.int)) → Q (.ref p') H'
/-- what Refused(..) is made by -/
structure RMk (P : Program) (w : World) (K : PySem.W.Frag) (mg : Str → Option Value) (base : Heap) (CF : Addr) : Prop where
  ex : ∃ f fd, PySem.W.findIn K (.ref CF) "__init__" = some (some (.ref f)) ∧ PySem.W.typeIn K (.ref f) = some (.type "function") ∧ FnOk P w K mg base CX0 1 f fd ["self", "numbers"] (spRInit CF) ∧ Binds K fd ["self", "numbers"] []
section
variable {P : Program} {w : World} {K : PySem.W.Frag} {mg : Str → Option Value} {base : Heap} {CB CD CF aH : Addr}
/-! ### Refused, must -/
theorem scRInit : FnScope ["self", "numbers"] ["self", "numbers"] (defScope sRInit) := ⟨rfl, rfl, rfl, by decide +kernel, rfl, by decide +kernel, by decide +kernel⟩
theorem ok_rinit {f : Addr} {fd : FuncData} (F : Fun K "__init__" "Refused.__init__" sRInit f fd) (T : Txt K mg CB CD CF aH) : FnOk P w K mg base CX0 1 f fd ["self", "numbers"] (spRInit CF) := by
  refine F.ok scRInit (fun vs H Q E h => ?_) (fun cdv A outer s H vs Q E hr h => ?_)
  · obtain ⟨x, v, rfl, _⟩ := h
    rfl
  · obtain ⟨x, v, rfl, hx, k⟩ := h
    refine ⟨_, pss_cons (ps_expr (pe_veinit rfl T.mV T.vV (pa_cons (pv 0) (pa_cons pe_str pa_nil)))) (pss_one (ps_ost (pv 0) (pv 1))), ?_⟩
    refine ⟨_, rfl, x, CF, _, rfl, (by show 1 ≤ 1000; decide), T.oF, hx, ?_⟩
    exact ⟨_, rfl, _, rfl, x, CF, rfl, T.oF, T.nF, .inl ⟨hx, fun dx n ne => k dx n ne⟩⟩
theorem mk_refused {H1 : Hp} {v : V} {Q : XK} {vs : List V} (ev : vs = [v]) (k : ∀ d H', Same H1 H' → H' d = some (.xd [("numbers", v)]) → Q (.ref CF) (some d) H') :
    vs.length ≤ 1000 ∧ ∀ a, H1 a = none → spRInit CF (.ref a :: (vs ++ [])) (upd H1 a (exo a CF none)) (fun v' H2 => v' = .non ∧ ∃ (d : Addr) (fs : List (Str × V)), H2 a = some (exo a CF (some d)) ∧ H2 d = some (exd d fs) ∧ H1 d = none ∧ Q (.ref CF) (some d) (upd (del H2 a) d (.xd fs))) (fun _ _ _ => False) := by
  subst ev
  refine ⟨by show 1 ≤ 1000; decide, fun a ha => ⟨a, v, rfl, upd_same, fun dx hdx hne => ?_⟩⟩
  have h1 : H1 dx = none := by
    rw [upd_ne hne] at hdx
    exact hdx
  refine ⟨rfl, dx, _, upd_same, (upd_ne hne).trans upd_same, h1, k dx _ (fun b o e => ?_) upd_same⟩
  have na : b ≠ a := ne_of_none e ha
  have nd : b ≠ dx := ne_of_none e h1
  rw [upd_ne nd, del_ne na, upd_ne na, upd_ne nd, upd_ne na]
  exact e
theorem scMust : FnScope ["is_so", "number"] ["is_so", "number"] (defScope sMust) := ⟨rfl, rfl, rfl, by decide +kernel, rfl, by decide +kernel, by decide +kernel⟩
theorem ok_must {f : Addr} {fd : FuncData} (F : Fun K "must" "must" sMust f fd) (T : Txt K mg CB CD CF aH) (R : RMk P w K mg base CF) : FnOk P w K mg base (L2.CX P w) 3 f fd ["is_so", "number"] (spMust CF) := by
  obtain ⟨fR, fdR, iR, tR, GR, bR⟩ := R
  refine F.okX scMust (fun vs H Q E h => ?_) (fun cdv A outer s H vs Q E hr h => ?_)
  · obtain ⟨c, z, rfl, _⟩ := h
    rfl
  · obtain ⟨c, z, rfl, k1, k2⟩ := h
    refine ⟨_, pss_one (ps_if (pt_not (pt_val (pv 0))) (pss_one (ps_raise rfl (takes_of rfl rfl rfl rfl) (pmk_oex T.oF iR tR GR hr bR .nil pass0 rfl T.gF (pa_cons (pe_lst (pa_cons (pv 1) pa_nil)) pa_nil)))) pss_nil), ?_⟩
    refine gv_ifN (gv_var rfl) ?_
    cases c with
    | true =>
      rw [if_pos rfl]
      exact k1 rfl
    | false =>
      rw [if_neg Bool.false_ne_true]
      refine ⟨_, rfl, (by show 1 ≤ sizeLine; decide), fun p hp => ?_⟩
      exact mk_refused rfl fun d H' s hd => k2 rfl d p H' hp ((same_upd hp).trans s) hd (s _ _ upd_same)
/-- must(c, z) as a statement -/
theorem gv_must {σ : L2.St} {H : Hp} {tc tz : TE} {c : Bool} {z : Int} {u : TS} {D : Ends} {E : XK} (hc : Gv tc σ H (.bl c)) (hz : Gv tz σ H (.int z)) (k1 : c = true → u D σ H)
    (k2 : c = false → ∀ d l H', H l = none → Same H H' → H' d = some (.xd [("numbers", .ref l)]) → H' l = some (.lst [.int z]) → E (.ref CF) (some d) H') :
    tSeq (tDrop (tCall (spMust CF) [] E (tCons tc (tCons tz tNil)))) u D σ H := hc _ (hz _ ⟨c, z, rfl, k1, k2⟩)
/-! ### Desk.__init__ -/
theorem scDInit : FnScope ["self"] ["self"] (defScope sDInit) := ⟨rfl, rfl, rfl, by decide +kernel, rfl, by decide +kernel, by decide +kernel⟩
theorem ok_dinit {f : Addr} {fd : FuncData} (F : Fun K "__init__" "Desk.__init__" sDInit f fd) (T : Txt K mg CB CD CF aH) (M : Mkr P w K mg base CX0 1 CB ["self", "weight", "by_day", "by_night", "over", "leak"] (spBInit CB)) : FnOk P w K mg base CX0 3 f fd ["self"] (spDInit CB CD) := by
  obtain ⟨fB, fdB, mB, GB, bB⟩ := M
  refine F.ok scDInit (fun vs H Q E h => ?_) (fun cdv A outer s H vs Q E hr h => ?_)
  · obtain ⟨p, dx, rfl, _⟩ := h
    rfl
  · obtain ⟨p, dp, rfl, hp, k⟩ := h
    refine ⟨_, pss_one (ps_fld (pv 0) (pe_make mB GB hr rfl T.gB bB .nil pass0 (pa_cons pe_int (pa_cons pe_int (pa_cons pe_int (pa_cons pe_int (pa_cons pe_int pa_nil)))))) rfl), ?_⟩
    intro x dx nx ndx ne
    refine ⟨x, dx, 1, 1, 1, 0, 1, rfl, upd_same, fun H1 hB kp => ⟨rfl, ?_⟩⟩
    have s1 : Same H H1 := Same.made nx ndx kp
    have npx : p ≠ x := ne_of_none hp nx
    obtain ⟨dB, hB⟩ := hB
    refine ⟨_, rfl, p, CD, dp, [], rfl, s1 _ _ hp, T.clD, T.nB, (by decide), ?_⟩
    refine k _ ⟨dp, x, upd_same, dB, ?_⟩ fun b o e hb => ?_
    · rw [upd_ne (Ne.symm npx)]
      exact hB
    · rw [upd_ne hb]
      exact s1 _ _ e
end
end Nb
namespace Nb
open PySem PySem.Spec PyProof.Rows L2
/-! ### what each call does, way by way -/
theorem ans_ok {b b' : Si95.Balloon} {q : Si95.Call} {z : Int} (h : Si95.step b q = (b', Si95.ok z)) : ans b q = [z] := by
  unfold ans
  rw [h] <;> rfl
theorem ans_of {b b' : Si95.Balloon} {q : Si95.Call} {z : Int} {l : List Int} (h : Si95.step b q = (b', ⟨z, l⟩)) : ans b q = z :: l := by
  unfold ans
  rw [h]
theorem begins_bad {b : Si95.Balloon} {w d n o l : Nat} (h : w < 1 ∨ 10000 < w ∨ n < 1 ∨ d < n ∨ 100 < d ∨ 10000 < o ∨ l < 1 ∨ 200 < l) : Si95.step b (.begins w d n o l) = (b, Si95.ok (-1)) := if_pos h
theorem begins_ok {b : Si95.Balloon} {w d n o l : Nat} (h : ¬ (w < 1 ∨ 10000 < w ∨ n < 1 ∨ d < n ∨ 100 < d ∨ 10000 < o ∨ l < 1 ∨ 200 < l)) : Si95.step b (.begins w d n o l) = (⟨w, d, n, o, l, 1, 0⟩, Si95.ok 0) := if_neg h
theorem load_bad {b : Si95.Balloon} {g s : Nat} (h : g < 1 ∨ 200 < g ∨ 10000 < s) : Si95.step b (.load g s) = (b, Si95.ok (-1)) := if_pos h
theorem load_low {b : Si95.Balloon} {g s : Nat} (h : ¬ (g < 1 ∨ 200 < g ∨ 10000 < s)) (c : ¬ b.weight + s ≤ b.day * g) : Si95.step b (.load g s) = (b, Si95.ok (-6)) :=
  (if_neg h).trans (if_pos (show decide (b.weight + s ≤ b.day * g) = false from decide_eq_false c))
theorem load_ok {b : Si95.Balloon} {g s : Nat} (h : ¬ (g < 1 ∨ 200 < g ∨ 10000 < s)) (c : b.weight + s ≤ b.day * g) : Si95.step b (.load g s) = ({ b with gas := g, sand := s }, Si95.ok ((b.day * g - b.weight - s : Nat) : Int)) :=
  (if_neg h).trans (if_neg (show ¬ decide (b.weight + s ≤ b.day * g) = false from fun z => by rw [decide_eq_true c] at z; cases z))
theorem check_not {b : Si95.Balloon} {l : List Nat} (h : b.lifts = false) : Si95.step b (.check l) = (b, Si95.ok (-3)) := if_pos h
theorem check_err {b : Si95.Balloon} {l : List Nat} {i n : Nat} (h : b.lifts = true) (e : b.goes 0 b.begun l = .error (i, n)) : Si95.step b (.check l) = (b, ⟨-6, Si95.ints [i, n]⟩) := by
  refine (if_neg (by rw [h]; decide)).trans ?_
  rw [e]
theorem check_ok {b : Si95.Balloon} {l : List Nat} {st : Si95.Stand} (h : b.lifts = true) (e : b.goes 0 b.begun l = .ok st) : Si95.step b (.check l) = (b, ⟨((l.length : Nat) : Int), Si95.ints [st.gas, st.sand]⟩) := by
  refine (if_neg (by rw [h]; decide)).trans ?_
  rw [e]
theorem nights_not {b : Si95.Balloon} (h : b.lifts = false) : Si95.step b .nights = (b, Si95.ok (-3)) := if_pos h
theorem nights_ok {b : Si95.Balloon} (h : b.lifts = true) : Si95.step b .nights = (b, ⟨(((little b b.sand).length : Nat) : Int), Si95.ints (little b b.sand)⟩) := if_neg (by rw [h]; decide)
theorem needs_many {b : Si95.Balloon} {n : Nat} (h : 200 < n) : Si95.step b (.needs n) = (b, Si95.ok (-1)) := if_pos h
theorem needs_no {b : Si95.Balloon} {n : Nat} (h : ¬ 200 < n) (e : b.needs n = none) : Si95.step b (.needs n) = (b, Si95.ok (-6)) := by
  refine (if_neg h).trans ?_
  rw [e]
theorem needs_yes {b : Si95.Balloon} {n L : Nat} (h : ¬ 200 < n) (e : b.needs n = some L) : Si95.step b (.needs n) = (b, Si95.ok ((L : Nat) : Int)) := by
  refine (if_neg h).trans ?_
  rw [e]
theorem most_no {b : Si95.Balloon} (h : ¬ b.weight ≤ b.day * b.gas) : Si95.step b .most = (b, Si95.ok (-6)) := by
  show (b, match b.most with
    | none => Si95.ok (-6)
    | some m => ⟨((m : Nat) : Int), Si95.ints [(b.with_ m).nights]⟩) = _
  rw [Nb.most_none h]
theorem most_yes {b : Si95.Balloon} (h : b.weight ≤ b.day * b.gas) : Si95.step b .most = (b, ⟨((b.day * b.gas - b.weight : Nat) : Int), Si95.ints [(little b (b.day * b.gas - b.weight)).length]⟩) := by
  show (b, match b.most with
    | none => Si95.ok (-6)
    | some m => ⟨((m : Nat) : Int), Si95.ints [(b.with_ m).nights]⟩) = _
  rw [Nb.most_some h]
  show (b, (⟨_, Si95.ints [(b.with_ (b.day * b.gas - b.weight)).nights]⟩ : Si95.Ans)) = _
  rw [nights_with]
theorem c_begins1 (w d n : Nat) : (decide ((1 : Int) ≤ (w : Int)) && decide ((w : Int) ≤ 10000) && (decide ((1 : Int) ≤ (d : Int)) && decide ((d : Int) ≤ 100) && (decide ((1 : Int) ≤ (n : Int)) && decide ((n : Int) ≤ (d : Int))))) = decide (1 ≤ w ∧ w ≤ 10000 ∧ d ≤ 100 ∧ 1 ≤ n ∧ n ≤ d) := by
  rw [Bool.eq_iff_iff]
  simp only [Bool.and_eq_true, decide_eq_true_eq]
  omega
theorem c_begins2 (o l : Nat) : (decide ((o : Int) ≤ 10000) && (decide ((1 : Int) ≤ (l : Int)) && decide ((l : Int) ≤ 200))) = decide (o ≤ 10000 ∧ 1 ≤ l ∧ l ≤ 200) := by
  rw [Bool.eq_iff_iff]
  simp only [Bool.and_eq_true, decide_eq_true_eq]
  omega
theorem c_load (g s : Nat) : (decide ((1 : Int) ≤ (g : Int)) && decide ((g : Int) ≤ 200) && decide ((s : Int) ≤ 10000)) = decide (1 ≤ g ∧ g ≤ 200 ∧ s ≤ 10000) := by
  rw [Bool.eq_iff_iff]
  simp only [Bool.and_eq_true, decide_eq_true_eq]
  omega
theorem c_more (b : Si95.Balloon) (g s : Nat) : decide ((0 : Int) ≤ (b.day : Int) * (g : Int) - (b.weight : Int) - (s : Int)) = decide (b.weight + s ≤ b.day * g) := by
  rw [(Int.natCast_mul b.day g).symm]
  generalize b.day * g = q
  rw [Bool.eq_iff_iff]
  simp only [decide_eq_true_eq]
  omega
theorem v_more {b : Si95.Balloon} {g s : Nat} (h : b.weight + s ≤ b.day * g) : V.int ((b.day : Int) * (g : Int) - (b.weight : Int) - (s : Int)) = V.int ((b.day * g - b.weight - s : Nat) : Int) := by
  refine congrArg V.int ?_
  rw [(Int.natCast_mul b.day g).symm]
  generalize b.day * g = q at *
  omega
theorem c_spare (b : Si95.Balloon) : decide ((0 : Int) ≤ (b.day : Int) * (b.gas : Int) - (b.weight : Int)) = decide (b.weight ≤ b.day * b.gas) := by
  rw [(Int.natCast_mul b.day b.gas).symm]
  generalize b.day * b.gas = q
  rw [Bool.eq_iff_iff]
  simp only [decide_eq_true_eq]
  omega
theorem v_spare {b : Si95.Balloon} (h : b.weight ≤ b.day * b.gas) : V.int ((b.day : Int) * (b.gas : Int) - (b.weight : Int)) = nV (b.day * b.gas - b.weight) := by
  refine congrArg V.int ?_
  rw [(Int.natCast_mul b.day b.gas).symm]
  generalize b.day * b.gas = q at *
  omega
theorem c_many (n : Nat) : decide ((n : Int) ≤ 200) = decide (n ≤ 200) := by
  rw [Bool.eq_iff_iff]
  simp only [decide_eq_true_eq]
  omega
section
variable {P : Program} {w : World} {K : PySem.W.Frag} {mg : Str → Option Value} {base : Heap} {CB CD CF aH : Addr}
/-! ### begins -/
theorem scBegins : FnScope ["self", "numbers", "weight", "by_day", "by_night", "over", "leak"] ["self", "numbers"] (defScope sBegins) := ⟨rfl, rfl, rfl, by decide +kernel, rfl, by decide +kernel, by decide +kernel⟩
theorem ok_begins {f : Addr} {fd : FuncData} (F : Fun K "begins" "Desk.begins" sBegins f fd) (T : Txt K mg CB CD CF aH) (M : Mkr P w K mg base CX0 1 CB ["self", "weight", "by_day", "by_night", "over", "leak"] (spBInit CB))
    (D : Def P w K mg base (L2.CX P w) 3 "must" ["is_so", "number"] (spMust CF)) : FnOk P w K mg base (L2.CX P w) 4 f fd ["self", "numbers"] (spBegins K CB CD CF) := by
  obtain ⟨fB, fdB, mB, GB, bB⟩ := M
  obtain ⟨fM, fdM, gM, kM, GM, bM⟩ := D
  obtain ⟨_, cNT⟩ := T.cNT
  obtain ⟨_, cMW⟩ := T.cMW
  obtain ⟨_, cML⟩ := T.cML
  obtain ⟨_, cMO⟩ := T.cMO
  obtain ⟨_, cMG⟩ := T.cMG
  refine F.okX scBegins (fun vs H Q E h => ?_) (fun cdv A outer s H vs Q E hr h => ?_)
  · obtain ⟨a, p, b, w, d, n, o, l, rfl, _⟩ := h
    rfl
  · obtain ⟨a, p, b, w, d, n, o, l, rfl, hD, G, hS, k⟩ := h
    have hr2 : Room 2 _ := hr.mono (by decide)
    refine ⟨_, pss_cons (ps_asg (pv 1) (pg_lst rfl (pgs_cons (pg_name (i := 2) scBegins.nd rfl (Or.inl rfl)) (pgs_cons (pg_name (i := 3) scBegins.nd rfl (Or.inl rfl)) (pgs_cons (pg_name (i := 4) scBegins.nd rfl (Or.inl rfl))
          (pgs_cons (pg_name (i := 5) scBegins.nd rfl (Or.inl rfl)) (pgs_cons (pg_name (i := 6) scBegins.nd rfl (Or.inl rfl)) pgs_nil)))))))
      (pss_cons (ps_expr (pe_call GM hr rfl gM kM bM .nil (passes_call (takes_of rfl rfl rfl rfl) (fun _ _ _ _ h => h)) (pa_cons (pe_and (pe_chain op_le op_le pe_int (pv 2) (pe_glob (v := .int 10000) rfl cMW ⟨_, rfl⟩))
          (pe_and (pe_chain op_le op_le pe_int (pv 3) (pe_glob (v := .int 100) rfl cML ⟨_, rfl⟩)) (pe_one (pe_chain op_le op_le pe_int (pv 4) (pv 3))))) (pa_cons (pe_glob (v := .int (-1)) rfl cNT ⟨_, rfl⟩) pa_nil))))
      (pss_cons (ps_expr (pe_call GM hr rfl gM kM bM .nil (passes_call (takes_of rfl rfl rfl rfl) (fun _ _ _ _ h => h)) (pa_cons (pe_and (pe_cmpR op_le (pv 5) (pe_glob (v := .int 10000) rfl cMO ⟨_, rfl⟩) (nomark _))
          (pe_one (pe_chain op_le op_le pe_int (pv 6) (pe_glob (v := .int 200) rfl cMG ⟨_, rfl⟩)))) (pa_cons (pe_glob (v := .int (-1)) rfl cNT ⟨_, rfl⟩) pa_nil))))
      (pss_cons (ps_fld (pv 0) (pe_make mB GB hr2 rfl T.gB bB .nil pass0 (pa_cons (pv 2) (pa_cons (pv 3) (pa_cons (pv 4) (pa_cons (pv 5) (pa_cons (pv 6) pa_nil)))))) rfl)
      (pss_one (ps_ret (pe_lst (pa_cons pe_int pa_nil))))))), ?_⟩
    refine ⟨_, rfl, p, _, rfl, hS, rfl, _, _, rfl, _, _, rfl, _, _, rfl, _, _, rfl, _, _, rfl, rfl, ?_⟩
    refine gv_must (gv_is (gv_andV (gv_chainLe gv_c (gv_var rfl) gv_c) (gv_andV (gv_chainLe gv_c (gv_var rfl) gv_c) (gv_chainLe gv_c (gv_var rfl) (gv_var rfl)))) (congrArg V.bl (c_begins1 w d n))) gv_c (fun c1 => ?_)
      (fun c1 => Fin.refuse hD k (begins_bad (by have := of_decide_eq_false c1; omega)) (Same.refl H))
    have c1 := of_decide_eq_true c1
    refine gv_must (gv_is (gv_andV (gv_le (gv_var rfl) gv_c) (gv_chainLe gv_c (gv_var rfl) gv_c)) (congrArg V.bl (c_begins2 o l))) gv_c (fun c2 => ?_)
      (fun c2 => Fin.refuse hD k (begins_bad (by have := of_decide_eq_false c2; omega)) (Same.refl H))
    have c2 := of_decide_eq_true c2
    have hq := begins_ok (b := b) (w := w) (d := d) (n := n) (o := o) (l := l) (by omega)
    obtain ⟨dD, ab, hd, hB⟩ := id hD
    refine ⟨_, rfl, _, rfl, _, rfl, _, rfl, _, rfl, ?_⟩
    intro x dx nx ndx ne
    refine ⟨x, dx, w, d, n, o, l, rfl, upd_same, fun H1 hB1 kp => ⟨rfl, ?_⟩⟩
    have s1 : Same H H1 := Same.made nx ndx kp
    have nax : a ≠ x := ne_of_none hd nx
    obtain ⟨d1, hB1⟩ := hB1
    refine ⟨_, rfl, a, CD, dD, _, rfl, s1 _ _ hd, T.clD, T.nB, (by show 1 < 1000; decide), ?_⟩
    rw [dF_put]
    refine ⟨(by show 1 ≤ sizeLine; decide), fun r hr' => k.1 _ r (s1.free (upd_none hr')) (fun c o e nI => ?_) ?_ ?_⟩
    · have n1 : c ≠ a := ne_of e hd (nI _ _ _)
      have e2 := s1 _ _ e
      rw [upd_ne (ne_of_none (H := upd H1 a _) (by rw [upd_ne n1]; exact e2) hr'), upd_ne n1]
      exact e2
    · rw [hq]
      have nar : a ≠ r := ne_of_none (H := upd H1 a _) upd_same hr'
      have nxr : x ≠ r := ne_of_none (H := upd H1 a (.ins CD dD (dF x))) (by rw [upd_ne (Ne.symm nax)]; exact hB1) hr'
      refine ⟨dD, x, (upd_ne nar).trans upd_same, d1, ?_⟩
      rw [upd_ne nxr, upd_ne (Ne.symm nax)]
      exact hB1
    · rw [upd_same, ans_ok hq] <;> rfl
/-! ### load -/
theorem scLoad : FnScope ["self", "gas", "sand", "balloon", "more"] ["self", "gas", "sand"] (defScope sLoad) := ⟨rfl, rfl, rfl, by decide +kernel, rfl, by decide +kernel, by decide +kernel⟩
theorem ok_load {f : Addr} {fd : FuncData} (F : Fun K "load" "Desk.load" sLoad f fd) (T : Txt K mg CB CD CF aH) (D : Def P w K mg base (L2.CX P w) 3 "must" ["is_so", "number"] (spMust CF)) : FnOk P w K mg base (L2.CX P w) 4 f fd ["self", "gas", "sand"] (spLoad CB CD CF) := by
  obtain ⟨fM, fdM, gM, kM, GM, bM⟩ := D
  obtain ⟨_, cNT⟩ := T.cNT
  obtain ⟨_, cCB⟩ := T.cCB
  obtain ⟨_, cMG⟩ := T.cMG
  obtain ⟨_, cMS⟩ := T.cMS
  refine F.okX scLoad (fun vs H Q E h => ?_) (fun cdv A outer s H vs Q E hr h => ?_)
  · obtain ⟨a, b, g, s, rfl, _⟩ := h
    rfl
  · obtain ⟨a, b, g, s, rfl, hD, G, k⟩ := h
    refine ⟨_, pss_cons (ps_expr (pe_call GM hr rfl gM kM bM .nil (passes_call (takes_of rfl rfl rfl rfl) (fun _ _ _ _ h => h)) (pa_cons (pe_and (pe_chain op_le op_le pe_int (pv 1) (pe_glob (v := .int 200) rfl cMG ⟨_, rfl⟩))
          (pe_one (pe_cmpR op_le (pv 2) (pe_glob (v := .int 10000) rfl cMS ⟨_, rfl⟩) (nomark _)))) (pa_cons (pe_glob (v := .int (-1)) rfl cNT ⟨_, rfl⟩) pa_nil))))
      (pss_cons (ps_set (i := 3) scLoad.nd rfl (Or.inl rfl) (pe_fld (pv 0) rfl))
      (pss_cons (ps_set (i := 4) scLoad.nd rfl (Or.inl rfl) (pe_op op_sub (pe_op op_sub (pe_op op_mul (pe_fld (pv 3) rfl) (pv 1)) (pe_fld (pv 3) rfl)) (pv 2)))
      (pss_cons (ps_expr (pe_call GM hr rfl gM kM bM .nil (passes_call (takes_of rfl rfl rfl rfl) (fun _ _ _ _ h => h)) (pa_cons (pe_cmpR op_ge (pv 4) pe_int (nomark _)) (pa_cons (pe_glob (v := .int (-6)) rfl cCB ⟨_, rfl⟩) pa_nil))))
      (pss_cons (ps_fld (pv 3) (pv 1) rfl)
      (pss_cons (ps_fld (pv 3) (pv 2) rfl)
      (pss_one (ps_ret (pe_lst (pa_cons (pv 4) pa_nil))))))))), ?_⟩
    refine gv_must (gv_is (gv_andV (gv_chainLe gv_c (gv_var rfl) gv_c) (gv_le (gv_var rfl) gv_c)) (congrArg V.bl (c_load g s))) gv_c (fun c1 => ?_)
      (fun c1 => Fin.refuse hD k (load_bad (by have := of_decide_eq_false c1; omega)) (Same.refl H))
    have c1 := of_decide_eq_true c1
    have c1' : ¬ (g < 1 ∨ 200 < g ∨ 10000 < s) := by omega
    obtain ⟨dD, ab, hd, dB, hB⟩ := id hD
    refine gv_set (gv_fld (gv_var rfl) hd T.clD T.nB (dF_balloon ab)) ?_
    refine gv_set (gv_sub (gv_sub (gv_mul (gv_fld (gv_var rfl) hB T.clB T.nD (bF_day b)) (gv_var rfl) (few (Nat.le_trans G.d2 (by decide)))) (gv_fld (gv_var rfl) hB T.clB T.nW (bF_weight b))) (gv_var rfl)) ?_
    refine gv_must (gv_is (gv_ge (gv_var rfl) gv_c) (congrArg V.bl (c_more b g s))) gv_c (fun c2 => ?_)
      (fun c2 => Fin.refuse hD k (load_low c1' (of_decide_eq_false c2)) (Same.refl H))
    have c2 := of_decide_eq_true c2
    have hq := load_ok c1' c2
    refine ⟨_, rfl, _, rfl, ab, CB, dB, _, rfl, hB, T.clB, T.nG, (by show 7 < 1000; decide), ?_⟩
    rw [bF_putGas]
    refine ⟨_, rfl, _, rfl, ab, CB, dB, _, rfl, upd_same, T.clB, T.nS, (by show 7 < 1000; decide), ?_⟩
    rw [bF_putSand]
    have naab : a ≠ ab := fun z => by
      rw [z, hB] at hd
      have e := (HO.ins.inj (Option.some.inj hd)).2.2
      have e1 := congrArg List.length e
      cases e1
    refine ⟨_, rfl, (by show 1 ≤ sizeLine; decide), fun r hr' => k.1 _ r (upd_none (upd_none hr')) (fun c o e nI => ?_) ?_ ?_⟩
    · have n1 : c ≠ ab := ne_of e hB (nI _ _ _)
      rw [upd_ne (ne_of_none (H := upd (upd H ab _) ab _) (by rw [upd_ne n1, upd_ne n1]; exact e) hr'), upd_ne n1, upd_ne n1]
      exact e
    · rw [hq]
      have nabr : ab ≠ r := ne_of_none (H := upd (upd H ab _) ab _) upd_same hr'
      have nar : a ≠ r := ne_of_none (H := upd (upd H ab _) ab _) (by rw [upd_ne naab, upd_ne naab]; exact hd) hr'
      refine ⟨dD, ab, ?_, dB, (upd_ne nabr).trans upd_same⟩
      rw [upd_ne nar, upd_ne naab, upd_ne naab]
      exact hd
    · rw [upd_same, ans_ok hq, v_more c2] <;> rfl
/-! ### check -/
theorem scCheck : FnScope ["self", "plan", "wrong"] ["self", "plan"] (defScope sCheck) := ⟨rfl, rfl, rfl, by decide +kernel, rfl, by decide +kernel, by decide +kernel⟩
theorem ok_check {f : Addr} {fd : FuncData} (F : Fun K "check" "Desk.check" sCheck f fd) (T : Txt K mg CB CD CF aH) (R : RMk P w K mg base CF) (D : Def P w K mg base (L2.CX P w) 3 "must" ["is_so", "number"] (spMust CF))
    (ML : Mth P w K mg base CX0 2 CB "is_lifted" ["self"] (spLifted CB)) (DF : Def P w K mg base CX0 3 "first_wrong" ["balloon", "plan"] (spFirst K CB)) (DB : Def P w K mg base CX0 2 "left_behind" ["balloon", "plan"] (spBehind K CB)) :
    FnOk P w K mg base (L2.CX P w) 4 f fd ["self", "plan"] (spCheck K CB CD CF) := by
  obtain ⟨fR, fdR, iR, tR, GR, bR⟩ := R
  obtain ⟨fM, fdM, gM, kM, GM, bM⟩ := D
  obtain ⟨fL, fdL, mL, GL, bL⟩ := ML
  obtain ⟨fF, fdF, gF, kF, GF, bF'⟩ := DF
  obtain ⟨fB, fdB, gB, kB, GB, bB⟩ := DB
  obtain ⟨_, cNL⟩ := T.cNL
  obtain ⟨_, cCB⟩ := T.cCB
  refine F.okX scCheck (fun vs H Q E h => ?_) (fun cdv A outer s H vs Q E hr h => ?_)
  · obtain ⟨a, p, b, l, rfl, _⟩ := h
    rfl
  · obtain ⟨a, p, b, l, rfl, hD, G, hS, hl, k⟩ := h
    have hr2 : Room 2 _ := hr.mono (by decide)
    refine ⟨_, pss_cons (ps_expr (pe_call GM hr rfl gM kM bM .nil (passes_call (takes_of rfl rfl rfl rfl) (fun _ _ _ _ h => h)) (pa_cons (pe_meth0 (pe_fld (pv 0) rfl) T.clB mL GL hr2 bL .nil pass0) (pa_cons (pe_glob (v := .int (-3)) rfl cNL ⟨_, rfl⟩) pa_nil))))
      (pss_cons (ps_set (i := 2) scCheck.nd rfl (Or.inl rfl) (pe_call GF hr rfl gF kF bF' .nil pass0 (pa_cons (pe_fld (pv 0) rfl) (pa_cons (pv 1) pa_nil))))
      (pss_cons (ps_if (pt_cmpR op_notN (pv 2) pe_non (nomark _))
        (pss_one (ps_raise rfl (takes_of rfl rfl rfl rfl) (pmk_oex T.oF iR tR GR hr2 bR .nil pass0 rfl T.gF (pa_cons (pe_op op_cat (pe_lst (pa_cons (pe_glob (v := .int (-6)) rfl cCB ⟨_, rfl⟩) pa_nil)) (pe_callTy call_list_of (by rfl) T.mList (by decide +kernel) (pa_cons (pv 2) pa_nil))) pa_nil)))) pss_nil)
      (pss_one (ps_ret (pe_op op_cat (pe_lst (pa_cons (pe_callB call_len_seq (by rfl) T.mLen PySem.boot_len (pa_cons (pv 1) pa_nil)) pa_nil))
        (pe_callTy call_list_of (by rfl) T.mList (by decide +kernel) (pa_cons (pe_call GB hr2 rfl gB kB bB .nil pass0 (pa_cons (pe_fld (pv 0) rfl) (pa_cons (pv 1) pa_nil))) pa_nil))))))), ?_⟩
    obtain ⟨dD, ab, hd, hB⟩ := id hD
    obtain ⟨dB, h1⟩ := id hB
    refine gv_must (gv_meth (gv_fld (gv_var rfl) hd T.clD T.nB (dF_balloon ab)) h1 (bF_no b (by decide +kernel)) ga_nil fun Q q => ⟨ab, b, rfl, hB, G, q⟩) gv_c (fun c1 => ?_) (fun c1 => Fin.refuse hD k (check_not c1) (Same.refl H))
    refine gv_setCall (ga_cons (gv_fld (gv_var rfl) hd T.clD T.nB (dF_balloon ab)) (ga_cons (gv_var rfl) ga_nil)) ⟨ab, p, b, l, rfl, hB, G, hS, fun H1 s1 => ⟨fun st hok => ?_, fun i n herr t ht => ?_⟩⟩
    · refine gv_sq (gv_ifT (b := false) (fun Q q => ⟨_, rfl, rfl, q⟩) ?_)
      rw [if_neg Bool.false_ne_true]
      have hd1 := s1 _ _ hd
      refine ⟨_, rfl, p, _, rfl, .inl (s1.seq hS), (by show 1 ≤ sizeLine; decide), fun r hr1 => ?_⟩
      have s2 : Same H (upd H1 r (.lst [.int ((l.map nV).length : Int)])) := s1.trans (same_upd hr1)
      refine gv_callR (vs := [.ref ab, .ref p]) ?_ ?_
      · exact ga_cons (gv_fld (gv_var rfl) (s2 _ _ hd) T.clD T.nB (dF_balloon ab)) (ga_cons (gv_var rfl) ga_nil)
      refine ⟨ab, p, b, l, st, rfl, hB.same s2, G, s2.seq hS, hok, fun H3 t s3 ht => ?_⟩
      refine ⟨t, _, rfl, .inr (SqT.of ht), fun u hu => ?_⟩
      have hr3 : H3 r = some (.lst [.int ((l.map nV).length : Int)]) := s3 _ _ upd_same
      refine ⟨r, u, _, _, rfl, rfl, (upd_ne (ne_of_none hr3 hu)).trans hr3, upd_same, (by show 3 ≤ sizeLine; decide), fun v hv => ?_⟩
      have hq := check_ok (l := l) c1 hok
      refine Fin.answer hD k (by rw [hq]) (ans_of hq) (((s2.trans s3).trans (same_upd hu)).free hv) (((s2.trans s3).trans (same_upd hu)).trans (same_upd hv)) ?_
      rw [upd_same, List.length_map] <;> rfl
    · refine gv_sq (gv_ifT (b := true) (fun Q q => ⟨_, rfl, rfl, q⟩) ?_)
      rw [if_pos rfl]
      refine ⟨(by show 1 ≤ sizeLine; decide), fun r hr1 => ?_⟩
      have hr1t : (upd H1 r (.lst [.int (-6)])) t = some (.tup [nV i, nV n]) := (upd_ne (ne_of_none ht hr1)).trans ht
      refine ⟨_, rfl, t, _, rfl, .inr (SqT.of hr1t), fun u hu => ?_⟩
      refine ⟨r, u, _, _, rfl, rfl, (upd_ne (ne_of_none (H := upd H1 r _) upd_same hu)).trans upd_same, upd_same, (by show 3 ≤ sizeLine; decide), fun v hv => ?_⟩
      have hq := check_err (l := l) c1 herr
      refine mk_refused rfl fun d H' s hd' => Fin.raised hD k (by rw [hq]) (ans_of hq) (((s1.trans (same_upd hr1)).trans (same_upd hu)).free hv) ((((s1.trans (same_upd hr1)).trans (same_upd hu)).trans (same_upd hv)).trans s) hd' (s _ _ ?_)
      rw [upd_same] <;> rfl
end
end Nb
namespace Nb
open PySem PySem.Spec PyProof.Rows L2
section
variable {P : Program} {w : World} {K : PySem.W.Frag} {mg : Str → Option Value} {base : Heap} {CB CD CF aH : Addr}
/-- must(f(..), z), f's promise with a heap of its own -/
theorem gv_mustC {σ : L2.St} {H : Hp} {tz : TE} {sp : Sp} {t : TA} {vs : List V} {u : TS} {D : Ends} {E E' : XK} (h : GvA t σ H vs) (q : sp vs H (fun x H1 => tz σ H1 fun y H2 => spMust CF [x, y] H2 (fun _ H3 => u D σ H3) E) E') :
    tSeq (tDrop (tCall (spMust CF) [] E (tCons (tCall sp [] E' t) (tCons tz tNil)))) u D σ H := h _ (by rw [List.append_nil]; exact q)
/-! ### nights -/
theorem scNights : FnScope ["self", "plan"] ["self"] (defScope sNights) := ⟨rfl, rfl, rfl, by decide +kernel, rfl, by decide +kernel, by decide +kernel⟩
theorem ok_nights {f : Addr} {fd : FuncData} (F : Fun K "nights" "Desk.nights" sNights f fd) (T : Txt K mg CB CD CF aH) (D : Def P w K mg base (L2.CX P w) 3 "must" ["is_so", "number"] (spMust CF))
    (ML : Mth P w K mg base CX0 2 CB "is_lifted" ["self"] (spLifted CB)) (DA : Def P w K mg base CX0 2 "as_little" ["balloon", "sand"] (spLittle CB)) : FnOk P w K mg base (L2.CX P w) 4 f fd ["self"] (spNights CB CD CF) := by
  obtain ⟨fM, fdM, gM, kM, GM, bM⟩ := D
  obtain ⟨fL, fdL, mL, GL, bL⟩ := ML
  obtain ⟨fA, fdA, gA, kA, GA, bA⟩ := DA
  obtain ⟨_, cNL⟩ := T.cNL
  refine F.okX scNights (fun vs H Q E h => ?_) (fun cdv A outer s H vs Q E hr h => ?_)
  · obtain ⟨a, b, rfl, _⟩ := h
    rfl
  · obtain ⟨a, b, rfl, hD, G, k⟩ := h
    have hr2 : Room 2 _ := hr.mono (by decide)
    refine ⟨_, pss_cons (ps_expr (pe_call GM hr rfl gM kM bM .nil (passes_call (takes_of rfl rfl rfl rfl) (fun _ _ _ _ h => h)) (pa_cons (pe_meth0 (pe_fld (pv 0) rfl) T.clB mL GL hr2 bL .nil pass0) (pa_cons (pe_glob (v := .int (-3)) rfl cNL ⟨_, rfl⟩) pa_nil))))
      (pss_cons (ps_set (i := 1) scNights.nd rfl (Or.inl rfl) (pe_call GA hr2 rfl gA kA bA .nil pass0 (pa_cons (pe_fld (pv 0) rfl) (pa_cons (pe_fld (pe_fld (pv 0) rfl) rfl) pa_nil))))
      (pss_one (ps_ret (pe_op op_cat (pe_lst (pa_cons (pe_callB call_len_seq (by rfl) T.mLen PySem.boot_len (pa_cons (pv 1) pa_nil)) pa_nil)) (pv 1))))), ?_⟩
    obtain ⟨dD, ab, hd, hB⟩ := id hD
    obtain ⟨dB, h1⟩ := id hB
    refine gv_must (gv_meth (gv_fld (gv_var rfl) hd T.clD T.nB (dF_balloon ab)) h1 (bF_no b (by decide +kernel)) ga_nil fun Q q => ⟨ab, b, rfl, hB, G, q⟩) gv_c (fun c1 => ?_) (fun c1 => Fin.refuse hD k (nights_not c1) (Same.refl H))
    refine gv_setCall (ga_cons (gv_fld (gv_var rfl) hd T.clD T.nB (dF_balloon ab)) (ga_cons (gv_fld (gv_fld (gv_var rfl) hd T.clD T.nB (dF_balloon ab)) h1 T.clB T.nS (bF_sand b)) ga_nil)) ⟨ab, b, b.sand, rfl, hB, G, fun H1 p s1 hp => ?_⟩
    refine ⟨_, rfl, p, _, rfl, .inl (SqL.of hp), (by show 1 ≤ sizeLine; decide), fun r hr1 => ?_⟩
    have nrp : p ≠ r := ne_of_none hp hr1
    have hl : (little b b.sand).length ≤ 201 := by
      have := little_len b b.sand
      have := G.g2
      omega
    refine ⟨_, rfl, r, p, _, _, rfl, rfl, upd_same, (upd_ne nrp).trans hp, ?_, fun v hv => ?_⟩
    · rw [List.length_map]
      show 1 + (little b b.sand).length ≤ sizeLine
      exact Nat.le_of_lt (small1000 (by omega))
    · have hq := nights_ok c1
      refine Fin.answer hD k (by rw [hq]) (ans_of hq) ((s1.trans (same_upd hr1)).free hv) ((s1.trans (same_upd hr1)).trans (same_upd hv)) ?_
      rw [upd_same, List.length_map, List.map_cons, ints_nV] <;> rfl
/-! ### needs -/
theorem scNeeds : FnScope ["self", "many"] ["self", "many"] (defScope sNeeds) := ⟨rfl, rfl, rfl, by decide +kernel, rfl, by decide +kernel, by decide +kernel⟩
theorem ok_needs {f : Addr} {fd : FuncData} (F : Fun K "needs" "Desk.needs" sNeeds f fd) (T : Txt K mg CB CD CF aH) (D : Def P w K mg base (L2.CX P w) 3 "must" ["is_so", "number"] (spMust CF))
    (MS : Mth P w K mg base CX0 1 CB "spare" ["self"] (spSpare CB)) (DE : Def P w K mg base CX0 3 "is_enough" ["balloon", "sand", "many"] (spEnough CB)) (DL : Def P w K mg base CX0 4 "least_enough" ["balloon", "many"] (spLeastE CB)) :
    FnOk P w K mg base (L2.CX P w) 5 f fd ["self", "many"] (spNeeds CB CD CF) := by
  obtain ⟨fM, fdM, gM, kM, GM, bM⟩ := D
  obtain ⟨fS, fdS, mS, GS, bS⟩ := MS
  obtain ⟨fE, fdE, gE, kE, GE, bE⟩ := DE
  obtain ⟨fL, fdL, gL, kL, GL, bL⟩ := DL
  obtain ⟨_, cNT⟩ := T.cNT
  obtain ⟨_, cCB⟩ := T.cCB
  obtain ⟨_, cMN⟩ := T.cMN
  refine F.okX scNeeds (fun vs H Q E h => ?_) (fun cdv A outer s H vs Q E hr h => ?_)
  · obtain ⟨a, b, n, rfl, _⟩ := h
    rfl
  · obtain ⟨a, b, n, rfl, hD, G, k⟩ := h
    have hr3 : Room 3 _ := hr.mono (by decide)
    have hr1 : Room 1 _ := hr.mono (by decide)
    refine ⟨_, pss_cons (ps_expr (pe_call GM hr3 rfl gM kM bM .nil (passes_call (takes_of rfl rfl rfl rfl) (fun _ _ _ _ h => h)) (pa_cons (pe_cmpR op_le (pv 1) (pe_glob (v := .int 200) rfl cMN ⟨_, rfl⟩) (nomark _)) (pa_cons (pe_glob (v := .int (-1)) rfl cNT ⟨_, rfl⟩) pa_nil))))
      (pss_cons (ps_expr (pe_call GM hr3 rfl gM kM bM .nil (passes_call (takes_of rfl rfl rfl rfl) (fun _ _ _ _ h => h)) (pa_cons (pe_cmpR op_ge (pe_meth0 (pe_fld (pv 0) rfl) T.clB mS GS hr1 bS .nil pass0) pe_int (nomark _)) (pa_cons (pe_glob (v := .int (-6)) rfl cCB ⟨_, rfl⟩) pa_nil))))
      (pss_cons (ps_expr (pe_call GM hr3 rfl gM kM bM .nil (passes_call (takes_of rfl rfl rfl rfl) (fun _ _ _ _ h => h))
        (pa_cons (pe_call GE hr3 rfl gE kE bE .nil pass0 (pa_cons (pe_fld (pv 0) rfl) (pa_cons (pe_meth0 (pe_fld (pv 0) rfl) T.clB mS GS hr1 bS .nil pass0) (pa_cons (pv 1) pa_nil)))) (pa_cons (pe_glob (v := .int (-6)) rfl cCB ⟨_, rfl⟩) pa_nil))))
      (pss_one (ps_ret (pe_lst (pa_cons (pe_call GL hr rfl gL kL bL .nil pass0 (pa_cons (pe_fld (pv 0) rfl) (pa_cons (pv 1) pa_nil))) pa_nil)))))), ?_⟩
    obtain ⟨dD, ab, hd, hB⟩ := id hD
    obtain ⟨dB, h1⟩ := id hB
    refine gv_must (gv_is (gv_le (gv_var rfl) gv_c) (congrArg V.bl (c_many n))) gv_c (fun c1 => ?_) (fun c1 => Fin.refuse hD k (needs_many (by have := of_decide_eq_false c1; omega)) (Same.refl H))
    have c1 := of_decide_eq_true c1
    have c1' : ¬ 200 < n := by omega
    have fB := gv_fld (K := K) (gv_var (σ := start ["self", "many"] [V.ref a, nV n]) (H := H) (n := 0) rfl) hd T.clD T.nB (dF_balloon ab)
    refine gv_must (gv_is (gv_ge (gv_meth fB h1 (bF_no b (by decide +kernel)) ga_nil fun Q q => ⟨ab, b, rfl, hB, G, q⟩) gv_c) (congrArg V.bl (c_spare b))) gv_c (fun c2 => ?_)
      (fun c2 => Fin.refuse hD k (needs_no c1' (needs_none n (of_decide_eq_false c2))) (Same.refl H))
    have c2 := of_decide_eq_true c2
    refine gv_mustC (vs := [.ref ab, nV (b.day * b.gas - b.weight), nV n]) ?_ ?_
    · exact ga_cons fB (ga_cons (gv_is (gv_meth fB h1 (bF_no b (by decide +kernel)) ga_nil fun Q q => ⟨ab, b, rfl, hB, G, q⟩) (v_spare c2)) (ga_cons (gv_var rfl) ga_nil))
    refine ⟨ab, b, b.day * b.gas - b.weight, n, rfl, hB, G, fun H1 s1 => ⟨_, _, rfl, fun c3 => ?_, fun c3 => Fin.refuse hD k (needs_no c1' (needs_less c2 (of_decide_eq_false c3))) s1⟩⟩
    obtain ⟨L, e1, e2, e3⟩ := needs_some c2 (of_decide_eq_true c3)
    refine gv_callR (vs := [.ref ab, nV n]) ?_ ?_
    · exact ga_cons (gv_fld (gv_var rfl) (s1 _ _ hd) T.clD T.nB (dF_balloon ab)) (ga_cons (gv_var rfl) ga_nil)
    refine ⟨ab, b, n, L, rfl, hB.same s1, G, c2, e2, e3, fun H2 s2 => ⟨(by show 1 ≤ sizeLine; decide), fun r hr' => ?_⟩⟩
    have hq := needs_yes c1' e1
    refine Fin.answer hD k (by rw [hq]) (ans_ok hq) ((s1.trans s2).free hr') ((s1.trans s2).trans (same_upd hr')) ?_
    rw [upd_same] <;> rfl
/-! ### most -/
theorem scMost : FnScope ["self", "spare"] ["self"] (defScope sMost) := ⟨rfl, rfl, rfl, by decide +kernel, rfl, by decide +kernel, by decide +kernel⟩
theorem ok_most {f : Addr} {fd : FuncData} (F : Fun K "most" "Desk.most" sMost f fd) (T : Txt K mg CB CD CF aH) (D : Def P w K mg base (L2.CX P w) 3 "must" ["is_so", "number"] (spMust CF))
    (MS : Mth P w K mg base CX0 1 CB "spare" ["self"] (spSpare CB)) (DA : Def P w K mg base CX0 2 "as_little" ["balloon", "sand"] (spLittle CB)) :
    FnOk P w K mg base (L2.CX P w) 4 f fd ["self"] (spMost CB CD CF) := by
  obtain ⟨fM, fdM, gM, kM, GM, bM⟩ := D
  obtain ⟨fS, fdS, mS, GS, bS⟩ := MS
  obtain ⟨fA, fdA, gA, kA, GA, bA⟩ := DA
  obtain ⟨_, cCB⟩ := T.cCB
  refine F.okX scMost (fun vs H Q E h => ?_) (fun cdv A outer s H vs Q E hr h => ?_)
  · obtain ⟨a, b, rfl, _⟩ := h
    rfl
  · obtain ⟨a, b, rfl, hD, G, k⟩ := h
    have hr2 : Room 2 _ := hr.mono (by decide)
    have hr1 : Room 1 _ := hr.mono (by decide)
    refine ⟨_, pss_cons (ps_set (i := 1) scMost.nd rfl (Or.inl rfl) (pe_meth0 (pe_fld (pv 0) rfl) T.clB mS GS hr1 bS .nil pass0))
      (pss_cons (ps_expr (pe_call GM hr rfl gM kM bM .nil (passes_call (takes_of rfl rfl rfl rfl) (fun _ _ _ _ h => h)) (pa_cons (pe_cmpR op_ge (pv 1) pe_int (nomark _)) (pa_cons (pe_glob (v := .int (-6)) rfl cCB ⟨_, rfl⟩) pa_nil))))
      (pss_one (ps_ret (pe_lst (pa_cons (pv 1) (pa_cons (pe_callB call_len_seq (by rfl) T.mLen PySem.boot_len (pa_cons (pe_call GA hr2 rfl gA kA bA .nil pass0 (pa_cons (pe_fld (pv 0) rfl) (pa_cons (pv 1) pa_nil))) pa_nil)) pa_nil)))))), ?_⟩
    obtain ⟨dD, ab, hd, hB⟩ := id hD
    obtain ⟨dB, h1⟩ := id hB
    refine gv_set (gv_meth (gv_fld (gv_var rfl) hd T.clD T.nB (dF_balloon ab)) h1 (bF_no b (by decide +kernel)) ga_nil fun Q q => ⟨ab, b, rfl, hB, G, q⟩) ?_
    refine gv_must (gv_is (gv_ge (gv_var rfl) gv_c) (congrArg V.bl (c_spare b))) gv_c (fun c2 => ?_) (fun c2 => Fin.refuse hD k (most_no (of_decide_eq_false c2)) (Same.refl H))
    have c2 := of_decide_eq_true c2
    rw [v_spare c2]
    refine ⟨_, rfl, ?_⟩
    refine gv_callR (vs := [.ref ab, nV (b.day * b.gas - b.weight)]) ?_ ?_
    · exact ga_cons (gv_fld (gv_var rfl) hd T.clD T.nB (dF_balloon ab)) (ga_cons (gv_var rfl) ga_nil)
    refine ⟨ab, b, b.day * b.gas - b.weight, rfl, hB, G, fun H1 p s1 hp => ?_⟩
    refine ⟨p, _, rfl, .inl (SqL.of hp), (by show 2 ≤ sizeLine; decide), fun r hr' => ?_⟩
    have hq := most_yes c2
    refine Fin.answer hD k (by rw [hq]) (ans_of hq) (s1.free hr') (s1.trans (same_upd hr')) ?_
    rw [upd_same, List.length_map] <;> rfl
/-! ### told -/
theorem scTold : FnScope ["self", "kind", "numbers"] ["self", "kind", "numbers"] (defScope sTold) := ⟨rfl, rfl, rfl, by decide +kernel, rfl, by decide +kernel, by decide +kernel⟩
theorem gv_eq {σ : L2.St} {H : Hp} {ta tb : TE} {i j : Int} (ha : Gv ta σ H (.int i)) (hb : Gv tb σ H (.int j)) : Gv (tOp rEq ta tb) σ H (.bl (decide (V.int i = V.int j))) := fun _ q => ha _ (hb _ ⟨rfl, q⟩)
theorem gv_ix {σ : L2.St} {H : Hp} {ta tb : TE} {p : Addr} {xs : List V} {i : Int} {v : V} (ha : Gv ta σ H (.ref p)) (hb : Gv tb σ H (.int i)) (h : SqL K H p xs) (e : atI xs i = some v) : Gv (tOp (rIxL K) ta tb) σ H v := fun _ q => ha _ (hb _ ⟨p, xs, i, v, rfl, rfl, h, e, q⟩)
/-- return o.m(..), m's promise one with two ways out -/
theorem gv_retMeth {σ : L2.St} {H : Hp} {te : TE} {D : Ends} {a C dx : Addr} {fs : List (Str × V)} {m : Str} {sp : Sp} {E : XK} {t : TA} {vs : List V} (h : Gv te σ H (.ref a)) (ha : H a = some (.ins C dx fs)) (l : fs.lookup m = none) (hv : GvA t σ H vs)
    (q : sp (.ref a :: vs) H D.rt E) : tRet (tMeth C m sp [] E te t) D σ H := h _ ⟨a, dx, fs, rfl, ha, l, hv _ (by rw [List.append_nil]; exact q)⟩
theorem ok_told {f : Addr} {fd : FuncData} (F : Fun K "told" "Desk.told" sTold f fd) (T : Txt K mg CB CD CF aH)
    (M0 : Mth P w K mg base (L2.CX P w) 4 CD "begins" ["self", "numbers"] (spBegins K CB CD CF)) (M1 : Mth P w K mg base (L2.CX P w) 4 CD "load" ["self", "gas", "sand"] (spLoad CB CD CF)) (M2 : Mth P w K mg base (L2.CX P w) 4 CD "check" ["self", "plan"] (spCheck K CB CD CF))
    (M3 : Mth P w K mg base (L2.CX P w) 4 CD "nights" ["self"] (spNights CB CD CF)) (M4 : Mth P w K mg base (L2.CX P w) 5 CD "needs" ["self", "many"] (spNeeds CB CD CF)) (M5 : Mth P w K mg base (L2.CX P w) 4 CD "most" ["self"] (spMost CB CD CF)) :
    FnOk P w K mg base (L2.CX P w) 6 f fd ["self", "kind", "numbers"] (spTold K CB CD CF) := by
  obtain ⟨f0, fd0, m0, G0, b0⟩ := M0
  obtain ⟨f1, fd1, m1, G1, b1⟩ := M1
  obtain ⟨f2, fd2, m2, G2, b2⟩ := M2
  obtain ⟨f3, fd3, m3, G3, b3⟩ := M3
  obtain ⟨f4, fd4, m4, G4, b4⟩ := M4
  obtain ⟨f5, fd5, m5, G5, b5⟩ := M5
  obtain ⟨_, cCH⟩ := T.cCH
  refine F.okX scTold (fun vs H Q E h => ?_) (fun cdv A outer s H vs Q E hr h => ?_)
  · obtain ⟨a, p, b, kind, nums, q, rfl, _⟩ := h
    rfl
  · obtain ⟨a, p, b, kind, nums, q, rfl, hD, G, hR, hS, k⟩ := h
    have hr4 : Room 4 _ := hr.mono (by decide)
    refine ⟨_, pss_cons (ps_if (pt_cmpR op_eq (pv 1) pe_int (nomark _)) (pss_one (ps_ret (pe_meth (pv 0) T.clD m0 G0 hr4 b0 .nil (passes_call (takes_of rfl rfl rfl rfl) (fun _ _ _ _ h => h)) (pa_cons (pv 2) pa_nil)))) pss_nil)
      (pss_cons (ps_if (pt_cmpR op_eq (pv 1) pe_int (nomark _)) (pss_one (ps_ret (pe_meth (pv 0) T.clD m1 G1 hr4 b1 .nil (passes_call (takes_of rfl rfl rfl rfl) (fun _ _ _ _ h => h)) (pa_cons (pe_ix ix_list (pv 2) pe_int (fun _ _ => rfl)) (pa_cons (pe_ix ix_list (pv 2) pe_int (fun _ _ => rfl)) pa_nil))))) pss_nil)
      (pss_cons (ps_if (pt_cmpR op_eq (pv 1) (pe_glob (v := .int 2) rfl cCH ⟨_, rfl⟩) (nomark _)) (pss_one (ps_ret (pe_meth (pv 0) T.clD m2 G2 hr4 b2 .nil (passes_call (takes_of rfl rfl rfl rfl) (fun _ _ _ _ h => h)) (pa_cons (pv 2) pa_nil)))) pss_nil)
      (pss_cons (ps_if (pt_cmpR op_eq (pv 1) pe_int (nomark _)) (pss_one (ps_ret (pe_meth0 (pv 0) T.clD m3 G3 hr4 b3 .nil (passes_call (takes_of rfl rfl rfl rfl) (fun _ _ _ _ h => h))))) pss_nil)
      (pss_cons (ps_if (pt_cmpR op_eq (pv 1) pe_int (nomark _)) (pss_one (ps_ret (pe_meth (pv 0) T.clD m4 G4 hr b4 .nil (passes_call (takes_of rfl rfl rfl rfl) (fun _ _ _ _ h => h)) (pa_cons (pe_ix ix_list (pv 2) pe_int (fun _ _ => rfl)) pa_nil)))) pss_nil)
      (pss_one (ps_ret (pe_meth0 (pv 0) T.clD m5 G5 hr4 b5 .nil (passes_call (takes_of rfl rfl rfl rfl) (fun _ _ _ _ h => h))))))))), ?_⟩
    obtain ⟨dD, ab, hd, hB⟩ := id hD
    cases hR with
    | begins x0 x1 x2 x3 x4 =>
      refine gv_sq (gv_ifT (gv_eq (gv_var rfl) gv_c) ?_)
      rw [if_pos (by decide)]
      exact gv_retMeth (gv_var rfl) hd (dF_no ab (by decide +kernel)) (ga_cons (gv_var rfl) ga_nil) ⟨a, p, b, x0, x1, x2, x3, x4, rfl, hD, G, hS, k⟩
    | load g s =>
      refine gv_sq (gv_ifT (gv_eq (gv_var rfl) gv_c) ?_)
      rw [if_neg (by decide)]
      refine gv_sq (gv_ifT (gv_eq (gv_var rfl) gv_c) ?_)
      rw [if_pos (by decide)]
      exact gv_retMeth (gv_var rfl) hd (dF_no ab (by decide +kernel)) (ga_cons (gv_ix (gv_var rfl) gv_c hS (atI_nat (j := 0) rfl)) (ga_cons (gv_ix (gv_var rfl) gv_c hS (atI_nat (j := 1) rfl)) ga_nil)) ⟨a, b, g, s, rfl, hD, G, k⟩
    | check l hl =>
      refine gv_sq (gv_ifT (gv_eq (gv_var rfl) gv_c) ?_)
      rw [if_neg (by decide)]
      refine gv_sq (gv_ifT (gv_eq (gv_var rfl) gv_c) ?_)
      rw [if_neg (by decide)]
      refine gv_sq (gv_ifT (gv_eq (gv_var rfl) gv_c) ?_)
      rw [if_pos (by decide)]
      rw [ints_nV] at hS
      exact gv_retMeth (gv_var rfl) hd (dF_no ab (by decide +kernel)) (ga_cons (gv_var rfl) ga_nil) ⟨a, p, b, l, rfl, hD, G, hS, hl, k⟩
    | nights =>
      refine gv_sq (gv_ifT (gv_eq (gv_var rfl) gv_c) ?_)
      rw [if_neg (by decide)]
      refine gv_sq (gv_ifT (gv_eq (gv_var rfl) gv_c) ?_)
      rw [if_neg (by decide)]
      refine gv_sq (gv_ifT (gv_eq (gv_var rfl) gv_c) ?_)
      rw [if_neg (by decide)]
      refine gv_sq (gv_ifT (gv_eq (gv_var rfl) gv_c) ?_)
      rw [if_pos (by decide)]
      exact gv_retMeth (gv_var rfl) hd (dF_no ab (by decide +kernel)) ga_nil ⟨a, b, rfl, hD, G, k⟩
    | needs n =>
      refine gv_sq (gv_ifT (gv_eq (gv_var rfl) gv_c) ?_)
      rw [if_neg (by decide)]
      refine gv_sq (gv_ifT (gv_eq (gv_var rfl) gv_c) ?_)
      rw [if_neg (by decide)]
      refine gv_sq (gv_ifT (gv_eq (gv_var rfl) gv_c) ?_)
      rw [if_neg (by decide)]
      refine gv_sq (gv_ifT (gv_eq (gv_var rfl) gv_c) ?_)
      rw [if_neg (by decide)]
      refine gv_sq (gv_ifT (gv_eq (gv_var rfl) gv_c) ?_)
      rw [if_pos (by decide)]
      exact gv_retMeth (gv_var rfl) hd (dF_no ab (by decide +kernel)) (ga_cons (gv_ix (gv_var rfl) gv_c hS (atI_nat (j := 0) rfl)) ga_nil) ⟨a, b, n, rfl, hD, G, k⟩
    | most =>
      refine gv_sq (gv_ifT (gv_eq (gv_var rfl) gv_c) ?_)
      rw [if_neg (by decide)]
      refine gv_sq (gv_ifT (gv_eq (gv_var rfl) gv_c) ?_)
      rw [if_neg (by decide)]
      refine gv_sq (gv_ifT (gv_eq (gv_var rfl) gv_c) ?_)
      rw [if_neg (by decide)]
      refine gv_sq (gv_ifT (gv_eq (gv_var rfl) gv_c) ?_)
      rw [if_neg (by decide)]
      refine gv_sq (gv_ifT (gv_eq (gv_var rfl) gv_c) ?_)
      rw [if_neg (by decide)]
      refine ⟨_, rfl, a, dD, _, rfl, hd, dF_no ab (by decide +kernel), ?_⟩
      exact ⟨a, b, rfl, hD, G, k⟩
/-! ### answer -/
theorem scAnswer : FnScope ["self", "kind", "numbers", "e"] ["self", "kind", "numbers"] (defScope sAnswer) := ⟨rfl, rfl, rfl, by decide +kernel, rfl, by decide +kernel, by decide +kernel⟩
theorem ok_answer {f : Addr} {fd : FuncData} (F : Fun K "answer" "Desk.answer" sAnswer f fd) (T : Txt K mg CB CD CF aH) (M : Mth P w K mg base (L2.CX P w) 6 CD "told" ["self", "kind", "numbers"] (spTold K CB CD CF)) :
    FnOk P w K mg base CX0 7 f fd ["self", "kind", "numbers"] (spAnswer K CB CD) := by
  obtain ⟨fT, fdT, mT, GT, bT⟩ := M
  refine F.ok scAnswer (fun vs H Q E h => ?_) (fun cdv A outer s H vs Q E hr h => ?_)
  · obtain ⟨a, p, b, kind, nums, q, rfl, _⟩ := h
    rfl
  · obtain ⟨a, p, b, kind, nums, q, rfl, hD, G, hR, hS, k⟩ := h
    refine ⟨_, pss_one (ps_try_as (i := 3) (tb := fun W => tRet (tMethS CD "told" (spTold K CB CD CF) (WE W) (tVar 0) (tCons (tVar 1) (tCons (tVar 2) tNil)))) (ts := fun a cls d => tRet (tXf a cls d CF "numbers" (tVar 3))) (Wout := fun _ _ _ _ => False)
      rfl rfl scAnswer.nd rfl rfl ⟨rfl, by decide, Or.inl T.gF⟩ takes0
      (fun W pn xe tk _ => pss_one (ps_ret (pe_methS (pv 0) T.clD mT GT hr bT (fun σ => passAt tk σ) (by exact (pa_cons (pv 1) (pa_cons (pv 2) pa_nil))))))
      (fun a oe cls d pn hz hf => pss_one (ps_ret (pe_xf T.xF T.nF hz hf (pv 3))))), ?_⟩
    obtain ⟨dD, ab, hd, hB⟩ := id hD
    refine ⟨_, rfl, a, dD, _, rfl, hd, dF_no ab (by decide +kernel), _, rfl, _, rfl, a, p, b, kind, nums, q, rfl, hD, G, hR, hS, fun H' p' np hk hD' hp' => k H' p' np hk hD' hp', fun H' d p' np hk hD' hx hp' => ?_⟩
    refine ⟨true, T.eF, fun _ e he => ?_, fun z => Bool.noConfusion z⟩
    exact ⟨_, rfl, rfl, rfl, d, _, _, rfl, hx, lk_here, k H' p' np hk hD' hp'⟩
end
end Nb
namespace Nb
open PySem PySem.Spec PyProof.Rows L2
theorem cut_is {l : List Int} {i n : Nat} (h : i + n ≤ l.length) : cutV (l.map V.int) (some ((i : Nat) : Int)) (some (((i + n : Nat)) : Int)) = ((l.drop i).take n).map V.int := by
  unfold cutV
  rw [HT.sIx_nat, HT.sIx_nat, List.length_map, Nat.min_eq_left h, Nat.min_eq_left (Nat.le_trans (Nat.le_add_right i n) h), Nat.add_sub_cancel_left, List.map_take, List.map_drop]
theorem int_at {l : List Int} {i : Nat} {x : Int} (h : l[i]? = some x) : (l.map V.int)[i]? = some (.int x) := by
  rw [List.getElem?_map, h] <;> rfl
theorem kind_of {kind : Int} {nums : List Int} {q : Si95.Call} (R : Rep kind nums q) : ∃ k : Nat, kind = (k : Int) ∧ k < 6 := by
  cases R with
  | begins => exact ⟨0, rfl, by decide⟩
  | load => exact ⟨1, rfl, by decide⟩
  | check => exact ⟨2, rfl, by decide⟩
  | nights => exact ⟨3, rfl, by decide⟩
  | needs => exact ⟨4, rfl, by decide⟩
  | most => exact ⟨5, rfl, by decide⟩
/-- what stands at a, no instance, stands there still -/
def Stay (H H' : Hp) (a : Addr) : Prop := ∀ o, H a = some o → (∀ C dx fs, o ≠ .ins C dx fs) → H' a = some o
theorem Stay.seq {K : PySem.W.Frag} {H H' : Hp} {a : Addr} {xs : List V} (k : Stay H H' a) (h : SqL K H a xs) : SqL K H' a xs := by
  rcases h with (h | ⟨o, h⟩) | h
  · exact .inl (.inl (k _ h fun _ _ _ z => by cases z))
  · exact .inl (.inr ⟨o, k _ h fun _ _ _ z => by cases z⟩)
  · exact .inr h
/-! ### the promises -/
def spAt (K : PySem.W.Frag) : Sp := fun vs H Q _ => ∃ (p : Addr) (l : List Int) (i k first many : Nat), vs = [.ref p, nV i] ∧ SqL K H p (l.map V.int) ∧ l[i]? = some (k : Int) ∧ k < 6 ∧ Cut l i (k : Int) first many ∧ first + many ≤ l.length ∧
  ∀ H' t r, Same H H' → H' t = some (.tup [.ref r, nV (first + many)]) → H' r = some (.lst (((l.drop first).take many).map V.int)) → Q (.ref t) H'
def spAns (K : PySem.W.Frag) : Sp := fun vs H Q _ => ∃ (a : Addr) (ns : List Int), vs = [.ref a] ∧ SqL K H a (ns.map V.int) ∧ (∀ x ∈ ns, 0 ≤ x) ∧ PySi95.answers_asked ns = true ∧
  ∀ (H' : Hp) (p : Addr), H' p = some (.lst ((PySi95.answers ns).map V.int)) → Q (.ref p) H'
section
variable {P : Program} {w : World} {K : PySem.W.Frag} {mg : Str → Option Value} {base : Heap} {CB CD CF aH : Addr}
/-! ### numbers_at -/
theorem scAt : FnScope ["calls", "at", "kind", "first", "many"] ["calls", "at"] (defScope sAt) := ⟨rfl, rfl, rfl, by decide +kernel, rfl, by decide +kernel, by decide +kernel⟩
theorem gv_ixT {σ : L2.St} {H : Hp} {ta tb : TE} {p : Addr} {xs : List V} {i : Int} {v : V} (ha : Gv ta σ H (.ref p)) (hb : Gv tb σ H (.int i)) (h : SqT K H p xs) (e : atI xs i = some v) : Gv (tOp (rIxT K) ta tb) σ H v := fun _ q => ha _ (hb _ ⟨p, xs, i, v, rfl, rfl, h, e, q⟩)
theorem many_at {k : Nat} (h : k < 6) : ∃ n : Nat, ([5, 2, 0, 0, 1, 0] : List Nat)[k]? = some n ∧ atI ([.int 5, .int 2, .int 0, .int 0, .int 1, .int 0] : List V) ((k : Nat) : Int) = some (nV n) := by
  have e : ([.int 5, .int 2, .int 0, .int 0, .int 1, .int 0] : List V) = ([5, 2, 0, 0, 1, 0] : List Nat).map nV := rfl
  have hk : k < ([5, 2, 0, 0, 1, 0] : List Nat).length := h
  refine ⟨_, List.getElem?_eq_getElem hk, ?_⟩
  rw [e]
  refine atI_nat ?_
  rw [List.getElem?_map, List.getElem?_eq_getElem hk] <;> rfl
theorem ok_at {f : Addr} {fd : FuncData} (F : Fun K "numbers_at" "numbers_at" sAt f fd) (T : Txt K mg CB CD CF aH) : FnOk P w K mg base CX0 1 f fd ["calls", "at"] (spAt K) := by
  obtain ⟨_, cCH⟩ := T.cCH
  refine F.ok scAt (fun vs H Q E h => ?_) (fun cdv A outer s H vs Q E hr h => ?_)
  · obtain ⟨p, l, i, k, first, many, rfl, _⟩ := h
    rfl
  · obtain ⟨p, l, i, k, first, many, rfl, hS, hk, hk6, hc, hle, kk⟩ := h
    refine ⟨_, pss_cons (ps_set (i := 2) scAt.nd rfl (Or.inl rfl) (pe_ix ix_list (pv 0) (pv 1) (fun _ _ => rfl)))
      (pss_cons (ps_set (i := 3) scAt.nd rfl (Or.inl rfl) (pe_op op_add (pv 1) pe_int))
      (pss_cons (ps_set (i := 4) scAt.nd rfl (Or.inl rfl) (pe_ix ix_tup (pe_glob (v := .ref aH) rfl T.gH rfl) (pv 2) (fun _ _ => rfl)))
      (pss_cons (ps_if (pt_cmpR op_eq (pv 2) (pe_glob (v := .int 2) rfl cCH ⟨_, rfl⟩) (nomark _))
        (pss_cons (ps_set (i := 4) scAt.nd rfl (Or.inl rfl) (pe_ix ix_list (pv 0) (pv 3) (fun _ _ => rfl))) (pss_one (ps_set (i := 3) scAt.nd rfl (Or.inl rfl) (pe_op op_add (pv 3) pe_int)))) pss_nil)
      (pss_one (ps_ret (pe_tup (pa_cons (pe_slice sl_list (pv 0) (po_some (pv 3)) (po_some (pe_op op_add (pv 3) (pv 4)))) (pa_cons (pe_op op_add (pv 3) (pv 4)) pa_nil)))))))), ?_⟩
    obtain ⟨n0, hn0, hm0⟩ := many_at hk6
    refine gv_set (gv_ix (gv_var rfl) (gv_var rfl) hS (atI_nat (int_at hk))) ?_
    refine gv_set (gv_is (gv_add (gv_var rfl) gv_c) (show V.int ((i : Int) + 1) = nV (i + 1) from rfl)) ?_
    refine gv_set (gv_ixT gv_c (gv_var rfl) (T.tH H) hm0) ?_
    refine gv_sq (gv_ifT (gv_eq (gv_var rfl) gv_c) ?_)
    have fin : ∀ (σ : L2.St), σ[0]? = some (some (.ref p)) → σ[3]? = some (some (nV first)) → σ[4]? = some (some (nV many)) →
        tRet (tTup (tCons (tSl (rSlL K) (tVar 0) (tPart (tVar 3)) (tPart (tOp (rI0 fun i j => V.int (i + j)) (tVar 3) (tVar 4)))) (tCons (tOp (rI0 fun i j => V.int (i + j)) (tVar 3) (tVar 4)) tNil))) { nx := fun x H' => Q V.non H', rt := Q } σ H := fun σ e0 e3 e4 => by
      refine ⟨_, e0, _, e3, _, rfl, _, e3, _, e4, _, _, rfl, rfl, _, rfl, p, _, rfl, hS, fun r hr' => ?_⟩
      refine ⟨_, e3, _, e4, _, _, rfl, rfl, (by show 2 ≤ sizeLine; decide), fun t ht => ?_⟩
      have ec := cut_is hle
      have hrr : (upd H r (.lst (cutV (l.map V.int) (some ((first : Nat) : Int)) (some (((first + many : Nat)) : Int))))) r = some (.lst (((l.drop first).take many).map V.int)) := by rw [upd_same, ec]
      exact kk _ t r ((same_upd hr').trans (same_upd ht)) upd_same ((upd_ne (ne_of_none hrr ht)).trans hrr)
    rcases hc with ⟨e1, e2, e3⟩ | ⟨e1, e2, e3⟩
    · have ek : k = 2 := by omega
      subst ek
      rw [if_pos (by decide)]
      refine gv_set (gv_ix (gv_var rfl) (gv_var rfl) hS (atI_nat (int_at e2))) ?_
      refine gv_setL (gv_is (gv_add (gv_var rfl) gv_c) (show V.int (((i + 1 : Nat) : Int) + 1) = nV first from by rw [e3] <;> rfl)) ?_
      exact fin _ rfl rfl rfl
    · have ek : k ≠ 2 := by omega
      rw [if_neg (by rw [decide_eq_true_eq]; intro z; have := V.int.inj z; omega)]
      have em : n0 = many := by
        rw [show ((k : Nat) : Int).toNat = k from rfl, hn0] at e3
        exact Option.some.inj e3
      subst em e2
      exact fin _ rfl rfl rfl
/-! ### answers -/
theorem scAns : FnScope ["calls", "desk", "found", "at", "kind", "numbers", "answer"] ["calls"] (defScope sAns) := ⟨rfl, rfl, rfl, by decide +kernel, rfl, by decide +kernel, by decide +kernel⟩
theorem ok_ans {f : Addr} {fd : FuncData} (F : Fun K "answers" "answers" sAns f fd) (T : Txt K mg CB CD CF aH) (M : Mkr P w K mg base CX0 3 CD ["self"] (spDInit CB CD)) (D : Def P w K mg base CX0 1 "numbers_at" ["calls", "at"] (spAt K))
    (MA : Mth P w K mg base CX0 7 CD "answer" ["self", "kind", "numbers"] (spAnswer K CB CD)) : FnOk P w K mg base CX0 8 f fd ["calls"] (spAns K) := by
  obtain ⟨fD, fdD, mD, GD, bD⟩ := M
  obtain ⟨fN, fdN, gN, kN, GN, bN⟩ := D
  obtain ⟨fA, fdA, mA, GA, bA⟩ := MA
  refine F.ok scAns (fun vs H Q E h => ?_) (fun cdv A outer s H vs Q E hr h => ?_)
  · obtain ⟨a, ns, rfl, _⟩ := h
    rfl
  · obtain ⟨a, ns, rfl, hS, hpos, hask, k⟩ := h
    have hr4 : Room 4 _ := hr.mono (by decide)
    have hr1 : Room 1 _ := hr.mono (by decide)
    obtain ⟨R0, hlen⟩ := rest_start hask
    refine ⟨_, pss_cons (ps_set (i := 1) scAns.nd rfl (Or.inl rfl) (pe_make0 mD GD hr4 rfl T.gD bD .nil pass0))
      (pss_cons (ps_set (i := 2) scAns.nd rfl (Or.inl rfl) (pe_lst pa_nil))
      (pss_cons (ps_set (i := 3) scAns.nd rfl (Or.inl rfl) pe_int)
      (pss_cons (ps_while PassesOwn.never (pt_cmpR op_lt (pv 3) (pe_callB call_len_seq (by rfl) T.mLen PySem.boot_len (pa_cons (pv 0) pa_nil)) (nomark _))
        (pss_cons (ps_set (i := 4) scAns.nd rfl (Or.inl rfl) (pe_ix ix_list (pv 0) (pv 3) (fun _ _ => rfl)))
        (pss_cons (ps_asg (pe_call GN hr1 rfl gN kN bN .nil pass0 (pa_cons (pv 0) (pa_cons (pv 3) pa_nil))) (pg_tup rfl (pgs_cons (pg_name (i := 5) scAns.nd rfl (Or.inl rfl)) (pgs_cons (pg_name (i := 3) scAns.nd rfl (Or.inl rfl)) pgs_nil))))
        (pss_cons (ps_set (i := 6) scAns.nd rfl (Or.inl rfl) (pe_meth (pv 1) T.clD mA GA hr bA .nil pass0 (pa_cons (pv 4) (pa_cons (pv 5) pa_nil))))
        (pss_cons (ps_expr (pe_bm PySem.F.plainAttrs_list PySem.F.slot_list_append PySem.F.type_list_append mt_append (pv 2) (pa_cons (pe_callB call_len_seq (by rfl) T.mLen PySem.boot_len (pa_cons (pv 6) pa_nil)) pa_nil)))
        (pss_one (ps_expr (pe_bm PySem.F.plainAttrs_list PySem.F.slot_list_extend PySem.F.type_list_extend mt_extend (pv 2) (pa_cons (pv 6) pa_nil)))))))))
      (pss_one (ps_ret (pv 2)))))), ?_⟩
    -- desk = Desk()
    intro x dx nx ndx ne
    refine ⟨x, dx, rfl, upd_same, fun H1 hD1 kp => ⟨rfl, ?_⟩⟩
    have s1 : Same H H1 := Same.made nx ndx kp
    -- found = []; at = 0
    refine ⟨Nat.zero_le _, fun fo hfo => ?_⟩
    have s2 : Same H1 (upd H1 fo (.lst [])) := same_upd hfo
    refine gv_set gv_c ?_
    refine ⟨fun m σ H' => ∃ (i : Nat) (b : Si95.Balloon) (done out : List Int) (y4 y5 y6 : Option V), σ = [some (.ref a), some (.ref x), some (.ref fo), some (nV i), y4, y5, y6] ∧ m = ns.length - i ∧ Stay H H' a ∧ DeskAt CB CD H' x b ∧ Good b ∧
        H' fo = some (.lst (done.map V.int)) ∧ Rest ns i b out ∧ done ++ out = PySi95.answers ns,
      ⟨_, 0, Si95.init, [], PySi95.answers ns, none, none, none, rfl, rfl, fun o e _ => (s1.trans s2) _ _ e, hD1.same s2, good_init, upd_same, R0, rfl⟩, fun m σ H' hW => ?_⟩
    obtain ⟨i, b, done, out, y4, y5, y6, rfl, rfl, hY, hD, G, hF, R, ed⟩ := hW
    have hA := hY.seq hS
    refine gv_testT (gv_lt (gv_var rfl) (gv_is (gv_cb (ga_cons (gv_var rfl) ga_nil) (fun Q q => ⟨a, _, rfl, .inl hA, q⟩)) (show V.int ((ns.map V.int).length : Int) = V.int (ns.length : Int) by rw [List.length_map]))) ?_
    by_cases c : i < ns.length
    · rw [if_pos (decide_eq_true (show (i : Int) < (ns.length : Int) by omega))]
      obtain ⟨kind, nums, q, first, many, out', hk, hR, hc, hle, hn, eo, R'⟩ := rest_step hpos R c
      obtain ⟨kk, rfl, hk6⟩ := kind_of hR
      have hij : i < first + many := by
        rcases hc with ⟨_, _, e⟩ | ⟨_, e, _⟩ <;> omega
      refine ⟨fun σ' H'' => ∃ (i' : Nat) (b : Si95.Balloon) (done out : List Int) (y4 y5 y6 : Option V), σ' = [some (.ref a), some (.ref x), some (.ref fo), some (nV i'), y4, y5, y6] ∧ ns.length - i' < ns.length - i ∧ Stay H H'' a ∧ DeskAt CB CD H'' x b ∧ Good b ∧
        H'' fo = some (.lst (done.map V.int)) ∧ Rest ns i' b out ∧ done ++ out = PySi95.answers ns, fun σ' H'' hN => ?_, ?_⟩
      · obtain ⟨i', b', done', out2, z4, z5, z6, e1, e2, e3, e4, e5, e6, e7, e8⟩ := hN
        exact ⟨_, e2, i', b', done', out2, z4, z5, z6, e1, rfl, e3, e4, e5, e6, e7, e8⟩
      · refine gv_set (gv_ix (gv_var rfl) (gv_var rfl) hA (atI_nat (int_at hk))) ?_
        refine ⟨_, rfl, _, rfl, a, ns, i, kk, first, many, rfl, hA, hk, hk6, hc, hle, fun H2 t r s3 ht hr' => ?_⟩
        rw [hn] at hr'
        refine ⟨t, _, rfl, SqT.of ht, rfl, _, _, rfl, _, _, rfl, rfl, ?_⟩
        have hD2 := hD.same s3
        obtain ⟨dD, ab, hd, _⟩ := id hD2
        refine ⟨_, rfl, x, dD, _, rfl, hd, dF_no ab (by decide +kernel), _, rfl, _, rfl, x, r, b, kk, nums, q, rfl, hD2, G, hR, SqL.of hr', fun H3 p np hK hD3 hp => ?_⟩
        have hF2 := s3 _ _ hF
        have hF3 := hK.lst hF2
        have nfp : fo ≠ p := ne_of_none hF2 np
        -- found.append(len(answer))
        have elen : ((ans b q).map V.int).length = (ans b q).length := List.length_map ..
        have hl : done.length + 1 + (ans b q).length ≤ 10000000 := by
          have e := congrArg List.length ed
          rw [eo, List.length_append, List.length_cons, List.length_append] at e
          omega
        refine ⟨_, rfl, .inl ⟨rfl, _, SqL.of hF3⟩, _, rfl, p, _, rfl, .inl (SqL.of hp), fo, _, _, rfl, rfl, hF3, ?_, ?_⟩
        · rw [List.length_map]
          exact Nat.lt_of_le_of_lt (show done.length ≤ 10000000 by omega) (by decide)
        have hFp : (upd H3 fo (.lst (done.map V.int ++ [.int (((ans b q).map V.int).length : Int)]))) fo = some (.lst (done.map V.int ++ [.int (((ans b q).map V.int).length : Int)])) := upd_same
        -- found.extend(answer)
        refine ⟨_, rfl, .inl ⟨rfl, _, SqL.of hFp⟩, _, rfl, fo, p, _, _, rfl, rfl, hFp, (upd_ne nfp.symm).trans hp, ?_, ?_⟩
        · rw [List.length_append, List.length_map, List.length_map]
          show done.length + 1 + (ans b q).length ≤ sizeLine
          exact Nat.le_trans hl (by decide)
        obtain ⟨dD3, ab3, hd3, dB3, hB3⟩ := hD3
        have nxf : x ≠ fo := ne_of hd3 hF3 (fun z => by cases z)
        have nbf : ab3 ≠ fo := ne_of hB3 hF3 (fun z => by cases z)
        refine ⟨first + many, (Si95.step b q).1, done ++ ((ans b q).length : Int) :: ans b q, out', _, _, _, rfl, by omega, ?_, ⟨dD3, ab3, ?_, dB3, ?_⟩, good_step G q, ?_, R', ?_⟩
        · intro o e nI
          have naf : a ≠ fo := ne_of_none e (s1.free hfo)
          rw [upd_ne naf, upd_ne naf]
          exact hK _ _ (s3 _ _ (hY o e nI)) nI
        · rw [upd_ne nxf, upd_ne nxf]
          exact hd3
        · rw [upd_ne nbf, upd_ne nbf]
          exact hB3
        · rw [upd_same, elen, List.map_append, List.append_assoc] <;> rfl
        · rw [List.append_assoc, ← ed, eo] <;> rfl
    · rw [if_neg (by rw [decide_eq_true_eq]; omega)]
      have e := rest_end R (by omega)
      subst e
      rw [List.append_nil] at ed
      subst ed
      exact gv_ret (gv_var rfl) (k _ fo hF)
end
end Nb
namespace Nb
open PySem PySem.Spec PyProof.Rows L2
open PySem.W (Codec)
/-! ### what the top has written (printed by gen_end.py) -/
/-- an error of the class at S is what «except S» names -/
theorem exm_self {K : PySem.W.Frag} {S : Addr} (h1 : PySem.W.subIn K (.ref S) (.type "BaseException") = some true) (h2 : PySem.W.isClsIn K S = true) (h3 : PySem.W.typeIn K (.ref S) = some (.type "type")) (h4 : PySem.W.subIn K (.ref S) (.ref S) = some true) :
    PySem.W.exmOne K (.ref S) (.ref S) = some true := by
  have e1 : (PySem.W.subIn K (.ref S) (.type "BaseException") == some true) = true := by rw [h1] <;> rfl
  have e2 : ((PySem.W.clsIn K S).isSome && PySem.W.typeIn K (.ref S) == some (.type "type")) = true := by
    have h2' : (PySem.W.clsIn K S).isSome = true := h2
    rw [h2', h3] <;> rfl
  show (if (PySem.W.subIn K (.ref S) (.type "BaseException") == some true) = true then (if ((PySem.W.clsIn K S).isSome && PySem.W.typeIn K (.ref S) == some (.type "type")) = true then PySem.W.subIn K (.ref S) (.ref S) else none) else none) = some true
  rw [if_pos e1, if_pos e2]
  exact h4
theorem all_mk {P : Program} {w : World} {K : PySem.W.Frag} {h : Heap} {mg : Str → Option Value} {fa CB CD CF aH f1 f2 f3 f4 f5 f6 f7 f8 f9 f10 f11 f12 f13 f14 f15 f16 f17 f18 f19 f20 f21 f22 f23 f24 f25 : Addr} (X : K.In h) (G : h.Ns mainGlobals mg) (hfa : mg "answers" = some (.ref fa))
    {nm qn : Str} {N : Addr} {bs : List Value} {sn : List Str} {sub : List Value} {ab : Bool} {col : Option Bool} {dd : Option Addr} {m0 m1 m2 m3 m5 : Option Value}
    {od1 an1 od2 an2 od3 an3 od4 an4 od5 an5 od6 an6 od7 an7 od8 an8 od9 an9 od10 an10 od11 an11 od12 an12 od13 an13 od14 an14 od15 an15 od16 an16 od17 an17 od18 an18 od19 an19 od20 an20 od21 an21 od22 an22 od23 an23 od24 an24 od25 an25 oH : Option Addr} {sl1 sl2 sl3 sl4 sl5 sl6 sl7 sl8 sl9 sl10 sl11 sl12 sl13 sl14 sl15 sl16 sl17 sl18 sl19 sl20 sl21 sl22 sl23 sl24 sl25 sH : Array (Option Value)}
    {oc1 kV1 dc1 pm1 cd1 ct1 oc2 kV2 dc2 pm2 cd2 ct2 oc3 kV3 dc3 pm3 cd3 ct3 oc4 kV4 dc4 pm4 cd4 ct4 oc5 kV5 dc5 pm5 cd5 ct5 oc6 kV6 dc6 pm6 cd6 ct6 oc7 kV7 dc7 pm7 cd7 ct7 oc8 kV8 dc8 pm8 cd8 ct8 oc9 kV9 dc9 pm9 cd9 ct9 oc10 kV10 dc10 pm10 cd10 ct10 oc11 kV11 dc11 pm11 cd11 ct11 oc12 kV12 dc12 pm12 cd12 ct12 oc13 kV13 dc13 pm13 cd13 ct13 oc14 kV14 dc14 pm14 cd14 ct14 oc15 kV15 dc15 pm15 cd15 ct15 oc16 kV16 dc16 pm16 cd16 ct16 oc17 kV17 dc17 pm17 cd17 ct17 oc18 kV18 dc18 pm18 cd18 ct18 oc19 kV19 dc19 pm19 cd19 ct19 oc20 kV20 dc20 pm20 cd20 ct20 oc21 kV21 dc21 pm21 cd21 ct21 oc22 kV22 dc22 pm22 cd22 ct22 oc23 kV23 dc23 pm23 cd23 ct23 oc24 kV24 dc24 pm24 cd24 ct24 oc25 kV25 dc25 pm25 cd25 ct25 : Value}
    {tk0 tk1 tk2 tk3 tk4 tk5 tk6 tk7 tk8 tk9 tk10 tk11 : Tok} {itsH : Array Value} {nH : Nat}
    (gCB : PySem.W.nsIn K mainGlobals "Balloon" = some (some (.ref CB)))
    (gCD : PySem.W.nsIn K mainGlobals "Desk" = some (some (.ref CD)))
    (gCF : PySem.W.nsIn K mainGlobals "Refused" = some (some (.ref CF)))
    (xL : K.lookup CF = some (excClassObj nm qn CF N bs [.type "ValueError", .type "Exception", .type "BaseException", .type "object"] true sn sub ab col dd m0 m1 m2 m3 m5 "ValueError.__new__"))
    (xsa : PySem.W.findIn K (.ref CF) "__setattr__" = some (some (.builtin "object.__setattr__")))
    (xga : PySem.W.findIn K (.ref CF) "__getattribute__" = some (some (.builtin "BaseException.__getattribute__")))
    (xgg : PySem.W.findIn K (.ref CF) "__getattr__" = some none)
    (xnn : PySem.W.findIn K (.ref CF) "numbers" = some none)
    (xk : PySem.W.keepIn K (.ref CF) = true)
    (xe : PySem.W.subIn K (.ref CF) (.type "BaseException") = some true)
    (xt : PySem.W.typeIn K (.ref CF) = some (.type "type"))
    (xh : PySem.W.hasDictIn K CF = true)
    (xi : PySem.W.isClsIn K CF = true)
    (xs : PySem.W.subIn K (.ref CF) (.ref CF) = some true)
    (vV : PySem.W.findCls K (.type "ValueError") (.type "type") "__init__" = some (.val (.builtin "ValueError.__init__")))
    (a1 : PySem.W.findIn K (.ref CB) "__init__" = some (some (.ref f1)))
    (i1 : PySem.W.isFn K (.ref f1) = true)
    (l1 : K.lookup f1 = some ⟨oc1, od1, .func (PySem.W.fnOf "__init__" "Balloon.__init__" (defArgs sBInit) (defBody sBInit) (defScope sBInit) .none kV1 dc1 pm1 an1 cd1 ct1), sl1⟩)
    (c1 : PySem.W.codeIn K cd1 "Balloon.__init__" = true)
    (k1 : PySem.W.keepIn K (.ref f1) = true)
    (a2 : PySem.W.findIn K (.ref CB) "spare" = some (some (.ref f2)))
    (i2 : PySem.W.isFn K (.ref f2) = true)
    (l2 : K.lookup f2 = some ⟨oc2, od2, .func (PySem.W.fnOf "spare" "Balloon.spare" (defArgs sSpare) (defBody sSpare) (defScope sSpare) .none kV2 dc2 pm2 an2 cd2 ct2), sl2⟩)
    (c2 : PySem.W.codeIn K cd2 "Balloon.spare" = true)
    (k2 : PySem.W.keepIn K (.ref f2) = true)
    (a3 : PySem.W.findIn K (.ref CB) "is_lifted" = some (some (.ref f3)))
    (i3 : PySem.W.isFn K (.ref f3) = true)
    (l3 : K.lookup f3 = some ⟨oc3, od3, .func (PySem.W.fnOf "is_lifted" "Balloon.is_lifted" (defArgs sLifted) (defBody sLifted) (defScope sLifted) .none kV3 dc3 pm3 an3 cd3 ct3), sl3⟩)
    (c3 : PySem.W.codeIn K cd3 "Balloon.is_lifted" = true)
    (k3 : PySem.W.keepIn K (.ref f3) = true)
    (a4 : PySem.W.findIn K (.ref CB) "left_by_night" = some (some (.ref f4)))
    (i4 : PySem.W.isFn K (.ref f4) = true)
    (l4 : K.lookup f4 = some ⟨oc4, od4, .func (PySem.W.fnOf "left_by_night" "Balloon.left_by_night" (defArgs sLeft) (defBody sLeft) (defScope sLeft) .none kV4 dc4 pm4 an4 cd4 ct4), sl4⟩)
    (c4 : PySem.W.codeIn K cd4 "Balloon.left_by_night" = true)
    (k4 : PySem.W.keepIn K (.ref f4) = true)
    (a5 : PySem.W.findIn K (.ref CB) "stays_up" = some (some (.ref f5)))
    (i5 : PySem.W.isFn K (.ref f5) = true)
    (l5 : K.lookup f5 = some ⟨oc5, od5, .func (PySem.W.fnOf "stays_up" "Balloon.stays_up" (defArgs sStays) (defBody sStays) (defScope sStays) .none kV5 dc5 pm5 an5 cd5 ct5), sl5⟩)
    (c5 : PySem.W.codeIn K cd5 "Balloon.stays_up" = true)
    (k5 : PySem.W.keepIn K (.ref f5) = true)
    (a6 : PySem.W.findIn K (.ref CB) "least_thrown" = some (some (.ref f6)))
    (i6 : PySem.W.isFn K (.ref f6) = true)
    (l6 : K.lookup f6 = some ⟨oc6, od6, .func (PySem.W.fnOf "least_thrown" "Balloon.least_thrown" (defArgs sThrown) (defBody sThrown) (defScope sThrown) .none kV6 dc6 pm6 an6 cd6 ct6), sl6⟩)
    (c6 : PySem.W.codeIn K cd6 "Balloon.least_thrown" = true)
    (k6 : PySem.W.keepIn K (.ref f6) = true)
    (a7 : PySem.W.nsIn K mainGlobals "wrong_in" = some (some (.ref f7)))
    (l7 : K.lookup f7 = some ⟨oc7, od7, .func (PySem.W.fnOf "wrong_in" "wrong_in" (defArgs sWrong) (defBody sWrong) (defScope sWrong) .none kV7 dc7 pm7 an7 cd7 ct7), sl7⟩)
    (c7 : PySem.W.codeIn K cd7 "wrong_in" = true)
    (k7 : PySem.W.keepIn K (.ref f7) = true)
    (a8 : PySem.W.nsIn K mainGlobals "first_wrong" = some (some (.ref f8)))
    (l8 : K.lookup f8 = some ⟨oc8, od8, .func (PySem.W.fnOf "first_wrong" "first_wrong" (defArgs sFirst) (defBody sFirst) (defScope sFirst) .none kV8 dc8 pm8 an8 cd8 ct8), sl8⟩)
    (c8 : PySem.W.codeIn K cd8 "first_wrong" = true)
    (k8 : PySem.W.keepIn K (.ref f8) = true)
    (a9 : PySem.W.nsIn K mainGlobals "left_behind" = some (some (.ref f9)))
    (l9 : K.lookup f9 = some ⟨oc9, od9, .func (PySem.W.fnOf "left_behind" "left_behind" (defArgs sBehind) (defBody sBehind) (defScope sBehind) .none kV9 dc9 pm9 an9 cd9 ct9), sl9⟩)
    (c9 : PySem.W.codeIn K cd9 "left_behind" = true)
    (k9 : PySem.W.keepIn K (.ref f9) = true)
    (a10 : PySem.W.nsIn K mainGlobals "as_little" = some (some (.ref f10)))
    (l10 : K.lookup f10 = some ⟨oc10, od10, .func (PySem.W.fnOf "as_little" "as_little" (defArgs sLittle) (defBody sLittle) (defScope sLittle) .none kV10 dc10 pm10 an10 cd10 ct10), sl10⟩)
    (c10 : PySem.W.codeIn K cd10 "as_little" = true)
    (k10 : PySem.W.keepIn K (.ref f10) = true)
    (a11 : PySem.W.nsIn K mainGlobals "is_enough" = some (some (.ref f11)))
    (l11 : K.lookup f11 = some ⟨oc11, od11, .func (PySem.W.fnOf "is_enough" "is_enough" (defArgs sEnough) (defBody sEnough) (defScope sEnough) .none kV11 dc11 pm11 an11 cd11 ct11), sl11⟩)
    (c11 : PySem.W.codeIn K cd11 "is_enough" = true)
    (k11 : PySem.W.keepIn K (.ref f11) = true)
    (a12 : PySem.W.nsIn K mainGlobals "least_enough" = some (some (.ref f12)))
    (l12 : K.lookup f12 = some ⟨oc12, od12, .func (PySem.W.fnOf "least_enough" "least_enough" (defArgs sLeastE) (defBody sLeastE) (defScope sLeastE) .none kV12 dc12 pm12 an12 cd12 ct12), sl12⟩)
    (c12 : PySem.W.codeIn K cd12 "least_enough" = true)
    (k12 : PySem.W.keepIn K (.ref f12) = true)
    (a13 : PySem.W.findIn K (.ref CF) "__init__" = some (some (.ref f13)))
    (t13 : PySem.W.typeIn K (.ref f13) = some (.type "function"))
    (l13 : K.lookup f13 = some ⟨oc13, od13, .func (PySem.W.fnOf "__init__" "Refused.__init__" (defArgs sRInit) (defBody sRInit) (defScope sRInit) .none kV13 dc13 pm13 an13 cd13 ct13), sl13⟩)
    (c13 : PySem.W.codeIn K cd13 "Refused.__init__" = true)
    (k13 : PySem.W.keepIn K (.ref f13) = true)
    (a14 : PySem.W.nsIn K mainGlobals "must" = some (some (.ref f14)))
    (l14 : K.lookup f14 = some ⟨oc14, od14, .func (PySem.W.fnOf "must" "must" (defArgs sMust) (defBody sMust) (defScope sMust) .none kV14 dc14 pm14 an14 cd14 ct14), sl14⟩)
    (c14 : PySem.W.codeIn K cd14 "must" = true)
    (k14 : PySem.W.keepIn K (.ref f14) = true)
    (a15 : PySem.W.findIn K (.ref CD) "__init__" = some (some (.ref f15)))
    (i15 : PySem.W.isFn K (.ref f15) = true)
    (l15 : K.lookup f15 = some ⟨oc15, od15, .func (PySem.W.fnOf "__init__" "Desk.__init__" (defArgs sDInit) (defBody sDInit) (defScope sDInit) .none kV15 dc15 pm15 an15 cd15 ct15), sl15⟩)
    (c15 : PySem.W.codeIn K cd15 "Desk.__init__" = true)
    (k15 : PySem.W.keepIn K (.ref f15) = true)
    (a16 : PySem.W.findIn K (.ref CD) "begins" = some (some (.ref f16)))
    (i16 : PySem.W.isFn K (.ref f16) = true)
    (l16 : K.lookup f16 = some ⟨oc16, od16, .func (PySem.W.fnOf "begins" "Desk.begins" (defArgs sBegins) (defBody sBegins) (defScope sBegins) .none kV16 dc16 pm16 an16 cd16 ct16), sl16⟩)
    (c16 : PySem.W.codeIn K cd16 "Desk.begins" = true)
    (k16 : PySem.W.keepIn K (.ref f16) = true)
    (a17 : PySem.W.findIn K (.ref CD) "load" = some (some (.ref f17)))
    (i17 : PySem.W.isFn K (.ref f17) = true)
    (l17 : K.lookup f17 = some ⟨oc17, od17, .func (PySem.W.fnOf "load" "Desk.load" (defArgs sLoad) (defBody sLoad) (defScope sLoad) .none kV17 dc17 pm17 an17 cd17 ct17), sl17⟩)
    (c17 : PySem.W.codeIn K cd17 "Desk.load" = true)
    (k17 : PySem.W.keepIn K (.ref f17) = true)
    (a18 : PySem.W.findIn K (.ref CD) "check" = some (some (.ref f18)))
    (i18 : PySem.W.isFn K (.ref f18) = true)
    (l18 : K.lookup f18 = some ⟨oc18, od18, .func (PySem.W.fnOf "check" "Desk.check" (defArgs sCheck) (defBody sCheck) (defScope sCheck) .none kV18 dc18 pm18 an18 cd18 ct18), sl18⟩)
    (c18 : PySem.W.codeIn K cd18 "Desk.check" = true)
    (k18 : PySem.W.keepIn K (.ref f18) = true)
    (a19 : PySem.W.findIn K (.ref CD) "nights" = some (some (.ref f19)))
    (i19 : PySem.W.isFn K (.ref f19) = true)
    (l19 : K.lookup f19 = some ⟨oc19, od19, .func (PySem.W.fnOf "nights" "Desk.nights" (defArgs sNights) (defBody sNights) (defScope sNights) .none kV19 dc19 pm19 an19 cd19 ct19), sl19⟩)
    (c19 : PySem.W.codeIn K cd19 "Desk.nights" = true)
    (k19 : PySem.W.keepIn K (.ref f19) = true)
    (a20 : PySem.W.findIn K (.ref CD) "needs" = some (some (.ref f20)))
    (i20 : PySem.W.isFn K (.ref f20) = true)
    (l20 : K.lookup f20 = some ⟨oc20, od20, .func (PySem.W.fnOf "needs" "Desk.needs" (defArgs sNeeds) (defBody sNeeds) (defScope sNeeds) .none kV20 dc20 pm20 an20 cd20 ct20), sl20⟩)
    (c20 : PySem.W.codeIn K cd20 "Desk.needs" = true)
    (k20 : PySem.W.keepIn K (.ref f20) = true)
    (a21 : PySem.W.findIn K (.ref CD) "most" = some (some (.ref f21)))
    (i21 : PySem.W.isFn K (.ref f21) = true)
    (l21 : K.lookup f21 = some ⟨oc21, od21, .func (PySem.W.fnOf "most" "Desk.most" (defArgs sMost) (defBody sMost) (defScope sMost) .none kV21 dc21 pm21 an21 cd21 ct21), sl21⟩)
    (c21 : PySem.W.codeIn K cd21 "Desk.most" = true)
    (k21 : PySem.W.keepIn K (.ref f21) = true)
    (a22 : PySem.W.findIn K (.ref CD) "told" = some (some (.ref f22)))
    (i22 : PySem.W.isFn K (.ref f22) = true)
    (l22 : K.lookup f22 = some ⟨oc22, od22, .func (PySem.W.fnOf "told" "Desk.told" (defArgs sTold) (defBody sTold) (defScope sTold) .none kV22 dc22 pm22 an22 cd22 ct22), sl22⟩)
    (c22 : PySem.W.codeIn K cd22 "Desk.told" = true)
    (k22 : PySem.W.keepIn K (.ref f22) = true)
    (a23 : PySem.W.findIn K (.ref CD) "answer" = some (some (.ref f23)))
    (i23 : PySem.W.isFn K (.ref f23) = true)
    (l23 : K.lookup f23 = some ⟨oc23, od23, .func (PySem.W.fnOf "answer" "Desk.answer" (defArgs sAnswer) (defBody sAnswer) (defScope sAnswer) .none kV23 dc23 pm23 an23 cd23 ct23), sl23⟩)
    (c23 : PySem.W.codeIn K cd23 "Desk.answer" = true)
    (k23 : PySem.W.keepIn K (.ref f23) = true)
    (a24 : PySem.W.nsIn K mainGlobals "numbers_at" = some (some (.ref f24)))
    (l24 : K.lookup f24 = some ⟨oc24, od24, .func (PySem.W.fnOf "numbers_at" "numbers_at" (defArgs sAt) (defBody sAt) (defScope sAt) .none kV24 dc24 pm24 an24 cd24 ct24), sl24⟩)
    (c24 : PySem.W.codeIn K cd24 "numbers_at" = true)
    (k24 : PySem.W.keepIn K (.ref f24) = true)
    (a25 : PySem.W.nsIn K mainGlobals "answers" = some (some (.ref f25)))
    (l25 : K.lookup f25 = some ⟨oc25, od25, .func (PySem.W.fnOf "answers" "answers" (defArgs sAns) (defBody sAns) (defScope sAns) .none kV25 dc25 pm25 an25 cd25 ct25), sl25⟩)
    (c25 : PySem.W.codeIn K cd25 "answers" = true)
    (k25 : PySem.W.keepIn K (.ref f25) = true)
    (pgCB : PySem.W.plainGet K CB Str.empty = true)
    (hdCB : PySem.W.hasDictIn K CB = true)
    (poCB : PySem.W.plainOver K CB = true)
    (saCB : PySem.W.findIn K (.ref CB) "__setattr__" = some (some (.builtin "object.__setattr__")))
    (mkCB : PySem.W.makesIn K CB = true)
    (kcCB : PySem.W.keepIn K (.ref CB) = true)
    (pgCD : PySem.W.plainGet K CD Str.empty = true)
    (hdCD : PySem.W.hasDictIn K CD = true)
    (poCD : PySem.W.plainOver K CD = true)
    (saCD : PySem.W.findIn K (.ref CD) "__setattr__" = some (some (.builtin "object.__setattr__")))
    (mkCD : PySem.W.makesIn K CD = true)
    (kcCD : PySem.W.keepIn K (.ref CD) = true)
    (nW : PySem.W.findIn K (.ref CB) "weight" = some none)
    (nD : PySem.W.findIn K (.ref CB) "by_day" = some none)
    (nN : PySem.W.findIn K (.ref CB) "by_night" = some none)
    (nO : PySem.W.findIn K (.ref CB) "over" = some none)
    (nL : PySem.W.findIn K (.ref CB) "leak" = some none)
    (nG : PySem.W.findIn K (.ref CB) "gas" = some none)
    (nS : PySem.W.findIn K (.ref CB) "sand" = some none)
    (nB : PySem.W.findIn K (.ref CD) "balloon" = some none)
    (q0 : PySem.W.nsIn K mainGlobals "NO_SAND" = some (some (.int 1 tk0)))
    (q1 : PySem.W.nsIn K mainGlobals "COMES_DOWN" = some (some (.int 2 tk1)))
    (q2 : PySem.W.nsIn K mainGlobals "NOT_AS_TOLD" = some (some (.int (-1) tk2)))
    (q3 : PySem.W.nsIn K mainGlobals "NOT_LIFTED" = some (some (.int (-3) tk3)))
    (q4 : PySem.W.nsIn K mainGlobals "CANT_BE" = some (some (.int (-6) tk4)))
    (q5 : PySem.W.nsIn K mainGlobals "MOST_WEIGHT" = some (some (.int 10000 tk5)))
    (q6 : PySem.W.nsIn K mainGlobals "MOST_LIFT" = some (some (.int 100 tk6)))
    (q7 : PySem.W.nsIn K mainGlobals "MOST_OVER" = some (some (.int 10000 tk7)))
    (q8 : PySem.W.nsIn K mainGlobals "MOST_GAS" = some (some (.int 200 tk8)))
    (q9 : PySem.W.nsIn K mainGlobals "MOST_SAND" = some (some (.int 10000 tk9)))
    (q10 : PySem.W.nsIn K mainGlobals "MOST_NIGHTS" = some (some (.int 200 tk10)))
    (q11 : PySem.W.nsIn K mainGlobals "CHECK" = some (some (.int 2 tk11)))
    (z0 : PySem.W.nsIn K mainGlobals "ValueError" = some none)
    (z1 : PySem.W.nsIn K mainGlobals "min" = some none)
    (z2 : PySem.W.nsIn K mainGlobals "max" = some none)
    (z3 : PySem.W.nsIn K mainGlobals "len" = some none)
    (z4 : PySem.W.nsIn K mainGlobals "list" = some none)
    (z5 : PySem.W.nsIn K mainGlobals "enumerate" = some none)
    (gH : PySem.W.nsIn K mainGlobals "HOW_MANY_NUMBERS" = some (some (.ref aH)))
    (lH : K.lookup aH = some ⟨.type "tuple", oH, .seq itsH nH, sH⟩)
    (vH : Vals [.int 5, .int 2, .int 0, .int 0, .int 1, .int 0] itsH.toList)
    : ∃ fd : FuncData, (∀ (s : Shared) (us : List Value), us.length = (["calls"] : List Str).length → BindsTo s fd ⟨us, []⟩ ((["calls"] : List Str).zip us)) ∧ ∀ base : Heap, K.In base → base.Ns mainGlobals mg → FnOk P w K mg base CX0 8 fa fd ["calls"] (spAns K) := by
  have e := hfa.symm.trans (PySem.W.mg_of X G a25)
  cases e
  have T : Txt K mg CB CD CF aH :=
    { clB := ⟨pgCB, hdCB, poCB, saCB⟩, nW := nW, nD := nD, nN := nN, nO := nO, nL := nL, nG := nG, nS := nS, gB := PySem.W.mg_of X G gCB, clD := ⟨pgCD, hdCD, poCD, saCD⟩, nB := nB, gD := PySem.W.mg_of X G gCD, gF := PySem.W.mg_of X G gCF
      oF := ⟨⟨nm, qn, N, bs, _, sn, sub, ab, col, dd, m0, m1, m2, m3, m5, xL, by decide +kernel⟩, xsa, xe, xt, xk⟩, xF := ⟨xga, xgg, xe, xh⟩, nF := xnn, eF := exm_self xe xi xt xs, vV := vV
      mV := PySem.W.mg_none_of X G z0, mMin := PySem.W.mg_none_of X G z1, mMax := PySem.W.mg_none_of X G z2, mLen := PySem.W.mg_none_of X G z3, mList := PySem.W.mg_none_of X G z4, mEnum := PySem.W.mg_none_of X G z5
      cNS := ⟨_, PySem.W.mg_of X G q0⟩, cCD := ⟨_, PySem.W.mg_of X G q1⟩, cNT := ⟨_, PySem.W.mg_of X G q2⟩, cNL := ⟨_, PySem.W.mg_of X G q3⟩, cCB := ⟨_, PySem.W.mg_of X G q4⟩, cMW := ⟨_, PySem.W.mg_of X G q5⟩, cML := ⟨_, PySem.W.mg_of X G q6⟩, cMO := ⟨_, PySem.W.mg_of X G q7⟩, cMG := ⟨_, PySem.W.mg_of X G q8⟩, cMS := ⟨_, PySem.W.mg_of X G q9⟩, cMN := ⟨_, PySem.W.mg_of X G q10⟩, cCH := ⟨_, PySem.W.mg_of X G q11⟩
      gH := PySem.W.mg_of X G gH, tH := fun H => .inr ⟨_, itsH, nH, lH, rfl, rfl, (have z : itsH.toList.length = itsH.size := by simp
        Nat.le_trans (Nat.le_of_eq (z.symm.trans (Vals.length vH).symm)) (by decide)), vH⟩ }
  have F1 := fun_mk (st := sBInit) l1 c1 k1
  have F2 := fun_mk (st := sSpare) l2 c2 k2
  have F3 := fun_mk (st := sLifted) l3 c3 k3
  have F4 := fun_mk (st := sLeft) l4 c4 k4
  have F5 := fun_mk (st := sStays) l5 c5 k5
  have F6 := fun_mk (st := sThrown) l6 c6 k6
  have F7 := fun_mk (st := sWrong) l7 c7 k7
  have F8 := fun_mk (st := sFirst) l8 c8 k8
  have F9 := fun_mk (st := sBehind) l9 c9 k9
  have F10 := fun_mk (st := sLittle) l10 c10 k10
  have F11 := fun_mk (st := sEnough) l11 c11 k11
  have F12 := fun_mk (st := sLeastE) l12 c12 k12
  have F13 := fun_mk (st := sRInit) l13 c13 k13
  have F14 := fun_mk (st := sMust) l14 c14 k14
  have F15 := fun_mk (st := sDInit) l15 c15 k15
  have F16 := fun_mk (st := sBegins) l16 c16 k16
  have F17 := fun_mk (st := sLoad) l17 c17 k17
  have F18 := fun_mk (st := sCheck) l18 c18 k18
  have F19 := fun_mk (st := sNights) l19 c19 k19
  have F20 := fun_mk (st := sNeeds) l20 c20 k20
  have F21 := fun_mk (st := sMost) l21 c21 k21
  have F22 := fun_mk (st := sTold) l22 c22 k22
  have F23 := fun_mk (st := sAnswer) l23 c23 k23
  have F24 := fun_mk (st := sAt) l24 c24 k24
  have F25 := fun_mk (st := sAns) l25 c25 k25
  have b1 := F1.binds (ps := ["self", "weight", "by_day", "by_night", "over", "leak"]) fun _ _ _ _ _ _ us hl => match us, hl with | [_, _, _, _, _, _], _ => rfl
  have b2 := F2.binds (ps := ["self"]) fun _ _ _ _ _ _ us hl => match us, hl with | [_], _ => rfl
  have b3 := F3.binds (ps := ["self"]) fun _ _ _ _ _ _ us hl => match us, hl with | [_], _ => rfl
  have b4 := F4.binds (ps := ["self", "gas", "sand"]) fun _ _ _ _ _ _ us hl => match us, hl with | [_, _, _], _ => rfl
  have b5 := F5.binds (ps := ["self", "gas", "sand"]) fun _ _ _ _ _ _ us hl => match us, hl with | [_, _, _], _ => rfl
  have b6 := F6.binds (ps := ["self", "gas", "sand"]) fun _ _ _ _ _ _ us hl => match us, hl with | [_, _, _], _ => rfl
  have b7 := F7.binds (ps := ["balloon", "gas", "sand", "thrown"]) fun _ _ _ _ _ _ us hl => match us, hl with | [_, _, _, _], _ => rfl
  have b8 := F8.binds (ps := ["balloon", "plan"]) fun _ _ _ _ _ _ us hl => match us, hl with | [_, _], _ => rfl
  have b9 := F9.binds (ps := ["balloon", "plan"]) fun _ _ _ _ _ _ us hl => match us, hl with | [_, _], _ => rfl
  have b10 := F10.binds (ps := ["balloon", "sand"]) fun _ _ _ _ _ _ us hl => match us, hl with | [_, _], _ => rfl
  have b11 := F11.binds (ps := ["balloon", "sand", "many"]) fun _ _ _ _ _ _ us hl => match us, hl with | [_, _, _], _ => rfl
  have b12 := F12.binds (ps := ["balloon", "many"]) fun _ _ _ _ _ _ us hl => match us, hl with | [_, _], _ => rfl
  have b13 := F13.binds (ps := ["self", "numbers"]) fun _ _ _ _ _ _ us hl => match us, hl with | [_, _], _ => rfl
  have b14 := F14.binds (ps := ["is_so", "number"]) fun _ _ _ _ _ _ us hl => match us, hl with | [_, _], _ => rfl
  have b15 := F15.binds (ps := ["self"]) fun _ _ _ _ _ _ us hl => match us, hl with | [_], _ => rfl
  have b16 := F16.binds (ps := ["self", "numbers"]) fun _ _ _ _ _ _ us hl => match us, hl with | [_, _], _ => rfl
  have b17 := F17.binds (ps := ["self", "gas", "sand"]) fun _ _ _ _ _ _ us hl => match us, hl with | [_, _, _], _ => rfl
  have b18 := F18.binds (ps := ["self", "plan"]) fun _ _ _ _ _ _ us hl => match us, hl with | [_, _], _ => rfl
  have b19 := F19.binds (ps := ["self"]) fun _ _ _ _ _ _ us hl => match us, hl with | [_], _ => rfl
  have b20 := F20.binds (ps := ["self", "many"]) fun _ _ _ _ _ _ us hl => match us, hl with | [_, _], _ => rfl
  have b21 := F21.binds (ps := ["self"]) fun _ _ _ _ _ _ us hl => match us, hl with | [_], _ => rfl
  have b22 := F22.binds (ps := ["self", "kind", "numbers"]) fun _ _ _ _ _ _ us hl => match us, hl with | [_, _, _], _ => rfl
  have b23 := F23.binds (ps := ["self", "kind", "numbers"]) fun _ _ _ _ _ _ us hl => match us, hl with | [_, _, _], _ => rfl
  have b24 := F24.binds (ps := ["calls", "at"]) fun _ _ _ _ _ _ us hl => match us, hl with | [_, _], _ => rfl
  exact ⟨PySem.W.fnOf "answers" "answers" (defArgs sAns) (defBody sAns) (defScope sAns) .none kV25 dc25 pm25 an25 cd25 ct25, fun s us hu => match us, hu with | [_], _ => .of_eq rfl, fun base _ _ => by
    have B1 := Mkr.mk (C := CB) ⟨_, _, ⟨mkCB, a1, i1, kcCB⟩, ok_binit (P := P) (w := w) (base := base) F1 T, b1⟩
    have M2 := Mth.mk (C := CB) ⟨_, _, ⟨a2, i2, k2⟩, ok_spare (P := P) (w := w) (base := base) F2 T, b2⟩
    have M3 := Mth.mk (C := CB) ⟨_, _, ⟨a3, i3, k3⟩, ok_lifted F3 T M2, b3⟩
    have M4 := Mth.mk (C := CB) ⟨_, _, ⟨a4, i4, k4⟩, ok_left (P := P) (w := w) (base := base) F4 T, b4⟩
    have M5 := Mth.mk (C := CB) ⟨_, _, ⟨a5, i5, k5⟩, ok_stays (P := P) (w := w) (base := base) F5 T, b5⟩
    have M6 := Mth.mk (C := CB) ⟨_, _, ⟨a6, i6, k6⟩, ok_thrown (P := P) (w := w) (base := base) F6 T, b6⟩
    have D7 := Def.mk (x := "wrong_in") ⟨_, _, PySem.W.mg_of X G a7, k7, ok_wrong F7 T M5, b7⟩
    have D8 := Def.mk (x := "first_wrong") ⟨_, _, PySem.W.mg_of X G a8, k8, ok_first F8 T M4 D7, b8⟩
    have D9 := Def.mk (x := "left_behind") ⟨_, _, PySem.W.mg_of X G a9, k9, ok_behind F9 T M4, b9⟩
    have D10 := Def.mk (x := "as_little") ⟨_, _, PySem.W.mg_of X G a10, k10, ok_little F10 T M4 M5 M6, b10⟩
    have D11 := Def.mk (x := "is_enough") ⟨_, _, PySem.W.mg_of X G a11, k11, ok_enough F11 T D10, b11⟩
    have D12 := Def.mk (x := "least_enough") ⟨_, _, PySem.W.mg_of X G a12, k12, ok_leastE F12 T M2 D11, b12⟩
    have R := RMk.mk ⟨_, _, a13, t13, ok_rinit (P := P) (w := w) (base := base) F13 T, b13⟩
    have D14 := Def.mk (x := "must") ⟨_, _, PySem.W.mg_of X G a14, k14, ok_must F14 T R, b14⟩
    have B15 := Mkr.mk (C := CD) ⟨_, _, ⟨mkCD, a15, i15, kcCD⟩, ok_dinit F15 T B1, b15⟩
    have M16 := Mth.mk (C := CD) ⟨_, _, ⟨a16, i16, k16⟩, ok_begins F16 T B1 D14, b16⟩
    have M17 := Mth.mk (C := CD) ⟨_, _, ⟨a17, i17, k17⟩, ok_load (CB := CB) F17 T D14, b17⟩
    have M18 := Mth.mk (C := CD) ⟨_, _, ⟨a18, i18, k18⟩, ok_check F18 T R D14 M3 D8 D9, b18⟩
    have M19 := Mth.mk (C := CD) ⟨_, _, ⟨a19, i19, k19⟩, ok_nights F19 T D14 M3 D10, b19⟩
    have M20 := Mth.mk (C := CD) ⟨_, _, ⟨a20, i20, k20⟩, ok_needs F20 T D14 M2 D11 D12, b20⟩
    have M21 := Mth.mk (C := CD) ⟨_, _, ⟨a21, i21, k21⟩, ok_most F21 T D14 M2 D10, b21⟩
    have M22 := Mth.mk (C := CD) ⟨_, _, ⟨a22, i22, k22⟩, ok_told F22 T M16 M17 M18 M19 M20 M21, b22⟩
    have M23 := Mth.mk (C := CD) ⟨_, _, ⟨a23, i23, k23⟩, ok_answer F23 T M22, b23⟩
    have D24 := Def.mk (x := "numbers_at") ⟨_, _, PySem.W.mg_of X G a24, k24, ok_at (P := P) (w := w) (base := base) F24 T, b24⟩
    exact ok_ans F25 T B15 D24 M23⟩
end Nb
open PySem PySem.W PyProof.Rows
set_option maxRecDepth 100000 in
set_option maxHeartbeats 8000000 in
theorem PySem.Challenge.cw_nightballoons_s01_answers_holds : PySem.Challenge.rw_nightballoons_s01_answers.Holds := by
  w_on; k_headS; (case hw => exact ⟨[.list [.int 3]], by decide +kernel, by decide +kernel⟩)
  k_fillS
  refine L2.walk_specK (r := PySem.Challenge.rw_nightballoons_s01_answers) (k := 8) (CX := L2.CX0) (ps := ["calls"]) (sp := Nb.spAns) (by decide +kernel) rfl rfl ⟨rfl, by decide, by decide⟩ (fun w h Y => PySem.W.kIn_of Y) ?F ?S (fun _ _ _ _ z => z)
  case F =>
    intro w mg fa h Y KX G hmg
    refine' Nb.all_mk KX G hmg ?gCB ?gCD ?gCF ?xL ?xsa ?xga ?xgg ?xnn ?xk ?xe ?xt ?xh ?xi ?xs ?vV ?a1 ?i1 ?l1 ?c1 ?k1 ?a2 ?i2 ?l2 ?c2 ?k2 ?a3 ?i3 ?l3 ?c3 ?k3 ?a4 ?i4 ?l4 ?c4 ?k4 ?a5 ?i5 ?l5 ?c5 ?k5 ?a6 ?i6 ?l6 ?c6 ?k6 ?a7 ?l7 ?c7 ?k7 ?a8 ?l8 ?c8 ?k8 ?a9 ?l9 ?c9 ?k9 ?a10 ?l10 ?c10 ?k10 ?a11 ?l11 ?c11 ?k11 ?a12 ?l12 ?c12 ?k12 ?a13 ?t13 ?l13 ?c13 ?k13 ?a14 ?l14 ?c14 ?k14 ?a15 ?i15 ?l15 ?c15 ?k15 ?a16 ?i16 ?l16 ?c16 ?k16 ?a17 ?i17 ?l17 ?c17 ?k17 ?a18 ?i18 ?l18 ?c18 ?k18 ?a19 ?i19 ?l19 ?c19 ?k19 ?a20 ?i20 ?l20 ?c20 ?k20 ?a21 ?i21 ?l21 ?c21 ?k21 ?a22 ?i22 ?l22 ?c22 ?k22 ?a23 ?i23 ?l23 ?c23 ?k23 ?a24 ?l24 ?c24 ?k24 ?a25 ?l25 ?c25 ?k25 ?pgCB ?hdCB ?poCB ?saCB ?mkCB ?kcCB ?pgCD ?hdCD ?poCD ?saCD ?mkCD ?kcCD ?nW ?nD ?nN ?nO ?nL ?nG ?nS ?nB ?q0 ?q1 ?q2 ?q3 ?q4 ?q5 ?q6 ?q7 ?q8 ?q9 ?q10 ?q11 ?z0 ?z1 ?z2 ?z3 ?z4 ?z5 ?gH ?lH ?vH
    (case gCB => k_is)
    (case gCD => k_is)
    (case gCF => k_is)
    (case xL => k_is)
    (case xsa => k_is)
    (case xga => k_is)
    (case xgg => k_is)
    (case xnn => k_is)
    (case xk => k_is)
    (case xe => k_is)
    (case xt => k_is)
    (case xh => k_is)
    (case xi => k_is)
    (case xs => first | rfl | k_is)
    (case vV => first | rfl | k_is | decide +kernel)
    (case a1 => k_is)
    (case i1 => k_is)
    (case l1 => k_is)
    (case c1 => k_is)
    (case k1 => k_is)
    (case a2 => k_is)
    (case i2 => k_is)
    (case l2 => k_is)
    (case c2 => k_is)
    (case k2 => k_is)
    (case a3 => k_is)
    (case i3 => k_is)
    (case l3 => k_is)
    (case c3 => k_is)
    (case k3 => k_is)
    (case a4 => k_is)
    (case i4 => k_is)
    (case l4 => k_is)
    (case c4 => k_is)
    (case k4 => k_is)
    (case a5 => k_is)
    (case i5 => k_is)
    (case l5 => k_is)
    (case c5 => k_is)
    (case k5 => k_is)
    (case a6 => k_is)
    (case i6 => k_is)
    (case l6 => k_is)
    (case c6 => k_is)
    (case k6 => k_is)
    (case a7 => k_is)
    (case l7 => k_is)
    (case c7 => k_is)
    (case k7 => k_is)
    (case a8 => k_is)
    (case l8 => k_is)
    (case c8 => k_is)
    (case k8 => k_is)
    (case a9 => k_is)
    (case l9 => k_is)
    (case c9 => k_is)
    (case k9 => k_is)
    (case a10 => k_is)
    (case l10 => k_is)
    (case c10 => k_is)
    (case k10 => k_is)
    (case a11 => k_is)
    (case l11 => k_is)
    (case c11 => k_is)
    (case k11 => k_is)
    (case a12 => k_is)
    (case l12 => k_is)
    (case c12 => k_is)
    (case k12 => k_is)
    (case a13 => k_is)
    (case t13 => k_is)
    (case l13 => k_is)
    (case c13 => k_is)
    (case k13 => k_is)
    (case a14 => k_is)
    (case l14 => k_is)
    (case c14 => k_is)
    (case k14 => k_is)
    (case a15 => k_is)
    (case i15 => k_is)
    (case l15 => k_is)
    (case c15 => k_is)
    (case k15 => k_is)
    (case a16 => k_is)
    (case i16 => k_is)
    (case l16 => k_is)
    (case c16 => k_is)
    (case k16 => k_is)
    (case a17 => k_is)
    (case i17 => k_is)
    (case l17 => k_is)
    (case c17 => k_is)
    (case k17 => k_is)
    (case a18 => k_is)
    (case i18 => k_is)
    (case l18 => k_is)
    (case c18 => k_is)
    (case k18 => k_is)
    (case a19 => k_is)
    (case i19 => k_is)
    (case l19 => k_is)
    (case c19 => k_is)
    (case k19 => k_is)
    (case a20 => k_is)
    (case i20 => k_is)
    (case l20 => k_is)
    (case c20 => k_is)
    (case k20 => k_is)
    (case a21 => k_is)
    (case i21 => k_is)
    (case l21 => k_is)
    (case c21 => k_is)
    (case k21 => k_is)
    (case a22 => k_is)
    (case i22 => k_is)
    (case l22 => k_is)
    (case c22 => k_is)
    (case k22 => k_is)
    (case a23 => k_is)
    (case i23 => k_is)
    (case l23 => k_is)
    (case c23 => k_is)
    (case k23 => k_is)
    (case a24 => k_is)
    (case l24 => k_is)
    (case c24 => k_is)
    (case k24 => k_is)
    (case a25 => k_is)
    (case l25 => k_is)
    (case c25 => k_is)
    (case k25 => k_is)
    (case pgCB => k_is)
    (case hdCB => k_is)
    (case poCB => k_is)
    (case saCB => k_is)
    (case mkCB => k_is)
    (case kcCB => k_is)
    (case pgCD => k_is)
    (case hdCD => k_is)
    (case poCD => k_is)
    (case saCD => k_is)
    (case mkCD => k_is)
    (case kcCD => k_is)
    (case nW => k_is)
    (case nD => k_is)
    (case nN => k_is)
    (case nO => k_is)
    (case nL => k_is)
    (case nG => k_is)
    (case nS => k_is)
    (case nB => k_is)
    (case q0 => k_is)
    (case q1 => k_is)
    (case q2 => k_is)
    (case q3 => k_is)
    (case q4 => k_is)
    (case q5 => k_is)
    (case q6 => k_is)
    (case q7 => k_is)
    (case q8 => k_is)
    (case q9 => k_is)
    (case q10 => k_is)
    (case q11 => k_is)
    (case z0 => k_is)
    (case z1 => k_is)
    (case z2 => k_is)
    (case z3 => k_is)
    (case z4 => k_is)
    (case z5 => k_is)
    (case gH => k_is)
    (case lH => k_is)
    (case vH => exact .cons ⟨_, rfl⟩ (.cons ⟨_, rfl⟩ (.cons ⟨_, rfl⟩ (.cons ⟨_, rfl⟩ (.cons ⟨_, rfl⟩ (.cons ⟨_, rfl⟩ .nil))))))
  case S =>
    intro K H xs a hO hwi hask hx
    cases hx with
    | cons h1 h2 =>
      cases h2
      cases h1 with
      | lst hs ha =>
        have e := L2.ints_dw a.1 _ ha
        subst e
        have q : ((Codec.inLen 0 3000 a.1 && a.1.all (Codec.inInt 0 4294967295)) && true) = true := hwi
        rw [Bool.and_eq_true, Bool.and_eq_true] at q
        refine ⟨_, a.1, rfl, hs, fun x hx => ?_, hask, fun H' p hp => .lst (L2.SqL.of hp) (L2.dw_ints _)⟩
        have z := List.all_eq_true.mp q.1.2 x hx
        exact (Codec.inInt_iff.mp z).1
#print axioms PySem.Challenge.cw_nightballoons_s01_answers_holds
