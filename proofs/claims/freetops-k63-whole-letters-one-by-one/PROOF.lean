import PyProof.Rows.All
import Wide.All
import OpenK.AllK
import Wide.FinOn
import HandS.ForMost
import HandS.IsInst
import HandS.TupAny
import HandS.TupMul
import HandS.Zip
import HandS.RevRange
import HandS.Flow
import HandS.Words
import HandS.WordsList
import HandS.Star
import HandS.Property
import HandS.MakeKw
import HandS.MakeKwOnly
import HandS.More
import KE.GoesEnum
import KE.KTupSum
import HandS.Head0
import HandS.Head1
import HandS.Head2
import HandS.HeadEnd
import HandS.HeadHook1
import HandS.HeadHook2
import HandS.Codes
import HandS.Base
import HandS.GenList
import HandS.Defaults
import HandS.OwnEq
import KE.KStateDown
import Lean
import HandS.Ends
import HandS.WordsExc
import PySem.Challenge.RW_freetops_k63_whole_letters_one_by_one
set_option Elab.async false
set_option linter.all false
set_option maxRecDepth 100000
/-! Plain mathematics: sums, gaps, spans of shifted rows, one step of the base. -/
namespace FTM
/-- the sum of f 0, .., f (n - 1) -/
def sumTo : Nat → (Nat → Int) → Int
  | 0, _ => 0
  | n + 1, f => sumTo n f + f n
theorem sumTo_congr {f g : Nat → Int} : ∀ n, (∀ a, a < n → f a = g a) → sumTo n f = sumTo n g
  | 0, _ => rfl
  | n + 1, h => by
    show sumTo n f + f n = sumTo n g + g n
    rw [sumTo_congr n fun a ha => h a (by omega), h n (by omega)]
theorem sumTo_left (f : Nat → Int) : ∀ n, sumTo (n + 1) f = f 0 + sumTo n fun a => f (a + 1)
  | 0 => by simp [sumTo]
  | n + 1 => by
    show sumTo (n + 1) f + f (n + 1) = _
    rw [sumTo_left f n]
    show _ = f 0 + (sumTo n (fun a => f (a + 1)) + f (n + 1))
    omega
theorem sumTo_zero {f : Nat → Int} : ∀ n, (∀ a, a < n → f a = 0) → sumTo n f = 0
  | 0, _ => rfl
  | n + 1, h => by
    show sumTo n f + f n = 0
    rw [sumTo_zero n fun a ha => h a (by omega), h n (by omega)]
    rfl
theorem sumTo_dvd {p : Int} {f : Nat → Int} : ∀ n, (∀ a, a < n → p ∣ f a) → p ∣ sumTo n f
  | 0, _ => Int.dvd_zero p
  | n + 1, h => Int.dvd_add (sumTo_dvd n fun a ha => h a (by omega)) (h n (by omega))
theorem sumTo_add (f g : Nat → Int) : ∀ n, sumTo n (fun a => f a + g a) = sumTo n f + sumTo n g
  | 0 => rfl
  | n + 1 => by
    show sumTo n (fun a => f a + g a) + (f n + g n) = sumTo n f + f n + (sumTo n g + g n)
    rw [sumTo_add f g n]
    omega
theorem sumTo_sub (f g : Nat → Int) : ∀ n, sumTo n (fun a => f a - g a) = sumTo n f - sumTo n g
  | 0 => rfl
  | n + 1 => by
    show sumTo n (fun a => f a - g a) + (f n - g n) = sumTo n f + f n - (sumTo n g + g n)
    rw [sumTo_sub f g n]
    omega
theorem sumTo_mul (c : Int) (f : Nat → Int) : ∀ n, sumTo n (fun a => c * f a) = c * sumTo n f
  | 0 => by simp [sumTo]
  | n + 1 => by
    show sumTo n (fun a => c * f a) + c * f n = c * (sumTo n f + f n)
    rw [sumTo_mul c f n, Int.mul_add]
/-- a longer sum whose further terms are divided -/
theorem sumTo_more {p : Int} {f : Nat → Int} {m : Nat} : ∀ n, m ≤ n → (∀ a, m ≤ a → a < n → p ∣ f a) → p ∣ sumTo n f - sumTo m f
  | 0, h, _ => by
    have : m = 0 := by omega
    subst this
    exact ⟨0, by simp⟩
  | n + 1, h, hf => by
    by_cases e : m = n + 1
    · subst e
      exact ⟨0, by simp⟩
    · have h1 := sumTo_more n (by omega) fun a h1 h2 => hf a h1 (by omega)
      have h2 := hf n (by omega) (by omega)
      have e2 : sumTo (n + 1) f - sumTo m f = (sumTo n f - sumTo m f) + f n := by
        show sumTo n f + f n - sumTo m f = _
        omega
      rw [e2]
      exact Int.dvd_add h1 h2

/-! ### vectors: place, degree -/
abbrev Vec := Nat → Nat → Int
/-- x ** k times -/
def sh (k : Nat) (r : Vec) : Vec := fun i d => if d < k then 0 else r i (d - k)
theorem sh_zero (r : Vec) : sh 0 r = r := by
  funext i d
  simp [sh]
theorem sh_sh (k : Nat) (r : Vec) : sh k (sh 1 r) = sh (k + 1) r := by
  funext i d
  unfold sh
  by_cases h1 : d < k
  · rw [if_pos h1, if_pos (by omega)]
  · rw [if_neg h1]
    by_cases h2 : d < k + 1
    · rw [if_pos h2, if_pos (by omega)]
    · rw [if_neg h2, if_neg (by omega)]
      congr 1
theorem sh_sh' (k : Nat) (r : Vec) : sh 1 (sh k r) = sh (k + 1) r := by
  funext i d
  unfold sh
  by_cases h1 : d < 1
  · rw [if_pos h1, if_pos (by omega)]
  · rw [if_neg h1]
    by_cases h2 : d < k + 1
    · rw [if_pos h2, if_pos (by omega)]
    · rw [if_neg h2, if_neg (by omega)]
      congr 1
      omega
/-- the gap at letter n of the letter row at place i: c i k is the letter k -/
def gap (c : Vec) (n i : Nat) (v : Vec) : Int := sumTo (n + 1) (fun a => v 0 a * c i (n - a)) - v i n
theorem gap_lin {p : Int} {c : Vec} {n i : Nat} {w v u : Vec} {k : Int} (h : ∀ i d, p ∣ w i d - (v i d + k * u i d)) : p ∣ gap c n i w - (gap c n i v + k * gap c n i u) := by
  unfold gap
  have h1 : p ∣ sumTo (n + 1) (fun a => w 0 a * c i (n - a)) - (sumTo (n + 1) (fun a => v 0 a * c i (n - a)) + k * sumTo (n + 1) (fun a => u 0 a * c i (n - a))) := by
    rw [← sumTo_mul, ← sumTo_add, ← sumTo_sub]
    refine sumTo_dvd _ fun a _ => ?_
    obtain ⟨q, hq⟩ := h 0 a
    exact ⟨q * c i (n - a), by grind⟩
  obtain ⟨q1, hq1⟩ := h1
  obtain ⟨q2, hq2⟩ := h i n
  exact ⟨q1 - q2, by grind⟩
theorem gap_sh1 (c : Vec) (n i : Nat) (v : Vec) (hi : 1 ≤ i) : gap c (n + 1) i (sh 1 v) = gap c n i v := by
  unfold gap
  rw [sumTo_left]
  have e : ∀ a, a < n + 1 → sh 1 v 0 (a + 1) * c i (n + 1 - (a + 1)) = v 0 a * c i (n - a) := fun a _ => by
    have : n + 1 - (a + 1) = n - a := by omega
    rw [this]
    simp [sh]
  rw [sumTo_congr _ e]
  simp [sh]
theorem gap_sh1_0 (c : Vec) (i : Nat) (v : Vec) : gap c 0 i (sh 1 v) = 0 := by
  simp [gap, sumTo, sh]
/-- shifted rows that met all that came before have no gap -/
theorem gap_sh {p : Int} {c : Vec} {i : Nat} {v : Vec} (hi : 1 ≤ i) : ∀ (k n : Nat), (∀ n', n' < n → p ∣ gap c n' i v) → p ∣ gap c n i (sh (k + 1) v) := by
  intro k
  induction k with
  | zero =>
    intro n h
    cases n with
    | zero => exact ⟨0, by simp [gap_sh1_0]⟩
    | succ n => rw [gap_sh1 c n i v hi]; exact h n (by omega)
  | succ k ih =>
    intro n h
    rw [← sh_sh']
    cases n with
    | zero => exact ⟨0, by simp [gap_sh1_0]⟩
    | succ n => rw [gap_sh1 c n i _ hi]; exact ih n fun n' hn => h n' (by omega)

/-! ### spans -/
inductive Spn (p : Int) (m : Nat) (R : Nat → Vec) (h : Nat → Int) (t : Int) : Vec → Prop
  | zero (v : Vec) (hv : ∀ i d, p ∣ v i d) : Spn p m R h t v
  | add (v w : Vec) (c : Int) (j k : Nat) (hj : j < m) (hk : (k : Int) + h j ≤ t) (hv : Spn p m R h t v) (hw : ∀ i d, p ∣ w i d - (v i d + c * sh k (R j) i d)) : Spn p m R h t w
section
variable {p : Int} {m : Nat} {R : Nat → Vec} {h : Nat → Int} {t : Int} {c : Vec}
theorem Spn.congr {v w : Vec} (s : Spn p m R h t v) (e : ∀ i d, p ∣ w i d - v i d) : Spn p m R h t w := by
  cases s with
  | zero _ hv =>
    refine .zero _ fun i d => ?_
    obtain ⟨a, ha⟩ := hv i d
    obtain ⟨b, hb⟩ := e i d
    exact ⟨a + b, by grind⟩
  | add v0 _ c j k hj hk hv hw =>
    refine .add v0 w c j k hj hk hv fun i d => ?_
    obtain ⟨a, ha⟩ := hw i d
    obtain ⟨b, hb⟩ := e i d
    exact ⟨a + b, by grind⟩
/-- no gap on rows that generate: none on the span -/
theorem Spn.gap0 {n i : Nat} (hi : 1 ≤ i) (hR : ∀ j, j < m → ∀ k, p ∣ gap c n i (sh k (R j))) {v : Vec} (s : Spn p m R h t v) : p ∣ gap c n i v := by
  induction s with
  | zero v hv =>
    have e := gap_lin (c := c) (n := n) (i := i) (w := v) (v := fun _ _ => 0) (u := fun _ _ => 0) (k := 0) (p := p) (fun i d => by simpa using hv i d)
    have z : gap c n i (fun _ _ => 0) = 0 := by
      unfold gap
      rw [sumTo_zero _ fun a _ => by simp]
      simp
    rw [z] at e
    simpa using e
  | add v w a j k hj hk hv hw ih =>
    obtain ⟨q1, h1⟩ := gap_lin (c := c) (n := n) (i := i) hw
    obtain ⟨q2, h2⟩ := ih
    obtain ⟨q3, h3⟩ := hR j hj k
    exact ⟨q1 + q2 + a * q3, by grind⟩
/-- a constant coefficient comes from a row that is low enough -/
theorem Spn.const {v : Vec} (s : Spn p m R h t v) (hv : ¬ p ∣ v 0 0) : ∃ j, j < m ∧ h j ≤ t ∧ ¬ p ∣ R j 0 0 := by
  induction s with
  | zero v hz => exact absurd (hz 0 0) hv
  | add v w a j k hj hk _ hw ih =>
    by_cases h0 : p ∣ v 0 0
    · cases k with
      | zero =>
        refine ⟨j, hj, by simpa using hk, fun hd => hv ?_⟩
        obtain ⟨q1, h1⟩ := hw 0 0
        obtain ⟨q2, h2⟩ := h0
        obtain ⟨q3, h3⟩ := hd
        rw [sh_zero] at h1
        exact ⟨q1 + q2 + a * q3, by grind⟩
      | succ k =>
        refine absurd ?_ hv
        obtain ⟨q1, h1⟩ := hw 0 0
        obtain ⟨q2, h2⟩ := h0
        have e : sh (k + 1) (R j) 0 0 = 0 := by simp [sh]
        rw [e] at h1
        exact ⟨q1 + q2, by grind⟩
    · exact ih h0
end

/-! ### one step: the pivot at k -/
structure Step (p : Int) (m : Nat) (R R' : Nat → Vec) (h h' : Nat → Int) (g : Nat → Int) (k : Nat) (u : Int) : Prop where
  hk : k < m
  inv : p ∣ u * g k - 1
  row : ∀ i d, p ∣ R' k i d - sh 1 (R k) i d
  rows : ∀ j, j < m → j ≠ k → ∀ i d, p ∣ R' j i d - (R j i d + (-(g j * u)) * R k i d)
  hh : h' k = h k + 1
  hhs : ∀ j, j < m → j ≠ k → h' j = h j
  low : ∀ j, j < m → ¬ p ∣ g j → h k ≤ h j
theorem sh_congr {p : Int} {k : Nat} {a b : Vec} (h : ∀ i d, p ∣ a i d - b i d) : ∀ i d, p ∣ sh k a i d - sh k b i d := fun i d => by
  unfold sh
  by_cases e : d < k
  · rw [if_pos e, if_pos e]; exact ⟨0, by simp⟩
  · rw [if_neg e, if_neg e]; exact h _ _
section
variable {p : Int} {m : Nat} {R R' : Nat → Vec} {h h' g : Nat → Int} {k : Nat} {u t : Int}
theorem Step.more (S : Step p m R R' h h' g k u) {v' : Vec} {al : Int} {b : Int} {kk : Nat} (hkk : (kk : Int) + h k ≤ t) (hv : Spn p m R' h' t v') (hal : p ∣ al ∨ h k ≤ t) :
    ∃ v2 a2, Spn p m R' h' t v2 ∧ (∀ i d, p ∣ (v' i d + al * R k i d + b * sh kk (R k) i d) - (v2 i d + a2 * R k i d)) ∧ (p ∣ a2 ∨ h k ≤ t) := by
  cases kk with
  | zero =>
    refine ⟨v', al + b, hv, fun i d => ⟨0, ?_⟩, .inr (by simpa using hkk)⟩
    rw [sh_zero]; grind
  | succ kk =>
    refine ⟨fun i d => v' i d + b * sh (kk + 1) (R k) i d, al, .add v' _ b k kk S.hk ?_ hv fun i d => ?_, fun i d => ⟨0, by grind⟩, hal⟩
    · rw [S.hh]
      have e : ((kk + 1 : Nat) : Int) = (kk : Int) + 1 := by omega
      omega
    · have e := sh_congr (k := kk) S.row i d
      rw [sh_sh] at e
      obtain ⟨q, hq⟩ := e
      exact ⟨-(b * q), by grind⟩
theorem Step.split (S : Step p m R R' h h' g k u) {v : Vec} (s : Spn p m R h t v) : ∃ v' al, Spn p m R' h' t v' ∧ (∀ i d, p ∣ v i d - (v' i d + al * R k i d)) ∧ (p ∣ al ∨ h k ≤ t) := by
  induction s with
  | zero v hv => exact ⟨v, 0, .zero v hv, fun i d => ⟨0, by grind⟩, .inl (Int.dvd_zero p)⟩
  | add v w c j kk hj hkk _ hw ih =>
    obtain ⟨v1, a1, s1, e1, l1⟩ := ih
    by_cases hjk : j = k
    · subst hjk
      obtain ⟨v2, a2, s2, e2, l2⟩ := S.more (b := c) hkk s1 l1
      refine ⟨v2, a2, s2, fun i d => ?_, l2⟩
      obtain ⟨q1, h1⟩ := hw i d
      obtain ⟨q2, h2⟩ := e1 i d
      obtain ⟨q3, h3⟩ := e2 i d
      exact ⟨q1 + q2 + q3, by grind⟩
    · have s3 : Spn p m R' h' t (fun i d => v1 i d + c * sh kk (R' j) i d) := .add v1 _ c j kk hj (by rw [S.hhs j hj hjk]; exact hkk) s1 fun i d => ⟨0, by grind⟩
      have er : ∀ i d, p ∣ sh kk (R' j) i d - (sh kk (R j) i d + (-(g j * u)) * sh kk (R k) i d) := fun i d => by
        unfold sh
        by_cases e : d < kk
        · rw [if_pos e, if_pos e, if_pos e]; exact ⟨0, by grind⟩
        · rw [if_neg e, if_neg e, if_neg e]; exact S.rows j hj hjk i _
      by_cases hg : p ∣ g j
      · refine ⟨_, a1, s3, fun i d => ?_, l1⟩
        obtain ⟨q1, h1⟩ := hw i d
        obtain ⟨q2, h2⟩ := e1 i d
        obtain ⟨q3, h3⟩ := er i d
        obtain ⟨q4, h4⟩ := hg
        exact ⟨q1 + q2 - c * q3 + c * q4 * u * sh kk (R k) i d, by grind⟩
      · have lk := S.low j hj hg
        obtain ⟨v2, a2, s2, e2, l2⟩ := S.more (b := c * (g j * u)) (kk := kk) (by omega) s3 l1
        refine ⟨v2, a2, s2, fun i d => ?_, l2⟩
        obtain ⟨q1, h1⟩ := hw i d
        obtain ⟨q2, h2⟩ := e1 i d
        obtain ⟨q3, h3⟩ := er i d
        obtain ⟨q4, h4⟩ := e2 i d
        exact ⟨q1 + q2 - c * q3 + q4, by grind⟩
/-- a row without a gap lies in the span of the new rows -/
theorem Step.into (S : Step p m R R' h h' g k u) {c : Vec} {n i : Nat} (hi : 1 ≤ i) (hg : p ∣ gap c n i (R k) - g k) (hR : ∀ j, j < m → ∀ kk, p ∣ gap c n i (sh kk (R' j))) {v : Vec} (s : Spn p m R h t v) (hv : p ∣ gap c n i v) :
    Spn p m R' h' t v := by
  obtain ⟨v', al, s', e, _⟩ := S.split s
  have g1 := gap_lin (c := c) (n := n) (i := i) e
  have g2 := Spn.gap0 hi hR s'
  have hal : p ∣ al := by
    obtain ⟨q1, h1⟩ := g1
    obtain ⟨q2, h2⟩ := g2
    obtain ⟨q3, h3⟩ := hv
    obtain ⟨q4, h4⟩ := hg
    obtain ⟨q5, h5⟩ := S.inv
    -- al * g k is divided, so al is
    have e1 : al * g k = p * (q3 - q1 - q2 - al * q4) := by grind
    refine ⟨u * (q3 - q1 - q2 - al * q4) - al * q5, ?_⟩
    have e2 : al * (u * g k) = al + al * (p * q5) := by
      have : u * g k = 1 + p * q5 := by grind
      rw [this]; grind
    have e3 : al * (u * g k) = u * (p * (q3 - q1 - q2 - al * q4)) := by
      rw [← e1]; grind
    grind
  refine s'.congr fun i d => ?_
  obtain ⟨q1, h1⟩ := e i d
  obtain ⟨q2, h2⟩ := hal
  exact ⟨q1 + q2 * R k i d, by grind⟩
end
end FTM
/-! Forms and rows as lists: what the package computes. -/
namespace FTM
abbrev Form := List Int
abbrev Row := List Form
abbrev Base := List Row
/-- without the zeros at the end -/
def trim : List Int → List Int
  | [] => []
  | x :: xs => if trim xs = [] then (if x = 0 then [] else [x]) else x :: trim xs
theorem trim_cons (x : Int) (xs : List Int) : trim (x :: xs) = if trim xs = [] then (if x = 0 then [] else [x]) else x :: trim xs := rfl
theorem trim_getD : ∀ (xs : List Int) (d : Nat), (trim xs).getD d 0 = xs.getD d 0
  | [], _ => rfl
  | x :: xs, d => by
    rw [trim_cons]
    by_cases e : trim xs = []
    · rw [if_pos e]
      have z : ∀ d, xs.getD d 0 = 0 := fun d => by rw [← trim_getD xs d, e]; rfl
      cases d with
      | zero => by_cases h : x = 0
                · rw [if_pos h]; simp [h]
                · rw [if_neg h]; simp
      | succ d => by_cases h : x = 0
                  · rw [if_pos h]; simpa using (z d).symm
                  · rw [if_neg h]; simpa using (z d).symm
    · rw [if_neg e]
      cases d with
      | zero => simp
      | succ d => simpa using trim_getD xs d
theorem trim_last : ∀ (xs : List Int) (n : Nat), (trim xs).length = n + 1 → (trim xs).getD n 0 ≠ 0
  | [], n, h => by simp [trim] at h
  | x :: xs, n, h => by
    rw [trim_cons] at h ⊢
    by_cases e : trim xs = []
    · rw [if_pos e] at h ⊢
      by_cases hx : x = 0
      · rw [if_pos hx] at h; simp at h
      · rw [if_neg hx] at h ⊢
        have : n = 0 := by simpa using h.symm
        subst this
        simpa using hx
    · rw [if_neg e] at h ⊢
      have hl : (trim xs).length = n := by simpa using h
      cases n with
      | zero => exact absurd (List.eq_nil_of_length_eq_zero hl) e
      | succ n => simpa using trim_last xs n hl
theorem trim_mem : ∀ (xs : List Int) (y : Int), y ∈ trim xs → y ∈ xs
  | [], y, h => by simp [trim] at h
  | x :: xs, y, h => by
    rw [trim_cons] at h
    by_cases e : trim xs = []
    · rw [if_pos e] at h
      by_cases hx : x = 0
      · rw [if_pos hx] at h; simp at h
      · rw [if_neg hx] at h; simp at h; simp [h]
    · rw [if_neg e] at h
      rcases List.mem_cons.mp h with h | h
      · simp [h]
      · exact List.mem_cons_of_mem _ (trim_mem xs y h)
theorem trim_len : ∀ xs : List Int, (trim xs).length ≤ xs.length
  | [] => by simp [trim]
  | x :: xs => by
    have := trim_len xs
    rw [trim_cons]
    by_cases e : trim xs = []
    · rw [if_pos e]
      by_cases hx : x = 0
      · rw [if_pos hx]; simp
      · rw [if_neg hx]; simp
    · rw [if_neg e]; simpa using this
theorem trim_nil_of : ∀ xs : List Int, (∀ i : Nat, xs.getD i 0 = 0) → trim xs = []
  | [], _ => rfl
  | x :: xs, h => by
    have h0 : x = 0 := by simpa using h 0
    rw [trim_cons, trim_nil_of xs fun i => by simpa using h (i + 1), if_pos rfl, if_pos h0]
/-- trim is what stands ahead of the zeros -/
theorem trim_take : ∀ (xs : List Int) (n : Nat), n ≤ xs.length → (∀ i, n ≤ i → xs.getD i 0 = 0) → (∀ k, n = k + 1 → xs.getD k 0 ≠ 0) → trim xs = xs.take n
  | xs, 0, _, h, _ => by rw [trim_nil_of xs fun i => h i (Nat.zero_le _)]; rfl
  | [], n + 1, hn, _, _ => by simp at hn
  | x :: xs, n + 1, hn, h, hl => by
    have ht := trim_take xs n (by simpa using hn) (fun i hi => by simpa using h (i + 1) (by omega)) (fun k hk => by
      subst hk
      simpa using hl (k + 1) rfl)
    rw [trim_cons, ht]
    cases n with
    | zero =>
      have : x ≠ 0 := by simpa using hl 0 rfl
      simp [this]
    | succ n =>
      cases xs with
      | nil => simp at hn
      | cons y ys => simp
/-- the form that numbers stand for -/
def formOf (p : Int) (ns : List Int) : Form := trim (ns.map (· % p))
def addS (p : Int) (f g : Form) : Form := formOf p (List.zipWith (· + ·) f g ++ f.drop g.length)
def addF (p : Int) (f g : Form) : Form := if g = [] then f else if f.length < g.length then (if f = [] then g else addS p g f) else addS p f g
def scaledF (p : Int) (f : Form) (n : Int) : Form := if n % p = 0 then [] else f.map fun r => r * n % p
def subF (p : Int) (f g : Form) : Form := addF p f (scaledF p g (-1))
/-- x times a form, a residue times it -/
def mulX (p : Int) (f : Form) : Form := if f = [] then [] else formOf p (0 :: f)
def mulC (p : Int) (f : Form) (c : Int) : Form := if f = [] then [] else formOf p (f.map (· * c))
/-- a form -/
def Red (p : Int) (f : Form) : Prop := (∀ x ∈ f, 0 ≤ x ∧ x < p) ∧ ∀ n, f.length = n + 1 → f.getD n 0 ≠ 0
theorem Red.nil {p : Int} : Red p [] := ⟨fun x h => by simp at h, fun n h => by simp at h⟩
theorem red_formOf {p : Int} (hp : 0 < p) (ns : List Int) : Red p (formOf p ns) := by
  refine ⟨fun x h => ?_, fun n h => trim_last _ n h⟩
  have h1 := trim_mem _ _ h
  obtain ⟨y, _, rfl⟩ := List.mem_map.mp h1
  exact ⟨Int.emod_nonneg _ (by omega), Int.emod_lt_of_pos _ hp⟩
theorem getD_map_mod {p : Int} (ns : List Int) (d : Nat) : (ns.map (· % p)).getD d 0 = ns.getD d 0 % p := by
  simp only [List.getD_eq_getElem?_getD, List.getElem?_map]
  cases ns[d]? <;> simp
theorem co_formOf {p : Int} (ns : List Int) (d : Nat) : (formOf p ns).getD d 0 = ns.getD d 0 % p := by
  unfold formOf
  rw [trim_getD, getD_map_mod]
theorem dvd_mod (p a : Int) : p ∣ a % p - a := ⟨-(a / p), by have := Int.emod_add_mul_ediv a p; grind⟩
theorem Red.co {p : Int} (hp : 0 < p) {f : Form} (h : Red p f) (d : Nat) : 0 ≤ f.getD d 0 ∧ f.getD d 0 < p := by
  rw [List.getD_eq_getElem?_getD]
  cases e : f[d]? with
  | none => simpa using hp
  | some x => simpa using h.1 x (List.mem_of_getElem? e)
theorem small_dvd {p a : Int} (h0 : 0 ≤ a) (h1 : a < p) (h : p ∣ a) : a = 0 := by
  have e := Int.emod_eq_zero_of_dvd h
  rw [Int.emod_eq_of_lt h0 h1] at e
  exact e
theorem Red.zero {p : Int} (hp : 0 < p) {f : Form} (h : Red p f) {d : Nat} : p ∣ f.getD d 0 ↔ f.getD d 0 = 0 :=
  ⟨fun z => small_dvd (h.co hp d).1 (h.co hp d).2 z, fun z => by rw [z]; exact Int.dvd_zero p⟩
theorem getD_big {f : Form} {d : Nat} (h : f.length ≤ d) : f.getD d 0 = 0 := by
  rw [List.getD_eq_getElem?_getD, List.getElem?_eq_none_iff.mpr h]; rfl
/-- a form's length by its coefficients -/
theorem Red.len_le {p : Int} (hp : 0 < p) {f : Form} (h : Red p f) {n : Nat} (hz : ∀ d, n ≤ d → p ∣ f.getD d 0) : f.length ≤ n := by
  refine Nat.le_of_not_lt fun hl => ?_
  obtain ⟨k, hk⟩ : ∃ k, f.length = k + 1 := ⟨f.length - 1, by omega⟩
  exact h.2 k hk ((h.zero hp).mp (hz k (by omega)))
theorem lt_len {p : Int} {f : Form} {n : Nat} (hz : ¬ p ∣ f.getD n 0) : n < f.length := by
  refine Nat.lt_of_not_le fun hl => hz ?_
  rw [getD_big hl]; exact Int.dvd_zero p
theorem zipWith_getD : ∀ (f g : List Int) (d : Nat), g.length ≤ f.length → (List.zipWith (· + ·) f g ++ f.drop g.length).getD d 0 = f.getD d 0 + g.getD d 0
  | f, [], d, _ => by simp
  | [], b :: g, d, h => by simp at h
  | a :: f, b :: g, 0, _ => by simp
  | a :: f, b :: g, d + 1, h => by simpa using zipWith_getD f g d (by simpa using h)
theorem co_addS {p : Int} {f g : Form} (h : g.length ≤ f.length) (d : Nat) : p ∣ (addS p f g).getD d 0 - (f.getD d 0 + g.getD d 0) := by
  unfold addS
  rw [co_formOf, zipWith_getD f g d h]
  exact dvd_mod _ _
theorem co_addF {p : Int} (f g : Form) (d : Nat) : p ∣ (addF p f g).getD d 0 - (f.getD d 0 + g.getD d 0) := by
  unfold addF
  by_cases hg : g = []
  · rw [if_pos hg, hg]; exact ⟨0, by simp⟩
  · rw [if_neg hg]
    by_cases hl : f.length < g.length
    · rw [if_pos hl]
      by_cases hf : f = []
      · rw [if_pos hf, hf]; exact ⟨0, by simp⟩
      · rw [if_neg hf]
        obtain ⟨q, hq⟩ := co_addS (p := p) (Nat.le_of_lt hl) d
        exact ⟨q, by grind⟩
    · rw [if_neg hl]; exact co_addS (by omega) d
theorem red_addF {p : Int} (hp : 0 < p) {f g : Form} (hf : Red p f) (hg : Red p g) : Red p (addF p f g) := by
  unfold addF
  by_cases h : g = []
  · rw [if_pos h]; exact hf
  · rw [if_neg h]
    by_cases hl : f.length < g.length
    · rw [if_pos hl]
      by_cases h2 : f = []
      · rw [if_pos h2]; exact hg
      · rw [if_neg h2]; exact red_formOf hp _
    · rw [if_neg hl]; exact red_formOf hp _
theorem co_scaledF {p : Int} (f : Form) (n : Int) (d : Nat) : p ∣ (scaledF p f n).getD d 0 - f.getD d 0 * n := by
  unfold scaledF
  by_cases h : n % p = 0
  · rw [if_pos h]
    obtain ⟨q, hq⟩ := Int.dvd_of_emod_eq_zero h
    exact ⟨-(f.getD d 0 * q), by rw [hq]; simp; grind⟩
  · rw [if_neg h]
    have e : (f.map fun r => r * n % p).getD d 0 = f.getD d 0 * n % p := by
      simp only [List.getD_eq_getElem?_getD, List.getElem?_map]
      cases f[d]? <;> simp
    rw [e]; exact dvd_mod _ _
theorem red_neg {p : Int} (hp : 0 < p) {f : Form} (hf : Red p f) : Red p (scaledF p f (-1)) := by
  unfold scaledF
  by_cases h : (-1 : Int) % p = 0
  · rw [if_pos h]; exact Red.nil
  · rw [if_neg h]
    refine ⟨fun x hx => ?_, fun n hn => ?_⟩
    · obtain ⟨y, _, rfl⟩ := List.mem_map.mp hx
      exact ⟨Int.emod_nonneg _ (by omega), Int.emod_lt_of_pos _ hp⟩
    · have hn' : f.length = n + 1 := by simpa using hn
      have h1 := hf.2 n hn'
      have h2 := hf.co hp n
      have e : (f.map fun r => r * (-1) % p).getD n 0 = f.getD n 0 * (-1) % p := by
        simp only [List.getD_eq_getElem?_getD, List.getElem?_map]
        cases f[n]? <;> simp
      rw [e]
      intro z
      have z2 := Int.dvd_of_emod_eq_zero z
      have z3 : p ∣ f.getD n 0 := by
        obtain ⟨q, hq⟩ := z2
        exact ⟨-q, by grind⟩
      exact h1 (small_dvd h2.1 h2.2 z3)
theorem co_subF {p : Int} (f g : Form) (d : Nat) : p ∣ (subF p f g).getD d 0 - (f.getD d 0 - g.getD d 0) := by
  obtain ⟨q1, h1⟩ := co_addF (p := p) f (scaledF p g (-1)) d
  obtain ⟨q2, h2⟩ := co_scaledF (p := p) g (-1) d
  exact ⟨q1 + q2, by unfold subF; grind⟩
theorem red_subF {p : Int} (hp : 0 < p) {f g : Form} (hf : Red p f) (hg : Red p g) : Red p (subF p f g) := red_addF hp hf (red_neg hp hg)
theorem co_mulX {p : Int} (f : Form) (d : Nat) : p ∣ (mulX p f).getD d 0 - (if d < 1 then 0 else f.getD (d - 1) 0) := by
  unfold mulX
  by_cases h : f = []
  · rw [if_pos h, h]; exact ⟨0, by simp⟩
  · rw [if_neg h, co_formOf]
    cases d with
    | zero => exact ⟨0, by simp⟩
    | succ d =>
      have e : ((0 : Int) :: f).getD (d + 1) 0 = f.getD d 0 := by simp
      rw [e, if_neg (by omega)]
      exact dvd_mod _ _
theorem red_mulX {p : Int} (hp : 0 < p) (f : Form) : Red p (mulX p f) := by
  unfold mulX
  by_cases h : f = []
  · rw [if_pos h]; exact Red.nil
  · rw [if_neg h]; exact red_formOf hp _
theorem co_mulC {p : Int} (f : Form) (c : Int) (d : Nat) : p ∣ (mulC p f c).getD d 0 - f.getD d 0 * c := by
  unfold mulC
  by_cases h : f = []
  · rw [if_pos h, h]; exact ⟨0, by simp⟩
  · rw [if_neg h, co_formOf]
    have e : (f.map (· * c)).getD d 0 = f.getD d 0 * c := by
      simp only [List.getD_eq_getElem?_getD, List.getElem?_map]
      cases f[d]? <;> simp
    rw [e]; exact dvd_mod _ _
theorem red_mulC {p : Int} (hp : 0 < p) (f : Form) (c : Int) : Red p (mulC p f c) := by
  unfold mulC
  by_cases h : f = []
  · rw [if_pos h]; exact Red.nil
  · rw [if_neg h]; exact red_formOf hp _

/-! ### inverses -/
def invGo : Nat → Int → Int → Int → Int → Int
  | 0, _, _, _, new => new
  | k + 1, high, low, old, new => if 1 < low then invGo k low (high - high / low * low) new (old - high / low * new) else new
def inv (p r : Int) : Int := invGo r.toNat p r 0 1 % p
def primes : List Int := [2, 3, 5, 7, 11, 13, 31, 97]
theorem inv_all : (primes.all fun p => (List.range p.toNat).all fun r => r == 0 || inv p r * r % p == 1) = true := by decide +kernel
theorem inv_ok {p r : Int} (hp : p ∈ primes) (h0 : 0 < r) (h1 : r < p) : p ∣ inv p r * r - 1 := by
  have a := List.all_eq_true.mp inv_all p hp
  have b := List.all_eq_true.mp a r.toNat (List.mem_range.mpr (by omega))
  have e : ((r.toNat : Nat) : Int) = r := by omega
  simp only [e, Bool.or_eq_true, beq_iff_eq] at b
  rcases b with b | b
  · omega
  · exact ⟨inv p r * r / p, by have := Int.emod_add_mul_ediv (inv p r * r) p; omega⟩
theorem prime_pos {p : Int} (hp : p ∈ primes) : 1 < p ∧ p ≤ 97 := by
  have : (primes.all fun p => decide (1 < p ∧ p ≤ 97)) = true := by decide
  exact of_decide_eq_true (List.all_eq_true.mp this p hp)

/-! ### levels -/
def levelGo (lifts : List Int) : Nat → List Form → Option (Int × Int) → Option (Int × Int)
  | _, [], acc => acc
  | i, f :: fs, acc => levelGo lifts (i + 1) fs (if f = [] then acc else match acc with
    | none => some ((f.length : Int) - 1 + lifts.getD i 0, (i : Int))
    | some (h, l) => if (f.length : Int) - 1 + lifts.getD i 0 ≥ h then some ((f.length : Int) - 1 + lifts.getD i 0, (i : Int)) else some (h, l))
def levelOf (lifts : List Int) (row : Row) : Option (Int × Int) := levelGo lifts 0 row none
def liftsOf (l : Nat) : List Int := 0 :: List.replicate l 1
/-- the lift of a place -/
def lft (i : Nat) : Int := if i = 0 then 0 else 1
theorem liftsOf_getD {l i : Nat} (h : i < l + 1) : (liftsOf l).getD i 0 = lft i := by
  unfold liftsOf lft
  cases i with
  | zero => simp
  | succ i =>
    have : i < l := by omega
    simp [List.getD_eq_getElem?_getD, List.getElem?_replicate, this]
/-- the row r (coefficients) has the height h and the lead j -/
structure Lev (p : Int) (r : Vec) (j : Nat) (h : Int) : Prop where
  top : ∃ d : Nat, (d : Int) + lft j = h ∧ ¬ p ∣ r j d
  above : ∀ (i d : Nat), (d : Int) + lft i > h ∨ ((d : Int) + lft i = h ∧ j < i) → p ∣ r i d
def coR (row : Row) : Vec := fun i d => (row.getD i []).getD d 0
structure AccOk (row : Row) (i : Nat) (acc : Option (Int × Int)) : Prop where
  none_ : acc = none → ∀ k, k < i → row.getD k [] = []
  some_ : ∀ h l, acc = some (h, l) → ∃ j : Nat, l = (j : Int) ∧ j < i ∧ row.getD j [] ≠ [] ∧ ((row.getD j []).length : Int) - 1 + lft j = h ∧
    ∀ k, k < i → row.getD k [] ≠ [] → ((row.getD k []).length : Int) - 1 + lft k ≤ h ∧ (j < k → ((row.getD k []).length : Int) - 1 + lft k < h)
theorem levelGo_ok {l : Nat} {row : Row} (hl : row.length = l + 1) : ∀ (fs : List Form) (i : Nat) (acc : Option (Int × Int)), i + fs.length = l + 1 → (∀ k f, fs[k]? = some f → row.getD (i + k) [] = f) → AccOk row i acc → AccOk row (l + 1) (levelGo (liftsOf l) i fs acc)
  | [], i, acc, hi, _, h => by
    have : i = l + 1 := by simpa using hi
    subst this
    exact h
  | f :: fs, i, acc, hi, hf, h => by
    have hi2 : i < l + 1 := by simp at hi; omega
    have ef : row.getD i [] = f := by simpa using hf 0 f rfl
    unfold levelGo
    refine levelGo_ok hl fs (i + 1) _ (by simp at hi ⊢; omega) (fun k g hk => by
      have := hf (k + 1) g (by simpa using hk)
      rwa [show i + (k + 1) = i + 1 + k by omega] at this) ?_
    rw [liftsOf_getD hi2]
    by_cases hn : f = []
    · rw [if_pos hn]
      refine ⟨fun e k hk => ?_, fun hh ll e => ?_⟩
      · by_cases hki : k = i
        · rw [hki, ef, hn]
        · exact h.none_ e k (by omega)
      · obtain ⟨j, e1, e2, e3, e4, e5⟩ := h.some_ hh ll e
        refine ⟨j, e1, by omega, e3, e4, fun k hk hne => ?_⟩
        by_cases hki : k = i
        · rw [hki, ef] at hne; exact absurd hn hne
        · exact e5 k (by omega) hne
    · rw [if_neg hn]
      cases acc with
      | none =>
        refine ⟨fun e => (nomatch e), fun hh ll e => ?_⟩
        injection e with e
        injection e with e1 e2
        refine ⟨i, e2.symm, by omega, by rw [ef]; exact hn, by rw [ef]; exact e1, fun k hk hne => ?_⟩
        by_cases hki : k = i
        · subst hki; rw [ef]; exact ⟨by omega, fun z => by omega⟩
        · exact absurd (h.none_ rfl k (by omega)) hne
      | some a =>
        obtain ⟨h0, l0⟩ := a
        obtain ⟨j, e1, e2, e3, e4, e5⟩ := h.some_ h0 l0 rfl
        by_cases hge : (f.length : Int) - 1 + lft i ≥ h0
        · refine ⟨fun e => ?_, fun hh ll e => ?_⟩
          · simp only [if_pos hge] at e; cases e
          · simp only [if_pos hge] at e
            injection e with e
            injection e with f1 f2
            refine ⟨i, f2.symm, by omega, by rw [ef]; exact hn, by rw [ef]; exact f1, fun k hk hne => ?_⟩
            by_cases hki : k = i
            · subst hki; rw [ef]; exact ⟨by omega, fun z => by omega⟩
            · have := e5 k (by omega) hne
              exact ⟨by omega, fun z => by omega⟩
        · refine ⟨fun e => ?_, fun hh ll e => ?_⟩
          · simp only [if_neg hge] at e; cases e
          · simp only [if_neg hge] at e
            injection e with e
            injection e with f1 f2
            refine ⟨j, by rw [← f2, e1], by omega, e3, by rw [e4, f1], fun k hk hne => ?_⟩
            by_cases hki : k = i
            · subst hki; rw [ef]; exact ⟨by omega, fun z => by omega⟩
            · have := e5 k (by omega) hne
              exact ⟨by omega, fun z => by omega⟩
theorem levelOf_ok {p : Int} (hp : 0 < p) {l : Nat} {row : Row} (hl : row.length = l + 1) (hr : ∀ f ∈ row, Red p f) {j : Nat} {h : Int} (hj : j < l + 1) (L : Lev p (coR row) j h) : levelOf (liftsOf l) row = some (h, (j : Int)) := by
  have A := levelGo_ok hl row 0 none (by simpa using hl) (fun k f hk => by simp [List.getD_eq_getElem?_getD, hk]) ⟨fun _ k hk => by omega, fun _ _ e => (nomatch e)⟩
  have red : ∀ k, Red p (row.getD k []) := fun k => by
    rw [List.getD_eq_getElem?_getD]
    cases e : row[k]? with
    | none => exact Red.nil
    | some f => exact hr f (List.mem_of_getElem? e)
  obtain ⟨d, hd, hnz⟩ := L.top
  have hlen : d < (row.getD j []).length := lt_len hnz
  have hlen2 : (row.getD j []).length = d + 1 := by
    have : (row.getD j []).length ≤ d + 1 := (red j).len_le hp fun d' hd' => L.above j d' (.inl (by omega))
    omega
  have hne : row.getD j [] ≠ [] := fun z => by rw [z] at hlen; simp at hlen
  show levelGo (liftsOf l) 0 row none = _
  cases e : levelGo (liftsOf l) 0 row none with
  | none =>
    rw [e] at A
    exact absurd (A.none_ rfl j hj) hne
  | some a =>
    obtain ⟨h1, l1⟩ := a
    rw [e] at A
    obtain ⟨j1, e1, e2, e3, e4, e5⟩ := A.some_ h1 l1 rfl
    have b := e5 j hj hne
    -- the height of the lead
    have c : ((row.getD j1 []).length : Int) - 1 + lft j1 ≤ h ∧ (j < j1 → ((row.getD j1 []).length : Int) - 1 + lft j1 < h) := by
      obtain ⟨n, hn⟩ : ∃ n, (row.getD j1 []).length = n + 1 := ⟨(row.getD j1 []).length - 1, by
        have : (row.getD j1 []).length ≠ 0 := fun z => e3 (List.eq_nil_of_length_eq_zero z)
        omega⟩
      have hnz1 : ¬ p ∣ (row.getD j1 []).getD n 0 := fun z => (red j1).2 n hn (((red j1).zero hp).mp z)
      refine ⟨?_, fun hlt => ?_⟩
      · refine Int.le_of_not_gt fun z => hnz1 (L.above j1 n (.inl (by omega)))
      · have : ¬ ((n : Int) + lft j1 = h) := fun z => hnz1 (L.above j1 n (.inr ⟨z, hlt⟩))
        have : ¬ ((n : Int) + lft j1 > h) := fun z => hnz1 (L.above j1 n (.inl z))
        omega
    have hj1 : j1 = j := by
      rcases Nat.lt_trichotomy j j1 with q | q | q
      · have := c.2 q; omega
      · exact q.symm
      · have := b.2 q; omega
    subst hj1
    have : h1 = h := by omega
    rw [this, e1]
end FTM
/-! A base grows by one condition; the bases of a room. -/
namespace FTM
def ltLex (a b : Int × Int) : Bool := if a.1 = b.1 then decide (a.2 < b.2) else decide (a.1 < b.1)
def levs (lifts : List Int) (base : Base) : List (Int × Int) := base.map fun row => (levelOf lifts row).getD (0, 0)
def pickGo (lv : List (Int × Int)) : Nat → List Int → Option Nat → Option Nat
  | _, [], acc => acc
  | i, n :: ns, acc => pickGo lv (i + 1) ns (if n ≠ 0 ∧ (match acc with | none => true | some j => ltLex (lv.getD i (0, 0)) (lv.getD j (0, 0))) = true then some i else acc)
def pickLow (lv : List (Int × Int)) (nums : List Int) : Option Nat := pickGo lv 0 nums none
def newRow (p : Int) (base : Base) (nums : List Int) (k : Nat) (at_ : Nat) : Row :=
  if at_ = k then (base.getD k []).map (mulX p)
  else if nums.getD at_ 0 ≠ 0 then List.zipWith (subF p) (base.getD at_ []) ((base.getD k []).map fun f => mulC p f (nums.getD at_ 0 * inv p (nums.getD k 0) % p))
  else base.getD at_ []
def grownBase (p : Int) (lifts : List Int) (base : Base) (nums : List Int) : Base := match pickLow (levs lifts base) nums with
  | none => base
  | some k => (List.range base.length).map (newRow p base nums k)
def gapAt (p : Int) (row : Row) (place : Nat) (letters : List Int) : Int :=
  (((List.range (min (row.getD 0 []).length letters.length)).map fun a => (row.getD 0 []).getD a 0 * letters.getD (letters.length - 1 - a) 0).sum - (if letters.length - 1 < (row.getD place []).length then (row.getD place []).getD (letters.length - 1) 0 else 0)) % p
def placeStep (p : Int) (l : Nat) (cols : List (List Int)) (g : Base) (i : Nat) : Base := grownBase p (liftsOf l) g (g.map fun row => gapAt p row (i + 1) (cols.map fun c => c.getD i 0))
def nextBase (p : Int) (l : Nat) (base : Base) (cols : List (List Int)) : Base := (List.range l).foldl (placeStep p l cols) base
def unitRow (m place : Nat) : Row := (List.range m).map fun a => if a = place then [1] else []
def unitBase (l : Nat) : Base := (List.range (l + 1)).map (unitRow (l + 1))
def baseAt (p : Int) (l : Nat) (cols : List (List Int)) : Nat → Base
  | 0 => unitBase l
  | n + 1 => nextBase p l (baseAt p l cols n) (cols.take (n + 1))

/-! ### which row is the lowest -/
structure PickOk (lv : List (Int × Int)) (nums : List Int) (i : Nat) (acc : Option Nat) : Prop where
  none_ : acc = none → ∀ k, k < i → nums.getD k 0 = 0
  some_ : ∀ j, acc = some j → j < i ∧ nums.getD j 0 ≠ 0 ∧ ∀ k, k < i → nums.getD k 0 ≠ 0 → k ≠ j → ltLex (lv.getD j (0, 0)) (lv.getD k (0, 0)) = true
/-- levels whose second parts are the places -/
def Lvd (lv : List (Int × Int)) (m : Nat) (h : Nat → Int) : Prop := ∀ k, k < m → lv.getD k (0, 0) = (h k, (k : Int))
theorem ltLex_eq {lv : List (Int × Int)} {m : Nat} {h : Nat → Int} (L : Lvd lv m h) {a b : Nat} (ha : a < m) (hb : b < m) : ltLex (lv.getD a (0, 0)) (lv.getD b (0, 0)) = true ↔ (h a < h b ∨ (h a = h b ∧ a < b)) := by
  rw [L a ha, L b hb]
  unfold ltLex
  by_cases e : h a = h b
  · rw [if_pos e]
    simp only [decide_eq_true_eq]
    omega
  · rw [if_neg e]
    simp only [decide_eq_true_eq]
    omega
theorem pickGo_ok {lv : List (Int × Int)} {m : Nat} {h : Nat → Int} (L : Lvd lv m h) {nums : List Int} (hm : nums.length = m) : ∀ (ns : List Int) (i : Nat) (acc : Option Nat), i + ns.length = m → (∀ k n, ns[k]? = some n → nums.getD (i + k) 0 = n) → PickOk lv nums i acc → PickOk lv nums m (pickGo lv i ns acc)
  | [], i, acc, hi, _, P => by
    have : i = m := by simpa using hi
    subst this
    exact P
  | n :: ns, i, acc, hi, hn, P => by
    have hi2 : i < m := by simp at hi; omega
    have en : nums.getD i 0 = n := by simpa using hn 0 n rfl
    unfold pickGo
    refine pickGo_ok L hm ns (i + 1) _ (by simp at hi ⊢; omega) (fun k g hk => by
      have := hn (k + 1) g (by simpa using hk)
      rwa [show i + (k + 1) = i + 1 + k by omega] at this) ?_
    cases acc with
    | none =>
      by_cases h0 : n = 0
      · rw [if_neg (fun z => z.1 h0)]
        refine ⟨fun _ k hk => ?_, fun j e => (nomatch e)⟩
        by_cases hki : k = i
        · rw [hki, en, h0]
        · exact P.none_ rfl k (by omega)
      · rw [if_pos ⟨h0, rfl⟩]
        refine ⟨fun e => (nomatch e), fun j e => ?_⟩
        injection e with e
        subst e
        refine ⟨by omega, by rw [en]; exact h0, fun k hk hnz hne => ?_⟩
        exact absurd (P.none_ rfl k (by omega)) hnz
    | some j =>
      obtain ⟨h1, h2, h3⟩ := P.some_ j rfl
      by_cases hc : n ≠ 0 ∧ ltLex (lv.getD i (0, 0)) (lv.getD j (0, 0)) = true
      · rw [if_pos hc]
        refine ⟨fun e => (nomatch e), fun j' e => ?_⟩
        injection e with e
        subst e
        have q := (ltLex_eq L hi2 (by omega)).mp hc.2
        refine ⟨by omega, by rw [en]; exact hc.1, fun k hk hnz hne => ?_⟩
        rw [ltLex_eq L hi2 (by omega)]
        by_cases hkj : k = j
        · subst hkj; exact q
        · have := (ltLex_eq L (by omega) (by omega)).mp (h3 k (by omega) hnz hkj)
          omega
      · rw [if_neg hc]
        refine ⟨fun e => (nomatch e), fun j' e => ?_⟩
        injection e with e
        subst e
        refine ⟨by omega, h2, fun k hk hnz hne => ?_⟩
        by_cases hki : k = i
        · subst hki
          rw [en] at hnz
          rw [ltLex_eq L (by omega) hi2]
          have q : ¬ (h k < h j ∨ (h k = h j ∧ k < j)) := fun z => hc ⟨hnz, (ltLex_eq L hi2 (by omega)).mpr z⟩
          omega
        · exact h3 k (by omega) hnz hne
theorem pickLow_ok {lv : List (Int × Int)} {m : Nat} {h : Nat → Int} (L : Lvd lv m h) {nums : List Int} (hm : nums.length = m) : PickOk lv nums m (pickLow lv nums) :=
  pickGo_ok L hm nums 0 none (by simpa using hm) (fun k n hk => by simp [List.getD_eq_getElem?_getD, hk]) ⟨fun _ k hk => by omega, fun _ e => (nomatch e)⟩

/-! ### a good base -/
def coB (base : Base) (j : Nat) : Vec := coR (base.getD j [])
structure Good (p : Int) (l : Nat) (c : Vec) (C : Nat → Nat → Prop) (base : Base) (h : Nat → Int) : Prop where
  len : base.length = l + 1
  row : ∀ j, j < l + 1 → (base.getD j []).length = l + 1 ∧ ∀ f ∈ base.getD j [], Red p f
  lev : ∀ j, j < l + 1 → Lev p (coB base j) j (h j)
  cond : ∀ j, j < l + 1 → ∀ n i, C n i → p ∣ gap c n i (coB base j)
  gen : ∀ (t : Int) (v : Vec), (∀ i d : Nat, (d : Int) + lft i > t → p ∣ v i d) → (∀ i d, l + 1 ≤ i → p ∣ v i d) → (∀ n i, C n i → p ∣ gap c n i v) → Spn p (l + 1) (coB base) h t v
section
variable {p : Int} {l : Nat} {c : Vec} {C : Nat → Nat → Prop} {base : Base} {h : Nat → Int}
theorem Good.lvd (G : Good p l c C base h) (hp : 0 < p) : Lvd (levs (liftsOf l) base) (l + 1) h := fun k hk => by
  have e : base[k]? = some (base.getD k []) := by
    rw [List.getD_eq_getElem?_getD]
    rw [List.getElem?_eq_getElem (by rw [G.len]; exact hk)]
    rfl
  unfold levs
  rw [List.getD_eq_getElem?_getD, List.getElem?_map, e]
  show (levelOf (liftsOf l) (base.getD k [])).getD (0, 0) = _
  rw [levelOf_ok hp (G.row k hk).1 (G.row k hk).2 hk (G.lev k hk)]
  rfl
theorem Good.hpos (G : Good p l c C base h) {j : Nat} (hj : j < l + 1) : lft j ≤ h j := by
  obtain ⟨d, hd, _⟩ := (G.lev j hj).top
  omega
end
/-- the conditions of the first n letters at all letter rows, and of letter n at the places up to i -/
def Cnd (l n i : Nat) : Nat → Nat → Prop := fun a b => 1 ≤ b ∧ ((a < n ∧ b ≤ l) ∨ (a = n ∧ b ≤ i))
theorem getD_row {m : Nat} (f : Nat → Row) {j : Nat} (hj : j < m) : ((List.range m).map f).getD j [] = f j := by
  simp [List.getD_eq_getElem?_getD, List.getElem?_map, List.getElem?_range hj]
theorem coR_map (g : Form → Form) (row : Row) (hg : g [] = []) (i d : Nat) : coR (row.map g) i d = (g (row.getD i [])).getD d 0 := by
  unfold coR
  simp only [List.getD_eq_getElem?_getD, List.getElem?_map]
  cases row[i]? <;> simp [hg]
theorem coR_zip (g : Form → Form → Form) (a b : Row) (hl : a.length = b.length) (hg : g [] [] = []) (i d : Nat) : coR (List.zipWith g a b) i d = (g (a.getD i []) (b.getD i [])).getD d 0 := by
  unfold coR
  simp only [List.getD_eq_getElem?_getD, List.getElem?_zipWith]
  cases e : a[i]? with
  | none =>
    have : b[i]? = none := by
      rw [List.getElem?_eq_none_iff] at e ⊢
      omega
    simp [this, hg]
  | some x =>
    have hi : i < b.length := by
      have := (List.getElem?_eq_some_iff.mp e).1
      omega
    rw [List.getElem?_eq_getElem hi]
    simp
theorem subF_nil (p : Int) : subF p [] [] = [] := by
  unfold subF scaledF addF
  split <;> simp
theorem mulC_nil (p c : Int) : mulC p [] c = [] := by simp [mulC]
theorem mulX_nil (p : Int) : mulX p [] = [] := by simp [mulX]
theorem mem_zip_red {p : Int} (hp : 0 < p) {a b : Row} (ha : ∀ f ∈ a, Red p f) (hb : ∀ f ∈ b, Red p f) : ∀ f ∈ List.zipWith (subF p) a b, Red p f := fun f hf => by
  obtain ⟨i, hi⟩ := List.getElem?_of_mem hf
  rw [List.getElem?_zipWith] at hi
  cases e1 : a[i]? with
  | none => rw [e1] at hi; simp at hi
  | some x =>
    cases e2 : b[i]? with
    | none => rw [e1, e2] at hi; simp at hi
    | some y =>
      rw [e1, e2] at hi
      have hxy : subF p x y = f := by simpa using hi
      rw [← hxy]
      exact red_subF hp (ha x (List.mem_of_getElem? e1)) (hb y (List.mem_of_getElem? e2))
section
variable {p : Int} {l : Nat} {c : Vec} {n i0 : Nat} {base : Base} {h : Nat → Int} {nums : List Int}
/-- the lowest row by its gap; what the step makes -/
theorem Good.grown (hp : p ∈ primes) (hi0 : i0 < l) (G : Good p l c (Cnd l n i0) base h) (hl : nums.length = l + 1) (hn : ∀ j, j < l + 1 → 0 ≤ nums.getD j 0 ∧ nums.getD j 0 < p ∧ p ∣ gap c n (i0 + 1) (coB base j) - nums.getD j 0) :
    ∃ k, pickLow (levs (liftsOf l) base) nums = some k ∧ k < l + 1 ∧ nums.getD k 0 ≠ 0 ∧ (∀ j, j < l + 1 → nums.getD j 0 ≠ 0 → j ≠ k → h k < h j ∨ (h k = h j ∧ k < j)) ∧
      Good p l c (Cnd l n (i0 + 1)) (grownBase p (liftsOf l) base nums) (fun j => if j = k then h k + 1 else h j) ∧
      (∀ d, p ∣ coB (grownBase p (liftsOf l) base nums) k 0 d - sh 1 (coB base k) 0 d) ∧
      (∀ j, j < l + 1 → j ≠ k → nums.getD j 0 = 0 → coB (grownBase p (liftsOf l) base nums) j = coB base j) := by
  obtain ⟨hp1, _⟩ := prime_pos hp
  have hp0 : 0 < p := by omega
  have P := pickLow_ok (G.lvd hp0) hl
  -- a row with a gap: the unit row of the place times x ** n
  have some_gap : ∃ j, j < l + 1 ∧ nums.getD j 0 ≠ 0 := by
    refine Classical.byContradiction fun no => ?_
    have z : ∀ j, j < l + 1 → nums.getD j 0 = 0 := fun j hj => Classical.byContradiction fun e => no ⟨j, hj, e⟩
    let e : Vec := fun i d => if i = i0 + 1 ∧ d = n then 1 else 0
    have ge : ∀ a b, gap c a b e = if b = i0 + 1 ∧ a = n then -1 else 0 := fun a b => by
      unfold gap
      rw [sumTo_zero _ fun x _ => by simp [e]]
      simp only [e]
      by_cases q : b = i0 + 1 ∧ a = n
      · rw [if_pos q, if_pos q]; rfl
      · rw [if_neg q, if_neg q]; rfl
    have s := G.gen ((n : Int) + 1) e (fun i d hd => by
      have : ¬ (i = i0 + 1 ∧ d = n) := fun q => by
        obtain ⟨q1, q2⟩ := q
        subst q1 q2
        simp [lft] at hd
      simp only [e]
      rw [if_neg this]; exact ⟨0, by simp⟩) (fun i d hi => by
      have : ¬ (i = i0 + 1 ∧ d = n) := fun q => by omega
      simp only [e]
      rw [if_neg this]; exact ⟨0, by simp⟩) (fun a b hab => by
      rw [ge, if_neg (fun q => by
        obtain ⟨q1, q2⟩ := q
        obtain ⟨_, h2⟩ := hab
        omega)]
      exact ⟨0, by simp⟩)
    have g0 := Spn.gap0 (c := c) (n := n) (i := i0 + 1) (by omega) (fun j hj k => by
      cases k with
      | zero =>
        rw [sh_zero]
        have := (hn j hj).2.2
        rw [z j hj] at this
        simpa using this
      | succ k => exact gap_sh (by omega) k n fun n' hn' => G.cond j hj n' (i0 + 1) ⟨by omega, .inl ⟨hn', by omega⟩⟩) s
    rw [ge, if_pos ⟨rfl, rfl⟩] at g0
    have := Int.le_of_dvd (by omega) ((Int.dvd_neg (a := p) (b := (1 : Int))).mp g0)
    omega
  cases ek : pickLow (levs (liftsOf l) base) nums with
  | none =>
    rw [ek] at P
    obtain ⟨j, hj, hne⟩ := some_gap
    exact absurd (P.none_ rfl j hj) hne
  | some k =>
    rw [ek] at P
    obtain ⟨hk, hnk, hlow⟩ := P.some_ k rfl
    have hlow2 : ∀ j, j < l + 1 → nums.getD j 0 ≠ 0 → j ≠ k → h k < h j ∨ (h k = h j ∧ k < j) := fun j hj hne hjk => (ltLex_eq (G.lvd hp0) hk hj).mp (hlow j hj hne hjk)
    have eg : grownBase p (liftsOf l) base nums = (List.range (l + 1)).map (newRow p base nums k) := by
      unfold grownBase
      rw [ek, G.len]
    have er : ∀ j, j < l + 1 → (grownBase p (liftsOf l) base nums).getD j [] = newRow p base nums k j := fun j hj => by rw [eg]; exact getD_row _ hj
    have erk : newRow p base nums k k = (base.getD k []).map (mulX p) := by unfold newRow; rw [if_pos rfl]
    let u := inv p (nums.getD k 0)
    have hu : p ∣ u * nums.getD k 0 - 1 := inv_ok hp (by have := (hn k hk).1; omega) (hn k hk).2.1
    have lens : ∀ j, j < l + 1 → (base.getD j []).length = ((base.getD k []).map fun f => mulC p f (nums.getD j 0 * inv p (nums.getD k 0) % p)).length := fun j hj => by
      rw [List.length_map, (G.row j hj).1, (G.row k hk).1]
    have corow : ∀ i d, p ∣ coB (grownBase p (liftsOf l) base nums) k i d - sh 1 (coB base k) i d := fun i d => by
      unfold coB
      rw [er k hk, erk, coR_map _ _ (mulX_nil p)]
      have := co_mulX (p := p) ((base.getD k []).getD i []) d
      exact this
    have corows : ∀ j, j < l + 1 → j ≠ k → ∀ i d, p ∣ coB (grownBase p (liftsOf l) base nums) j i d - (coB base j i d + (-(nums.getD j 0 * u)) * coB base k i d) := fun j hj hjk i d => by
      unfold coB
      rw [er j hj]
      unfold newRow
      rw [if_neg hjk]
      by_cases hz : nums.getD j 0 = 0
      · rw [if_neg (fun q => q hz), hz]
        exact ⟨0, by grind⟩
      · rw [if_pos hz, coR_zip _ _ _ (lens j hj) (subF_nil p)]
        have e1 := co_subF (p := p) ((base.getD j []).getD i []) (((base.getD k []).map fun f => mulC p f (nums.getD j 0 * inv p (nums.getD k 0) % p)).getD i []) d
        have e2 : (((base.getD k []).map fun f => mulC p f (nums.getD j 0 * inv p (nums.getD k 0) % p)).getD i []).getD d 0 = (mulC p ((base.getD k []).getD i []) (nums.getD j 0 * inv p (nums.getD k 0) % p)).getD d 0 := coR_map (fun f => mulC p f (nums.getD j 0 * inv p (nums.getD k 0) % p)) (base.getD k []) (mulC_nil p _) i d
        have e3 := co_mulC (p := p) ((base.getD k []).getD i []) (nums.getD j 0 * inv p (nums.getD k 0) % p) d
        have e4 := dvd_mod p (nums.getD j 0 * inv p (nums.getD k 0))
        rw [e2] at e1
        obtain ⟨q1, h1⟩ := e1
        obtain ⟨q3, h3⟩ := e3
        obtain ⟨q4, h4⟩ := e4
        refine ⟨q1 - q3 - ((base.getD k []).getD i []).getD d 0 * q4, ?_⟩
        show _ - (((base.getD j []).getD i []).getD d 0 + -(nums.getD j 0 * inv p (nums.getD k 0)) * ((base.getD k []).getD i []).getD d 0) = _
        grind
    let h' : Nat → Int := fun j => if j = k then h k + 1 else h j
    have hk' : h' k = h k + 1 := by simp [h']
    have hj' : ∀ j, j ≠ k → h' j = h j := fun j hj => by simp [h', hj]
    have S : Step p (l + 1) (coB base) (coB (grownBase p (liftsOf l) base nums)) h h' (fun j => nums.getD j 0) k u :=
      ⟨hk, hu, corow, corows, hk', fun j _ hj => hj' j hj, fun j hj hg => by
        by_cases q : j = k
        · subst q; exact Int.le_refl _
        · have hne : nums.getD j 0 ≠ 0 := fun z => hg (by show p ∣ nums.getD j 0; rw [z]; exact Int.dvd_zero p)
          have := hlow2 j hj hne q
          omega⟩
    -- the new rows meet the conditions
    have oldc : ∀ j, j < l + 1 → ∀ a b, Cnd l n i0 a b → p ∣ gap c a b (coB (grownBase p (liftsOf l) base nums) j) := fun j hj a b hab => by
      by_cases hjk : j = k
      · subst hjk
        have e := gap_lin (c := c) (n := a) (i := b) (p := p) (w := coB (grownBase p (liftsOf l) base nums) j) (v := sh 1 (coB base j)) (u := fun _ _ => 0) (k := 0) (fun i d => by simpa using corow i d)
        have e2 := gap_sh (p := p) (c := c) (v := coB base j) hab.1 0 a fun n' hn' => G.cond j hj n' b ⟨hab.1, by
          obtain ⟨_, hab2⟩ := hab
          rcases hab2 with q | q
          · exact .inl ⟨by omega, q.2⟩
          · exact .inl ⟨by omega, by omega⟩⟩
        obtain ⟨q1, h1⟩ := e
        obtain ⟨q2, h2⟩ := e2
        exact ⟨q1 + q2, by grind⟩
      · have e := gap_lin (c := c) (n := a) (i := b) (p := p) (corows j hj hjk)
        obtain ⟨q1, h1⟩ := e
        obtain ⟨q2, h2⟩ := G.cond j hj a b hab
        obtain ⟨q3, h3⟩ := G.cond k hk a b hab
        exact ⟨q1 + q2 + -(nums.getD j 0 * u) * q3, by grind⟩
    have newc : ∀ j, j < l + 1 → p ∣ gap c n (i0 + 1) (coB (grownBase p (liftsOf l) base nums) j) := fun j hj => by
      by_cases hjk : j = k
      · subst hjk
        have e := gap_lin (c := c) (n := n) (i := i0 + 1) (p := p) (w := coB (grownBase p (liftsOf l) base nums) j) (v := sh 1 (coB base j)) (u := fun _ _ => 0) (k := 0) (fun i d => by simpa using corow i d)
        have e2 := gap_sh (p := p) (c := c) (v := coB base j) (i := i0 + 1) (by omega) 0 n fun n' hn' => G.cond j hj n' (i0 + 1) ⟨by omega, .inl ⟨hn', by omega⟩⟩
        obtain ⟨q1, h1⟩ := e
        obtain ⟨q2, h2⟩ := e2
        exact ⟨q1 + q2, by grind⟩
      · have e := gap_lin (c := c) (n := n) (i := i0 + 1) (p := p) (corows j hj hjk)
        obtain ⟨q1, h1⟩ := e
        obtain ⟨q2, h2⟩ := (hn j hj).2.2
        obtain ⟨q3, h3⟩ := (hn k hk).2.2
        obtain ⟨q4, h4⟩ := hu
        refine ⟨q1 + q2 - nums.getD j 0 * u * q3 - nums.getD j 0 * q4, ?_⟩
        have e5 : nums.getD j 0 * (u * nums.getD k 0) = nums.getD j 0 * (1 + p * q4) := by
          rw [← h4]; grind
        grind
    refine ⟨k, rfl, hk, hnk, hlow2, ⟨by rw [eg]; simp, fun j hj => ?_, fun j hj => ?_, fun j hj a b hab => ?_, fun t v hs1 hs2 hc => ?_⟩, fun d => corow 0 d, fun j hj hjk hz => ?_⟩
    · rw [er j hj]
      unfold newRow
      by_cases hjk : j = k
      · rw [if_pos hjk]
        refine ⟨by rw [List.length_map, (G.row k hk).1], fun f hf => ?_⟩
        obtain ⟨g, _, rfl⟩ := List.mem_map.mp hf
        exact red_mulX hp0 g
      · rw [if_neg hjk]
        by_cases hz : nums.getD j 0 = 0
        · rw [if_neg (fun q => q hz)]; exact G.row j hj
        · rw [if_pos hz]
          refine ⟨by rw [List.length_zipWith, ← lens j hj, (G.row j hj).1]; simp, mem_zip_red hp0 (G.row j hj).2 fun f hf => ?_⟩
          obtain ⟨g, _, rfl⟩ := List.mem_map.mp hf
          exact red_mulC hp0 g _
    · show Lev p _ j (h' j)
      by_cases hjk : j = k
      · subst hjk
        rw [hk']
        obtain ⟨d, hd, hnz⟩ := (G.lev j hj).top
        refine ⟨⟨d + 1, by omega, fun z => hnz ?_⟩, fun i d' hd' => ?_⟩
        · obtain ⟨q1, h1⟩ := corow j (d + 1)
          obtain ⟨q2, h2⟩ := z
          have e : sh 1 (coB base j) j (d + 1) = coB base j j d := by simp [sh]
          rw [e] at h1
          exact ⟨q2 - q1, by grind⟩
        · obtain ⟨q1, h1⟩ := corow i d'
          cases d' with
          | zero =>
            have e : sh 1 (coB base j) i 0 = 0 := by simp [sh]
            rw [e] at h1
            exact ⟨q1, by grind⟩
          | succ d' =>
            have e : sh 1 (coB base j) i (d' + 1) = coB base j i d' := by simp [sh]
            rw [e] at h1
            obtain ⟨q2, h2⟩ := (G.lev j hj).above i d' (by omega)
            exact ⟨q1 + q2, by grind⟩
      · rw [hj' j hjk]
        by_cases hz : nums.getD j 0 = 0
        · have e : coB (grownBase p (liftsOf l) base nums) j = coB base j := by
            unfold coB
            rw [er j hj]
            unfold newRow
            rw [if_neg hjk, if_neg (fun q => q hz)]
          rw [e]; exact G.lev j hj
        · have hlo := hlow2 j hj hz hjk
          obtain ⟨d, hd, hnz⟩ := (G.lev j hj).top
          refine ⟨⟨d, hd, fun z => hnz ?_⟩, fun i d' hd' => ?_⟩
          · obtain ⟨q1, h1⟩ := corows j hj hjk j d
            obtain ⟨q2, h2⟩ := z
            obtain ⟨q3, h3⟩ := (G.lev k hk).above j d (by omega)
            exact ⟨q2 - q1 + (nums.getD j 0 * u) * q3, by grind⟩
          · obtain ⟨q1, h1⟩ := corows j hj hjk i d'
            obtain ⟨q2, h2⟩ := (G.lev j hj).above i d' hd'
            obtain ⟨q3, h3⟩ := (G.lev k hk).above i d' (by omega)
            exact ⟨q1 + q2 - (nums.getD j 0 * u) * q3, by grind⟩
    · obtain ⟨h1, h2⟩ := hab
      by_cases q : a = n ∧ b = i0 + 1
      · obtain ⟨qa, qb⟩ := q
        subst qa qb
        exact newc j hj
      · exact oldc j hj a b ⟨h1, by omega⟩
    · refine S.into (c := c) (n := n) (i := i0 + 1) (by omega) (hn k hk).2.2 (fun j hj kk => ?_) (G.gen t v hs1 hs2 fun a b hab => hc a b ⟨hab.1, by
        obtain ⟨_, q⟩ := hab
        omega⟩) (hc n (i0 + 1) ⟨by omega, .inr ⟨rfl, Nat.le_refl _⟩⟩)
      cases kk with
      | zero => rw [sh_zero]; exact newc j hj
      | succ kk => exact gap_sh (by omega) kk n fun n' hn' => oldc j hj n' (i0 + 1) ⟨by omega, .inl ⟨hn', by omega⟩⟩
    · unfold coB
      rw [er j hj]
      unfold newRow
      rw [if_neg hjk, if_neg (fun q => q hz)]
end
end FTM
/-! The bases of a room: heights, their sum, the least order. -/
namespace FTM
/-- letter k of the letter row at place i -/
def lv (cols : List (List Int)) : Vec := fun i k => (cols.getD k []).getD (i - 1) 0
def hOf (l : Nat) (base : Base) (j : Nat) : Int := ((levelOf (liftsOf l) (base.getD j [])).getD (0, 0)).1
section
variable {p : Int} {l : Nat} {c : Vec} {C : Nat → Nat → Prop} {base : Base} {h : Nat → Int}
theorem Good.hOf_eq (G : Good p l c C base h) (hp : 0 < p) {j : Nat} (hj : j < l + 1) : hOf l base j = h j := by
  unfold hOf
  rw [levelOf_ok hp (G.row j hj).1 (G.row j hj).2 hj (G.lev j hj)]
  rfl
theorem Spn.congr_h {m : Nat} {R : Nat → Vec} {h h' : Nat → Int} {t : Int} (e : ∀ j, j < m → h j = h' j) {v : Vec} (s : Spn p m R h t v) : Spn p m R h' t v := by
  induction s with
  | zero v hv => exact .zero v hv
  | add v w c j k hj hk _ hw ih => exact .add v w c j k hj (by rw [← e j hj]; exact hk) ih hw
theorem Good.congr_h {h' : Nat → Int} (G : Good p l c C base h) (e : ∀ j, j < l + 1 → h j = h' j) : Good p l c C base h' :=
  ⟨G.len, G.row, fun j hj => by rw [← e j hj]; exact G.lev j hj, G.cond, fun t v h1 h2 h3 => (G.gen t v h1 h2 h3).congr_h e⟩
theorem Good.congr_C {C' : Nat → Nat → Prop} (G : Good p l c C base h) (e : ∀ a b, C a b ↔ C' a b) : Good p l c C' base h :=
  ⟨G.len, G.row, G.lev, fun j hj a b hab => G.cond j hj a b ((e a b).mpr hab), fun t v h1 h2 h3 => G.gen t v h1 h2 fun a b hab => h3 a b ((e a b).mp hab)⟩
end
theorem unit_co (l j i d : Nat) (hj : j < l + 1) : coB (unitBase l) j i d = if i = j ∧ d = 0 then 1 else 0 := by
  unfold coB unitBase
  rw [getD_row _ hj]
  unfold coR unitRow
  simp only [List.getD_eq_getElem?_getD, List.getElem?_map]
  by_cases hi : i < l + 1
  · rw [List.getElem?_range hi]
    by_cases e : i = j
    · subst e
      cases d with
      | zero => simp
      | succ d => rw [if_neg (by omega)]; simp
    · simp [e]
  · have e : i ≠ j := by omega
    have er : (List.range (l + 1))[i]? = none := List.getElem?_eq_none_iff.mpr (by rw [List.length_range]; omega)
    rw [er]
    simp [e]
/-- any vector of a height is a sum of shifted unit rows -/
theorem unit_gen {p : Int} {l : Nat} {t : Int} : ∀ (N : Nat) (v : Vec), (∀ i d, N ≤ d → p ∣ v i d) → (∀ i d : Nat, (d : Int) + lft i > t → p ∣ v i d) → (∀ i d, l + 1 ≤ i → p ∣ v i d) → Spn p (l + 1) (coB (unitBase l)) lft t v := by
  intro N
  induction N with
  | zero => exact fun v h _ _ => .zero v fun i d => h i d (Nat.zero_le _)
  | succ N ih =>
    intro v h0 h1 h2
    -- place by place at the degree N
    have key : ∀ (m : Nat) (v : Vec), m ≤ l + 1 → (∀ i d, N + 1 ≤ d → p ∣ v i d) → (∀ i, m ≤ i → p ∣ v i N) → (∀ i d : Nat, (d : Int) + lft i > t → p ∣ v i d) → (∀ i d, l + 1 ≤ i → p ∣ v i d) → Spn p (l + 1) (coB (unitBase l)) lft t v := by
      intro m
      induction m with
      | zero =>
        intro v _ g0 g1 g2 g3
        refine ih v (fun i d hd => ?_) g2 g3
        by_cases e : d = N
        · subst e; exact g1 i (Nat.zero_le _)
        · exact g0 i d (by omega)
      | succ m ihm =>
        intro v hm g0 g1 g2 g3
        by_cases e : p ∣ v m N
        · refine ihm v (by omega) g0 (fun i hi => ?_) g2 g3
          by_cases q : i = m
          · subst q; exact e
          · exact g1 i (by omega)
        · have hle : ¬ ((N : Int) + lft m > t) := fun z => e (g2 m N z)
          refine .add (fun i d => if i = m ∧ d = N then 0 else v i d) v (v m N) m N (by omega) (by omega) (ihm _ (by omega) (fun i d hd => ?_) (fun i hi => ?_) (fun i d hd => ?_) (fun i d hi => ?_)) (fun i d => ?_)
          · by_cases q : i = m ∧ d = N
            · simp only [if_pos q]; exact Int.dvd_zero p
            · simp only [if_neg q]; exact g0 i d hd
          · show p ∣ (if i = m ∧ N = N then 0 else v i N)
            by_cases q : i = m
            · rw [if_pos ⟨q, rfl⟩]; exact Int.dvd_zero p
            · rw [if_neg (fun z => q z.1)]; exact g1 i (by omega)
          · by_cases q : i = m ∧ d = N
            · simp only [if_pos q]; exact Int.dvd_zero p
            · simp only [if_neg q]; exact g2 i d hd
          · by_cases q : i = m ∧ d = N
            · simp only [if_pos q]; exact Int.dvd_zero p
            · simp only [if_neg q]; exact g3 i d hi
          · refine ⟨0, ?_⟩
            unfold sh
            by_cases hd : d < N
            · rw [if_pos hd, if_neg (fun z => by omega)]
              grind
            · rw [if_neg hd, unit_co l m i (d - N) (by omega)]
              by_cases q : i = m ∧ d = N
              · obtain ⟨q1, q2⟩ := q
                subst q1 q2
                simp
              · rw [if_neg q, if_neg (fun z => q ⟨z.1, by omega⟩)]
                grind
    exact key (l + 1) v (Nat.le_refl _) h0 (fun i hi => h2 i N hi) h1 h2
theorem lft_nonneg (i : Nat) : 0 ≤ lft i := by unfold lft; split <;> omega
theorem good_unit {p : Int} {l : Nat} {c : Vec} (hp : 1 < p) : Good p l c (Cnd l 0 0) (unitBase l) lft := by
  refine ⟨by simp [unitBase], fun j hj => ?_, fun j hj => ⟨⟨0, by simp, fun z => ?_⟩, fun i d hd => ?_⟩, fun j hj a b hab => ?_, fun t v h1 h2 _ => ?_⟩
  · unfold unitBase
    rw [getD_row _ hj]
    refine ⟨by simp [unitRow], fun f hf => ?_⟩
    obtain ⟨a, _, rfl⟩ := List.mem_map.mp hf
    by_cases e : a = j
    · rw [if_pos e]
      exact ⟨fun x hx => by simp at hx; omega, fun n hn => by
        have : n = 0 := by simpa using hn.symm
        subst this
        simp⟩
    · rw [if_neg e]; exact Red.nil
  · rw [unit_co l j j 0 hj, if_pos ⟨rfl, rfl⟩] at z
    have := Int.le_of_dvd (by omega) z
    omega
  · rw [unit_co l j i d hj]
    by_cases e : i = j ∧ d = 0
    · obtain ⟨e1, e2⟩ := e
      subst e1 e2
      omega
    · rw [if_neg e]; exact ⟨0, by simp⟩
  · obtain ⟨q1, q2⟩ := hab
    omega
  · refine unit_gen (t + 1).toNat v (fun i d hd => h1 i d ?_) h1 h2
    have := lft_nonneg i
    omega
theorem sum_range (f : Nat → Int) : ∀ n, ((List.range n).map f).sum = sumTo n f
  | 0 => rfl
  | n + 1 => by
    rw [List.range_succ, List.map_append, List.sum_append, sum_range f n]
    simp [sumTo]
theorem sumTo_min {f : Nat → Int} {m n : Nat} (h : ∀ a, m ≤ a → f a = 0) : sumTo (min m n) f = sumTo n f := by
  induction n with
  | zero => simp [sumTo]
  | succ n ih =>
    by_cases e : n < m
    · have e2 : min m (n + 1) = n + 1 := by omega
      rw [e2]
    · have e1 : min m (n + 1) = m := by omega
      have e2 : min m n = m := by omega
      rw [e1]
      rw [e2] at ih
      show _ = sumTo n f + f n
      rw [← ih, h n (by omega)]
      omega
theorem getD_take {α : Type} (xs : List α) (d : α) {n k : Nat} (h : k < n) : (xs.take n).getD k d = xs.getD k d := by
  simp only [List.getD_eq_getElem?_getD, List.getElem?_take, if_pos h]
/-- the gap that the package reckons -/
theorem gapAt_ok {p : Int} (hp : 0 < p) (row : Row) (i0 n : Nat) (cols : List (List Int)) (hn : n < cols.length) :
    0 ≤ gapAt p row (i0 + 1) ((cols.take (n + 1)).map fun c => c.getD i0 0) ∧ gapAt p row (i0 + 1) ((cols.take (n + 1)).map fun c => c.getD i0 0) < p ∧ p ∣ gap (lv cols) n (i0 + 1) (coR row) - gapAt p row (i0 + 1) ((cols.take (n + 1)).map fun c => c.getD i0 0) := by
  have hlen : ((cols.take (n + 1)).map fun c => c.getD i0 0).length = n + 1 := by simp; omega
  have e : gapAt p row (i0 + 1) ((cols.take (n + 1)).map fun c => c.getD i0 0) = gap (lv cols) n (i0 + 1) (coR row) % p := by
    unfold gapAt gap
    rw [hlen, sum_range, sumTo_min (f := fun a => (row.getD 0 []).getD a 0 * ((cols.take (n + 1)).map fun c => c.getD i0 0).getD (n + 1 - 1 - a) 0) (m := (row.getD 0 []).length) (n := n + 1) (fun a ha => by rw [getD_big ha]; simp)]
    have e1 : ∀ a, a < n + 1 → (row.getD 0 []).getD a 0 * ((cols.take (n + 1)).map fun c => c.getD i0 0).getD (n + 1 - 1 - a) 0 = coR row 0 a * lv cols (i0 + 1) (n - a) := fun a ha => by
      unfold coR lv
      have e3 : ((cols.take (n + 1)).map fun c => c.getD i0 0).getD (n + 1 - 1 - a) 0 = ((cols.take (n + 1)).getD (n - a) []).getD i0 0 := by
        have : n + 1 - 1 - a = n - a := by omega
        rw [this]
        simp only [List.getD_eq_getElem?_getD, List.getElem?_map]
        cases (cols.take (n + 1))[n - a]? <;> simp
      rw [e3, getD_take cols [] (by omega)]
      congr 1
    rw [sumTo_congr _ e1]
    have e2 : (if n + 1 - 1 < (row.getD (i0 + 1) []).length then (row.getD (i0 + 1) []).getD (n + 1 - 1) 0 else 0) = coR row (i0 + 1) n := by
      unfold coR
      by_cases q : n < (row.getD (i0 + 1) []).length
      · rw [if_pos (by omega)]; simp
      · rw [if_neg (by omega), getD_big (by omega)]
    rw [e2]
  rw [e]
  refine ⟨Int.emod_nonneg _ (by omega), Int.emod_lt_of_pos _ hp, ?_⟩
  obtain ⟨q, hq⟩ := dvd_mod p (gap (lv cols) n (i0 + 1) (coR row))
  exact ⟨-q, by grind⟩
/-- the gaps of a base at a place -/
def gapsOf (p : Int) (cols : List (List Int)) (n i0 : Nat) (base : Base) : List Int := base.map fun row => gapAt p row (i0 + 1) ((cols.take (n + 1)).map fun c => c.getD i0 0)
theorem gapsOf_ok {p : Int} (hp : 0 < p) {l : Nat} {base : Base} (hb : base.length = l + 1) (cols : List (List Int)) {n i0 : Nat} (hn : n < cols.length) :
    (gapsOf p cols n i0 base).length = l + 1 ∧ ∀ j, j < l + 1 → 0 ≤ (gapsOf p cols n i0 base).getD j 0 ∧ (gapsOf p cols n i0 base).getD j 0 < p ∧ p ∣ gap (lv cols) n (i0 + 1) (coB base j) - (gapsOf p cols n i0 base).getD j 0 := by
  refine ⟨by simp [gapsOf, hb], fun j hj => ?_⟩
  have e : (gapsOf p cols n i0 base).getD j 0 = gapAt p (base.getD j []) (i0 + 1) ((cols.take (n + 1)).map fun c => c.getD i0 0) := by
    unfold gapsOf
    simp only [List.getD_eq_getElem?_getD, List.getElem?_map]
    rw [List.getElem?_eq_getElem (by rw [hb]; exact hj)]
    simp
  rw [e]
  exact gapAt_ok hp _ i0 n cols hn
def hsum (l : Nat) (h : Nat → Int) : Int := sumTo (l + 1) h
theorem sumTo_bump (h : Nat → Int) (k : Nat) : ∀ n, sumTo n (fun j => if j = k then h k + 1 else h j) = sumTo n h + if k < n then 1 else 0
  | 0 => by simp [sumTo]
  | n + 1 => by
    show sumTo n (fun j => if j = k then h k + 1 else h j) + (if n = k then h k + 1 else h n) = sumTo n h + h n + _
    rw [sumTo_bump h k n]
    by_cases e : n = k
    · subst e
      rw [if_pos rfl, if_neg (by omega), if_pos (by omega)]
      omega
    · rw [if_neg e]
      by_cases q : k < n
      · rw [if_pos q, if_pos (by omega)]; omega
      · rw [if_neg q, if_neg (by omega)]; omega
/-- one column more -/
theorem next_ok {p : Int} (hp : p ∈ primes) {l : Nat} {cols : List (List Int)} {n : Nat} (hn : n < cols.length) {base : Base} {h : Nat → Int} (G : Good p l (lv cols) (Cnd l n 0) base h) :
    ∀ i, i ≤ l → ∃ h', Good p l (lv cols) (Cnd l n i) ((List.range i).foldl (placeStep p l (cols.take (n + 1))) base) h' ∧ (∀ j, h j ≤ h' j) ∧ hsum l h' = hsum l h + i := by
  intro i
  induction i with
  | zero => exact fun _ => ⟨h, G, fun _ => Int.le_refl _, by simp⟩
  | succ i ih =>
    intro hi
    obtain ⟨h1, G1, m1, s1⟩ := ih (by omega)
    obtain ⟨hl, hg⟩ := gapsOf_ok (prime_pos hp |>.1 |> fun z => (by omega : 0 < p)) G1.len cols (n := n) (i0 := i) hn
    obtain ⟨k, _, hk, _, _, G2, _, _⟩ := G1.grown hp (by omega) hl hg
    refine ⟨_, by rw [List.range_succ, List.foldl_append]; exact G2, fun j => ?_, ?_⟩
    · have := m1 j
      by_cases e : j = k
      · subst e; rw [if_pos rfl]; omega
      · rw [if_neg e]; exact this
    · show sumTo (l + 1) _ = _
      rw [sumTo_bump h1 k (l + 1), if_pos hk]
      have : hsum l h1 = sumTo (l + 1) h1 := rfl
      rw [← this, s1]
      omega
theorem cnd_next (l n a b : Nat) : Cnd l n l a b ↔ Cnd l (n + 1) 0 a b := by
  unfold Cnd
  omega
/-- the base for n columns -/
theorem base_ok {p : Int} (hp : p ∈ primes) {l : Nat} {cols : List (List Int)} : ∀ n, n ≤ cols.length → Good p l (lv cols) (Cnd l n 0) (baseAt p l cols n) (hOf l (baseAt p l cols n)) ∧ hsum l (hOf l (baseAt p l cols n)) = (l : Int) * (n + 1) ∧
    (∀ m, n = m + 1 → ∀ j, j < l + 1 → hOf l (baseAt p l cols m) j ≤ hOf l (baseAt p l cols n) j) := by
  have hp0 : 0 < p := by have := (prime_pos hp).1; omega
  have hs : ∀ {h h' : Nat → Int}, (∀ j, j < l + 1 → h j = h' j) → hsum l h = hsum l h' := fun e => sumTo_congr _ e
  intro n
  induction n with
  | zero =>
    intro _
    have G : Good p l (lv cols) (Cnd l 0 0) (unitBase l) lft := good_unit (prime_pos hp).1
    have e : ∀ j, j < l + 1 → lft j = hOf l (unitBase l) j := fun j hj => (G.hOf_eq hp0 hj).symm
    refine ⟨G.congr_h e, ?_, fun m hm => by omega⟩
    show hsum l (hOf l (unitBase l)) = _
    rw [← hs e]
    show sumTo (l + 1) lft = _
    have : ∀ n, sumTo (n + 1) lft = (n : Int) := by
      intro n
      induction n with
      | zero => rfl
      | succ n ih =>
        show sumTo (n + 1) lft + lft (n + 1) = _
        rw [ih]
        simp [lft]
    rw [this l]
    simp
  | succ n ih =>
    intro hn
    obtain ⟨G, s, _⟩ := ih (by omega)
    obtain ⟨h', G', m', s'⟩ := next_ok hp (by omega) G l (Nat.le_refl _)
    have G2 : Good p l (lv cols) (Cnd l (n + 1) 0) (baseAt p l cols (n + 1)) h' := G'.congr_C (cnd_next l n)
    have e : ∀ j, j < l + 1 → h' j = hOf l (baseAt p l cols (n + 1)) j := fun j hj => (G2.hOf_eq hp0 hj).symm
    refine ⟨G2.congr_h e, ?_, fun m hm j hj => ?_⟩
    · rw [← hs e, s', s, show ((n + 1 : Nat) : Int) = (n : Int) + 1 by omega, Int.mul_add, Int.mul_add, Int.mul_add]
      omega
    · have : m = n := by omega
      subst this
      rw [← e j hj]
      exact m' j
end FTM
/-! The least order against the rules; the law's own equations. -/
namespace FTM
/-- q is a rule of order e for the first N letters of the letter rows 1 to l -/
def IsRule (p : Int) (l : Nat) (c : Vec) (N e : Nat) (q : Nat → Int) : Prop :=
  q 0 = 1 ∧ ∀ i n, 1 ≤ i → i ≤ l → e ≤ n → n < N → p ∣ sumTo (e + 1) fun k => q k * c i (n - k)
theorem rule_all (p : Int) (l : Nat) (c : Vec) (N : Nat) : IsRule p l c N N fun k => if k = 0 then 1 else 0 :=
  ⟨by simp, fun i n _ _ h1 h2 => by omega⟩
section
variable {p : Int} {l : Nat} {c : Vec} {N : Nat} {base : Base} {h : Nat → Int}
/-- a rule of order e: a row with a constant of height at most e -/
theorem Good.of_rule (G : Good p l c (Cnd l N 0) base h) (hp : 1 < p) {e : Nat} {q : Nat → Int} (R : IsRule p l c N e q) : ∃ j, j < l + 1 ∧ h j ≤ e ∧ ¬ p ∣ coB base j 0 0 := by
  let v0 : Nat → Int := fun a => if a ≤ e then q a else 0
  let v : Vec := fun i d => if i = 0 then v0 d else if i ≤ l ∧ d < e then sumTo (d + 1) fun a => v0 a * c i (d - a) else 0
  have s := G.gen (e : Int) v (fun i d hd => ?_) (fun i d hi => ?_) (fun n i hc => ?_)
  · refine s.const fun z => ?_
    have : v 0 0 = 1 := by simp [v, v0, R.1]
    rw [this] at z
    have := Int.le_of_dvd (by omega) z
    omega
  · by_cases hi : i = 0
    · subst hi
      have : ¬ d ≤ e := by simp [lft] at hd; omega
      simp only [v, v0, if_true, if_neg this]
      exact Int.dvd_zero p
    · have : ¬ d < e := by simp [lft, hi] at hd; omega
      simp only [v, if_neg hi, if_neg (fun z : i ≤ l ∧ d < e => this z.2)]
      exact Int.dvd_zero p
  · have h1 : i ≠ 0 := by omega
    have h2 : ¬ (i ≤ l ∧ d < e) := fun z => by omega
    simp only [v, if_neg h1, if_neg h2]
    exact Int.dvd_zero p
  · have hi1 : i ≠ 0 := by unfold Cnd at hc; omega
    have hi2 : i ≤ l := by unfold Cnd at hc; omega
    have hn : n < N := by unfold Cnd at hc; omega
    have ev : ∀ a, v 0 a = v0 a := fun a => by simp [v]
    unfold gap
    rw [sumTo_congr _ fun a _ => by rw [ev a]]
    by_cases hne : n < e
    · have : v i n = sumTo (n + 1) fun a => v0 a * c i (n - a) := by simp only [v, if_neg hi1, if_pos (And.intro hi2 hne)]
      rw [this]
      exact ⟨0, by omega⟩
    · have : v i n = 0 := by simp only [v, if_neg hi1, if_neg (fun z : i ≤ l ∧ n < e => hne z.2)]
      rw [this]
      obtain ⟨w1, hw1⟩ := R.2 i n (by omega) hi2 (by omega) hn
      obtain ⟨w2, hw2⟩ := sumTo_more (p := p) (f := fun a => v0 a * c i (n - a)) (m := e + 1) (n + 1) (by omega) (fun a h1 h2 => by
        have : ¬ a ≤ e := by omega
        simp only [v0, if_neg this]
        exact ⟨0, by simp⟩)
      have e3 : sumTo (e + 1) (fun a => v0 a * c i (n - a)) = sumTo (e + 1) fun k => q k * c i (n - k) := sumTo_congr _ fun a ha => by
        have : a ≤ e := by omega
        simp only [v0, if_pos this]
      exact ⟨w1 + w2, by grind⟩
theorem mod_inv {p : Int} (hp : p ∈ primes) {a : Int} (h : ¬ p ∣ a) : ∃ u, p ∣ u * a - 1 := by
  have hp0 : 0 < p := by have := (prime_pos hp).1; omega
  have h1 := Int.emod_nonneg a (b := p) (by omega)
  have h2 := Int.emod_lt_of_pos a hp0
  have h3 : a % p ≠ 0 := fun z => h (Int.dvd_of_emod_eq_zero z)
  obtain ⟨q, hq⟩ := inv_ok hp (r := a % p) (by omega) h2
  obtain ⟨w, hw⟩ := dvd_mod p a
  exact ⟨inv p (a % p), q - inv p (a % p) * w, by grind⟩
/-- a row with a constant of height e tells a rule of order e -/
theorem Good.to_rule (G : Good p l c (Cnd l N 0) base h) (hp : p ∈ primes) {j e : Nat} (hj : j < l + 1) (he : h j = e) (hc : ¬ p ∣ coB base j 0 0) : ∃ q, IsRule p l c N e q := by
  obtain ⟨u, hu⟩ := mod_inv hp hc
  refine ⟨fun k => if k = 0 then 1 else u * coB base j 0 k, by simp, fun i n h1 h2 h3 h4 => ?_⟩
  have g := G.cond j hj n i ⟨h1, .inl ⟨h4, h2⟩⟩
  unfold gap at g
  have z1 : p ∣ coB base j i n := (G.lev j hj).above i n (.inl (by
    have : lft i = 1 := by unfold lft; rw [if_neg (by omega)]
    omega))
  have z2 := sumTo_more (p := p) (f := fun a => coB base j 0 a * c i (n - a)) (m := e + 1) (n + 1) (by omega) (fun a h1 h2 => by
    obtain ⟨w, hw⟩ := (G.lev j hj).above 0 a (.inl (by simp [lft]; omega))
    exact ⟨w * c i (n - a), by grind⟩)
  have z3 : p ∣ sumTo (e + 1) (fun a => coB base j 0 a * c i (n - a)) := by
    obtain ⟨w1, e1⟩ := g
    obtain ⟨w2, e2⟩ := z1
    obtain ⟨w3, e3⟩ := z2
    exact ⟨w1 + w2 - w3, by grind⟩
  have z4 : p ∣ sumTo (e + 1) (fun k => (if k = 0 then 1 else u * coB base j 0 k) * c i (n - k)) - u * sumTo (e + 1) (fun a => coB base j 0 a * c i (n - a)) := by
    rw [← sumTo_mul, ← sumTo_sub]
    refine sumTo_dvd _ fun a _ => ?_
    by_cases ha : a = 0
    · subst ha
      obtain ⟨w, hw⟩ := hu
      exact ⟨-(w * c i (n - 0)), by rw [if_pos rfl]; grind⟩
    · exact ⟨0, by rw [if_neg ha]; grind⟩
  obtain ⟨w1, e1⟩ := z3
  obtain ⟨w2, e2⟩ := z4
  exact ⟨w2 + u * w1, by grind⟩
end
/-! ### the least order that the package reckons -/
def hasConst (row : Row) : Bool := decide (row.getD 0 [] ≠ []) && decide ((row.getD 0 []).getD 0 0 ≠ 0)
def rowH (l : Nat) (row : Row) : Int := ((levelOf (liftsOf l) row).getD (0, 0)).1
def constHs (l : Nat) (base : Base) : List Int := (base.filter hasConst).map (rowH l)
def minOf : List Int → Int
  | [] => 0
  | [x] => x
  | x :: xs => if x ≤ minOf xs then x else minOf xs
theorem minOf_mem : ∀ xs : List Int, xs ≠ [] → minOf xs ∈ xs
  | [], h => absurd rfl h
  | [x], _ => by simp [minOf]
  | x :: y :: ys, _ => by
    unfold minOf
    by_cases e : x ≤ minOf (y :: ys)
    · rw [if_pos e]; simp
    · rw [if_neg e]; exact List.mem_cons_of_mem _ (minOf_mem (y :: ys) (by simp))
theorem minOf_le : ∀ (xs : List Int) (y : Int), y ∈ xs → minOf xs ≤ y
  | [], y, h => by simp at h
  | [x], y, h => by
    have : y = x := by simpa using h
    rw [this]; exact Int.le_refl _
  | x :: z :: zs, y, h => by
    unfold minOf
    by_cases e : x ≤ minOf (z :: zs)
    · rw [if_pos e]
      rcases List.mem_cons.mp h with h | h
      · omega
      · have := minOf_le (z :: zs) y h
        omega
    · rw [if_neg e]
      rcases List.mem_cons.mp h with h | h
      · omega
      · exact minOf_le (z :: zs) y h
theorem minOf_eq {xs : List Int} {m : Int} (h : m ∈ xs) (h2 : ∀ y, y ∈ xs → m ≤ y) : m = minOf xs := by
  have a := minOf_le xs m h
  have b := h2 _ (minOf_mem xs (fun z => by rw [z] at h; simp at h))
  omega
def leastOf (l : Nat) (base : Base) : Int := minOf (constHs l base)
section
variable {p : Int} {l : Nat} {c : Vec} {N : Nat} {base : Base} {h : Nat → Int}
theorem Good.const_iff (G : Good p l c (Cnd l N 0) base h) (hp : 0 < p) {j : Nat} (hj : j < l + 1) : hasConst (base.getD j []) = true ↔ ¬ p ∣ coB base j 0 0 := by
  have red : Red p ((base.getD j []).getD 0 []) := by
    have hm : ((base.getD j []).getD 0 []) ∈ base.getD j [] := by
      rw [List.getD_eq_getElem?_getD (a := ([] : Form))]
      have : 0 < (base.getD j []).length := by rw [(G.row j hj).1]; omega
      rw [List.getElem?_eq_getElem this]
      exact List.getElem_mem this
    exact (G.row j hj).2 _ hm
  have e := red.zero hp (d := 0)
  unfold hasConst coB coR
  rw [e]
  simp only [Bool.and_eq_true, decide_eq_true_eq]
  refine ⟨fun z => z.2, fun z => ⟨fun q => z (by rw [q]; rfl), z⟩⟩
theorem Good.mem_const (G : Good p l c (Cnd l N 0) base h) (hp : 0 < p) (y : Int) : y ∈ constHs l base ↔ ∃ j, j < l + 1 ∧ ¬ p ∣ coB base j 0 0 ∧ y = h j := by
  unfold constHs
  simp only [List.mem_map, List.mem_filter]
  refine ⟨fun ⟨row, ⟨h1, h2⟩, h3⟩ => ?_, fun ⟨j, hj, h1, h2⟩ => ?_⟩
  · obtain ⟨j, hj⟩ := List.getElem?_of_mem h1
    have hj2 : j < l + 1 := by rw [← G.len]; exact (List.getElem?_eq_some_iff.mp hj).1
    have e : base.getD j [] = row := by rw [List.getD_eq_getElem?_getD, hj]; rfl
    rw [← e] at h2 h3
    refine ⟨j, hj2, (G.const_iff hp hj2).mp h2, ?_⟩
    rw [← h3]
    exact G.hOf_eq hp hj2
  · have hm : base.getD j [] ∈ base := by
      rw [List.getD_eq_getElem?_getD]
      have : j < base.length := by rw [G.len]; exact hj
      rw [List.getElem?_eq_getElem this]
      exact List.getElem_mem this
    exact ⟨_, ⟨hm, (G.const_iff hp hj).mpr h1⟩, by rw [h2]; exact G.hOf_eq hp hj⟩
theorem Good.const_ne (G : Good p l c (Cnd l N 0) base h) (hp : 1 < p) : constHs l base ≠ [] := fun z => by
  obtain ⟨j, hj, _, hc⟩ := G.of_rule hp (rule_all p l c N)
  have := (G.mem_const (by omega) (h j)).mpr ⟨j, hj, hc, rfl⟩
  rw [z] at this
  simp at this
/-- the least order: a row's height; below every such; a rule's order, below every rule's -/
theorem Good.least (G : Good p l c (Cnd l N 0) base h) (hp : p ∈ primes) : ∃ e j : Nat, leastOf l base = e ∧ j < l + 1 ∧ ¬ p ∣ coB base j 0 0 ∧ h j = e ∧ (∀ k, k < l + 1 → ¬ p ∣ coB base k 0 0 → (e : Int) ≤ h k) ∧ e ≤ N ∧ (∃ q, IsRule p l c N e q) ∧ ∀ e' q, IsRule p l c N e' q → e ≤ e' := by
  have hp1 := (prime_pos hp).1
  have hm := minOf_mem _ (G.const_ne hp1)
  obtain ⟨j, hj, hc, hh⟩ := (G.mem_const (by omega) _).mp hm
  have h0 : 0 ≤ h j := Int.le_trans (lft_nonneg j) (G.hpos hj)
  have ee : h j = ((h j).toNat : Int) := by omega
  have lo : ∀ k, k < l + 1 → ¬ p ∣ coB base k 0 0 → ((h j).toNat : Int) ≤ h k := fun k hk hck => by
    have := minOf_le _ _ ((G.mem_const (by omega) (h k)).mpr ⟨k, hk, hck, rfl⟩)
    omega
  have below : ∀ e' q, IsRule p l c N e' q → (h j).toNat ≤ e' := fun e' q R => by
    obtain ⟨k, hk, h1, h2⟩ := G.of_rule hp1 R
    have := lo k hk h2
    omega
  exact ⟨(h j).toNat, j, by unfold leastOf; omega, hj, hc, ee, lo, below N _ (rule_all p l c N), G.to_rule hp hj ee hc, below⟩
end
/-! ### the law's own equations -/
def lawInv (p v : Int) : Int := (((List.range (p - 1).toNat).map fun i => (1 : Int) + (i : Nat)).filter fun k => v * k % p == 1).headD 0
theorem lawInv_all : (primes.all fun p => (List.range p.toNat).all fun v => v == 0 || ((v : Int) * lawInv p v % p == 1 && !((((List.range (p - 1).toNat).map fun i => (1 : Int) + (i : Nat)).filter fun k => (v : Int) * k % p == 1).isEmpty))) = true := by decide +kernel
theorem lawInv_ok {p v : Int} (hp : p ∈ primes) (h0 : 0 < v) (h1 : v < p) : v * lawInv p v % p = 1 ∧ (((List.range (p - 1).toNat).map fun i => (1 : Int) + (i : Nat)).filter fun k => v * k % p == 1) ≠ [] := by
  have a := List.all_eq_true.mp lawInv_all p hp
  have b := List.all_eq_true.mp a v.toNat (List.mem_range.mpr (by omega))
  have e : ((v.toNat : Nat) : Int) = v := by omega
  simp only [e, Bool.or_eq_true, Bool.and_eq_true, beq_iff_eq, Bool.not_eq_true', List.isEmpty_eq_false_iff] at b
  rcases b with b | b
  · omega
  · exact b
abbrev Found := List (Int × List Int)
def redStep (p : Int) (e : Nat) (s : Found × List Int) (at_ : Nat) : Found × List Int :=
  if s.2.getD at_ 0 ≠ 0 then match s.1.lookup (at_ : Int) with
    | some old => (s.1, (List.range (e + 1)).map fun k => (s.2.getD k 0 - s.2.getD at_ 0 * old.getD k 0) % p)
    | none => (s.1 ++ [((at_ : Int), s.2.map fun v => v * lawInv p (s.2.getD at_ 0) % p)], s.2.map fun _ => 0)
  else s
def redLine (p : Int) (e : Nat) (s : Found × List Int) : Found × List Int := (List.range e).foldl (fun s i => redStep p e s (e - i)) s
def lineOf (cells : List (List Int)) (e n c : Nat) : List Int := (List.range (e + 1)).map fun k => (cells.getD (n - k) []).getD c 0
def pivStep (p : Int) (cells : List (List Int)) (e n : Nat) (f : Found) (c : Nat) : Option Found :=
  if (redLine p e (f, lineOf cells e n c)).2.getD 0 0 ≠ 0 then none else some (redLine p e (f, lineOf cells e n c)).1
def pivCol (p : Int) (l : Nat) (cells : List (List Int)) (e : Nat) (f : Found) (i : Nat) : Option Found := (List.range l).foldlM (pivStep p cells e (e + i)) f
def pivots (p : Int) (l : Nat) (cells : List (List Int)) (e : Nat) : Option Found := (List.range (cells.length - e)).foldlM (pivCol p l cells e) []
def lawLeast (p : Int) (l : Nat) (cells : List (List Int)) : Nat := ((List.range cells.length).find? fun e => (pivots p l cells e).isSome).getD cells.length
/-- an equation -/
def Eqn (p : Int) (e : Nat) (q : Nat → Int) (line : List Int) : Prop := p ∣ sumTo (e + 1) fun k => q k * line.getD k 0
def Sol (p : Int) (e : Nat) (q : Nat → Int) (f : Found) : Prop := ∀ x ∈ f, Eqn p e q x.2
structure FOk (p : Int) (e : Nat) (f : Found) : Prop where
  nd : (f.map (·.1)).Nodup
  mem : ∀ x ∈ f, ∃ a : Nat, x.1 = (a : Int) ∧ 1 ≤ a ∧ a ≤ e ∧ p ∣ x.2.getD a 0 - 1 ∧ ∀ k, a < k → k ≤ e → p ∣ x.2.getD k 0
def LineOk (p : Int) (e : Nat) (line : List Int) : Prop := line.length = e + 1 ∧ ∀ x ∈ line, 0 ≤ x ∧ x < p
theorem LineOk.co {p : Int} {e : Nat} {line : List Int} (hp : 0 < p) (L : LineOk p e line) (k : Nat) : 0 ≤ line.getD k 0 ∧ line.getD k 0 < p := by
  rw [List.getD_eq_getElem?_getD]
  cases q : line[k]? with
  | none => simpa using hp
  | some x => simpa using L.2 x (List.mem_of_getElem? q)
theorem getD_mapR (f : Nat → Int) {n k : Nat} (h : k < n) : ((List.range n).map f).getD k 0 = f k := by
  simp [List.getD_eq_getElem?_getD, List.getElem?_range h]
theorem getD_mapL (f : Int → Int) (xs : List Int) {k : Nat} (h : k < xs.length) : (xs.map f).getD k 0 = f (xs.getD k 0) := by
  simp [List.getD_eq_getElem?_getD, List.getElem?_eq_getElem h]
structure RedOk (p : Int) (e : Nat) (s0 s : Found × List Int) (at_ : Nat) : Prop where
  f : FOk p e s.1
  line : LineOk p e s.2
  zero : ∀ k, at_ < k → k ≤ e → s.2.getD k 0 = 0
  same : ∀ q : Nat → Int, (Sol p e q s.1 ∧ Eqn p e q s.2) ↔ (Sol p e q s0.1 ∧ Eqn p e q s0.2)
theorem lookup_mem {f : Found} {a : Int} {old : List Int} : f.lookup a = some old → (a, old) ∈ f := by
  induction f with
  | nil => intro h; simp at h
  | cons x f ih =>
    obtain ⟨b, o⟩ := x
    intro h
    rw [List.lookup_cons] at h
    by_cases e : a = b
    · subst e
      simp at h
      subst h
      simp
    · have : (a == b) = false := by simpa using e
      rw [this] at h
      exact List.mem_cons_of_mem _ (ih h)
theorem lookup_none {f : Found} {a : Int} : f.lookup a = none → a ∉ f.map (·.1) := by
  induction f with
  | nil => intro _; simp
  | cons x f ih =>
    obtain ⟨b, o⟩ := x
    intro h
    rw [List.lookup_cons] at h
    by_cases e : a = b
    · subst e
      simp at h
    · have : (a == b) = false := by simpa using e
      rw [this] at h
      have := ih h
      simp only [List.map_cons, List.mem_cons, not_or]
      exact ⟨e, this⟩
theorem redStep_ok {p : Int} (hp : p ∈ primes) {e : Nat} {s0 s : Found × List Int} {at_ : Nat} (h1 : 1 ≤ at_) (h2 : at_ ≤ e) (P : RedOk p e s0 s at_) : RedOk p e s0 (redStep p e s at_) (at_ - 1) := by
  have hp0 : 0 < p := by have := (prime_pos hp).1; omega
  obtain ⟨f, line⟩ := s
  obtain ⟨Pf, Pl, Pz, Ps⟩ := P
  simp only at Pf Pl Pz Ps
  unfold redStep
  simp only
  by_cases hz : line.getD at_ 0 ≠ 0
  · rw [if_pos hz]
    cases el : f.lookup (at_ : Int) with
    | some old =>
      simp only
      have hm := lookup_mem el
      obtain ⟨a, ha, ha1, ha2, hone, hzero⟩ := Pf.mem _ hm
      have : a = at_ := by
        have : ((at_ : Nat) : Int) = (a : Int) := ha
        omega
      subst this
      have hk : ∀ k, k ≤ e → ((List.range (e + 1)).map fun k => (line.getD k 0 - line.getD a 0 * old.getD k 0) % p).getD k 0 = (line.getD k 0 - line.getD a 0 * old.getD k 0) % p := fun k hk => getD_mapR _ (by omega)
      refine ⟨Pf, ⟨by simp, fun x hx => ?_⟩, fun k hk1 hk2 => ?_, fun q => ?_⟩
      · obtain ⟨k, _, rfl⟩ := List.mem_map.mp hx
        exact ⟨Int.emod_nonneg _ (by omega), Int.emod_lt_of_pos _ hp0⟩
      · rw [hk k hk2]
        have hd : p ∣ line.getD k 0 - line.getD a 0 * old.getD k 0 := by
          by_cases hka : k = a
          · subst hka
            obtain ⟨w, hw⟩ := hone
            exact ⟨-(line.getD k 0 * w), by grind⟩
          · rw [Pz k (by omega) hk2]
            obtain ⟨w, hw⟩ := hzero k (by omega) hk2
            exact ⟨-(line.getD a 0 * w), by grind⟩
        exact Int.emod_eq_zero_of_dvd hd
      · have ke : Sol p e q f → (Eqn p e q ((List.range (e + 1)).map fun k => (line.getD k 0 - line.getD a 0 * old.getD k 0) % p) ↔ Eqn p e q line) := fun hs => by
          have h0 := hs _ hm
          have hd : p ∣ sumTo (e + 1) (fun k => q k * ((List.range (e + 1)).map fun k => (line.getD k 0 - line.getD a 0 * old.getD k 0) % p).getD k 0) - (sumTo (e + 1) (fun k => q k * line.getD k 0) - line.getD a 0 * sumTo (e + 1) (fun k => q k * old.getD k 0)) := by
            rw [← sumTo_mul, ← sumTo_sub, ← sumTo_sub]
            refine sumTo_dvd _ fun k hk1 => ?_
            rw [hk k (by omega)]
            obtain ⟨w, hw⟩ := dvd_mod p (line.getD k 0 - line.getD a 0 * old.getD k 0)
            exact ⟨q k * w, by grind⟩
          unfold Eqn
          obtain ⟨w1, e1⟩ := h0
          obtain ⟨w2, e2⟩ := hd
          refine ⟨fun ⟨w3, e3⟩ => ⟨w3 - w2 + line.getD a 0 * w1, by grind⟩, fun ⟨w3, e3⟩ => ⟨w3 + w2 - line.getD a 0 * w1, by grind⟩⟩
        rw [← Ps q]
        exact ⟨fun z => ⟨z.1, (ke z.1).mp z.2⟩, fun z => ⟨z.1, (ke z.1).mpr z.2⟩⟩
    | none =>
      simp only
      have hr := Pl.co hp0 at_
      obtain ⟨hinv, _⟩ := lawInv_ok hp (v := line.getD at_ 0) (by omega) hr.2
      have hk : ∀ k, k ≤ e → (line.map fun v => v * lawInv p (line.getD at_ 0) % p).getD k 0 = line.getD k 0 * lawInv p (line.getD at_ 0) % p := fun k hk => getD_mapL _ _ (by rw [Pl.1]; omega)
      have hk0 : ∀ k, k ≤ e → (line.map fun _ => (0 : Int)).getD k 0 = 0 := fun k hk => getD_mapL _ _ (by rw [Pl.1]; omega)
      refine ⟨⟨?_, fun x hx => ?_⟩, ⟨by simp [Pl.1], fun x hx => ?_⟩, fun k _ hk2 => hk0 k hk2, fun q => ?_⟩
      · rw [List.map_append, List.nodup_append]
        refine ⟨Pf.nd, by simp, fun x hx y hy => ?_⟩
        have : y = (at_ : Int) := by simpa using hy
        rw [this]
        intro z
        rw [z] at hx
        exact lookup_none el hx
      · rcases List.mem_append.mp hx with hx | hx
        · exact Pf.mem x hx
        · have : x = ((at_ : Int), line.map fun v => v * lawInv p (line.getD at_ 0) % p) := by simpa using hx
          subst this
          refine ⟨at_, rfl, h1, h2, ?_, fun k hk1 hk2 => ?_⟩
          · show p ∣ (line.map fun v => v * lawInv p (line.getD at_ 0) % p).getD at_ 0 - 1
            rw [hk at_ h2, hinv]
            exact ⟨0, by simp⟩
          · show p ∣ (line.map fun v => v * lawInv p (line.getD at_ 0) % p).getD k 0
            rw [hk k hk2, Pz k hk1 hk2]
            exact ⟨0, by simp⟩
      · obtain ⟨y, _, rfl⟩ := List.mem_map.mp hx
        exact ⟨Int.le_refl _, hp0⟩
      · rw [← Ps q]
        have k1 : Eqn p e q (line.map fun _ => (0 : Int)) := by
          unfold Eqn
          rw [sumTo_zero _ fun k hk1 => by rw [hk0 k (by omega)]; simp]
          exact Int.dvd_zero p
        have hd : p ∣ sumTo (e + 1) (fun k => q k * (line.map fun v => v * lawInv p (line.getD at_ 0) % p).getD k 0) - lawInv p (line.getD at_ 0) * sumTo (e + 1) (fun k => q k * line.getD k 0) := by
          rw [← sumTo_mul, ← sumTo_sub]
          refine sumTo_dvd _ fun k hk1 => ?_
          rw [hk k (by omega)]
          obtain ⟨w, hw⟩ := dvd_mod p (line.getD k 0 * lawInv p (line.getD at_ 0))
          exact ⟨q k * w, by grind⟩
        have k2 : Eqn p e q (line.map fun v => v * lawInv p (line.getD at_ 0) % p) ↔ Eqn p e q line := by
          unfold Eqn
          obtain ⟨w2, e2⟩ := hd
          have hi2 : p ∣ line.getD at_ 0 * lawInv p (line.getD at_ 0) - 1 := by
            obtain ⟨w, hw⟩ := dvd_mod p (line.getD at_ 0 * lawInv p (line.getD at_ 0))
            exact ⟨-w, by grind⟩
          obtain ⟨w4, e4⟩ := hi2
          refine ⟨fun ⟨w3, e3⟩ => ?_, fun ⟨w3, e3⟩ => ⟨w2 + lawInv p (line.getD at_ 0) * w3, by grind⟩⟩
          refine ⟨line.getD at_ 0 * (w3 - w2) - w4 * sumTo (e + 1) (fun k => q k * line.getD k 0), ?_⟩
          generalize sumTo (e + 1) (fun k => q k * line.getD k 0) = S at *
          generalize sumTo (e + 1) (fun k => q k * (line.map fun v => v * lawInv p (line.getD at_ 0) % p).getD k 0) = T at *
          generalize lawInv p (line.getD at_ 0) = I at *
          generalize line.getD at_ 0 = A at *
          have e5 : A * (I * S) = A * (p * (w3 - w2)) := by
            have : I * S = p * (w3 - w2) := by grind
            rw [this]
          have e6 : A * (I * S) = (1 + p * w4) * S := by
            have : A * I = 1 + p * w4 := by grind
            rw [← this]; grind
          grind
        unfold Sol
        refine ⟨fun ⟨z1, _⟩ => ⟨fun x hx => z1 x (List.mem_append_left _ hx), k2.mp (z1 _ (List.mem_append_right _ (List.mem_singleton.mpr rfl)))⟩, fun ⟨z1, z2⟩ => ⟨fun x hx => ?_, k1⟩⟩
        rcases List.mem_append.mp hx with hx | hx
        · exact z1 x hx
        · have : x = ((at_ : Int), line.map fun v => v * lawInv p (line.getD at_ 0) % p) := by simpa using hx
          subst this
          exact k2.mpr z2
  · rw [if_neg hz]
    refine ⟨Pf, Pl, fun k hk1 hk2 => ?_, Ps⟩
    by_cases hka : k = at_
    · subst hka
      exact Classical.not_not.mp hz
    · exact Pz k (by omega) hk2
theorem redLine_ok {p : Int} (hp : p ∈ primes) {e : Nat} {s : Found × List Int} (hf : FOk p e s.1) (hl : LineOk p e s.2) : RedOk p e s (redLine p e s) 0 := by
  have key : ∀ i, i ≤ e → RedOk p e s ((List.range i).foldl (fun s i => redStep p e s (e - i)) s) (e - i) := by
    intro i
    induction i with
    | zero => exact fun _ => ⟨hf, hl, fun k h1 h2 => by simp at h1; omega, fun q => Iff.rfl⟩
    | succ i ih =>
      intro hi
      rw [List.range_succ, List.foldl_append]
      have := redStep_ok hp (by omega) (by omega) (ih (by omega))
      rwa [show e - i - 1 = e - (i + 1) by omega] at this
  have := key e (Nat.le_refl _)
  rwa [Nat.sub_self] at this
theorem eqn_zero {p : Int} {e : Nat} {q : Nat → Int} (hq : q 0 = 1) {line : List Int} (hz : ∀ k, 0 < k → k ≤ e → line.getD k 0 = 0) : Eqn p e q line ↔ p ∣ line.getD 0 0 := by
  unfold Eqn
  rw [sumTo_left, sumTo_zero e fun a ha => by rw [hz (a + 1) (by omega) (by omega)]; simp, hq]
  simp
/-- triangular equations have an answer -/
theorem FOk.solve {p : Int} {e : Nat} {f : Found} (F : FOk p e f) : ∃ q : Nat → Int, q 0 = 1 ∧ Sol p e q f := by
  have key : ∀ n, n ≤ e → ∃ q : Nat → Int, q 0 = 1 ∧ ∀ x ∈ f, ∀ a : Nat, x.1 = (a : Int) → a ≤ n → p ∣ sumTo (a + 1) fun k => q k * x.2.getD k 0 := by
    intro n
    induction n with
    | zero =>
      refine fun _ => ⟨fun k => if k = 0 then 1 else 0, by simp, fun x hx a ha h0 => ?_⟩
      obtain ⟨b, hb, hb1, _⟩ := F.mem x hx
      omega
    | succ n ih =>
      intro hn
      obtain ⟨q, hq, hs⟩ := ih (by omega)
      by_cases hex : ∃ x ∈ f, x.1 = ((n + 1 : Nat) : Int)
      · obtain ⟨x, hx, hxn⟩ := hex
        refine ⟨fun k => if k = n + 1 then -(sumTo (n + 1) fun k => q k * x.2.getD k 0) else q k, by show (if 0 = n + 1 then _ else q 0) = 1; rw [if_neg (by omega)]; exact hq, fun y hy a ha hle => ?_⟩
        have same : ∀ m, m ≤ n + 1 → sumTo m (fun k => (if k = n + 1 then -(sumTo (n + 1) fun k => q k * x.2.getD k 0) else q k) * y.2.getD k 0) = sumTo m fun k => q k * y.2.getD k 0 := fun m hm => sumTo_congr _ fun k hk => by rw [if_neg (by omega)]
        by_cases han : a = n + 1
        · have hxy : y = x := by
            have h1 : y.1 = x.1 := by rw [ha, hxn, han]
            have nd := F.nd
            obtain ⟨i, hi⟩ := List.getElem?_of_mem hy
            obtain ⟨j, hj⟩ := List.getElem?_of_mem hx
            have e1 : (f.map (·.1))[i]? = some y.1 := by rw [List.getElem?_map, hi]; rfl
            have e2 : (f.map (·.1))[j]? = some y.1 := by rw [List.getElem?_map, hj, h1]; rfl
            have hij : i = j := by
              have hil : i < (f.map (·.1)).length := (List.getElem?_eq_some_iff.mp e1).1
              exact (List.getElem?_inj hil nd).mp (e1.trans e2.symm)
            subst hij
            rw [hi] at hj
            exact Option.some.inj hj
          subst hxy
          subst han
          show p ∣ sumTo (n + 1) (fun k => (if k = n + 1 then -(sumTo (n + 1) fun k => q k * y.2.getD k 0) else q k) * y.2.getD k 0) + (if n + 1 = n + 1 then -(sumTo (n + 1) fun k => q k * y.2.getD k 0) else q (n + 1)) * y.2.getD (n + 1) 0
          rw [same (n + 1) (Nat.le_refl _), if_pos rfl]
          obtain ⟨b, hb, _, _, hone, _⟩ := F.mem y hx
          have : b = n + 1 := by omega
          subst this
          obtain ⟨w, hw⟩ := hone
          exact ⟨-((sumTo (n + 1) fun k => q k * y.2.getD k 0) * w), by grind⟩
        · rw [same (a + 1) (by omega)]
          exact hs y hy a ha (by omega)
      · refine ⟨q, hq, fun y hy a ha hle => ?_⟩
        by_cases han : a = n + 1
        · exact absurd ⟨y, hy, by rw [ha, han]⟩ hex
        · exact hs y hy a ha (by omega)
  obtain ⟨q, hq, hs⟩ := key e (Nat.le_refl _)
  refine ⟨q, hq, fun x hx => ?_⟩
  obtain ⟨a, ha, _, h2, _, hz⟩ := F.mem x hx
  obtain ⟨w1, e1⟩ := hs x hx a ha h2
  obtain ⟨w2, e2⟩ := sumTo_more (p := p) (f := fun k => q k * x.2.getD k 0) (m := a + 1) (e + 1) (by omega) (fun k hk1 hk2 => by
    obtain ⟨w, hw⟩ := hz k (by omega) (by omega)
    exact ⟨q k * w, by grind⟩)
  exact ⟨w1 + w2, by grind⟩
end FTM
/-! The law's least order is the package's; heights; jumps. -/
namespace FTM
/-- columns of l residues -/
def ColsOk (p : Int) (l : Nat) (cols : List (List Int)) : Prop := ∀ c ∈ cols, c.length = l ∧ ∀ x ∈ c, 0 ≤ x ∧ x < p
theorem getD_mem {α : Type} {xs : List α} {d : α} {k : Nat} (h : k < xs.length) : xs.getD k d ∈ xs := by
  rw [List.getD_eq_getElem?_getD, List.getElem?_eq_getElem h]
  exact List.getElem_mem h
theorem lineOf_ok {p : Int} {l : Nat} {cols : List (List Int)} (C : ColsOk p l cols) {e n c : Nat} (hn : n < cols.length) (hc : c < l) : LineOk p e (lineOf cols e n c) := by
  refine ⟨by simp [lineOf], fun x hx => ?_⟩
  obtain ⟨k, _, rfl⟩ := List.mem_map.mp hx
  have h1 := C _ (getD_mem (d := []) (show n - k < cols.length by omega))
  exact h1.2 _ (getD_mem (by rw [h1.1]; exact hc))
theorem lineOf_eqn {p : Int} {cols : List (List Int)} {e n c : Nat} {q : Nat → Int} : Eqn p e q (lineOf cols e n c) ↔ p ∣ sumTo (e + 1) fun k => q k * lv cols (c + 1) (n - k) := by
  unfold Eqn
  rw [sumTo_congr (e + 1) fun k hk => by
    have : (lineOf cols e n c).getD k 0 = lv cols (c + 1) (n - k) := by
      unfold lineOf lv
      rw [getD_mapR _ hk]
      simp
    rw [this]]
section
variable {p : Int} {l : Nat} {cols : List (List Int)} {e : Nat}
/-- the equations of the letters n at the letter rows below c, and of those ahead -/
def Eqs (p : Int) (l : Nat) (cols : List (List Int)) (e i c : Nat) (q : Nat → Int) : Prop := ∀ n b, ((n < i ∧ b < l) ∨ (n = i ∧ b < c)) → p ∣ sumTo (e + 1) fun k => q k * lv cols (b + 1) (e + n - k)
theorem pivStep_ok (hp : p ∈ primes) (C : ColsOk p l cols) {i c : Nat} (hi : e + i < cols.length) (hc : c < l) {f : Found} (F : FOk p e f) (hs : ∀ q, q 0 = 1 → (Sol p e q f ↔ Eqs p l cols e i c q)) :
    (pivStep p cols e (e + i) f c = none → ∀ q, q 0 = 1 → ¬ Eqs p l cols e i (c + 1) q) ∧ (∀ f', pivStep p cols e (e + i) f c = some f' → FOk p e f' ∧ ∀ q, q 0 = 1 → (Sol p e q f' ↔ Eqs p l cols e i (c + 1) q)) := by
  have hp0 : 0 < p := by have := (prime_pos hp).1; omega
  have P := redLine_ok hp (s := (f, lineOf cols e (e + i) c)) F (lineOf_ok C hi hc)
  have hz : ∀ q : Nat → Int, q 0 = 1 → (Eqn p e q (redLine p e (f, lineOf cols e (e + i) c)).2 ↔ p ∣ (redLine p e (f, lineOf cols e (e + i) c)).2.getD 0 0) := fun q hq => eqn_zero hq P.zero
  have hall : ∀ q : Nat → Int, q 0 = 1 → ((Sol p e q f ∧ Eqn p e q (lineOf cols e (e + i) c)) ↔ Eqs p l cols e i (c + 1) q) := fun q hq => by
    rw [hs q hq, lineOf_eqn]
    refine ⟨fun ⟨z1, z2⟩ n b hnb => ?_, fun z => ⟨fun n b hnb => z n b (by omega), z i c (by omega)⟩⟩
    by_cases h : n = i ∧ b = c
    · obtain ⟨h1, h2⟩ := h
      subst h1 h2
      exact z2
    · exact z1 n b (by omega)
  have hr := P.line.co hp0 0
  unfold pivStep
  by_cases h0 : (redLine p e (f, lineOf cols e (e + i) c)).2.getD 0 0 ≠ 0
  · rw [if_pos h0]
    refine ⟨fun _ q hq z => h0 ?_, fun f' hf => (nomatch hf)⟩
    have z1 := (P.same q).mpr ((hall q hq).mpr z)
    exact small_dvd hr.1 hr.2 ((hz q hq).mp z1.2)
  · rw [if_neg h0]
    have h00 := Classical.not_not.mp h0
    refine ⟨fun hn => (nomatch hn), fun f' hf => ?_⟩
    have ef := Option.some.inj hf
    subst ef
    refine ⟨P.f, fun q hq => ?_⟩
    rw [← hall q hq, ← P.same q, hz q hq, h00]
    exact ⟨fun z => ⟨z, Int.dvd_zero p⟩, fun z => z.1⟩
theorem pivCol_ok (hp : p ∈ primes) (C : ColsOk p l cols) {i : Nat} (hi : e + i < cols.length) {f : Found} (F : FOk p e f) (hs : ∀ q, q 0 = 1 → (Sol p e q f ↔ Eqs p l cols e i 0 q)) : ∀ c, c ≤ l →
    ((List.range c).foldlM (pivStep p cols e (e + i)) f = none → ∀ q, q 0 = 1 → ¬ Eqs p l cols e i c q) ∧ (∀ f', (List.range c).foldlM (pivStep p cols e (e + i)) f = some f' → FOk p e f' ∧ ∀ q, q 0 = 1 → (Sol p e q f' ↔ Eqs p l cols e i c q)) := by
  intro c
  induction c with
  | zero => exact fun _ => ⟨fun h => (nomatch h), fun f' h => by
      have := Option.some.inj h
      subst this
      exact ⟨F, hs⟩⟩
  | succ c ih =>
    intro hc
    obtain ⟨i1, i2⟩ := ih (by omega)
    rw [List.range_succ, List.foldlM_append]
    cases e1 : (List.range c).foldlM (pivStep p cols e (e + i)) f with
    | none =>
      refine ⟨fun _ q hq z => i1 e1 q hq fun n b hnb => z n b (by omega), fun f' h => (nomatch h)⟩
    | some f1 =>
      obtain ⟨F1, s1⟩ := i2 f1 e1
      obtain ⟨j1, j2⟩ := pivStep_ok hp C hi (by omega) F1 s1
      have e2 : (some f1 >>= fun s => [c].foldlM (pivStep p cols e (e + i)) s) = pivStep p cols e (e + i) f1 c := by
        show (pivStep p cols e (e + i) f1 c >>= fun s => some s) = _
        cases pivStep p cols e (e + i) f1 c <;> rfl
      rw [e2]
      exact ⟨j1, j2⟩
theorem pivots_ok (hp : p ∈ primes) (C : ColsOk p l cols) (he : e ≤ cols.length) : ∀ i, e + i ≤ cols.length →
    ((List.range i).foldlM (pivCol p l cols e) ([] : Found) = none → ∀ q, q 0 = 1 → ¬ Eqs p l cols e i 0 q) ∧ (∀ f', (List.range i).foldlM (pivCol p l cols e) ([] : Found) = some f' → FOk p e f' ∧ ∀ q, q 0 = 1 → (Sol p e q f' ↔ Eqs p l cols e i 0 q)) := by
  intro i
  induction i with
  | zero => exact fun _ => ⟨fun h => (nomatch h), fun f' h => by
      have := Option.some.inj h
      subst this
      exact ⟨⟨by simp, fun x hx => by simp at hx⟩, fun q _ => ⟨fun _ n b hnb => by omega, fun _ x hx => by simp at hx⟩⟩⟩
  | succ i ih =>
    intro hi
    obtain ⟨i1, i2⟩ := ih (by omega)
    rw [List.range_succ, List.foldlM_append]
    cases e1 : (List.range i).foldlM (pivCol p l cols e) ([] : Found) with
    | none =>
      refine ⟨fun _ q hq z => i1 e1 q hq fun n b hnb => z n b (by omega), fun f' h => (nomatch h)⟩
    | some f1 =>
      obtain ⟨F1, s1⟩ := i2 f1 e1
      obtain ⟨j1, j2⟩ := pivCol_ok hp C (show e + i < cols.length by omega) F1 s1 l (Nat.le_refl _)
      have e2 : (some f1 >>= fun s => [i].foldlM (pivCol p l cols e) s) = (List.range l).foldlM (pivStep p cols e (e + i)) f1 := by
        show (pivCol p l cols e f1 i >>= fun s => some s) = _
        unfold pivCol
        cases (List.range l).foldlM (pivStep p cols e (e + i)) f1 <;> rfl
      rw [e2]
      have eq : ∀ q, Eqs p l cols e i l q ↔ Eqs p l cols e (i + 1) 0 q := fun q => ⟨fun z n b hnb => z n b (by omega), fun z n b hnb => z n b (by omega)⟩
      exact ⟨fun h q hq z => j1 h q hq ((eq q).mpr z), fun f' h => ⟨(j2 f' h).1, fun q hq => ((j2 f' h).2 q hq).trans (eq q)⟩⟩
/-- the law finds pivots exactly if there is a rule -/
theorem pivots_iff (hp : p ∈ primes) (C : ColsOk p l cols) (he : e ≤ cols.length) : (pivots p l cols e).isSome = true ↔ ∃ q, IsRule p l (lv cols) cols.length e q := by
  obtain ⟨h1, h2⟩ := pivots_ok hp C he (cols.length - e) (by omega)
  have eq : ∀ q : Nat → Int, q 0 = 1 → (Eqs p l cols e (cols.length - e) 0 q ↔ IsRule p l (lv cols) cols.length e q) := fun q hq => by
    refine ⟨fun z => ⟨hq, fun i n hi1 hi2 hn1 hn2 => ?_⟩, fun z n b hnb => ?_⟩
    · have := z (n - e) (i - 1) (by omega)
      rwa [show i - 1 + 1 = i by omega, show e + (n - e) = n by omega] at this
    · exact z.2 (b + 1) (e + n) (by omega) (by omega) (by omega) (by omega)
  cases e1 : pivots p l cols e with
  | none =>
    refine ⟨fun h => (nomatch h), fun ⟨q, R⟩ => absurd ((eq q R.1).mpr R) (h1 e1 q R.1)⟩
  | some f =>
    refine ⟨fun _ => ?_, fun _ => rfl⟩
    obtain ⟨F, s⟩ := h2 f e1
    obtain ⟨q, hq, hs⟩ := F.solve
    exact ⟨q, (eq q hq).mp ((s q hq).mp hs)⟩
end
theorem ColsOk.take {p : Int} {l : Nat} {cols : List (List Int)} (C : ColsOk p l cols) (n : Nat) : ColsOk p l (cols.take n) := fun c hc => C c (List.mem_of_mem_take hc)
theorem lv_take (cols : List (List Int)) {i n k : Nat} (h : k < n) : lv (cols.take n) i k = lv cols i k := by
  unfold lv
  rw [getD_take cols [] h]
theorem rule_take {p : Int} {l : Nat} {cols : List (List Int)} {n e : Nat} {q : Nat → Int} (hn : n ≤ cols.length) : IsRule p l (lv (cols.take n)) (cols.take n).length e q ↔ IsRule p l (lv cols) n e q := by
  have hl : (cols.take n).length = n := by rw [List.length_take]; omega
  rw [hl]
  have key : ∀ i m, m < n → sumTo (e + 1) (fun k => q k * lv (cols.take n) i (m - k)) = sumTo (e + 1) fun k => q k * lv cols i (m - k) := fun i m hm => sumTo_congr _ fun k hk => by rw [lv_take cols (by omega)]
  exact ⟨fun ⟨z0, z⟩ => ⟨z0, fun i m h1 h2 h3 h4 => by rw [← key i m h4]; exact z i m h1 h2 h3 h4⟩, fun ⟨z0, z⟩ => ⟨z0, fun i m h1 h2 h3 h4 => by rw [key i m h4]; exact z i m h1 h2 h3 h4⟩⟩
/-- the package's least order is the law's -/
theorem least_law {p : Int} {l : Nat} {cols : List (List Int)} (hp : p ∈ primes) (C : ColsOk p l cols) {n : Nat} (hn : n ≤ cols.length) : leastOf l (baseAt p l cols n) = (lawLeast p l (cols.take n) : Int) := by
  obtain ⟨G, _, _⟩ := base_ok hp (l := l) (cols := cols) n hn
  obtain ⟨e, j, he, hj, hc, hh, hlo, heN, ⟨q, R⟩, hbelow⟩ := G.least hp
  have hl : (cols.take n).length = n := by rw [List.length_take]; omega
  have iff : ∀ e', e' ≤ n → ((pivots p l (cols.take n) e').isSome = true ↔ ∃ q, IsRule p l (lv cols) n e' q) := fun e' h => by
    rw [pivots_iff hp (C.take n) (by omega)]
    exact ⟨fun ⟨q, z⟩ => ⟨q, (rule_take hn).mp z⟩, fun ⟨q, z⟩ => ⟨q, (rule_take hn).mpr z⟩⟩
  rw [he]
  unfold lawLeast
  rw [hl]
  cases ef : (List.range n).find? (fun e => (pivots p l (cols.take n) e).isSome) with
  | none =>
    have : e = n := by
      refine Classical.byContradiction fun z => ?_
      have h1 := List.find?_eq_none.mp ef e (List.mem_range.mpr (by omega))
      exact h1 ((iff e heN).mpr ⟨q, R⟩)
    rw [this]; rfl
  | some e1 =>
    have h1 := List.find?_some ef
    have h2 := List.mem_of_find?_eq_some ef
    have h3 : e1 < n := List.mem_range.mp h2
    obtain ⟨q1, R1⟩ := (iff e1 (by omega)).mp h1
    have h4 := hbelow e1 q1 R1
    have h5 : e1 ≤ e := by
      refine Nat.le_of_not_lt fun z => ?_
      obtain ⟨as, bs, hab, hno⟩ := (List.find?_eq_some_iff_append.mp ef).2
      have hidx : as.length = e1 := by
        have h6 : (List.range n)[as.length]? = some e1 := by rw [hab]; simp
        have h7 : as.length < n := by
          have := (List.getElem?_eq_some_iff.mp h6).1
          rwa [List.length_range] at this
        rw [List.getElem?_range h7] at h6
        exact Option.some.inj h6
      have hmem : e ∈ as := by
        have h6 : (List.range n)[e]? = some e := List.getElem?_range (by omega)
        rw [hab, List.getElem?_append_left (by omega)] at h6
        exact List.mem_of_getElem? h6
      have := hno e hmem
      rw [(iff e heN).mpr ⟨q, R⟩] at this
      simp at this
    have : e = e1 := by omega
    rw [this]; rfl

/-! ### heights in order -/
def insI (x : Int) : List Int → List Int
  | [] => [x]
  | y :: ys => if x ≤ y then x :: y :: ys else y :: insI x ys
def sortI : List Int → List Int
  | [] => []
  | x :: xs => insI x (sortI xs)
theorem insI_perm (x : Int) : ∀ ys, (insI x ys).Perm (x :: ys)
  | [] => List.Perm.refl _
  | y :: ys => by
    unfold insI
    by_cases e : x ≤ y
    · rw [if_pos e]
    · rw [if_neg e]
      exact ((insI_perm x ys).cons y).trans (List.Perm.swap x y ys)
theorem sortI_perm : ∀ xs, (sortI xs).Perm xs
  | [] => List.Perm.refl _
  | x :: xs => (insI_perm x (sortI xs)).trans ((sortI_perm xs).cons x)
theorem insI_sorted (x : Int) : ∀ ys, ys.Pairwise (· ≤ ·) → (insI x ys).Pairwise (· ≤ ·)
  | [], _ => by simp [insI]
  | y :: ys, h => by
    unfold insI
    rw [List.pairwise_cons] at h
    by_cases e : x ≤ y
    · rw [if_pos e, List.pairwise_cons, List.pairwise_cons]
      refine ⟨fun z hz => ?_, h⟩
      rcases List.mem_cons.mp hz with hz | hz
      · omega
      · have := h.1 z hz; omega
    · rw [if_neg e, List.pairwise_cons]
      refine ⟨fun z hz => ?_, insI_sorted x ys h.2⟩
      rcases List.mem_cons.mp ((insI_perm x ys).mem_iff.mp hz) with hz | hz
      · omega
      · exact h.1 z hz
theorem sortI_sorted : ∀ xs, (sortI xs).Pairwise (· ≤ ·)
  | [] => by simp [sortI]
  | x :: xs => insI_sorted x _ (sortI_sorted xs)
theorem sorted_unique : ∀ {xs ys : List Int}, xs.Perm ys → xs.Pairwise (· ≤ ·) → ys.Pairwise (· ≤ ·) → xs = ys
  | [], ys, h, _, _ => (List.nil_perm.mp h).symm
  | x :: xs, [], h, _, _ => by have := h.length_eq; simp at this
  | x :: xs, y :: ys, h, h1, h2 => by
    rw [List.pairwise_cons] at h1 h2
    have hx : x ∈ y :: ys := h.mem_iff.mp (by simp)
    have hy : y ∈ x :: xs := h.mem_iff.mpr (by simp)
    have e : x = y := by
      have a : y ≤ x := by
        rcases List.mem_cons.mp hx with z | z
        · omega
        · exact h2.1 x z
      have b : x ≤ y := by
        rcases List.mem_cons.mp hy with z | z
        · omega
        · exact h1.1 y z
      omega
    subst e
    rw [sorted_unique (List.perm_cons x |>.mp h) h1.2 h2.2]
theorem sortI_of {xs ys : List Int} (h : ys.Perm xs) (h2 : ys.Pairwise (· ≤ ·)) : ys = sortI xs := sorted_unique (h.trans (sortI_perm xs).symm) h2 (sortI_sorted xs)
/-- item by item below -/
def LeAll (xs ys : List Int) : Prop := xs.length = ys.length ∧ ∀ k : Nat, k < xs.length → xs.getD k 0 ≤ ys.getD k 0
theorem leAll_cons {x y : Int} {xs ys : List Int} : LeAll (x :: xs) (y :: ys) ↔ x ≤ y ∧ LeAll xs ys := by
  refine ⟨fun ⟨h1, h2⟩ => ⟨by simpa using h2 0 (by simp), by simpa using h1, fun k hk => by simpa using h2 (k + 1) (by simpa using hk)⟩, fun ⟨h0, h1, h2⟩ => ⟨by simpa using h1, fun k hk => ?_⟩⟩
  cases k with
  | zero => simpa using h0
  | succ k => simpa using h2 k (by simpa using hk)
theorem insI_le {x y : Int} (hxy : x ≤ y) : ∀ {xs ys : List Int}, xs.Pairwise (· ≤ ·) → ys.Pairwise (· ≤ ·) → LeAll xs ys → LeAll (insI x xs) (insI y ys)
  | [], [], _, _, _ => leAll_cons.mpr ⟨hxy, rfl, fun k hk => by simp at hk⟩
  | [], b :: ys, _, _, h => by have := h.1; simp at this
  | a :: xs, [], _, _, h => by have := h.1; simp at this
  | a :: xs, b :: ys, h1, h2, h => by
    obtain ⟨hab, hr⟩ := leAll_cons.mp h
    rw [List.pairwise_cons] at h1 h2
    unfold insI
    by_cases e1 : x ≤ a
    · rw [if_pos e1]
      by_cases e2 : y ≤ b
      · rw [if_pos e2]; exact leAll_cons.mpr ⟨hxy, leAll_cons.mpr ⟨hab, hr⟩⟩
      · rw [if_neg e2]
        -- x, a, xs below b, y inserted
        refine leAll_cons.mpr ⟨by omega, ?_⟩
        have key : ∀ {xs ys : List Int} {a : Int}, a ≤ y → (∀ z ∈ xs, a ≤ z) → xs.Pairwise (· ≤ ·) → ys.Pairwise (· ≤ ·) → LeAll xs ys → LeAll (a :: xs) (insI y ys) := by
          intro xs
          induction xs with
          | nil =>
            intro ys a ha _ _ _ hl
            cases ys with
            | nil => exact leAll_cons.mpr ⟨ha, rfl, fun k hk => by simp at hk⟩
            | cons b ys => have := hl.1; simp at this
          | cons c xs ih =>
            intro ys a ha hz hp1 hp2 hl
            cases ys with
            | nil => have := hl.1; simp at this
            | cons b ys =>
              obtain ⟨hcb, hl2⟩ := leAll_cons.mp hl
              rw [List.pairwise_cons] at hp1 hp2
              unfold insI
              by_cases e : y ≤ b
              · rw [if_pos e]; exact leAll_cons.mpr ⟨ha, leAll_cons.mpr ⟨hcb, hl2⟩⟩
              · rw [if_neg e]
                have := hz c (by simp)
                exact leAll_cons.mpr ⟨by omega, ih (by omega) hp1.1 hp1.2 hp2.2 hl2⟩
        exact key (by omega) h1.1 h1.2 h2.2 hr
    · rw [if_neg e1]
      by_cases e2 : y ≤ b
      · rw [if_pos e2]
        -- a, x inserted below y, b, ys
        refine leAll_cons.mpr ⟨by omega, ?_⟩
        have key : ∀ {xs ys : List Int} {b : Int}, x ≤ b → (∀ z ∈ ys, b ≤ z) → xs.Pairwise (· ≤ ·) → ys.Pairwise (· ≤ ·) → LeAll xs ys → LeAll (insI x xs) (b :: ys) := by
          intro xs
          induction xs with
          | nil =>
            intro ys b hb _ _ _ hl
            cases ys with
            | nil => exact leAll_cons.mpr ⟨hb, rfl, fun k hk => by simp at hk⟩
            | cons d ys => have := hl.1; simp at this
          | cons c xs ih =>
            intro ys b hb hz hp1 hp2 hl
            cases ys with
            | nil => have := hl.1; simp at this
            | cons d ys =>
              obtain ⟨hcd, hl2⟩ := leAll_cons.mp hl
              rw [List.pairwise_cons] at hp1 hp2
              have hbd := hz d (by simp)
              unfold insI
              by_cases e : x ≤ c
              · rw [if_pos e]; exact leAll_cons.mpr ⟨hb, leAll_cons.mpr ⟨hcd, hl2⟩⟩
              · rw [if_neg e]
                refine leAll_cons.mpr ⟨by omega, ih (by omega) hp2.1 hp1.2 hp2.2 hl2⟩
        exact key (by omega) h2.1 h1.2 h2.2 hr
      · rw [if_neg e2]
        exact leAll_cons.mpr ⟨hab, insI_le hxy h1.2 h2.2 hr⟩
theorem sortI_le : ∀ {xs ys : List Int}, LeAll xs ys → LeAll (sortI xs) (sortI ys)
  | [], [], _ => ⟨rfl, fun k hk => by simp [sortI] at hk⟩
  | [], b :: ys, h => by have := h.1; simp at this
  | a :: xs, [], h => by have := h.1; simp at this
  | a :: xs, b :: ys, h => by
    obtain ⟨hab, hr⟩ := leAll_cons.mp h
    exact insI_le hab (sortI_sorted xs) (sortI_sorted ys) (sortI_le hr)
def heightsOf (l : Nat) (base : Base) : List Int := sortI (base.map (rowH l))
theorem heights_map {p : Int} {l : Nat} {c : Vec} {C : Nat → Nat → Prop} {base : Base} {h : Nat → Int} (G : Good p l c C base h) : base.map (rowH l) = (List.range (l + 1)).map (hOf l base) := by
  refine List.ext_getElem? fun k => ?_
  rw [List.getElem?_map, List.getElem?_map]
  by_cases hk : k < l + 1
  · have hkb : k < base.length := by rw [G.len]; exact hk
    have e1 : base[k]? = some (base.getD k []) := by
      rw [List.getD_eq_getElem?_getD, List.getElem?_eq_getElem hkb]; rfl
    rw [List.getElem?_range hk, e1]
    rfl
  · rw [List.getElem?_eq_none_iff.mpr (by rw [G.len]; omega), List.getElem?_eq_none_iff.mpr (by rw [List.length_range]; omega)]
    rfl
theorem sum_perm {xs ys : List Int} (h : xs.Perm ys) : xs.sum = ys.sum := by
  induction h with
  | nil => rfl
  | cons x _ ih => simp only [List.sum_cons, ih]
  | swap x y l => simp only [List.sum_cons]; omega
  | trans _ _ h1 h2 => exact h1.trans h2
/-- what the law asks of the heights for n columns -/
theorem heights_ok {p : Int} {l : Nat} {cols : List (List Int)} (hp : p ∈ primes) {n : Nat} (hn : n ≤ cols.length) :
    (heightsOf l (baseAt p l cols n)).length = l + 1 ∧ (heightsOf l (baseAt p l cols n)).Pairwise (· ≤ ·) ∧ (∀ x ∈ heightsOf l (baseAt p l cols n), 0 ≤ x ∧ x ≤ (l : Int) * (n + 1)) ∧ (heightsOf l (baseAt p l cols n)).sum = (l : Int) * (n + 1) ∧
    leastOf l (baseAt p l cols n) ∈ heightsOf l (baseAt p l cols n) ∧ (∀ m, n = m + 1 → LeAll (heightsOf l (baseAt p l cols m)) (heightsOf l (baseAt p l cols n)) ∧ leastOf l (baseAt p l cols m) ≤ leastOf l (baseAt p l cols n)) := by
  obtain ⟨G, s, mono⟩ := base_ok hp (l := l) (cols := cols) n hn
  obtain ⟨e, j, he, hj, hc, hh, hlo, heN, ⟨q, R⟩, hbelow⟩ := G.least hp
  have hsum : (heightsOf l (baseAt p l cols n)).sum = (l : Int) * (n + 1) := by
    unfold heightsOf
    rw [sum_perm (sortI_perm _), heights_map G, sum_range]
    exact s
  have hmem : ∀ x, x ∈ heightsOf l (baseAt p l cols n) ↔ ∃ j, j < l + 1 ∧ x = hOf l (baseAt p l cols n) j := fun x => by
    unfold heightsOf
    rw [(sortI_perm _).mem_iff, heights_map G]
    simp only [List.mem_map, List.mem_range]
    exact ⟨fun ⟨a, h1, h2⟩ => ⟨a, h1, h2.symm⟩, fun ⟨a, h1, h2⟩ => ⟨a, h1, h2.symm⟩⟩
  have hnn : ∀ x ∈ heightsOf l (baseAt p l cols n), 0 ≤ x := fun x hx => by
    obtain ⟨j, hj, rfl⟩ := (hmem x).mp hx
    exact Int.le_trans (lft_nonneg j) (G.hpos hj)
  refine ⟨?_, sortI_sorted _, fun x hx => ⟨hnn x hx, ?_⟩, hsum, ?_, fun m hm => ⟨?_, ?_⟩⟩
  · unfold heightsOf
    rw [(sortI_perm _).length_eq, List.length_map, G.len]
  · rw [← hsum]
    have key : ∀ (xs : List Int), (∀ y ∈ xs, 0 ≤ y) → 0 ≤ xs.sum ∧ ∀ y ∈ xs, y ≤ xs.sum := by
      intro xs
      induction xs with
      | nil => exact fun _ => ⟨by simp, fun y hy => by simp at hy⟩
      | cons z zs ih =>
        intro h
        obtain ⟨i1, i2⟩ := ih fun y hy => h y (List.mem_cons_of_mem _ hy)
        have hz := h z (by simp)
        refine ⟨by rw [List.sum_cons]; omega, fun y hy => ?_⟩
        rw [List.sum_cons]
        rcases List.mem_cons.mp hy with q | q
        · omega
        · have := i2 y q; omega
    exact (key _ hnn).2 x hx
  · rw [hmem]
    exact ⟨j, hj, by rw [he, hh]⟩
  · subst hm
    obtain ⟨G0, _, _⟩ := base_ok hp (l := l) (cols := cols) m (by omega)
    unfold heightsOf
    refine sortI_le ⟨by rw [List.length_map, List.length_map, G.len, G0.len], fun k hk => ?_⟩
    rw [heights_map G, heights_map G0, getD_mapR _ (by rw [List.length_map, G0.len] at hk; exact hk), getD_mapR _ (by rw [List.length_map, G0.len] at hk; exact hk)]
    exact mono m rfl k (by rw [List.length_map, G0.len] at hk; exact hk)
  · subst hm
    obtain ⟨G0, _, _⟩ := base_ok hp (l := l) (cols := cols) m (by omega)
    obtain ⟨e0, j0, he0, _, _, _, _, heN0, _, hbelow0⟩ := G0.least hp
    rw [he, he0]
    by_cases hem : e ≤ m
    · have : IsRule p l (lv cols) m e q := ⟨R.1, fun i k h1 h2 h3 h4 => R.2 i k h1 h2 h3 (by omega)⟩
      have := hbelow0 e q this
      omega
    · omega
end FTM
/-! Jumps of the least order of one letter row; the sure column. -/
namespace FTM
theorem take_take_le {α : Type} (xs : List α) {k n : Nat} (h : k ≤ n) : (xs.take n).take k = xs.take k := by
  rw [List.take_take, Nat.min_eq_left h]
theorem baseAt_take (p : Int) (l : Nat) (cols : List (List Int)) (n : Nat) : ∀ k, k ≤ n → baseAt p l (cols.take n) k = baseAt p l cols k
  | 0, _ => rfl
  | k + 1, h => by
    show nextBase p l (baseAt p l (cols.take n) k) ((cols.take n).take (k + 1)) = nextBase p l (baseAt p l cols k) (cols.take (k + 1))
    rw [baseAt_take p l cols n k (by omega), take_take_le cols h]
def padF (f : Form) (o : Nat) : List Int := f ++ List.replicate (o + 1 - f.length) 0
def ruleOf (p : Int) (row : Row) (o : Nat) : List Int := (padF (row.getD 0 []) o).map fun x => inv p ((padF (row.getD 0 []) o).getD 0 0) * x % p
def toldOf (p : Int) (l : Nat) (cols : List (List Int)) (rule : List Int) : List Int :=
  (List.range l).map fun place => (-(((List.range (rule.length - 1)).map fun b => rule.getD (b + 1) 0 * (cols.getD (cols.length - (b + 1)) []).getD place 0).sum)) % p
theorem padF_getD (f : Form) (o k : Nat) : (padF f o).getD k 0 = f.getD k 0 := by
  unfold padF
  simp only [List.getD_eq_getElem?_getD]
  by_cases h : k < f.length
  · rw [List.getElem?_append_left h]
  · rw [List.getElem?_append_right (by omega), List.getElem?_replicate, List.getElem?_eq_none_iff.mpr (by omega)]
    split <;> rfl
theorem base_next1 (p : Int) (cols : List (List Int)) (n : Nat) : baseAt p 1 cols (n + 1) = grownBase p (liftsOf 1) (baseAt p 1 cols n) (gapsOf p cols n 0 (baseAt p 1 cols n)) := rfl
theorem jumps {p : Int} {cols : List (List Int)} (hp : p ∈ primes) (C : ColsOk p 1 cols) {n : Nat} (hn : n < cols.length) :
    ∃ o w : Nat, leastOf 1 (baseAt p 1 cols n) = o ∧ leastOf 1 (baseAt p 1 cols (n + 1)) = w ∧ o ≤ n ∧ (w = o ∨ w = n + 1 - o) ∧ (2 * o ≤ n → ∃ A : Row, (baseAt p 1 cols n).filter (fun row => decide (rowH 1 row ≤ o)) = [A] ∧ hasConst A = true ∧ rowH 1 A = o ∧
      (A.getD 0 []).length ≤ o + 1 ∧ Red p (A.getD 0 []) ∧ 0 < (A.getD 0 []).getD 0 0 ∧ (A.getD 0 []).getD 0 0 < p ∧ (toldOf p 1 (cols.take n) (ruleOf p A o) = cols.getD n [] ↔ w = o)) := by
  have hp1 := (prime_pos hp).1
  have hp0 : 0 < p := by omega
  obtain ⟨G, hs, _⟩ := base_ok hp (l := 1) (cols := cols) n (by omega)
  obtain ⟨o, jA, ho, hjA, hcA, hhA, hloA, hoN, _, _⟩ := G.least hp
  obtain ⟨hl, hg⟩ := gapsOf_ok hp0 G.len cols (n := n) (i0 := 0) hn
  obtain ⟨k, hpk, hk, hnk, hlow, G2, hx, hst⟩ := G.grown hp (by omega) hl hg
  obtain ⟨w, jw, hw, hjw, hcw, hhw, _, _, _, _⟩ := (G2.congr_C (cnd_next 1 n)).least hp
  have hw' : leastOf 1 (baseAt p 1 cols (n + 1)) = w := hw
  -- the row of the new least order is not the pivot
  have hjwk : jw ≠ k := fun z => by
    subst z
    obtain ⟨q, hq⟩ := hx 0
    have e : sh 1 (coB (baseAt p 1 cols n) jw) 0 0 = 0 := by simp [sh]
    rw [e] at hq
    exact hcw ⟨q, by grind⟩
  have hw2 : (w : Int) = hOf 1 (baseAt p 1 cols n) jw := by
    rw [← hhw]
    simp [hjwk]
  have hsum : hOf 1 (baseAt p 1 cols n) 0 + hOf 1 (baseAt p 1 cols n) 1 = (n : Int) + 1 := by
    have : hsum 1 (hOf 1 (baseAt p 1 cols n)) = 0 + hOf 1 (baseAt p 1 cols n) 0 + hOf 1 (baseAt p 1 cols n) 1 := rfl
    omega
  have hB : ∀ j, j < 2 → j ≠ jA → hOf 1 (baseAt p 1 cols n) j = (n : Int) + 1 - o := fun j hj hne => by
    have : (j = 0 ∧ jA = 1) ∨ (j = 1 ∧ jA = 0) := by omega
    rcases this with ⟨h1, h2⟩ | ⟨h1, h2⟩
    · subst h1 h2; omega
    · subst h1 h2; omega
  have hwcase : (k = jA → (w : Int) = (n : Int) + 1 - o) ∧ (k ≠ jA → (w : Int) = o) := by
    refine ⟨fun h => ?_, fun h => ?_⟩
    · rw [hw2]; exact hB jw hjw (fun z => hjwk (z.trans h.symm))
    · have : jw = jA := by omega
      rw [hw2, this, hhA]
  refine ⟨o, w, ho, hw', hoN, ?_, fun h2 => ?_⟩
  · by_cases h : k = jA
    · have := hwcase.1 h; omega
    · have := hwcase.2 h; omega
  -- the only low row
  have hlenA : ((baseAt p 1 cols n).getD jA []).length = 2 := (G.row jA hjA).1
  have memA : ((baseAt p 1 cols n).getD jA []).getD 0 [] ∈ (baseAt p 1 cols n).getD jA [] := getD_mem (by rw [hlenA]; omega)
  have redA : Red p (((baseAt p 1 cols n).getD jA []).getD 0 []) := (G.row jA hjA).2 _ memA
  have lenA : (((baseAt p 1 cols n).getD jA []).getD 0 []).length ≤ o + 1 := redA.len_le hp0 fun d hd => (G.lev jA hjA).above 0 d (.inl (by
    simp [lft]; omega))
  have hrow : ∀ j, j < 2 → rowH 1 ((baseAt p 1 cols n).getD j []) = hOf 1 (baseAt p 1 cols n) j := fun j _ => rfl
  have hfil : (baseAt p 1 cols n).filter (fun row => decide (rowH 1 row ≤ o)) = [(baseAt p 1 cols n).getD jA []] := by
    have hb : baseAt p 1 cols n = [(baseAt p 1 cols n).getD 0 [], (baseAt p 1 cols n).getD 1 []] := by
      have hlen := G.len
      generalize baseAt p 1 cols n = b at hlen
      match b, hlen with
      | [x, y], _ => rfl
    have hdec : ∀ j, j < 2 → decide (rowH 1 ((baseAt p 1 cols n).getD j []) ≤ (o : Int)) = decide (j = jA) := fun j hj => by
      rw [hrow j hj]
      by_cases e : j = jA
      · subst e; rw [hhA]; simp
      · have := hB j hj e
        rw [this]
        simp only [e, decide_false, decide_eq_false_iff_not]
        omega
    have hj2 : jA = 0 ∨ jA = 1 := by omega
    rw [hb]
    have d0 := hdec 0 (by omega)
    have d1 := hdec 1 (by omega)
    rcases hj2 with e | e
    · rw [e] at d0 d1 ⊢
      rw [List.filter_cons, List.filter_cons, List.filter_nil, d0, d1]
      simp
    · rw [e] at d0 d1 ⊢
      rw [List.filter_cons, List.filter_cons, List.filter_nil, d0, d1]
      simp
  have hconst := (G.const_iff hp0 hjA).mpr hcA
  have c0 := redA.co hp0 0
  have c0pos : 0 < (((baseAt p 1 cols n).getD jA []).getD 0 []).getD 0 0 := by
    have : (((baseAt p 1 cols n).getD jA []).getD 0 []).getD 0 0 ≠ 0 := fun z => hcA (by
      show p ∣ (((baseAt p 1 cols n).getD jA []).getD 0 []).getD 0 0
      rw [z]; exact Int.dvd_zero p)
    omega
  refine ⟨_, hfil, hconst, hhA, lenA, redA, c0pos, c0.2, ?_⟩
  -- the pivot is that row exactly if it has a gap
  have hkA : k = jA ↔ (gapsOf p cols n 0 (baseAt p 1 cols n)).getD jA 0 ≠ 0 := by
    refine ⟨fun h => by rw [← h]; exact hnk, fun h => ?_⟩
    refine Classical.byContradiction fun hne => ?_
    have := hlow jA hjA h (fun z => hne z.symm)
    have hkB := hB k hk hne
    rw [hhA, hkB] at this
    omega
  have hgap0 : (gapsOf p cols n 0 (baseAt p 1 cols n)).getD jA 0 = 0 ↔ p ∣ gap (lv cols) n 1 (coB (baseAt p 1 cols n) jA) := by
    obtain ⟨g1, g2, g3⟩ := hg jA hjA
    refine ⟨fun z => by rw [z] at g3; simpa using g3, fun z => small_dvd g1 g2 ?_⟩
    obtain ⟨q1, e1⟩ := g3
    obtain ⟨q2, e2⟩ := z
    exact ⟨q2 - q1, by grind⟩
  have hwo : w = o ↔ p ∣ gap (lv cols) n 1 (coB (baseAt p 1 cols n) jA) := by
    rw [← hgap0]
    refine ⟨fun h => ?_, fun h => ?_⟩
    · refine Classical.byContradiction fun z => ?_
      have := hwcase.1 (hkA.mpr z)
      omega
    · have : k ≠ jA := fun z => (hkA.mp z) h
      have := hwcase.2 this
      omega
  rw [hwo]
  generalize hA : (baseAt p 1 cols n).getD jA [] = A at *
  have hcoB : coB (baseAt p 1 cols n) jA = coR A := by unfold coB; rw [hA]
  rw [hcoB]
  -- both are single residues
  have hcn := C _ (getD_mem (d := []) hn)
  obtain ⟨x, hxn⟩ : ∃ x, cols.getD n [] = [x] := by
    have := hcn.1
    generalize cols.getD n [] = cc at this
    match cc, this with
    | [x], _ => exact ⟨x, rfl⟩
  have hx0 : 0 ≤ x ∧ x < p := hcn.2 x (by rw [hxn]; simp)
  have hrl : (ruleOf p A o).length = o + 1 := by
    unfold ruleOf padF
    rw [List.length_map, List.length_append, List.length_replicate]
    omega
  have hlt : (cols.take n).length = n := by rw [List.length_take]; omega
  let u := inv p ((A.getD 0 []).getD 0 0)
  have hu : p ∣ u * (A.getD 0 []).getD 0 0 - 1 := inv_ok hp c0pos c0.2
  have hrule : ∀ b, b < o + 1 → (ruleOf p A o).getD b 0 = u * (A.getD 0 []).getD b 0 % p := fun b hb => by
    unfold ruleOf
    rw [getD_mapL _ _ (by unfold padF; rw [List.length_append, List.length_replicate]; omega), padF_getD, padF_getD]
  let S := sumTo o fun b => coR A 0 (b + 1) * lv cols 1 (n - (b + 1))
  have htold : toldOf p 1 (cols.take n) (ruleOf p A o) = [(-(sumTo o fun b => (ruleOf p A o).getD (b + 1) 0 * lv cols 1 (n - (b + 1)))) % p] := by
    unfold toldOf
    rw [hrl, hlt]
    show [(-(((List.range (o + 1 - 1)).map fun b => (ruleOf p A o).getD (b + 1) 0 * ((cols.take n).getD (n - (b + 1)) []).getD 0 0).sum)) % p] = _
    rw [sum_range, show o + 1 - 1 = o by omega]
    have : sumTo o (fun b => (ruleOf p A o).getD (b + 1) 0 * ((cols.take n).getD (n - (b + 1)) []).getD 0 0) = sumTo o fun b => (ruleOf p A o).getD (b + 1) 0 * lv cols 1 (n - (b + 1)) := sumTo_congr _ fun b hb => by
      unfold lv
      rw [getD_take cols [] (by omega)]
    rw [this]
  rw [htold, hxn]
  have hsumr : p ∣ (sumTo o fun b => (ruleOf p A o).getD (b + 1) 0 * lv cols 1 (n - (b + 1))) - u * S := by
    show p ∣ _ - u * sumTo o _
    rw [← sumTo_mul, ← sumTo_sub]
    refine sumTo_dvd _ fun b hb => ?_
    rw [hrule (b + 1) (by omega)]
    obtain ⟨q, hq⟩ := dvd_mod p (u * (A.getD 0 []).getD (b + 1) 0)
    exact ⟨q * lv cols 1 (n - (b + 1)), by unfold coR; grind⟩
  have hxc : lv cols 1 n = x := by
    unfold lv
    rw [hxn]; rfl
  have hgapS : p ∣ gap (lv cols) n 1 (coR A) - ((A.getD 0 []).getD 0 0 * x + S) := by
    unfold gap
    obtain ⟨q1, e1⟩ := (G.lev jA hjA).above 1 n (.inl (by simp [lft]; omega))
    rw [hcoB] at e1
    have z2 := sumTo_more (p := p) (f := fun a => coR A 0 a * lv cols 1 (n - a)) (m := o + 1) (n + 1) (by omega) (fun a h1 h2 => by
      obtain ⟨q, hq⟩ := (G.lev jA hjA).above 0 a (.inl (by simp [lft]; omega))
      rw [hcoB] at hq
      exact ⟨q * lv cols 1 (n - a), by grind⟩)
    obtain ⟨q2, e2⟩ := z2
    have e3 : sumTo (o + 1) (fun a => coR A 0 a * lv cols 1 (n - a)) = (A.getD 0 []).getD 0 0 * x + S := by
      rw [sumTo_left]
      show coR A 0 0 * lv cols 1 (n - 0) + S = _
      rw [show n - 0 = n by omega, hxc]
      rfl
    exact ⟨q2 - q1, by grind⟩
  obtain ⟨q1, e1⟩ := hsumr
  obtain ⟨q2, e2⟩ := hgapS
  obtain ⟨q3, e3⟩ := hu
  generalize hT : (sumTo o fun b => (ruleOf p A o).getD (b + 1) 0 * lv cols 1 (n - (b + 1))) = T at *
  generalize gap (lv cols) n 1 (coR A) = Gp at *
  generalize (A.getD 0 []).getD 0 0 = a0 at *
  clear_value S u
  obtain ⟨q4, e4⟩ := dvd_mod p (-T)
  have m0 := Int.emod_nonneg (-T) (b := p) (by omega)
  have m1 := Int.emod_lt_of_pos (-T) hp0
  refine ⟨fun h => ?_, fun ⟨q, hq⟩ => ?_⟩
  · have hx2 : (-T) % p = x := by simpa using h
    -- a0 x + S = a0 x - a0 (a0 x) u ..: multiply x + u S = p .. by a0
    have e5 : x + u * S = p * (q4 - q1) := by grind
    have e6 : a0 * (x + u * S) = a0 * (p * (q4 - q1)) := by rw [e5]
    exact ⟨q2 + a0 * (q4 - q1) - q3 * S, by grind⟩
  · have e5 : a0 * x + S = p * (q - q2) := by grind
    have e6 : u * (a0 * x + S) = u * (p * (q - q2)) := by rw [e5]
    have : p ∣ (-T) % p - x := ⟨q4 - q1 - u * (q - q2) + q3 * x, by grind⟩
    have : (-T) % p = x := by
      obtain ⟨z, hz⟩ := this
      have h1 : z = 0 := by
        rcases Int.lt_trichotomy z 0 with h | h | h
        · have : p * z ≤ p * (-1) := Int.mul_le_mul_of_nonneg_left (by omega) (by omega)
          omega
        · exact h
        · have : p * 1 ≤ p * z := Int.mul_le_mul_of_nonneg_left (by omega) (by omega)
          omega
      rw [h1] at hz
      omega
    rw [this]
end FTM
/-! A data layer over HandS: slots hold data, changing objects are resources. -/
namespace DL
open PySem PySem.Spec PyProof.Rows L2
/-! ### data as it stands in the heap -/
mutual
inductive Dr (K : PySem.W.Frag) (H : Hp) : V → PyData → Prop
  | non : Dr K H .non .none
  | bl (b : Bool) : Dr K H (.bl b) (.bool b)
  | int (i : Int) : Dr K H (.int i) (.int i)
  | lst {a : Addr} {xs : List V} {ds : List PyData} : H a = some (.lst xs) → DrAll K H xs ds → Dr K H (.ref a) (.list ds)
  | tup {a : Addr} {xs : List V} {ds : List PyData} : SqT K H a xs → DrAll K H xs ds → Dr K H (.ref a) (.tuple ds)
inductive DrAll (K : PySem.W.Frag) (H : Hp) : List V → List PyData → Prop
  | nil : DrAll K H [] []
  | cons {v : V} {vs : List V} {d : PyData} {ds : List PyData} : Dr K H v d → DrAll K H vs ds → DrAll K H (v :: vs) (d :: ds)
end
theorem sqT_up {K : PySem.W.Frag} {H H' : Hp} {a : Addr} {xs : List V} (e : Same H H') (h : SqT K H a xs) : SqT K H' a xs := by
  rcases h with (h | ⟨o, h⟩) | h
  · exact Or.inl (Or.inl (e a _ h))
  · exact Or.inl (Or.inr ⟨o, e a _ h⟩)
  · exact Or.inr h
mutual
theorem Dr.up {K : PySem.W.Frag} {H H' : Hp} (e : Same H H') : ∀ {v : V} (d : PyData), Dr K H v d → Dr K H' v d
  | _, .none, h => by cases h; exact Dr.non
  | _, .bool b, h => by cases h; exact Dr.bl b
  | _, .int i, h => by cases h; exact Dr.int i
  | _, .str _, h => by cases h
  | _, .dict _, h => by cases h
  | _, .list ds, h => by
    cases h with
    | lst h1 h2 => exact Dr.lst (e _ _ h1) (DrAll.up e ds h2)
  | _, .tuple ds, h => by
    cases h with
    | tup h1 h2 => exact Dr.tup (sqT_up e h1) (DrAll.up e ds h2)
theorem DrAll.up {K : PySem.W.Frag} {H H' : Hp} (e : Same H H') : ∀ {vs : List V} (ds : List PyData), DrAll K H vs ds → DrAll K H' vs ds
  | _, [], h => by cases h; exact DrAll.nil
  | _, d :: ds, h => by
    cases h with
    | cons h1 h2 => exact DrAll.cons (Dr.up e d h1) (DrAll.up e ds h2)
end
mutual
theorem Dr.dp {K : PySem.W.Frag} {H : Hp} : ∀ {v : V} (d : PyData), Dr K H v d → Dp K H v d
  | _, .none, h => by cases h; exact Dp.non
  | _, .bool b, h => by cases h; exact Dp.bl b
  | _, .int i, h => by cases h; exact Dp.int i
  | _, .str _, h => by cases h
  | _, .dict _, h => by cases h
  | _, .list ds, h => by
    cases h with
    | lst h1 h2 => exact Dp.lst (SqL.of h1) (DrAll.dp ds h2)
  | _, .tuple ds, h => by
    cases h with
    | tup h1 h2 => exact Dp.tup h1 (DrAll.dp ds h2)
theorem DrAll.dp {K : PySem.W.Frag} {H : Hp} : ∀ {vs : List V} (ds : List PyData), DrAll K H vs ds → DpAll K H vs ds
  | _, [], h => by cases h; exact DpAll.nil
  | _, d :: ds, h => by
    cases h with
    | cons h1 h2 => exact DpAll.cons (Dr.dp d h1) (DrAll.dp ds h2)
end
section
variable {K : PySem.W.Frag} {H : Hp}
theorem DrAll.length : ∀ {vs : List V} {ds : List PyData}, DrAll K H vs ds → vs.length = ds.length
  | [], [], _ => rfl
  | [], d :: ds, h => by cases h
  | v :: vs, [], h => by cases h
  | v :: vs, d :: ds, h => by
    cases h with
    | cons _ h2 => simp [DrAll.length h2]
theorem DrAll.get : ∀ {vs : List V} {ds : List PyData} {i : Nat} {d : PyData}, DrAll K H vs ds → ds[i]? = some d → ∃ v, vs[i]? = some v ∧ Dr K H v d
  | [], [], _, _, _, e => by simp at e
  | [], d :: ds, _, _, h, _ => by cases h
  | v :: vs, [], _, _, h, _ => by cases h
  | v :: vs, d :: ds, 0, d', h, e => by
    cases h with
    | cons h1 _ =>
      have : d = d' := by simpa using e
      subst this
      exact ⟨v, rfl, h1⟩
  | v :: vs, d :: ds, i + 1, d', h, e => by
    cases h with
    | cons _ h2 =>
      obtain ⟨w, h3, h4⟩ := DrAll.get (i := i) h2 (by simpa using e)
      exact ⟨w, by simpa using h3, h4⟩
theorem DrAll.get' : ∀ {vs : List V} {ds : List PyData} {i : Nat} {v : V}, DrAll K H vs ds → vs[i]? = some v → ∃ d, ds[i]? = some d ∧ Dr K H v d := fun {vs ds i v} h e => by
  have hl := h.length
  have hi : i < ds.length := by rw [← hl]; exact (List.getElem?_eq_some_iff.mp e).1
  obtain ⟨w, h1, h2⟩ := h.get (List.getElem?_eq_getElem hi)
  rw [e] at h1
  cases h1
  exact ⟨_, List.getElem?_eq_getElem hi, h2⟩
theorem DrAll.append : ∀ {vs ws : List V} {ds es : List PyData}, DrAll K H vs ds → DrAll K H ws es → DrAll K H (vs ++ ws) (ds ++ es)
  | [], _, [], _, _, h => h
  | [], _, d :: ds, _, h, _ => by cases h
  | v :: vs, _, [], _, h, _ => by cases h
  | v :: vs, ws, d :: ds, es, h, h2 => by
    cases h with
    | cons h1 h3 => exact DrAll.cons h1 (DrAll.append h3 h2)
theorem DrAll.one {v : V} {d : PyData} (h : Dr K H v d) : DrAll K H [v] [d] := .cons h .nil
theorem DrAll.take : ∀ {vs : List V} {ds : List PyData} (n : Nat), DrAll K H vs ds → DrAll K H (vs.take n) (ds.take n)
  | _, _, 0, _ => by rw [List.take_zero, List.take_zero]; exact .nil
  | [], [], _ + 1, _ => .nil
  | [], d :: ds, _ + 1, h => by cases h
  | v :: vs, [], _ + 1, h => by cases h
  | v :: vs, d :: ds, n + 1, h => by
    cases h with
    | cons h1 h2 => exact .cons h1 (DrAll.take n h2)
theorem DrAll.drop : ∀ {vs : List V} {ds : List PyData} (n : Nat), DrAll K H vs ds → DrAll K H (vs.drop n) (ds.drop n)
  | _, _, 0, h => h
  | [], [], _ + 1, _ => .nil
  | [], d :: ds, _ + 1, h => by cases h
  | v :: vs, [], _ + 1, h => by cases h
  | v :: vs, d :: ds, n + 1, h => by
    cases h with
    | cons h1 h2 => exact DrAll.drop n h2
theorem DrAll.set : ∀ {vs : List V} {ds : List PyData} {v : V} {d : PyData} (i : Nat), DrAll K H vs ds → Dr K H v d → DrAll K H (vs.set i v) (ds.set i d)
  | [], [], _, _, _, _, _ => .nil
  | [], d :: ds, _, _, _, h, _ => by cases h
  | v :: vs, [], _, _, _, h, _ => by cases h
  | v :: vs, d :: ds, _, _, 0, h, h1 => by
    cases h with
    | cons _ h2 => exact .cons h1 h2
  | v :: vs, d :: ds, _, _, i + 1, h, h1 => by
    cases h with
    | cons h0 h2 => exact .cons h0 (DrAll.set i h2 h1)
theorem DrAll.rep : ∀ {vs : List V} {ds : List PyData} (n : Nat), DrAll K H vs ds → DrAll K H (List.replicate n vs).flatten (List.replicate n ds).flatten
  | _, _, 0, _ => by rw [List.replicate_zero, List.replicate_zero]; exact .nil
  | vs, ds, n + 1, h => by
    rw [List.replicate_succ, List.replicate_succ, List.flatten_cons, List.flatten_cons]
    exact h.append (DrAll.rep n h)
theorem DrAll.ints : ∀ (ns : List Int), DrAll K H (ns.map V.int) (ns.map PyData.int)
  | [] => .nil
  | n :: ns => .cons (.int n) (DrAll.ints ns)
theorem DrAll.to_ints : ∀ {vs : List V} {ns : List Int}, DrAll K H vs (ns.map PyData.int) → vs = ns.map V.int
  | [], [], _ => rfl
  | [], n :: ns, h => by cases h
  | v :: vs, [], h => by cases h
  | v :: vs, n :: ns, h => by
    cases h with
    | cons h1 h2 =>
      cases h1
      rw [DrAll.to_ints h2]; rfl
theorem DrAll.to_bls : ∀ {vs : List V} {bs : List Bool}, DrAll K H vs (bs.map PyData.bool) → vs = bs.map V.bl
  | [], [], _ => rfl
  | [], n :: ns, h => by cases h
  | v :: vs, [], h => by cases h
  | v :: vs, n :: ns, h => by
    cases h with
    | cons h1 h2 =>
      cases h1
      rw [DrAll.to_bls h2]; rfl
end
/-! ### the heap and its support -/
structure Gr (Hb H Hb' H' : Hp) : Prop where
  ext : Same H H'
  sup : Same Hb Hb'
  sub : Same Hb' H'
  out : ∀ a, H a ≠ none → Hb a = none → Hb' a = none
theorem Gr.refl {Hb H : Hp} (s : Same Hb H) : Gr Hb H Hb H := ⟨Same.refl H, Same.refl Hb, s, fun _ _ h => h⟩
theorem up_ne {H H' : Hp} (e : Same H H') {a : Addr} (h : H a ≠ none) : H' a ≠ none := by
  cases q : H a with
  | none => exact absurd q h
  | some o => rw [e a o q]; exact fun z => nomatch z
theorem Gr.trans {Hb H Hb1 H1 Hb2 H2 : Hp} (a : Gr Hb H Hb1 H1) (b : Gr Hb1 H1 Hb2 H2) : Gr Hb H Hb2 H2 :=
  ⟨a.ext.trans b.ext, a.sup.trans b.sup, b.sub, fun x hx h => b.out x (up_ne a.ext hx) (a.out x hx h)⟩
theorem same_upd {H : Hp} {p : Addr} (o : HO) (h : H p = none) : Same H (upd H p o) := fun b u e => by
  rw [upd_ne (ne_of_none e h)]; exact e
/-- a new object in both -/
theorem Gr.new {Hb H : Hp} (s : Same Hb H) {p : Addr} (o : HO) (h : H p = none) : Gr Hb H (upd Hb p o) (upd H p o) := by
  have hb : Hb p = none := s.free h
  refine ⟨same_upd o h, same_upd o hb, fun b u e => ?_, fun a ha h0 => ?_⟩
  · by_cases q : b = p
    · subst q; rw [upd_same] at e ⊢; exact e
    · rw [upd_ne q] at e ⊢; exact s b u e
  · by_cases q : a = p
    · subst q; exact absurd h ha
    · rw [upd_ne q]; exact h0
/-- a new object in the heap alone -/
theorem Gr.own {Hb H : Hp} (s : Same Hb H) {p : Addr} (o : HO) (h : H p = none) : Gr Hb H Hb (upd H p o) :=
  ⟨same_upd o h, Same.refl Hb, s.trans (same_upd o h), fun _ _ h0 => h0⟩
/-- the same, some objects M may change -/
structure GrM (M : Addr → Prop) (Hb H Hb' H' : Hp) : Prop where
  ext : ∀ b o, ¬ M b → H b = some o → H' b = some o
  sup : Same Hb Hb'
  sub : Same Hb' H'
  out : ∀ a, ¬ M a → H a ≠ none → Hb a = none → Hb' a = none
  there : ∀ a, H a ≠ none → H' a ≠ none
theorem GrM.refl {M : Addr → Prop} {Hb H : Hp} (s : Same Hb H) : GrM M Hb H Hb H := ⟨fun _ _ _ h => h, Same.refl Hb, s, fun _ _ _ h => h, fun _ h => h⟩
theorem Gr.m {M : Addr → Prop} {Hb H Hb' H' : Hp} (g : Gr Hb H Hb' H') : GrM M Hb H Hb' H' := ⟨fun b o _ e => g.ext b o e, g.sup, g.sub, fun a _ => g.out a, fun _ h => up_ne g.ext h⟩
theorem GrM.trans {M : Addr → Prop} {Hb H Hb1 H1 Hb2 H2 : Hp} (a : GrM M Hb H Hb1 H1) (b : GrM M Hb1 H1 Hb2 H2) : GrM M Hb H Hb2 H2 :=
  ⟨fun x o hx e => b.ext x o hx (a.ext x o hx e), a.sup.trans b.sup, b.sub, fun x hm hx h => b.out x hm (a.there x hx) (a.out x hm hx h), fun x h => b.there x (a.there x h)⟩
theorem GrM.gr {M : Addr → Prop} {Hb H Hb' H' : Hp} (g : GrM M Hb H Hb' H') (h : ∀ b, ¬ M b) : Gr Hb H Hb' H' := ⟨fun b o e => g.ext b o (h b) e, g.sup, g.sub, fun a => g.out a (h a)⟩
/-- from an earlier support -/
theorem GrM.back {M : Addr → Prop} {Hb0 H0 Hb1 H1 Hb2 H2 : Hp} (a : GrM M Hb0 H0 Hb1 H1) (b : GrM M Hb1 H0 Hb2 H2) : GrM M Hb0 H0 Hb2 H2 :=
  ⟨b.ext, a.sup.trans b.sup, b.sub, fun x hm hx h => b.out x hm hx (a.out x hm hx h), b.there⟩
/-- the same with the support of later -/
theorem GrM.fwd {M : Addr → Prop} {Hb0 H0 Hb1 H1 : Hp} (a : GrM M Hb0 H0 Hb1 H1) : GrM M Hb1 H0 Hb1 H1 := ⟨a.ext, Same.refl _, a.sub, fun _ _ _ h => h, a.there⟩
/-! ### slots, resources -/
inductive Sc where
  | un
  | val (d : PyData)
  | raw (v : V)
  | sqi (ns : List Int)
def ScR (K : PySem.W.Frag) (Hb : Hp) (v : V) : Sc → Prop
  | .un => True
  | .val d => Dr K Hb v d
  | .raw w => v = w
  | .sqi ns => ∃ a, v = .ref a ∧ SqL K Hb a (ns.map V.int)
theorem sqL_up {K : PySem.W.Frag} {H H' : Hp} {a : Addr} {xs : List V} (e : Same H H') (h : SqL K H a xs) : SqL K H' a xs := by
  rcases h with (h | ⟨o, h⟩) | h
  · exact Or.inl (Or.inl (e a _ h))
  · exact Or.inl (Or.inr ⟨o, e a _ h⟩)
  · exact Or.inr h
theorem ScR.up {K : PySem.W.Frag} {Hb Hb' : Hp} (e : Same Hb Hb') {v : V} : ∀ {c : Sc}, ScR K Hb v c → ScR K Hb' v c
  | .un, _ => trivial
  | .val d, h => Dr.up e d h
  | .raw _, h => h
  | .sqi _, ⟨a, h1, h2⟩ => ⟨a, h1, sqL_up e h2⟩
def SlotR (K : PySem.W.Frag) (Hb : Hp) (o : Option V) : Sc → Prop
  | .un => True
  | .val d => ∃ v, o = some v ∧ Dr K Hb v d
  | .raw w => o = some w
  | .sqi ns => ∃ a, o = some (.ref a) ∧ SqL K Hb a (ns.map V.int)
theorem SlotR.up {K : PySem.W.Frag} {Hb Hb' : Hp} (e : Same Hb Hb') {o : Option V} : ∀ {c : Sc}, SlotR K Hb o c → SlotR K Hb' o c
  | .un, _ => trivial
  | .val d, ⟨v, h, r⟩ => ⟨v, h, Dr.up e d r⟩
  | .raw _, h => h
  | .sqi _, ⟨a, h1, h2⟩ => ⟨a, h1, sqL_up e h2⟩
theorem ScR.slot {K : PySem.W.Frag} {Hb : Hp} {v : V} : ∀ {c : Sc}, ScR K Hb v c → SlotR K Hb (some v) c
  | .un, _ => trivial
  | .val _, h => ⟨v, rfl, h⟩
  | .raw _, h => by
    have : v = _ := h
    rw [this]; exact rfl
  | .sqi _, ⟨a, h1, h2⟩ => ⟨a, by rw [h1], h2⟩
inductive Rs where
  | lst (xs : List PyData)
  | dct (kvs : List (Int × PyData))
  | ins (C dx : Addr) (fs : List (Str × PyData))
def KvR (K : PySem.W.Frag) (Hb : Hp) : List (Key × V) → List (Int × PyData) → Prop := Paired fun w q => w.1 = Sum.inl q.1 ∧ Dr K Hb w.2 q.2
def FsR (K : PySem.W.Frag) (Hb : Hp) : List (Str × V) → List (Str × PyData) → Prop := Paired fun w q => w.1 = q.1 ∧ Dr K Hb w.2 q.2
def RsAt (K : PySem.W.Frag) (Hb H : Hp) (a : Addr) : Rs → Prop
  | .lst xs => ∃ vs, H a = some (.lst vs) ∧ DrAll K Hb vs xs
  | .dct kvs => ∃ ws, H a = some (.dK ws) ∧ KvR K Hb ws kvs
  | .ins C dx fs => ∃ ws, H a = some (.ins C dx ws) ∧ FsR K Hb ws fs
theorem RsAt.some_ {K : PySem.W.Frag} {Hb H : Hp} {a : Addr} : ∀ {r : Rs}, RsAt K Hb H a r → H a ≠ none
  | .lst _, ⟨_, h, _⟩ => by rw [h]; exact fun z => nomatch z
  | .dct _, ⟨_, h, _⟩ => by rw [h]; exact fun z => nomatch z
  | .ins _ _ _, ⟨_, h, _⟩ => by rw [h]; exact fun z => nomatch z
theorem RsAt.up {K : PySem.W.Frag} {Hb H Hb' H' : Hp} (e : Same Hb Hb') {a : Addr} (k : ∀ o, H a = some o → H' a = some o) : ∀ {r : Rs}, RsAt K Hb H a r → RsAt K Hb' H' a r
  | .lst _, ⟨vs, h, r⟩ => ⟨vs, k _ h, DrAll.up e _ r⟩
  | .dct _, ⟨ws, h, r⟩ => ⟨ws, k _ h, Paired.mapP r fun _ _ z => ⟨z.1, Dr.up e _ z.2⟩⟩
  | .ins _ _ _, ⟨ws, h, r⟩ => ⟨ws, k _ h, Paired.mapP r fun _ _ z => ⟨z.1, Dr.up e _ z.2⟩⟩
abbrev Rss := List (Addr × Rs)
abbrev Scs := List Sc
/-- resources: apart from the support, each once -/
structure ResR (K : PySem.W.Frag) (Hb H : Hp) (rs : Rss) : Prop where
  nd : (rs.map (·.1)).Nodup
  at_ : ∀ x ∈ rs, Hb x.1 = none ∧ RsAt K Hb H x.1 x.2
theorem ResR.nil {K : PySem.W.Frag} {Hb H : Hp} : ResR K Hb H [] := ⟨List.nodup_nil, fun x h => nomatch h⟩
theorem ResR.up {K : PySem.W.Frag} {Hb H Hb' H' : Hp} {rs : Rss} (g : Gr Hb H Hb' H') (r : ResR K Hb H rs) : ResR K Hb' H' rs :=
  ⟨r.nd, fun x hx => ⟨g.out _ (r.at_ x hx).2.some_ (r.at_ x hx).1, (r.at_ x hx).2.up g.sup fun o e => g.ext _ o e⟩⟩
structure Stt (K : PySem.W.Frag) (Hb H : Hp) (σ : L2.St) (ds : Scs) (rs : Rss) : Prop where
  sub : Same Hb H
  len : σ.length = ds.length
  slot : ∀ (i : Nat) (o : Option V) (c : Sc), σ[i]? = some o → ds[i]? = some c → SlotR K Hb o c
  res : ResR K Hb H rs
theorem Stt.up {K : PySem.W.Frag} {Hb H Hb' H' : Hp} {σ : L2.St} {ds : Scs} {rs : Rss} (g : Gr Hb H Hb' H') (S : Stt K Hb H σ ds rs) : Stt K Hb' H' σ ds rs :=
  ⟨g.sub, S.len, fun i o c h1 h2 => (S.slot i o c h1 h2).up g.sup, S.res.up g⟩
theorem Stt.set {K : PySem.W.Frag} {Hb H : Hp} {σ : L2.St} {ds : Scs} {rs : Rss} (S : Stt K Hb H σ ds rs) (i : Nat) {v : V} {c : Sc} (r : ScR K Hb v c) : Stt K Hb H (σ.set i (some v)) (ds.set i c) rs := by
  refine ⟨S.sub, by rw [List.length_set, List.length_set]; exact S.len, fun j o c' h1 h2 => ?_, S.res⟩
  by_cases e : i = j
  · subst e
    have hi : i < σ.length := by
      have := (List.getElem?_eq_some_iff.mp h1).1
      rwa [List.length_set] at this
    rw [List.getElem?_set_self hi] at h1
    rw [List.getElem?_set_self (by rw [← S.len]; exact hi)] at h2
    cases h1
    cases h2
    exact r.slot
  · rw [List.getElem?_set_ne e] at h1 h2
    exact S.slot j o c' h1 h2
theorem Stt.var {K : PySem.W.Frag} {Hb H : Hp} {σ : L2.St} {ds : Scs} {rs : Rss} (S : Stt K Hb H σ ds rs) {i : Nat} {c : Sc} (h : ds[i]? = some c) : ∃ o, σ[i]? = some o ∧ SlotR K Hb o c := by
  have hi : i < σ.length := by rw [S.len]; exact (List.getElem?_eq_some_iff.mp h).1
  exact ⟨_, List.getElem?_eq_getElem hi, S.slot i _ c (List.getElem?_eq_getElem hi) h⟩
end DL
set_option maxHeartbeats 1000000
/-! The data layer: expressions, tests, arguments, statements. -/
namespace DL
open PySem PySem.Spec PyProof.Rows L2
abbrev ScRs (K : PySem.W.Frag) (Hb : Hp) : List V → Scs → Prop := Paired (ScR K Hb)
theorem ScRs.up {K : PySem.W.Frag} {Hb Hb' : Hp} (e : Same Hb Hb') {vs : List V} {cs : Scs} (h : ScRs K Hb vs cs) : ScRs K Hb' vs cs := Paired.mapP h fun _ _ z => z.up e
def EvC (K : PySem.W.Frag) (te : TE) (ds : Scs) (rs : Rss) (c : Sc) : Prop := ∀ Hb H σ, Stt K Hb H σ ds rs → ∀ Q : VK, (∀ v Hb' H', Gr Hb H Hb' H' → ScR K Hb' v c → Q v H') → te σ H Q
abbrev EvD (K : PySem.W.Frag) (te : TE) (ds : Scs) (rs : Rss) (d : PyData) : Prop := EvC K te ds rs (.val d)
def EtD (K : PySem.W.Frag) (tt : TT) (ds : Scs) (rs : Rss) (b : Bool) : Prop := ∀ Hb H σ, Stt K Hb H σ ds rs → ∀ Q : Bool → Hp → Prop, (∀ Hb' H', Gr Hb H Hb' H' → Q b H') → tt σ H Q
def EaC (K : PySem.W.Frag) (ta : TA) (ds : Scs) (rs : Rss) (cs : Scs) : Prop := ∀ Hb H σ, Stt K Hb H σ ds rs → ∀ Q : List V → Hp → Prop, (∀ vs Hb' H', Gr Hb H Hb' H' → ScRs K Hb' vs cs → Q vs H') → ta σ H Q
def EoD (K : PySem.W.Frag) (to : TO) (ds : Scs) (rs : Rss) (o : Option Int) : Prop := ∀ Hb H σ, Stt K Hb H σ ds rs → ∀ Q : Option Int → Hp → Prop, (∀ Hb' H', Gr Hb H Hb' H' → Q o H') → to σ H Q
/-- an operation on values -/
def RvC (K : PySem.W.Frag) (r : R2) (c1 c2 c : Sc) : Prop := ∀ Hb H x y, Same Hb H → ScR K Hb x c1 → ScR K Hb y c2 → ∀ Q : VK, (∀ v Hb' H', Gr Hb H Hb' H' → ScR K Hb' v c → Q v H') → r x y H Q
def RuC (K : PySem.W.Frag) (r : V → Hp → VK → Prop) (c1 c : Sc) : Prop := ∀ Hb H x, Same Hb H → ScR K Hb x c1 → ∀ Q : VK, (∀ v Hb' H', Gr Hb H Hb' H' → ScR K Hb' v c → Q v H') → r x H Q
def RcC (K : PySem.W.Frag) (r : List V → Hp → VK → Prop) (cs : Scs) (c : Sc) : Prop := ∀ Hb H vs, Same Hb H → ScRs K Hb vs cs → ∀ Q : VK, (∀ v Hb' H', Gr Hb H Hb' H' → ScR K Hb' v c → Q v H') → r vs H Q
section
variable {K : PySem.W.Frag} {ds : Scs} {rs : Rss} {te ta tb tc : TE} {c c1 c2 c3 : Sc} {d : PyData}
theorem ec_val {i : Nat} (h : ds[i]? = some (.val d)) : EvC K (tVar i) ds rs (.val d) := fun Hb H σ S Q k => by
  obtain ⟨o, e, v, e2, r⟩ := S.var h
  exact ⟨v, by rw [e, e2], k v Hb H (Gr.refl S.sub) r⟩
theorem ec_raw {i : Nat} {w : V} (h : ds[i]? = some (.raw w)) : EvC K (tVar i) ds rs (.raw w) := fun Hb H σ S Q k => by
  obtain ⟨o, e, e2⟩ := S.var h
  have e3 : o = some w := e2
  exact ⟨w, by rw [e, e3], k w Hb H (Gr.refl S.sub) rfl⟩
theorem ec_c {v : V} (h : ∀ Hb : Hp, ScR K Hb v c) : EvC K (tC v) ds rs c := fun Hb H σ S Q k => k v Hb H (Gr.refl S.sub) (h Hb)
theorem ec_int {i : Int} : EvC K (tC (.int i)) ds rs (.val (.int i)) := ec_c fun _ => .int i
theorem ec_bl {b : Bool} : EvC K (tC (.bl b)) ds rs (.val (.bool b)) := ec_c fun _ => .bl b
theorem ec_non : EvC K (tC .non) ds rs (.val .none) := ec_c fun _ => .non
theorem ec_rawc {v : V} : EvC K (tC v) ds rs (.raw v) := ec_c fun _ => rfl
theorem ec_op {r : R2} (ha : EvC K ta ds rs c1) (hb : EvC K tb ds rs c2) (hr : RvC K r c1 c2 c) : EvC K (tOp r ta tb) ds rs c := fun Hb H σ S Q k =>
  ha Hb H σ S _ fun x Hb1 H1 g1 r1 => hb Hb1 H1 σ (S.up g1) _ fun y Hb2 H2 g2 r2 => hr Hb2 H2 x y g2.sub (r1.up g2.sup) r2 Q fun v Hb3 H3 g3 r3 => k v Hb3 H3 ((g1.trans g2).trans g3) r3
theorem ec_un {r : V → Hp → VK → Prop} (ha : EvC K ta ds rs c1) (hr : RuC K r c1 c) : EvC K (tUn r ta) ds rs c := fun Hb H σ S Q k =>
  ha Hb H σ S _ fun x Hb1 H1 g1 r1 => hr Hb1 H1 x g1.sub r1 Q fun v Hb3 H3 g3 r3 => k v Hb3 H3 (g1.trans g3) r3
theorem ea_nil : EaC K tNil ds rs [] := fun Hb H σ S Q k => k [] Hb H (Gr.refl S.sub) .nil
theorem ea_cons {tr : TA} {cs : Scs} (ha : EvC K te ds rs c) (hr : EaC K tr ds rs cs) : EaC K (tCons te tr) ds rs (c :: cs) := fun Hb H σ S Q k =>
  ha Hb H σ S _ fun x Hb1 H1 g1 r1 => hr Hb1 H1 σ (S.up g1) _ fun vs Hb2 H2 g2 r2 => k (x :: vs) Hb2 H2 (g1.trans g2) (.cons (r1.up g2.sup) r2)
theorem ec_cb {r : List V → Hp → VK → Prop} {ta : TA} {cs : Scs} (ha : EaC K ta ds rs cs) (hr : RcC K r cs c) : EvC K (tCB r ta) ds rs c := fun Hb H σ S Q k =>
  ha Hb H σ S _ fun vs Hb1 H1 g1 r1 => hr Hb1 H1 vs g1.sub r1 Q fun v Hb3 H3 g3 r3 => k v Hb3 H3 (g1.trans g3) r3
/-! ### tests -/
theorem et_test {b : Bool} (h : EvC K te ds rs (.val (.bool b))) : EtD K (tTest te) ds rs b := fun Hb H σ S Q k =>
  h Hb H σ S _ fun v Hb1 H1 g r => by
    cases r
    exact ⟨b, rfl, k Hb1 H1 g⟩
theorem et_B {b : Bool} (h : EvC K te ds rs (.val (.bool b))) : EtD K (tB te) ds rs b := fun Hb H σ S Q k =>
  h Hb H σ S _ fun v Hb1 H1 g r => by
    cases r
    exact ⟨b, rfl, k Hb1 H1 g⟩
theorem et_not {t : TT} {b : Bool} (h : EtD K t ds rs b) : EtD K (tNot t) ds rs (!b) := fun Hb H σ S Q k => h Hb H σ S _ fun Hb1 H1 g => k Hb1 H1 g
theorem et_and {t u : TT} {a b : Bool} (h : EtD K t ds rs a) (h2 : a = true → EtD K u ds rs b) : EtD K (tAnd t u) ds rs (a && b) := fun Hb H σ S Q k => h Hb H σ S _ fun Hb1 H1 g => by
  cases a with
  | true =>
    rw [if_pos rfl]
    exact h2 rfl Hb1 H1 σ (S.up g) Q fun Hb2 H2 g2 => k Hb2 H2 (g.trans g2)
  | false =>
    rw [if_neg Bool.false_ne_true]
    exact k Hb1 H1 g
theorem et_or {t u : TT} {a b : Bool} (h : EtD K t ds rs a) (h2 : a = false → EtD K u ds rs b) : EtD K (tOr t u) ds rs (a || b) := fun Hb H σ S Q k => h Hb H σ S _ fun Hb1 H1 g => by
  cases a with
  | false =>
    rw [if_neg Bool.false_ne_true]
    exact h2 rfl Hb1 H1 σ (S.up g) Q fun Hb2 H2 g2 => k Hb2 H2 (g.trans g2)
  | true =>
    rw [if_pos rfl]
    exact k Hb1 H1 g
theorem et_is {t : TT} {a b : Bool} (h : EtD K t ds rs a) (e : a = b) : EtD K t ds rs b := e ▸ h
theorem ec_is (h : EvC K te ds rs c) (e : c = c1) : EvC K te ds rs c1 := e ▸ h
theorem ec_andV {a b : Bool} (h : EvC K ta ds rs (.val (.bool a))) (h2 : a = true → EvC K tb ds rs (.val (.bool b))) : EvC K (tAndV ta tb) ds rs (.val (.bool (a && b))) := fun Hb H σ S Q k => h Hb H σ S _ fun v Hb1 H1 g r => by
  cases r
  cases a with
  | true =>
    refine ⟨true, rfl, ?_⟩
    rw [if_pos rfl]
    exact h2 rfl Hb1 H1 σ (S.up g) Q fun v Hb2 H2 g2 r2 => k v Hb2 H2 (g.trans g2) r2
  | false =>
    refine ⟨false, rfl, ?_⟩
    rw [if_neg Bool.false_ne_true]
    exact k _ Hb1 H1 g (.bl false)
theorem ec_orV {a b : Bool} (h : EvC K ta ds rs (.val (.bool a))) (h2 : a = false → EvC K tb ds rs (.val (.bool b))) : EvC K (tOrV ta tb) ds rs (.val (.bool (a || b))) := fun Hb H σ S Q k => h Hb H σ S _ fun v Hb1 H1 g r => by
  cases r
  cases a with
  | false =>
    refine ⟨false, rfl, ?_⟩
    rw [if_neg Bool.false_ne_true]
    exact h2 rfl Hb1 H1 σ (S.up g) Q fun v Hb2 H2 g2 r2 => k v Hb2 H2 (g.trans g2) r2
  | true =>
    refine ⟨true, rfl, ?_⟩
    rw [if_pos rfl]
    exact k _ Hb1 H1 g (.bl true)
theorem ec_notV {a : Bool} (h : EvC K ta ds rs (.val (.bool a))) : EvC K (tNotV ta) ds rs (.val (.bool (!a))) := fun Hb H σ S Q k => h Hb H σ S _ fun v Hb1 H1 g r => by
  cases r
  exact ⟨a, rfl, k _ Hb1 H1 g (.bl _)⟩
theorem ec_if {t : TT} {b : Bool} (h : EtD K t ds rs b) (h1 : b = true → EvC K ta ds rs c) (h2 : b = false → EvC K tb ds rs c) : EvC K (tIf t ta tb) ds rs c := fun Hb H σ S Q k => h Hb H σ S _ fun Hb1 H1 g => by
  cases b with
  | true =>
    rw [if_pos rfl]
    exact h1 rfl Hb1 H1 σ (S.up g) Q fun v Hb2 H2 g2 r2 => k v Hb2 H2 (g.trans g2) r2
  | false =>
    rw [if_neg Bool.false_ne_true]
    exact h2 rfl Hb1 H1 σ (S.up g) Q fun v Hb2 H2 g2 r2 => k v Hb2 H2 (g.trans g2) r2
theorem ec_chain {r r' : R2} {a b : Bool} (ha : EvC K ta ds rs c1) (hb : EvC K tb ds rs c2) (hr : RvC K r c1 c2 (.val (.bool a))) (hc : a = true → EvC K tc ds rs c3) (hr2 : a = true → RvC K r' c2 c3 (.val (.bool b))) : EvC K (tChain r r' ta tb tc) ds rs (.val (.bool (a && b))) := fun Hb H σ S Q k =>
  ha Hb H σ S _ fun x Hb1 H1 g1 r1 => hb Hb1 H1 σ (S.up g1) _ fun y Hb2 H2 g2 r2 => hr Hb2 H2 x y g2.sub (r1.up g2.sup) r2 _ fun z Hb3 H3 g3 r3 => by
    cases r3
    cases a with
    | true =>
      refine ⟨true, rfl, ?_⟩
      rw [if_pos rfl]
      exact hc rfl Hb3 H3 σ (S.up ((g1.trans g2).trans g3)) _ fun u Hb4 H4 g4 r4 => hr2 rfl Hb4 H4 y u g4.sub (r2.up (g3.sup.trans g4.sup)) r4 Q fun v Hb5 H5 g5 r5 => k v Hb5 H5 ((((g1.trans g2).trans g3).trans g4).trans g5) r5
    | false =>
      refine ⟨false, rfl, ?_⟩
      rw [if_neg Bool.false_ne_true]
      exact k _ Hb3 H3 ((g1.trans g2).trans g3) (.bl false)
theorem et_truL {xs : List PyData} (h : EvC K te ds rs (.val (.list xs))) : EtD K (fun σ H Q => te σ H fun x H' => ∃ k, TruV K x H' k ∧ Q k H') ds rs (!xs.isEmpty) := fun Hb H σ S Q k => h Hb H σ S _ fun v Hb1 H1 g r => by
  cases r with
  | lst h1 h2 =>
    refine ⟨_, .inl ⟨_, SqL.of (g.sub _ _ h1), rfl⟩, ?_⟩
    have e := h2.length
    have : ∀ {vs : List V}, vs.length = xs.length → (!vs.isEmpty) = !xs.isEmpty := fun {vs} e => by
      cases vs <;> cases xs <;> simp_all
    rw [this e]
    exact k Hb1 H1 g
theorem et_truT {xs : List PyData} (h : EvC K te ds rs (.val (.tuple xs))) : EtD K (fun σ H Q => te σ H fun x H' => ∃ k, TruV K x H' k ∧ Q k H') ds rs (!xs.isEmpty) := fun Hb H σ S Q k => h Hb H σ S _ fun v Hb1 H1 g r => by
  cases r with
  | tup h1 h2 =>
    refine ⟨_, .inr (.inl ⟨_, sqT_up g.sub h1, rfl⟩), ?_⟩
    have e := h2.length
    have : ∀ {vs : List V}, vs.length = xs.length → (!vs.isEmpty) = !xs.isEmpty := fun {vs} e => by
      cases vs <;> cases xs <;> simp_all
    rw [this e]
    exact k Hb1 H1 g
/-! ### operators -/
theorem rv_I0 {f : Int → Int → Int} {i j : Int} : RvC K (rI0 fun i j => .int (f i j)) (.val (.int i)) (.val (.int j)) (.val (.int (f i j))) := fun Hb H x y s r1 r2 Q k => by
  cases r1
  cases r2
  exact ⟨i, j, rfl, rfl, k _ Hb H (Gr.refl s) (.int _)⟩
theorem rv_B0 {f : Int → Int → Bool} {i j : Int} : RvC K (rI0 fun i j => .bl (f i j)) (.val (.int i)) (.val (.int j)) (.val (.bool (f i j))) := fun Hb H x y s r1 r2 Q k => by
  cases r1
  cases r2
  exact ⟨i, j, rfl, rfl, k _ Hb H (Gr.refl s) (.bl _)⟩
theorem rv_I {C : Int → Int → Prop} {f : Int → Int → Int} {i j : Int} (hc : C i j) : RvC K (rI C fun i j => .int (f i j)) (.val (.int i)) (.val (.int j)) (.val (.int (f i j))) := fun Hb H x y s r1 r2 Q k => by
  cases r1
  cases r2
  exact ⟨i, j, rfl, rfl, hc, k _ Hb H (Gr.refl s) (.int _)⟩
theorem rv_eqI {i j : Int} : RvC K rEq (.val (.int i)) (.val (.int j)) (.val (.bool (decide (i = j)))) := fun Hb H x y s r1 r2 Q k => by
  cases r1
  cases r2
  refine ⟨rfl, ?_⟩
  have e : decide (V.int i = V.int j) = decide (i = j) := by simp
  rw [e]
  exact k _ Hb H (Gr.refl s) (.bl _)
theorem rv_neI {i j : Int} : RvC K rNe (.val (.int i)) (.val (.int j)) (.val (.bool (!decide (i = j)))) := fun Hb H x y s r1 r2 Q k => by
  cases r1
  cases r2
  refine ⟨rfl, ?_⟩
  have e : decide (V.int i = V.int j) = decide (i = j) := by simp
  rw [e]
  exact k _ Hb H (Gr.refl s) (.bl _)
theorem rv_eqB {i j : Bool} : RvC K rEq (.val (.bool i)) (.val (.bool j)) (.val (.bool (decide (i = j)))) := fun Hb H x y s r1 r2 Q k => by
  cases r1
  cases r2
  refine ⟨rfl, ?_⟩
  have e : decide (V.bl i = V.bl j) = decide (i = j) := by simp
  rw [e]
  exact k _ Hb H (Gr.refl s) (.bl _)
theorem rv_neB {i j : Bool} : RvC K rNe (.val (.bool i)) (.val (.bool j)) (.val (.bool (!decide (i = j)))) := fun Hb H x y s r1 r2 Q k => by
  cases r1
  cases r2
  refine ⟨rfl, ?_⟩
  have e : decide (V.bl i = V.bl j) = decide (i = j) := by simp
  rw [e]
  exact k _ Hb H (Gr.refl s) (.bl _)
theorem rv_eqD {d e : PyData} (h1 : SeqAt.shaped d = true) (h2 : SeqAt.shaped e = true) : RvC K (rEqD K) (.val d) (.val e) (.val (.bool (PyData.eqv d e))) := fun Hb H x y s r1 r2 Q k =>
  ⟨d, e, Dr.dp _ (Dr.up s _ r1), Dr.dp _ (Dr.up s _ r2), h1, h2, k _ Hb H (Gr.refl s) (.bl _)⟩
theorem rv_neD {d e : PyData} (h1 : SeqAt.shaped d = true) (h2 : SeqAt.shaped e = true) : RvC K (rNeD K) (.val d) (.val e) (.val (.bool (!PyData.eqv d e))) := fun Hb H x y s r1 r2 Q k =>
  ⟨d, e, Dr.dp _ (Dr.up s _ r1), Dr.dp _ (Dr.up s _ r2), h1, h2, k _ Hb H (Gr.refl s) (.bl _)⟩
def isNone : PyData → Bool
  | .none => true
  | _ => false
theorem isN_of {Hb : Hp} {v : V} {d : PyData} (r : Dr K Hb v d) : decide (v = .non) = isNone d := by
  cases r <;> rfl
theorem ec_isN {d : PyData} (h : EvC K te ds rs (.val d)) : EvC K (tIsN te) ds rs (.val (.bool (isNone d))) := fun Hb H σ S Q k => h Hb H σ S _ fun v Hb1 H1 g r => by
  have e := isN_of r
  rw [e]
  exact k _ Hb1 H1 g (.bl _)
theorem ec_notN {d : PyData} (h : EvC K te ds rs (.val d)) : EvC K (tNotN te) ds rs (.val (.bool (!isNone d))) := fun Hb H σ S Q k => h Hb H σ S _ fun v Hb1 H1 g r => by
  have e := isN_of r
  rw [e]
  exact k _ Hb1 H1 g (.bl _)
theorem at_dr {Hb : Hp} {vs : List V} {xs : List PyData} (h2 : DrAll K Hb vs xs) {i : Int} {d : PyData} (h : atI xs i = some d) : ∃ v, atI vs i = some v ∧ Dr K Hb v d := by
  have e := h2.length
  unfold atI at h ⊢
  cases q : ixN xs.length i with
  | none => rw [q] at h; cases h
  | some j =>
    rw [q] at h
    rw [e, q]
    exact h2.get h
theorem rv_ixL {xs : List PyData} {i : Int} {d : PyData} (h : atI xs i = some d) : RvC K (rIxL K) (.val (.list xs)) (.val (.int i)) (.val d) := fun Hb H x y s r1 r2 Q k => by
  cases r2
  cases r1 with
  | lst h1 h2 =>
    have e := h2.length
    obtain ⟨v, e1, e2⟩ := at_dr h2 h
    exact ⟨_, _, i, v, rfl, rfl, SqL.of (s _ _ h1), e1, k v Hb H (Gr.refl s) e2⟩
theorem rv_ixT {xs : List PyData} {i : Int} {d : PyData} (h : atI xs i = some d) : RvC K (rIxT K) (.val (.tuple xs)) (.val (.int i)) (.val d) := fun Hb H x y s r1 r2 Q k => by
  cases r2
  cases r1 with
  | tup h1 h2 =>
    have e := h2.length
    obtain ⟨v, e1, e2⟩ := at_dr h2 h
    exact ⟨_, _, i, v, rfl, rfl, sqT_up s h1, e1, k v Hb H (Gr.refl s) e2⟩
theorem atI_at {α : Type} {xs : List α} {i : Int} {j : Nat} {d : α} (hi : i = (j : Int)) (h : xs[j]? = some d) : atI xs i = some d := by rw [hi]; exact atI_nat h
/-! ### displays, slices -/
theorem drAll_of {Hb : Hp} : ∀ {vs : List V} {xs : List PyData}, ScRs K Hb vs (xs.map Sc.val) → DrAll K Hb vs xs
  | [], [], _ => .nil
  | [], x :: xs, h => by cases h
  | v :: vs, [], h => by cases h
  | v :: vs, x :: xs, h => by
    cases h with
    | cons h1 h2 => exact .cons h1 (drAll_of h2)
theorem new_tup {Hb H : Hp} (s : Same Hb H) {p : Addr} (hp : H p = none) {vs : List V} {xs : List PyData} (r : DrAll K Hb vs xs) : Gr Hb H (upd Hb p (.tup vs)) (upd H p (.tup vs)) ∧ Dr K (upd Hb p (.tup vs)) (.ref p) (.tuple xs) :=
  ⟨Gr.new s _ hp, .tup (SqT.of upd_same) (DrAll.up (Gr.new s _ hp).sup _ r)⟩
theorem new_lst {Hb H : Hp} (s : Same Hb H) {p : Addr} (hp : H p = none) {vs : List V} {xs : List PyData} (r : DrAll K Hb vs xs) : Gr Hb H (upd Hb p (.lst vs)) (upd H p (.lst vs)) ∧ Dr K (upd Hb p (.lst vs)) (.ref p) (.list xs) :=
  ⟨Gr.new s _ hp, .lst upd_same (DrAll.up (Gr.new s _ hp).sup _ r)⟩
theorem line_of {n : Nat} (h : n ≤ 100000) : n ≤ sizeLine := Nat.le_trans h (by decide)
theorem ec_tup {ta : TA} {xs : List PyData} (h : EaC K ta ds rs (xs.map Sc.val)) (hl : xs.length ≤ 100000) : EvC K (tTup ta) ds rs (.val (.tuple xs)) := fun Hb H σ S Q k => h Hb H σ S _ fun vs Hb1 H1 g r => by
  have r2 := drAll_of r
  refine ⟨by rw [r2.length]; exact line_of hl, fun p hp => ?_⟩
  obtain ⟨g2, r3⟩ := new_tup g.sub hp r2
  exact k _ _ _ (g.trans g2) r3
theorem ec_lst {ta : TA} {xs : List PyData} (h : EaC K ta ds rs (xs.map Sc.val)) (hl : xs.length ≤ 100000) : EvC K (tLst ta) ds rs (.val (.list xs)) := fun Hb H σ S Q k => h Hb H σ S _ fun vs Hb1 H1 g r => by
  have r2 := drAll_of r
  refine ⟨by rw [r2.length]; exact line_of hl, fun p hp => ?_⟩
  obtain ⟨g2, r3⟩ := new_lst g.sub hp r2
  exact k _ _ _ (g.trans g2) r3
theorem eo_none : EoD K tNoPart ds rs none := fun Hb H σ S Q k => k Hb H (Gr.refl S.sub)
theorem eo_some {i : Int} (h : EvC K te ds rs (.val (.int i))) : EoD K (tPart te) ds rs (some i) := fun Hb H σ S Q k => h Hb H σ S _ fun v Hb1 H1 g r => by
  cases r
  exact ⟨i, rfl, k Hb1 H1 g⟩
def cutD {α : Type} (xs : List α) (lo hi : Option Int) : List α := (xs.drop (HT.sIx xs.length 0 lo)).take (HT.sIx xs.length xs.length hi - HT.sIx xs.length 0 lo)
theorem cut_dr {Hb : Hp} {vs : List V} {xs : List PyData} (h : DrAll K Hb vs xs) (lo hi : Option Int) : DrAll K Hb (cutV vs lo hi) (cutD xs lo hi) := by
  unfold cutV cutD
  rw [h.length]
  exact (h.drop _).take _
theorem ec_slL {tl th : TO} {xs : List PyData} {lo hi : Option Int} (h : EvC K te ds rs (.val (.list xs))) (h1 : EoD K tl ds rs lo) (h2 : EoD K th ds rs hi) : EvC K (tSl (rSlL K) te tl th) ds rs (.val (.list (cutD xs lo hi))) := fun Hb H σ S Q k =>
  h Hb H σ S _ fun v Hb1 H1 g1 r1 => h1 Hb1 H1 σ (S.up g1) _ fun Hb2 H2 g2 => h2 Hb2 H2 σ (S.up (g1.trans g2)) _ fun Hb3 H3 g3 => by
    have r3 := Dr.up (g2.sup.trans g3.sup) _ r1
    cases r3 with
    | lst e1 e2 =>
      refine ⟨_, _, rfl, SqL.of (g3.sub _ _ e1), fun p hp => ?_⟩
      obtain ⟨g4, r4⟩ := new_lst g3.sub hp (cut_dr e2 lo hi)
      exact k _ _ _ (((g1.trans g2).trans g3).trans g4) r4
theorem ec_slT {tl th : TO} {xs : List PyData} {lo hi : Option Int} (h : EvC K te ds rs (.val (.tuple xs))) (h1 : EoD K tl ds rs lo) (h2 : EoD K th ds rs hi) : EvC K (tSl (rSlA K) te tl th) ds rs (.val (.tuple (cutD xs lo hi))) := fun Hb H σ S Q k =>
  h Hb H σ S _ fun v Hb1 H1 g1 r1 => h1 Hb1 H1 σ (S.up g1) _ fun Hb2 H2 g2 => h2 Hb2 H2 σ (S.up (g1.trans g2)) _ fun Hb3 H3 g3 => by
    have r3 := Dr.up (g2.sup.trans g3.sup) _ r1
    cases r3 with
    | tup e1 e2 =>
      have el := e2.length
      refine ⟨_, _, rfl, sqT_up g3.sub e1, fun hw => ?_, fun _ p hp => ?_⟩
      · refine k _ Hb3 H3 ((g1.trans g2).trans g3) ?_
        rw [el] at hw
        have : cutD xs lo hi = xs := by
          unfold cutD
          rw [hw.1, hw.2]
          simp
        rw [this]
        exact Dr.up (g2.sup.trans g3.sup) _ r1
      · obtain ⟨g4, r4⟩ := new_tup g3.sub hp (cut_dr e2 lo hi)
        exact k _ _ _ (((g1.trans g2).trans g3).trans g4) r4
theorem rv_catT {xs ys : List PyData} (hl : xs.length + ys.length ≤ 100000) : RvC K (rCatA K) (.val (.tuple xs)) (.val (.tuple ys)) (.val (.tuple (xs ++ ys))) := fun Hb H x y s r1 r2 Q k => by
  cases r1 with
  | tup e1 e2 =>
    cases r2 with
    | tup f1 f2 =>
      refine ⟨_, _, _, _, rfl, rfl, sqT_up s e1, sqT_up s f1, by rw [e2.length, f2.length]; exact line_of hl, fun z => ?_, fun z1 z2 => ?_, fun z1 z2 p hp => ?_⟩
      · subst z
        have : xs = [] := by
          have := e2.length
          exact List.eq_nil_of_length_eq_zero (by simpa using this.symm)
        subst this
        exact k _ Hb H (Gr.refl s) (.tup f1 f2)
      · subst z2
        have : ys = [] := by
          have := f2.length
          exact List.eq_nil_of_length_eq_zero (by simpa using this.symm)
        subst this
        refine k _ Hb H (Gr.refl s) ?_
        rw [List.append_nil]
        exact Dr.tup e1 e2
      · obtain ⟨g4, r4⟩ := new_tup s hp (e2.append f2)
        exact k _ _ _ g4 r4
theorem rv_catL {xs ys : List PyData} (hl : xs.length + ys.length ≤ 100000) : RvC K rCat (.val (.list xs)) (.val (.list ys)) (.val (.list (xs ++ ys))) := fun Hb H x y s r1 r2 Q k => by
  cases r1 with
  | lst e1 e2 =>
    cases r2 with
    | lst f1 f2 =>
      refine ⟨_, _, _, _, rfl, rfl, s _ _ e1, s _ _ f1, by rw [e2.length, f2.length]; exact line_of hl, fun p hp => ?_⟩
      obtain ⟨g4, r4⟩ := new_lst s hp (e2.append f2)
      exact k _ _ _ g4 r4
theorem rv_repL {xs : List PyData} {n : Int} (h0 : -1000 ≤ n) (h1 : n ≤ 1000) (hl : xs.length ≤ 10) : RvC K rRep (.val (.list xs)) (.val (.int n)) (.val (.list (List.replicate n.toNat xs).flatten)) := fun Hb H x y s r1 r2 Q k => by
  cases r2
  cases r1 with
  | lst e1 e2 =>
    refine ⟨_, n, _, rfl, rfl, s _ _ e1, by omega, by omega, ?_, fun p hp => ?_⟩
    · rw [e2.length]
      have : xs.length * n.toNat ≤ 10 * 1000 := Nat.mul_le_mul hl (by omega)
      exact line_of (by omega)
    · obtain ⟨g4, r4⟩ := new_lst s hp (e2.rep n.toNat)
      exact k _ _ _ g4 r4
/-! ### built-in functions -/
theorem sc1 {Hb : Hp} {vs : List V} (h : ScRs K Hb vs [c]) : ∃ v, vs = [v] ∧ ScR K Hb v c := by
  cases h with
  | cons a b => cases b; exact ⟨_, rfl, a⟩
theorem sc2 {Hb : Hp} {vs : List V} (h : ScRs K Hb vs [c, c1]) : ∃ v w, vs = [v, w] ∧ ScR K Hb v c ∧ ScR K Hb w c1 := by
  cases h with
  | cons a b =>
    obtain ⟨w, rfl, r⟩ := sc1 b
    exact ⟨_, _, rfl, a, r⟩
theorem rc_lenL {xs : List PyData} : RcC K (fun xs H Q => ∃ p ys, xs = [.ref p] ∧ (SqL K H p ys ∨ SqT K H p ys) ∧ Q (.int ys.length) H) [.val (.list xs)] (.val (.int xs.length)) := fun Hb H vs s r Q k => by
  obtain ⟨v, rfl, z⟩ := sc1 r
  cases z with
  | lst e1 e2 => exact ⟨_, _, rfl, .inl (SqL.of (s _ _ e1)), by rw [e2.length]; exact k _ Hb H (Gr.refl s) (.int _)⟩
theorem rc_lenT {xs : List PyData} : RcC K (fun xs H Q => ∃ p ys, xs = [.ref p] ∧ (SqL K H p ys ∨ SqT K H p ys) ∧ Q (.int ys.length) H) [.val (.tuple xs)] (.val (.int xs.length)) := fun Hb H vs s r Q k => by
  obtain ⟨v, rfl, z⟩ := sc1 r
  cases z with
  | tup e1 e2 => exact ⟨_, _, rfl, .inr (sqT_up s e1), by rw [e2.length]; exact k _ Hb H (Gr.refl s) (.int _)⟩
theorem rc_listL {xs : List PyData} : RcC K (fun xs H Q => ∃ p ys, xs = [.ref p] ∧ (SqL K H p ys ∨ SqT K H p ys) ∧ ∀ l, H l = none → Q (.ref l) (upd H l (.lst ys))) [.val (.list xs)] (.val (.list xs)) := fun Hb H vs s r Q k => by
  obtain ⟨v, rfl, z⟩ := sc1 r
  cases z with
  | lst e1 e2 => exact ⟨_, _, rfl, .inl (SqL.of (s _ _ e1)), fun l hl => by
      obtain ⟨g, r4⟩ := new_lst s hl e2
      exact k _ _ _ g r4⟩
theorem rc_listT {xs : List PyData} : RcC K (fun xs H Q => ∃ p ys, xs = [.ref p] ∧ (SqL K H p ys ∨ SqT K H p ys) ∧ ∀ l, H l = none → Q (.ref l) (upd H l (.lst ys))) [.val (.tuple xs)] (.val (.list xs)) := fun Hb H vs s r Q k => by
  obtain ⟨v, rfl, z⟩ := sc1 r
  cases z with
  | tup e1 e2 => exact ⟨_, _, rfl, .inr (sqT_up s e1), fun l hl => by
      obtain ⟨g, r4⟩ := new_lst s hl e2
      exact k _ _ _ g r4⟩
theorem rc_tupleL {xs : List PyData} : RcC K (fun xs H Q => ∃ p ys, xs = [.ref p] ∧ ((SqL K H p ys ∧ ∀ l, H l = none → Q (.ref l) (upd H l (.tup ys))) ∨ (SqT K H p ys ∧ Q (.ref p) H))) [.val (.list xs)] (.val (.tuple xs)) := fun Hb H vs s r Q k => by
  obtain ⟨v, rfl, z⟩ := sc1 r
  cases z with
  | lst e1 e2 => exact ⟨_, _, rfl, .inl ⟨SqL.of (s _ _ e1), fun l hl => by
      obtain ⟨g, r4⟩ := new_tup s hl e2
      exact k _ _ _ g r4⟩⟩
theorem rc_int {i : Int} : RcC K (fun xs H Q => (∃ i, xs = [.int i] ∧ Q (.int i) H) ∨ ∃ k, xs = [.bl k] ∧ Q (.int (if k then 1 else 0)) H) [.val (.int i)] (.val (.int i)) := fun Hb H vs s r Q k => by
  obtain ⟨v, rfl, z⟩ := sc1 r
  cases z
  exact .inl ⟨i, rfl, k _ Hb H (Gr.refl s) (.int i)⟩
theorem rc_abs {i : Int} : RcC K (fun xs H Q => ∃ i, xs = [.int i] ∧ Q (.int (if i < 0 then -i else i)) H) [.val (.int i)] (.val (.int (if i < 0 then -i else i))) := fun Hb H vs s r Q k => by
  obtain ⟨v, rfl, z⟩ := sc1 r
  cases z
  exact ⟨i, rfl, k _ Hb H (Gr.refl s) (.int _)⟩
theorem rc_min2 {i j : Int} : RcC K (fun xs H Q => ∃ i j, xs = [.int i, .int j] ∧ Q (.int (if j < i then j else i)) H) [.val (.int i), .val (.int j)] (.val (.int (if j < i then j else i))) := fun Hb H vs s r Q k => by
  obtain ⟨v, w, rfl, z, z2⟩ := sc2 r
  cases z
  cases z2
  exact ⟨i, j, rfl, k _ Hb H (Gr.refl s) (.int _)⟩
theorem rc_sum {ns : List Int} : RcC K (rSum K) [.val (.list (ns.map .int))] (.val (.int ns.sum)) := fun Hb H vs s r Q k => by
  obtain ⟨v, rfl, z⟩ := sc1 r
  cases z with
  | lst e1 e2 =>
    rw [e2.to_ints] at e1
    exact ⟨_, ns, rfl, SqL.of (s _ _ e1), k _ Hb H (Gr.refl s) (.int _)⟩
theorem rc_all {bs : List Bool} : RcC K (rAll K) [.val (.list (bs.map .bool))] (.val (.bool (bs.all id))) := fun Hb H vs s r Q k => by
  obtain ⟨v, rfl, z⟩ := sc1 r
  cases z with
  | lst e1 e2 =>
    rw [e2.to_bls] at e1
    exact ⟨_, bs, rfl, SqL.of (s _ _ e1), k _ Hb H (Gr.refl s) (.bl _)⟩
theorem rc_any {bs : List Bool} : RcC K (rAny K) [.val (.list (bs.map .bool))] (.val (.bool (bs.any id))) := fun Hb H vs s r Q k => by
  obtain ⟨v, rfl, z⟩ := sc1 r
  cases z with
  | lst e1 e2 =>
    rw [e2.to_bls] at e1
    exact ⟨_, bs, rfl, SqL.of (s _ _ e1), k _ Hb H (Gr.refl s) (.bl _)⟩
theorem rc_min {ns : List Int} {m : Int} (h0 : 0 < ns.length) (hm : ∀ z, z ∈ ns → (∀ y, y ∈ ns → z ≤ y) → z = m) : RcC K (rMin K) [.val (.list (ns.map .int))] (.val (.int m)) := fun Hb H vs s r Q k => by
  obtain ⟨v, rfl, z⟩ := sc1 r
  cases z with
  | lst e1 e2 =>
    rw [e2.to_ints] at e1
    exact ⟨_, ns, rfl, SqL.of (s _ _ e1), h0, fun u h1 h2 => by rw [hm u h1 h2]; exact k _ Hb H (Gr.refl s) (.int _)⟩
theorem rc_sorted {ns ms : List Int} (h64 : ns.length < 64) (hm : ∀ z : List Int, z.Perm ns → z.Pairwise (· ≤ ·) → z = ms) : RcC K (rSorted K) [.val (.list (ns.map .int))] (.val (.list (ms.map .int))) := fun Hb H vs s r Q k => by
  obtain ⟨v, rfl, z⟩ := sc1 r
  cases z with
  | lst e1 e2 =>
    rw [e2.to_ints] at e1
    refine ⟨_, ns, rfl, SqL.of (s _ _ e1), h64, fun u p h1 h2 hp => ?_⟩
    rw [hm u h1 h2]
    obtain ⟨g, r4⟩ := new_lst (K := K) s hp (DrAll.ints ms)
    exact k _ _ _ g r4
end
end DL
set_option maxHeartbeats 1000000
/-! The data layer: statements, loops, comprehensions, promises, calls. -/
namespace DL
open PySem PySem.Spec PyProof.Rows L2
/-! ### where a body stands -/
structure At (K : PySem.W.Frag) (M : Addr → Prop) (Hb0 H0 : Hp) (Hb : Hp) (σ : L2.St) (H : Hp) (ds : Scs) (rs : Rss) : Prop where
  gr : GrM M Hb0 H0 Hb H
  st : Stt K Hb H σ ds rs
  own : ∀ x ∈ rs, H0 x.1 = none ∨ M x.1
structure Pst where
  nx : Scs → Rss → Prop
  rt : Sc → Rss → Prop
  bk : Scs → Rss → Prop := fun _ _ => False
  ct : Scs → Rss → Prop := fun _ _ => False
structure RtAt (K : PySem.W.Frag) (M : Addr → Prop) (Hb0 H0 : Hp) (Hb : Hp) (v : V) (H : Hp) (c : Sc) (rs : Rss) : Prop where
  gr : GrM M Hb0 H0 Hb H
  val : ScR K Hb v c
  res : ResR K Hb H rs
  own : ∀ x ∈ rs, H0 x.1 = none ∨ M x.1
structure Meets (K : PySem.W.Frag) (M : Addr → Prop) (Hb0 H0 : Hp) (D : Ends) (P : Pst) : Prop where
  nx : ∀ σ' H' Hb' ds' rs', At K M Hb0 H0 Hb' σ' H' ds' rs' → P.nx ds' rs' → D.nx σ' H'
  rt : ∀ v H' Hb' c rs', RtAt K M Hb0 H0 Hb' v H' c rs' → P.rt c rs' → D.rt v H'
  bk : ∀ σ' H' Hb' ds' rs', At K M Hb0 H0 Hb' σ' H' ds' rs' → P.bk ds' rs' → D.bk σ' H'
  ct : ∀ σ' H' Hb' ds' rs', At K M Hb0 H0 Hb' σ' H' ds' rs' → P.ct ds' rs' → D.ct σ' H'
def SdC (K : PySem.W.Frag) (t : TS) (ds : Scs) (rs : Rss) (P : Pst) : Prop := ∀ M Hb0 H0 Hb σ H D, At K M Hb0 H0 Hb σ H ds rs → Meets K M Hb0 H0 D P → t D σ H
/-- an expression that may change resources -/
def EvM (K : PySem.W.Frag) (te : TE) (ds : Scs) (rs : Rss) (P : Sc → Rss → Prop) : Prop := ∀ M Hb0 H0 Hb σ H (Q : VK), At K M Hb0 H0 Hb σ H ds rs →
  (∀ v Hb' H' c rs', At K M Hb0 H0 Hb' σ H' ds rs' → ScR K Hb' v c → P c rs' → Q v H') → te σ H Q
def EaM (K : PySem.W.Frag) (ta : TA) (ds : Scs) (rs : Rss) (P : Scs → Rss → Prop) : Prop := ∀ M Hb0 H0 Hb σ H (Q : List V → Hp → Prop), At K M Hb0 H0 Hb σ H ds rs →
  (∀ vs Hb' H' cs rs', At K M Hb0 H0 Hb' σ H' ds rs' → ScRs K Hb' vs cs → P cs rs' → Q vs H') → ta σ H Q
def EtM (K : PySem.W.Frag) (tt : TT) (ds : Scs) (rs : Rss) (P : Bool → Rss → Prop) : Prop := ∀ M Hb0 H0 Hb σ H (Q : Bool → Hp → Prop), At K M Hb0 H0 Hb σ H ds rs →
  (∀ b Hb' H' rs', At K M Hb0 H0 Hb' σ H' ds rs' → P b rs' → Q b H') → tt σ H Q
section
variable {K : PySem.W.Frag} {M : Addr → Prop} {Hb0 H0 Hb H Hb1 H1 : Hp} {σ : L2.St} {ds : Scs} {rs : Rss} {te ta tb : TE} {t u : TS} {c c1 c2 : Sc} {d : PyData} {P : Pst}
theorem At.up (A : At K M Hb0 H0 Hb σ H ds rs) (g : Gr Hb H Hb1 H1) : At K M Hb0 H0 Hb1 σ H1 ds rs := ⟨A.gr.trans g.m, A.st.up g, A.own⟩
theorem At.fwd (A : At K M Hb0 H0 Hb σ H ds rs) : At K M Hb H0 Hb σ H ds rs := ⟨A.gr.fwd, A.st, A.own⟩
theorem At.back (g : GrM M Hb0 H0 Hb1 H1) (A : At K M Hb1 H0 Hb σ H ds rs) : At K M Hb0 H0 Hb σ H ds rs := ⟨g.back A.gr, A.st, A.own⟩
theorem RtAt.back {v : V} (g : GrM M Hb0 H0 Hb1 H1) (A : RtAt K M Hb1 H0 Hb v H c rs) : RtAt K M Hb0 H0 Hb v H c rs := ⟨g.back A.gr, A.val, A.res, A.own⟩
theorem Meets.fwd {D : Ends} (m : Meets K M Hb0 H0 D P) (g : GrM M Hb0 H0 Hb1 H1) : Meets K M Hb1 H0 D P :=
  ⟨fun σ' H' Hb' ds' rs' A => m.nx σ' H' Hb' ds' rs' (A.back g), fun v H' Hb' c rs' A => m.rt v H' Hb' c rs' (A.back g), fun σ' H' Hb' ds' rs' A => m.bk σ' H' Hb' ds' rs' (A.back g), fun σ' H' Hb' ds' rs' A => m.ct σ' H' Hb' ds' rs' (A.back g)⟩
theorem em_of {PP : Sc → Rss → Prop} (h : EvC K te ds rs c) (hp : PP c rs) : EvM K te ds rs PP := fun M Hb0 H0 Hb σ H Q A k =>
  h Hb H σ A.st Q fun v Hb' H' g r => k v Hb' H' c rs (A.up g) r hp
theorem em_imp {PP PP' : Sc → Rss → Prop} (h : EvM K te ds rs PP) (hi : ∀ c rs', PP c rs' → PP' c rs') : EvM K te ds rs PP' := fun M Hb0 H0 Hb σ H Q A k => h M Hb0 H0 Hb σ H Q A fun v Hb' H' c rs' A' r p => k v Hb' H' c rs' A' r (hi _ _ p)
theorem etm_of {PP : Bool → Rss → Prop} {tt : TT} {b : Bool} (h : EtD K tt ds rs b) (hp : PP b rs) : EtM K tt ds rs PP := fun M Hb0 H0 Hb σ H Q A k =>
  h Hb H σ A.st Q fun Hb' H' g => k b Hb' H' rs (A.up g) hp
/-! ### small statements -/
theorem sd_next (h : P.nx ds rs) : SdC K tNext ds rs P := fun M Hb0 H0 Hb σ H D A m => m.nx σ H Hb ds rs A h
theorem sd_break (h : P.bk ds rs) : SdC K tBreak ds rs P := fun M Hb0 H0 Hb σ H D A m => m.bk σ H Hb ds rs A h
theorem sd_cont (h : P.ct ds rs) : SdC K tCont ds rs P := fun M Hb0 H0 Hb σ H D A m => m.ct σ H Hb ds rs A h
theorem sd_seq (h : SdC K t ds rs { P with nx := fun ds' rs' => SdC K u ds' rs' P }) : SdC K (tSeq t u) ds rs P := fun M Hb0 H0 Hb σ H D A m =>
  h M Hb0 H0 Hb σ H { D with nx := u D } A ⟨fun σ' H' Hb' ds' rs' A' p => p M Hb0 H0 Hb' σ' H' D A' m, m.rt, m.bk, m.ct⟩
theorem sd_asgM {i : Nat} (h : EvM K te ds rs fun c rs' => P.nx (ds.set i c) rs') : SdC K (tAsg te (gName i)) ds rs P := fun M Hb0 H0 Hb σ H D A m =>
  h M Hb0 H0 Hb σ H _ A fun v Hb' H' c rs' A' r p => m.nx _ H' Hb' _ rs' ⟨A'.gr, A'.st.set i r, A'.own⟩ p
theorem sd_asg {i : Nat} (h : EvC K te ds rs c) (hp : P.nx (ds.set i c) rs) : SdC K (tAsg te (gName i)) ds rs P := sd_asgM (em_of h hp)
theorem sd_retM (h : EvM K te ds rs P.rt) : SdC K (tRet te) ds rs P := fun M Hb0 H0 Hb σ H D A m =>
  h M Hb0 H0 Hb σ H _ A fun v Hb' H' c rs' A' r p => m.rt v H' Hb' c rs' ⟨A'.gr, r, A'.st.res, A'.own⟩ p
theorem sd_ret (h : EvC K te ds rs c) (hp : P.rt c rs) : SdC K (tRet te) ds rs P := sd_retM (em_of h hp)
theorem sd_dropM (h : EvM K te ds rs fun _ rs' => P.nx ds rs') : SdC K (tDrop te) ds rs P := fun M Hb0 H0 Hb σ H D A m =>
  h M Hb0 H0 Hb σ H _ A fun v Hb' H' c rs' A' r p => m.nx _ H' Hb' ds rs' A' p
theorem sd_if {tc : TT} {b : Bool} (h : EtD K tc ds rs b) (h1 : b = true → SdC K t ds rs P) (h2 : b = false → SdC K u ds rs P) : SdC K (tIfS tc t u) ds rs P := fun M Hb0 H0 Hb σ H D A m =>
  h Hb H σ A.st _ fun Hb' H' g => by
    cases b with
    | true => rw [if_pos rfl]; exact h1 rfl M Hb0 H0 Hb' σ H' D (A.up g) m
    | false => rw [if_neg Bool.false_ne_true]; exact h2 rfl M Hb0 H0 Hb' σ H' D (A.up g) m
theorem sd_ifM {tc : TT} (h : EtM K tc ds rs fun b rs' => (b = true → SdC K t ds rs' P) ∧ (b = false → SdC K u ds rs' P)) : SdC K (tIfS tc t u) ds rs P := fun M Hb0 H0 Hb σ H D A m =>
  h M Hb0 H0 Hb σ H _ A fun b Hb' H' rs' A' p => by
    cases b with
    | true => rw [if_pos rfl]; exact p.1 rfl M Hb0 H0 Hb' σ H' D A' m
    | false => rw [if_neg Bool.false_ne_true]; exact p.2 rfl M Hb0 H0 Hb' σ H' D A' m
theorem sd_par {i j : Nat} {ta : TA} (h : EaC K ta ds rs [c1, c2]) (hp : P.nx ((ds.set i c1).set j c2) rs) : SdC K (tPar i j ta) ds rs P := fun M Hb0 H0 Hb σ H D A m =>
  h Hb H σ A.st _ fun vs Hb' H' g r => by
    obtain ⟨v, w, rfl, r1, r2⟩ := sc2 r
    exact ⟨v, w, rfl, m.nx _ H' Hb' _ rs ⟨(A.up g).gr, ((A.up g).st.set i r1).set j r2, A.own⟩ hp⟩
theorem sd_parM {i j : Nat} {ta : TA} (h : EaM K ta ds rs fun cs rs' => ∃ c1 c2, cs = [c1, c2] ∧ P.nx ((ds.set i c1).set j c2) rs') : SdC K (tPar i j ta) ds rs P := fun M Hb0 H0 Hb σ H D A m =>
  h M Hb0 H0 Hb σ H _ A fun vs Hb' H' cs rs' A' r p => by
    obtain ⟨c1, c2, rfl, p⟩ := p
    obtain ⟨v, w, rfl, r1, r2⟩ := sc2 r
    exact ⟨v, w, rfl, m.nx _ H' Hb' _ rs' ⟨A'.gr, (A'.st.set i r1).set j r2, A'.own⟩ p⟩
theorem sd_aug {i : Nat} {f : Int → Int → Int} {a b : Int} (hx : ds[i]? = some (.val (.int a))) (h : EvC K te ds rs (.val (.int b))) (hp : P.nx (ds.set i (.val (.int (f a b)))) rs) : SdC K (tAug i te (ipI f)) ds rs P := fun M Hb0 H0 Hb σ H D A m => by
  obtain ⟨o, e, v, e2, r⟩ := A.st.var hx
  cases r
  refine ⟨.int a, by rw [e, e2], h Hb H σ A.st _ fun v Hb' H' g r => ?_⟩
  cases r
  exact ⟨a, b, rfl, rfl, m.nx _ H' Hb' _ rs ⟨(A.up g).gr, (A.up g).st.set (c := .val (.int (f a b))) i (Dr.int _), A.own⟩ hp⟩
/-! ### effects within expressions -/
theorem eam_nil {PP : Scs → Rss → Prop} (h : PP [] rs) : EaM K tNil ds rs PP := fun M Hb0 H0 Hb σ H Q A k => k [] Hb H [] rs A .nil h
theorem eam_cons {tr : TA} {PP : Scs → Rss → Prop} (ha : EvM K te ds rs fun c rs1 => EaM K tr ds rs1 fun cs rs2 => PP (c :: cs) rs2) : EaM K (tCons te tr) ds rs PP := fun M Hb0 H0 Hb σ H Q A k =>
  ha M Hb0 H0 Hb σ H _ A fun v Hb1 H1 c rs1 A1 r1 p => p M Hb1 H0 Hb1 σ H1 _ A1.fwd fun vs Hb2 H2 cs rs2 A2 r2 p2 => k (v :: vs) Hb2 H2 (c :: cs) rs2 (A2.back A1.gr) (.cons (r1.up A2.gr.sup) r2) p2
theorem eam_of {ta : TA} {cs : Scs} {PP : Scs → Rss → Prop} (h : EaC K ta ds rs cs) (hp : PP cs rs) : EaM K ta ds rs PP := fun M Hb0 H0 Hb σ H Q A k => h Hb H σ A.st Q fun vs Hb' H' g r => k vs Hb' H' cs rs (A.up g) r hp
theorem em_op {r : R2} {PP : Sc → Rss → Prop} (ha : EvM K ta ds rs fun c1 rs1 => EvM K tb ds rs1 fun c2 rs2 => ∃ c, RvC K r c1 c2 c ∧ PP c rs2) : EvM K (tOp r ta tb) ds rs PP := fun M Hb0 H0 Hb σ H Q A k =>
  ha M Hb0 H0 Hb σ H _ A fun v Hb1 H1 c1 rs1 A1 r1 p => p M Hb1 H0 Hb1 σ H1 _ A1.fwd fun w Hb2 H2 c2 rs2 A2 r2 p2 => by
    obtain ⟨c, hr, hp⟩ := p2
    exact hr Hb2 H2 v w A2.st.sub (r1.up A2.gr.sup) r2 Q fun z Hb3 H3 g r3 => k z Hb3 H3 c rs2 ((A2.back A1.gr).up g) r3 hp
theorem em_cb {r : List V → Hp → VK → Prop} {ta : TA} {PP : Sc → Rss → Prop} (ha : EaM K ta ds rs fun cs rs1 => ∃ c, RcC K r cs c ∧ PP c rs1) : EvM K (tCB r ta) ds rs PP := fun M Hb0 H0 Hb σ H Q A k =>
  ha M Hb0 H0 Hb σ H _ A fun vs Hb1 H1 cs rs1 A1 r1 p => by
    obtain ⟨c, hr, hp⟩ := p
    exact hr Hb1 H1 vs A1.st.sub r1 Q fun z Hb3 H3 g r3 => k z Hb3 H3 c rs1 (A1.up g) r3 hp
theorem etm_test {PP : Bool → Rss → Prop} (h : EvM K te ds rs fun c rs' => ∃ b, c = .val (.bool b) ∧ PP b rs') : EtM K (tTest te) ds rs PP := fun M Hb0 H0 Hb σ H Q A k =>
  h M Hb0 H0 Hb σ H _ A fun v Hb1 H1 c rs1 A1 r1 p => by
    obtain ⟨b, rfl, hp⟩ := p
    cases r1
    exact ⟨b, rfl, k b Hb1 H1 rs1 A1 hp⟩
theorem etm_B {PP : Bool → Rss → Prop} (h : EvM K te ds rs fun c rs' => ∃ b, c = .val (.bool b) ∧ PP b rs') : EtM K (tB te) ds rs PP := fun M Hb0 H0 Hb σ H Q A k =>
  h M Hb0 H0 Hb σ H _ A fun v Hb1 H1 c rs1 A1 r1 p => by
    obtain ⟨b, rfl, hp⟩ := p
    cases r1
    exact ⟨b, rfl, k b Hb1 H1 rs1 A1 hp⟩
theorem em_if {tt : TT} {PP : Sc → Rss → Prop} (h : EtM K tt ds rs fun b rs' => (b = true → EvM K ta ds rs' PP) ∧ (b = false → EvM K tb ds rs' PP)) : EvM K (tIf tt ta tb) ds rs PP := fun M Hb0 H0 Hb σ H Q A k =>
  h M Hb0 H0 Hb σ H _ A fun b Hb' H' rs' A' p => by
    cases b with
    | true => rw [if_pos rfl]; exact p.1 rfl M Hb0 H0 Hb' σ H' Q A' k
    | false => rw [if_neg Bool.false_ne_true]; exact p.2 rfl M Hb0 H0 Hb' σ H' Q A' k
theorem em_un {r : V → Hp → VK → Prop} {PP : Sc → Rss → Prop} (ha : EvM K ta ds rs fun c1 rs1 => ∃ c, RuC K r c1 c ∧ PP c rs1) : EvM K (tUn r ta) ds rs PP := fun M Hb0 H0 Hb σ H Q A k =>
  ha M Hb0 H0 Hb σ H _ A fun v Hb1 H1 c1 rs1 A1 r1 p => by
    obtain ⟨c, hr, hp⟩ := p
    exact hr Hb1 H1 v A1.st.sub r1 Q fun z Hb3 H3 g r3 => k z Hb3 H3 c rs1 (A1.up g) r3 hp
/-! ### targets -/
/-- a target takes the value c; vs: the slots of a comprehension that it writes -/
def GtC (K : PySem.W.Frag) (g : TG) (vs : List Nat) (c : Sc) (ds ds' : Scs) : Prop := ∀ (rs : Rss) Hb H σ v, Stt K Hb H σ ds rs → ScR K Hb v c → ∀ Q : L2.St → Hp → Prop, (∀ σ', Stt K Hb H σ' ds' rs → (wipe σ vs = σ → wipe σ' vs = σ) → Q σ' H) → g v σ H Q
theorem wipe_get (σ : L2.St) (i : Nat) : ∀ vs : List Nat, (wipe σ vs)[i]? = if i ∈ vs then σ[i]?.map (fun _ => none) else σ[i]?
  | [] => by simp [wipe]
  | v :: vs => by
    show ((wipe σ vs).set v none)[i]? = _
    rw [List.getElem?_set, wipe_get σ i vs]
    by_cases e : v = i
    · subst e
      have hl := wipe_length σ vs
      simp only [if_true, List.mem_cons, true_or]
      by_cases h : v < σ.length
      · rw [if_pos (by rw [hl]; exact h), List.getElem?_eq_getElem h]; rfl
      · rw [if_neg (by rw [hl]; exact h), List.getElem?_eq_none_iff.mpr (by omega)]; rfl
    · rw [if_neg e]
      have : (i ∈ v :: vs) ↔ i ∈ vs := by
        rw [List.mem_cons]
        exact ⟨fun h => h.resolve_left fun z => e z.symm, fun h => .inr h⟩
      by_cases h : i ∈ vs
      · rw [if_pos h, if_pos (this.mpr h)]
      · rw [if_neg h, if_neg fun z => h (this.mp z)]
theorem wipe_set {σ : L2.St} {vs : List Nat} {j : Nat} (hj : j ∈ vs) (o : Option V) : wipe (σ.set j o) vs = wipe σ vs := by
  refine List.ext_getElem? fun i => ?_
  rw [wipe_get, wipe_get]
  by_cases h : i ∈ vs
  · rw [if_pos h, if_pos h, List.getElem?_set]
    by_cases e : j = i
    · subst e
      rw [if_pos rfl]
      by_cases hl : j < σ.length
      · rw [if_pos hl, List.getElem?_eq_getElem hl]; rfl
      · rw [if_neg hl, List.getElem?_eq_none_iff.mpr (by omega)]
    · rw [if_neg e]
  · rw [if_neg h, if_neg h, List.getElem?_set_ne fun e => h (by rw [← e]; exact hj)]
theorem wipe_wipe (σ : L2.St) (vs : List Nat) : wipe (wipe σ vs) vs = wipe σ vs := by
  refine List.ext_getElem? fun i => ?_
  rw [wipe_get, wipe_get]
  by_cases h : i ∈ vs
  · rw [if_pos h, if_pos h]
    cases σ[i]? <;> rfl
  · rw [if_neg h, if_neg h]
theorem gt_name {j : Nat} {vs : List Nat} (hj : j ∈ vs := by simp) : GtC K (gName j) vs c ds (ds.set j c) := fun rs Hb H σ v S r Q k => k _ (S.set j r) fun e => (wipe_set hj _).trans e
theorem gt_name0 {j : Nat} : GtC K (gName j) [] c ds (ds.set j c) → GtC K (gName j) [] c ds (ds.set j c) := id
/-- outside of comprehensions nothing is asked of the slots -/
def GtS (K : PySem.W.Frag) (g : TG) (c : Sc) (ds ds' : Scs) : Prop := ∀ (rs : Rss) Hb H σ v, Stt K Hb H σ ds rs → ScR K Hb v c → ∀ Q : L2.St → Hp → Prop, (∀ σ', Stt K Hb H σ' ds' rs → Q σ' H) → g v σ H Q
theorem gs_name {j : Nat} : GtS K (gName j) c ds (ds.set j c) := fun rs Hb H σ v S r Q k => k _ (S.set j r)
theorem gs_tup2 {g1 g2 : TG} {d1 d2 : PyData} {ds1 ds2 : Scs} (h1 : GtS K g1 (.val d1) ds ds1) (h2 : GtS K g2 (.val d2) ds1 ds2) : GtS K (gTup K 2 (gCons g1 (gCons g2 gNil))) (.val (.tuple [d1, d2])) ds ds2 := fun rs Hb H σ v S r Q k => by
  cases r with
  | tup e1 e2 =>
    cases e2 with
    | cons r1 e3 =>
      cases e3 with
      | cons r2 e4 =>
        cases e4
        exact ⟨_, _, rfl, sqT_up S.sub e1, rfl, _, _, rfl, h1 rs Hb H σ _ S r1 _ fun σ1 S1 => ⟨_, _, rfl, h2 rs Hb H σ1 _ S1 r2 _ fun σ2 S2 => ⟨rfl, k σ2 S2⟩⟩⟩
theorem gt_tup2 {vs : List Nat} {d1 d2 : PyData} {j1 j2 : Nat} (hj1 : j1 ∈ vs := by simp) (hj2 : j2 ∈ vs := by simp) : GtC K (gTup K 2 (gCons (gName j1) (gCons (gName j2) gNil))) vs (.val (.tuple [d1, d2])) ds ((ds.set j1 (.val d1)).set j2 (.val d2)) := fun rs Hb H σ v S r Q k => by
  cases r with
  | tup e1 e2 =>
    cases e2 with
    | cons r1 e3 =>
      cases e3 with
      | cons r2 e4 =>
        cases e4
        exact ⟨_, _, rfl, sqT_up S.sub e1, rfl, _, _, rfl, _, _, rfl, rfl, k _ ((S.set (c := .val d1) j1 r1).set (c := .val d2) j2 r2) fun e => by rw [wipe_set hj2, wipe_set hj1]; exact e⟩
/-! ### what is walked -/
/-- the iterator J hands out xs wherever the support Hb1 stands -/
def Yields (K : PySem.W.Frag) (J : It) (Hb1 : Hp) (xs : List PyData) : Prop := ∀ Hb' H', Same Hb1 Hb' → Same Hb' H' → J.stop xs.length H' ∧
  ∀ (i : Nat) (d : PyData), xs[i]? = some d → J.go i H' ∧ ∀ x H'', J.yld i H' x H'' → ∃ Hb'', Gr Hb' H' Hb'' H'' ∧ Dr K Hb'' x d
def ItC (K : PySem.W.Frag) (wi : TI) (ds : Scs) (rs : Rss) (xs : List PyData) : Prop := ∀ Hb H σ, Stt K Hb H σ ds rs → ∀ R : It → Hp → Prop, (∀ J Hb1 H1, Gr Hb H Hb1 H1 → Yields K J Hb1 xs → R J H1) → wi σ H R
theorem it_list {xs : List PyData} (h : EvC K te ds rs (.val (.list xs))) : ItC K (iList K te) ds rs xs := fun Hb H σ S R k => h Hb H σ S _ fun v Hb1 H1 g r => by
  cases r with
  | lst e1 e2 =>
    refine ⟨_, rfl, ⟨_, SqL.of (g.sub _ _ e1)⟩, k _ Hb1 H1 g fun Hb' H' s1 s2 => ?_⟩
    have hq : H' _ = some (.lst _) := s2 _ _ (s1 _ _ e1)
    refine ⟨⟨_, SqL.of hq, by rw [e2.length]; exact Nat.le_refl _⟩, fun i d hi => ?_⟩
    obtain ⟨x, hx, rx⟩ := e2.get hi
    refine ⟨⟨_, x, SqL.of hq, hx⟩, fun y H'' hy => ?_⟩
    obtain ⟨e, hy⟩ := hy
    have e3 := hy _ (SqL.of hq)
    rw [hx] at e3
    cases e3
    subst e
    exact ⟨Hb', Gr.refl s2, Dr.up s1 _ rx⟩
theorem it_tup {xs : List PyData} (h : EvC K te ds rs (.val (.tuple xs))) : ItC K (iTup K te) ds rs xs := fun Hb H σ S R k => h Hb H σ S _ fun v Hb1 H1 g r => by
  cases r with
  | tup e1 e2 =>
    refine ⟨_, rfl, ⟨_, sqT_up g.sub e1⟩, k _ Hb1 H1 g fun Hb' H' s1 s2 => ?_⟩
    have hq := sqT_up s2 (sqT_up s1 e1)
    refine ⟨⟨_, hq, by rw [e2.length]; exact Nat.le_refl _⟩, fun i d hi => ?_⟩
    obtain ⟨x, hx, rx⟩ := e2.get hi
    refine ⟨⟨_, x, hq, hx⟩, fun y H'' hy => ?_⟩
    obtain ⟨e, hy⟩ := hy
    have e3 := hy _ hq
    rw [hx] at e3
    cases e3
    subst e
    exact ⟨Hb', Gr.refl s2, Dr.up s1 _ rx⟩
theorem range_get {f : Nat → PyData} {n i : Nat} {d : PyData} (h : ((List.range n).map f)[i]? = some d) : i < n ∧ d = f i := by
  rw [List.getElem?_map] at h
  by_cases q : i < n
  · rw [List.getElem?_range q] at h
    exact ⟨q, by simpa using h.symm⟩
  · rw [List.getElem?_eq_none_iff.mpr (by rw [List.length_range]; omega)] at h
    cases h
theorem itr_yields {lo : Int} {n : Nat} : Yields K (Itr lo n) Hb1 ((List.range n).map fun i => .int (lo + (i : Nat))) := fun Hb' H' s1 s2 => by
  refine ⟨by show n ≤ _; rw [List.length_map, List.length_range]; exact Nat.le_refl _, fun i d hi => ?_⟩
  obtain ⟨h1, rfl⟩ := range_get hi
  refine ⟨h1, fun x H'' hy => ?_⟩
  obtain ⟨e1, e2⟩ := hy
  subst e1 e2
  exact ⟨Hb', Gr.refl s2, .int _⟩
theorem it_range1 {ta : TA} {n : Int} (h : EaC K ta ds rs [.val (.int n)]) (h0 : -1000000 ≤ n) (h1 : n ≤ 1000000) : ItC K (iRng1 ta) ds rs ((List.range n.toNat).map fun i => .int (0 + (i : Nat))) := fun Hb H σ S R k => h Hb H σ S _ fun vs Hb1 H1 g r => by
  obtain ⟨v, rfl, z⟩ := sc1 r
  cases z
  exact ⟨n, rfl, by omega, by omega, k _ Hb1 H1 g itr_yields⟩
theorem it_range2 {ta : TA} {a b : Int} (h : EaC K ta ds rs [.val (.int a), .val (.int b)]) (h0 : -1000000 ≤ a ∧ a ≤ 1000000 ∧ -1000000 ≤ b ∧ b ≤ 1000000) : ItC K (iRng2 ta) ds rs ((List.range (b - a).toNat).map fun i => .int (a + (i : Nat))) := fun Hb H σ S R k => h Hb H σ S _ fun vs Hb1 H1 g r => by
  obtain ⟨v, w, rfl, z, z2⟩ := sc2 r
  cases z
  cases z2
  exact ⟨a, b, rfl, by omega, k _ Hb1 H1 g itr_yields⟩
/-- reversed(range(a, b)) -/
theorem it_rev2 {a b : Int} (ha : EvC K ta ds rs (.val (.int a))) (hb : EvC K tb ds rs (.val (.int b))) (h0 : -1000000 ≤ a ∧ a ≤ 1000000 ∧ -1000000 ≤ b ∧ b ≤ 1000000) : ItC K (iRevR (tRg2 ta tb)) ds rs ((List.range (b - a).toNat).map fun i => .int (a + (((b - a).toNat : Nat) : Int) - 1 - (i : Nat))) := fun Hb H σ S R k =>
  ha Hb H σ S _ fun v Hb1 H1 g r => hb Hb1 H1 σ (S.up g) _ fun w Hb2 H2 g2 r2 => by
    cases r
    cases r2
    refine ⟨a, b, rfl, rfl, by omega, by omega, by omega, by omega, k _ Hb2 H2 (g.trans g2) fun Hb' H' s1 s2 => ?_⟩
    refine ⟨by show (b - a).toNat ≤ _; rw [List.length_map, List.length_range]; exact Nat.le_refl _, fun i d hi => ?_⟩
    obtain ⟨h1, rfl⟩ := range_get hi
    refine ⟨h1, fun x H'' hy => ?_⟩
    obtain ⟨e1, e2⟩ := hy
    have e3 : a + (((b - a).toNat : Nat) : Int) - 1 + (i : Nat) * (-1) = a + (((b - a).toNat : Nat) : Int) - 1 - (i : Nat) := by omega
    rw [e3] at e2
    subst e1 e2
    exact ⟨Hb', Gr.refl s2, .int _⟩
def pairD (a b : PyData) : PyData := .tuple [a, b]
def enumD (xs : List PyData) : List PyData := (List.range xs.length).map fun i => pairD (.int (i : Nat)) (xs.getD i .none)
def zipD (xs ys : List PyData) : List PyData := (List.range (min xs.length ys.length)).map fun i => pairD (xs.getD i .none) (ys.getD i .none)
theorem getD_at {xs : List PyData} {i : Nat} (h : i < xs.length) : xs[i]? = some (xs.getD i .none) := by
  rw [List.getD_eq_getElem?_getD, List.getElem?_eq_getElem h]; rfl
theorem new_pair {Hb H : Hp} (s : Same Hb H) {T : Addr} (hT : H T = none) {x y : V} {a b : PyData} (r1 : Dr K Hb x a) (r2 : Dr K Hb y b) : ∃ Hb'', Gr Hb H Hb'' (upd H T (.tup [x, y])) ∧ Dr K Hb'' (.ref T) (pairD a b) := by
  obtain ⟨g, r⟩ := new_tup (K := K) s hT (.cons r1 (.cons r2 .nil))
  exact ⟨_, g, r⟩
theorem it_enumL {ta : TA} {xs : List PyData} (h : EaC K ta ds rs [.val (.list xs)]) : ItC K (iEnum K ta) ds rs (enumD xs) := fun Hb H σ S R k => h Hb H σ S _ fun vs Hb1 H1 g r => by
  obtain ⟨v, rfl, z⟩ := sc1 r
  cases z with
  | lst e1 e2 =>
    refine ⟨_, _, rfl, SqL.of (g.sub _ _ e1), k _ Hb1 H1 g fun Hb' H' s1 s2 => ?_⟩
    have hq : H' _ = some (.lst _) := s2 _ _ (s1 _ _ e1)
    refine ⟨⟨_, SqL.of hq, by rw [e2.length]; unfold enumD; rw [List.length_map, List.length_range]; exact Nat.le_refl _⟩, fun i d hi => ?_⟩
    obtain ⟨h1, rfl⟩ := range_get hi
    obtain ⟨x, hx, rx⟩ := e2.get (getD_at h1)
    refine ⟨⟨_, x, SqL.of hq, hx⟩, fun y H'' hy => ?_⟩
    obtain ⟨T, x2, rfl, hT, rfl, hy⟩ := hy
    have e3 := hy _ (SqL.of hq)
    rw [hx] at e3
    cases e3
    exact new_pair s2 hT (.int _) (Dr.up s1 _ rx)
theorem it_zipT {ta : TA} {xs ys : List PyData} (h : EaC K ta ds rs [.val (.tuple xs), .val (.tuple ys)]) : ItC K (RZ.iZipA K ta) ds rs (zipD xs ys) := fun Hb H σ S R k => h Hb H σ S _ fun vs Hb1 H1 g r => by
  obtain ⟨v, w, rfl, z, z2⟩ := sc2 r
  cases z with
  | tup e1 e2 =>
    cases z2 with
    | tup f1 f2 =>
      refine ⟨_, _, _, _, rfl, .inr ⟨sqT_up g.sub e1, sqT_up g.sub f1, k _ Hb1 H1 g fun Hb' H' s1 s2 => ?_⟩⟩
      have hq := sqT_up s2 (sqT_up s1 e1)
      have hq2 := sqT_up s2 (sqT_up s1 f1)
      refine ⟨⟨_, _, hq, hq2, by rw [e2.length, f2.length]; unfold zipD; rw [List.length_map, List.length_range]; omega⟩, fun i d hi => ?_⟩
      obtain ⟨h1, rfl⟩ := range_get hi
      obtain ⟨x, hx, rx⟩ := e2.get (getD_at (show i < xs.length by omega))
      obtain ⟨y, hy, ry⟩ := f2.get (getD_at (show i < ys.length by omega))
      refine ⟨⟨_, _, x, y, hq, hq2, hx, hy⟩, fun z H'' hz => ?_⟩
      obtain ⟨T, x2, y2, rfl, hT, rfl, hz1, hz2⟩ := hz
      have e3 := hz1 _ hq
      rw [hx] at e3
      cases e3
      have e4 := hz2 _ hq2
      rw [hy] at e4
      cases e4
      exact new_pair s2 hT (Dr.up s1 _ rx) (Dr.up s1 _ ry)
/-! ### for -/
theorem sd_for {wi : TI} {g : TG} {tb : TS} {xs : List PyData} (hi : ItC K wi ds rs xs) (I : Nat → Scs → Rss → Prop) (h0 : I 0 ds rs)
    (hs : ∀ i d ds' rs', xs[i]? = some d → I i ds' rs' → ∃ ds2, GtS K g (.val d) ds' ds2 ∧ SdC K tb ds2 rs' { P with nx := I (i + 1), ct := I (i + 1), bk := P.nx }) (hd : ∀ ds' rs', I xs.length ds' rs' → P.nx ds' rs') : SdC K (tFor wi g tb) ds rs P := fun M Hb0 H0 Hb σ H D A m =>
  hi Hb H σ A.st _ fun J Hb1 H1 g1 Y => by
    have A1 := A.up g1
    refine ⟨fun i n σ' H' => n = xs.length - i ∧ i ≤ xs.length ∧ ∃ Hb' ds' rs', At K M Hb1 H0 Hb' σ' H' ds' rs' ∧ I i ds' rs', ⟨xs.length, by simp, Nat.zero_le _, Hb1, ds, rs, A1.fwd, h0⟩, ?_⟩
    rintro i n σ' H' ⟨rfl, hle, Hb', ds', rs', A', hI⟩
    obtain ⟨y1, y2⟩ := Y Hb' H' A'.gr.sup A'.st.sub
    by_cases hlt : i < xs.length
    · obtain ⟨hgo, hy⟩ := y2 i xs[i] (List.getElem?_eq_getElem hlt)
      obtain ⟨ds2, hg, hb⟩ := hs i xs[i] ds' rs' (List.getElem?_eq_getElem hlt) hI
      refine .inr ⟨hgo, fun σ3 H3 => i + 1 ≤ xs.length ∧ ∃ Hb3 ds3 rs3, At K M Hb1 H0 Hb3 σ3 H3 ds3 rs3 ∧ I (i + 1) ds3 rs3, fun σ3 H3 ⟨hle3, z⟩ => ⟨xs.length - (i + 1), by omega, rfl, hle3, z⟩, fun x H'' hyl => ?_⟩
      obtain ⟨Hb'', g2, rx⟩ := hy x H'' hyl
      have A2 := A'.up g2
      refine hg rs' Hb'' H'' σ' x A2.st rx _ fun σ2 S2 => ?_
      refine hb M Hb1 H0 Hb'' σ2 H'' _ ⟨A2.gr, S2, A2.own⟩ ⟨fun σ3 H3 Hb3 ds3 rs3 A3 p => ⟨hlt, Hb3, ds3, rs3, A3, p⟩, fun v H3 Hb3 c3 rs3 A3 p => m.rt v H3 Hb3 c3 rs3 (A3.back A1.gr) p, fun σ3 H3 Hb3 ds3 rs3 A3 p => m.nx σ3 H3 Hb3 ds3 rs3 (A3.back A1.gr) p, fun σ3 H3 Hb3 ds3 rs3 A3 p => ⟨hlt, Hb3, ds3, rs3, A3, p⟩⟩
    · have e : i = xs.length := by omega
      subst e
      exact .inl ⟨y1, m.nx σ' H' Hb' ds' rs' (A'.back A1.gr) (hd ds' rs' hI)⟩
/-- over typed items -/
theorem sd_forA {α : Type} {wi : TI} {g : TG} {tb : TS} (as : List α) (enc : α → PyData) (hi : ItC K wi ds rs (as.map enc)) (I : Nat → Scs → Rss → Prop) (h0 : I 0 ds rs)
    (hs : ∀ i a ds' rs', as[i]? = some a → I i ds' rs' → ∃ ds2, GtS K g (.val (enc a)) ds' ds2 ∧ SdC K tb ds2 rs' { P with nx := I (i + 1), ct := I (i + 1), bk := P.nx }) (hd : ∀ ds' rs', I as.length ds' rs' → P.nx ds' rs') : SdC K (tFor wi g tb) ds rs P :=
  sd_for hi I h0 (fun i d ds' rs' h hI => by
    rw [List.getElem?_map] at h
    cases e : as[i]? with
    | none => rw [e] at h; cases h
    | some a =>
      rw [e] at h
      have : enc a = d := by simpa using h
      subst this
      exact hs i a ds' rs' e hI) fun ds' rs' h => hd ds' rs' (by rw [List.length_map] at h; exact h)
/-! ### while -/
theorem sd_while {tc : TT} {tb : TS} (W : Nat → Scs → Rss → Prop) (n0 : Nat) (h0 : W n0 ds rs)
    (hs : ∀ n ds' rs', W n ds' rs' → ∃ b, EtD K tc ds' rs' b ∧ (b = true → SdC K tb ds' rs' { P with nx := fun d2 r2 => ∃ n', n' < n ∧ W n' d2 r2, ct := fun d2 r2 => ∃ n', n' < n ∧ W n' d2 r2, bk := P.nx }) ∧ (b = false → P.nx ds' rs')) : SdC K (tWhile tc tb) ds rs P := fun M Hb0 H0 Hb σ H D A m => by
  refine ⟨fun n σ' H' => ∃ Hb' ds' rs', At K M Hb0 H0 Hb' σ' H' ds' rs' ∧ W n ds' rs', ⟨n0, Hb, ds, rs, A, h0⟩, ?_⟩
  rintro n σ' H' ⟨Hb', ds', rs', A', hW⟩
  obtain ⟨b, hb, h1, h2⟩ := hs n ds' rs' hW
  refine hb Hb' H' σ' A'.st _ fun Hb2 H2 g => ?_
  cases b with
  | false => rw [if_neg Bool.false_ne_true]; exact m.nx σ' H2 Hb2 ds' rs' (A'.up g) (h2 rfl)
  | true =>
    rw [if_pos rfl]
    refine ⟨fun σ3 H3 => ∃ n', n' < n ∧ ∃ Hb3 ds3 rs3, At K M Hb0 H0 Hb3 σ3 H3 ds3 rs3 ∧ W n' ds3 rs3, fun σ3 H3 z => z, ?_⟩
    exact h1 rfl M Hb0 H0 Hb2 σ' H2 _ (A'.up g) ⟨fun σ3 H3 Hb3 ds3 rs3 A3 ⟨n', q1, q2⟩ => ⟨n', q1, Hb3, ds3, rs3, A3, q2⟩, m.rt, m.nx, fun σ3 H3 Hb3 ds3 rs3 A3 ⟨n', q1, q2⟩ => ⟨n', q1, Hb3, ds3, rs3, A3, q2⟩⟩
/-! ### comprehensions -/
def wipeD (ds : Scs) : List Nat → Scs
  | [] => ds
  | v :: vs => (wipeD ds vs).set v .un
theorem wipeD_len (ds : Scs) : ∀ vs, (wipeD ds vs).length = ds.length
  | [] => rfl
  | v :: vs => by show ((wipeD ds vs).set v .un).length = _; rw [List.length_set]; exact wipeD_len ds vs
theorem Stt.wiped (S : Stt K Hb H σ ds rs) : ∀ vs, Stt K Hb H (wipe σ vs) (wipeD ds vs) rs
  | [] => S
  | v :: vs => by
    have S2 := Stt.wiped S vs
    refine ⟨S2.sub, ?_, fun j o c h1 h2 => ?_, S2.res⟩
    · show ((wipe σ vs).set v none).length = ((wipeD ds vs).set v .un).length
      rw [List.length_set, List.length_set]; exact S2.len
    · have h1' : ((wipe σ vs).set v none)[j]? = some o := h1
      have h2' : ((wipeD ds vs).set v .un)[j]? = some c := h2
      by_cases e : v = j
      · subst e
        have hj : v < (wipeD ds vs).length := by
          have := (List.getElem?_eq_some_iff.mp h2').1
          rwa [List.length_set] at this
        rw [List.getElem?_set_self hj] at h2'
        cases h2'
        exact trivial
      · rw [List.getElem?_set_ne e] at h1' h2'
        exact S2.slot j o c h1' h2'
theorem ec_lcF {α : Type} {wi : TI} {g : TG} {tt : TT} {te : TE} {vs : List Nat} (as : List α) (enc : α → PyData) (b : α → Bool) (f : α → PyData) (hn : as.length ≤ 50000) (hi : ItC K wi ds rs (as.map enc))
    (hs : ∀ a ∈ as, ∃ ds2, GtC K g vs (.val (enc a)) (wipeD ds vs) ds2 ∧ EtD K tt ds2 rs (b a) ∧ (b a = true → EvC K te ds2 rs (.val (f a)))) : EvC K (tLc wi g tt te vs) ds rs (.val (.list ((as.filter b).map f))) := fun Hb H σ S Q k =>
  hi Hb H σ S _ fun J Hb1 H1 g1 Y D hD => by
    refine ⟨fun i n H' => n = as.length - i ∧ i ≤ as.length ∧ ∃ Hb' acc, Gr Hb1 H1 Hb' H' ∧ Hb' D = none ∧ H' D = some (.lst acc) ∧ DrAll K Hb' acc (((as.take i).filter b).map f), ⟨as.length, by simp, Nat.zero_le _, Hb1, [], Gr.own g1.sub _ hD, g1.sub.free hD, upd_same, by simpa using DrAll.nil⟩, ?_⟩
    rintro i n H' ⟨rfl, hle, Hb', acc, g2, hb0, hacc, racc⟩
    obtain ⟨y1, y2⟩ := Y Hb' H' g2.sup g2.sub
    by_cases hlt : i < as.length
    · have ea : as[i]? = some as[i] := List.getElem?_eq_getElem hlt
      have ex : (as.map enc)[i]? = some (enc as[i]) := by rw [List.getElem?_map, ea]; rfl
      obtain ⟨hgo, hy⟩ := y2 i _ ex
      obtain ⟨ds2, hg, ht, he⟩ := hs as[i] (List.getElem_mem hlt)
      have etake : as.take (i + 1) = as.take i ++ [as[i]] := by rw [List.take_add_one, ea]; rfl
      refine .inr ⟨hgo, fun H3 => i + 1 ≤ as.length ∧ ∃ Hb3 acc3, Gr Hb1 H1 Hb3 H3 ∧ Hb3 D = none ∧ H3 D = some (.lst acc3) ∧ DrAll K Hb3 acc3 (((as.take (i + 1)).filter b).map f), fun H3 ⟨hle3, z⟩ => ⟨as.length - (i + 1), by omega, rfl, hle3, z⟩, fun x H'' hyl => ?_⟩
      obtain ⟨Hb'', g3, rx⟩ := hy x H'' hyl
      have gg := g2.trans g3
      have hb0'' : Hb'' D = none := g3.out D (by rw [hacc]; exact fun z => nomatch z) hb0
      have hacc'' : H'' D = some (.lst acc) := g3.ext _ _ hacc
      have S2 := (S.up (g1.trans gg)).wiped vs
      refine hg rs Hb'' H'' (wipe σ vs) x S2 rx _ fun σ2 S3 hw => ⟨hw (wipe_wipe σ vs), ?_⟩
      refine ht Hb'' H'' σ2 S3 _ fun Hb3 H3 g4 => ?_
      have hb3 : Hb3 D = none := g4.out D (by rw [hacc'']; exact fun z => nomatch z) hb0''
      have hacc3 : H3 D = some (.lst acc) := g4.ext _ _ hacc''
      cases hbb : b as[i] with
      | true =>
        rw [if_pos rfl]
        refine he hbb Hb3 H3 σ2 (S3.up g4) _ fun y Hb4 H4 g5 ry => ?_
        have hb4 : Hb4 D = none := g5.out D (by rw [hacc3]; exact fun z => nomatch z) hb3
        have hacc4 : H4 D = some (.lst acc) := g5.ext _ _ hacc3
        have gf := (gg.trans g4).trans g5
        have hl : acc.length ≤ as.length := by
          rw [racc.length, List.length_map]
          exact Nat.le_trans (List.length_filter_le _ _) (by rw [List.length_take]; exact Nat.min_le_right _ _)
        refine ⟨acc, hacc4, Nat.lt_of_lt_of_le (by omega : acc.length < 100000) (line_of (Nat.le_refl _)), hlt, Hb4, acc ++ [y], ⟨fun a o e => ?_, gf.sup, fun a o e => ?_, gf.out⟩, hb4, upd_same, ?_⟩
        · rw [upd_ne (ne_of_none e hD)]; exact gf.ext a o e
        · rw [upd_ne (fun z => by rw [z, hb4] at e; cases e)]; exact gf.sub a o e
        · rw [etake, List.filter_append, List.map_append]
          have : [as[i]].filter b = [as[i]] := by simp [hbb]
          rw [this]
          exact (DrAll.up ((g3.sup.trans g4.sup).trans g5.sup) _ racc).append (.one ry)
      | false =>
        rw [if_neg Bool.false_ne_true]
        refine ⟨hlt, Hb3, acc, gg.trans g4, hb3, hacc3, ?_⟩
        rw [etake, List.filter_append, List.map_append]
        have : [as[i]].filter b = [] := by simp [hbb]
        rw [this, List.map_nil, List.append_nil]
        exact DrAll.up (g3.sup.trans g4.sup) _ racc
    · have e : i = as.length := by omega
      subst e
      rw [List.length_map] at y1
      refine .inl ⟨y1, ?_⟩
      rw [List.take_length] at racc
      have gD : Gr Hb1 H1 (upd Hb' D (.lst acc)) H' := ⟨g2.ext, g2.sup.trans (same_upd _ hb0), fun a o e => by
          by_cases q : a = D
          · subst q; rw [upd_same] at e; cases e; exact hacc
          · rw [upd_ne q] at e; exact g2.sub a o e, fun a h1 h2 => by
          rw [upd_ne (fun z => h1 (by rw [z]; exact hD))]; exact g2.out a h1 h2⟩
      exact k _ _ _ (g1.trans gD) (.lst upd_same (DrAll.up (same_upd _ hb0) _ racc))
theorem et_yes : EtD K tYes ds rs true := fun Hb H σ S Q k => k Hb H (Gr.refl S.sub)
theorem ec_lc {α : Type} {wi : TI} {g : TG} {te : TE} {vs : List Nat} (as : List α) (enc : α → PyData) (f : α → PyData) (hn : as.length ≤ 50000) (hi : ItC K wi ds rs (as.map enc))
    (hs : ∀ a ∈ as, ∃ ds2, GtC K g vs (.val (enc a)) (wipeD ds vs) ds2 ∧ EvC K te ds2 rs (.val (f a))) : EvC K (tLc wi g tYes te vs) ds rs (.val (.list (as.map f))) := by
  have e : as.filter (fun _ => true) = as := by simp
  have := ec_lcF (te := te) (g := g) as enc (fun _ => true) f hn hi fun a ha => by
    obtain ⟨ds2, h1, h2⟩ := hs a ha
    exact ⟨ds2, h1, et_yes, fun _ => h2⟩
  rw [e] at this
  exact this
end
end DL
set_option maxHeartbeats 1000000
/-! The data layer: own objects, promises, calls. -/
namespace DL
open PySem PySem.Spec PyProof.Rows L2
def adOf (rs : Rss) : Addr → Prop := fun a => a ∈ rs.map (·.1)
section
variable {K : PySem.W.Frag} {M : Addr → Prop} {Hb0 H0 Hb H Hb1 H1 : Hp} {σ : L2.St} {ds : Scs} {rs rs' rsF : Rss} {te ta tb ti to : TE} {t u : TS} {c c1 c2 : Sc} {d : PyData} {P : Pst} {a : Addr} {r r' : Rs}
theorem ResR.perm (h : ResR K Hb H rs) (p : rs.Perm rs') : ResR K Hb H rs' := ⟨(p.map (·.1)).nodup_iff.mp h.nd, fun x hx => h.at_ x (p.mem_iff.mpr hx)⟩
theorem At.perm (A : At K M Hb0 H0 Hb σ H ds rs) (p : rs.Perm rs') : At K M Hb0 H0 Hb σ H ds rs' := ⟨A.gr, ⟨A.st.sub, A.st.len, A.st.slot, A.st.res.perm p⟩, fun x hx => A.own x (p.mem_iff.mpr hx)⟩
theorem ResR.tail (h : ResR K Hb H ((a, r) :: rs)) : ResR K Hb H rs := ⟨(List.nodup_cons.mp h.nd).2, fun x hx => h.at_ x (List.mem_cons_of_mem _ hx)⟩
theorem ResR.ne (h : ResR K Hb H ((a, r) :: rs)) : ∀ x ∈ rs, x.1 ≠ a := fun x hx e => (List.nodup_cons.mp h.nd).1 (List.mem_map.mpr ⟨x, hx, e⟩)
theorem RsAt.same {r : Rs} (h : RsAt K Hb H a r) (k : ∀ o, H a = some o → H1 a = some o) (e : Same Hb Hb1) : RsAt K Hb1 H1 a r := h.up e k
/-- an own object is written -/
theorem At.write (A : At K M Hb0 H0 Hb σ H ds ((a, r) :: rsF)) {o : HO} (h : RsAt K Hb (upd H a o) a r') : At K M Hb0 H0 Hb σ (upd H a o) ds ((a, r') :: rsF) := by
  have hb : Hb a = none := (A.st.res.at_ _ List.mem_cons_self).1
  have hn : H a ≠ none := (A.st.res.at_ _ List.mem_cons_self).2.some_
  have sub : Same Hb (upd H a o) := fun b o' e => by
    rw [upd_ne (fun z => by rw [z, hb] at e; cases e)]; exact A.st.sub b o' e
  refine ⟨⟨fun b o' hm e => ?_, A.gr.sup, sub, A.gr.out, fun b hb' => ?_⟩, ⟨sub, A.st.len, A.st.slot, ?_, fun x hx => ?_⟩, fun x hx => ?_⟩
  · have : b ≠ a := fun z => by
      rcases A.own _ List.mem_cons_self with q | q
      · rw [z] at e; rw [q] at e; cases e
      · exact hm (by rw [z]; exact q)
    rw [upd_ne this]; exact A.gr.ext b o' hm e
  · by_cases q : b = a
    · subst q; rw [upd_same]; exact fun z => nomatch z
    · rw [upd_ne q]; exact A.gr.there b hb'
  · exact A.st.res.nd
  · rcases List.mem_cons.mp hx with e | hx
    · subst e; exact ⟨hb, h⟩
    · have z := A.st.res.at_ x (List.mem_cons_of_mem _ hx)
      refine ⟨z.1, z.2.up (Same.refl _) fun o' e => ?_⟩
      rw [upd_ne (A.st.res.ne x hx)]; exact e
  · rcases List.mem_cons.mp hx with e | hx
    · subst e; exact A.own (a, r) List.mem_cons_self
    · exact A.own x (List.mem_cons_of_mem _ hx)
theorem own_new (A : At K M Hb0 H0 Hb σ H ds rs) {p : Addr} (hp : H p = none) : H0 p = none := by
  cases q : H0 p with
  | none => rfl
  | some o => exact absurd hp (A.gr.there p (by rw [q]; exact fun z => nomatch z))
/-- a new own object -/
theorem At.new (A : At K M Hb0 H0 Hb σ H ds rs) {p : Addr} {o : HO} (hp : H p = none) (h : RsAt K Hb (upd H p o) p r) : At K M Hb0 H0 Hb σ (upd H p o) ds ((p, r) :: rs) := by
  have g := Gr.own A.st.sub o hp
  have A2 := A.up g
  refine ⟨A2.gr, ⟨A2.st.sub, A2.st.len, A2.st.slot, ?_, fun x hx => ?_⟩, fun x hx => ?_⟩
  · rw [List.map_cons, List.nodup_cons]
    refine ⟨fun hx => ?_, A.st.res.nd⟩
    obtain ⟨y, hy, e⟩ := List.mem_map.mp hx
    have e2 : y.1 = p := e
    exact (A.st.res.at_ y hy).2.some_ (by rw [e2]; exact hp)
  · rcases List.mem_cons.mp hx with e | hx
    · subst e; exact ⟨A.st.sub.free hp, h⟩
    · exact A2.st.res.at_ x hx
  · rcases List.mem_cons.mp hx with e | hx
    · subst e; exact .inl (own_new A hp)
    · exact A.own x hx
/-- an own list is data from now on -/
theorem At.freeze {xs : List PyData} (A : At K M Hb0 H0 Hb σ H ds ((a, .lst xs) :: rsF)) : ∃ Hb', Same Hb Hb' ∧ Dr K Hb' (.ref a) (.list xs) ∧ At K M Hb0 H0 Hb' σ H ds rsF := by
  obtain ⟨hb, vs, hv, rv⟩ := A.st.res.at_ _ List.mem_cons_self
  have e1 : Same Hb (upd Hb a (.lst vs)) := same_upd _ hb
  have sub : Same (upd Hb a (.lst vs)) H := fun b o e => by
    by_cases q : b = a
    · subst q; rw [upd_same] at e; cases e; exact hv
    · rw [upd_ne q] at e; exact A.st.sub b o e
  refine ⟨_, e1, .lst upd_same (DrAll.up e1 _ rv), ⟨A.gr.ext, A.gr.sup.trans e1, sub, fun b hm hb' hn => ?_, A.gr.there⟩, ⟨sub, A.st.len, fun i o c h1 h2 => (A.st.slot i o c h1 h2).up e1, A.st.res.tail.nd, fun x hx => ?_⟩, fun x hx => A.own x (List.mem_cons_of_mem _ hx)⟩
  · by_cases q : b = a
    · subst q
      rcases A.own _ List.mem_cons_self with z | z
      · exact absurd z hb'
      · exact absurd z hm
    · rw [upd_ne q]; exact A.gr.out b hm hb' hn
  · have z := A.st.res.at_ x (List.mem_cons_of_mem _ hx)
    refine ⟨?_, z.2.up e1 fun o e => e⟩
    rw [upd_ne (A.st.res.ne x hx)]; exact z.1
theorem Stt.own (S : Stt K Hb H σ ds rs) (hm : (a, r) ∈ rs) : RsAt K Hb H a r := (S.res.at_ _ hm).2
theorem sd_perm (p : rs.Perm rs') (h : SdC K t ds rs' P) : SdC K t ds rs P := fun M Hb0 H0 Hb σ H D A m => h M Hb0 H0 Hb σ H D (A.perm p) m
theorem em_perm {PP : Sc → Rss → Prop} (p : rs.Perm rs') (h : EvM K te ds rs' PP) : EvM K te ds rs PP := fun M Hb0 H0 Hb σ H Q A k => h M Hb0 H0 Hb σ H Q (A.perm p) k
/-- drop an own object -/
theorem At.drop (A : At K M Hb0 H0 Hb σ H ds ((a, r) :: rsF)) : At K M Hb0 H0 Hb σ H ds rsF := ⟨A.gr, ⟨A.st.sub, A.st.len, A.st.slot, A.st.res.tail⟩, fun x hx => A.own x (List.mem_cons_of_mem _ hx)⟩
theorem sd_freeze {i : Nat} {xs : List PyData} (hi : ds[i]? = some (.raw (.ref a))) (p : rs.Perm ((a, .lst xs) :: rsF)) (h : SdC K t (ds.set i (.val (.list xs))) rsF P) : SdC K t ds rs P := fun M Hb0 H0 Hb σ H D A m => by
  obtain ⟨Hb', e1, r1, A2⟩ := (A.perm p).freeze
  refine h M Hb0 H0 Hb' σ H D ⟨A2.gr, ⟨A2.st.sub, by rw [List.length_set]; exact A2.st.len, fun j o c h1 h2 => ?_, A2.st.res⟩, A2.own⟩ m
  by_cases e : i = j
  · subst e
    have hl : i < ds.length := (List.getElem?_eq_some_iff.mp hi).1
    rw [List.getElem?_set_self hl] at h2
    cases h2
    have z : o = some (.ref a) := A.st.slot i o _ h1 hi
    exact ⟨_, z, r1⟩
  · rw [List.getElem?_set_ne e] at h2
    exact A2.st.slot j o c h1 h2
/-! ### new own objects -/
theorem em_lstF {ta : TA} {PP : Sc → Rss → Prop} (h : EaM K ta ds rs fun cs rs' => ∃ xs : List PyData, cs = xs.map .val ∧ xs.length ≤ 100000 ∧ ∀ a, PP (.raw (.ref a)) ((a, .lst xs) :: rs')) : EvM K (tLst ta) ds rs PP := fun M Hb0 H0 Hb σ H Q A k =>
  h M Hb0 H0 Hb σ H _ A fun vs Hb1 H1 cs rs1 A1 r1 p => by
    obtain ⟨xs, rfl, hl, hp⟩ := p
    have r2 := drAll_of r1
    refine ⟨by rw [r2.length]; exact line_of hl, fun p hp' => ?_⟩
    exact k _ Hb1 _ (.raw (.ref p)) _ (A1.new (r := .lst xs) hp' ⟨vs, upd_same, r2⟩) rfl (hp p)
theorem em_dnew {PP : Sc → Rss → Prop} (h : ∀ a, PP (.raw (.ref a)) ((a, .dct []) :: rs)) : EvM K tDNewK ds rs PP := fun M Hb0 H0 Hb σ H Q A k p hp =>
  k _ Hb _ (.raw (.ref p)) _ (A.new (r := .dct []) hp ⟨[], upd_same, .nil⟩) rfl (h p)
/-- data is thawed: a fresh list (the result of a call of list) -/
theorem em_listF {ta : TA} {PP : Sc → Rss → Prop} {xs : List PyData} (h : EaC K ta ds rs [.val (.list xs)]) (hp : ∀ a, PP (.raw (.ref a)) ((a, .lst xs) :: rs)) :
    EvM K (tCB (fun xs H Q => ∃ p ys, xs = [.ref p] ∧ (SqL K H p ys ∨ SqT K H p ys) ∧ ∀ l, H l = none → Q (.ref l) (upd H l (.lst ys))) ta) ds rs PP := fun M Hb0 H0 Hb σ H Q A k => h Hb H σ A.st _ fun vs Hb1 H1 g r => by
  obtain ⟨v, rfl, z⟩ := sc1 r
  cases z with
  | lst e1 e2 => exact ⟨_, _, rfl, .inl (SqL.of (g.sub _ _ e1)), fun l hl => k _ Hb1 _ (.raw (.ref l)) _ ((A.up g).new (r := .lst xs) hl ⟨_, upd_same, e2⟩) rfl (hp l)⟩
/-! ### own lists: reading -/
theorem ec_ixO {xs : List PyData} {i : Int} (h : EvC K te ds rs (.raw (.ref a))) (hm : (a, .lst xs) ∈ rs) (hi : EvC K ti ds rs (.val (.int i))) (hd : atI xs i = some d) : EvC K (tOp (rIxL K) te ti) ds rs (.val d) := fun Hb H σ S Q k =>
  h Hb H σ S _ fun x Hb1 H1 g1 r1 => hi Hb1 H1 σ (S.up g1) _ fun y Hb2 H2 g2 r2 => by
    obtain ⟨vs, hv, rv⟩ := (S.up (g1.trans g2)).own hm
    have e1 : x = .ref a := r1
    subst e1
    cases r2
    obtain ⟨v, e2, e3⟩ := at_dr rv hd
    exact ⟨_, _, i, v, rfl, rfl, SqL.of hv, e2, k v Hb2 H2 (g1.trans g2) e3⟩
theorem ec_lenO {ta : TA} {xs : List PyData} (h : EaC K ta ds rs [.raw (.ref a)]) (hm : (a, .lst xs) ∈ rs) : EvC K (tCB (fun xs H Q => ∃ p ys, xs = [.ref p] ∧ (SqL K H p ys ∨ SqT K H p ys) ∧ Q (.int ys.length) H) ta) ds rs (.val (.int xs.length)) := fun Hb H σ S Q k =>
  h Hb H σ S _ fun vs Hb1 H1 g r => by
    obtain ⟨v, rfl, z⟩ := sc1 r
    have e1 : v = .ref a := z
    subst e1
    obtain ⟨vs, hv, rv⟩ := (S.up g).own hm
    exact ⟨_, _, rfl, .inl (SqL.of hv), by rw [rv.length]; exact k _ Hb1 H1 g (.int _)⟩
/-! ### own lists: writing -/
theorem sd_app {ta : TA} {xs0 : List PyData} (ho : EvC K to ds rs (.raw (.ref a))) (hm : (a, .lst xs0) ∈ rs)
    (ht : EaM K ta ds rs fun cs rs' => ∃ d xs rsF, cs = [.val d] ∧ rs'.Perm ((a, .lst xs) :: rsF) ∧ xs.length < 100000 ∧ P.nx ds ((a, .lst (xs ++ [d])) :: rsF)) : SdC K (tDrop (tBM K "list" rAppend to ta)) ds rs P := fun M Hb0 H0 Hb σ H D A m =>
  ho Hb H σ A.st _ fun x Hb1 H1 g1 r1 => by
    have e1 : x = .ref a := r1
    subst e1
    have A1 := A.up g1
    obtain ⟨vs0, hv0, _⟩ := A1.st.own hm
    refine ⟨.inl ⟨rfl, _, SqL.of hv0⟩, ?_⟩
    refine ht M Hb0 H0 Hb1 σ H1 _ A1 fun vs Hb2 H2 cs rs2 A2 r2 p => ?_
    obtain ⟨d, xs, rsF, rfl, hp, hl, hn⟩ := p
    obtain ⟨y, rfl, ry⟩ := sc1 r2
    have A3 := A2.perm hp
    obtain ⟨ws, hw, rw_⟩ := A3.st.own List.mem_cons_self
    exact ⟨a, ws, y, rfl, rfl, hw, by rw [rw_.length]; exact Nat.lt_of_lt_of_le hl (line_of (Nat.le_refl _)), m.nx _ _ Hb2 ds _ (A3.write (r' := .lst (xs ++ [d])) ⟨_, upd_same, rw_.append (.one ry)⟩) hn⟩
theorem sd_setO (h : EvM K te ds rs fun c rs' => ∃ d a xs i j rsF, c = .val d ∧ EvC K to ds rs' (.raw (.ref a)) ∧ EvC K ti ds rs' (.val (.int i)) ∧ rs'.Perm ((a, .lst xs) :: rsF) ∧ ixN xs.length i = some j ∧ P.nx ds ((a, .lst (xs.set j d)) :: rsF)) :
    SdC K (tAsg te (gSub to ti rSetL)) ds rs P := fun M Hb0 H0 Hb σ H D A m =>
  h M Hb0 H0 Hb σ H _ A fun v Hb1 H1 c rs1 A1 r1 p => by
    obtain ⟨d, a, xs, i, j, rsF, rfl, ho, hi, hp, hj, hn⟩ := p
    refine ho Hb1 H1 σ A1.st _ fun x Hb2 H2 g2 r2 => hi Hb2 H2 σ (A1.st.up g2) _ fun y Hb3 H3 g3 r3 => ?_
    have e1 : x = .ref a := r2
    subst e1
    cases r3
    have A3 := (A1.up (g2.trans g3)).perm hp
    obtain ⟨ws, hw, rw_⟩ := A3.st.own List.mem_cons_self
    have rv := Dr.up (g2.sup.trans g3.sup) _ r1
    refine ⟨a, ws, i, j, rfl, rfl, hw, by rw [rw_.length]; exact hj, m.nx _ _ Hb3 ds _ (A3.write (r' := .lst (xs.set j d)) ⟨_, upd_same, rw_.set j rv⟩) hn⟩
/-! ### own dicts -/
def getD_ (kvs : List (Int × PyData)) (k : Int) : Option PyData := (kvs.find? fun kv => decide (kv.1 = k)).map (·.2)
theorem kv_get {Hb : Hp} (k : Int) : ∀ {ws : List (Key × V)} {kvs : List (Int × PyData)}, KvR K Hb ws kvs → match getD_ kvs k with
    | none => valV ws (Sum.inl k) = none
    | some d => ∃ v, valV ws (Sum.inl k) = some v ∧ Dr K Hb v d
  | _, _, .nil => by
    show valV [] _ = none
    rfl
  | _, _, .cons (a := w) (b := q) (l₁ := ws) (l₂ := kvs) h t => by
    have ih := kv_get k t
    obtain ⟨h1, h2⟩ := h
    by_cases e : q.1 = k
    · have e2 : w.1 = Sum.inl k := by rw [h1, e]
      have e3 : getD_ (q :: kvs) k = some q.2 := by simp [getD_, List.find?_cons, e]
      rw [e3]
      exact ⟨_, valV_pos e2, h2⟩
    · have e2 : ¬ w.1 = Sum.inl k := by rw [h1]; exact fun z => e (Sum.inl.inj z)
      have e3 : getD_ (q :: kvs) k = getD_ kvs k := by simp [getD_, List.find?_cons, e]
      rw [e3, valV_neg e2]
      exact ih
theorem ec_din {kvs : List (Int × PyData)} {k : Int} (hk : EvC K ti ds rs (.val (.int k))) (h : EvC K te ds rs (.raw (.ref a))) (hm : (a, .dct kvs) ∈ rs) : EvC K (tDIn ti te) ds rs (.val (.bool (getD_ kvs k).isSome)) := fun Hb H σ S Q kk =>
  hk Hb H σ S _ fun y Hb1 H1 g1 r1 => h Hb1 H1 σ (S.up g1) _ fun x Hb2 H2 g2 r2 => by
    have e1 : x = .ref a := r2
    subst e1
    cases r1
    obtain ⟨ws, hw, rw_⟩ := (S.up (g1.trans g2)).own hm
    refine ⟨a, _, rfl, DGet.k (k := Sum.inl k) hw, ?_⟩
    have z := kv_get k rw_
    cases q : getD_ kvs k with
    | none =>
      rw [q] at z
      rw [show valV ws (Sum.inl k) = none from z]
      exact kk _ Hb2 H2 (g1.trans g2) (by rw [q]; exact Dr.bl _)
    | some d =>
      rw [q] at z
      obtain ⟨v, e, _⟩ := z
      rw [e]
      exact kk _ Hb2 H2 (g1.trans g2) (by rw [q]; exact Dr.bl _)
theorem ec_dget {kvs : List (Int × PyData)} {k : Int} (h : EvC K te ds rs (.raw (.ref a))) (hm : (a, .dct kvs) ∈ rs) (hk : EvC K ti ds rs (.val (.int k))) (hd : getD_ kvs k = some d) : EvC K (tDGet te ti) ds rs (.val d) := fun Hb H σ S Q kk =>
  h Hb H σ S _ fun x Hb1 H1 g1 r1 => hk Hb1 H1 σ (S.up g1) _ fun y Hb2 H2 g2 r2 => by
    have e1 : x = .ref a := r1
    subst e1
    cases r2
    obtain ⟨ws, hw, rw_⟩ := (S.up (g1.trans g2)).own hm
    have z := kv_get k rw_
    rw [hd] at z
    obtain ⟨v, e, rv⟩ := z
    refine ⟨a, v, rfl, ?_, kk v Hb2 H2 (g1.trans g2) rv⟩
    have := DGet.k (k := Sum.inl k) hw
    rw [e] at this
    exact this
theorem kv_snoc {Hb : Hp} {k : Int} {v : V} (rv : Dr K Hb v d) : ∀ {ws : List (Key × V)} {kvs : List (Int × PyData)}, KvR K Hb ws kvs → KvR K Hb (ws ++ [(Sum.inl k, v)]) (kvs ++ [(k, d)])
  | _, _, .nil => .cons ⟨rfl, rv⟩ .nil
  | _, _, .cons h t => .cons h (kv_snoc rv t)
/-- a new key -/
theorem sd_dput {kvs : List (Int × PyData)} {k : Int} (hv : EvC K te ds rs (.val d)) (h : EvC K to ds rs (.raw (.ref a))) (hk : EvC K ti ds rs (.val (.int k))) (p : rs.Perm ((a, .dct kvs) :: rsF)) (hn : getD_ kvs k = none) (hl : kvs.length < 100000)
    (hp : P.nx ds ((a, .dct (kvs ++ [(k, d)])) :: rsF)) : SdC K (sDPut to ti te) ds rs P := fun M Hb0 H0 Hb σ H D A m =>
  hv Hb H σ A.st _ fun v Hb1 H1 g1 r1 => h Hb1 H1 σ (A.st.up g1) _ fun x Hb2 H2 g2 r2 => hk Hb2 H2 σ (A.st.up (g1.trans g2)) _ fun y Hb3 H3 g3 r3 => by
    have e1 : x = .ref a := r2
    subst e1
    cases r3
    have A3 := (A.up ((g1.trans g2).trans g3)).perm p
    obtain ⟨ws, hw, rw_⟩ := A3.st.own List.mem_cons_self
    have z := kv_get k rw_
    rw [hn] at z
    have z : valV ws (Sum.inl k) = none := z
    have e2 : putK ws (Sum.inl k) v = ws ++ [(Sum.inl k, v)] := by
      unfold putK
      rw [valV_any, z]
      rfl
    refine ⟨a, _, rfl, DPut.k (k := Sum.inl k) hw (by rw [Paired.length rw_]; exact Nat.lt_of_lt_of_le hl (line_of (Nat.le_refl _))), ?_⟩
    rw [e2]
    refine m.nx _ _ Hb3 ds _ (A3.write (r' := .dct (kvs ++ [(k, d)])) ⟨_, upd_same, ?_⟩) hp
    exact kv_snoc (Dr.up (g2.sup.trans g3.sup) _ r1) rw_
/-! ### fields -/
theorem fs_get {Hb : Hp} {f : Str} : ∀ {ws : List (Str × V)} {fs : List (Str × PyData)}, FsR K Hb ws fs → fs.lookup f = some d → ∃ v, ws.lookup f = some v ∧ Dr K Hb v d
  | _, _, .nil, e => by cases e
  | _, _, .cons (a := w) (b := q) (l₁ := ws) (l₂ := fs) h t, e => by
    obtain ⟨h1, h2⟩ := h
    obtain ⟨wk, wv⟩ := w
    obtain ⟨qk, qv⟩ := q
    have h1 : wk = qk := h1
    subst h1
    rw [List.lookup_cons] at e ⊢
    cases b : (f == wk) with
    | true =>
      rw [b] at e
      cases e
      exact ⟨wv, rfl, h2⟩
    | false =>
      rw [b] at e
      exact fs_get t e
theorem fs_none {Hb : Hp} {f : Str} : ∀ {ws : List (Str × V)} {fs : List (Str × PyData)}, FsR K Hb ws fs → fs.lookup f = none → ws.lookup f = none
  | _, _, .nil, e => rfl
  | _, _, .cons (a := w) (b := q) (l₁ := ws) (l₂ := fs) h t, e => by
    obtain ⟨h1, h2⟩ := h
    obtain ⟨wk, wv⟩ := w
    obtain ⟨qk, qv⟩ := q
    have h1 : wk = qk := h1
    subst h1
    rw [List.lookup_cons] at e ⊢
    cases b : (f == wk) with
    | true =>
      rw [b] at e
      cases e
    | false =>
      rw [b] at e
      exact fs_none t e
def putD (f : Str) (d : PyData) : List (Str × PyData) → List (Str × PyData)
  | [] => [(f, d)]
  | (g, x) :: r => if g = f then (g, d) :: r else (g, x) :: putD f d r
theorem fs_put {Hb : Hp} {f : Str} {v : V} (rv : Dr K Hb v d) : ∀ {ws : List (Str × V)} {fs : List (Str × PyData)}, FsR K Hb ws fs → FsR K Hb (putF f v ws) (putD f d fs)
  | _, _, .nil => .cons ⟨rfl, rv⟩ .nil
  | _, _, .cons (a := w) (b := q) (l₁ := ws) (l₂ := fs) h t => by
    obtain ⟨h1, h2⟩ := h
    obtain ⟨wk, wv⟩ := w
    obtain ⟨qk, qv⟩ := q
    have h1 : wk = qk := h1
    subst h1
    show FsR K Hb (if wk = f then (wk, v) :: ws else (wk, wv) :: putF f v ws) (if wk = f then (wk, d) :: fs else (wk, qv) :: putD f d fs)
    by_cases e : wk = f
    · rw [if_pos e, if_pos e]; exact .cons ⟨rfl, rv⟩ t
    · rw [if_neg e, if_neg e]; exact .cons ⟨rfl, h2⟩ (fs_put rv t)
theorem ec_fld {C dx : Addr} {fs : List (Str × PyData)} {f : Str} (hc : Cls K C) (hna : NoAttr K C f) (h : EvC K te ds rs (.raw (.ref a))) (hm : (a, .ins C dx fs) ∈ rs) (hd : fs.lookup f = some d) : EvC K (tFld K te f) ds rs (.val d) := fun Hb H σ S Q k =>
  h Hb H σ S _ fun x Hb1 H1 g1 r1 => by
    have e1 : x = .ref a := r1
    subst e1
    obtain ⟨ws, hw, rw_⟩ := (S.up g1).own hm
    obtain ⟨v, e2, rv⟩ := fs_get rw_ hd
    exact ⟨a, C, dx, ws, v, rfl, hw, hc, hna, e2, k v Hb1 H1 g1 rv⟩
theorem sd_fld {C dx : Addr} {fs : List (Str × PyData)} {f : Str} (hc : Cls K C) (hna : NoAttr K C f) (hv : EvC K te ds rs (.val d)) (h : EvC K to ds rs (.raw (.ref a))) (p : rs.Perm ((a, .ins C dx fs) :: rsF)) (hl : fs.length < 1000)
    (hp : P.nx ds ((a, .ins C dx (putD f d fs)) :: rsF)) : SdC K (sFld K to te f) ds rs P := fun M Hb0 H0 Hb σ H D A m =>
  hv Hb H σ A.st _ fun v Hb1 H1 g1 r1 => h Hb1 H1 σ (A.st.up g1) _ fun x Hb2 H2 g2 r2 => by
    have e1 : x = .ref a := r2
    subst e1
    have A3 := (A.up (g1.trans g2)).perm p
    obtain ⟨ws, hw, rw_⟩ := A3.st.own List.mem_cons_self
    exact ⟨a, C, dx, ws, rfl, hw, hc, hna, by rw [Paired.length rw_]; exact hl, m.nx _ _ Hb2 ds _ (A3.write (r' := .ins C dx (putD f d fs)) ⟨_, upd_same, fs_put (Dr.up g2.sup _ r1) rw_⟩) hp⟩
/-! ### star -/
theorem ea_starT {tr : TA} {xs : List PyData} {cs : Scs} (h : EvC K te ds rs (.val (.tuple xs))) (hr : EaC K tr ds rs cs) : EaC K (StX.tStar K te tr) ds rs (xs.map .val ++ cs) := fun Hb H σ S Q k =>
  h Hb H σ S _ fun x Hb1 H1 g1 r1 => by
    cases r1 with
    | tup e1 e2 =>
      refine ⟨_, _, rfl, .inl (sqT_up g1.sub e1), hr Hb1 H1 σ (S.up g1) _ fun ys Hb2 H2 g2 r2 => k _ Hb2 H2 (g1.trans g2) ?_⟩
      have z := DrAll.up g2.sup _ e2
      clear e1 e2 h
      revert z
      generalize hxs : xs = xs'
      intro z
      have : ∀ {vs : List V} {xs : List PyData}, DrAll K Hb2 vs xs → ScRs K Hb2 (vs ++ ys) (xs.map .val ++ cs) := fun {vs xs} z => by
        induction xs generalizing vs with
        | nil => cases z; exact r2
        | cons d xs ih =>
          cases z with
          | cons h1 h2 => exact .cons h1 (ih h2)
      exact this z
theorem ea_starL {tr : TA} {xs : List PyData} {cs : Scs} (h : EvC K te ds rs (.val (.list xs))) (hr : EaC K tr ds rs cs) : EaC K (StX.tStar K te tr) ds rs (xs.map .val ++ cs) := fun Hb H σ S Q k =>
  h Hb H σ S _ fun x Hb1 H1 g1 r1 => by
    cases r1 with
    | lst e1 e2 =>
      refine ⟨_, _, rfl, .inr (SqL.of (g1.sub _ _ e1)), hr Hb1 H1 σ (S.up g1) _ fun ys Hb2 H2 g2 r2 => k _ Hb2 H2 (g1.trans g2) ?_⟩
      have z := DrAll.up g2.sup _ e2
      have : ∀ {vs : List V} {xs : List PyData}, DrAll K Hb2 vs xs → ScRs K Hb2 (vs ++ ys) (xs.map .val ++ cs) := fun {vs xs} z => by
        induction xs generalizing vs with
        | nil => cases z; exact r2
        | cons d xs ih =>
          cases z with
          | cons h1 h2 => exact .cons h1 (ih h2)
      exact this z
end
end DL
set_option maxHeartbeats 1000000
/-! The data layer: promises, calls. -/
namespace DL
open PySem PySem.Spec PyProof.Rows L2
abbrev Wc := Scs → Rss → (Sc → Rss → Prop) → Prop
/-- what a def promises: W relates the arguments, the own objects handed over and what holds behind -/
def Fn (K : PySem.W.Frag) (W : Wc) : Sp := fun vs H Q _ => ∃ Hb cs rs Post, Same Hb H ∧ ScRs K Hb vs cs ∧ ResR K Hb H rs ∧ W cs rs Post ∧
  ∀ v c rs' Hb' H', GrM (adOf rs) Hb H Hb' H' → ScR K Hb' v c → ResR K Hb' H' rs' → (∀ x ∈ rs', H x.1 = none ∨ adOf rs x.1) → Post c rs' → Q v H'
/-- a pure def -/
def Pu (R : List PyData → PyData → Prop) : Wc := fun cs rs Post => rs = [] ∧ ∃ xs d, cs = xs.map Sc.val ∧ R xs d ∧ Post = fun c rs' => c = .val d ∧ rs' = []
def WcLen (W : Wc) (n : Nat) : Prop := ∀ cs rs Post, W cs rs Post → cs.length = n
section
variable {K : PySem.W.Frag} {M : Addr → Prop} {Hb0 H0 Hb H Hb1 H1 : Hp} {σ : L2.St} {ds : Scs} {rs rs' rsF : Rss} {te ta tb ti to : TE} {t u : TS} {c c1 c2 : Sc} {d : PyData} {P : Pst} {a : Addr} {r r' : Rs} {W : Wc} {E : XK}
theorem fn_len {n : Nat} (h : WcLen W n) : ∀ vs H Q E, Fn K W vs H Q E → vs.length = n := fun vs H Q E ⟨Hb, cs, rs, Post, s, r, _, w, _⟩ => by
  rw [Paired.length r]; exact h _ _ _ w
theorem pu_len {R : List PyData → PyData → Prop} {n : Nat} (h : ∀ xs d, R xs d → xs.length = n) : WcLen (Pu R) n := fun cs rs Post ⟨_, xs, d, e, hr, _⟩ => by
  rw [e, List.length_map]; exact h _ _ hr
theorem sc_ref {vs : List V} {cs : Scs} {a : Addr} (h : ScRs K Hb vs cs) : ScRs K Hb (V.ref a :: vs) (Sc.raw (.ref a) :: cs) := Paired.cons (F := ScR K Hb) (show ScR K Hb (V.ref a) (Sc.raw (.ref a)) from rfl) h
theorem stt_go {Hb : Hp} : ∀ {vs : List V} {cs : Scs} {i : Nat} {o : Option V} {c : Sc}, ScRs K Hb vs cs → vs[i]?.map some = some o → cs[i]? = some c → SlotR K Hb o c
  | _, _, _, _, _, .nil, _, h2 => by simp at h2
  | _, _, 0, o, c, .cons (a := v) (b := c') q t, h1, h2 => by
    have e1 : some v = o := by simpa using h1
    have e2 : c' = c := by simpa using h2
    subst e1 e2
    exact q.slot
  | _, _, i + 1, o, c, .cons q t, h1, h2 => stt_go (i := i) t (by simpa using h1) (by simpa using h2)
theorem stt_start {N : List Str} {vs : List V} {cs : Scs} (s : Same Hb H) (r : ScRs K Hb vs cs) (rr : ResR K Hb H rs) (n : Nat) (hn : N.length - vs.length = n) : Stt K Hb H (L2.start N vs) (cs ++ List.replicate n .un) rs := by
  subst hn
  refine ⟨s, by unfold L2.start; simp [Paired.length r], fun i o c h1 h2 => ?_, rr⟩
  have hl := Paired.length r
  unfold L2.start at h1
  by_cases hi : i < vs.length
  · rw [List.getElem?_append_left (by simpa using hi), List.getElem?_map] at h1
    rw [List.getElem?_append_left (by omega)] at h2
    exact stt_go r h1 h2
  · rw [List.getElem?_append_right (by omega), List.getElem?_replicate] at h2
    split at h2
    · cases h2; exact trivial
    · cases h2
/-- the body's reading keeps the promise -/
theorem fn_body {N : List Str} {vs : List V} {Q : VK} {E : XK} (hsp : Fn K W vs H Q E) (n : Nat) (hn : N.length - vs.length = n)
    (hb : ∀ cs rs Post, W cs rs Post → SdC K t (cs ++ List.replicate n .un) rs { nx := fun _ rs' => Post (.val .none) rs', rt := Post }) : t { nx := fun _ H' => Q .non H', rt := Q } (L2.start N vs) H := by
  obtain ⟨Hb, cs, rs, Post, s, r, rr, w, k⟩ := hsp
  refine hb cs rs Post w (adOf rs) Hb H Hb _ H _ ⟨GrM.refl s, stt_start s r rr n hn, fun x hx => .inr (List.mem_map_of_mem (f := fun y : Addr × Rs => y.1) hx)⟩ ⟨fun σ' H' Hb' ds' rs' A p => k .non (.val .none) rs' Hb' H' A.gr .non A.st.res A.own p, fun v H' Hb' c rs' A p => k v c rs' Hb' H' A.gr A.val A.res A.own p, fun _ _ _ _ _ _ p => p.elim, fun _ _ _ _ _ _ p => p.elim⟩
theorem resR_app (p : rs.Perm (rs' ++ rsF)) (h : ResR K Hb H rs) : ResR K Hb H rs' := by
  have h2 := h.perm p
  refine ⟨?_, fun x hx => h2.at_ x (List.mem_append_left _ hx)⟩
  have := h2.nd
  rw [List.map_append] at this
  exact (List.nodup_append.mp this).1
/-- behind a call: the caller's own objects -/
theorem At.called {rsI rs2 : Rss} (A : At K M Hb0 H0 Hb1 σ H1 ds (rsI ++ rsF)) {Hb2 H2 : Hp} (g : GrM (adOf rsI) Hb1 H1 Hb2 H2) (rr : ResR K Hb2 H2 rs2) (own : ∀ x ∈ rs2, H1 x.1 = none ∨ adOf rsI x.1) : At K M Hb0 H0 Hb2 σ H2 ds (rs2 ++ rsF) := by
  have ndA := A.st.res.nd
  rw [List.map_append] at ndA
  have dis := (List.nodup_append.mp ndA).2.2
  have nd2 := (List.nodup_append.mp ndA).2.1
  have notI : ∀ x ∈ rsF, ¬ adOf rsI x.1 := fun x hx h => dis x.1 h x.1 (List.mem_map_of_mem (f := fun y : Addr × Rs => y.1) hx) rfl
  have inM : ∀ b, ¬ M b → H0 b ≠ none → ¬ adOf rsI b := fun b hm hb h => by
    obtain ⟨y, hy, e⟩ := List.mem_map.mp h
    have e : y.1 = b := e
    rcases A.own y (List.mem_append_left _ hy) with z | z
    · rw [e] at z; exact hb z
    · rw [e] at z; exact hm z
  refine ⟨⟨fun b o hm e => ?_, A.gr.sup.trans g.sup, g.sub, fun b hm hb hn => ?_, fun b hb => g.there b (A.gr.there b hb)⟩, ⟨g.sub, A.st.len, fun i o c h1 h2 => (A.st.slot i o c h1 h2).up g.sup, ?_, fun x hx => ?_⟩, fun x hx => ?_⟩
  · exact g.ext b o (inM b hm (by rw [e]; exact fun z => nomatch z)) (A.gr.ext b o hm e)
  · exact g.out b (inM b hm hb) (A.gr.there b hb) (A.gr.out b hm hb hn)
  · rw [List.map_append, List.nodup_append]
    refine ⟨rr.nd, nd2, fun x hx y hy e => ?_⟩
    obtain ⟨z, hz, e1⟩ := List.mem_map.mp hx
    obtain ⟨z2, hz2, e2⟩ := List.mem_map.mp hy
    have e1 : z.1 = x := e1
    have e2 : z2.1 = y := e2
    rcases own z hz with q | q
    · exact (A.st.res.at_ z2 (List.mem_append_right _ hz2)).2.some_ (by rw [e2, ← e, ← e1]; exact q)
    · exact notI z2 hz2 (by rw [e2, ← e, ← e1]; exact q)
  · rcases List.mem_append.mp hx with hx | hx
    · exact rr.at_ x hx
    · have z := A.st.res.at_ x (List.mem_append_right _ hx)
      exact ⟨g.out _ (notI x hx) z.2.some_ z.1, z.2.up g.sup fun o e => g.ext _ o (notI x hx) e⟩
  · rcases List.mem_append.mp hx with hx | hx
    · rcases own x hx with q | q
      · refine .inl ?_
        cases e : H0 x.1 with
        | none => rfl
        | some o => exact absurd q (A.gr.there _ (by rw [e]; exact fun z => nomatch z))
      · obtain ⟨y, hy, e⟩ := List.mem_map.mp q
        have e : y.1 = x.1 := e
        have := A.own y (List.mem_append_left _ hy)
        rw [e] at this
        exact this
    · exact A.own x (List.mem_append_right _ hx)
/-- what a call does, at given values -/
theorem call_m {vs : List V} {cs : Scs} {Q : VK} {PP : Sc → Rss → Prop} (A : At K M Hb0 H0 Hb1 σ H1 ds rs) (r : ScRs K Hb1 vs cs)
    (h : ∃ rsI rsF Post, rs.Perm (rsI ++ rsF) ∧ W cs rsI Post ∧ ∀ c rs', Post c rs' → PP c (rs' ++ rsF))
    (k : ∀ v Hb' H' c rs', At K M Hb0 H0 Hb' σ H' ds rs' → ScR K Hb' v c → PP c rs' → Q v H') : Fn K W vs H1 Q E := by
  obtain ⟨rsI, rsF, Post, p, w, hp⟩ := h
  refine ⟨Hb1, cs, rsI, Post, A.st.sub, r, resR_app p A.st.res, w, fun v c rs' Hb2 H2 g rv rr own pp => ?_⟩
  exact k v Hb2 H2 c (rs' ++ rsF) ((A.perm p).called g rr own) rv (hp c rs' pp)
theorem em_call {ta : TA} {PP : Sc → Rss → Prop} (h : EaM K ta ds rs fun cs rs1 => ∃ rsI rsF Post, rs1.Perm (rsI ++ rsF) ∧ W cs rsI Post ∧ ∀ c rs', Post c rs' → PP c (rs' ++ rsF)) : EvM K (tCall (Fn K W) [] E ta) ds rs PP := fun M Hb0 H0 Hb σ H Q A k =>
  h M Hb0 H0 Hb σ H _ A fun vs Hb1 H1 cs rs1 A1 r1 p => by
    show Fn K W (vs ++ []) H1 Q E
    rw [List.append_nil]
    exact call_m A1 r1 p k
theorem em_callR {ta : TA} {PP : Sc → Rss → Prop} (h : EaM K ta ds rs fun cs rs1 => ∃ rsI rsF Post, rs1.Perm (rsI ++ rsF) ∧ W cs rsI Post ∧ ∀ c rs', Post c rs' → PP c (rs' ++ rsF)) : EvM K (fun σ H Q => ta σ H fun vs H1 => Fn K W vs H1 Q E) ds rs PP := fun M Hb0 H0 Hb σ H Q A k =>
  h M Hb0 H0 Hb σ H _ A fun vs Hb1 H1 cs rs1 A1 r1 p => call_m A1 r1 p k
/-- a pure def at given data -/
theorem call_p {R : List PyData → PyData → Prop} {vs : List V} {xs : List PyData} {Q : VK} (s : Same Hb H) (r : ScRs K Hb vs (xs.map .val)) (hr : R xs d) (k : ∀ v Hb' H', Gr Hb H Hb' H' → ScR K Hb' v (.val d) → Q v H') : Fn K (Pu R) vs H Q E :=
  ⟨Hb, _, [], _, s, r, .nil, ⟨rfl, xs, d, rfl, hr, rfl⟩, fun v c rs' Hb2 H2 g rv rr own pp => by
    obtain ⟨rfl, rfl⟩ := pp
    exact k v Hb2 H2 (g.gr fun b h => by cases h) rv⟩
theorem ec_call {ta : TA} {R : List PyData → PyData → Prop} {xs : List PyData} (h : EaC K ta ds rs (xs.map .val)) (hr : R xs d) : EvC K (tCall (Fn K (Pu R)) [] E ta) ds rs (.val d) := fun Hb H σ S Q k =>
  h Hb H σ S _ fun vs Hb1 H1 g r1 => by
    show Fn K (Pu R) (vs ++ []) H1 Q E
    rw [List.append_nil]
    exact call_p g.sub r1 hr fun v Hb2 H2 g2 rv => k v Hb2 H2 (g.trans g2) rv
/-! ### methods -/
theorem ins_at {C dx : Addr} {fs : List (Str × PyData)} (S : Stt K Hb H σ ds rs) (hm : (a, .ins C dx fs) ∈ rs) : ∃ ws, H a = some (.ins C dx ws) ∧ FsR K Hb ws fs := S.own hm
theorem em_meth {C dx : Addr} {m : Str} {fs : List (Str × PyData)} {ta : TA} {PP : Sc → Rss → Prop} (ho : EvC K to ds rs (.raw (.ref a))) (hm : (a, .ins C dx fs) ∈ rs) (hf : fs.lookup m = none)
    (h : EaM K ta ds rs fun cs rs1 => ∃ rsI rsF Post, rs1.Perm (rsI ++ rsF) ∧ W (.raw (.ref a) :: cs) rsI Post ∧ ∀ c rs', Post c rs' → PP c (rs' ++ rsF)) : EvM K (tMeth C m (Fn K W) [] E to ta) ds rs PP := fun M Hb0 H0 Hb σ H Q A k =>
  ho Hb H σ A.st _ fun x Hb1 H1 g1 r1 => by
    have e1 : x = .ref a := r1
    subst e1
    have A1 := A.up g1
    obtain ⟨ws, hw, rw_⟩ := ins_at A1.st hm
    refine ⟨a, dx, ws, rfl, hw, fs_none rw_ hf, ?_⟩
    refine h M Hb0 H0 Hb1 σ H1 _ A1 fun vs Hb2 H2 cs rs2 A2 r2 p => ?_
    show Fn K W (.ref a :: (vs ++ [])) H2 Q E
    rw [List.append_nil]
    exact call_m A2 (sc_ref r2) p k
theorem em_prop {C dx : Addr} {fs : List (Str × PyData)} {PP : Sc → Rss → Prop} (ho : EvC K to ds rs (.raw (.ref a))) (hm : (a, .ins C dx fs) ∈ rs)
    (h : ∃ rsI rsF Post, rs.Perm (rsI ++ rsF) ∧ W [.raw (.ref a)] rsI Post ∧ ∀ c rs', Post c rs' → PP c (rs' ++ rsF)) : EvM K (tProp C (Fn K W) [] E to) ds rs PP := fun M Hb0 H0 Hb σ H Q A k =>
  ho Hb H σ A.st _ fun x Hb1 H1 g1 r1 => by
    have e1 : x = .ref a := r1
    subst e1
    have A1 := A.up g1
    obtain ⟨ws, hw, rw_⟩ := ins_at A1.st hm
    exact ⟨a, dx, ws, rfl, hw, call_m A1 (sc_ref .nil) h k⟩
/-! ### new instances -/
theorem made {C : Addr} {vs : List V} {cs : Scs} {Q : VK} {PP : Sc → Rss → Prop} (A : At K M Hb0 H0 Hb1 σ H1 ds rs) (r : ScRs K Hb1 vs cs)
    (h : ∀ x dx, ∃ rsI rsF Post, rs.Perm (rsI ++ rsF) ∧ W (.raw (.ref x) :: cs) ((x, .ins C dx []) :: rsI) Post ∧ ∀ c rs', Post c rs' → c = .val .none ∧ PP (.raw (.ref x)) (rs' ++ rsF))
    (k : ∀ v Hb' H' c rs', At K M Hb0 H0 Hb' σ H' ds rs' → ScR K Hb' v c → PP c rs' → Q v H') : ∀ x dx, H1 x = none → H1 dx = none → dx ≠ x → Fn K W (.ref x :: vs) (upd (upd H1 dx (.own x)) x (.ins C dx [])) (fun v H2 => v = .non ∧ Q (.ref x) H2) E := fun x dx hx hdx hne => by
  obtain ⟨rsI, rsF, Post, p, w, hp⟩ := h x dx
  have g1 := Gr.own A.st.sub (.own x) hdx
  have A1 := A.up g1
  have hx1 : upd H1 dx (.own x) x = none := by rw [upd_ne (Ne.symm hne)]; exact hx
  have A2 := A1.new (r := .ins C dx []) (o := .ins C dx []) hx1 ⟨[], upd_same, .nil⟩
  have A3 := A2.perm ((p.cons (x, .ins C dx [])))
  refine ⟨Hb1, .raw (.ref x) :: cs, (x, .ins C dx []) :: rsI, Post, A3.st.sub, sc_ref r, resR_app (rsF := rsF) (List.Perm.refl _) A3.st.res, w, fun v c rs' Hb2 H2 g rv rr own pp => ?_⟩
  obtain ⟨rfl, hpp⟩ := hp c rs' pp
  cases rv
  have A4 := At.called (rsI := (x, .ins C dx []) :: rsI) (rsF := rsF) A3 g rr own
  exact ⟨rfl, k (.ref x) Hb2 H2 (.raw (.ref x)) _ A4 rfl hpp⟩
end
end DL
set_option maxHeartbeats 2000000
/-! Rules of the machine that the layer lacks. -/
namespace DLX
open PySem PySem.Spec PyProof.Rows L2
/-! ### enumerate(tuple) -/
theorem meets_enum1 {v : Value} {o : Obj} {H : Heap → Prop} (B : Begins v o H) :
    Meets (Builtin.«enumerate.__new__» ⟨[.type "enumerate", v], []⟩) (fun _ R s => H s.heap ∧
      R (.ok (.ret (.ref (s.heap.push o).objs.size))) { s with heap := (s.heap.push o).push { cls := .type "enumerate", data := .fields #[.none, .bool false, .ref s.heap.objs.size, rawInt 0, .none, .none] } }) :=
  .of_wp fun prog w A R s h => by
    obtain ⟨hp, g, d, tk, os⟩ := s
    obtain ⟨h1, h⟩ := h
    have hsub := sub_enumerate
    have q1 : ∀ {A' : Around} {E : Value → Shared → Prop} {Q : Value → Shared → Prop}, Q (.ref hp.objs.size) ⟨hp.push o, g, d, tk, os⟩ → wpAny (model prog w) A' (pyIter v) Q E ⟨hp, g, d, tk, os⟩ :=
      fun q => B.iter prog w _ _ ⟨hp, g, d, tk, os⟩ _ h1 q
    wp_walk using q1
    refine wpAny_stack_any fun st => wpAny_pure ?_
    split
    · rename_i c _ _ _ _ _
      cases (c == Value.type "enumerate")
      · wp_walk using q1
        exact ⟨_, rfl, h⟩
      · wp_walk using q1
        exact ⟨_, rfl, h⟩
    · wp_walk using q1
      exact ⟨_, rfl, h⟩
theorem enum1 {prog : Program} {w : World} {A : Around} {E : Value → Shared → Prop} {s : Shared} {v : Value} {o : Obj} {H : Heap → Prop} {Q : Value → Shared → Prop} (B : Begins v o H) (h1 : H s.heap)
    (h : ∀ h', IsEnum h' (s.heap.objs.size + 1) s.heap.objs.size 0 .none → h'.get? s.heap.objs.size = some o → h'.objs.size = s.heap.objs.size + 2 →
      (∀ b o, s.heap.get? b = some o → h'.get? b = some o) → Q (.ref (s.heap.objs.size + 1)) { s with heap := h' }) :
    wpAny (model prog w) A (call (.type "enumerate") [v]) Q E s := by
  refine callType_new F.called_enumerate (by decide) (F.typeCall_enumerate_1 _) (F.newCall_enumerate_1 _) (fun obj => F.args_object_init_2 obj _) F.entry_enumerate_new
    (meets_enum1 B) ⟨h1, ?_⟩
  have hz : (s.heap.push o).objs.size = s.heap.objs.size + 1 := Heap.size_push ..
  show _ ∧ _
  rw [hz]
  have he : IsEnum ((s.heap.push o).push { cls := .type "enumerate", data := .fields #[.none, .bool false, .ref s.heap.objs.size, rawInt 0, .none, .none] }) (s.heap.objs.size + 1) s.heap.objs.size 0 .none := by
    have := Heap.get?_push_size (s.heap.push o) (o := { cls := .type "enumerate", data := .fields #[.none, .bool false, .ref s.heap.objs.size, rawInt 0, .none, .none] }) rfl
    rw [hz] at this; exact this
  refine ⟨⟨_, he, rfl⟩, h _ he (Heap.get?_push_of_some _ (Heap.get?_push_size _ B.free)) (by rw [Heap.size_push, hz]) fun b o x => Heap.get?_push_of_some _ (Heap.get?_push_of_some _ x)⟩
theorem enumT_end {prog : Program} {w : World} {A : Around} {E : Value → Shared → Prop} {s : Shared} {e it l : Addr} {i : Nat} {n : Int} {items : Array Value} {old : Value} {Q : Option Value → Shared → Prop} (hh : A.handled = none)
    (he : IsEnum s.heap e it n old) (hit : s.heap.IsTupleIter it l i) (hl : s.heap.IsTuple l items) (hx : items[i]? = none)
    (hQ : ∀ h', Heap.ExtBut it s.heap h' → Q none { s with heap := h' }) : wpAny (model prog w) A (pyNext (.ref e)) Q E s := by
  have hT : s.TypeIs (.ref e) "enumerate" := ⟨_, he, rfl⟩
  unfold pyNext
  refine wpAny_bind (wpAny_attempt (wpAny_callSpecial?_slot (name := Str.ofString "__next__") hT F.slot_enumerate_next
    (wpAny_call_entry F.slot_enumerate_next hT F.entry_enumerate_next ?_ (F.args_enumerate_next_1 _))))
  show wpAny _ _ (field (.ref e) 2 >>= _) _ _ _
  refine wpAny_bind (wpAny_field he rfl (x := .ref it) rfl ?_)
  refine wpAny_bind (wpAny_nextOf_tuple_end hh hit hl hx fun h' x he' hx' => ?_)
  obtain ⟨o, ho, hc⟩ := hx'
  refine wpAny_bind (wpAny_isInstance (T := "StopIteration") (b := true) ⟨o, ho, hc⟩ isSubtype_stop ?_)
  exact wpAny_pure (hQ _ he')
/-- the tuple at a, each item in a new pair -/
def IteT (K : PySem.W.Frag) (a : Addr) : It :=
  ⟨fun i H => ∃ (xs : List V) (x : V), SqT K H a xs ∧ xs[i]? = some x, fun i H v H' => ∃ T x, v = .ref T ∧ H T = none ∧ H' = upd H T (.tup [.int (i : Nat), x]) ∧ ∀ xs, SqT K H a xs → xs[i]? = some x, fun i H => ∃ xs : List V, SqT K H a xs ∧ xs.length ≤ i⟩
theorem turn_enumT {P : Program} {w : World} {K : PySem.W.Frag} {elts : List Expr} {kk : Nat} {tpos : Pos} (a e it : Addr) :
    Turn P w K (.Tuple elts kk tpos) (IteT K a) [e, it] e (fun i h => (∃ old, IsEnum h e it ((i : Nat) : Int) old) ∧ h.IsTupleIter it a i ∧ e ≠ it ∧ a ≠ it ∧ a ≠ e) where
  mem := by simp
  obj := fun i h st b hb => by
    obtain ⟨⟨old, he⟩, ⟨o, ho, hc, hd⟩, _⟩ := st
    have e' : b = e ∨ b = it := by simpa using hb
    rcases e' with z | z
    · rw [z]; exact ⟨_, he, fun v q => nomatch q⟩
    · rw [z]; exact ⟨o, ho, fun v q => by rw [hd] at q; cases q⟩
  keep := fun i h h' st k => let ⟨⟨old, he⟩, hi, hne⟩ := st; ⟨⟨old, k e (by simp) _ he⟩, hi.at fun o q => k it (by simp) o q, hne⟩
  item := by
    intro X hP hw hK hc i pins s σ H E I hf st hg
    subst hP hw hK
    obtain ⟨⟨old, he⟩, hit, hne, hai, hae⟩ := st
    obtain ⟨xs, x, hq, hx⟩ := hg
    obtain ⟨its, rv, p, hz⟩ := I.tuple hq
    obtain ⟨u, hu, ru⟩ := rv.get hx
    have hel : e < s.heap.objs.size := Heap.lt_size he
    have hil : it < s.heap.objs.size := by obtain ⟨_, q, _⟩ := hit; exact Heap.lt_size q
    have hlt : i < its.toArray.size := by
      have := (List.getElem?_eq_some_iff.mp hu).1
      simpa using this
    have D := Draws.tuple (prog := X.prog) (w := X.w) (A := X.A.in1) (I.ok.hd hc) it a hai its.toArray
    refine wpAny_pyNext_enum_itemD D he ⟨hit, p⟩ hlt hne (by simp [hne, Ne.symm hae]) fun x' h' tk hx' ho hst' hT hsz hk => ?_
    have ex : x' = u := by
      have h1 : its.toArray[i]? = some x' := hx'
      have h2 : its.toArray[i]? = some u := by simpa using hu
      rw [h2] at h1
      exact (Option.some.inj h1).symm
    subst ex
    obtain ⟨hit', _⟩ := hst'
    refine ⟨_, rfl, wpAny_letOwnedTupleGo_enum (s := { s with heap := h', toks := tk + 1 }) ho fun h'' he' sb => ?_⟩
    have hT2 : h''.get? s.heap.objs.size = some { cls := .type "tuple", data := .seq #[.int i tk, x'] } := (sb.2 _ (Nat.ne_of_gt hel)).trans hT
    have new : ObjOk X.prog X.w (upd H s.heap.objs.size (.tup [.int (i : Nat), x])) h'' s.heap.objs.size (.tup [.int (i : Nat), x]) :=
      ⟨by show 2 ≤ sizeLine; decide, [.int i tk, x'], .cons ⟨_, rfl⟩ (.cons ru .nil), ⟨_, hT2, rfl, _, rfl⟩⟩
    have I1 : Inv X pins σ (upd H s.heap.objs.size (.tup [.int (i : Nat), x])) { s with heap := h'', toks := tk + 1 } :=
      I.turnedNew (ch := [e, it]) (fun b ob hb q => (sb.2 b (fun z => hb (by simp [z]))).trans (hk b ob (fun z => hb (by simp [z])) (fun z => hb (by simp [z])) q)) hf (Nat.le_refl _) new
    refine ⟨.ref s.heap.objs.size, _, I1, rfl, ⟨_, x, rfl, I.hok.fresh (Nat.le_refl _), rfl, fun ys hy => by rw [I.tuple_inj hy hq]; exact hx⟩, ⟨⟨x', ?_⟩, hit'.at fun o q => (sb.2 it (Ne.symm hne)).trans q, hne, hai, hae⟩, fun b hb => ?_⟩
    · have e1 : ((i + 1 : Nat) : Int) = (i : Int) + 1 := by omega
      rw [e1]; exact he'
    · have hb' : b < s.heap.objs.size := by
        have e' : b = e ∨ b = it := by simpa using hb
        rcases e' with z | z
        · rw [z]; exact hel
        · rw [z]; exact hil
      rw [upd_ne (Nat.ne_of_lt hb')]
      exact (hf b hb).1
  done := by
    intro X hP hw hK hc i pins s σ H E I hf st hg
    subst hP hw hK
    obtain ⟨⟨old, he⟩, hit, hne, hai, hae⟩ := st
    obtain ⟨xs, hq, hx⟩ := hg
    obtain ⟨its, rv, p, hz⟩ := I.tuple hq
    obtain ⟨f0, f1, f2, f3, f4, f5⟩ := hf it (by simp)
    have hl := rv.length
    refine enumT_end (I.ok.hd hc) he hit p (by simp; omega) fun h' eb => ⟨rfl, I.turned (t' := s.toks) (fun b o hb q => eb b o hb q) f0 f1 f3 f4 f5⟩
  self := fun A i s Q E st h => let ⟨⟨_, he⟩, _⟩ := st; wpAny_pyIter_enum he h
def iEnumT (K : PySem.W.Frag) (ta : TA) : TI := fun σ H R => ta σ H fun vs H1 => ∃ a xs, vs = [.ref a] ∧ SqT K H1 a xs ∧ R (IteT K a) H1
theorem pi_enumT {X : Cx} {e : Expr} {ta : TA} {p pos tpos : Pos} {elts : List Expr} {kk : Nat} (hg : Gl X "enumerate") (hm : X.mg "enumerate" = none) (ha : PA X [e] ta) (hs : starEach [e] X.env = [(false, eval e X.env)] := by rfl) :
    PI X (.Tuple elts kk tpos) (.Call (.Name "enumerate" p) [e] [] pos) (iEnumT X.K ta) := by
  refine ⟨fun pins s σ H R I h => ?_⟩
  refine Call_ (ld_blt I hg hm boot_enumerate (PyProof.Rows.callWith_type1 (thn (ha.run pos pins s σ H _ I h) fun us s1 ⟨vs, H1, I1, r1, q1⟩ => ?_) hs rfl))
  obtain ⟨a, xs, ex, hq, q⟩ := q1
  subst ex
  cases r1 with
  | cons r rr =>
    cases rr
    cases r
    obtain ⟨its, rv, p', hz⟩ := I1.tuple hq
    have hlt : a < s1.heap.objs.size := by
      obtain ⟨o, ho, _⟩ := id p'
      exact Heap.lt_size ho
    refine enum1 (begins_tuple a its.toArray) p' fun h' he hit hsz hk => wpAny_pyIter_enum he ?_
    have I2 : Inv X pins σ H1 { s1 with heap := h' } := I1.kept (t' := s1.toks) hk
    refine ⟨s1.heap.objs.size + 1, [s1.heap.objs.size + 1, s1.heap.objs.size], _, _, H1, rfl, I2, turn_enumT a (s1.heap.objs.size + 1) s1.heap.objs.size, ⟨⟨.none, he⟩, ⟨_, hit, rfl, rfl⟩, Nat.succ_ne_self _, Nat.ne_of_lt hlt, Nat.ne_of_lt (Nat.lt_succ_of_lt hlt)⟩, fun b hb => ?_, q⟩
    have e' : b = s1.heap.objs.size + 1 ∨ b = s1.heap.objs.size := by simpa using hb
    have hle : s1.heap.objs.size ≤ b := by
      rcases e' with z | z
      · rw [z]; exact Nat.le_add_right _ _
      · rw [z]; exact Nat.le_refl _
    exact I1.fpOk hle (I1.hok.fresh hle)
/-! ### sum, sorted of a tuple of ints -/
section
variable {X : Cx}
def rSumT (K : PySem.W.Frag) : List V → Hp → VK → Prop := fun vs H Q => ∃ (a : Addr) (ns : List Int), vs = [V.ref a] ∧ SqT K H a (ns.map V.int) ∧ Q (.int ns.sum) H
theorem cr_sumT (hc : X.calm = true) : CallR X (.builtin "sum") (rSumT X.K) := by
  intro pins s σ H vs us Q I r h
  obtain ⟨a, ns, rfl, hs, q⟩ := h
  obtain ⟨its, rv, hl, _⟩ := I.tuple hs
  rw [Vals.ref1 r]
  have hi := rv.ints
  obtain ⟨xs, hx⟩ := hi.allInts.items
  have hn : numsOf its.toArray.toList = ns := by rw [show its.toArray.toList = its from rfl, hi.numsOf]
  have hl' : s.heap.IsTuple a its.toArray := hl
  rw [hx] at hl' hn
  rw [nums_intItems] at hn
  refine PySem.W.ktm_sumG (I.ok.hd hc) hl' fun h' tk t' hk => ?_
  rw [preSum_eq, List.take_of_length_le (by simp), hn]
  exact ⟨.int _, H, I.kept hk, ⟨_, rfl⟩, q⟩
theorem sorted_intsT {prog : Program} {w : World} {A : Around} {E : Value → Shared → Prop} {s : Shared} {l : Addr} {vs : List Value} {ns : List Int} {Q : Value → Shared → Prop} (hl : s.heap.IsTuple l vs.toArray) (hI : IntsAre vs ns) (h64 : vs.length < 64)
    (h : ∀ (h1 h' : Heap) (out : Array Value) (ep : Nat) (ns' : List Int), (∀ b o, s.heap.get? b = some o → h1.get? b = some o) → (∀ b o, h1.get? b = some o → h'.get? b = some o) → h'.get? h1.objs.size = some (seqObj "list" out ep) → IntsAre out.toList ns' → ns'.Perm ns → ns'.Pairwise (· ≤ ·) → Q (.ref h1.objs.size) { s with heap := h' }) :
    wpAny (model prog w) A (call (.builtin "sorted") [.ref l]) Q E s := by
  refine Calls.call_function_entry kind_sorted plain_sorted entry_sorted (args_sorted1 _) ?_
  unfold Builtin.«sorted»
  refine wpAny_bind (m := checkCount "sorted" 1 1 _) (wpAny_pure ?_)
  obtain ⟨o, ho, hc, n, hd⟩ := id hl
  refine wpAny_bind (wpAny_collect_seq l (.inr rfl) ho hc hd (fun h1 hk => ?_) (by rw [List.size_toArray, sizeLine_eq]; omega))
  rw [show vs.toArray.toList = vs from rfl]
  refine wpAny_bind (wpAny_newList ?_)
  have hoL : (h1.push (seqObj "list" vs.toArray 0)).get? h1.objs.size = some (seqObj "list" vs.toArray 0) := Heap.get?_push_size _ rfl
  show wpAny _ _ _ _ _ { s with heap := h1.push (seqObj "list" vs.toArray 0) }
  refine wpAny_bind (wpAny_holding (wpAny_call_entry slot_list_sort ⟨_, hoL, rfl⟩ entry_list_sort (list_sort_tree hoL hI h64 fun out ns' a1 a2 a3 => ⟨_, rfl, ?_⟩) (args_list_sort _)))
  obtain ⟨ep, he⟩ := sortedHeap_at (out := out) hoL
  refine wpAny_pure ⟨_, rfl, h h1 _ out ep ns' hk (fun b ob e1 => ?_) he a1 a2 a3⟩
  have hb := Heap.lt_size e1
  rw [sortedHeap_old (Nat.ne_of_lt hb) (by rw [size_push']; exact Nat.lt_succ_of_lt hb), Heap.get?_push_ne _ _ _ (Nat.ne_of_lt hb)]
  exact e1
def rSortedT (K : PySem.W.Frag) : List V → Hp → VK → Prop := fun vs H Q => ∃ (a : Addr) (ns : List Int), vs = [V.ref a] ∧ SqT K H a (ns.map V.int) ∧ ns.length < 64 ∧
  ∀ (ns' : List Int) (p : Addr), ns'.Perm ns → ns'.Pairwise (· ≤ ·) → H p = none → Q (.ref p) (upd H p (.lst (ns'.map V.int)))
theorem cr_sortedT : CallR X (.builtin "sorted") (rSortedT X.K) := by
  intro pins s σ H vs us Q I r h
  obtain ⟨a, ns, rfl, hs, h64, q⟩ := h
  obtain ⟨its, rv, hl, _⟩ := I.tuple hs
  rw [Vals.ref1 r]
  have hi := rv.ints
  refine sorted_intsT hl hi (by rw [hi.length]; exact h64) fun h1 h' out ep ns' k1 k2 he a1 a2 a3 => ?_
  have I1 : Inv X pins σ H { s with heap := h1 } := I.kept (t' := s.toks) k1
  have hlen : (ns'.map V.int).length ≤ sizeLine := by rw [List.length_map, a2.length_eq]; exact small64 h64
  exact ⟨.ref _, upd H h1.objs.size (.lst (ns'.map V.int)), I1.laid (t' := s.toks) k2 (Nat.le_refl _) ⟨hlen, out.toList, ep, vals_of_ints a1, he⟩, rfl, q ns' _ a2 a3 (I1.hok.fresh (Nat.le_refl _))⟩
/-! ### tuple * 1 -/
theorem tuple_mul1 (l : Addr) (items : Array Value) (n : Nat) (dd : Option Addr) (sl : Array (Option Value)) (u : Tok) :
    Meets (Builtin.«tuple.__mul__» ⟨[.ref l, .int 1 u], []⟩) (fun _ R s => s.heap.get? l = some { cls := .type "tuple", dict := dd, data := .seq items n, slots := sl } ∧ R (.ok (.ret (Value.ref l))) s) :=
  .of_wp fun prog w A R s h => by
    obtain ⟨hp, g, d, tk, os⟩ := s
    obtain ⟨hl, h⟩ := h
    have f1 := AutoSeq1.idx_int
    have c1 : (items.isEmpty || (1 : Int) == 1) = true := by simp
    wp_walk using AutoSeq1.wpAny_loadPart' hl
    repeat (first
      | (refine wpAny_ite_false (by decide) ?_; wp_walk using AutoSeq1.wpAny_loadPart' hl)
      | (refine wpAny_ite_true (by rw [c1]) ?_; wp_walk using AutoSeq1.wpAny_loadPart' hl))
    exact ⟨_, rfl, h⟩
def rRep1 (K : PySem.W.Frag) : R2 := fun x y H Q => ∃ l k xs, x = .ref l ∧ y = .int k ∧ SqT K H l xs ∧ ((k = 1 ∧ Q (.ref l) H) ∨ (xs ≠ [] ∧ 2 ≤ k ∧ k ≤ 1000 ∧ xs.length ≤ 1000 ∧ ∀ p, H p = none → Q (.ref p) (upd H p (.tup (List.replicate k.toNat xs).flatten))))
theorem op_rep1 : OpR X (binaryOp .Mult) (rRep1 X.K) := by
  intro pins s σ H x y v u Q I rx ry h
  obtain ⟨l, k, xs, rfl, rfl, hT, h | ⟨hne, h1, h2, hz, q⟩⟩ := h
  · obtain ⟨rfl, q⟩ := h
    cases rx
    obtain ⟨t, rfl⟩ := ry
    obtain ⟨its, r, ⟨⟨cls, dd, data, sl⟩, ho, hc, n, hd⟩, hs⟩ := I.tuple hT
    simp only at hc hd
    subst hc hd
    exact wpAny_binaryOp_repeat_ref (T := "tuple") (U := "int") (by decide) ⟨_, ho, rfl⟩ (fun s' => typeIs_int s' 1 t) noFill_tuple_mul F.fills_int_mul F.slot_int_rmul repeat_tuple F.slot_int_index.lookup
      (call_meets F.slot_int_rmul (typeIs_int s 1 t) F.entry_int_rmul (F.args_int_rmul_2 _ _) (int_rmul_tuple 1 t l its.toArray n dd sl)
        ⟨ho, rfl, ⟨_, ho, rfl⟩, call_meets F.slot_tuple_mul ⟨_, ho, rfl⟩ F.entry_tuple_mul (F.args_tuple_mul_2 _ _) (tuple_mul1 l its.toArray n dd sl t) ⟨ho, ⟨.ref l, H, I, rfl, q⟩⟩⟩)
  · exact op_repT pins s σ H _ _ v u Q I rx ry ⟨l, k, xs, rfl, rfl, hT, hne, h1, h2, hz, q⟩
end
end DLX
set_option maxHeartbeats 1000000
/-! The data layer: more rules. -/
namespace DL
open PySem PySem.Spec PyProof.Rows L2
def tyD : PyData → String
  | .none => "NoneType"
  | .bool _ => "bool"
  | .int _ => "int"
  | .str _ => "str"
  | .list _ => "list"
  | .tuple _ => "tuple"
  | .dict _ => "dict"
def isT (d : PyData) (T : String) : Bool := tyD d == T || (tyD d == "bool" && T == "int")
def okT (T : String) : Bool := T == "int" || T == "bool" || T == "str" || T == "list" || T == "tuple"
section
variable {K : PySem.W.Frag} {M : Addr → Prop} {Hb0 H0 Hb H Hb1 H1 : Hp} {σ : L2.St} {ds : Scs} {rs rs' rsF : Rss} {te ta tb ti to : TE} {t u : TS} {c c1 c2 : Sc} {d : PyData} {P : Pst} {a : Addr}
theorem sqT_ty {a : Addr} {xs : List V} (h : SqT K H a xs) : TyX K H (.ref a) (.type "tuple") := by
  rcases h with (h | ⟨o, h⟩) | ⟨o, its, n, e, hc, _⟩
  · exact .base (.tup h)
  · exact .fTuple h
  · exact .kTuple e hc
theorem tyX_of {v : V} (s : Same Hb H) (r : Dr K Hb v d) : TyX K H v (.type (tyD d)) := by
  cases r with
  | non => exact .base .non
  | bl b => exact .base (.bl b)
  | int i => exact .base (.int i)
  | lst h _ => exact .base (.lst (s _ _ h))
  | tup h _ => exact sqT_ty (sqT_up s h)
theorem kit_d {v : V} {T : String} (r : Dr K Hb v d) (hT : okT T = true) : PySem.W.kitOne K (.type (tyD d)) (.type T) = some (isT d T) := by
  have hT : (((T = "int" ∨ T = "bool") ∨ T = "str") ∨ T = "list") ∨ T = "tuple" := by simpa [okT] using hT
  cases r <;> rcases hT with (((rfl | rfl) | rfl) | rfl) | rfl <;> exact kit_ty (by simp only [isT, tyD]; decide +kernel)
theorem ec_isi {T : String} (h : EvC K te ds rs (.val d)) (hT : okT T = true) : EvC K (tCB (rIsi K) (tCons te (tCons (tC (.ty T)) tNil))) ds rs (.val (.bool (isT d T))) := fun Hb H σ S Q k =>
  h Hb H σ S _ fun v Hb1 H1 g r => ⟨v, .ty T, .type (tyD d), .type T, isT d T, rfl, .ty T, tyX_of g.sub r, kit_d r hT, k _ Hb1 H1 g (.bl _)⟩
theorem ec_isiT2 {T1 T2 : String} (h : EvC K te ds rs (.val d)) (h1 : okT T1 = true) (h2 : okT T2 = true) : EvC K (tCB (rIsiT K) (tCons te (tCons (tTup (tCons (tC (.ty T1)) (tCons (tC (.ty T2)) tNil))) tNil))) ds rs (.val (.bool (isT d T1 || isT d T2))) := fun Hb H σ S Q k =>
  h Hb H σ S _ fun v Hb1 H1 g r => by
    refine ⟨by show 2 ≤ sizeLine; decide, fun p hp => ?_⟩
    have g2 := Gr.own g.sub (.tup [.ty T1, .ty T2]) hp
    refine ⟨v, p, [.ty T1, .ty T2], .type (tyD d), [.type T1, .type T2], isT d T1 || isT d T2, rfl, upd_same, .cons (.ty T1) (.cons (.ty T2) .nil), tyX_of g2.sub r, ?_, k _ Hb1 _ (g.trans g2) (.bl _)⟩
    refine kitAny_cons (kit_d r h1) (fun e => kitAny_cons (b := isT d T2) (kit_d r h2) (fun e2 => ?_) fun e2 => by rw [e2]; simp) fun e => by rw [e]; rfl
    rw [e, e2]
    rfl
theorem ec_isiC {C dx : Addr} {fs : List (Str × PyData)} (h : EvC K te ds rs (.raw (.ref a))) (hm : (a, .ins C dx fs) ∈ rs) : EvC K (tCB (fun xs H Q => ∃ a dx fs, xs = [.ref a, .ref C] ∧ H a = some (.ins C dx fs) ∧ Q (.bl true) H) (tCons te (tCons (tC (.ref C)) tNil))) ds rs (.val (.bool true)) := fun Hb H σ S Q k =>
  h Hb H σ S _ fun v Hb1 H1 g r => by
    have e1 : v = .ref a := r
    subst e1
    obtain ⟨ws, hw, _⟩ := ins_at (S.up g) hm
    exact ⟨a, dx, ws, rfl, hw, k _ Hb1 H1 g (.bl _)⟩
theorem sqT_ints {a : Addr} {ns : List Int} {v : V} (s : Same Hb H) (r : Dr K Hb v (.tuple (ns.map .int))) : ∃ a, v = .ref a ∧ SqT K H a (ns.map V.int) := by
  cases r with
  | tup h1 h2 =>
    rw [h2.to_ints] at h1
    exact ⟨_, rfl, sqT_up s h1⟩
theorem rv_ltT {ns ms : List Int} : RvC K (rLtT K) (.val (.tuple (ns.map .int))) (.val (.tuple (ms.map .int))) (.val (.bool (HT.lexLt ns ms))) := fun Hb H x y s r1 r2 Q k => by
  obtain ⟨a, rfl, h1⟩ := sqT_ints (a := 0) s r1
  obtain ⟨b, rfl, h2⟩ := sqT_ints (a := 0) s r2
  exact ⟨a, b, ns, ms, rfl, rfl, h1, h2, k _ Hb H (Gr.refl s) (.bl _)⟩
theorem inV_ints (i : Int) : ∀ ns : List Int, inV (.int i) (ns.map V.int) = ns.contains i
  | [] => rfl
  | n :: ns => by
    have ih := inV_ints i ns
    unfold inV at ih ⊢
    rw [List.map_cons, List.any_cons, ih, List.contains_cons]
    show ((n == i) || _) = _
    rw [show (n == i) = (i == n) from by rw [Bool.eq_iff_iff, beq_iff_eq, beq_iff_eq]; exact ⟨Eq.symm, Eq.symm⟩]
theorem flat_ints : ∀ ns : List Int, (ns.map V.int).all flatV = true
  | [] => rfl
  | n :: ns => by rw [List.map_cons, List.all_cons, flat_ints ns]; rfl
theorem rv_inT {i : Int} {ns : List Int} : RvC K (rIn K false) (.val (.int i)) (.val (.tuple (ns.map .int))) (.val (.bool (ns.contains i))) := fun Hb H x y s r1 r2 Q k => by
  cases r1
  obtain ⟨b, rfl, h2⟩ := sqT_ints (a := 0) s r2
  refine ⟨b, _, rfl, .inr h2, rfl, flat_ints ns, ?_⟩
  rw [inV_ints]
  exact k _ Hb H (Gr.refl s) (.bl _)
theorem rv_notinT {i : Int} {ns : List Int} : RvC K (rIn K true) (.val (.int i)) (.val (.tuple (ns.map .int))) (.val (.bool (!ns.contains i))) := fun Hb H x y s r1 r2 Q k => by
  cases r1
  obtain ⟨b, rfl, h2⟩ := sqT_ints (a := 0) s r2
  refine ⟨b, _, rfl, .inr h2, rfl, flat_ints ns, ?_⟩
  rw [inV_ints]
  exact k _ Hb H (Gr.refl s) (.bl _)
theorem ru_neg {i : Int} : RuC K (rU fun i => .int (-i)) (.val (.int i)) (.val (.int (-i))) := fun Hb H x s r Q k => by
  cases r
  exact ⟨i, rfl, k _ Hb H (Gr.refl s) (.int _)⟩
theorem rc_sumT {ns : List Int} : RcC K (DLX.rSumT K) [.val (.tuple (ns.map .int))] (.val (.int ns.sum)) := fun Hb H vs s r Q k => by
  obtain ⟨v, rfl, z⟩ := sc1 r
  obtain ⟨b, rfl, h2⟩ := sqT_ints (a := 0) s z
  exact ⟨b, ns, rfl, h2, k _ Hb H (Gr.refl s) (.int _)⟩
theorem rc_sortedT {ns ms : List Int} (h64 : ns.length < 64) (hm : ∀ z : List Int, z.Perm ns → z.Pairwise (· ≤ ·) → z = ms) : RcC K (DLX.rSortedT K) [.val (.tuple (ns.map .int))] (.val (.list (ms.map .int))) := fun Hb H vs s r Q k => by
  obtain ⟨v, rfl, z⟩ := sc1 r
  obtain ⟨b, rfl, h2⟩ := sqT_ints (a := 0) s z
  refine ⟨b, ns, rfl, h2, h64, fun u p h1 h2 hp => ?_⟩
  rw [hm u h1 h2]
  obtain ⟨g, r4⟩ := new_lst (K := K) s hp (DrAll.ints ms)
  exact k _ _ _ g r4
theorem rv_repT {x : PyData} {n : Int} (h0 : 1 ≤ n) (h1 : n ≤ 1000) : RvC K (DLX.rRep1 K) (.val (.tuple [x])) (.val (.int n)) (.val (.tuple (List.replicate n.toNat x))) := fun Hb H v y s r1 r2 Q k => by
  cases r2
  cases r1 with
  | tup e1 e2 =>
    by_cases e : n = 1
    · subst e
      exact ⟨_, 1, _, rfl, rfl, sqT_up s e1, .inl ⟨rfl, k _ Hb H (Gr.refl s) (.tup e1 e2)⟩⟩
    · have hl := e2.length
      refine ⟨_, n, _, rfl, rfl, sqT_up s e1, .inr ⟨fun z => by rw [z] at hl; simp at hl, by omega, h1, by rw [hl]; simp, fun p hp => ?_⟩⟩
      have z := e2.rep n.toNat
      have : (List.replicate n.toNat [x]).flatten = List.replicate n.toNat x := by simp
      rw [this] at z
      obtain ⟨g4, r4⟩ := new_tup s hp z
      exact k _ _ _ g4 r4
/-! ### walks -/
theorem it_enumT {ta : TA} {xs : List PyData} (h : EaC K ta ds rs [.val (.tuple xs)]) : ItC K (DLX.iEnumT K ta) ds rs (enumD xs) := fun Hb H σ S R k => h Hb H σ S _ fun vs Hb1 H1 g r => by
  obtain ⟨v, rfl, z⟩ := sc1 r
  cases z with
  | tup e1 e2 =>
    refine ⟨_, _, rfl, sqT_up g.sub e1, k _ Hb1 H1 g fun Hb' H' s1 s2 => ?_⟩
    have hq := sqT_up s2 (sqT_up s1 e1)
    refine ⟨⟨_, hq, by rw [e2.length]; unfold enumD; rw [List.length_map, List.length_range]; exact Nat.le_refl _⟩, fun i d hi => ?_⟩
    obtain ⟨h1, rfl⟩ := range_get hi
    obtain ⟨x, hx, rx⟩ := e2.get (getD_at h1)
    refine ⟨⟨_, x, hq, hx⟩, fun y H'' hy => ?_⟩
    obtain ⟨T, x2, rfl, hT, rfl, hy⟩ := hy
    have e3 := hy _ hq
    rw [hx] at e3
    cases e3
    exact new_pair s2 hT (.int _) (Dr.up s1 _ rx)
theorem it_zipL {ta : TA} {xs ys : List PyData} (h : EaC K ta ds rs [.val (.list xs), .val (.list ys)]) : ItC K (RZ.iZipA K ta) ds rs (zipD xs ys) := fun Hb H σ S R k => h Hb H σ S _ fun vs Hb1 H1 g r => by
  obtain ⟨v, w, rfl, z, z2⟩ := sc2 r
  cases z with
  | lst e1 e2 =>
    cases z2 with
    | lst f1 f2 =>
      refine ⟨_, _, _, _, rfl, .inl ⟨SqL.of (g.sub _ _ e1), SqL.of (g.sub _ _ f1), k _ Hb1 H1 g fun Hb' H' s1 s2 => ?_⟩⟩
      have hq := SqL.of (K := K) (s2 _ _ (s1 _ _ e1))
      have hq2 := SqL.of (K := K) (s2 _ _ (s1 _ _ f1))
      refine ⟨⟨_, _, hq, hq2, by rw [e2.length, f2.length]; unfold zipD; rw [List.length_map, List.length_range]; omega⟩, fun i d hi => ?_⟩
      obtain ⟨h1, rfl⟩ := range_get hi
      obtain ⟨x, hx, rx⟩ := e2.get (getD_at (show i < xs.length by omega))
      obtain ⟨y, hy, ry⟩ := f2.get (getD_at (show i < ys.length by omega))
      refine ⟨⟨_, _, x, y, hq, hq2, hx, hy⟩, fun z H'' hz => ?_⟩
      obtain ⟨T, x2, y2, rfl, hT, rfl, hz1, hz2⟩ := hz
      have e3 := hz1 _ hq
      rw [hx] at e3
      cases e3
      have e4 := hz2 _ hq2
      rw [hy] at e4
      cases e4
      exact new_pair s2 hT (Dr.up s1 _ rx) (Dr.up s1 _ ry)
/-! ### the frame rule -/
theorem em_frame {PP : Sc → Rss → Prop} (h : EvM K te ds rs PP) : EvM K te ds (rs ++ rsF) fun c rs' => ∃ rs2, rs' = rs2 ++ rsF ∧ PP c rs2 := fun M Hb0 H0 Hb σ H Q A k => by
  have S2 : Stt K Hb H σ ds rs := ⟨A.st.sub, A.st.len, A.st.slot, resR_app (List.Perm.refl _) A.st.res⟩
  refine h (adOf rs) Hb H Hb σ H Q ⟨GrM.refl A.st.sub, S2, fun x hx => .inr (List.mem_map_of_mem (f := fun y : Addr × Rs => y.1) hx)⟩ fun v Hb' H' c rs' A' r p => ?_
  exact k v Hb' H' c (rs' ++ rsF) (A.called A'.gr A'.st.res A'.own) r ⟨rs', rfl, p⟩
/-- a comprehension whose items change own objects -/
theorem em_lcO {α : Type} {wi : TI} {g : TG} {te : TE} {vs : List Nat} {PP : Sc → Rss → Prop} (as : List α) (enc : α → PyData) (hn : as.length ≤ 50000) (hi : ItC K wi ds rs (as.map enc)) (I : Nat → List PyData → Rss → Prop) (h0 : I 0 [] rs)
    (hs : ∀ i a acc rs', as[i]? = some a → acc.length = i → I i acc rs' → ∃ ds2, GtC K g vs (.val (enc a)) (wipeD ds vs) ds2 ∧ EvM K te ds2 rs' fun c rs2 => ∃ d, c = .val d ∧ I (i + 1) (acc ++ [d]) rs2)
    (hd : ∀ D acc rs', acc.length = as.length → I as.length acc rs' → PP (.raw (.ref D)) ((D, .lst acc) :: rs')) : EvM K (tLc wi g tYes te vs) ds rs PP := fun M Hb0 H0 Hb σ H Q A k =>
  hi Hb H σ A.st _ fun J Hb1 H1 g1 Y D hD => by
    have A1 := A.up g1
    have AD := (A1.new (r := .lst []) (o := .lst []) hD ⟨[], upd_same, .nil⟩).perm (List.perm_append_singleton (D, Rs.lst []) rs).symm
    refine ⟨fun i n H' => n = as.length - i ∧ i ≤ as.length ∧ ∃ Hb' acc rs', At K M Hb1 H0 Hb' σ H' ds (rs' ++ [(D, .lst acc)]) ∧ acc.length = i ∧ I i acc rs', ⟨as.length, by simp, Nat.zero_le _, Hb1, [], rs, AD.fwd, rfl, h0⟩, ?_⟩
    rintro i n H' ⟨rfl, hle, Hb', acc, rs', A', hlen, hI⟩
    obtain ⟨y1, y2⟩ := Y Hb' H' A'.gr.sup A'.st.sub
    by_cases hlt : i < as.length
    · have ea : as[i]? = some as[i] := List.getElem?_eq_getElem hlt
      have ex : (as.map enc)[i]? = some (enc as[i]) := by rw [List.getElem?_map, ea]; rfl
      obtain ⟨hgo, hy⟩ := y2 i _ ex
      obtain ⟨ds2, hg, he⟩ := hs i as[i] acc rs' ea hlen hI
      refine .inr ⟨hgo, fun H3 => i + 1 ≤ as.length ∧ ∃ Hb3 acc3 rs3, At K M Hb1 H0 Hb3 σ H3 ds (rs3 ++ [(D, .lst acc3)]) ∧ acc3.length = i + 1 ∧ I (i + 1) acc3 rs3, fun H3 ⟨hle3, z⟩ => ⟨as.length - (i + 1), by omega, rfl, hle3, z⟩, fun x H'' hyl => ?_⟩
      obtain ⟨Hb'', g3, rx⟩ := hy x H'' hyl
      have A2 := A'.up g3
      refine hg _ Hb'' H'' (wipe σ vs) x (A2.st.wiped vs) rx _ fun σ2 S3 hw => ⟨hw (wipe_wipe σ vs), ?_⟩
      show te σ2 H'' _
      have A3 : At K M Hb1 H0 Hb'' σ2 H'' ds2 (rs' ++ [(D, .lst acc)]) := ⟨A2.gr, S3, A2.own⟩
      refine em_frame he M Hb'' H0 Hb'' σ2 H'' _ A3.fwd fun y Hb4 H4 c rsX A4 ry p => ?_
      obtain ⟨rs2, rfl, d, rfl, hI2⟩ := p
      have A5 := A4.back A3.gr
      have A6 : At K M Hb1 H0 Hb4 σ H4 ds (rs2 ++ [(D, .lst acc)]) := ⟨A5.gr, ⟨A5.st.sub, A2.st.len, fun j o c h1 h2 => (A2.st.slot j o c h1 h2).up A4.gr.sup, A5.st.res⟩, A5.own⟩
      have A7 := A6.perm (List.perm_append_singleton (D, Rs.lst acc) rs2)
      obtain ⟨ws, hw2, rw_⟩ := A7.st.own List.mem_cons_self
      have A8 := A7.write (r' := .lst (acc ++ [d])) (o := .lst (ws ++ [y])) ⟨_, upd_same, rw_.append (.one ry)⟩
      refine ⟨ws, hw2, by rw [rw_.length]; exact Nat.lt_of_lt_of_le (by omega : acc.length < 100000) (line_of (Nat.le_refl _)), hlt, Hb4, acc ++ [d], rs2, A8.perm (List.perm_append_singleton _ rs2).symm, by simp [hlen], hI2⟩
    · have e : i = as.length := by omega
      subst e
      rw [List.length_map] at y1
      refine .inl ⟨y1, ?_⟩
      have A2 := A'.perm (List.perm_append_singleton (D, Rs.lst acc) rs')
      exact k _ Hb' H' (.raw (.ref D)) _ (A2.back A1.gr) rfl (hd D acc rs' hlen hI)
theorem em_frz {PP : Sc → Rss → Prop} (h : EvM K te ds rs fun c rs' => ∃ D xs rsF, c = .raw (.ref D) ∧ rs' = (D, .lst xs) :: rsF ∧ PP (.val (.list xs)) rsF) : EvM K te ds rs PP := fun M Hb0 H0 Hb σ H Q A k =>
  h M Hb0 H0 Hb σ H Q A fun v Hb' H' c rs' A' r p => by
    obtain ⟨D, xs, rsF, rfl, rfl, hp⟩ := p
    have e : v = .ref D := r
    subst e
    obtain ⟨Hb2, s2, r2, A2⟩ := A'.freeze
    exact k _ Hb2 H' (.val (.list xs)) rsF A2 r2 hp
theorem em_lcM {α : Type} {wi : TI} {g : TG} {te : TE} {vs : List Nat} {PP : Sc → Rss → Prop} (as : List α) (enc : α → PyData) (hn : as.length ≤ 50000) (hi : ItC K wi ds rs (as.map enc)) (I : Nat → List PyData → Rss → Prop) (h0 : I 0 [] rs)
    (hs : ∀ i a acc rs', as[i]? = some a → acc.length = i → I i acc rs' → ∃ ds2, GtC K g vs (.val (enc a)) (wipeD ds vs) ds2 ∧ EvM K te ds2 rs' fun c rs2 => ∃ d, c = .val d ∧ I (i + 1) (acc ++ [d]) rs2)
    (hd : ∀ acc rs', acc.length = as.length → I as.length acc rs' → PP (.val (.list acc)) rs') : EvM K (tLc wi g tYes te vs) ds rs PP :=
  em_frz (em_lcO as enc hn hi I h0 hs fun D acc rs' h1 h2 => ⟨D, acc, rs', rfl, rfl, hd acc rs' h1 h2⟩)
/-- a pure comprehension: an own list -/
theorem em_lcP {α : Type} {wi : TI} {g : TG} {te : TE} {vs : List Nat} {PP : Sc → Rss → Prop} (as : List α) (enc : α → PyData) (f : α → PyData) (hn : as.length ≤ 50000) (hi : ItC K wi ds rs (as.map enc))
    (hs : ∀ a ∈ as, ∃ ds2, GtC K g vs (.val (enc a)) (wipeD ds vs) ds2 ∧ EvC K te ds2 rs (.val (f a))) (hd : ∀ D, PP (.raw (.ref D)) ((D, .lst (as.map f)) :: rs)) : EvM K (tLc wi g tYes te vs) ds rs PP :=
  em_lcO as enc hn hi (fun i acc rs' => rs' = rs ∧ acc = (as.take i).map f) ⟨rfl, rfl⟩ (fun i a acc rs' ha hl ⟨e1, e2⟩ => by
    subst e1
    obtain ⟨ds2, h1, h2⟩ := hs a (List.mem_of_getElem? ha)
    refine ⟨ds2, h1, em_of h2 ⟨f a, rfl, rfl, ?_⟩⟩
    have etake : as.take (i + 1) = as.take i ++ [a] := by rw [List.take_add_one, ha]; rfl
    rw [etake, List.map_append, e2]; rfl) fun D acc rs' _ ⟨e1, e2⟩ => by
    rw [e1, e2, List.take_length]
    exact hd D
end
end DL
set_option maxHeartbeats 0
namespace FT
open PySem PySem.Spec PyProof.Rows L2
def top (i : Nat) : Stmt := PySem.Challenge.pw_freetops_k63_whole_letters_one_by_one.main.body.getD i (.Pass ⟨0, 0, 0, 0⟩)
/-- a def of the text by a path to it -/
structure Df where
  at_ : PySem.W.Frag → Addr
  name : Str
  qual : Str
  st : Stmt
  dfl : List He.Dv
  kwd : List (Str × He.Dv)
def getterAt (K : PySem.W.Frag) (x f : Str) : Addr := match PySem.W.recIn K (He.ma K (He.ga K x) f) "property" with
  | some (.ref g :: _) => g
  | _ => 0
def initDefault (K : PySem.W.Frag) : Addr := He.dflAt ("LetterRoom", some "__init__") 0 K
def seenAt (K : PySem.W.Frag) (f : Addr) : He.FnW :=
  (K.lookup f).bind fun o => match o.data with
    | .func fd => some (fd.name, fd.qualname, fd.params, fd.body, fd.scope, fd.globals, fd.closure, fd.builtins)
    | _ => none
def Df.due (d : Df) : He.FnW := some (d.name, d.qual, defArgs d.st, .stmts (defBody d.st), defScope d.st, mainGlobals, [], builtinsNs)
def okAt (K : PySem.W.Frag) (d : Df) : Bool :=
  PySem.W.keepIn K (.ref (d.at_ K)) && (match K.lookup (d.at_ K) with
    | some o => (match o.data with
      | .func fd => PySem.W.codeIn K fd.code d.qual && (He.dflB K fd.defaults (d.dfl.map (He.Dv.v K)) && He.kwdB K fd.kwdefaults (d.kwd.map fun q => (q.1, q.2.v K)))
      | _ => false)
    | none => false)
/-! ### the statements of the top that the law reaches -/
abbrev st_is_integer : Stmt := top 13
abbrev st_is_number : Stmt := top 14
abbrev st_is_prime : Stmt := top 15
abbrev st_is_residue : Stmt := top 16
abbrev st_inverse : Stmt := top 17
abbrev st_form_of : Stmt := top 20
abbrev st_add : Stmt := top 21
abbrev st_subtract : Stmt := top 22
abbrev st_multiply : Stmt := top 23
abbrev st_scaled : Stmt := top 24
abbrev st_unit_row : Stmt := top 29
abbrev st_subtract_rows : Stmt := top 30
abbrev st_row_times : Stmt := top 31
abbrev st_level_of : Stmt := top 32
abbrev st_height_of : Stmt := top 33
abbrev st_is_column : Stmt := top 36
abbrev st_grown_base : Stmt := top 37
abbrev st_heights_of_base : Stmt := top 38
abbrev st_lifts_of_width : Stmt := top 70
abbrev st_has_constant : Stmt := top 71
abbrev st_least_of_base : Stmt := top 72
abbrev st_gap_at : Stmt := top 73
abbrev st_next_base : Stmt := top 74
abbrev st_all_bases : Stmt := top 75
abbrev st_low_rows : Stmt := top 78
abbrev st_padded : Stmt := top 79
abbrev st_rule_and_changes : Stmt := top 80
abbrev st_told_by : Stmt := top 81
abbrev st_sure_column : Stmt := top 82
abbrev st_law_bag : Stmt := top 84
abbrev st_law_draw : Stmt := top 85
abbrev st_law_of : Stmt := top 86
abbrev st_law_same : Stmt := top 87
abbrev st_law_prime : Stmt := top 88
abbrev st_law_inverse : Stmt := top 89
abbrev st_law_column : Stmt := top 90
abbrev st_law_is_number : Stmt := top 91
abbrev st_law_tells : Stmt := top 92
abbrev st_law_ruled : Stmt := top 93
abbrev st_law_pivots : Stmt := top 94
abbrev st_law_least : Stmt := top 95
abbrev st_law_put : Stmt := top 96
abbrev st_law_columns : Stmt := top 97
abbrev st_law_good : Stmt := top 98
abbrev st_law_jumps : Stmt := top 99
abbrev st_law_two_walks : Stmt := top 100
abbrev st_law : Stmt := top 101
abbrev sr_init : Stmt := inClass (top 76) 0
abbrev sr_heights : Stmt := inClass (top 76) 1
abbrev sr_least_order : Stmt := inClass (top 76) 2
abbrev sr_put : Stmt := inClass (top 76) 3
abbrev sr_take_back : Stmt := inClass (top 76) 4
abbrev sr_columns : Stmt := inClass (top 76) 5
abbrev sr_walk : Stmt := inClass (top 76) 7
abbrev sr_eq : Stmt := inClass (top 76) 10
/-! ### where the defs stand -/
def df_is_integer : Df := ⟨fun K => He.ga K "is_integer", "is_integer", "is_integer", st_is_integer, [], []⟩
def df_is_number : Df := ⟨fun K => He.ga K "is_number", "is_number", "is_number", st_is_number, [], []⟩
def df_is_prime : Df := ⟨fun K => He.ga K "is_prime", "is_prime", "is_prime", st_is_prime, [], []⟩
def df_is_residue : Df := ⟨fun K => He.ga K "is_residue", "is_residue", "is_residue", st_is_residue, [], []⟩
def df_inverse : Df := ⟨fun K => He.ga K "inverse", "inverse", "inverse", st_inverse, [], []⟩
def df_form_of : Df := ⟨fun K => He.ga K "form_of", "form_of", "form_of", st_form_of, [], []⟩
def df_add : Df := ⟨fun K => He.ga K "add", "add", "add", st_add, [], []⟩
def df_subtract : Df := ⟨fun K => He.ga K "subtract", "subtract", "subtract", st_subtract, [], []⟩
def df_multiply : Df := ⟨fun K => He.ga K "multiply", "multiply", "multiply", st_multiply, [], []⟩
def df_scaled : Df := ⟨fun K => He.ga K "scaled", "scaled", "scaled", st_scaled, [], []⟩
def df_unit_row : Df := ⟨fun K => He.ga K "unit_row", "unit_row", "unit_row", st_unit_row, [], []⟩
def df_subtract_rows : Df := ⟨fun K => He.ga K "subtract_rows", "subtract_rows", "subtract_rows", st_subtract_rows, [], []⟩
def df_row_times : Df := ⟨fun K => He.ga K "row_times", "row_times", "row_times", st_row_times, [], []⟩
def df_level_of : Df := ⟨fun K => He.ga K "level_of", "level_of", "level_of", st_level_of, [], []⟩
def df_height_of : Df := ⟨fun K => He.ga K "height_of", "height_of", "height_of", st_height_of, [], []⟩
def df_is_column : Df := ⟨fun K => He.ga K "is_column", "is_column", "is_column", st_is_column, [], []⟩
def df_grown_base : Df := ⟨fun K => He.ga K "grown_base", "grown_base", "grown_base", st_grown_base, [], []⟩
def df_heights_of_base : Df := ⟨fun K => He.ga K "heights_of_base", "heights_of_base", "heights_of_base", st_heights_of_base, [], []⟩
def df_lifts_of_width : Df := ⟨fun K => He.ga K "lifts_of_width", "lifts_of_width", "lifts_of_width", st_lifts_of_width, [], []⟩
def df_has_constant : Df := ⟨fun K => He.ga K "has_constant", "has_constant", "has_constant", st_has_constant, [], []⟩
def df_least_of_base : Df := ⟨fun K => He.ga K "least_of_base", "least_of_base", "least_of_base", st_least_of_base, [], []⟩
def df_gap_at : Df := ⟨fun K => He.ga K "gap_at", "gap_at", "gap_at", st_gap_at, [], []⟩
def df_next_base : Df := ⟨fun K => He.ga K "next_base", "next_base", "next_base", st_next_base, [], []⟩
def df_all_bases : Df := ⟨fun K => He.ga K "all_bases", "all_bases", "all_bases", st_all_bases, [], []⟩
def df_low_rows : Df := ⟨fun K => He.ga K "low_rows", "low_rows", "low_rows", st_low_rows, [], []⟩
def df_padded : Df := ⟨fun K => He.ga K "padded", "padded", "padded", st_padded, [], []⟩
def df_rule_and_changes : Df := ⟨fun K => He.ga K "rule_and_changes", "rule_and_changes", "rule_and_changes", st_rule_and_changes, [], []⟩
def df_told_by : Df := ⟨fun K => He.ga K "told_by", "told_by", "told_by", st_told_by, [], []⟩
def df_sure_column : Df := ⟨fun K => He.ga K "sure_column", "sure_column", "sure_column", st_sure_column, [], []⟩
def df_law_bag : Df := ⟨fun K => He.ga K "_law_bag", "_law_bag", "_law_bag", st_law_bag, [], []⟩
def df_law_draw : Df := ⟨fun K => He.ga K "_law_draw", "_law_draw", "_law_draw", st_law_draw, [], []⟩
def df_law_of : Df := ⟨fun K => He.ga K "_law_of", "_law_of", "_law_of", st_law_of, [], []⟩
def df_law_same : Df := ⟨fun K => He.ga K "_law_same", "_law_same", "_law_same", st_law_same, [], []⟩
def df_law_prime : Df := ⟨fun K => He.ga K "_law_prime", "_law_prime", "_law_prime", st_law_prime, [], []⟩
def df_law_inverse : Df := ⟨fun K => He.ga K "_law_inverse", "_law_inverse", "_law_inverse", st_law_inverse, [], []⟩
def df_law_column : Df := ⟨fun K => He.ga K "_law_column", "_law_column", "_law_column", st_law_column, [], []⟩
def df_law_is_number : Df := ⟨fun K => He.ga K "_law_is_number", "_law_is_number", "_law_is_number", st_law_is_number, [], []⟩
def df_law_tells : Df := ⟨fun K => He.ga K "_law_tells", "_law_tells", "_law_tells", st_law_tells, [], []⟩
def df_law_ruled : Df := ⟨fun K => He.ga K "_law_ruled", "_law_ruled", "_law_ruled", st_law_ruled, [], []⟩
def df_law_pivots : Df := ⟨fun K => He.ga K "_law_pivots", "_law_pivots", "_law_pivots", st_law_pivots, [], []⟩
def df_law_least : Df := ⟨fun K => He.ga K "_law_least", "_law_least", "_law_least", st_law_least, [], []⟩
def df_law_put : Df := ⟨fun K => He.ga K "_law_put", "_law_put", "_law_put", st_law_put, [], []⟩
def df_law_columns : Df := ⟨fun K => He.ga K "_law_columns", "_law_columns", "_law_columns", st_law_columns, [], []⟩
def df_law_good : Df := ⟨fun K => He.ga K "_law_good", "_law_good", "_law_good", st_law_good, [], []⟩
def df_law_jumps : Df := ⟨fun K => He.ga K "_law_jumps", "_law_jumps", "_law_jumps", st_law_jumps, [], []⟩
def df_law_two_walks : Df := ⟨fun K => He.ga K "_law_two_walks", "_law_two_walks", "_law_two_walks", st_law_two_walks, [], []⟩
def df_law : Df := ⟨fun K => He.ga K "law", "law", "law", st_law, [], []⟩
def df_room_init : Df := ⟨fun K => He.ma K (He.ga K "LetterRoom") "__init__", "__init__", "LetterRoom.__init__", sr_init, [.adr initDefault], [("widest", .int 3)]⟩
def df_room_heights : Df := ⟨fun K => getterAt K "LetterRoom" "heights", "heights", "LetterRoom.heights", sr_heights, [], []⟩
def df_room_least_order : Df := ⟨fun K => getterAt K "LetterRoom" "least_order", "least_order", "LetterRoom.least_order", sr_least_order, [], []⟩
def df_room_put : Df := ⟨fun K => He.ma K (He.ga K "LetterRoom") "put", "put", "LetterRoom.put", sr_put, [], []⟩
def df_room_take_back : Df := ⟨fun K => He.ma K (He.ga K "LetterRoom") "take_back", "take_back", "LetterRoom.take_back", sr_take_back, [], []⟩
def df_room_columns : Df := ⟨fun K => He.ma K (He.ga K "LetterRoom") "columns", "columns", "LetterRoom.columns", sr_columns, [], []⟩
def df_room_walk : Df := ⟨fun K => He.ma K (He.ga K "LetterRoom") "walk", "walk", "LetterRoom.walk", sr_walk, [], []⟩
def df_room_eq : Df := ⟨fun K => He.ma K (He.ga K "LetterRoom") "__eq__", "__eq__", "LetterRoom.__eq__", sr_eq, [], []⟩
def dfs : List Df := [df_is_integer, df_is_number, df_is_prime, df_is_residue, df_inverse, df_form_of, df_add, df_subtract, df_multiply, df_scaled, df_unit_row, df_subtract_rows, df_row_times, df_level_of, df_height_of, df_is_column, df_grown_base, df_heights_of_base, df_lifts_of_width, df_has_constant, df_least_of_base, df_gap_at, df_next_base, df_all_bases, df_low_rows, df_padded, df_rule_and_changes, df_told_by, df_sure_column, df_law_bag, df_law_draw, df_law_of, df_law_same, df_law_prime, df_law_inverse, df_law_column, df_law_is_number, df_law_tells, df_law_ruled, df_law_pivots, df_law_least, df_law_put, df_law_columns, df_law_good, df_law_jumps, df_law_two_walks, df_law, df_room_init, df_room_heights, df_room_least_order, df_room_put, df_room_take_back, df_room_columns, df_room_walk, df_room_eq]
def fas : List He.Fa := [.glo "is_integer", .glo "is_number", .glo "is_prime", .glo "is_residue", .glo "inverse", .glo "form_of", .glo "add", .glo "subtract", .glo "multiply", .glo "scaled", .glo "unit_row", .glo "subtract_rows", .glo "row_times", .glo "level_of", .glo "height_of", .glo "is_column", .glo "grown_base", .glo "heights_of_base", .glo "lifts_of_width", .glo "has_constant", .glo "least_of_base", .glo "gap_at", .glo "next_base", .glo "all_bases", .glo "low_rows", .glo "padded", .glo "rule_and_changes", .glo "told_by", .glo "sure_column", .glo "_law_bag", .glo "_law_draw", .glo "_law_of", .glo "_law_same", .glo "_law_prime", .glo "_law_inverse", .glo "_law_column", .glo "_law_is_number", .glo "_law_tells", .glo "_law_ruled", .glo "_law_pivots", .glo "_law_least", .glo "_law_put", .glo "_law_columns", .glo "_law_good", .glo "_law_jumps", .glo "_law_two_walks", .glo "law", .glo "LetterRoom", .int "MOST_COLUMNS" 60, .free "isinstance", .free "all", .free "len", .free "tuple", .free "range", .free "zip", .free "enumerate", .free "sorted", .free "min", .free "list", .free "sum", .free "any", .free "abs", .free "reversed", .free "int", .free "bool", .free "str", .cls "LetterRoom", .mkr "LetterRoom", .noat "LetterRoom" "prime", .noat "LetterRoom" "width", .noat "LetterRoom" "kept_columns", .noat "LetterRoom" "kept_bases", .meth "LetterRoom" "put", .meth "LetterRoom" "take_back", .meth "LetterRoom" "columns", .meth "LetterRoom" "walk"]
/-! ### what stands behind the top, as facts -/
def FaP (K : PySem.W.Frag) (mg : PySem.Str → Option Value) : He.Fa → Prop
  | .glo x => mg x = some (.ref (He.ga K x))
  | .free x => mg x = none
  | .int x i => ∃ t, mg x = some (.int i t)
  | .cls x => Cls K (He.ga K x)
  | .mkr x => Mk K (He.ga K x) (He.ma K (He.ga K x) "__init__")
  | .noat x f => NoAttr K (He.ga K x) f
  | .meth x m => Meth K (He.ga K x) m (He.ma K (He.ga K x) m)
  | _ => True
def Std (K : PySem.W.Frag) (d : Df) : Prop := ∃ fd, FunD K d.name d.qual (defArgs d.st) (defBody d.st) (defScope d.st) (d.dfl.map (He.Dv.v K)) (d.kwd.map fun q => (q.1, q.2.v K)) (d.at_ K) fd
structure Tx (K : PySem.W.Frag) (mg : PySem.Str → Option Value) : Prop where
  fa : ∀ f ∈ fas, FaP K mg f
  df : ∀ d ∈ dfs, Std K d
theorem Tx.f {K : PySem.W.Frag} {mg : PySem.Str → Option Value} (T : Tx K mg) (i : Nat) {f : He.Fa} (h : fas[i]? = some f := by rfl) : FaP K mg f := T.fa f (List.mem_of_getElem? h)
theorem Tx.d {K : PySem.W.Frag} {mg : PySem.Str → Option Value} (T : Tx K mg) (i : Nat) {d : Df} (h : dfs[i]? = some d := by rfl) : Std K d := T.df d (List.mem_of_getElem? h)
open DL in
theorem cal_of {P : Program} {w : World} {K : PySem.W.Frag} {mg : PySem.Str → Option Value} {base : Heap} {d : Df} {x : PySem.Str} {N ps : List PySem.Str} {n k : Nat} {W : Wc} (h : Std K d) (hd : d.dfl = []) (hk : d.kwd = []) (hm : mg x = some (.ref (d.at_ K)))
    (S : FnScope N ps (defScope d.st)) (hb : ∀ (kV doc pm : Value) (an : Option Addr) (cdv ct : Value) (us : List Value), us.length = ps.length → bindArgs (PySem.W.fnOf d.name d.qual (defArgs d.st) (defBody d.st) (defScope d.st) .none kV doc pm an cdv ct) ⟨us, []⟩ = pure (ps.zip us))
    (hl : WcLen W ps.length) (hn : N.length - ps.length = n)
    (hbody : ∀ (cdv : Value) (A : Around) (outer : List Env) (s : Shared) (H : Hp) (E : XK), Room k (A.deeper (envOfC d.qual (defScope d.st) s.heap.objs.size (d.at_ K) cdv)) →
      ∃ t, PSs (cxOf CX0 P w K mg base N d.qual (defScope d.st) (d.at_ K) cdv A outer s H E).nox (defBody d.st) t ∧ ∀ cs rs Post, W cs rs Post → SdC K t (cs ++ List.replicate n .un) rs { nx := fun _ rs' => Post (.val .none) rs', rt := Post }) : C8.Cal P w K mg base (k + 1) x (Fn K W) [] := by
  obtain ⟨fd, F⟩ := h
  rw [hd, hk] at F
  refine ⟨d.at_ K, fd, ps, [], F.ok S (fn_len hl) fun cdv A outer s H vs Q E hr hsp => ?_, hm, F.kp, F.bindsN hb, .nil⟩
  obtain ⟨t, ht, hq⟩ := hbody cdv A outer s H E hr
  have hv := fn_len hl _ _ _ _ hsp
  exact ⟨t, ht.nox, fn_body hsp n (by rw [hv]; exact hn) hq⟩
end FT
set_option maxHeartbeats 1000000
namespace FT
open PySem PySem.Spec PyProof.Rows L2 DL FTM
/-! ### data -/
abbrev iL (xs : List Int) : List PyData := xs.map PyData.int
abbrev tupI (xs : List Int) : PyData := .tuple (iL xs)
abbrev lstI (xs : List Int) : PyData := .list (iL xs)
abbrev eR (row : FTM.Row) : PyData := .tuple (row.map tupI)
abbrev eB (base : Base) : PyData := .list (base.map eR)
abbrev eCs (cols : List (List Int)) : PyData := .list (cols.map tupI)
def isIntD (d : PyData) : Bool := isT d "int" && !isT d "bool"
def toI : PyData → Int
  | .int i => i
  | _ => 0
theorem int_of {d : PyData} (h : isIntD d = true) : ∃ i, d = .int i := by
  cases d with
  | int i => exact ⟨i, rfl⟩
  | none => exact absurd h (by decide)
  | bool b => exact absurd h (by simp [isIntD, isT, tyD])
  | str b => exact absurd h (by simp [isIntD, isT, tyD])
  | list b => exact absurd h (by simp [isIntD, isT, tyD])
  | tuple b => exact absurd h (by simp [isIntD, isT, tyD])
  | dict b => exact absurd h (by simp [isIntD, isT, tyD])
def numD (v : PyData) (a b : Int) : Bool := isIntD v && (decide (a ≤ toI v) && decide (toI v ≤ b))
theorem numD_int {i a b : Int} (h0 : a ≤ i) (h1 : i ≤ b) : numD (.int i) a b = true := by
  unfold numD
  rw [show isIntD (.int i) = true from by simp [isIntD, isT, tyD], show toI (.int i) = i from rfl, decide_eq_true h0, decide_eq_true h1]; rfl
theorem at_map {α : Type} {enc : α → PyData} {xs : List α} {j : Nat} (d : α) (h : j < xs.length) : atI (xs.map enc) (j : Int) = some (enc (xs.getD j d)) := by
  refine atI_at rfl ?_
  rw [List.getElem?_map, List.getElem?_eq_getElem h, List.getD_eq_getElem?_getD, List.getElem?_eq_getElem h]
  rfl
theorem at_mapI {α : Type} {enc : α → PyData} {xs : List α} {i : Int} {j : Nat} (d : α) (e : i = (j : Int)) (h : j < xs.length) : atI (xs.map enc) i = some (enc (xs.getD j d)) := by rw [e]; exact at_map d h
theorem getD_map {α : Type} {enc : α → PyData} {xs : List α} {j : Nat} (d : α) (h : j < xs.length) : (xs.map enc).getD j .none = enc (xs.getD j d) := by
  rw [List.getD_eq_getElem?_getD, List.getElem?_map, List.getElem?_eq_getElem h, List.getD_eq_getElem?_getD, List.getElem?_eq_getElem h]
  rfl
theorem enumD_map {α : Type} (enc : α → PyData) (xs : List α) (d : α) : enumD (xs.map enc) = (List.range xs.length).map fun i => pairD (.int (i : Nat)) (enc (xs.getD i d)) := by
  unfold enumD
  rw [List.length_map]
  refine List.map_congr_left fun i hi => ?_
  rw [getD_map d (List.mem_range.mp hi)]
theorem zipD_map {α β : Type} (enc : α → PyData) (enc2 : β → PyData) (xs : List α) (ys : List β) (d : α) (d2 : β) : zipD (xs.map enc) (ys.map enc2) = (List.range (min xs.length ys.length)).map fun i => pairD (enc (xs.getD i d)) (enc2 (ys.getD i d2)) := by
  unfold zipD
  rw [List.length_map, List.length_map]
  refine List.map_congr_left fun i hi => ?_
  have := List.mem_range.mp hi
  rw [getD_map d (by omega), getD_map d2 (by omega)]
theorem it_is {K : PySem.W.Frag} {wi : TI} {ds : Scs} {rs : Rss} {xs ys : List PyData} (h : ItC K wi ds rs xs) (e : xs = ys) : ItC K wi ds rs ys := e ▸ h
theorem map_iL {α : Type} (f : α → Int) (xs : List α) : xs.map (fun a => PyData.int (f a)) = iL (xs.map f) := by
  unfold iL; rw [List.map_map]; rfl
theorem range_map_getD {α β : Type} (f : α → β) (xs : List α) (d : α) : (List.range xs.length).map (fun i => f (xs.getD i d)) = xs.map f := by
  refine List.ext_getElem? fun i => ?_
  rw [List.getElem?_map, List.getElem?_map]
  by_cases h : i < xs.length
  · rw [List.getElem?_range h, List.getElem?_eq_getElem h]
    simp [List.getD_eq_getElem?_getD, List.getElem?_eq_getElem h]
  · rw [List.getElem?_eq_none_iff.mpr (by rw [List.length_range]; omega), List.getElem?_eq_none_iff.mpr (by omega)]; rfl
theorem sc_conv {K : PySem.W.Frag} {t : TS} {ds ds' : Scs} {rs : Rss} {P : Pst} (e : ds = ds') (h : SdC K t ds' rs P) : SdC K t ds rs P := e ▸ h
theorem cut_to {α : Type} {xs : List α} {n : Nat} (h : n ≤ xs.length) : DL.cutD xs none (some (n : Int)) = xs.take n := by
  unfold DL.cutD
  rw [HT.sIx_none, HT.sIx_nat, List.drop_zero, Nat.sub_zero, Nat.min_eq_left h]
theorem cut_from {α : Type} {xs : List α} {n : Nat} : DL.cutD xs (some (n : Int)) none = xs.drop n := by
  unfold DL.cutD
  rw [HT.sIx_none, HT.sIx_nat]
  by_cases h : n ≤ xs.length
  · rw [Nat.min_eq_left h, List.take_of_length_le (by rw [List.length_drop]; exact Nat.le_refl _)]
  · rw [Nat.min_eq_right (by omega), Nat.sub_self, List.take_zero, List.drop_eq_nil_of_le (by omega)]
theorem cut_last {α : Type} {xs : List α} {n : Nat} (h : xs.length = n + 1) : DL.cutD xs none (some (-1)) = xs.take n := by
  unfold DL.cutD
  have e : HT.sIx xs.length xs.length (some (-1)) = n := by
    show (if (-1 : Int) < 0 then ((-1 : Int) + (xs.length : Int)).toNat else min (-1 : Int).toNat xs.length) = n
    rw [if_pos (by decide), h]
    omega
  rw [HT.sIx_none, e, List.drop_zero, Nat.sub_zero]
theorem take_iL (n : Nat) (xs : List Int) : (iL xs).take n = iL (xs.take n) := List.map_take.symm
theorem drop_iL (n : Nat) (xs : List Int) : (iL xs).drop n = iL (xs.drop n) := List.map_drop.symm
theorem app_iL (xs ys : List Int) : iL xs ++ iL ys = iL (xs ++ ys) := List.map_append.symm
theorem len_iL (xs : List Int) : (iL xs).length = xs.length := List.length_map ..
theorem prime_lt {p : Int} (hp : p ∈ primes) : 1 < p ∧ p < 100 := by
  simp only [primes, List.mem_cons, List.not_mem_nil, or_false] at hp
  rcases hp with rfl | rfl | rfl | rfl | rfl | rfl | rfl | rfl <;> decide
theorem range_at {n i a : Nat} (h : (List.range n)[i]? = some a) : i < n ∧ i = a := by
  by_cases q : i < n
  · rw [List.getElem?_range q] at h
    exact ⟨q, Option.some.inj h⟩
  · rw [List.getElem?_eq_none_iff.mpr (by rw [List.length_range]; omega)] at h
    cases h
theorem ixN_at {n j : Nat} {i : Int} (e : i = (j : Int)) (h : j < n) : ixN n i = some j := by
  subst e
  unfold ixN
  rw [if_pos (by omega), if_pos (by omega), Int.toNat_natCast]
end FT
set_option maxHeartbeats 1000000
namespace FT
open PySem PySem.Spec PyProof.Rows L2 DL FTM

theorem prime_le {p : Int} (hp : p ∈ primes) : p ≤ 97 := by
  simp only [primes, List.mem_cons, List.not_mem_nil, or_false] at hp
  rcases hp with rfl | rfl | rfl | rfl | rfl | rfl | rfl | rfl <;> decide
theorem prime_all {p : Int} (hp : p ∈ primes) : ((([2, 3, 5, 7] : List Int).filter fun f => decide (f < p)).map fun f => !decide (p % f = 0)).all id = true := by
  simp only [primes, List.mem_cons, List.not_mem_nil, or_false] at hp
  rcases hp with rfl | rfl | rfl | rfl | rfl | rfl | rfl | rfl <;> decide
theorem rc_all' {K : PySem.W.Frag} {bs : List Bool} {b : Bool} {xs : List PyData} (h : bs.all id = b) (e : xs = bs.map .bool := by first | rfl | (rw [List.map_map]; rfl)) : RcC K (rAll K) [.val (.list xs)] (.val (.bool b)) := by
  subst h e
  exact rc_all

abbrev N_is_integer : List PySem.Str := ["value"]
theorem sc_is_integer : FnScope N_is_integer ["value"] (defScope df_is_integer.st) := ⟨rfl, rfl, rfl, by decide +kernel, rfl, by decide +kernel, by decide +kernel⟩
abbrev W_is_integer : Wc := Pu fun xs d => ∃ v, xs = [v] ∧ d = .bool (isIntD v)
theorem w_is_integer {P : Program} {w : World} {K : PySem.W.Frag} {mg : PySem.Str → Option Value} {base : Heap} (T : Tx K mg)  : C8.Cal P w K mg base 1 "is_integer" (Fn K W_is_integer) [] := by
  refine cal_of (d := df_is_integer) (N := N_is_integer) (ps := ["value"]) (n := 0) (T.d 0) rfl rfl (T.f (f := .glo "is_integer") 0) sc_is_integer (fun _ _ _ _ _ _ us hl => match us, hl with | [_], _ => rfl) ?_ rfl fun cdv A outer s H E hr => ?_
  · exact pu_len (fun xs d h => by obtain ⟨_, rfl, _⟩ := h; rfl)
  have hu := hu_of hr
  have hu0 := hr.units0
  have hu64 := hr.units
  refine ⟨_, (pss_one (ps_ret (pe_and (pe_callB call_isi (by rfl) (T.f (f := .free "isinstance") 49) boot_isinstance (pa_cons (pv 0) (pa_cons (pe_bltn (v := .ty "int") (by rfl) (T.f (f := .free "int") 63) boot_int rfl) pa_nil))) (pe_one (pe_not (pe_callB call_isi (by rfl) (T.f (f := .free "isinstance") 49) boot_isinstance (pa_cons (pv 0) (pa_cons (pe_bltn (v := .ty "bool") (by rfl) (T.f (f := .free "bool") 64) boot_bool rfl) pa_nil)))))))), ?_⟩
  rintro cs rs Post ⟨rfl, xs, d, rfl, ⟨v, rfl, rfl⟩, rfl⟩
  refine sd_ret (c := .val (.bool (isIntD v))) ?_ ⟨rfl, rfl⟩
  exact ec_andV (ec_isi (ec_val rfl) rfl) fun _ => ec_notV (ec_isi (ec_val rfl) rfl)
abbrev N_is_number : List PySem.Str := ["value", "least", "most"]
theorem sc_is_number : FnScope N_is_number ["value", "least", "most"] (defScope df_is_number.st) := ⟨rfl, rfl, rfl, by decide +kernel, rfl, by decide +kernel, by decide +kernel⟩
abbrev W_is_number : Wc := Pu fun xs d => ∃ v a b, xs = [v, .int a, .int b] ∧ d = .bool (numD v a b)
theorem w_is_number {P : Program} {w : World} {K : PySem.W.Frag} {mg : PySem.Str → Option Value} {base : Heap} (T : Tx K mg) (c_is_integer : C8.Cal P w K mg base 1 "is_integer" (Fn K W_is_integer) []) : C8.Cal P w K mg base 2 "is_number" (Fn K W_is_number) [] := by
  refine cal_of (d := df_is_number) (N := N_is_number) (ps := ["value", "least", "most"]) (n := 0) (T.d 1) rfl rfl (T.f (f := .glo "is_number") 1) sc_is_number (fun _ _ _ _ _ _ us hl => match us, hl with | [_, _, _], _ => rfl) ?_ rfl fun cdv A outer s H E hr => ?_
  · exact pu_len (fun xs d h => by obtain ⟨_, _, _, rfl, _⟩ := h; rfl)
  have hu := hu_of hr
  have hu0 := hr.units0
  have hu64 := hr.units
  refine ⟨_, (pss_one (ps_ret (pe_and (C8.pe_c c_is_integer hr (by decide) rfl (pa_cons (pv 0) pa_nil)) (pe_one (pe_chain op_le op_le (pv 1) (pv 0) (pv 2)))))), ?_⟩
  rintro cs rs Post ⟨rfl, xs, d, rfl, ⟨v, a, b, rfl, rfl⟩, rfl⟩
  refine sd_ret (c := .val (.bool (numD v a b))) ?_ ⟨rfl, rfl⟩
  refine ec_andV (ec_call (xs := [v]) (ea_cons (ec_val rfl) ea_nil) ⟨v, rfl, rfl⟩) fun h => ?_
  obtain ⟨i, rfl⟩ := int_of h
  exact ec_chain (ec_val rfl) (ec_val rfl) rv_B0 (fun _ => ec_val rfl) fun _ => rv_B0
abbrev N_is_prime : List PySem.Str := ["value", "factor"]
theorem sc_is_prime : FnScope N_is_prime ["value"] (defScope df_is_prime.st) := ⟨rfl, rfl, rfl, by decide +kernel, rfl, by decide +kernel, by decide +kernel⟩
abbrev W_is_prime : Wc := Pu fun xs d => ∃ p, xs = [.int p] ∧ p ∈ primes ∧ d = .bool true
theorem w_is_prime {P : Program} {w : World} {K : PySem.W.Frag} {mg : PySem.Str → Option Value} {base : Heap} (T : Tx K mg) (c_is_number : C8.Cal P w K mg base 2 "is_number" (Fn K W_is_number) []) : C8.Cal P w K mg base 3 "is_prime" (Fn K W_is_prime) [] := by
  refine cal_of (d := df_is_prime) (N := N_is_prime) (ps := ["value"]) (n := 1) (T.d 2) rfl rfl (T.f (f := .glo "is_prime") 2) sc_is_prime (fun _ _ _ _ _ _ us hl => match us, hl with | [_], _ => rfl) ?_ rfl fun cdv A outer s H E hr => ?_
  · exact pu_len (fun xs d h => by obtain ⟨_, rfl, _⟩ := h; rfl)
  have hu := hu_of hr
  have hu0 := hr.units0
  have hu64 := hr.units
  refine ⟨_, (pss_cons (ps_if (pt_not (pt_val (C8.pe_c c_is_number hr (by decide) rfl (pa_cons (pv 0) (pa_cons pe_int (pa_cons pe_int pa_nil))))))
  (pss_one (ps_ret pe_bl)) pss_nil)
  (pss_one (ps_ret (pe_callB (cr_all rfl) (by rfl) (T.f (f := .free "all") 50) boot_all (pa_cons (pe_lc (own := [("factor", 1)])  rfl sc_is_prime.nd (pi_tup (pe_tup (pa_cons pe_int (pa_cons pe_int (pa_cons pe_int (pa_cons pe_int pa_nil)))))) (blkOk_by (N := N_is_prime) (sc := defScope df_is_prime.st) (by decide +kernel)) (fun _ _ _ _ _ => (pg_name (i := 1) sc_is_prime.nd rfl (Or.inl rfl))) (fun _ _ _ _ _ => (pts_one (pt_cmpR op_lt (pv 1) (pv 0) (nomark _)))) (fun _ _ _ _ _ => (pe_cmpR op_ne (pe_op op_mod (pv 0) (pv 1)) pe_int (nomark _)))) pa_nil))))), ?_⟩
  rintro cs rs Post ⟨rfl, xs, d, rfl, ⟨p, rfl, hp, rfl⟩, rfl⟩
  have hp2 := prime_lt hp
  refine sd_seq (sd_if (et_not (et_B (ec_call (xs := [.int p, .int 2, .int 97]) (ea_cons (ec_val rfl) (ea_cons ec_int (ea_cons ec_int ea_nil))) ⟨_, _, _, rfl, rfl⟩))) (fun h => ?_) fun _ => ?_)
  · rw [numD_int (by omega) (prime_le hp)] at h
    cases h
  · refine sd_next ?_
    refine sd_ret (ec_cb (ea_cons (ec_lcF (te := _) (g := _) ([2, 3, 5, 7] : List Int) PyData.int (fun f => decide (f < p)) (fun f => .bool (!decide (p % f = 0))) (by decide) (it_tup (ec_tup (xs := iL [2, 3, 5, 7]) (ea_cons ec_int (ea_cons ec_int (ea_cons ec_int (ea_cons ec_int ea_nil)))) (by decide))) fun f hf => ⟨_, gt_name, et_test (ec_op (ec_val rfl) (ec_val rfl) rv_B0), fun _ => ec_op (ec_op (ec_val rfl) (ec_val rfl) (rv_I ?_)) ec_int rv_neI⟩) ea_nil) (rc_all' (prime_all hp))) ⟨rfl, rfl⟩
    show (0 : Int) < f
    simp only [List.mem_cons, List.not_mem_nil, or_false] at hf
    omega
abbrev N_is_residue : List PySem.Str := ["prime", "value"]
theorem sc_is_residue : FnScope N_is_residue ["prime", "value"] (defScope df_is_residue.st) := ⟨rfl, rfl, rfl, by decide +kernel, rfl, by decide +kernel, by decide +kernel⟩
abbrev W_is_residue : Wc := Pu fun xs d => ∃ p v, xs = [.int p, v] ∧ d = .bool (numD v 0 (p - 1))
theorem w_is_residue {P : Program} {w : World} {K : PySem.W.Frag} {mg : PySem.Str → Option Value} {base : Heap} (T : Tx K mg) (c_is_number : C8.Cal P w K mg base 2 "is_number" (Fn K W_is_number) []) : C8.Cal P w K mg base 3 "is_residue" (Fn K W_is_residue) [] := by
  refine cal_of (d := df_is_residue) (N := N_is_residue) (ps := ["prime", "value"]) (n := 0) (T.d 3) rfl rfl (T.f (f := .glo "is_residue") 3) sc_is_residue (fun _ _ _ _ _ _ us hl => match us, hl with | [_, _], _ => rfl) ?_ rfl fun cdv A outer s H E hr => ?_
  · exact pu_len (fun xs d h => by obtain ⟨_, _, rfl, _⟩ := h; rfl)
  have hu := hu_of hr
  have hu0 := hr.units0
  have hu64 := hr.units
  refine ⟨_, (pss_one (ps_ret (C8.pe_c c_is_number hr (by decide) rfl (pa_cons (pv 1) (pa_cons pe_int (pa_cons (pe_op op_sub (pv 0) pe_int) pa_nil)))))), ?_⟩
  rintro cs rs Post ⟨rfl, xs, d, rfl, ⟨p, v, rfl, rfl⟩, rfl⟩
  exact sd_ret (ec_call (xs := [v, .int 0, .int (p - 1)]) (ea_cons (ec_val rfl) (ea_cons ec_int (ea_cons (ec_op (ec_val rfl) ec_int rv_I0) ea_nil))) ⟨_, _, _, rfl, rfl⟩) ⟨rfl, rfl⟩
end FT
set_option maxHeartbeats 1000000
namespace FT
open PySem PySem.Spec PyProof.Rows L2 DL FTM
theorem invGo_done {k : Nat} {high low old new : Int} (h : low ≤ 1) : invGo k high low old new = new := by
  cases k with
  | zero => rfl
  | succ k => unfold invGo; rw [if_neg (by omega)]
theorem fdiv_low {high low : Int} (h : 0 < low) : high - high / low * low = high % low := by
  have := Int.emod_add_mul_ediv high low
  have e : high / low * low = low * (high / low) := Int.mul_comm _ _
  omega

abbrev N_inverse : List PySem.Str := ["prime", "residue", "high", "low", "old", "new", "part"]
theorem sc_inverse : FnScope N_inverse ["prime", "residue"] (defScope df_inverse.st) := ⟨rfl, rfl, rfl, by decide +kernel, rfl, by decide +kernel, by decide +kernel⟩
abbrev W_inverse : Wc := Pu fun xs d => ∃ p r, xs = [.int p, .int r] ∧ p ∈ primes ∧ 0 < r ∧ r < p ∧ d = .int (inv p r)
theorem w_inverse {P : Program} {w : World} {K : PySem.W.Frag} {mg : PySem.Str → Option Value} {base : Heap} (T : Tx K mg)  : C8.Cal P w K mg base 1 "inverse" (Fn K W_inverse) [] := by
  refine cal_of (d := df_inverse) (N := N_inverse) (ps := ["prime", "residue"]) (n := 5) (T.d 4) rfl rfl (T.f (f := .glo "inverse") 4) sc_inverse (fun _ _ _ _ _ _ us hl => match us, hl with | [_, _], _ => rfl) ?_ rfl fun cdv A outer s H E hr => ?_
  · exact pu_len (fun xs d h => by obtain ⟨_, _, rfl, _⟩ := h; rfl)
  have hu := hu_of hr
  have hu0 := hr.units0
  have hu64 := hr.units
  refine ⟨_, (pss_cons (ps_set (i := 2) sc_inverse.nd rfl (Or.inl rfl) (pv 0))
  (pss_cons (ps_set (i := 3) sc_inverse.nd rfl (Or.inl rfl) (pv 1))
  (pss_cons (ps_set (i := 4) sc_inverse.nd rfl (Or.inl rfl) pe_int)
  (pss_cons (ps_set (i := 5) sc_inverse.nd rfl (Or.inl rfl) pe_int)
  (pss_cons (ps_while PassesOwn.never (pt_cmpR op_gt (pv 3) pe_int (nomark _))
  (pss_cons (ps_set (i := 6) sc_inverse.nd rfl (Or.inl rfl) (pe_op op_fdiv (pv 2) (pv 3)))
  (pss_cons (ps_par (i := 2) (j := 3) rfl sc_inverse.nd rfl rfl (by decide) rfl rfl (pa_cons (pv 3) (pa_cons (pe_op op_sub (pv 2) (pe_op op_mul (pv 6) (pv 3))) pa_nil)) rfl)
  (pss_one (ps_par (i := 4) (j := 5) rfl sc_inverse.nd rfl rfl (by decide) rfl rfl (pa_cons (pv 5) (pa_cons (pe_op op_sub (pv 4) (pe_op op_mul (pv 6) (pv 5))) pa_nil)) rfl)))))
  (pss_one (ps_ret (pe_op op_mod (pv 5) (pv 0))))))))), ?_⟩
  rintro cs rs Post ⟨rfl, xs, d, rfl, ⟨p, r, rfl, hp, h0, h1, rfl⟩, rfl⟩
  have hp2 := prime_lt hp
  refine sd_seq (sd_asg (ec_val rfl) (sd_seq (sd_asg (ec_val rfl) (sd_seq (sd_asg ec_int (sd_seq (sd_asg ec_int (sd_seq ?_))))))))
  refine sd_while (fun n ds rs => rs = [] ∧ ∃ high low old new part, ds = [.val (.int p), .val (.int r), .val (.int high), .val (.int low), .val (.int old), .val (.int new), part] ∧ 0 ≤ high ∧ high < 1000 ∧ 0 ≤ low ∧ low < 1000 ∧ low.toNat ≤ n ∧ invGo n high low old new = invGo r.toNat p r 0 1) r.toNat
    ⟨rfl, p, r, 0, 1, .un, rfl, by omega, by omega, by omega, by omega, Nat.le_refl _, rfl⟩ ?_
  rintro n ds' rs' ⟨rfl, high, low, old, new, part, rfl, b1, b2, b3, b4, hn, e⟩
  refine ⟨decide (low > 1), et_test (ec_op (ec_val rfl) ec_int rv_B0), fun h => ?_, fun h => ?_⟩
  · have h : low > 1 := of_decide_eq_true h
    have hm := Int.emod_lt_of_pos high (show 0 < low by omega)
    have hm0 := Int.emod_nonneg high (show low ≠ 0 by omega)
    have hq0 : 0 ≤ high / low := Int.ediv_nonneg b1 (by omega)
    have hq1 : high / low ≤ high := Int.ediv_le_self _ b1
    refine sd_seq (sd_asg (ec_op (ec_val rfl) (ec_val rfl) (rv_I ⟨by omega, by omega⟩)) ?_)
    refine sd_seq (sd_par (ea_cons (ec_val rfl) (ea_cons (ec_op (ec_val rfl) (ec_op (ec_val rfl) (ec_val rfl) (rv_I (.inr ⟨by omega, by omega⟩))) rv_I0) ea_nil)) ?_)
    refine sd_par (ea_cons (ec_val rfl) (ea_cons (ec_op (ec_val rfl) (ec_op (ec_val rfl) (ec_val rfl) (rv_I (.inl ⟨by omega, by omega⟩))) rv_I0) ea_nil)) ?_
    obtain ⟨k, rfl⟩ : ∃ k, n = k + 1 := ⟨n - 1, by omega⟩
    refine ⟨k, Nat.lt_succ_self k, rfl, low, high - high / low * low, new, old - high / low * new, _, rfl, by omega, by omega, ?_, ?_, ?_, ?_⟩
    · rw [fdiv_low (by omega)]; exact hm0
    · rw [fdiv_low (by omega)]; omega
    · rw [fdiv_low (by omega)]; omega
    · rw [← e]
      show _ = if 1 < low then _ else _
      rw [if_pos (by omega)]
  · have h : ¬ low > 1 := of_decide_eq_false h
    refine sd_ret (ec_op (ec_val rfl) (ec_val rfl) (rv_I (by omega))) ⟨?_, rfl⟩
    rw [invGo_done (by omega)] at e
    unfold inv
    rw [← e]
abbrev N_form_of : List PySem.Str := ["prime", "numbers", "residues", "size", "number"]
theorem sc_form_of : FnScope N_form_of ["prime", "numbers"] (defScope df_form_of.st) := ⟨rfl, rfl, rfl, by decide +kernel, rfl, by decide +kernel, by decide +kernel⟩
abbrev W_form_of : Wc := Pu fun xs d => ∃ p ns, xs = [.int p, lstI ns] ∧ 0 < p ∧ ns.length ≤ 10000 ∧ d = tupI (formOf p ns)
theorem w_form_of {P : Program} {w : World} {K : PySem.W.Frag} {mg : PySem.Str → Option Value} {base : Heap} (T : Tx K mg)  : C8.Cal P w K mg base 1 "form_of" (Fn K W_form_of) [] := by
  refine cal_of (d := df_form_of) (N := N_form_of) (ps := ["prime", "numbers"]) (n := 3) (T.d 5) rfl rfl (T.f (f := .glo "form_of") 5) sc_form_of (fun _ _ _ _ _ _ us hl => match us, hl with | [_, _], _ => rfl) ?_ rfl fun cdv A outer s H E hr => ?_
  · exact pu_len (fun xs d h => by obtain ⟨_, _, rfl, _⟩ := h; rfl)
  have hu := hu_of hr
  have hu0 := hr.units0
  have hu64 := hr.units
  refine ⟨_, (pss_cons (ps_setLc (i := 2) (own := [("number", 4)]) (tt := tYes) rfl sc_form_of.nd rfl rfl (sw_true rfl rfl rfl (by decide +kernel)) (pi_list (pv 1)) (blkOk_by (N := N_form_of) (sc := defScope df_form_of.st) (by decide +kernel)) (fun _ _ _ _ _ => (pg_name (i := 4) sc_form_of.nd rfl (Or.inl rfl))) (fun _ _ _ _ _ => pts_nil) (fun _ _ _ _ _ => (pe_op op_mod (pv 4) (pv 0))))
  (pss_cons (ps_set (i := 3) sc_form_of.nd rfl (Or.inl rfl) (pe_callB call_len_seq (by rfl) (T.f (f := .free "len") 51) boot_len (pa_cons (pv 2) pa_nil)))
  (pss_cons (ps_while PassesOwn.never (PW.pt (pw_and (pt_cmpR op_gt (pv 3) pe_int (nomark _)) (pw_and1 (pt_cmpR op_eq (pe_ix ix_list (pv 2) (pe_op op_sub (pv 3) pe_int) (fun _ _ => rfl)) pe_int (nomark _)))))
  (pss_one (ps_set (i := 3) sc_form_of.nd rfl (Or.inl rfl) (pe_op op_sub (pv 3) pe_int))))
  (pss_one (ps_ret (pe_callTy call_tuple_of (by rfl) (T.f (f := .free "tuple") 52) boot_tuple (pa_cons (pe_slice sl_list (pv 2) po_none (po_some (pv 3))) pa_nil))))))), ?_⟩
  rintro cs rs Post ⟨rfl, xs, d, rfl, ⟨p, ns, rfl, hp, hl, rfl⟩, rfl⟩
  refine sd_seq (sd_asg (c := .val (lstI (ns.map (· % p)))) (ec_is (ec_lc ns PyData.int (fun n => .int (n % p)) (by omega) (it_list (ec_val rfl)) fun n hn => ⟨_, gt_name, ec_op (ec_val rfl) (ec_val rfl) (rv_I hp)⟩) (by rw [map_iL])) ?_)
  refine sd_seq (sd_asg (ec_cb (ea_cons (ec_val rfl) ea_nil) rc_lenL) ?_)
  generalize hr : ns.map (· % p) = rr
  have hrl : rr.length = ns.length := by rw [← hr, List.length_map]
  refine sd_seq (sd_while (fun n ds rs => rs = [] ∧ n ≤ rr.length ∧ (∀ i, n ≤ i → rr.getD i 0 = 0) ∧ ∃ u, ds = [.val (.int p), .val (lstI ns), .val (lstI rr), .val (.int (n : Nat)), u]) rr.length ?_ ?_)
  · refine ⟨rfl, Nat.le_refl _, fun i hi => ?_, .un, ?_⟩
    · rw [List.getD_eq_getElem?_getD, List.getElem?_eq_none_iff.mpr hi]; rfl
    · rw [List.length_map]; rfl
  rintro n ds' rs' ⟨rfl, hn, hz, u, rfl⟩
  refine ⟨decide ((n : Int) > 0) && decide (rr.getD (n - 1) 0 = 0), et_and (et_test (ec_op (ec_val rfl) ec_int rv_B0)) (fun h => et_test (ec_op (ec_op (ec_val rfl) (ec_op (ec_val rfl) ec_int rv_I0) (rv_ixL (at_mapI (j := n - 1) 0 ?_ ?_))) ec_int rv_eqI)), fun h => ?_, fun h => ?_⟩
  · have := of_decide_eq_true h; omega
  · have := of_decide_eq_true h; omega
  · rw [Bool.and_eq_true, decide_eq_true_eq, decide_eq_true_eq] at h
    refine sd_asg (ec_op (ec_val rfl) ec_int rv_I0) ⟨n - 1, by omega, rfl, by omega, fun i hi => ?_, u, ?_⟩
    · by_cases q : i = n - 1
      · rw [q]; exact h.2
      · exact hz i (by omega)
    · have : ((n : Int) - 1) = ((n - 1 : Nat) : Int) := by omega
      show [_, _, _, _, _] = _
      rw [this]
  · refine sd_ret (ec_cb (ea_cons (ec_slL (ec_val rfl) eo_none (eo_some (ec_val rfl))) ea_nil) rc_tupleL) ⟨?_, rfl⟩
    have e : trim rr = rr.take n := trim_take rr n hn hz fun k hk => by
      subst hk
      intro z
      rw [Bool.and_eq_false_iff, decide_eq_false_iff_not, decide_eq_false_iff_not] at h
      rcases h with h | h
      · exact h (by omega)
      · exact h z
    show Sc.val (.tuple _) = Sc.val (tupI (formOf p ns))
    unfold formOf
    rw [hr, e]
    show Sc.val (.tuple (DL.cutD (iL rr) none (some (n : Int)))) = _
    rw [cut_to (by rw [len_iL]; exact hn), take_iL]
end FT
set_option maxHeartbeats 1000000
namespace FT
open PySem PySem.Spec PyProof.Rows L2 DL FTM

abbrev N_scaled : List PySem.Str := ["prime", "form", "number", "residue"]
theorem sc_scaled : FnScope N_scaled ["prime", "form", "number"] (defScope df_scaled.st) := ⟨rfl, rfl, rfl, by decide +kernel, rfl, by decide +kernel, by decide +kernel⟩
abbrev W_scaled : Wc := Pu fun xs d => ∃ p f n, xs = [.int p, tupI f, .int n] ∧ 0 < p ∧ p < 1000 ∧ f.length ≤ 1000 ∧ (∀ x ∈ f, 0 ≤ x ∧ x < p) ∧ d = tupI (scaledF p f n)
theorem w_scaled {P : Program} {w : World} {K : PySem.W.Frag} {mg : PySem.Str → Option Value} {base : Heap} (T : Tx K mg)  : C8.Cal P w K mg base 1 "scaled" (Fn K W_scaled) [] := by
  refine cal_of (d := df_scaled) (N := N_scaled) (ps := ["prime", "form", "number"]) (n := 1) (T.d 9) rfl rfl (T.f (f := .glo "scaled") 9) sc_scaled (fun _ _ _ _ _ _ us hl => match us, hl with | [_, _, _], _ => rfl) ?_ rfl fun cdv A outer s H E hr => ?_
  · exact pu_len (fun xs d h => by obtain ⟨_, _, _, rfl, _⟩ := h; rfl)
  have hu := hu_of hr
  have hu0 := hr.units0
  have hu64 := hr.units
  refine ⟨_, (pss_cons (ps_if (pt_cmpR op_eq (pe_op op_mod (pv 2) (pv 0)) pe_int (nomark _))
  (pss_one (ps_ret (pe_tup pa_nil))) pss_nil)
  (pss_one (ps_ret (pe_callTy call_tuple_of (by rfl) (T.f (f := .free "tuple") 52) boot_tuple (pa_cons (pe_lc (own := [("residue", 3)]) (tt := tYes) rfl sc_scaled.nd (pi_tup (pv 1)) (blkOk_by (N := N_scaled) (sc := defScope df_scaled.st) (by decide +kernel)) (fun _ _ _ _ _ => (pg_name (i := 3) sc_scaled.nd rfl (Or.inl rfl))) (fun _ _ _ _ _ => pts_nil) (fun _ _ _ _ _ => (pe_op op_mod (pe_op op_mul (pv 3) (pv 2)) (pv 0)))) pa_nil))))), ?_⟩
  rintro cs rs Post ⟨rfl, xs, d, rfl, ⟨p, f, n, rfl, hp, hp1, hl, hf, rfl⟩, rfl⟩
  refine sd_seq (sd_if (et_test (ec_op (ec_op (ec_val rfl) (ec_val rfl) (rv_I hp)) ec_int rv_eqI)) (fun h => ?_) fun h => sd_next ?_)
  · have h : n % p = 0 := of_decide_eq_true h
    refine sd_ret (ec_tup (xs := []) ea_nil (by decide)) ⟨?_, rfl⟩
    unfold scaledF
    rw [if_pos h]; rfl
  · have h : ¬ n % p = 0 := of_decide_eq_false h
    refine sd_ret (ec_cb (ea_cons (ec_lc f PyData.int (fun x => .int (x * n % p)) (by omega) (it_tup (ec_val rfl)) fun x hx => ⟨_, gt_name, ec_op (ec_op (ec_val rfl) (ec_val rfl) (rv_I (.inl ⟨?_, ?_⟩))) (ec_val rfl) (rv_I hp)⟩) ea_nil) rc_tupleL) ⟨?_, rfl⟩
    · have := hf x hx; omega
    · have := hf x hx; omega
    · unfold scaledF
      rw [if_neg h, map_iL]
abbrev WA (Q : Form → Form → Prop) : Wc := Pu fun xs d => ∃ p f g, xs = [.int p, tupI f, tupI g] ∧ 0 < p ∧ f.length ≤ 1000 ∧ g.length ≤ 1000 ∧ Q f g ∧ d = tupI (addF p f g)
def addQ (Q : Form → Form → Prop) : Form → Form → Prop := fun f g => g.length ≤ f.length ∨ Q g f
theorem ea_is {K : PySem.W.Frag} {ta : TA} {ds : Scs} {rs : Rss} {cs cs' : Scs} (h : EaC K ta ds rs cs) (e : cs = cs') : EaC K ta ds rs cs' := e ▸ h
theorem emp_tup {xs : List Int} : (!(iL xs).isEmpty) = true ↔ xs ≠ [] := by
  cases xs <;> simp [iL]
theorem zip_add (f g : List Int) : (List.range (min f.length g.length)).map (fun i => f.getD i 0 + g.getD i 0) = List.zipWith (· + ·) f g := by
  refine List.ext_getElem? fun i => ?_
  rw [List.getElem?_map, List.getElem?_zipWith]
  by_cases h : i < min f.length g.length
  · have h1 : i < f.length := by omega
    have h2 : i < g.length := by omega
    rw [List.getElem?_range h, List.getElem?_eq_getElem h1, List.getElem?_eq_getElem h2]
    simp [List.getD_eq_getElem?_getD, List.getElem?_eq_getElem h1, List.getElem?_eq_getElem h2]
  · rw [List.getElem?_eq_none_iff.mpr (by rw [List.length_range]; omega)]
    by_cases h1 : i < f.length
    · rw [List.getElem?_eq_none_iff.mpr (show g.length ≤ i by omega)]
      cases f[i]? <;> rfl
    · rw [List.getElem?_eq_none_iff.mpr (show f.length ≤ i by omega)]; rfl

abbrev N_add : List PySem.Str := ["prime", "one", "other", "shared", "left", "right"]
theorem sc_add : FnScope N_add ["prime", "one", "other"] (defScope df_add.st) := ⟨rfl, rfl, rfl, by decide +kernel, rfl, by decide +kernel, by decide +kernel⟩
theorem w_add_step {P : Program} {w : World} {K : PySem.W.Frag} {mg : PySem.Str → Option Value} {base : Heap} {k : Nat} {Q : Form → Form → Prop} (hk : 1 ≤ k) (T : Tx K mg) (c_add : C8.Cal P w K mg base k "add" (Fn K (WA Q)) []) (c_form_of : C8.Cal P w K mg base 1 "form_of" (Fn K W_form_of) []) : C8.Cal P w K mg base (k + 1) "add" (Fn K (WA (addQ Q))) [] := by
  refine cal_of (d := df_add) (N := N_add) (ps := ["prime", "one", "other"]) (n := 3) (T.d 6) rfl rfl (T.f (f := .glo "add") 6) sc_add (fun _ _ _ _ _ _ us hl => match us, hl with | [_, _, _], _ => rfl) ?_ rfl fun cdv A outer s H E hr => ?_
  · exact pu_len (fun xs d h => by obtain ⟨_, _, _, rfl, _⟩ := h; rfl)
  have hu := hu_of hr
  have hu0 := hr.units0
  have hu64 := hr.units
  refine ⟨_, (pss_cons (ps_if (pt_not (pt_truth (pv 2) (fun _ => rfl)))
  (pss_one (ps_ret (pv 1))) pss_nil)
  (pss_cons (ps_if (pt_cmpR op_lt (pe_callB call_len_seq (by rfl) (T.f (f := .free "len") 51) boot_len (pa_cons (pv 1) pa_nil)) (pe_callB call_len_seq (by rfl) (T.f (f := .free "len") 51) boot_len (pa_cons (pv 2) pa_nil)) (nomark _))
  (pss_one (ps_ret (C8.pe_c c_add hr (Nat.le_refl _) rfl (pa_cons (pv 0) (pa_cons (pv 2) (pa_cons (pv 1) pa_nil)))))) pss_nil)
  (pss_cons (ps_setLc (i := 3) (g := (gTup K 2 (gCons (gName 4) (gCons (gName 5) gNil)))) (own := [("left", 4), ("right", 5)]) (tt := tYes) rfl sc_add.nd rfl rfl (sw_true rfl rfl rfl (by decide +kernel)) (RZ.pi_zipA (by rfl) (T.f (f := .free "zip") 54) (pa_cons (pv 1) (pa_cons (pv 2) pa_nil))) (blkOk_by (N := N_add) (sc := defScope df_add.st) (by decide +kernel)) (fun _ _ _ _ _ => (pg_tup rfl (pgs_cons (pg_name (i := 4) sc_add.nd rfl (Or.inl rfl)) (pgs_cons (pg_name (i := 5) sc_add.nd rfl (Or.inl rfl)) pgs_nil)))) (fun _ _ _ _ _ => pts_nil) (fun _ _ _ _ _ => (pe_op op_add (pv 4) (pv 5))))
  (pss_one (ps_ret (C8.pe_c c_form_of hr (by omega) rfl (pa_cons (pv 0) (pa_cons (pe_lst (StX.pa_star (pv 3) (StX.pa_star (pe_slice sl_tupA (pv 1) (po_some (pe_callB call_len_seq (by rfl) (T.f (f := .free "len") 51) boot_len (pa_cons (pv 2) pa_nil))) po_none) pa_nil))) pa_nil)))))))), ?_⟩
  rintro cs rs Post ⟨rfl, xs, d, rfl, ⟨p, f, g, rfl, hp, hf, hg, hQ, rfl⟩, rfl⟩
  refine sd_seq (sd_if (et_not (et_truT (ec_val rfl))) (fun h => ?_) fun h => sd_next ?_)
  · have h : g = [] := by
      cases g with
      | nil => rfl
      | cons a b => cases h
    subst h
    refine sd_ret (ec_val rfl) ⟨?_, rfl⟩
    unfold addF
    rw [if_pos rfl]
  have hg0 : g ≠ [] := fun z => by rw [z] at h; cases h
  refine sd_seq (sd_if (et_test (ec_op (ec_cb (ea_cons (ec_val rfl) ea_nil) rc_lenT) (ec_cb (ea_cons (ec_val rfl) ea_nil) rc_lenT) rv_B0)) (fun h => ?_) fun h => sd_next ?_)
  · have h : ((iL f).length : Int) < ((iL g).length : Int) := of_decide_eq_true h
    rw [len_iL, len_iL] at h
    refine sd_ret (ec_call (d := tupI (addF p f g)) (xs := [.int p, tupI g, tupI f]) (ea_cons (ec_val rfl) (ea_cons (ec_val rfl) (ea_cons (ec_val rfl) ea_nil))) ⟨p, g, f, rfl, hp, hg, hf, ?_, ?_⟩) ⟨rfl, rfl⟩
    · rcases hQ with q | q
      · omega
      · exact q
    · have e : addF p f g = addF p g f := by
        unfold addF
        rw [if_neg hg0, if_pos (by omega)]
        by_cases z : f = []
        · rw [if_pos z, if_pos z]
        · rw [if_neg z, if_neg z, if_neg (by omega)]
      rw [e]
  · have h : ¬ ((iL f).length : Int) < ((iL g).length : Int) := of_decide_eq_false h
    rw [len_iL, len_iL] at h
    refine sd_seq (sd_asg (c := .val (lstI (List.zipWith (· + ·) f g))) (ec_is (ec_lc (List.range (min f.length g.length)) (fun i => pairD (.int (f.getD i 0)) (.int (g.getD i 0))) (fun i => .int (f.getD i 0 + g.getD i 0)) (by rw [List.length_range]; omega) (it_is (it_zipT (ea_cons (ec_val rfl) (ea_cons (ec_val rfl) ea_nil))) (zipD_map PyData.int PyData.int f g 0 0)) fun i hi => ⟨_, gt_tup2, ec_op (ec_val rfl) (ec_val rfl) rv_I0⟩) (by rw [map_iL, zip_add])) ?_)
    refine sd_ret (ec_call (xs := [.int p, lstI (List.zipWith (· + ·) f g ++ f.drop g.length)]) (ea_cons (ec_val rfl) (ea_cons (ec_is (ec_lst (xs := iL (List.zipWith (· + ·) f g) ++ (iL (f.drop g.length) ++ [])) (ea_is (ea_starL (ec_val rfl) (ea_starT (xs := iL (f.drop g.length)) (ec_is (ec_slT (ec_val rfl) (eo_some (ec_cb (ea_cons (ec_val rfl) ea_nil) rc_lenT)) eo_none) ?_) ea_nil)) ?_) ?_) ?_) ea_nil)) ⟨p, _, rfl, hp, ?_, ?_⟩) ⟨rfl, rfl⟩
    · rw [len_iL, cut_from, drop_iL]
    · simp
    · simp [iL]; omega
    · rw [List.append_nil, app_iL]
    · simp; omega
    · unfold addF addS
      rw [if_neg hg0, if_neg (by omega)]
theorem fnOk_none {P : Program} {w : World} {K : PySem.W.Frag} {mg : PySem.Str → Option Value} {base : Heap} {f : Addr} {fd : FuncData} {ps : List PySem.Str} {k : Nat} {W : Wc} (h : ∀ cs rs Post, ¬ W cs rs Post) : FnOk P w K mg base C8.CX0 k f fd ps (Fn K W) :=
  ⟨fun vs H Q E ⟨_, _, _, _, _, _, _, z, _⟩ => (h _ _ _ z).elim, fun A outer s H args us vs Q E _ _ _ _ ⟨_, _, _, _, _, _, _, z, _⟩ => (h _ _ _ z).elim⟩
abbrev W_add : Wc := WA fun _ _ => True
theorem w_add {P : Program} {w : World} {K : PySem.W.Frag} {mg : PySem.Str → Option Value} {base : Heap} (T : Tx K mg) (c_form_of : C8.Cal P w K mg base 1 "form_of" (Fn K W_form_of) []) : C8.Cal P w K mg base 3 "add" (Fn K W_add) [] := by
  have z : C8.Cal P w K mg base 1 "add" (Fn K (WA fun _ _ => False)) [] := by
    obtain ⟨fd, F⟩ := T.d (d := df_add) 6
    exact ⟨df_add.at_ K, fd, ["prime", "one", "other"], [], fnOk_none (fun cs rs Post ⟨_, _, _, _, ⟨_, _, _, _, _, _, _, z, _⟩, _⟩ => z), T.f (f := .glo "add") 6, F.kp, F.bindsN (fun _ _ _ _ _ _ us hl => match us, hl with | [_, _, _], _ => rfl), .nil⟩
  have z2 := w_add_step (Nat.le_refl 1) T z c_form_of
  have z3 := w_add_step (by decide) T z2 c_form_of
  obtain ⟨f, fd, ps, dvs, F, r⟩ := z3.ex
  refine ⟨f, fd, ps, dvs, F.imp fun vs H Q E h => ?_, r⟩
  obtain ⟨Hb, cs, rs, Post, s, a, b, ⟨rfl, xs, d, rfl, ⟨p, f', g', rfl, h1, h2, h3, _, rfl⟩, rfl⟩, k⟩ := h
  refine ⟨Hb, _, [], _, s, a, b, ⟨rfl, _, _, rfl, ⟨p, f', g', rfl, h1, h2, h3, ?_, rfl⟩, rfl⟩, k⟩
  rcases Nat.lt_or_ge f'.length g'.length with q | q
  · exact .inr (.inl (Nat.le_of_lt q))
  · exact .inl q

abbrev N_subtract : List PySem.Str := ["prime", "one", "other"]
theorem sc_subtract : FnScope N_subtract ["prime", "one", "other"] (defScope df_subtract.st) := ⟨rfl, rfl, rfl, by decide +kernel, rfl, by decide +kernel, by decide +kernel⟩
abbrev W_subtract : Wc := Pu fun xs d => ∃ p f g, xs = [.int p, tupI f, tupI g] ∧ 0 < p ∧ p < 1000 ∧ f.length ≤ 1000 ∧ g.length ≤ 1000 ∧ (∀ x ∈ g, 0 ≤ x ∧ x < p) ∧ d = tupI (subF p f g)
theorem w_subtract {P : Program} {w : World} {K : PySem.W.Frag} {mg : PySem.Str → Option Value} {base : Heap} (T : Tx K mg) (c_add : C8.Cal P w K mg base 3 "add" (Fn K W_add) []) (c_scaled : C8.Cal P w K mg base 1 "scaled" (Fn K W_scaled) []) : C8.Cal P w K mg base 4 "subtract" (Fn K W_subtract) [] := by
  refine cal_of (d := df_subtract) (N := N_subtract) (ps := ["prime", "one", "other"]) (n := 0) (T.d 7) rfl rfl (T.f (f := .glo "subtract") 7) sc_subtract (fun _ _ _ _ _ _ us hl => match us, hl with | [_, _, _], _ => rfl) ?_ rfl fun cdv A outer s H E hr => ?_
  · exact pu_len (fun xs d h => by obtain ⟨_, _, _, rfl, _⟩ := h; rfl)
  have hu := hu_of hr
  have hu0 := hr.units0
  have hu64 := hr.units
  refine ⟨_, (pss_one (ps_ret (C8.pe_c c_add hr (by decide) rfl (pa_cons (pv 0) (pa_cons (pv 1) (pa_cons (C8.pe_c c_scaled hr (by decide) rfl (pa_cons (pv 0) (pa_cons (pv 2) (pa_cons (pe_un un_neg pe_int) pa_nil)))) pa_nil)))))), ?_⟩
  rintro cs rs Post ⟨rfl, xs, d, rfl, ⟨p, f, g, rfl, hp, hp1, hf, hg, hR, rfl⟩, rfl⟩
  refine sd_ret (ec_call (xs := [.int p, tupI f, tupI (scaledF p g (-1))]) (ea_cons (ec_val rfl) (ea_cons (ec_val rfl) (ea_cons (ec_call (xs := [.int p, tupI g, .int (-1)]) (ea_cons (ec_val rfl) (ea_cons (ec_val rfl) (ea_cons (ec_un ec_int ru_neg) ea_nil))) ⟨p, g, -1, rfl, hp, hp1, hg, hR, rfl⟩) ea_nil))) ⟨p, f, _, rfl, hp, hf, ?_, trivial, rfl⟩) ⟨rfl, rfl⟩
  unfold scaledF
  split
  · exact Nat.zero_le _
  · rw [List.length_map]; exact hg
end FT
set_option maxHeartbeats 1000000
namespace FT
open PySem PySem.Spec PyProof.Rows L2 DL FTM
/-! ### products -/
def inStep (a : Nat) (left : Int) (g : List Int) (s : List Int) (b : Nat) : List Int := s.set (a + b) (s.getD (a + b) 0 + left * g.getD b 0)
def inF (a : Nat) (left : Int) (g : List Int) (n : Nat) (s : List Int) : List Int := (List.range n).foldl (inStep a left g) s
def outStep (f g : List Int) (s : List Int) (a : Nat) : List Int := if f.getD a 0 ≠ 0 then inF a (f.getD a 0) g g.length s else s
def outF (f g : List Int) (n : Nat) (s : List Int) : List Int := (List.range n).foldl (outStep f g) s
def mulF (p : Int) (f g : List Int) : List Int := if f = [] ∨ g = [] then [] else formOf p (outF f g f.length (List.replicate (f.length + g.length - 1) 0))
theorem inF_succ (a : Nat) (left : Int) (g : List Int) (n : Nat) (s : List Int) : inF a left g (n + 1) s = inStep a left g (inF a left g n s) n := by
  unfold inF; rw [List.range_succ, List.foldl_append]; rfl
theorem outF_succ (f g : List Int) (n : Nat) (s : List Int) : outF f g (n + 1) s = outStep f g (outF f g n s) n := by
  unfold outF; rw [List.range_succ, List.foldl_append]; rfl
theorem inF_len (a : Nat) (left : Int) (g : List Int) (s : List Int) : ∀ n, (inF a left g n s).length = s.length
  | 0 => rfl
  | n + 1 => by rw [inF_succ]; unfold inStep; rw [List.length_set, inF_len a left g s n]
theorem outF_len (f g : List Int) (s : List Int) : ∀ n, (outF f g n s).length = s.length
  | 0 => rfl
  | n + 1 => by
    rw [outF_succ]; unfold outStep
    split
    · rw [inF_len, outF_len f g s n]
    · exact outF_len f g s n
theorem getD_set (s : List Int) (i k : Nat) (v : Int) : (s.set i v).getD k 0 = if k = i ∧ i < s.length then v else s.getD k 0 := by
  rw [List.getD_eq_getElem?_getD, List.getElem?_set, List.getD_eq_getElem?_getD]
  by_cases e : i = k
  · subst e
    rw [if_pos rfl]
    by_cases h : i < s.length
    · rw [if_pos h, if_pos ⟨rfl, h⟩]; rfl
    · rw [if_neg h, if_neg (fun z => h z.2), List.getElem?_eq_none_iff.mpr (by omega)]
  · rw [if_neg e, if_neg (fun z => e z.1.symm)]
theorem getD_rep (m k : Nat) : (List.replicate m (0 : Int)).getD k 0 = 0 := by
  rw [List.getD_eq_getElem?_getD, List.getElem?_replicate]
  split <;> rfl
theorem outF_C (f : List Int) (c : Int) (m : Nat) : ∀ n, n ≤ m → ∀ k, (outF f [c] n (List.replicate m 0)).getD k 0 = if k < n then f.getD k 0 * c else 0
  | 0, _, k => by rw [if_neg (by omega)]; exact getD_rep m k
  | n + 1, h, k => by
    have ih := outF_C f c m n (by omega)
    have hl := outF_len f [c] (List.replicate m 0) n
    rw [List.length_replicate] at hl
    rw [outF_succ]
    unfold outStep
    by_cases z : f.getD n 0 = 0
    · rw [if_neg (fun q => q z), ih k]
      by_cases e : k = n
      · subst e; rw [if_neg (by omega), if_pos (by omega), z]; simp
      · by_cases h2 : k < n
        · rw [if_pos h2, if_pos (by omega)]
        · rw [if_neg h2, if_neg (by omega)]
    · rw [if_pos z, show [c].length = 0 + 1 from rfl, inF_succ]
      show (inStep n (f.getD n 0) [c] (outF f [c] n (List.replicate m 0)) 0).getD k 0 = _
      unfold inStep
      rw [getD_set, Nat.add_zero, hl, ih n, ih k, if_neg (Nat.lt_irrefl n)]
      by_cases e : k = n
      · subst e; rw [if_pos ⟨rfl, by omega⟩, if_pos (by omega)]; simp
      · rw [if_neg (fun q => e q.1)]
        by_cases h2 : k < n
        · rw [if_pos h2, if_pos (by omega)]
        · rw [if_neg h2, if_neg (by omega)]
theorem outF_X (f : List Int) (m : Nat) : ∀ n, n + 1 ≤ m → ∀ k, (outF f [0, 1] n (List.replicate m 0)).getD k 0 = if 1 ≤ k ∧ k ≤ n then f.getD (k - 1) 0 else 0
  | 0, _, k => by rw [if_neg (by omega)]; exact getD_rep m k
  | n + 1, h, k => by
    have ih := outF_X f m n (by omega)
    have hl := outF_len f [0, 1] (List.replicate m 0) n
    rw [List.length_replicate] at hl
    rw [outF_succ]
    unfold outStep
    by_cases z : f.getD n 0 = 0
    · rw [if_neg (fun q => q z), ih k]
      by_cases e : k = n + 1
      · subst e; rw [if_neg (by omega), if_pos (by omega), Nat.add_sub_cancel, z]
      · by_cases h2 : 1 ≤ k ∧ k ≤ n
        · rw [if_pos h2, if_pos (by omega)]
        · rw [if_neg h2, if_neg (by omega)]
    · rw [if_pos z, show [(0 : Int), 1].length = 0 + 1 + 1 from rfl, inF_succ, inF_succ]
      show (inStep n (f.getD n 0) [0, 1] (inStep n (f.getD n 0) [0, 1] (outF f [0, 1] n (List.replicate m 0)) 0) (0 + 1)).getD k 0 = _
      unfold inStep
      rw [getD_set, getD_set, getD_set, List.length_set, hl, ih k, ih (n + 0), ih (n + (0 + 1))]
      show (if k = n + (0 + 1) ∧ n + (0 + 1) < m then (if n + (0 + 1) = n + 0 ∧ n + 0 < m then _ else (if 1 ≤ n + (0 + 1) ∧ n + (0 + 1) ≤ n then _ else (0 : Int))) + f.getD n 0 * 1 else if k = n + 0 ∧ n + 0 < m then (if 1 ≤ n + 0 ∧ n + 0 ≤ n then f.getD (n + 0 - 1) 0 else 0) + f.getD n 0 * 0 else _) = _
      by_cases e : k = n + 1
      · subst e
        rw [if_pos (by omega), if_neg (by omega), if_neg (by omega), if_pos (by omega), Nat.add_sub_cancel]
        simp
      · rw [if_neg (by omega)]
        by_cases e2 : k = n
        · subst e2
          rw [if_pos (by omega), Int.mul_zero, Int.add_zero, Nat.add_zero]
          by_cases h2 : 1 ≤ k
          · rw [if_pos (by omega), if_pos (by omega)]
          · rw [if_neg (by omega), if_neg (by omega)]
        · rw [if_neg (by omega)]
          by_cases h2 : 1 ≤ k ∧ k ≤ n
          · rw [if_pos h2, if_pos (by omega)]
          · rw [if_neg h2, if_neg (by omega)]
theorem list_ext0 {xs ys : List Int} (hl : xs.length = ys.length) (h : ∀ k, k < xs.length → xs.getD k 0 = ys.getD k 0) : xs = ys := by
  refine List.ext_getElem hl fun k h1 h2 => ?_
  have := h k h1
  rw [List.getD_eq_getElem?_getD, List.getD_eq_getElem?_getD, List.getElem?_eq_getElem h1, List.getElem?_eq_getElem h2] at this
  exact this
theorem mulF_C (p : Int) (f : List Int) (c : Int) : mulF p f [c] = mulC p f c := by
  unfold mulF mulC
  by_cases h : f = []
  · rw [if_pos h, if_pos (.inl h)]
  · rw [if_neg h, if_neg (by simp [h])]
    congr 1
    have hl : f.length + [c].length - 1 = f.length := by simp
    rw [hl]
    refine list_ext0 (by rw [outF_len, List.length_replicate, List.length_map]) fun k hk => ?_
    rw [outF_len, List.length_replicate] at hk
    rw [outF_C f c f.length f.length (Nat.le_refl _), if_pos hk, getD_mapL _ _ hk]
theorem mulF_X (p : Int) (f : List Int) : mulF p f [0, 1] = mulX p f := by
  unfold mulF mulX
  by_cases h : f = []
  · rw [if_pos h, if_pos (.inl h)]
  · rw [if_neg h, if_neg (by simp [h])]
    congr 1
    have hl : f.length + [(0 : Int), 1].length - 1 = f.length + 1 := by simp
    rw [hl]
    refine list_ext0 (by rw [outF_len, List.length_replicate, List.length_cons]) fun k hk => ?_
    rw [outF_len, List.length_replicate] at hk
    rw [outF_X f (f.length + 1) f.length (Nat.le_refl _)]
    cases k with
    | zero => rw [if_neg (by omega)]; rfl
    | succ k => rw [if_pos (by omega)]; rfl
theorem map_const0 (m : Nat) : ((List.range m).map fun i => (0 : Int) + (i : Nat)).map (fun _ => PyData.int 0) = iL (List.replicate m 0) := by
  rw [List.map_map]
  refine List.ext_getElem? fun i => ?_
  rw [List.getElem?_map, List.getElem?_map, List.getElem?_replicate]
  by_cases h : i < m
  · rw [List.getElem?_range h, if_pos h]; rfl
  · rw [List.getElem?_eq_none_iff.mpr (by rw [List.length_range]; omega), if_neg h]; rfl
theorem set_iL (xs : List Int) (j : Nat) (v : Int) : (iL xs).set j (.int v) = iL (xs.set j v) := (List.map_set ..).symm

abbrev N_multiply : List PySem.Str := ["prime", "one", "other", "sums", "at", "left", "by", "right", "_"]
theorem sc_multiply : FnScope N_multiply ["prime", "one", "other"] (defScope df_multiply.st) := ⟨rfl, rfl, rfl, by decide +kernel, rfl, by decide +kernel, by decide +kernel⟩
abbrev W_multiply : Wc := Pu fun xs d => ∃ p f g, xs = [.int p, tupI f, tupI g] ∧ 0 < p ∧ p < 1000 ∧ f.length ≤ 1000 ∧ g.length ≤ 1000 ∧ (∀ x ∈ f, 0 ≤ x ∧ x < p) ∧ d = tupI (mulF p f g)
theorem w_multiply {P : Program} {w : World} {K : PySem.W.Frag} {mg : PySem.Str → Option Value} {base : Heap} (T : Tx K mg) (c_form_of : C8.Cal P w K mg base 1 "form_of" (Fn K W_form_of) []) : C8.Cal P w K mg base 2 "multiply" (Fn K W_multiply) [] := by
  refine cal_of (d := df_multiply) (N := N_multiply) (ps := ["prime", "one", "other"]) (n := 6) (T.d 8) rfl rfl (T.f (f := .glo "multiply") 8) sc_multiply (fun _ _ _ _ _ _ us hl => match us, hl with | [_, _, _], _ => rfl) ?_ rfl fun cdv A outer s H E hr => ?_
  · exact pu_len (fun xs d h => by obtain ⟨_, _, _, rfl, _⟩ := h; rfl)
  have hu := hu_of hr
  have hu0 := hr.units0
  have hu64 := hr.units
  refine ⟨_, (pss_cons (ps_if (PW.pt (pw_or (pt_not (pt_truth (pv 1) (fun _ => rfl))) (pw_or1 (pt_not (pt_truth (pv 2) (fun _ => rfl))))))
  (pss_one (ps_ret (pe_tup pa_nil))) pss_nil)
  (pss_cons (ps_setLc (i := 3) (own := [("_", 8)]) (tt := tYes) rfl sc_multiply.nd rfl rfl (sw_true rfl rfl rfl (by decide +kernel)) (pi_range1 (by rfl) (T.f (f := .free "range") 53) (pa_cons (pe_op op_sub (pe_op op_add (pe_callB call_len_seq (by rfl) (T.f (f := .free "len") 51) boot_len (pa_cons (pv 1) pa_nil)) (pe_callB call_len_seq (by rfl) (T.f (f := .free "len") 51) boot_len (pa_cons (pv 2) pa_nil))) pe_int) pa_nil)) (blkOk_by (N := N_multiply) (sc := defScope df_multiply.st) (by decide +kernel)) (fun _ _ _ _ _ => (pg_name (i := 8) sc_multiply.nd rfl (Or.inl rfl))) (fun _ _ _ _ _ => pts_nil) (fun _ _ _ _ _ => pe_int))
  (pss_cons (ps_for PassesOwn.never rfl (DLX.pi_enumT (by rfl) (T.f (f := .free "enumerate") 55) (pa_cons (pv 1) pa_nil)) (pg_tup rfl (pgs_cons (pg_name (i := 4) sc_multiply.nd rfl (Or.inl rfl)) (pgs_cons (pg_name (i := 5) sc_multiply.nd rfl (Or.inl rfl)) pgs_nil)))
  (pss_one (ps_if (pt_cmpR op_ne (pv 5) pe_int (nomark _))
  (pss_one (ps_for PassesOwn.never rfl (DLX.pi_enumT (by rfl) (T.f (f := .free "enumerate") 55) (pa_cons (pv 2) pa_nil)) (pg_tup rfl (pgs_cons (pg_name (i := 6) sc_multiply.nd rfl (Or.inl rfl)) (pgs_cons (pg_name (i := 7) sc_multiply.nd rfl (Or.inl rfl)) pgs_nil)))
  (pss_one (ps_asg (pe_op op_add (pe_ix ix_list (pv 3) (pe_op op_add (pv 4) (pv 6)) (fun _ _ => rfl)) (pe_op op_mul (pv 5) (pv 7))) (pg_sub (pv 3) (pe_op op_add (pv 4) (pv 6)) set_list))))) pss_nil)))
  (pss_one (ps_ret (C8.pe_c c_form_of hr (by decide) rfl (pa_cons (pv 0) (pa_cons (pv 3) pa_nil)))))))), ?_⟩
  rintro cs rs Post ⟨rfl, xs, d, rfl, ⟨p, f, g, rfl, hp, hp1, hf, hg, hR, rfl⟩, rfl⟩
  refine sd_seq (sd_if (et_or (et_not (et_truT (ec_val rfl))) fun _ => et_not (et_truT (ec_val rfl))) (fun h => ?_) fun h => sd_next ?_)
  · refine sd_ret (ec_tup (xs := []) ea_nil (by decide)) ⟨?_, rfl⟩
    unfold mulF
    rw [if_pos]
    · rfl
    · rw [Bool.or_eq_true] at h
      rcases h with h | h
      · left
        cases f with
        | nil => rfl
        | cons a b => cases h
      · right
        cases g with
        | nil => rfl
        | cons a b => cases h
  have hf0 : f ≠ [] := fun z => by rw [z] at h; cases h
  have hg0 : g ≠ [] := fun z => by rw [z] at h; simp [iL] at h
  have hgl : 0 < g.length := List.length_pos_iff.mpr hg0
  have hm : mulF p f g = formOf p (outF f g f.length (List.replicate (f.length + g.length - 1) 0)) := by
    unfold mulF
    rw [if_neg (by simp [hf0, hg0])]
  rw [hm]
  generalize hM : f.length + g.length - 1 = M
  refine sd_seq (sd_asgM (em_lcP ((List.range M).map fun i => (0 : Int) + (i : Nat)) PyData.int (fun _ => .int 0) (by simp; omega) (it_is (it_range1 (ea_cons (ec_op (ec_op (ec_cb (ea_cons (ec_val rfl) ea_nil) rc_lenT) (ec_cb (ea_cons (ec_val rfl) ea_nil) rc_lenT) rv_I0) ec_int rv_I0) ea_nil) ?_ ?_) ?_) (fun a ha => ⟨_, gt_name, ec_int⟩) fun D => ?_))
  · rw [len_iL, len_iL]; omega
  · rw [len_iL, len_iL]; omega
  · rw [len_iL, len_iL, show ((f.length : Int) + (g.length : Int) - 1).toNat = M by omega, List.map_map]; rfl
  show SdC K _ _ ((D, .lst (((List.range M).map fun i => (0 : Int) + (i : Nat)).map fun _ => PyData.int 0)) :: []) _
  rw [map_const0]
  refine sd_seq (sd_forA (List.range f.length) (fun i => pairD (.int (i : Nat)) (.int (f.getD i 0))) (it_is (it_enumT (ea_cons (ec_val rfl) ea_nil)) (enumD_map PyData.int f 0))
    (fun i ds rs => (∃ u1 u2 u3 u4 u5, ds = [.val (.int p), .val (tupI f), .val (tupI g), .raw (.ref D), u1, u2, u3, u4, u5]) ∧ rs = [(D, .lst (iL (outF f g i (List.replicate M 0))))]) ⟨⟨_, _, _, _, _, rfl⟩, rfl⟩ ?_ ?_)
  · rintro i a ds' rs' ha ⟨⟨u1, u2, u3, u4, u5, rfl⟩, rfl⟩
    obtain ⟨hi, rfl⟩ := range_at ha
    refine ⟨_, gs_tup2 gs_name gs_name, ?_⟩
    have hx : 0 ≤ f.getD i 0 ∧ f.getD i 0 < p := hR _ (FTM.getD_mem hi)
    refine sd_if (et_test (ec_op (ec_val rfl) ec_int rv_neI)) (fun h => ?_) fun h => sd_next ⟨⟨_, _, _, _, _, rfl⟩, ?_⟩
    · have hnz : f.getD i 0 ≠ 0 := by simpa using h
      refine sd_forA (List.range g.length) (fun b => pairD (.int (b : Nat)) (.int (g.getD b 0))) (it_is (it_enumT (ea_cons (ec_val rfl) ea_nil)) (enumD_map PyData.int g 0))
        (fun b ds rs => (∃ u3 u4 u5, ds = [.val (.int p), .val (tupI f), .val (tupI g), .raw (.ref D), .val (.int (i : Nat)), .val (.int (f.getD i 0)), u3, u4, u5]) ∧ rs = [(D, .lst (iL (inF i (f.getD i 0) g b (outF f g i (List.replicate M 0)))))]) ⟨⟨_, _, _, rfl⟩, rfl⟩ ?_ ?_
      · rintro b x ds' rs' hb ⟨⟨v3, v4, v5, rfl⟩, rfl⟩
        obtain ⟨hbl, rfl⟩ := range_at hb
        refine ⟨_, gs_tup2 gs_name gs_name, ?_⟩
        have hlen : (inF i (f.getD i 0) g b (outF f g i (List.replicate M 0))).length = M := by rw [inF_len, outF_len, List.length_replicate]
        have hlt : i + b < M := by omega
        refine sd_setO (em_of (ec_op (ec_ixO (ec_raw rfl) (by exact List.mem_cons_self) (ec_op (ec_val rfl) (ec_val rfl) rv_I0) (at_mapI (j := i + b) 0 (by omega) (by rw [hlen]; exact hlt))) (ec_op (ec_val rfl) (ec_val rfl) (rv_I (.inl ⟨by omega, by omega⟩))) rv_I0) ⟨_, D, _, (i : Int) + (b : Int), i + b, [], rfl, ec_raw rfl, ec_op (ec_val rfl) (ec_val rfl) rv_I0, List.Perm.refl _, ?_, ⟨⟨_, _, _, rfl⟩, ?_⟩⟩)
        · rw [len_iL, hlen]
          exact ixN_at (by omega) hlt
        · rw [inF_succ, set_iL]; rfl
      · rintro ds' rs' ⟨⟨v3, v4, v5, rfl⟩, rfl⟩
        refine ⟨⟨_, _, _, _, _, rfl⟩, ?_⟩
        rw [List.length_range, outF_succ]
        unfold outStep
        rw [if_pos hnz]
    · have hz : f.getD i 0 = 0 := by simpa using h
      rw [outF_succ]
      unfold outStep
      rw [if_neg (fun q => q hz)]
  · rintro ds' rs' ⟨⟨u1, u2, u3, u4, u5, rfl⟩, rfl⟩
    rw [List.length_range]
    refine sd_freeze (i := 3) rfl (List.Perm.refl _) ?_
    exact sd_ret (ec_call (xs := [.int p, lstI (outF f g f.length (List.replicate M 0))]) (ea_cons (ec_val rfl) (ea_cons (ec_val rfl) ea_nil)) ⟨p, _, rfl, hp, by rw [outF_len, List.length_replicate]; omega, rfl⟩) ⟨rfl, rfl⟩
end FT
set_option maxHeartbeats 1000000
namespace FT
open PySem PySem.Spec PyProof.Rows L2 DL FTM
theorem lg_nil {lifts : List Int} {i : Nat} {f : Form} {fs : List Form} {acc : Option (Int × Int)} (h : f = []) : levelGo lifts i (f :: fs) acc = levelGo lifts (i + 1) fs acc := by
  show levelGo lifts (i + 1) fs (if f = [] then acc else _) = _
  rw [if_pos h]
theorem lg_none {lifts : List Int} {i : Nat} {f : Form} {fs : List Form} (h : f ≠ []) : levelGo lifts i (f :: fs) none = levelGo lifts (i + 1) fs (some ((f.length : Int) - 1 + lifts.getD i 0, (i : Int))) := by
  show levelGo lifts (i + 1) fs (if f = [] then none else _) = _
  rw [if_neg h]
theorem lg_some {lifts : List Int} {i : Nat} {f : Form} {fs : List Form} {h0 l0 : Int} (h : f ≠ []) : levelGo lifts i (f :: fs) (some (h0, l0)) = levelGo lifts (i + 1) fs (if (f.length : Int) - 1 + lifts.getD i 0 ≥ h0 then some ((f.length : Int) - 1 + lifts.getD i 0, (i : Int)) else some (h0, l0)) := by
  show levelGo lifts (i + 1) fs (if f = [] then some (h0, l0) else _) = _
  rw [if_neg h]
def encL : Option (Int × Int) → PyData
  | none => .none
  | some (h, l) => .tuple [.int h, .int l]
def encH : Option (Int × Int) → PyData
  | none => .none
  | some (h, _) => .int h
def encA : Option (Int × Int) → PyData
  | none => .none
  | some (_, l) => .int l
theorem range0 (n : Nat) : ((List.range n).map fun i => PyData.int (0 + (i : Nat))) = (List.range n).map fun i => PyData.int (i : Nat) := List.map_congr_left fun i _ => by rw [Int.zero_add]
theorem len_map {α β : Type} (f : α → β) (xs : List α) : (xs.map f).length = xs.length := List.length_map ..
theorem getD_of {α : Type} {xs : List α} {i : Nat} {a : α} (d : α) (h : xs[i]? = some a) : xs.getD i d = a := by
  rw [List.getD_eq_getElem?_getD, h]; rfl
theorem drop_at {α : Type} {xs : List α} {i : Nat} (d : α) (h : i < xs.length) : xs.drop i = xs.getD i d :: xs.drop (i + 1) := by
  rw [List.drop_eq_getElem_cons h]
  congr 1
  rw [List.getD_eq_getElem?_getD, List.getElem?_eq_getElem h]; rfl
theorem zip_of {α β γ : Type} (F : α → β → γ) (f : List α) (g : List β) (d : α) (d2 : β) : (List.range (min f.length g.length)).map (fun i => F (f.getD i d) (g.getD i d2)) = List.zipWith F f g := by
  refine List.ext_getElem? fun i => ?_
  rw [List.getElem?_map, List.getElem?_zipWith]
  by_cases h : i < min f.length g.length
  · have h1 : i < f.length := by omega
    have h2 : i < g.length := by omega
    rw [List.getElem?_range h, List.getElem?_eq_getElem h1, List.getElem?_eq_getElem h2]
    simp [List.getD_eq_getElem?_getD, List.getElem?_eq_getElem h1, List.getElem?_eq_getElem h2]
  · rw [List.getElem?_eq_none_iff.mpr (by rw [List.length_range]; omega)]
    by_cases h1 : i < f.length
    · rw [List.getElem?_eq_none_iff.mpr (show g.length ≤ i by omega)]
      cases f[i]? <;> rfl
    · rw [List.getElem?_eq_none_iff.mpr (show f.length ≤ i by omega)]; rfl

theorem zip_rows (p : Int) (a b : FTM.Row) : Sc.val (.list ((List.range (min a.length b.length)).map fun i => tupI (subF p (a.getD i []) (b.getD i [])))) = Sc.val (.list ((List.zipWith (subF p) a b).map tupI)) := by
  rw [← zip_of (subF p) a b [] [], List.map_map]
  rfl

abbrev N_unit_row : List PySem.Str := ["places", "place", "at"]
theorem sc_unit_row : FnScope N_unit_row ["places", "place"] (defScope df_unit_row.st) := ⟨rfl, rfl, rfl, by decide +kernel, rfl, by decide +kernel, by decide +kernel⟩
abbrev W_unit_row : Wc := Pu fun xs d => ∃ m k : Nat, xs = [.int m, .int k] ∧ m ≤ 1000 ∧ d = eR (unitRow m k)
theorem w_unit_row {P : Program} {w : World} {K : PySem.W.Frag} {mg : PySem.Str → Option Value} {base : Heap} (T : Tx K mg)  : C8.Cal P w K mg base 1 "unit_row" (Fn K W_unit_row) [] := by
  refine cal_of (d := df_unit_row) (N := N_unit_row) (ps := ["places", "place"]) (n := 1) (T.d 10) rfl rfl (T.f (f := .glo "unit_row") 10) sc_unit_row (fun _ _ _ _ _ _ us hl => match us, hl with | [_, _], _ => rfl) ?_ rfl fun cdv A outer s H E hr => ?_
  · exact pu_len (fun xs d h => by obtain ⟨_, _, rfl, _⟩ := h; rfl)
  have hu := hu_of hr
  have hu0 := hr.units0
  have hu64 := hr.units
  refine ⟨_, (pss_one (ps_ret (pe_callTy call_tuple_of (by rfl) (T.f (f := .free "tuple") 52) boot_tuple (pa_cons (pe_lc (own := [("at", 2)]) (tt := tYes) rfl sc_unit_row.nd (pi_range1 (by rfl) (T.f (f := .free "range") 53) (pa_cons (pv 0) pa_nil)) (blkOk_by (N := N_unit_row) (sc := defScope df_unit_row.st) (by decide +kernel)) (fun _ _ _ _ _ => (pg_name (i := 2) sc_unit_row.nd rfl (Or.inl rfl))) (fun _ _ _ _ _ => pts_nil) (fun _ _ _ _ _ => (pe_ifExp (pt_cmpR op_eq (pv 2) (pv 1) (nomark _)) (pe_tup (pa_cons pe_int pa_nil)) (pe_tup pa_nil)))) pa_nil)))), ?_⟩
  rintro cs rs Post ⟨rfl, xs, d, rfl, ⟨m, k, rfl, hm, rfl⟩, rfl⟩
  refine sd_ret (ec_cb (ea_cons (ec_is (ec_lc (List.range m) (fun i => .int (i : Nat)) (fun i => tupI (if i = k then [1] else [])) (by rw [List.length_range]; omega) (it_is (it_range1 (ea_cons (ec_val rfl) ea_nil) (by omega) (by omega)) (by rw [Int.toNat_natCast, range0])) fun i hi => ⟨_, gt_name, ec_if (et_test (ec_op (ec_val rfl) (ec_val rfl) rv_eqI)) (fun h => ?_) fun h => ?_⟩) ?_) ea_nil) rc_tupleL) ⟨rfl, rfl⟩
  · have h : (i : Int) = (k : Int) := of_decide_eq_true h
    rw [if_pos (by omega)]
    exact ec_tup (xs := [.int 1]) (ea_cons ec_int ea_nil) (by decide)
  · have h : ¬ (i : Int) = (k : Int) := of_decide_eq_false h
    rw [if_neg (by omega)]
    exact ec_tup (xs := []) ea_nil (by decide)
  · unfold unitRow
    rw [List.map_map]
    rfl
abbrev N_subtract_rows : List PySem.Str := ["prime", "one", "other", "left", "right"]
theorem sc_subtract_rows : FnScope N_subtract_rows ["prime", "one", "other"] (defScope df_subtract_rows.st) := ⟨rfl, rfl, rfl, by decide +kernel, rfl, by decide +kernel, by decide +kernel⟩
abbrev W_subtract_rows : Wc := Pu fun xs d => ∃ p a b, xs = [.int p, eR a, eR b] ∧ 0 < p ∧ p < 1000 ∧ a.length ≤ 1000 ∧ (∀ f ∈ a, f.length ≤ 1000) ∧ (∀ f ∈ b, f.length ≤ 1000 ∧ ∀ x ∈ f, 0 ≤ x ∧ x < p) ∧ d = eR (List.zipWith (subF p) a b)
theorem w_subtract_rows {P : Program} {w : World} {K : PySem.W.Frag} {mg : PySem.Str → Option Value} {base : Heap} (T : Tx K mg) (c_subtract : C8.Cal P w K mg base 4 "subtract" (Fn K W_subtract) []) : C8.Cal P w K mg base 5 "subtract_rows" (Fn K W_subtract_rows) [] := by
  refine cal_of (d := df_subtract_rows) (N := N_subtract_rows) (ps := ["prime", "one", "other"]) (n := 2) (T.d 11) rfl rfl (T.f (f := .glo "subtract_rows") 11) sc_subtract_rows (fun _ _ _ _ _ _ us hl => match us, hl with | [_, _, _], _ => rfl) ?_ rfl fun cdv A outer s H E hr => ?_
  · exact pu_len (fun xs d h => by obtain ⟨_, _, _, rfl, _⟩ := h; rfl)
  have hu := hu_of hr
  have hu0 := hr.units0
  have hu64 := hr.units
  refine ⟨_, (pss_one (ps_ret (pe_callTy call_tuple_of (by rfl) (T.f (f := .free "tuple") 52) boot_tuple (pa_cons (pe_lc (g := (gTup K 2 (gCons (gName 3) (gCons (gName 4) gNil)))) (own := [("left", 3), ("right", 4)]) (tt := tYes) rfl sc_subtract_rows.nd (RZ.pi_zipA (by rfl) (T.f (f := .free "zip") 54) (pa_cons (pv 1) (pa_cons (pv 2) pa_nil))) (blkOk_by (N := N_subtract_rows) (sc := defScope df_subtract_rows.st) (by decide +kernel)) (fun _ _ _ _ _ => (pg_tup rfl (pgs_cons (pg_name (i := 3) sc_subtract_rows.nd rfl (Or.inl rfl)) (pgs_cons (pg_name (i := 4) sc_subtract_rows.nd rfl (Or.inl rfl)) pgs_nil)))) (fun _ _ _ _ _ => pts_nil) (fun _ _ _ _ _ => (C8.pe_c c_subtract hr (by decide) rfl (pa_cons (pv 0) (pa_cons (pv 3) (pa_cons (pv 4) pa_nil)))))) pa_nil)))), ?_⟩
  rintro cs rs Post ⟨rfl, xs, d, rfl, ⟨p, a, b, rfl, hp, hp1, hl, ha, hb, rfl⟩, rfl⟩
  refine sd_ret (ec_cb (ea_cons (ec_is (ec_lc (List.range (min a.length b.length)) (fun i => pairD (tupI (a.getD i [])) (tupI (b.getD i []))) (fun i => tupI (subF p (a.getD i []) (b.getD i []))) (by rw [List.length_range]; omega) (it_is (it_zipT (ea_cons (ec_val rfl) (ea_cons (ec_val rfl) ea_nil))) (zipD_map tupI tupI a b [] [])) fun i hi => ⟨_, gt_tup2, ec_call (xs := [.int p, tupI (a.getD i []), tupI (b.getD i [])]) (ea_cons (ec_val rfl) (ea_cons (ec_val rfl) (ea_cons (ec_val rfl) ea_nil))) ⟨p, _, _, rfl, hp, hp1, ?_, ?_, ?_, rfl⟩⟩) (zip_rows p a b)) ea_nil) rc_tupleL) ⟨rfl, rfl⟩
  · have := List.mem_range.mp hi
    exact ha _ (FTM.getD_mem (by omega))
  · have := List.mem_range.mp hi
    exact (hb _ (FTM.getD_mem (by omega))).1
  · have := List.mem_range.mp hi
    exact (hb _ (FTM.getD_mem (by omega))).2

abbrev N_row_times : List PySem.Str := ["prime", "row", "form", "own"]
theorem sc_row_times : FnScope N_row_times ["prime", "row", "form"] (defScope df_row_times.st) := ⟨rfl, rfl, rfl, by decide +kernel, rfl, by decide +kernel, by decide +kernel⟩
abbrev W_row_times : Wc := Pu fun xs d => ∃ p a g, xs = [.int p, eR a, tupI g] ∧ 0 < p ∧ p < 1000 ∧ a.length ≤ 1000 ∧ g.length ≤ 1000 ∧ (∀ f ∈ a, f.length ≤ 1000 ∧ ∀ x ∈ f, 0 ≤ x ∧ x < p) ∧ d = eR (a.map fun f => mulF p f g)
theorem w_row_times {P : Program} {w : World} {K : PySem.W.Frag} {mg : PySem.Str → Option Value} {base : Heap} (T : Tx K mg) (c_multiply : C8.Cal P w K mg base 2 "multiply" (Fn K W_multiply) []) : C8.Cal P w K mg base 3 "row_times" (Fn K W_row_times) [] := by
  refine cal_of (d := df_row_times) (N := N_row_times) (ps := ["prime", "row", "form"]) (n := 1) (T.d 12) rfl rfl (T.f (f := .glo "row_times") 12) sc_row_times (fun _ _ _ _ _ _ us hl => match us, hl with | [_, _, _], _ => rfl) ?_ rfl fun cdv A outer s H E hr => ?_
  · exact pu_len (fun xs d h => by obtain ⟨_, _, _, rfl, _⟩ := h; rfl)
  have hu := hu_of hr
  have hu0 := hr.units0
  have hu64 := hr.units
  refine ⟨_, (pss_one (ps_ret (pe_callTy call_tuple_of (by rfl) (T.f (f := .free "tuple") 52) boot_tuple (pa_cons (pe_lc (own := [("own", 3)]) (tt := tYes) rfl sc_row_times.nd (pi_tup (pv 1)) (blkOk_by (N := N_row_times) (sc := defScope df_row_times.st) (by decide +kernel)) (fun _ _ _ _ _ => (pg_name (i := 3) sc_row_times.nd rfl (Or.inl rfl))) (fun _ _ _ _ _ => pts_nil) (fun _ _ _ _ _ => (C8.pe_c c_multiply hr (by decide) rfl (pa_cons (pv 0) (pa_cons (pv 3) (pa_cons (pv 2) pa_nil)))))) pa_nil)))), ?_⟩
  rintro cs rs Post ⟨rfl, xs, d, rfl, ⟨p, a, g, rfl, hp, hp1, hl, hg, ha, rfl⟩, rfl⟩
  refine sd_ret (ec_cb (ea_cons (ec_is (ec_lc a tupI (fun f => tupI (mulF p f g)) (by omega) (it_tup (ec_val rfl)) fun f hf => ⟨_, gt_name, ec_call (xs := [.int p, tupI f, tupI g]) (ea_cons (ec_val rfl) (ea_cons (ec_val rfl) (ea_cons (ec_val rfl) ea_nil))) ⟨p, _, _, rfl, hp, hp1, (ha f hf).1, hg, (ha f hf).2, rfl⟩⟩) ?_) ea_nil) rc_tupleL) ⟨rfl, rfl⟩
  rw [List.map_map]; rfl
abbrev N_level_of : List PySem.Str := ["row", "lifts", "height", "lead", "place", "form", "reached"]
theorem sc_level_of : FnScope N_level_of ["row", "lifts"] (defScope df_level_of.st) := ⟨rfl, rfl, rfl, by decide +kernel, rfl, by decide +kernel, by decide +kernel⟩
abbrev W_level_of : Wc := Pu fun xs d => ∃ (row : FTM.Row) (lifts : List Int), xs = [eR row, tupI lifts] ∧ row.length ≤ lifts.length ∧ row.length ≤ 1000 ∧ d = encL (levelOf lifts row)
theorem w_level_of {P : Program} {w : World} {K : PySem.W.Frag} {mg : PySem.Str → Option Value} {base : Heap} (T : Tx K mg)  : C8.Cal P w K mg base 1 "level_of" (Fn K W_level_of) [] := by
  refine cal_of (d := df_level_of) (N := N_level_of) (ps := ["row", "lifts"]) (n := 5) (T.d 13) rfl rfl (T.f (f := .glo "level_of") 13) sc_level_of (fun _ _ _ _ _ _ us hl => match us, hl with | [_, _], _ => rfl) ?_ rfl fun cdv A outer s H E hr => ?_
  · exact pu_len (fun xs d h => by obtain ⟨_, _, rfl, _⟩ := h; rfl)
  have hu := hu_of hr
  have hu0 := hr.units0
  have hu64 := hr.units
  refine ⟨_, (pss_cons (ps_set (i := 2) sc_level_of.nd rfl (Or.inl rfl) pe_non)
  (pss_cons (ps_set (i := 3) sc_level_of.nd rfl (Or.inl rfl) pe_non)
  (pss_cons (ps_for PassesOwn.never rfl (DLX.pi_enumT (by rfl) (T.f (f := .free "enumerate") 55) (pa_cons (pv 0) pa_nil)) (pg_tup rfl (pgs_cons (pg_name (i := 4) sc_level_of.nd rfl (Or.inl rfl)) (pgs_cons (pg_name (i := 5) sc_level_of.nd rfl (Or.inl rfl)) pgs_nil)))
  (pss_one (ps_if (pt_truth (pv 5) (fun _ => rfl))
  (pss_cons (ps_set (i := 6) sc_level_of.nd rfl (Or.inl rfl) (pe_op op_add (pe_op op_sub (pe_callB call_len_seq (by rfl) (T.f (f := .free "len") 51) boot_len (pa_cons (pv 5) pa_nil)) pe_int) (pe_ix ix_tup (pv 1) (pv 4) (fun _ _ => rfl))))
  (pss_one (ps_if (PW.pt (pw_or (pt_cmp (pc_isN (pv 2))) (pw_or1 (pt_cmpR op_ge (pv 6) (pv 2) (nomark _)))))
  (pss_cons (ps_set (i := 2) sc_level_of.nd rfl (Or.inl rfl) (pv 6))
  (pss_one (ps_set (i := 3) sc_level_of.nd rfl (Or.inl rfl) (pv 4)))) pss_nil))) pss_nil)))
  (pss_cons (ps_if (pt_cmp (pc_isN (pv 2)))
  (pss_one (ps_ret pe_non)) pss_nil)
  (pss_one (ps_ret (pe_tup (pa_cons (pv 2) (pa_cons (pv 3) pa_nil))))))))), ?_⟩
  rintro cs rs Post ⟨rfl, xs, d, rfl, ⟨row, lifts, rfl, hl, hl2, rfl⟩, rfl⟩
  refine sd_seq (sd_asg ec_non (sd_seq (sd_asg ec_non (sd_seq ?_))))
  refine sd_forA (List.range row.length) (fun i => pairD (.int (i : Nat)) (tupI (row.getD i []))) (it_is (it_enumT (ea_cons (ec_val rfl) ea_nil)) (enumD_map tupI row []))
    (fun i ds rs => rs = [] ∧ ∃ acc u1 u2 u3, ds = [.val (eR row), .val (tupI lifts), .val (encH acc), .val (encA acc), u1, u2, u3] ∧ levelGo lifts i (row.drop i) acc = levelOf lifts row) ⟨rfl, none, _, _, _, rfl, rfl⟩ ?_ ?_
  · rintro i a ds' rs' ha ⟨rfl, acc, u1, u2, u3, rfl, he⟩
    obtain ⟨hi, rfl⟩ := range_at ha
    rw [drop_at [] hi] at he
    refine ⟨_, gs_tup2 gs_name gs_name, ?_⟩
    refine sd_if (et_truT (ec_val rfl)) (fun h => ?_) fun h => sd_next ⟨rfl, acc, _, _, _, rfl, ?_⟩
    · have hnz : row.getD i [] ≠ [] := fun z => by rw [z] at h; cases h
      refine sd_seq (sd_asg (ec_op (ec_op (ec_cb (ea_cons (ec_val rfl) ea_nil) rc_lenT) ec_int rv_I0) (ec_op (ec_val rfl) (ec_val rfl) (rv_ixT (at_map 0 (by omega)))) rv_I0) ?_)
      rw [len_iL]
      cases acc with
      | none =>
        rw [lg_none hnz] at he
        refine sd_if (et_or (b := false) (et_B (ec_isN (ec_val rfl))) fun h => Bool.noConfusion (show true = false from h)) (fun _ => ?_) fun h => Bool.noConfusion (show true = false from h)
        exact sd_seq (sd_asg (ec_val rfl) (sd_asg (ec_val rfl) ⟨rfl, some (((row.getD i []).length : Int) - 1 + lifts.getD i 0, (i : Int)), _, _, _, rfl, he⟩))
      | some hl' =>
        obtain ⟨h0, l0⟩ := hl'
        rw [lg_some hnz] at he
        refine sd_if (et_or (et_B (ec_isN (ec_val rfl))) fun _ => et_test (ec_op (ec_val rfl) (ec_val rfl) rv_B0)) (fun h => ?_) fun h => ?_
        · have h2 : ((row.getD i []).length : Int) - 1 + lifts.getD i 0 ≥ h0 := by
            have : (false || decide (((row.getD i []).length : Int) - 1 + lifts.getD i 0 ≥ h0)) = true := h
            simpa using this
          rw [if_pos h2] at he
          exact sd_seq (sd_asg (ec_val rfl) (sd_asg (ec_val rfl) ⟨rfl, some (((row.getD i []).length : Int) - 1 + lifts.getD i 0, (i : Int)), _, _, _, rfl, he⟩))
        · have h2 : ¬ ((row.getD i []).length : Int) - 1 + lifts.getD i 0 ≥ h0 := by
            have : (false || decide (((row.getD i []).length : Int) - 1 + lifts.getD i 0 ≥ h0)) = false := h
            simpa using this
          rw [if_neg h2] at he
          exact sd_next ⟨rfl, some (h0, l0), _, _, _, rfl, he⟩
    · have hz : row.getD i [] = [] := by
        cases q : row.getD i [] with
        | nil => rfl
        | cons a b => rw [q] at h; cases h
      rw [lg_nil hz] at he
      exact he
  · rintro ds' rs' ⟨rfl, acc, u1, u2, u3, rfl, he⟩
    rw [List.length_range, List.drop_length] at he
    have he : acc = levelOf lifts row := he
    rw [← he]
    cases acc with
    | none =>
      refine sd_seq (sd_if (et_B (ec_isN (ec_val rfl))) (fun _ => sd_ret ec_non ⟨rfl, rfl⟩) fun h => by cases h)
    | some hl' =>
      obtain ⟨h0, l0⟩ := hl'
      refine sd_seq (sd_if (et_B (ec_isN (ec_val rfl))) (fun h => by cases h) fun _ => sd_next ?_)
      exact sd_ret (ec_tup (xs := [.int h0, .int l0]) (ea_cons (ec_val rfl) (ea_cons (ec_val rfl) ea_nil)) (by show 2 ≤ 100000; decide)) ⟨rfl, rfl⟩
abbrev N_height_of : List PySem.Str := ["row", "lifts", "level"]
theorem sc_height_of : FnScope N_height_of ["row", "lifts"] (defScope df_height_of.st) := ⟨rfl, rfl, rfl, by decide +kernel, rfl, by decide +kernel, by decide +kernel⟩
abbrev W_height_of : Wc := Pu fun xs d => ∃ (row : FTM.Row) (lifts : List Int), xs = [eR row, tupI lifts] ∧ row.length ≤ lifts.length ∧ row.length ≤ 1000 ∧ d = encH (levelOf lifts row)
theorem w_height_of {P : Program} {w : World} {K : PySem.W.Frag} {mg : PySem.Str → Option Value} {base : Heap} (T : Tx K mg) (c_level_of : C8.Cal P w K mg base 1 "level_of" (Fn K W_level_of) []) : C8.Cal P w K mg base 2 "height_of" (Fn K W_height_of) [] := by
  refine cal_of (d := df_height_of) (N := N_height_of) (ps := ["row", "lifts"]) (n := 1) (T.d 14) rfl rfl (T.f (f := .glo "height_of") 14) sc_height_of (fun _ _ _ _ _ _ us hl => match us, hl with | [_, _], _ => rfl) ?_ rfl fun cdv A outer s H E hr => ?_
  · exact pu_len (fun xs d h => by obtain ⟨_, _, rfl, _⟩ := h; rfl)
  have hu := hu_of hr
  have hu0 := hr.units0
  have hu64 := hr.units
  refine ⟨_, (pss_cons (ps_set (i := 2) sc_height_of.nd rfl (Or.inl rfl) (C8.pe_c c_level_of hr (by decide) rfl (pa_cons (pv 0) (pa_cons (pv 1) pa_nil))))
  (pss_cons (ps_if (pt_cmp (pc_isN (pv 2)))
  (pss_one (ps_ret pe_non)) pss_nil)
  (pss_one (ps_ret (pe_ix ix_tup (pv 2) pe_int (fun _ _ => rfl)))))), ?_⟩
  rintro cs rs Post ⟨rfl, xs, d, rfl, ⟨row, lifts, rfl, hl, hl2, rfl⟩, rfl⟩
  refine sd_seq (sd_asg (ec_call (xs := [eR row, tupI lifts]) (ea_cons (ec_val rfl) (ea_cons (ec_val rfl) ea_nil)) ⟨row, lifts, rfl, hl, hl2, rfl⟩) ?_)
  cases levelOf lifts row with
  | none => exact sd_seq (sd_if (et_B (ec_isN (ec_val rfl))) (fun _ => sd_ret ec_non ⟨rfl, rfl⟩) fun h => by cases h)
  | some hl' =>
    obtain ⟨h0, l0⟩ := hl'
    refine sd_seq (sd_if (et_B (ec_isN (ec_val rfl))) (fun h => by cases h) fun _ => sd_next ?_)
    exact sd_ret (ec_op (ec_val rfl) ec_int (rv_ixT (d := .int h0) rfl)) ⟨rfl, rfl⟩
abbrev N_is_column : List PySem.Str := ["prime", "width", "value", "letter"]
theorem sc_is_column : FnScope N_is_column ["prime", "width", "value"] (defScope df_is_column.st) := ⟨rfl, rfl, rfl, by decide +kernel, rfl, by decide +kernel, by decide +kernel⟩
abbrev W_is_column : Wc := Pu fun xs d => ∃ (p : Int) (c : List Int), xs = [.int p, .int c.length, tupI c] ∧ c.length ≤ 1000 ∧ (∀ x ∈ c, 0 ≤ x ∧ x < p) ∧ d = .bool true
theorem w_is_column {P : Program} {w : World} {K : PySem.W.Frag} {mg : PySem.Str → Option Value} {base : Heap} (T : Tx K mg) (c_is_residue : C8.Cal P w K mg base 3 "is_residue" (Fn K W_is_residue) []) : C8.Cal P w K mg base 4 "is_column" (Fn K W_is_column) [] := by
  refine cal_of (d := df_is_column) (N := N_is_column) (ps := ["prime", "width", "value"]) (n := 1) (T.d 15) rfl rfl (T.f (f := .glo "is_column") 15) sc_is_column (fun _ _ _ _ _ _ us hl => match us, hl with | [_, _, _], _ => rfl) ?_ rfl fun cdv A outer s H E hr => ?_
  · exact pu_len (fun xs d h => by obtain ⟨_, _, rfl, _⟩ := h; rfl)
  have hu := hu_of hr
  have hu0 := hr.units0
  have hu64 := hr.units
  refine ⟨_, (pss_cons (ps_if (PW.pt (pw_or (pt_not (pt_val (pe_callB call_isi (by rfl) (T.f (f := .free "isinstance") 49) boot_isinstance (pa_cons (pv 2) (pa_cons (pe_bltn (v := .ty "tuple") (by rfl) (T.f (f := .free "tuple") 52) boot_tuple rfl) pa_nil))))) (pw_or1 (pt_cmpR op_ne (pe_callB call_len_seq (by rfl) (T.f (f := .free "len") 51) boot_len (pa_cons (pv 2) pa_nil)) (pv 1) (nomark _)))))
  (pss_one (ps_ret pe_bl)) pss_nil)
  (pss_one (ps_ret (pe_callB (cr_all rfl) (by rfl) (T.f (f := .free "all") 50) boot_all (pa_cons (pe_lc (own := [("letter", 3)]) (tt := tYes) rfl sc_is_column.nd (pi_tup (pv 2)) (blkOk_by (N := N_is_column) (sc := defScope df_is_column.st) (by decide +kernel)) (fun _ _ _ _ _ => (pg_name (i := 3) sc_is_column.nd rfl (Or.inl rfl))) (fun _ _ _ _ _ => pts_nil) (fun _ _ _ _ _ => (C8.pe_c c_is_residue hr (by decide) rfl (pa_cons (pv 0) (pa_cons (pv 3) pa_nil))))) pa_nil))))), ?_⟩
  rintro cs rs Post ⟨rfl, xs, d, rfl, ⟨p, c, rfl, hl, hc, rfl⟩, rfl⟩
  refine sd_seq (sd_if (et_or (et_not (et_B (ec_isi (ec_val rfl) rfl))) fun _ => et_test (ec_op (ec_cb (ea_cons (ec_val rfl) ea_nil) rc_lenT) (ec_val rfl) rv_neI)) (fun h => ?_) fun _ => sd_next ?_)
  · rw [len_iL] at h
    simp [isT, tyD] at h
  · refine sd_ret (ec_cb (ea_cons (ec_lc c PyData.int (fun x => .bool (numD (.int x) 0 (p - 1))) (by omega) (it_tup (ec_val rfl)) fun x hx => ⟨_, gt_name, ec_call (xs := [.int p, .int x]) (ea_cons (ec_val rfl) (ea_cons (ec_val rfl) ea_nil)) ⟨_, _, rfl, rfl⟩⟩) ea_nil) (rc_all' (bs := c.map fun x => numD (.int x) 0 (p - 1)) ?_)) ⟨rfl, rfl⟩
    rw [List.all_map, List.all_eq_true]
    intro x hx
    have := hc x hx
    exact numD_int this.1 (by omega)
end FT
set_option maxHeartbeats 1000000
namespace FT
open PySem PySem.Spec PyProof.Rows L2 DL FTM
/-! ### the lowest row -/
theorem pg_cons (lv : List (Int × Int)) (i : Nat) (n : Int) (ns : List Int) (acc : Option Nat) : pickGo lv i (n :: ns) acc = pickGo lv (i + 1) ns (if n ≠ 0 ∧ (match acc with | none => true | some j => ltLex (lv.getD i (0, 0)) (lv.getD j (0, 0))) = true then some i else acc) := rfl
theorem lex_pair (a b : Int × Int) : HT.lexLt [a.1, a.2] [b.1, b.2] = ltLex a b := by
  unfold ltLex
  rw [HT.lexLt_cons, HT.lexLt_cons]
  split
  · split
    · rename_i h
      rw [h]
      simp [HT.lexLt_nil_nil]
    · rfl
  · rfl
def encP : Option Nat → PyData
  | none => .int (-1)
  | some j => .int (j : Nat)
theorem encL_getD {o : Option (Int × Int)} (h : o.isSome = true) : encL o = tupI [(o.getD (0, 0)).1, (o.getD (0, 0)).2] := by
  cases o with
  | none => cases h
  | some x => rfl
theorem encH_getD {o : Option (Int × Int)} (h : o.isSome = true) : encH o = .int (o.getD (0, 0)).1 := by
  cases o with
  | none => cases h
  | some x => rfl
theorem grown_none {p : Int} {lifts : List Int} {base : Base} {nums : List Int} (h : none = pickLow (levs lifts base) nums) : grownBase p lifts base nums = base := by
  unfold grownBase; rw [← h]
theorem grown_some {p : Int} {lifts : List Int} {base : Base} {nums : List Int} {k : Nat} (h : some k = pickLow (levs lifts base) nums) : grownBase p lifts base nums = (List.range base.length).map (newRow p base nums k) := by
  unfold grownBase; rw [← h]
/-- what a base is, as the package needs it -/
structure BaseOk (p : Int) (l : Nat) (base : Base) : Prop where
  l9 : l ≤ 9
  len : base.length ≤ 10
  row : ∀ r ∈ base, r.length = l + 1 ∧ (∀ f ∈ r, f.length ≤ 900 ∧ ∀ x ∈ f, 0 ≤ x ∧ x < p) ∧ (levelOf (liftsOf l) r).isSome = true
theorem liftsOf_len (l : Nat) : (liftsOf l).length = l + 1 := by
  unfold liftsOf
  rw [List.length_cons, List.length_replicate]
theorem mulF_len (p : Int) (f : List Int) (c : Int) : (mulF p f [c]).length ≤ f.length := by
  rw [mulF_C]
  unfold mulC
  split
  · exact Nat.zero_le _
  · unfold formOf
    refine Nat.le_trans (trim_len _) ?_
    rw [List.length_map, List.length_map]
    exact Nat.le_refl _
theorem mem_mulF {p : Int} (hp : 0 < p) {f g : List Int} {x : Int} (h : x ∈ mulF p f g) : 0 ≤ x ∧ x < p := by
  unfold mulF at h
  split at h
  · cases h
  · exact (red_formOf hp _).1 x h

abbrev N_grown_base : List PySem.Str := ["prime", "lifts", "base", "numbers", "factor", "lowest", "levels", "at", "number", "share", "pivot", "grown", "row", "times"]
theorem sc_grown_base : FnScope N_grown_base ["prime", "lifts", "base", "numbers", "factor"] (defScope df_grown_base.st) := ⟨rfl, rfl, rfl, by decide +kernel, rfl, by decide +kernel, by decide +kernel⟩
abbrev W_grown_base : Wc := Pu fun xs d => ∃ (p : Int) (l : Nat) (base : Base) (nums : List Int), xs = [.int p, tupI (liftsOf l), eB base, lstI nums, tupI [0, 1]] ∧ p ∈ primes ∧ BaseOk p l base ∧ nums.length = base.length ∧ (∀ x ∈ nums, 0 ≤ x ∧ x < p) ∧ d = eB (grownBase p (liftsOf l) base nums)
theorem w_grown_base {P : Program} {w : World} {K : PySem.W.Frag} {mg : PySem.Str → Option Value} {base : Heap} (T : Tx K mg) (c_inverse : C8.Cal P w K mg base 1 "inverse" (Fn K W_inverse) []) (c_level_of : C8.Cal P w K mg base 1 "level_of" (Fn K W_level_of) []) (c_row_times : C8.Cal P w K mg base 3 "row_times" (Fn K W_row_times) []) (c_subtract_rows : C8.Cal P w K mg base 5 "subtract_rows" (Fn K W_subtract_rows) []) : C8.Cal P w K mg base 6 "grown_base" (Fn K W_grown_base) [] := by
  refine cal_of (d := df_grown_base) (N := N_grown_base) (ps := ["prime", "lifts", "base", "numbers", "factor"]) (n := 9) (T.d 16) rfl rfl (T.f (f := .glo "grown_base") 16) sc_grown_base (fun _ _ _ _ _ _ us hl => match us, hl with | [_, _, _, _, _], _ => rfl) ?_ rfl fun cdv A outer s H E hr => ?_
  · exact pu_len (fun xs d h => by obtain ⟨_, _, _, _, rfl, _⟩ := h; rfl)
  have hu := hu_of hr
  have hu0 := hr.units0
  have hu64 := hr.units
  refine ⟨_, (pss_cons (ps_set (i := 5) sc_grown_base.nd rfl (Or.inl rfl) (pe_un un_neg pe_int))
  (pss_cons (ps_setLc (i := 6) (own := [("row", 12)]) (tt := tYes) rfl sc_grown_base.nd rfl rfl (sw_true rfl rfl rfl (by decide +kernel)) (pi_list (pv 2)) (blkOk_by (N := N_grown_base) (sc := defScope df_grown_base.st) (by decide +kernel)) (fun _ _ _ _ _ => (pg_name (i := 12) sc_grown_base.nd rfl (Or.inl rfl))) (fun _ _ _ _ _ => pts_nil) (fun _ _ _ _ _ => (C8.pe_c c_level_of hr (by decide) rfl (pa_cons (pv 12) (pa_cons (pv 1) pa_nil)))))
  (pss_cons (ps_for PassesOwn.never rfl (pi_enum (by rfl) (T.f (f := .free "enumerate") 55) (pa_cons (pv 3) pa_nil)) (pg_tup rfl (pgs_cons (pg_name (i := 7) sc_grown_base.nd rfl (Or.inl rfl)) (pgs_cons (pg_name (i := 8) sc_grown_base.nd rfl (Or.inl rfl)) pgs_nil)))
  (pss_one (ps_if (PW.pt (pw_and (pt_cmpR op_ne (pv 8) pe_int (nomark _)) (pw_and1 (PW.pt (pw_or (pt_cmpR op_eq (pv 5) (pe_un un_neg pe_int) (nomark _)) (pw_or1 (pt_cmpR (op_ltT hu0) (pe_ix ix_list (pv 6) (pv 7) (fun _ _ => rfl)) (pe_ix ix_list (pv 6) (pv 5) (fun _ _ => rfl)) (nomark _))))))))
  (pss_one (ps_set (i := 5) sc_grown_base.nd rfl (Or.inl rfl) (pv 7))) pss_nil)))
  (pss_cons (ps_if (pt_cmpR op_eq (pv 5) (pe_un un_neg pe_int) (nomark _))
  (pss_one (ps_ret (pv 2))) pss_nil)
  (pss_cons (ps_set (i := 9) sc_grown_base.nd rfl (Or.inl rfl) (C8.pe_c c_inverse hr (by decide) rfl (pa_cons (pv 0) (pa_cons (pe_ix ix_list (pv 3) (pv 5) (fun _ _ => rfl)) pa_nil))))
  (pss_cons (ps_set (i := 10) sc_grown_base.nd rfl (Or.inl rfl) (pe_ix ix_list (pv 2) (pv 5) (fun _ _ => rfl)))
  (pss_cons (ps_set (i := 11) sc_grown_base.nd rfl (Or.inl rfl) (pe_lst pa_nil))
  (pss_cons (ps_for PassesOwn.never rfl (pi_enum (by rfl) (T.f (f := .free "enumerate") 55) (pa_cons (pv 2) pa_nil)) (pg_tup rfl (pgs_cons (pg_name (i := 7) sc_grown_base.nd rfl (Or.inl rfl)) (pgs_cons (pg_name (i := 12) sc_grown_base.nd rfl (Or.inl rfl)) pgs_nil)))
  (pss_one (ps_if (pt_cmpR op_eq (pv 7) (pv 5) (nomark _))
  (pss_one (ps_expr (pe_bm PySem.F.plainAttrs_list PySem.F.slot_list_append PySem.F.type_list_append mt_append (pv 11) (pa_cons (C8.pe_c c_row_times hr (by decide) rfl (pa_cons (pv 0) (pa_cons (pv 12) (pa_cons (pv 4) pa_nil)))) pa_nil)))) (pss_one (ps_if (pt_cmpR op_ne (pe_ix ix_list (pv 3) (pv 7) (fun _ _ => rfl)) pe_int (nomark _))
  (pss_cons (ps_set (i := 13) sc_grown_base.nd rfl (Or.inl rfl) (pe_tup (pa_cons (pe_op op_mod (pe_op op_mul (pe_ix ix_list (pv 3) (pv 7) (fun _ _ => rfl)) (pv 9)) (pv 0)) pa_nil)))
  (pss_one (ps_expr (pe_bm PySem.F.plainAttrs_list PySem.F.slot_list_append PySem.F.type_list_append mt_append (pv 11) (pa_cons (C8.pe_c c_subtract_rows hr (by decide) rfl (pa_cons (pv 0) (pa_cons (pv 12) (pa_cons (C8.pe_c c_row_times hr (by decide) rfl (pa_cons (pv 0) (pa_cons (pv 10) (pa_cons (pv 13) pa_nil)))) pa_nil)))) pa_nil))))) (pss_one (ps_expr (pe_bm PySem.F.plainAttrs_list PySem.F.slot_list_append PySem.F.type_list_append mt_append (pv 11) (pa_cons (pv 12) pa_nil)))))))))
  (pss_one (ps_ret (pv 11))))))))))), ?_⟩
  rintro cs rs Post ⟨rfl, xs, d, rfl, ⟨p, l, base, nums, rfl, hp, B, hln, hn, rfl⟩, rfl⟩
  have hp2 := prime_lt hp
  have hb10 := B.len
  have hl9 := B.l9
  refine sd_seq (sd_asg (ec_un ec_int ru_neg) ?_)
  refine sd_seq (sd_asg (c := .val (.list ((levs (liftsOf l) base).map fun x => tupI [x.1, x.2]))) (ec_is (ec_lc base eR (fun r => encL (levelOf (liftsOf l) r)) (by omega) (it_list (ec_val rfl)) fun r hr => ⟨_, gt_name, ec_call (xs := [eR r, tupI (liftsOf l)]) (ea_cons (ec_val rfl) (ea_cons (ec_val rfl) ea_nil)) ⟨r, _, rfl, by rw [liftsOf_len, (B.row r hr).1]; exact Nat.le_refl _, by rw [(B.row r hr).1]; omega, rfl⟩⟩) ?_) ?_)
  · unfold levs
    rw [List.map_map]
    refine congrArg (fun z => Sc.val (PyData.list z)) (List.map_congr_left fun r hr => ?_)
    rw [encL_getD (B.row r hr).2.2]
    rfl
  have hlv : (levs (liftsOf l) base).length = base.length := by unfold levs; rw [List.length_map]
  generalize hL : levs (liftsOf l) base = lv at hlv
  refine sd_seq (sd_forA (List.range nums.length) (fun i => pairD (.int (i : Nat)) (.int (nums.getD i 0))) (it_is (it_enumL (ea_cons (ec_val rfl) ea_nil)) (enumD_map PyData.int nums 0))
    (fun i ds rs => rs = [] ∧ ∃ acc u1 u2 u3 u4 u5 u6 u7, ds = [.val (.int p), .val (tupI (liftsOf l)), .val (eB base), .val (lstI nums), .val (tupI [0, 1]), .val (encP acc), .val (.list (lv.map fun x => tupI [x.1, x.2])), u1, u2, u3, u4, u5, u6, u7] ∧ pickGo lv i (nums.drop i) acc = pickLow lv nums ∧ ∀ j, acc = some j → j < nums.length ∧ nums.getD j 0 ≠ 0)
    ⟨rfl, none, _, _, _, _, _, _, _, rfl, rfl, fun j z => nomatch z⟩ ?_ ?_)
  · rintro i a ds' rs' ha ⟨rfl, acc, u1, u2, u3, u4, u5, u6, u7, rfl, he, hacc⟩
    obtain ⟨hi, rfl⟩ := range_at ha
    rw [drop_at 0 hi, pg_cons] at he
    refine ⟨_, gs_tup2 gs_name gs_name, ?_⟩
    have hc : ∃ t, t = decide (nums.getD i 0 ≠ 0 ∧ (match acc with | none => true | some j => ltLex (lv.getD i (0, 0)) (lv.getD j (0, 0))) = true) := ⟨_, rfl⟩
    obtain ⟨tb, htb⟩ := hc
    refine sd_if (b := tb) ?_ (fun h => ?_) fun h => ?_
    · rw [htb]
      cases acc with
      | none =>
        exact et_is (et_and (a := !decide (nums.getD i 0 = 0)) (b := true) (et_test (ec_op (ec_val rfl) ec_int rv_neI)) fun _ => et_or (a := true) (b := false) (et_test (ec_op (c1 := .val (.int (-1))) (c2 := .val (.int (-1))) (ec_val rfl) (ec_un ec_int ru_neg) rv_eqI)) fun h => Bool.noConfusion h) (by simp)
      | some j =>
        obtain ⟨hj, _⟩ := hacc j rfl
        have e1 : decide ((j : Int) = -1) = false := decide_eq_false (by omega)
        have e2 := lex_pair (lv.getD i (0, 0)) (lv.getD j (0, 0))
        refine et_is (et_and (a := !decide (nums.getD i 0 = 0)) (b := ltLex (lv.getD i (0, 0)) (lv.getD j (0, 0))) (et_test (ec_op (ec_val rfl) ec_int rv_neI)) fun _ => et_is (et_or (a := decide ((j : Int) = -1)) (b := ltLex (lv.getD i (0, 0)) (lv.getD j (0, 0))) (et_test (ec_op (c1 := .val (.int (j : Nat))) (c2 := .val (.int (-1))) (ec_val rfl) (ec_un ec_int ru_neg) rv_eqI)) fun _ => ?_) (by rw [e1]; rfl)) (by rw [Bool.eq_iff_iff]; simp)
        rw [← e2]
        exact et_test (ec_op (c1 := .val (tupI [(lv.getD i (0, 0)).1, (lv.getD i (0, 0)).2])) (c2 := .val (tupI [(lv.getD j (0, 0)).1, (lv.getD j (0, 0)).2])) (ec_op (ec_val rfl) (ec_val rfl) (rv_ixL (at_map (enc := fun x : Int × Int => tupI [x.1, x.2]) (0, 0) (by omega)))) (ec_op (ec_val rfl) (ec_val rfl) (rv_ixL (at_map (enc := fun x : Int × Int => tupI [x.1, x.2]) (0, 0) (by omega)))) rv_ltT)
    · rw [htb] at h
      have h := of_decide_eq_true h
      rw [if_pos h] at he
      exact sd_asg (ec_val rfl) ⟨rfl, some i, _, _, _, _, _, _, _, rfl, he, fun j e => by
        cases e
        exact ⟨hi, h.1⟩⟩
    · rw [htb] at h
      have h := of_decide_eq_false h
      rw [if_neg h] at he
      exact sd_next ⟨rfl, acc, _, _, _, _, _, _, _, rfl, he, hacc⟩
  rintro ds' rs' ⟨rfl, acc, u1, u2, u3, u4, u5, u6, u7, rfl, he, hacc⟩
  rw [List.length_range, List.drop_length] at he
  have he : acc = pickLow lv nums := he
  rw [← hL] at he
  cases acc with
  | none =>
    rw [grown_none he]
    refine sd_seq (sd_if (et_test (ec_is (ec_op (ec_val rfl) (ec_un ec_int ru_neg) rv_eqI) rfl)) (fun _ => sd_ret (ec_val rfl) ⟨rfl, rfl⟩) fun h => by cases h)
  | some k =>
    rw [grown_some he]
    obtain ⟨hk, hk0⟩ := hacc k rfl
    have hkn := hn _ (FTM.getD_mem (d := 0) hk)
    refine sd_seq (sd_if (b := false) (et_test (ec_is (ec_op (ec_val rfl) (ec_un ec_int ru_neg) rv_eqI) (by rw [decide_eq_false (by omega)]))) (fun h => by cases h) fun _ => sd_next ?_)
    refine sd_seq (sd_asg (ec_call (d := .int (inv p (nums.getD k 0))) (xs := [.int p, .int (nums.getD k 0)]) (ea_cons (ec_val rfl) (ea_cons (ec_op (ec_val rfl) (ec_val rfl) (rv_ixL (at_map 0 hk))) ea_nil)) ⟨_, _, rfl, hp, by omega, hkn.2, rfl⟩) ?_)
    refine sd_seq (sd_asg (ec_op (ec_val rfl) (ec_val rfl) (rv_ixL (at_map [] (by omega)))) ?_)
    refine sd_seq (sd_asgM (em_lstF (eam_nil ⟨[], rfl, by decide, fun D => ?_⟩)))
    have hrow : ∀ i, i < base.length → base.getD i [] ∈ base := fun i hi => FTM.getD_mem hi
    refine sd_seq (sd_forA (List.range base.length) (fun i => pairD (.int (i : Nat)) (eR (base.getD i []))) (it_is (it_enumL (ea_cons (ec_val rfl) ea_nil)) (enumD_map eR base []))
      (fun i ds rs => rs = [(D, .lst (((List.range i).map (newRow p base nums k)).map eR))] ∧ ∃ u1 u2 u3 u4, ds = [.val (.int p), .val (tupI (liftsOf l)), .val (eB base), .val (lstI nums), .val (tupI [0, 1]), .val (.int (k : Nat)), .val (.list (lv.map fun x => tupI [x.1, x.2])), u1, u2, .val (.int (inv p (nums.getD k 0))), .val (eR (base.getD k [])), .raw (.ref D), u3, u4])
      ⟨rfl, _, _, _, _, rfl⟩ ?_ ?_)
    · rintro i a ds' rs' ha ⟨rfl, u1, u2, u3, u4, rfl⟩
      obtain ⟨hi, rfl⟩ := range_at ha
      refine ⟨_, gs_tup2 gs_name gs_name, ?_⟩
      have B1 := B.row _ (hrow i hi)
      have Bk := B.row _ (hrow k (by omega))
      have happ : ∀ r : FTM.Row, newRow p base nums k i = r → (((List.range i).map (newRow p base nums k)).map eR) ++ [eR r] = ((List.range (i + 1)).map (newRow p base nums k)).map eR := fun r hr => by
        rw [List.range_succ, List.map_append, List.map_append, List.map_singleton, hr]; rfl
      have hil : (((List.range i).map (newRow p base nums k)).map eR).length < 100000 := by simp; omega
      refine sd_if (et_test (ec_op (ec_val rfl) (ec_val rfl) rv_eqI)) (fun h => ?_) fun h => ?_
      · have h : (i : Int) = (k : Int) := of_decide_eq_true h
        have h : i = k := by omega
        subst h
        refine sd_app (ec_raw rfl) List.mem_cons_self (eam_of (ea_cons (ec_call (d := eR ((base.getD i []).map (mulX p))) (xs := [.int p, eR (base.getD i []), tupI [0, 1]]) (ea_cons (ec_val rfl) (ea_cons (ec_val rfl) (ea_cons (ec_val rfl) ea_nil))) ⟨_, _, _, rfl, by omega, by omega, by rw [B1.1]; omega, by decide, fun f hf => ⟨by have := (B1.2.1 f hf).1; omega, (B1.2.1 f hf).2⟩, ?_⟩) ea_nil) ⟨_, _, [], rfl, List.Perm.refl _, hil, ?_, _, _, _, _, rfl⟩)
        · refine congrArg eR (List.map_congr_left fun f _ => (mulF_X p f).symm)
        · rw [happ _ (by unfold newRow; rw [if_pos rfl])]
      · have h : ¬ (i : Int) = (k : Int) := of_decide_eq_false h
        have h : i ≠ k := by omega
        refine sd_if (et_test (ec_op (ec_op (ec_val rfl) (ec_val rfl) (rv_ixL (at_map 0 (by omega)))) ec_int rv_neI)) (fun h2 => ?_) fun h2 => ?_
        · have h2 : nums.getD i 0 ≠ 0 := by simpa using h2
          have hni := hn _ (FTM.getD_mem (d := 0) (show i < nums.length by omega))
          generalize hc : nums.getD i 0 * inv p (nums.getD k 0) % p = c
          refine sd_seq (sd_asg (c := .val (tupI [c])) (ec_is (ec_tup (xs := [.int (nums.getD i 0 * inv p (nums.getD k 0) % p)]) (ea_cons (ec_op (ec_op (ec_op (ec_val rfl) (ec_val rfl) (rv_ixL (at_map 0 (by omega)))) (ec_val rfl) (rv_I (.inl ⟨by omega, by omega⟩))) (ec_val rfl) (rv_I (show (0 : Int) < p by omega))) ea_nil) (by show 1 ≤ 100000; decide)) (by rw [hc]; rfl)) ?_)
          refine sd_app (ec_raw rfl) List.mem_cons_self (eam_of (ea_cons (ec_call (d := eR (newRow p base nums k i)) (xs := [.int p, eR (base.getD i []), eR ((base.getD k []).map fun f => mulF p f [c])]) (ea_cons (ec_val rfl) (ea_cons (ec_val rfl) (ea_cons (ec_call (xs := [.int p, eR (base.getD k []), tupI [c]]) (ea_cons (ec_val rfl) (ea_cons (ec_val rfl) (ea_cons (ec_val rfl) ea_nil))) ⟨_, _, _, rfl, by omega, by omega, by rw [Bk.1]; omega, by show 1 ≤ 1000; decide, fun f hf => ⟨by have := (Bk.2.1 f hf).1; omega, (Bk.2.1 f hf).2⟩, rfl⟩) ea_nil))) ⟨_, _, _, rfl, by omega, by omega, by rw [B1.1]; omega, fun f hf => by have := (B1.2.1 f hf).1; omega, fun f hf => ?_, ?_⟩) ea_nil) ⟨_, _, [], rfl, List.Perm.refl _, hil, ?_, _, _, _, _, rfl⟩)
          · obtain ⟨f0, hf0, rfl⟩ := List.mem_map.mp hf
            refine ⟨?_, fun x hx => mem_mulF (by omega) hx⟩
            have h1 := mulF_len p f0 c
            have h2 := (Bk.2.1 f0 hf0).1
            omega
          · unfold newRow
            rw [if_neg h, if_pos h2, hc]
            exact congrArg (fun z => eR (List.zipWith (subF p) (base.getD i []) z)) (List.map_congr_left fun f _ => (mulF_C p f c).symm)
          · rw [happ _ rfl]
        · have h2 : nums.getD i 0 = 0 := by simpa using h2
          refine sd_app (ec_raw rfl) List.mem_cons_self (eam_of (ea_cons (ec_val rfl) ea_nil) ⟨_, _, [], rfl, List.Perm.refl _, hil, ?_, _, _, _, _, rfl⟩)
          rw [happ _ (by unfold newRow; rw [if_neg h, if_neg (fun z => z h2)])]
    · rintro ds' rs' ⟨rfl, u1, u2, u3, u4, rfl⟩
      rw [List.length_range]
      refine sd_freeze (i := 11) rfl (List.Perm.refl _) ?_
      exact sd_ret (ec_val rfl) ⟨rfl, rfl⟩
end FT
set_option maxHeartbeats 1000000
namespace FT
open PySem PySem.Spec PyProof.Rows L2 DL FTM
theorem canLay_iL : ∀ xs : List Int, PyData.canLayAll0 (iL xs) = true
  | [] => by simp [iL, PyData.canLayAll0]
  | x :: xs => by
    have := canLay_iL xs
    simp only [iL, List.map_cons, PyData.canLayAll0, PyData.canLay0, Bool.true_and]
    exact this
theorem depth_iL : ∀ xs : List Int, PyData.depthAll (iL xs) = 0
  | [] => by simp [iL, PyData.depthAll]
  | x :: xs => by
    have := depth_iL xs
    simp only [iL, List.map_cons, PyData.depthAll, PyData.depth]
    rw [Nat.zero_max]
    exact this
theorem shaped_tupI (xs : List Int) : SeqAt.shaped (tupI xs) = true := by
  unfold SeqAt.shaped
  simp only [PyData.canLay0, PyData.depth, canLay_iL, depth_iL]
  decide
theorem shaped_lstI (xs : List Int) : SeqAt.shaped (lstI xs) = true := by
  unfold SeqAt.shaped
  simp only [PyData.canLay0, PyData.depth, canLay_iL, depth_iL]
  decide
theorem eqv_iL : ∀ xs ys : List Int, PyData.eqvAll (iL xs) (iL ys) = decide (xs = ys)
  | [], [] => by simp [iL, PyData.eqvAll]
  | [], y :: ys => by simp [iL, PyData.eqvAll]
  | x :: xs, [] => by simp [iL, PyData.eqvAll]
  | x :: xs, y :: ys => by
    have := eqv_iL xs ys
    simp only [iL, List.map_cons, PyData.eqvAll, PyData.eqv]
    rw [show PyData.eqvAll (List.map PyData.int xs) (List.map PyData.int ys) = decide (xs = ys) from this]
    rw [Bool.eq_iff_iff]
    simp
theorem eqv_tupI (xs ys : List Int) : PyData.eqv (tupI xs) (tupI ys) = decide (xs = ys) := by
  simp only [PyData.eqv]
  exact eqv_iL xs ys
theorem eqv_lstI (xs ys : List Int) : PyData.eqv (lstI xs) (lstI ys) = decide (xs = ys) := by
  simp only [PyData.eqv]
  exact eqv_iL xs ys
theorem len_tI {α β : Type} (f : α → β) (xs : List α) : (xs.map f).length = xs.length := List.length_map ..

abbrev N_heights_of_base : List PySem.Str := ["lifts", "base", "row"]
theorem sc_heights_of_base : FnScope N_heights_of_base ["lifts", "base"] (defScope df_heights_of_base.st) := ⟨rfl, rfl, rfl, by decide +kernel, rfl, by decide +kernel, by decide +kernel⟩
abbrev W_heights_of_base : Wc := Pu fun xs d => ∃ (p : Int) (l : Nat) (base : Base), xs = [tupI (liftsOf l), eB base] ∧ BaseOk p l base ∧ d = tupI (heightsOf l base)
theorem w_heights_of_base {P : Program} {w : World} {K : PySem.W.Frag} {mg : PySem.Str → Option Value} {base : Heap} (T : Tx K mg) (c_height_of : C8.Cal P w K mg base 2 "height_of" (Fn K W_height_of) []) : C8.Cal P w K mg base 3 "heights_of_base" (Fn K W_heights_of_base) [] := by
  refine cal_of (d := df_heights_of_base) (N := N_heights_of_base) (ps := ["lifts", "base"]) (n := 1) (T.d 17) rfl rfl (T.f (f := .glo "heights_of_base") 17) sc_heights_of_base (fun _ _ _ _ _ _ us hl => match us, hl with | [_, _], _ => rfl) ?_ rfl fun cdv A outer s H E hr => ?_
  · exact pu_len (fun xs d h => by obtain ⟨_, _, _, rfl, _⟩ := h; rfl)
  have hu := hu_of hr
  have hu0 := hr.units0
  have hu64 := hr.units
  refine ⟨_, (pss_one (ps_ret (pe_callTy call_tuple_of (by rfl) (T.f (f := .free "tuple") 52) boot_tuple (pa_cons (pe_callB cr_sorted (by rfl) (T.f (f := .free "sorted") 56) boot_sorted (pa_cons (pe_lc (own := [("row", 2)]) (tt := tYes) rfl sc_heights_of_base.nd (pi_list (pv 1)) (blkOk_by (N := N_heights_of_base) (sc := defScope df_heights_of_base.st) (by decide +kernel)) (fun _ _ _ _ _ => (pg_name (i := 2) sc_heights_of_base.nd rfl (Or.inl rfl))) (fun _ _ _ _ _ => pts_nil) (fun _ _ _ _ _ => (pe_callTy call_int1 (by rfl) (T.f (f := .free "int") 63) boot_int (pa_cons (C8.pe_c c_height_of hr (by decide) rfl (pa_cons (pv 2) (pa_cons (pv 0) pa_nil))) pa_nil)))) pa_nil)) pa_nil)))), ?_⟩
  rintro cs rs Post ⟨rfl, xs, d, rfl, ⟨p, l, base, rfl, B, rfl⟩, rfl⟩
  have hb10 := B.len
  have hl9 := B.l9
  refine sd_ret (ec_cb (ea_cons (ec_cb (ea_cons (ec_is (ec_lc base eR (fun r => .int (rowH l r)) (by omega) (it_list (ec_val rfl)) fun r hr => ⟨_, gt_name, ec_cb (ea_cons (ec_is (ec_call (d := encH (levelOf (liftsOf l) r)) (xs := [eR r, tupI (liftsOf l)]) (ea_cons (ec_val rfl) (ea_cons (ec_val rfl) ea_nil)) ⟨r, _, rfl, by rw [liftsOf_len, (B.row r hr).1]; exact Nat.le_refl _, by rw [(B.row r hr).1]; omega, rfl⟩) (by rw [encH_getD (B.row r hr).2.2]; rfl)) ea_nil) rc_int⟩) (by rw [map_iL])) ea_nil) (rc_sorted (ms := heightsOf l base) (by rw [List.length_map]; omega) fun z hz1 hz2 => sortI_of hz1 hz2)) ea_nil) rc_tupleL) ⟨rfl, rfl⟩
abbrev N_lifts_of_width : List PySem.Str := ["width"]
theorem sc_lifts_of_width : FnScope N_lifts_of_width ["width"] (defScope df_lifts_of_width.st) := ⟨rfl, rfl, rfl, by decide +kernel, rfl, by decide +kernel, by decide +kernel⟩
abbrev W_lifts_of_width : Wc := Pu fun xs d => ∃ l : Nat, xs = [.int l] ∧ 1 ≤ l ∧ l ≤ 100 ∧ d = tupI (liftsOf l)
theorem w_lifts_of_width {P : Program} {w : World} {K : PySem.W.Frag} {mg : PySem.Str → Option Value} {base : Heap} (T : Tx K mg)  : C8.Cal P w K mg base 1 "lifts_of_width" (Fn K W_lifts_of_width) [] := by
  refine cal_of (d := df_lifts_of_width) (N := N_lifts_of_width) (ps := ["width"]) (n := 0) (T.d 18) rfl rfl (T.f (f := .glo "lifts_of_width") 18) sc_lifts_of_width (fun _ _ _ _ _ _ us hl => match us, hl with | [_], _ => rfl) ?_ rfl fun cdv A outer s H E hr => ?_
  · exact pu_len (fun xs d h => by obtain ⟨_, rfl, _⟩ := h; rfl)
  have hu := hu_of hr
  have hu0 := hr.units0
  have hu64 := hr.units
  refine ⟨_, (pss_one (ps_ret (pe_op op_catA (pe_tup (pa_cons pe_int pa_nil)) (pe_op DLX.op_rep1 (pe_tup (pa_cons pe_int pa_nil)) (pv 0))))), ?_⟩
  rintro cs rs Post ⟨rfl, xs, d, rfl, ⟨l, rfl, h1, h2, rfl⟩, rfl⟩
  refine sd_ret (ec_op (ec_tup (xs := [.int 0]) (ea_cons ec_int ea_nil) (by decide)) (ec_op (ec_tup (xs := [.int 1]) (ea_cons ec_int ea_nil) (by decide)) (ec_val rfl) (rv_repT (by omega) (by omega))) (rv_catT (by simp; omega))) ⟨?_, rfl⟩
  rw [Int.toNat_natCast]
  unfold liftsOf tupI iL
  rw [List.map_cons, List.map_replicate]
  rfl
abbrev N_has_constant : List PySem.Str := ["row"]
theorem sc_has_constant : FnScope N_has_constant ["row"] (defScope df_has_constant.st) := ⟨rfl, rfl, rfl, by decide +kernel, rfl, by decide +kernel, by decide +kernel⟩
abbrev W_has_constant : Wc := Pu fun xs d => ∃ row : FTM.Row, xs = [eR row] ∧ row ≠ [] ∧ d = .bool (hasConst row)
theorem w_has_constant {P : Program} {w : World} {K : PySem.W.Frag} {mg : PySem.Str → Option Value} {base : Heap} (T : Tx K mg)  : C8.Cal P w K mg base 1 "has_constant" (Fn K W_has_constant) [] := by
  refine cal_of (d := df_has_constant) (N := N_has_constant) (ps := ["row"]) (n := 0) (T.d 19) rfl rfl (T.f (f := .glo "has_constant") 19) sc_has_constant (fun _ _ _ _ _ _ us hl => match us, hl with | [_], _ => rfl) ?_ rfl fun cdv A outer s H E hr => ?_
  · exact pu_len (fun xs d h => by obtain ⟨_, rfl, _⟩ := h; rfl)
  have hu := hu_of hr
  have hu0 := hr.units0
  have hu64 := hr.units
  refine ⟨_, (pss_one (ps_ret (pe_and (pe_cmpR (op_neD hu64) (pe_ix (r := rIxT K) ix_tup (pv 0) pe_int (fun _ _ => rfl)) (pe_tup pa_nil) (nomark _)) (pe_one (pe_cmpR op_ne (pe_ix (r := rIxT K) ix_tup (pe_ix (r := rIxT K) ix_tup (pv 0) pe_int (fun _ _ => rfl)) pe_int (fun _ _ => rfl)) pe_int (nomark _)))))), ?_⟩
  rintro cs rs Post ⟨rfl, xs, d, rfl, ⟨row, rfl, h1, rfl⟩, rfl⟩
  have hl : 0 < row.length := List.length_pos_iff.mpr h1
  refine sd_ret (ec_is (ec_andV (a := !PyData.eqv (tupI (row.getD 0 [])) (tupI [])) (b := !decide ((row.getD 0 []).getD 0 0 = 0)) (ec_op (ec_op (ec_val rfl) ec_int (rv_ixT (at_mapI (j := 0) [] rfl hl))) (ec_tup (xs := []) ea_nil (by decide)) (rv_neD (shaped_tupI _) (shaped_tupI []))) fun h => ?_) ?_) ⟨rfl, rfl⟩
  · rw [eqv_tupI] at h
    have hz : row.getD 0 [] ≠ [] := by simpa using h
    exact ec_op (ec_op (ec_op (ec_val rfl) ec_int (rv_ixT (at_mapI (j := 0) [] rfl hl))) ec_int (rv_ixT (at_mapI (j := 0) 0 rfl (List.length_pos_iff.mpr hz)))) ec_int rv_neI
  · rw [eqv_tupI]
    unfold hasConst
    congr 2
    rw [Bool.eq_iff_iff]
    simp
abbrev N_least_of_base : List PySem.Str := ["lifts", "base", "row"]
theorem sc_least_of_base : FnScope N_least_of_base ["lifts", "base"] (defScope df_least_of_base.st) := ⟨rfl, rfl, rfl, by decide +kernel, rfl, by decide +kernel, by decide +kernel⟩
abbrev W_least_of_base : Wc := Pu fun xs d => ∃ (p : Int) (l : Nat) (base : Base), xs = [tupI (liftsOf l), eB base] ∧ BaseOk p l base ∧ constHs l base ≠ [] ∧ d = .int (leastOf l base)
theorem w_least_of_base {P : Program} {w : World} {K : PySem.W.Frag} {mg : PySem.Str → Option Value} {base : Heap} (T : Tx K mg) (c_height_of : C8.Cal P w K mg base 2 "height_of" (Fn K W_height_of) []) (c_has_constant : C8.Cal P w K mg base 1 "has_constant" (Fn K W_has_constant) []) : C8.Cal P w K mg base 3 "least_of_base" (Fn K W_least_of_base) [] := by
  refine cal_of (d := df_least_of_base) (N := N_least_of_base) (ps := ["lifts", "base"]) (n := 1) (T.d 20) rfl rfl (T.f (f := .glo "least_of_base") 20) sc_least_of_base (fun _ _ _ _ _ _ us hl => match us, hl with | [_, _], _ => rfl) ?_ rfl fun cdv A outer s H E hr => ?_
  · exact pu_len (fun xs d h => by obtain ⟨_, _, _, rfl, _⟩ := h; rfl)
  have hu := hu_of hr
  have hu0 := hr.units0
  have hu64 := hr.units
  refine ⟨_, (pss_one (ps_ret (pe_callB (cr_min rfl) (by rfl) (T.f (f := .free "min") 57) boot_min (pa_cons (pe_lc (own := [("row", 2)])  rfl sc_least_of_base.nd (pi_list (pv 1)) (blkOk_by (N := N_least_of_base) (sc := defScope df_least_of_base.st) (by decide +kernel)) (fun _ _ _ _ _ => (pg_name (i := 2) sc_least_of_base.nd rfl (Or.inl rfl))) (fun _ _ _ _ _ => (pts_one (pt_val (C8.pe_c c_has_constant hr (by decide) rfl (pa_cons (pv 2) pa_nil))))) (fun _ _ _ _ _ => (pe_callTy call_int1 (by rfl) (T.f (f := .free "int") 63) boot_int (pa_cons (C8.pe_c c_height_of hr (by decide) rfl (pa_cons (pv 2) (pa_cons (pv 0) pa_nil))) pa_nil)))) pa_nil)))), ?_⟩
  rintro cs rs Post ⟨rfl, xs, d, rfl, ⟨p, l, base, rfl, B, hne, rfl⟩, rfl⟩
  have hb10 := B.len
  have hl9 := B.l9
  refine sd_ret (ec_cb (ea_cons (ec_is (ec_lcF base eR hasConst (fun r => .int (rowH l r)) (by omega) (it_list (ec_val rfl)) fun r hr => ⟨_, gt_name, et_B (ec_call (xs := [eR r]) (ea_cons (ec_val rfl) ea_nil) ⟨r, rfl, (fun z => by have := (B.row r hr).1; rw [z] at this; cases this), rfl⟩), fun _ => ec_cb (ea_cons (ec_is (ec_call (d := encH (levelOf (liftsOf l) r)) (xs := [eR r, tupI (liftsOf l)]) (ea_cons (ec_val rfl) (ea_cons (ec_val rfl) ea_nil)) ⟨r, _, rfl, by rw [liftsOf_len, (B.row r hr).1]; exact Nat.le_refl _, by rw [(B.row r hr).1]; omega, rfl⟩) (by rw [encH_getD (B.row r hr).2.2]; rfl)) ea_nil) rc_int⟩) (by rw [map_iL]; rfl)) ea_nil) (rc_min (ns := constHs l base) (m := leastOf l base) (List.length_pos_iff.mpr hne) fun z h1 h2 => minOf_eq h1 h2)) ⟨rfl, rfl⟩
abbrev N_gap_at : List PySem.Str := ["prime", "row", "place", "letters", "last", "first", "total", "other", "at"]
theorem sc_gap_at : FnScope N_gap_at ["prime", "row", "place", "letters"] (defScope df_gap_at.st) := ⟨rfl, rfl, rfl, by decide +kernel, rfl, by decide +kernel, by decide +kernel⟩
abbrev W_gap_at : Wc := Pu fun xs d => ∃ (p : Int) (row : FTM.Row) (place : Nat) (letters : List Int), xs = [.int p, eR row, .int place, lstI letters] ∧ 0 < p ∧ p < 1000 ∧ place < row.length ∧ letters ≠ [] ∧ (row.getD 0 []).length ≤ 1000 ∧ letters.length ≤ 1000 ∧ (∀ x ∈ row.getD 0 [], 0 ≤ x ∧ x < p) ∧ d = .int (gapAt p row place letters)
theorem w_gap_at {P : Program} {w : World} {K : PySem.W.Frag} {mg : PySem.Str → Option Value} {base : Heap} (T : Tx K mg)  : C8.Cal P w K mg base 1 "gap_at" (Fn K W_gap_at) [] := by
  refine cal_of (d := df_gap_at) (N := N_gap_at) (ps := ["prime", "row", "place", "letters"]) (n := 5) (T.d 21) rfl rfl (T.f (f := .glo "gap_at") 21) sc_gap_at (fun _ _ _ _ _ _ us hl => match us, hl with | [_, _, _, _], _ => rfl) ?_ rfl fun cdv A outer s H E hr => ?_
  · exact pu_len (fun xs d h => by obtain ⟨_, _, _, _, rfl, _⟩ := h; rfl)
  have hu := hu_of hr
  have hu0 := hr.units0
  have hu64 := hr.units
  refine ⟨_, (pss_cons (ps_set (i := 4) sc_gap_at.nd rfl (Or.inr rfl) (pe_op op_sub (pe_callB call_len_seq (by rfl) (T.f (f := .free "len") 51) boot_len (pa_cons (pv 3) pa_nil)) pe_int))
  (pss_cons (ps_set (i := 5) sc_gap_at.nd rfl (Or.inr rfl) (pe_ix (r := rIxT K) ix_tup (pv 1) pe_int (fun _ _ => rfl)))
  (pss_cons (ps_set (i := 6) sc_gap_at.nd rfl (Or.inl rfl) (pe_callB (r := rSum K) (cr_sum rfl) (by rfl) (T.f (f := .free "sum") 59) boot_sum (pa_cons (pe_lc (own := [("at", 8)]) (tt := tYes) rfl sc_gap_at.nd (pi_range1 (by rfl) (T.f (f := .free "range") 53) (pa_cons (pe_callB (call_min2 rfl) (by rfl) (T.f (f := .free "min") 57) boot_min (pa_cons (pe_callB call_len_seq (by rfl) (T.f (f := .free "len") 51) boot_len (pa_cons (pv 5) pa_nil)) (pa_cons (pe_callB call_len_seq (by rfl) (T.f (f := .free "len") 51) boot_len (pa_cons (pv 3) pa_nil)) pa_nil))) pa_nil)) (blkOk_by (N := N_gap_at) (sc := defScope df_gap_at.st) (by decide +kernel)) (fun _ _ _ _ _ => (pg_name (i := 8) sc_gap_at.nd rfl (Or.inl rfl))) (fun _ _ _ _ _ => pts_nil) (fun _ _ _ _ _ => (pe_op op_mul (pe_ix (r := rIxT K) ix_tup (pv 5) (pv 8) (fun _ _ => rfl)) (pe_ix (r := rIxL K) ix_list (pv 3) (pe_op op_sub (pv 4) (pv 8)) (fun _ _ => rfl))))) pa_nil)))
  (pss_cons (ps_set (i := 7) sc_gap_at.nd rfl (Or.inl rfl) (pe_ix (r := rIxT K) ix_tup (pv 1) (pv 2) (fun _ _ => rfl)))
  (pss_cons (ps_if (pt_cmpR op_gt (pe_callB call_len_seq (by rfl) (T.f (f := .free "len") 51) boot_len (pa_cons (pv 7) pa_nil)) (pv 4) (nomark _))
  (pss_one (ps_set (i := 6) sc_gap_at.nd rfl (Or.inl rfl) (pe_op op_sub (pv 6) (pe_ix (r := rIxT K) ix_tup (pv 7) (pv 4) (fun _ _ => rfl))))) pss_nil)
  (pss_one (ps_ret (pe_op op_mod (pv 6) (pv 0))))))))), ?_⟩
  rintro cs rs Post ⟨rfl, xs, d, rfl, ⟨p, row, place, letters, rfl, hp, hp1, hpl, hne, hf, hlt, hx, rfl⟩, rfl⟩
  have hl : 0 < row.length := by omega
  have hl2 : 0 < letters.length := List.length_pos_iff.mpr hne
  refine sd_seq (sd_asg (ec_op (ec_cb (ea_cons (ec_val rfl) ea_nil) rc_lenL) ec_int rv_I0) ?_)
  refine sd_seq (sd_asg (ec_op (ec_val rfl) ec_int (rv_ixT (at_mapI (j := 0) [] rfl hl))) ?_)
  refine sd_seq (sd_asg (ec_cb (ea_cons (ec_is (ec_lc (List.range (min (row.getD 0 []).length letters.length)) (fun i => .int (i : Nat)) (fun a => .int ((row.getD 0 []).getD a 0 * letters.getD (letters.length - 1 - a) 0)) (by rw [List.length_range]; omega) (it_is (it_range1 (ea_cons (ec_cb (ea_cons (ec_cb (ea_cons (ec_val rfl) ea_nil) rc_lenT) (ea_cons (ec_cb (ea_cons (ec_val rfl) ea_nil) rc_lenL) ea_nil)) rc_min2) ea_nil) ?_ ?_) ?_) fun a ha => ⟨_, gt_name, ec_op (ec_op (ec_val rfl) (ec_val rfl) (rv_ixT (at_map 0 ?_))) (ec_op (ec_val rfl) (ec_op (ec_val rfl) (ec_val rfl) rv_I0) (rv_ixL (at_mapI (j := letters.length - 1 - a) 0 ?_ ?_))) (rv_I (.inl ?_))⟩) (by rw [map_iL])) ea_nil) rc_sum) ?_)
  · rw [len_iL, len_iL]; split <;> omega
  · rw [len_iL, len_iL]; split <;> omega
  · rw [len_iL, len_iL, range0]
    congr 2
    split <;> omega
  · have := List.mem_range.mp ha; omega
  · have := List.mem_range.mp ha
    rw [len_iL]; omega
  · have := List.mem_range.mp ha; omega
  · have := List.mem_range.mp ha
    have := hx _ (FTM.getD_mem (d := 0) (show a < (row.getD 0 []).length by omega))
    omega
  refine sd_seq (sd_asg (ec_op (ec_val rfl) (ec_val rfl) (rv_ixT (at_map [] hpl))) ?_)
  refine sd_seq (sd_if (et_test (ec_op (ec_cb (ea_cons (ec_val rfl) ea_nil) rc_lenT) (ec_val rfl) rv_B0)) (fun h => ?_) fun h => sd_next ?_)
  · have h : ((iL (row.getD place [])).length : Int) > ((iL letters).length : Int) - 1 := of_decide_eq_true h
    rw [len_iL, len_iL] at h
    refine sd_asg (ec_op (ec_val rfl) (ec_op (ec_val rfl) (ec_val rfl) (rv_ixT (at_mapI (j := letters.length - 1) 0 ?_ ?_))) rv_I0) (sd_ret (ec_op (ec_val rfl) (ec_val rfl) (rv_I hp)) ⟨?_, rfl⟩)
    · rw [len_iL]; omega
    · omega
    · unfold gapAt
      rw [if_pos (by omega)]
  · have h : ¬ ((iL (row.getD place [])).length : Int) > ((iL letters).length : Int) - 1 := of_decide_eq_false h
    rw [len_iL, len_iL] at h
    refine sd_ret (ec_op (ec_val rfl) (ec_val rfl) (rv_I hp)) ⟨?_, rfl⟩
    unfold gapAt
    rw [if_neg (by omega), Int.sub_zero]
end FT
set_option maxHeartbeats 300000
namespace FT
open PySem PySem.Spec PyProof.Rows L2 DL FTM
theorem good_ok {p : Int} {l : Nat} {c : Vec} {C : Nat → Nat → Prop} {base : Base} {h : Nat → Int} (hp : p ∈ primes) (G : Good p l c C base h) (hl : l ≤ 9) (hh : ∀ j, j < l + 1 → h j ≤ 800) : BaseOk p l base := by
  have hp2 := prime_lt hp
  refine ⟨hl, by rw [G.len]; omega, fun r hr => ?_⟩
  obtain ⟨j, hj, rfl⟩ : ∃ j, j < l + 1 ∧ r = base.getD j [] := by
    obtain ⟨j, hj, e⟩ := List.mem_iff_getElem.mp hr
    refine ⟨j, by rw [← G.len]; exact hj, ?_⟩
    rw [List.getD_eq_getElem?_getD, List.getElem?_eq_getElem hj, ← e]; rfl
  obtain ⟨h1, h2⟩ := G.row j hj
  have hpos := G.hpos hj
  have hl0 := lft_nonneg j
  refine ⟨h1, fun f hf => ⟨?_, (h2 f hf).1⟩, ?_⟩
  · obtain ⟨i, hi, e⟩ := List.mem_iff_getElem.mp hf
    have hle : f.length ≤ (h j + 1).toNat := (h2 f hf).len_le (by omega) fun d hd => by
      have e2 : f.getD d 0 = coB base j i d := by
        unfold coB coR
        rw [List.getD_eq_getElem?_getD (l := base.getD j []), List.getElem?_eq_getElem hi, ← e]; rfl
      rw [e2]
      have := lft_nonneg i
      exact (G.lev j hj).above i d (.inl (by omega))
    have := hh j hj
    omega
  · rw [levelOf_ok (by omega) h1 h2 hj (G.lev j hj)]; rfl
theorem hsum_le {h : Nat → Int} {l : Nat} (h0 : ∀ j, j < l + 1 → 0 ≤ h j) : ∀ j, j < l + 1 → h j ≤ hsum l h := by
  intro j hj
  unfold hsum
  have : ∀ n, n ≤ l + 1 → (0 ≤ sumTo n h ∧ ∀ k, k < n → h k ≤ sumTo n h) := by
    intro n
    induction n with
    | zero => exact fun _ => ⟨Int.le_refl _, fun k hk => absurd hk (Nat.not_lt_zero k)⟩
    | succ n ih =>
      intro hn
      obtain ⟨a, b⟩ := ih (by omega)
      have c := h0 n (by omega)
      refine ⟨by show 0 ≤ sumTo n h + h n; omega, fun k hk => ?_⟩
      show h k ≤ sumTo n h + h n
      by_cases e : k = n
      · subst e; omega
      · have := b k (by omega); omega
  exact (this (l + 1) (Nat.le_refl _)).2 j hj
theorem nextBase_go (p : Int) (l : Nat) (base : Base) (cols : List (List Int)) (i : Nat) : (List.range (i + 1)).foldl (placeStep p l cols) base = placeStep p l cols ((List.range i).foldl (placeStep p l cols) base) i := by
  rw [List.range_succ, List.foldl_append]; rfl
structure NextOk (p : Int) (l : Nat) (cols : List (List Int)) (n : Nat) (base : Base) (h : Nat → Int) : Prop where
  hp : p ∈ primes
  hl : 1 ≤ l
  hl2 : l ≤ 9
  good : Good p l (lv cols) (Cnd l n 0) base h
  sum : hsum l h = (l : Int) * (n + 1)
  hn : n < cols.length
  hc : cols.length ≤ 60
  cok : ColsOk p l cols
theorem nonneg_of {h : Nat → Int} {p : Int} {l : Nat} {c : Vec} {C : Nat → Nat → Prop} {base : Base} (G : Good p l c C base h) : ∀ j, j < l + 1 → 0 ≤ h j := fun j hj => by
  have := G.hpos hj
  have := lft_nonneg j
  omega
theorem mul_le9 {l n : Nat} (hl : l ≤ 9) (hn : n ≤ 61) : (l : Int) * n ≤ 9 * 61 := by
  have h1 : (l : Int) * n ≤ 9 * n := Int.mul_le_mul_of_nonneg_right (by omega) (by omega)
  omega

abbrev N_next_base : List PySem.Str := ["prime", "lifts", "base", "columns", "grown", "place", "letters", "gaps", "column", "row"]
theorem sc_next_base : FnScope N_next_base ["prime", "lifts", "base", "columns"] (defScope df_next_base.st) := ⟨rfl, rfl, rfl, by decide +kernel, rfl, by decide +kernel, by decide +kernel⟩
abbrev W_next_base : Wc := Pu fun xs d => ∃ (p : Int) (l : Nat) (cols : List (List Int)) (n : Nat) (base : Base) (h : Nat → Int), xs = [.int p, tupI (liftsOf l), eB base, eCs (cols.take (n + 1))] ∧ NextOk p l cols n base h ∧ d = eB (nextBase p l base (cols.take (n + 1)))
theorem w_next_base {P : Program} {w : World} {K : PySem.W.Frag} {mg : PySem.Str → Option Value} {base : Heap} (T : Tx K mg) (c_grown_base : C8.Cal P w K mg base 6 "grown_base" (Fn K W_grown_base) []) (c_gap_at : C8.Cal P w K mg base 1 "gap_at" (Fn K W_gap_at) []) : C8.Cal P w K mg base 7 "next_base" (Fn K W_next_base) [] := by
  refine cal_of (d := df_next_base) (N := N_next_base) (ps := ["prime", "lifts", "base", "columns"]) (n := 6) (T.d 22) rfl rfl (T.f (f := .glo "next_base") 22) sc_next_base (fun _ _ _ _ _ _ us hl => match us, hl with | [_, _, _, _], _ => rfl) ?_ rfl fun cdv A outer s H E hr => ?_
  · exact pu_len (fun xs d h => by obtain ⟨_, _, _, _, _, _, rfl, _⟩ := h; rfl)
  have hu := hu_of hr
  have hu0 := hr.units0
  have hu64 := hr.units
  refine ⟨_, (pss_cons (ps_set (i := 4) sc_next_base.nd rfl (Or.inl rfl) (pv 2))
  (pss_cons (ps_for PassesOwn.never rfl (pi_range2 (by rfl) (T.f (f := .free "range") 53) (pa_cons pe_int (pa_cons (pe_callB call_len_seq (by rfl) (T.f (f := .free "len") 51) boot_len (pa_cons (pv 1) pa_nil)) pa_nil))) (pg_name (i := 5) sc_next_base.nd rfl (Or.inr rfl))
  (pss_cons (ps_set (i := 6) sc_next_base.nd rfl (Or.inr rfl) (pe_lc (own := [("column", 8)]) (tt := tYes) rfl sc_next_base.nd (pi_list (pv 3)) (blkOk_by (N := N_next_base) (sc := defScope df_next_base.st) (by decide +kernel)) (fun _ _ _ _ _ => (pg_name (i := 8) sc_next_base.nd rfl (Or.inl rfl))) (fun _ _ _ _ _ => pts_nil) (fun _ _ _ _ _ => (pe_ix (r := rIxT K) ix_tup (pv 8) (pe_op op_sub (pv 5) pe_int) (fun _ _ => rfl)))))
  (pss_cons (ps_setLc (i := 7) (own := [("row", 9)]) (tt := tYes) rfl sc_next_base.nd rfl rfl (sw_true rfl rfl rfl (by decide +kernel)) (pi_list (pv 4)) (blkOk_by (N := N_next_base) (sc := defScope df_next_base.st) (by decide +kernel)) (fun _ _ _ _ _ => (pg_name (i := 9) sc_next_base.nd rfl (Or.inl rfl))) (fun _ _ _ _ _ => pts_nil) (fun _ _ _ _ _ => (C8.pe_c c_gap_at hr (by decide) rfl (pa_cons (pv 0) (pa_cons (pv 9) (pa_cons (pv 5) (pa_cons (pv 6) pa_nil)))))))
  (pss_one (ps_set (i := 4) sc_next_base.nd rfl (Or.inl rfl) (C8.pe_c c_grown_base hr (by decide) rfl (pa_cons (pv 0) (pa_cons (pv 1) (pa_cons (pv 4) (pa_cons (pv 7) (pa_cons (pe_tup (pa_cons pe_int (pa_cons pe_int pa_nil))) pa_nil)))))))))))
  (pss_one (ps_ret (pv 4))))), ?_⟩
  rintro cs rs Post ⟨rfl, xs, d, rfl, ⟨p, l, cols, n, base, h, rfl, N, rfl⟩, rfl⟩
  have hp2 := prime_lt N.hp
  have hl1 := N.hl
  have hl9 := N.hl2
  have hcl := N.hc
  have hnn := N.hn
  refine sd_seq (sd_asg (ec_val rfl) ?_)
  refine sd_seq (sd_forA (List.range l) (fun i => .int (1 + (i : Nat))) (it_is (it_range2 (ea_cons ec_int (ea_cons (ec_cb (ea_cons (ec_val rfl) ea_nil) rc_lenT) ea_nil)) ?_) ?_)
    (fun i ds rs => rs = [] ∧ ∃ u1 u2 u3 u4 u5, ds = [.val (.int p), .val (tupI (liftsOf l)), .val (eB base), .val (eCs (cols.take (n + 1))), .val (eB ((List.range i).foldl (placeStep p l (cols.take (n + 1))) base)), u1, u2, u3, u4, u5]) ⟨rfl, _, _, _, _, _, rfl⟩ ?_ ?_)
  · rw [len_iL, liftsOf_len]; omega
  · rw [len_iL, liftsOf_len, show (((l + 1 : Nat) : Int) - 1).toNat = l by omega]
  · rintro i a ds' rs' ha ⟨rfl, u1, u2, u3, u4, u5, rfl⟩
    obtain ⟨hi, rfl⟩ := range_at ha
    obtain ⟨h', G', _, hs'⟩ := next_ok N.hp N.hn N.good i (by omega)
    generalize hg : (List.range i).foldl (placeStep p l (cols.take (n + 1))) base = g at G' ⊢
    have hb : ∀ j, j < l + 1 → h' j ≤ 800 := fun j hj => by
      have h1 := hsum_le (nonneg_of G') j hj
      rw [hs', N.sum] at h1
      have h2 := mul_le9 (l := l) (n := n + 1) hl9 (by omega)
      have h3 : (l : Int) * ((n : Int) + 1) = (l : Int) * ((n + 1 : Nat) : Int) := by push_cast; rfl
      omega
    have B := good_ok N.hp G' hl9 hb
    refine ⟨_, gs_name, ?_⟩
    have hcl2 : (cols.take (n + 1)).length = n + 1 := by rw [List.length_take]; omega
    refine sd_seq (sd_asg (c := .val (lstI ((cols.take (n + 1)).map fun c => c.getD i 0))) (ec_is (ec_lc (cols.take (n + 1)) tupI (fun c => .int (c.getD i 0)) (by omega) (it_list (ec_val rfl)) fun c hc => ⟨_, gt_name, ec_op (ec_val rfl) (ec_op (ec_val rfl) ec_int rv_I0) (rv_ixT (at_mapI (j := i) 0 (by omega) ?_))⟩) (by rw [map_iL])) ?_)
    · rw [(N.cok c (List.mem_of_mem_take hc)).1]; exact hi
    refine sd_seq (sd_asg (c := .val (lstI (g.map fun row => gapAt p row (i + 1) ((cols.take (n + 1)).map fun c => c.getD i 0)))) (ec_is (ec_lc g eR (fun row => .int (gapAt p row (i + 1) ((cols.take (n + 1)).map fun c => c.getD i 0))) (by have := B.len; omega) (it_list (ec_val rfl)) fun row hr => ⟨_, gt_name, ec_call (xs := [.int p, eR row, .int ((i + 1 : Nat) : Int), lstI ((cols.take (n + 1)).map fun c => c.getD i 0)]) (ea_cons (ec_val rfl) (ea_cons (ec_val rfl) (ea_cons (ec_is (ec_val rfl) ?_) (ea_cons (ec_val rfl) ea_nil)))) ⟨p, row, i + 1, _, rfl, by omega, by omega, by rw [(B.row row hr).1]; omega, ?_, ?_, by rw [List.length_map]; omega, ?_, rfl⟩⟩) (by rw [map_iL])) ?_)
    · exact congrArg (fun z => Sc.val (PyData.int z)) (by push_cast; omega)
    · intro z
      have := congrArg List.length z
      rw [List.length_map, hcl2] at this
      cases this
    · have := (B.row row hr).2.1 (row.getD 0 []) (FTM.getD_mem (by rw [(B.row row hr).1]; omega))
      omega
    · exact ((B.row row hr).2.1 (row.getD 0 []) (FTM.getD_mem (by rw [(B.row row hr).1]; omega))).2
    show SdC K _ _ _ _
    generalize hgs : (g.map fun row => gapAt p row (i + 1) ((cols.take (n + 1)).map fun c => c.getD i 0)) = gs
    have hgl : gs.length = g.length := by rw [← hgs, List.length_map]
    have hgrow : (List.range (i + 1)).foldl (placeStep p l (cols.take (n + 1))) base = grownBase p (liftsOf l) g gs := by rw [nextBase_go, hg, ← hgs]; rfl
    refine sd_asg (ec_call (d := eB ((List.range (i + 1)).foldl (placeStep p l (cols.take (n + 1))) base)) (xs := [.int p, tupI (liftsOf l), eB g, lstI gs, tupI [0, 1]]) (ea_cons (ec_val rfl) (ea_cons (ec_val rfl) (ea_cons (ec_val rfl) (ea_cons (ec_val rfl) (ea_cons (ec_tup (xs := iL [0, 1]) (ea_cons ec_int (ea_cons ec_int ea_nil)) (by decide)) ea_nil))))) ⟨p, l, g, gs, rfl, N.hp, B, hgl, ?_, by rw [hgrow]⟩) ⟨rfl, _, _, _, _, _, rfl⟩
    · intro x hx
      rw [← hgs] at hx
      obtain ⟨row, _, rfl⟩ := List.mem_map.mp hx
      unfold gapAt
      exact ⟨Int.emod_nonneg _ (by omega), Int.emod_lt_of_pos _ (by omega)⟩
  · rintro ds' rs' ⟨rfl, u1, u2, u3, u4, u5, rfl⟩
    rw [List.length_range]
    exact sd_ret (ec_val rfl) ⟨rfl, rfl⟩
abbrev N_all_bases : List PySem.Str := ["prime", "width", "columns", "lifts", "base", "bases", "end", "place"]
theorem sc_all_bases : FnScope N_all_bases ["prime", "width", "columns"] (defScope df_all_bases.st) := ⟨rfl, rfl, rfl, by decide +kernel, rfl, by decide +kernel, by decide +kernel⟩
abbrev W_all_bases : Wc := Pu fun xs d => ∃ (p : Int) (l : Nat) (cols : List (List Int)), xs = [.int p, .int l, eCs cols] ∧ p ∈ primes ∧ 1 ≤ l ∧ l ≤ 9 ∧ cols.length ≤ 60 ∧ ColsOk p l cols ∧ d = .list ((List.range (cols.length + 1)).map fun n => eB (baseAt p l cols n))
theorem w_all_bases {P : Program} {w : World} {K : PySem.W.Frag} {mg : PySem.Str → Option Value} {base : Heap} (T : Tx K mg) (c_lifts_of_width : C8.Cal P w K mg base 1 "lifts_of_width" (Fn K W_lifts_of_width) []) (c_unit_row : C8.Cal P w K mg base 1 "unit_row" (Fn K W_unit_row) []) (c_next_base : C8.Cal P w K mg base 7 "next_base" (Fn K W_next_base) []) : C8.Cal P w K mg base 8 "all_bases" (Fn K W_all_bases) [] := by
  refine cal_of (d := df_all_bases) (N := N_all_bases) (ps := ["prime", "width", "columns"]) (n := 5) (T.d 23) rfl rfl (T.f (f := .glo "all_bases") 23) sc_all_bases (fun _ _ _ _ _ _ us hl => match us, hl with | [_, _, _], _ => rfl) ?_ rfl fun cdv A outer s H E hr => ?_
  · exact pu_len (fun xs d h => by obtain ⟨_, _, _, rfl, _⟩ := h; rfl)
  have hu := hu_of hr
  have hu0 := hr.units0
  have hu64 := hr.units
  refine ⟨_, (pss_cons (ps_set (i := 3) sc_all_bases.nd rfl (Or.inl rfl) (C8.pe_c c_lifts_of_width hr (by decide) rfl (pa_cons (pv 1) pa_nil)))
  (pss_cons (ps_setLc (i := 4) (own := [("place", 7)]) (tt := tYes) rfl sc_all_bases.nd rfl rfl (sw_true rfl rfl rfl (by decide +kernel)) (pi_range1 (by rfl) (T.f (f := .free "range") 53) (pa_cons (pe_op op_add (pv 1) pe_int) pa_nil)) (blkOk_by (N := N_all_bases) (sc := defScope df_all_bases.st) (by decide +kernel)) (fun _ _ _ _ _ => (pg_name (i := 7) sc_all_bases.nd rfl (Or.inl rfl))) (fun _ _ _ _ _ => pts_nil) (fun _ _ _ _ _ => (C8.pe_c c_unit_row hr (by decide) rfl (pa_cons (pe_op op_add (pv 1) pe_int) (pa_cons (pv 7) pa_nil)))))
  (pss_cons (ps_set (i := 5) sc_all_bases.nd rfl (Or.inl rfl) (pe_lst (pa_cons (pv 4) pa_nil)))
  (pss_cons (ps_for PassesOwn.never rfl (pi_range1 (by rfl) (T.f (f := .free "range") 53) (pa_cons (pe_callB call_len_seq (by rfl) (T.f (f := .free "len") 51) boot_len (pa_cons (pv 2) pa_nil)) pa_nil)) (pg_name (i := 6) sc_all_bases.nd rfl (Or.inl rfl))
  (pss_cons (ps_set (i := 4) sc_all_bases.nd rfl (Or.inl rfl) (C8.pe_c c_next_base hr (by decide) rfl (pa_cons (pv 0) (pa_cons (pv 3) (pa_cons (pv 4) (pa_cons (pe_slice (r := rSlL K) sl_list (pv 2) po_none (po_some (pe_op op_add (pv 6) pe_int))) pa_nil))))))
  (pss_one (ps_expr (pe_bm PySem.F.plainAttrs_list PySem.F.slot_list_append PySem.F.type_list_append mt_append (pv 5) (pa_cons (pv 4) pa_nil))))))
  (pss_one (ps_ret (pv 5))))))), ?_⟩
  rintro cs rs Post ⟨rfl, xs, d, rfl, ⟨p, l, cols, rfl, hp, hl1, hl9, hcl, hC, rfl⟩, rfl⟩
  refine sd_seq (sd_asg (ec_call (xs := [.int l]) (ea_cons (ec_val rfl) ea_nil) ⟨l, rfl, hl1, by omega, rfl⟩) ?_)
  refine sd_seq (sd_asg (c := .val (eB (unitBase l))) (ec_is (ec_lc (List.range (l + 1)) (fun i => .int (i : Nat)) (fun i => eR (unitRow (l + 1) i)) (by rw [List.length_range]; omega) (it_is (it_range1 (ea_cons (ec_op (ec_val rfl) ec_int rv_I0) ea_nil) (by omega) (by omega)) ?_) fun i hi => ⟨_, gt_name, ec_call (xs := [.int ((l + 1 : Nat) : Int), .int (i : Nat)]) (ea_cons (ec_is (ec_op (ec_val rfl) ec_int rv_I0) ?_) (ea_cons (ec_val rfl) ea_nil)) ⟨l + 1, i, rfl, by omega, rfl⟩⟩) ?_) ?_)
  · rw [show ((l : Int) + 1).toNat = l + 1 by omega, range0]
  · exact congrArg (fun z => Sc.val (PyData.int z)) (by push_cast; rfl)
  · unfold unitBase eB
    rw [List.map_map]; rfl
  refine sd_seq (sd_asgM (em_lstF (eam_cons (em_of (ec_val rfl) (eam_nil ⟨[eB (unitBase l)], rfl, by show 1 ≤ 100000; decide, fun D => ?_⟩)))))
  refine sd_seq (sd_forA (List.range cols.length) (fun i => .int (i : Nat)) (it_is (it_range1 (ea_cons (ec_cb (ea_cons (ec_val rfl) ea_nil) rc_lenL) ea_nil) ?_ ?_) ?_)
    (fun i ds rs => rs = [(D, .lst ((List.range (i + 1)).map fun n => eB (baseAt p l cols n)))] ∧ ∃ u1 u2, ds = [.val (.int p), .val (.int l), .val (eCs cols), .val (tupI (liftsOf l)), .val (eB (baseAt p l cols i)), .raw (.ref D), u1, u2]) ⟨rfl, _, _, rfl⟩ ?_ ?_)
  · rw [List.length_map]; omega
  · rw [List.length_map]; omega
  · rw [List.length_map, Int.toNat_natCast, range0]
  · rintro i a ds' rs' ha ⟨rfl, u1, u2, rfl⟩
    obtain ⟨hi, rfl⟩ := range_at ha
    refine ⟨_, gs_name, ?_⟩
    obtain ⟨G, hs, _⟩ := base_ok hp (l := l) (cols := cols) i (by omega)
    refine sd_seq (sd_asg (ec_call (d := eB (baseAt p l cols (i + 1))) (xs := [.int p, tupI (liftsOf l), eB (baseAt p l cols i), eCs (cols.take (i + 1))]) (ea_cons (ec_val rfl) (ea_cons (ec_val rfl) (ea_cons (ec_val rfl) (ea_cons (ec_is (ec_slL (ec_val rfl) eo_none (eo_some (ec_op (ec_val rfl) ec_int rv_I0))) ?_) ea_nil)))) ⟨p, l, cols, i, _, _, rfl, ⟨hp, hl1, hl9, G, hs, hi, hcl, hC⟩, rfl⟩) ?_)
    · rw [show ((i : Int) + 1) = ((i + 1 : Nat) : Int) by push_cast; rfl, cut_to (by rw [List.length_map]; omega), ← List.map_take]
    · refine sd_app (ec_raw rfl) List.mem_cons_self (eam_of (ea_cons (ec_val rfl) ea_nil) ⟨_, _, [], rfl, List.Perm.refl _, by simp; omega, ?_, _, _, rfl⟩)
      rw [List.range_succ (n := i + 1), List.map_append]; rfl
  · rintro ds' rs' ⟨rfl, u1, u2, rfl⟩
    rw [List.length_range]
    refine sd_freeze (i := 5) rfl (List.Perm.refl _) ?_
    exact sd_ret (ec_val rfl) ⟨rfl, rfl⟩
end FT
set_option maxHeartbeats 1000000
/-! What is suspended stays suspended while nothing wakes it. -/
namespace GN
open PySem
def poi : GenState → GenState
  | .suspended _ l c p fs cl => .suspended (fun _ => .unsupported "") l c p fs cl
  | .fresh c => .fresh c
  | .running => .running
  | .finished => .finished
def NoG (fs : List Frame) : Prop := ∀ g k l c p, Frame.gen g k l c p ∉ fs
def ClG : GenState → Prop
  | .suspended _ _ _ _ fs _ => NoG fs
  | _ => True
def IsP (x : GenState) : Prop := ∃ l c p fs cl, x = .suspended (fun _ => .unsupported "") l c p fs cl
inductive Rl : GenState → GenState → Prop
  | same {x} : ClG x → Rl x x
  | poi {k l c p fs cl} : Rl (.suspended (fun _ => .unsupported "") l c p fs cl) (.suspended k l c p fs cl)
theorem Rl.seen {x y : GenState} (h : Rl x y) : x.seen = y.seen := by cases h <;> rfl
theorem Rl.bare {x y : GenState} (h : Rl x y) : x.bare = y.bare := by cases h <;> rfl
def GR (A G : Array GenState) : Prop := A.size = G.size ∧ ∀ (i : Nat) x, A[i]? = some x → ∃ y, G[i]? = some y ∧ Rl x y
def Kp (A G A' G' : Array GenState) : Prop := ∀ (i : Nat) x y, A[i]? = some x → G[i]? = some y → IsP x → A'[i]? = some x ∧ G'[i]? = some y
theorem Kp.refl {A G : Array GenState} : Kp A G A G := fun _ _ _ h1 h2 _ => ⟨h1, h2⟩
theorem Kp.trans {A G A1 G1 A2 G2 : Array GenState} (a : Kp A G A1 G1) (b : Kp A1 G1 A2 G2) : Kp A G A2 G2 := fun i x y h1 h2 h3 =>
  let ⟨q1, q2⟩ := a i x y h1 h2 h3
  b i x y q1 q2 h3
def EC : End → Prop
  | .susp _ _ _ _ _ _ fs => NoG fs
  | .ret _ => True
theorem NoG.nil : NoG [] := fun _ _ _ _ _ h => nomatch h
theorem NoG.tail {F : Frame} {fs : List Frame} (h : NoG (F :: fs)) : NoG fs := fun g k l c p hm => h g k l c p (List.mem_cons_of_mem _ hm)
theorem NoG.app {fs gs : List Frame} (a : NoG fs) (b : NoG gs) : NoG (fs ++ gs) := fun g k l c p hm => (List.mem_append.mp hm).elim (a g k l c p) (b g k l c p)
theorem NoG.ret {k h g l c p kp} : NoG [Frame.ret k h g l c p kp] := fun _ _ _ _ _ hm => by
  cases List.mem_singleton.mp hm
theorem noG_split : ∀ {fs : List Frame}, NoG fs → splitAtGen fs = none
  | [], _ => rfl
  | .gen g k l c p :: fs, h => absurd List.mem_cons_self (h g k l c p)
  | .ret k h0 g l c p kp :: fs, h => by
    show (splitAtGen fs).map _ = none
    rw [noG_split h.tail]; rfl
theorem EC.cl {e : End} (h : EC e) : ClG e.genState := by
  cases e with
  | ret r => exact trivial
  | susp v g l k c p fs => exact h
section
variable {M : Model} {Γ : Ctx} {p : Pos} {fs : List Frame} {s s' : Shared} {e : End}
theorem stuck0 {w : String} (h : Runs M Γ p (.unsupported w) [] s e s') : False := by cases h
theorem stuck {w : String} : ∀ {fs : List Frame} {s s' : Shared} {e : End} {Γ : Ctx}, Runs M Γ p (.unsupported w) fs s e s' → False
  | [], _, _, _, _, h => stuck0 h
  | F :: fs, _, _, _, _, h => by
    cases h with
    | segRet h1 _ => exact stuck0 h1
    | segGen h1 _ => exact stuck0 h1
    | segSuspOut _ h1 => exact stuck0 h1
    | segSuspGen _ h1 _ _ => exact stuck0 h1
theorem get_set {A : Array GenState} {g i : Nat} {v x : GenState} (h : (A.setIfInBounds g v)[i]? = some x) : (i = g ∧ x = v ∧ g < A.size) ∨ (i ≠ g ∧ A[i]? = some x) := by
  by_cases e : g = i
  · subst e
    left
    have hl : g < A.size := by
      have := (Array.getElem?_eq_some_iff.mp h).1
      simpa using this
    rw [Array.getElem?_setIfInBounds_self_of_lt hl] at h
    exact ⟨rfl, (Option.some.inj h).symm, hl⟩
  · right
    rw [Array.getElem?_setIfInBounds_ne e] at h
    exact ⟨fun z => e z.symm, h⟩
theorem GR.set {A G : Array GenState} (h : GR A G) (g : Nat) {v : GenState} (hv : ClG v) : GR (A.setIfInBounds g v) (G.setIfInBounds g v) := by
  refine ⟨by rw [Array.size_setIfInBounds, Array.size_setIfInBounds, h.1], fun i x hx => ?_⟩
  rcases get_set hx with ⟨rfl, rfl, hl⟩ | ⟨hne, hx⟩
  · exact ⟨x, by rw [Array.getElem?_setIfInBounds_self_of_lt (by rw [← h.1]; exact hl)], .same hv⟩
  · obtain ⟨y, hy, r⟩ := h.2 i x hx
    exact ⟨y, by rw [Array.getElem?_setIfInBounds_ne (Ne.symm hne)]; exact hy, r⟩
theorem kp_set {A G : Array GenState} {g : Nat} {v x0 : GenState} (h0 : A[g]? = some x0) (hn : ¬ IsP x0) : Kp A G (A.setIfInBounds g v) (G.setIfInBounds g v) := fun i x y h1 h2 h3 => by
  have hne : g ≠ i := fun z => by
    subst z
    rw [h0] at h1
    cases h1
    exact hn h3
  rw [Array.getElem?_setIfInBounds_ne hne, Array.getElem?_setIfInBounds_ne hne]
  exact ⟨h1, h2⟩
theorem GR.push {A G : Array GenState} (h : GR A G) {v : GenState} (hv : ClG v) : GR (A.push v) (G.push v) := by
  refine ⟨by rw [Array.size_push, Array.size_push, h.1], fun i x hx => ?_⟩
  rw [Array.getElem?_push] at hx
  rw [Array.getElem?_push, ← h.1]
  split at hx
  · rename_i e
    rw [if_pos e]
    cases hx
    exact ⟨_, rfl, .same hv⟩
  · rename_i e
    rw [if_neg e]
    exact h.2 i x hx
theorem kp_push {A G : Array GenState} (h : A.size = G.size) {v : GenState} : Kp A G (A.push v) (G.push v) := fun i x y h1 h2 _ => by
  have l1 := (Array.getElem?_eq_some_iff.mp h1).1
  rw [Array.getElem?_push, Array.getElem?_push, if_neg (by omega), if_neg (by omega)]
  exact ⟨h1, h2⟩
theorem Kp.back {A G : Array GenState} {g : Nat} {x0 v w : GenState} {A1 G1 : Array GenState} (h0 : A[g]? = some x0) (hn : ¬ IsP x0) (k : Kp (A.setIfInBounds g v) (G.setIfInBounds g v) A1 G1) : Kp A G (A1.setIfInBounds g w) (G1.setIfInBounds g w) := fun i x y h1 h2 h3 => by
  have hne : g ≠ i := fun z => by
    subst z
    rw [h0] at h1
    cases h1
    exact hn h3
  obtain ⟨q1, q2⟩ := (kp_set h0 hn).trans k i x y h1 h2 h3
  rw [Array.getElem?_setIfInBounds_ne hne, Array.getElem?_setIfInBounds_ne hne]
  exact ⟨q1, q2⟩
theorem rl_fresh {c : Code} {y : GenState} (h : Rl (.fresh c) y) : y = .fresh c := by cases h; rfl
theorem rl_run {y : GenState} (h : Rl .running y) : y = .running := by cases h; rfl
theorem rl_fin {y : GenState} (h : Rl .finished y) : y = .finished := by cases h; rfl
theorem np_fresh {c : Code} : ¬ IsP (.fresh c) := fun ⟨_, _, _, _, _, h⟩ => nomatch h
theorem runs_keep {M : Model} {Γ : Ctx} {p : Pos} {t : Sem Fin} {fs : List Frame} {s s' : Shared} {e : End} (h : Runs M Γ p t fs s e s') : ∀ G, NoG fs → GR s.gens G →
    ∃ G', Runs M Γ p t fs { s with gens := G } e { s' with gens := G' } ∧ GR s'.gens G' ∧ Kp s.gens G s'.gens G' ∧ EC e := by
  induction h with
  | done => exact fun G _ hg => ⟨G, .done, hg, .refl, trivial⟩
  | raise => exact fun G _ hg => ⟨G, .raise, hg, .refl, trivial⟩
  | again hq _ ih => exact fun G hn hg => let ⟨G', a, b, c, d⟩ := ih G hn hg; ⟨G', .again hq a, b, c, d⟩
  | rule _ ih => exact fun G hn hg => let ⟨G', a, b, c, d⟩ := ih G hn hg; ⟨G', .rule a, b, c, d⟩
  | «at» _ ih => exact fun G hn hg => let ⟨G', a, b, c, d⟩ := ih G hn hg; ⟨G', .at a, b, c, d⟩
  | load hl _ ih => exact fun G hn hg => let ⟨G', a, b, c, d⟩ := ih G hn hg; ⟨G', .load hl a, b, c, d⟩
  | update hl _ ih => exact fun G hn hg => let ⟨G', a, b, c, d⟩ := ih G hn hg; ⟨G', .update hl a, b, c, d⟩
  | loadIfAlive _ ih => exact fun G hn hg => let ⟨G', a, b, c, d⟩ := ih G hn hg; ⟨G', .loadIfAlive a, b, c, d⟩
  | point _ ih => exact fun G hn hg => let ⟨G', a, b, c, d⟩ := ih G hn hg; ⟨G', .point a, b, c, d⟩
  | alloc _ ih => exact fun G hn hg => let ⟨G', a, b, c, d⟩ := ih G hn hg; ⟨G', .alloc a, b, c, d⟩
  | fresh _ ih => exact fun G hn hg => let ⟨G', a, b, c, d⟩ := ih G hn hg; ⟨G', .fresh a, b, c, d⟩
  | ask _ ih => exact fun G hn hg => let ⟨G', a, b, c, d⟩ := ih G hn hg; ⟨G', .ask a, b, c, d⟩
  | choose h0 _ ih => exact fun G hn hg => let ⟨G', a, b, c, d⟩ := ih G hn hg; ⟨G', .choose h0 a, b, c, d⟩
  | os _ ih => exact fun G hn hg => let ⟨G', a, b, c, d⟩ := ih G hn hg; ⟨G', .os a, b, c, d⟩
  | handled _ ih => exact fun G hn hg => let ⟨G', a, b, c, d⟩ := ih G hn hg; ⟨G', .handled a, b, c, d⟩
  | stack _ ih => exact fun G hn hg => let ⟨G', a, b, c, d⟩ := ih G hn hg; ⟨G', .stack a, b, c, d⟩
  | thread _ ih => exact fun G hn hg => let ⟨G', a, b, c, d⟩ := ih G hn hg; ⟨G', .thread a, b, c, d⟩
  | genState hst _ ih =>
    intro G hn hg
    obtain ⟨G', a, b, c, d⟩ := ih G hn hg
    obtain ⟨y, hy, r⟩ := hg.2 _ _ hst
    refine ⟨G', .genState hy ?_, b, c, d⟩
    rw [← r.seen]
    exact a
  | newGen _ ih =>
    intro G hn hg
    obtain ⟨G', a, b, c, d⟩ := ih (G.push (.fresh _)) hn (hg.push (v := .fresh _) trivial)
    refine ⟨G', .newGen ?_, b, (kp_push hg.1).trans c, d⟩
    rw [hg.1] at a
    exact a
  | call _ _ ih1 ih2 =>
    intro G hn hg
    obtain ⟨G1, a, b, c, d⟩ := ih1 G NoG.nil hg
    obtain ⟨G2, a2, b2, c2, d2⟩ := ih2 G1 hn b
    exact ⟨G2, .call a a2, b2, c.trans c2, d2⟩
  | callSusp _ ih =>
    intro G hn hg
    obtain ⟨G1, a, b, c, d⟩ := ih G NoG.nil hg
    exact ⟨G1, .callSusp a, b, c, NoG.app d .ret⟩
  | yield => exact fun G hn hg => ⟨G, .yield, hg, .refl, NoG.nil⟩
  | resumeFresh hst _ hq _ ih1 ih2 =>
    intro G hn hg
    obtain ⟨y, hy, r⟩ := hg.2 _ _ hst
    have := rl_fresh r
    subst this
    obtain ⟨G1, a, b, c, d⟩ := ih1 _ NoG.nil (hg.set _ (v := .running) trivial)
    obtain ⟨G2, a2, b2, c2, d2⟩ := ih2 _ hn (b.set _ d.cl)
    exact ⟨G2, .resumeFresh hy a hq a2, b2, (Kp.back hst np_fresh c).trans c2, d2⟩
  | @resumeSuspended Γ p g r l k s k₀ l₀ c₀ p₀ fs cl e₁ s₁ e s' hst h1 hq _ ih1 ih2 =>
    intro G hn hg
    obtain ⟨y, hy, rl⟩ := hg.2 _ _ hst
    cases rl with
    | poi => exact (stuck h1).elim
    | same hcl =>
      have hnp : ¬ IsP (.suspended k₀ l₀ c₀ p₀ fs cl) := fun ⟨l, c, p, fs, cl, e⟩ => by
        cases e
        exact stuck h1
      obtain ⟨G1, a, b, c, d⟩ := ih1 _ hcl (hg.set _ (v := .running) trivial)
      obtain ⟨G2, a2, b2, c2, d2⟩ := ih2 _ hn (b.set _ d.cl)
      exact ⟨G2, .resumeSuspended hy a hq a2, b2, (Kp.back hst hnp c).trans c2, d2⟩
  | resumeJustStarted hst hv _ ih =>
    intro G hn hg
    obtain ⟨y, hy, r⟩ := hg.2 _ _ hst
    have := rl_fresh r
    subst this
    obtain ⟨G', a, b, c, d⟩ := ih G hn hg
    exact ⟨G', .resumeJustStarted hy hv a, b, c, d⟩
  | resumeThrowFresh hst _ ih =>
    intro G hn hg
    obtain ⟨y, hy, r⟩ := hg.2 _ _ hst
    have := rl_fresh r
    subst this
    obtain ⟨G', a, b, c, d⟩ := ih _ hn (hg.set _ (v := .finished) trivial)
    exact ⟨G', .resumeThrowFresh hy a, b, (kp_set hst np_fresh).trans c, d⟩
  | resumeRunning hst _ ih =>
    intro G hn hg
    obtain ⟨y, hy, r⟩ := hg.2 _ _ hst
    have := rl_run r
    subst this
    obtain ⟨G', a, b, c, d⟩ := ih G hn hg
    exact ⟨G', .resumeRunning hy a, b, c, d⟩
  | resumeFinished hst _ ih =>
    intro G hn hg
    obtain ⟨y, hy, r⟩ := hg.2 _ _ hst
    have := rl_fin r
    subst this
    obtain ⟨G', a, b, c, d⟩ := ih G hn hg
    exact ⟨G', .resumeFinished hy a, b, c, d⟩
  | segRet _ _ ih1 ih2 =>
    intro G hn hg
    obtain ⟨G1, a, b, c, d⟩ := ih1 G NoG.nil hg
    obtain ⟨G2, a2, b2, c2, d2⟩ := ih2 G1 hn.tail b
    exact ⟨G2, .segRet a a2, b2, c.trans c2, d2⟩
  | segGen _ _ ih1 ih2 => exact fun G hn hg => absurd List.mem_cons_self (hn _ _ _ _ _)
  | segSuspOut hs _ ih =>
    intro G hn hg
    obtain ⟨G1, a, b, c, d⟩ := ih G NoG.nil hg
    exact ⟨G1, .segSuspOut hs a, b, c, NoG.app d hn⟩
  | segSuspGen hs _ _ _ ih1 ih2 =>
    intro G hn hg
    rw [noG_split hn] at hs
    cases hs
theorem wp_post {α : Type} {M : Model} {Γ : Ctx} {t : Sem α} {p : Pos} {s : Shared} {Q Q' : α → Pos → Shared → Prop} {E E' : Value → Pos → Shared → Prop} (h : Sem.wp M Γ t Q E p s) (hQ : ∀ a p s, Q a p s → Q' a p s) (hE : ∀ e p s, E e p s → E' e p s) : Sem.wp M Γ t Q' E' p s :=
  Sem.wp_mono M Γ t hQ hE p s h
theorem returns_keep {M : Model} {Γ : Ctx} {p : Pos} {s s' : Shared} {r : Result} {G : Array GenState} (h : Returns M Γ p s r s') (hg : GR s.gens G) : ∃ G', Returns M Γ p { s with gens := G } r { s' with gens := G' } ∧ GR s'.gens G' ∧ Kp s.gens G s'.gens G' := by
  obtain ⟨G', a, b, c, _⟩ := runs_keep h G NoG.nil hg
  exact ⟨G', a, b, c⟩
theorem wakes_keep {M : Model} {Γ : Ctx} {p : Pos} {g : Nat} {r : Resume} {s s' : Shared} {res : GenResult} {G : Array GenState} (h : Wakes M Γ p g r s res s') (hg : GR s.gens G) :
    ∃ G', Wakes M Γ p g r { s with gens := G } res { s' with gens := G' } ∧ GR s'.gens G' ∧ Kp s.gens G s'.gens G' := by
  unfold Wakes at h
  split at h
  · exact h.elim
  · rename_i c hst
    obtain ⟨y, hy, rl⟩ := hg.2 _ _ hst
    have := rl_fresh rl
    subst this
    split at h
    · obtain ⟨e₁, s₁, hr, hq, rfl, rfl⟩ := h
      obtain ⟨G1, a, b, cc, d⟩ := runs_keep hr _ NoG.nil (hg.set g (v := .running) trivial)
      refine ⟨G1.setIfInBounds g e₁.genState, ?_, b.set _ d.cl, Kp.back hst np_fresh cc⟩
      unfold Wakes
      rw [show ({ s with gens := G } : Shared).gens[g]? = some (.fresh c) from hy]
      exact ⟨e₁, _, a, hq, rfl, rfl⟩
    · obtain ⟨rfl, rfl⟩ := h
      refine ⟨G, ?_, hg, .refl⟩
      unfold Wakes
      rw [show ({ s' with gens := G } : Shared).gens[g]? = some (.fresh c) from hy]
      rename_i v hv
      cases v with
      | none => exact (hv rfl).elim
      | _ => exact ⟨rfl, rfl⟩
    · obtain ⟨rfl, rfl⟩ := h
      refine ⟨G.setIfInBounds g .finished, ?_, hg.set g (v := .finished) trivial, kp_set hst np_fresh⟩
      unfold Wakes
      rw [show ({ s with gens := G } : Shared).gens[g]? = some (.fresh c) from hy]
      exact ⟨rfl, rfl⟩
  · rename_i k₀ l₀ c₀ p₀ fs cl hst
    obtain ⟨e₁, s₁, hr, hq, rfl, rfl⟩ := h
    obtain ⟨y, hy, rl⟩ := hg.2 _ _ hst
    cases rl with
    | poi => exact (stuck hr).elim
    | same hcl =>
      have hnp : ¬ IsP (.suspended k₀ l₀ c₀ p₀ fs cl) := fun ⟨l, c, p, fs, cl, e⟩ => by
        cases e
        exact stuck hr
      obtain ⟨G1, a, b, cc, d⟩ := runs_keep hr _ hcl (hg.set g (v := .running) trivial)
      refine ⟨G1.setIfInBounds g e₁.genState, ?_, b.set _ d.cl, Kp.back hst hnp cc⟩
      unfold Wakes
      rw [show ({ s with gens := G } : Shared).gens[g]? = some (.suspended k₀ l₀ c₀ p₀ fs cl) from hy]
      exact ⟨e₁, _, a, hq, rfl, rfl⟩
  · rename_i hst
    obtain ⟨rfl, rfl⟩ := h
    obtain ⟨y, hy, rl⟩ := hg.2 _ _ hst
    have := rl_run rl
    subst this
    refine ⟨G, ?_, hg, .refl⟩
    unfold Wakes
    rw [show ({ s' with gens := G } : Shared).gens[g]? = some .running from hy]
    exact ⟨rfl, rfl⟩
  · rename_i hst
    obtain ⟨rfl, rfl⟩ := h
    obtain ⟨y, hy, rl⟩ := hg.2 _ _ hst
    have := rl_fin rl
    subst this
    refine ⟨G, ?_, hg, .refl⟩
    unfold Wakes
    rw [show ({ s' with gens := G } : Shared).gens[g]? = some .finished from hy]
    exact ⟨rfl, rfl⟩
/-- what a run from the poisoned state gives at the true one -/
def Lift (s₀ : Array GenState) (G₀ : Array GenState) (Q : Shared → Prop) (s' : Shared) : Prop := ∃ A, GR A s'.gens ∧ Kp s₀ G₀ A s'.gens ∧ Q { s' with gens := A }
theorem Lift.mono {A G A1 G1 : Array GenState} {Q : Shared → Prop} {s' : Shared} (k : Kp A G A1 G1) (h : Lift A1 G1 Q s') : Lift A G Q s' := let ⟨A', a, b, c⟩ := h; ⟨A', a, k.trans b, c⟩
theorem wp_keep {α : Type} (M : Model) (Γ : Ctx) (t : Sem α) : ∀ (Q : α → Pos → Shared → Prop) (E : Value → Pos → Shared → Prop) (p : Pos) (s : Shared) (G : Array GenState), GR s.gens G → Sem.wp M Γ t Q E p s →
    Sem.wp M Γ t (fun a p' s' => Lift s.gens G (fun s2 => Q a p' s2) s') (fun e p' s' => Lift s.gens G (fun s2 => E e p' s2) s') p { s with gens := G } := by
  induction t with
  | pure a => intro Q E p s G hg h; exact ⟨s.gens, hg, .refl, h⟩
  | raise e => intro Q E p s G hg h; exact ⟨s.gens, hg, .refl, h⟩
  | unsupported _ => intro Q E p s G hg h; exact h
  | finish _ => intro Q E p s G hg h; exact h
  | rule _ k ih => intro Q E p s G hg h; exact ih () Q E p s G hg h
  | «at» p' k ih => intro Q E p s G hg h; exact ih () Q E p' s G hg h
  | load a _ k ih => intro Q E p s G hg h; obtain ⟨o, ho, h⟩ := h; exact ⟨o, ho, ih o Q E p s G hg h⟩
  | update a _ f k ih => intro Q E p s G hg h; exact ⟨h.1, ih () Q E p { s with heap := s.heap.update a f } G hg h.2⟩
  | loadIfAlive a k ih => intro Q E p s G hg h; exact ih _ Q E p s G hg h
  | point _ k ih => intro Q E p s G hg h; exact ih () Q E p s G hg h
  | register _ _ => intro Q E p s G hg h; exact h
  | alloc o k ih => intro Q E p s G hg h; exact ih _ Q E p { s with heap := s.heap.push o } G hg h
  | fresh k ih => intro Q E p s G hg h; exact ih _ Q E p { s with toks := s.toks + 1 } G hg h
  | ask k ih => intro Q E p s G hg h; exact ih _ Q E p s G hg h
  | choose src m k ih => intro Q E p s G hg h; exact ⟨h.1, ih _ Q E p { s with drawn := s.drawn.bump src } G hg h.2⟩
  | os q _ k ih => intro Q E p s G hg h; exact ih _ Q E p { s with os := (Os.step s.os q).1 } G hg h
  | call c hd _ _ k ih =>
    intro Q E p s G hg h
    obtain ⟨r, s', hr, h⟩ := h
    obtain ⟨G1, a, b, c⟩ := returns_keep hr hg
    exact ⟨r, _, a, wp_post (ih r Q E p s' G1 b h) (fun _ _ _ z => z.mono c) fun _ _ _ z => z.mono c⟩
  | handled own k ih => intro Q E p s G hg h; exact ih _ Q E p s G hg h
  | genState g k ih =>
    intro Q E p s G hg h
    obtain ⟨st, hs, h⟩ := h
    obtain ⟨y, hy, r⟩ := hg.2 _ _ hs
    refine ⟨y, hy, ?_⟩
    rw [← r.seen]
    exact ih _ Q E p s G hg h
  | newGen c k ih =>
    intro Q E p s G hg h
    have := ih _ Q E p { s with gens := s.gens.push (.fresh c) } (G.push (.fresh c)) (hg.push (v := .fresh c) trivial) h
    show Sem.wp M Γ (k G.size) _ _ p { s with gens := G.push (.fresh c) }
    rw [← hg.1]
    exact wp_post this (fun _ _ _ z => z.mono (kp_push hg.1)) fun _ _ _ z => z.mono (kp_push hg.1)
  | resume g r _ k ih =>
    intro Q E p s G hg h
    obtain ⟨res, s', hw, h⟩ := h
    obtain ⟨G1, a, b, c⟩ := wakes_keep hw hg
    exact ⟨res, _, a, wp_post (ih res Q E p s' G1 b h) (fun _ _ _ z => z.mono c) fun _ _ _ z => z.mono c⟩
  | yield _ _ _ _ => intro Q E p s G hg h; exact h
  | stack k ih => intro Q E p s G hg h; exact ih _ Q E p s G hg h
  | fork _ _ => intro Q E p s G hg h; exact h
  | thread k ih => intro Q E p s G hg h; exact ih _ Q E p s G hg h
  | await _ _ _ _ _ => intro Q E p s G hg h; exact h
end
end GN
set_option maxHeartbeats 1000000
/-! One turn of a generator: a run up to its next end, by rules. -/
namespace GN
open PySem PySem.Spec PyProof.Rows L2 GenW
open Sem (wp)
/-- a run that comes to an end of which Φ holds -/
def Sg (M : Model) (A : Around) (Φ : End → Shared → Prop) (c : Code) (t : Sem PySem.Fin) (fs : List Frame) (s : Shared) : Prop := ∀ Γ p, Γ.code = c → Γ.Woken A → ∃ e s', Runs M Γ p t fs s e s' ∧ Φ e s'
section
variable {M : Model} {A : Around} {Φ : End → Shared → Prop} {c : Code} {fs : List Frame} {s : Shared}
theorem sg_wrap {α : Type} {m : Sem α} {K : α → Sem PySem.Fin} {H : Value → Sem PySem.Fin} {gd lv}
    (h : wpAny M (A.over c fs) m (fun a s' => Sg M A Φ c (K a) fs s') (fun x s' => Sg M A Φ c (H x) fs s') s) : Sg M A Φ c (m.wrap K H gd lv) fs s := by
  rintro Γ p rfl hΓ
  exact runs_wrap_of_wp K H gd lv m (h (Γ.over fs) p (hΓ.over fs)) (fun a p' s' h' => h' Γ p' rfl hΓ) (fun x p' s' h' => h' Γ p' rfl hΓ)
theorem sg_bind {α : Type} {m : Sem α} {K : α → Sem PySem.Fin}
    (h : wpAny M (A.over c fs) m (fun a s' => Sg M A Φ c (K a) fs s') (fun x s' => Sg M A Φ c (.raise x) fs s') s) : Sg M A Φ c (m >>= K) fs s := by
  rw [Sem.bind_eq_wrap']; exact sg_wrap h
theorem sg_bind_wrap {α β : Type} {m : Sem α} {K : α → Sem β} {K' : β → Sem PySem.Fin} {H' : Value → Sem PySem.Fin} {gd lv}
    (h : wpAny M (A.over c fs) m (fun a s' => Sg M A Φ c ((K a).wrap K' H' gd lv) fs s') (fun x s' => Sg M A Φ c (H' x) fs s') s) : Sg M A Φ c ((m >>= K).wrap K' H' gd lv) fs s := by
  rw [Sem.bind_eq_wrap', Sem.wrap_wrap]; exact sg_wrap h
theorem sg_at {p' : Pos} {k : Unit → Sem PySem.Fin} (h : Sg M A Φ c (k ()) fs s) : Sg M A Φ c (.at p' k) fs s :=
  sg_wrap (m := standAt p') (K := k) (H := .raise) (gd := id) (lv := id) (wpAny_standAt h)
theorem sg_point {l : List Value} {k : Unit → Sem PySem.Fin} (h : Sg M A Φ c (k ()) fs s) : Sg M A Φ c (.point l k) fs s :=
  sg_wrap (m := point) (K := k) (H := .raise) (gd := id) (lv := fun _ => l) (wpAny_point h)
theorem sg_call {c' : Code} {h g l} {k : Result → Sem PySem.Fin} (hc : ∀ p, Sg M A Φ c' (M.den c') (.ret k h g l c p [] :: fs) s) : Sg M A Φ c (.call c' h g l k) fs s := by
  rintro Γ p rfl hΓ
  obtain ⟨e, s', hr, he⟩ := hc p (Γ.goto c') p rfl (hΓ.goto c')
  exact ⟨e, s', runs_call_seg hr, he⟩
theorem sg_leaf {k h g l c₁ p₁ kp} (r : Result) (hk : Sg M A Φ c₁ (k r) fs s) : Sg M A Φ c (leafOf r) (.ret k h g l c₁ p₁ kp :: fs) s := by
  rintro Γ p rfl hΓ
  obtain ⟨e, s', hr, he⟩ := hk (Γ.goto c₁) p₁ rfl (hΓ.goto c₁)
  exact ⟨e, s', Runs.pop r hr, he⟩
theorem sg_again {c' : Code} (hq : c'.quiet = true) (hc : Sg M A Φ c' (M.den c') fs s) : Sg M A Φ c (.pure (.again c')) fs s := by
  rintro Γ p rfl hΓ
  obtain ⟨e, s', hr, he⟩ := hc (Γ.goto c') p rfl (hΓ.goto c')
  exact ⟨e, s', Runs.head (c₁ := c') (fun _ _ x => .again hq x) hr, he⟩
theorem sg_end (r : Result) (h : Φ (.ret r) s) : Sg M A Φ c (leafOf r) [] s := by
  rintro Γ p rfl _
  exact ⟨.ret r, s, Runs.leaf r, h⟩
theorem sg_yield {v g l} {k : Resume → Sem PySem.Fin} (hfs : splitAtGen fs = none) (h : ∀ p, Φ (.susp v g l k c p fs) s) : Sg M A Φ c (.yield v g l k) fs s := by
  rintro Γ p rfl _
  exact ⟨_, s, Runs.yield' fs hfs, h p⟩
variable {env : Env} {K : Flow → Sem PySem.Fin} {H : Value → Sem PySem.Fin} {gd : Bool → Bool} {lv : List Value → List Value}
theorem sg_execs_nil (h : Sg M A Φ c (K .next) fs s) : Sg M A Φ c ((execs [] env).wrap K H gd lv) fs s := h
theorem sg_execs_cons {st : Stmt} {rest : List Stmt}
    (h : Sg M A Φ c ((exec st env).wrap (fun f => match f with | .next => (execs rest env).wrap K H gd lv | f => K f) H gd lv) fs s) : Sg M A Φ c ((execs (st :: rest) env).wrap K H gd lv) fs s := by rw [execs_cons_wrap]; exact h
/-- yield e, as a statement -/
theorem sg_Expr_Yield {e : Expr} {ypos pos : Pos} (hfs : splitAtGen fs = none)
    (h : wpAny M (A.over c fs) (eval e env) (fun v s' => ∀ l k p, k (.send .none) = K .next → Φ (.susp v (gd false) l k c p fs) s') (fun x s' => Sg M A Φ c (H x) fs s') s) (hco : env.scope.isCoroutine = false := by rfl) (hi : interactive env = false := by rfl) :
    Sg M A Φ c ((exec (.Expr (.Yield (some e) ypos) pos) env).wrap K H gd lv) fs s := by
  rw [exec_Expr env _ pos hi rfl]
  show Sg M A Φ c (.at pos fun _ => ((eval e env >>= fun v => (standAt ypos >>= fun _ => yieldOut env v)) >>= fun x =>
    dropValue (.Yield (some e) ypos) pos x).wrap K H gd lv) fs s
  have hy : ∀ v, yieldOut env v = yieldValue v := fun v => by simp only [yieldOut, hco, Bool.false_eq_true, if_false]
  simp only [hy]
  refine sg_at ?_
  rw [Sem.bind_eq_wrap', Sem.bind_eq_wrap', Sem.wrap_wrap, Sem.wrap_wrap]
  refine sg_wrap (wpAny_mono h (fun v s' h' => ?_) fun _ _ x => x)
  refine sg_at (sg_yield hfs fun p => h' _ _ p ?_)
  rfl
theorem sg_For {target iter : Expr} {body orelse : List Stmt} {pos : Pos} (hs : ∀ x, foldedSetIterable iter env x = pure x)
    (h : wpAny M (A.over c fs) (eval iter env) (fun x s1 => wpAny M (A.over c fs) (pyIter x) (fun it s2 => ∀ p l, Sg M A Φ (.forLoop target it body orelse env) (M.den (.forLoop target it body orelse env))
      (.ret (fun r => ((match r with | .ok f => (.pure f : Sem Flow) | .error e => .raise e).onRaise (cameBack env)).wrap K H gd lv) none (gd false) l c p [] :: fs) s2)
      (fun x s' => Sg M A Φ c (H x) fs s') s1) (fun x s' => Sg M A Φ c (H x) fs s') s) :
    Sg M A Φ c ((exec (.For target iter body orelse pos) env).wrap K H gd lv) fs s := by
  rw [exec_For]
  refine sg_bind_wrap (wpAny_standAt ?_)
  refine sg_bind_wrap (wpAny_mono h (fun x s1 h1 => ?_) fun _ _ z => z)
  refine sg_bind_wrap (wpAny_of_eq (hs x) ?_)
  refine sg_bind_wrap (wpAny_standAt ?_)
  refine sg_bind_wrap (wpAny_holding (wpAny_mono h1 (fun it s2 h2 => ?_) fun _ _ z => z))
  exact sg_call fun p => h2 p _
end
section
variable {prog : Program} {w : World} {A : Around} {Φ : End → Shared → Prop} {fs : List Frame} {s : Shared} {env : Env}
theorem sg_forLoop {x : Str} {px : Pos} {it : Value} {body : List Stmt}
    (h : wpAny (model prog w) (A.over (.forLoop (.Name x px) it body [] env) fs) (pyNext it) (fun r s1 => match r with
       | none => Sg (model prog w) A Φ (.forLoop (.Name x px) it body [] env) (.pure (.again (.block [] env))) fs s1
       | some v => wpAny (model prog w) (A.over (.forLoop (.Name x px) it body [] env) fs) (assign (.Name x px) env v) (fun _ s2 =>
           Sg (model prog w) A Φ (.forLoop (.Name x px) it body [] env) ((execs body env).wrap (fun f => match f with
             | .next | .cont => .pure (.again (.forLoop (.Name x px) it body [] env))
             | .brk => .pure (.done .next)
             | .ret v => .pure (.done (.ret v))) (fun e => (do noteFrame e env; theTreesLotGoes e : Sem Unit).wrap (fun _ => .raise e) .raise id id) id id) fs s2) (fun _ _ => False) s1) (fun _ _ => False) s) :
    Sg (model prog w) A Φ (.forLoop (.Name x px) it body [] env) ((model prog w).den (.forLoop (.Name x px) it body [] env)) fs s := by
  show Sg _ A Φ _ ((forTurn (.Name x px) it body [] env).onRaise (fun x => do noteFrame x env; theTreesLotGoes x)) fs s
  unfold forTurn
  rw [Sem.onRaise_eq_wrap]
  refine sg_bind_wrap (wpAny_standAt ?_)
  refine sg_bind_wrap (wpAny_onRaise (wpAny_mono h (fun r s1 h1 => ?_) fun _ _ z => False.elim z))
  cases r with
  | none => exact h1
  | some v =>
    refine sg_bind_wrap (wpAny_of_eq (rfl : letOwnedTupleGo (.Name x px) it v = pure ()) ?_)
    refine sg_bind_wrap (wpAny_mono h1 (fun _ s2 h2 => ?_) fun _ _ z => False.elim z)
    rw [Sem.bind_eq_wrap', Sem.wrap_wrap]
    rw [Sem.wrap_congr (execs body env) _ _ (K' := fun f => match f with
            | .next | .cont => .pure (.again (.forLoop (.Name x px) it body [] env))
            | .brk => .pure (.done .next)
            | .ret v => .pure (.done (.ret v))) (H' := (fun e => (do noteFrame e env; theTreesLotGoes e : Sem Unit).wrap (fun _ => .raise e) .raise id id))
        (fun f => by cases f <;> rfl)
        (fun e => by first | exact Sem.bind_eq_wrap _ _ | (show (do noteFrame e env; theTreesLotGoes e : Sem Unit).bind (fun _ => .raise e) = _; rw [Sem.bind_eq_wrap]))]
    exact h2
theorem sg_block0 {k h g l c₁ p₁ kp} (hk : Sg (model prog w) A Φ c₁ (k (.ok .next)) fs s) : Sg (model prog w) A Φ (.block [] env) ((model prog w).den (.block [] env)) (.ret k h g l c₁ p₁ kp :: fs) s := by
  have e : (model prog w).den (.block [] env) = leafOf (.ok .next) := by rfl
  rw [e]
  exact sg_leaf (.ok .next) hk
theorem sg_func {body : List Stmt}
    (h : Sg (model prog w) A Φ (.func body env) ((execs body env).wrap (fun f => .pure (.done (.ret (match f with | .ret v => v | _ => .none))))
      (fun e => (leaving env e).wrap (fun _ => .raise e) .raise id id) id id) fs s) : Sg (model prog w) A Φ (.func body env) ((model prog w).den (.func body env)) fs s := by
  show Sg _ A Φ _ (.point [] fun _ => ((execs body env).onRaise (leaving env)) >>= _) fs s
  refine sg_point ?_
  rw [Sem.onRaise_eq_wrap, Sem.bind_eq_wrap', Sem.wrap_wrap]
  rw [Sem.wrap_congr (execs body env) _ _ (K' := fun f => .pure (.done (.ret (match f with | .ret v => v | _ => .none))))
    (H' := fun e => (leaving env e).wrap (fun _ => .raise e) .raise id id) (fun f => by cases f <;> rfl)
    (fun e => by rw [Sem.bind_eq_wrap, Sem.wrap_wrap]; rfl)]
  exact h
end
/-! ### waking -/
/-- what a generator does when it is sent none -/
def Wk (M : Model) (A : Around) (Φ : End → Shared → Prop) (s : Shared) : GenState → Prop
  | .fresh c => Sg M A Φ c (M.den c) [] s
  | .suspended k _ c _ fs _ => Sg M A Φ c (k (.send .none)) fs s
  | _ => False
section
variable {M : Model}
theorem wpAny_resumeS {A : Around} {Φ : End → Shared → Prop} {E : Value → Shared → Prop} {s : Shared} {g : Nat} {gs : GenState} {l : List Value} {α : Type} {k : GenResult → Sem α} {Q : α → Shared → Prop} (hg : s.gens[g]? = some gs)
    (hgo : Wk M A Φ (s.setGen g .running) gs) (hq : ∀ e s1, Φ e s1 → e.quiet = true)
    (h : ∀ e s1, Φ e s1 → wpAny M A (k e.result) Q E (s1.setGen g e.genState)) : wpAny M A (.resume g (.send .none) l k) Q E s := by
  intro Γ p hΓ
  rw [Sem.wp_resume]
  have hB : ∀ c, (Γ.wake c p).Woken A := fun c => hΓ.wake c p
  cases gs with
  | fresh c =>
    obtain ⟨e₁, s₁, hr, he⟩ := hgo (Γ.wake c p) p rfl (hB c)
    exact ⟨_, _, by unfold Wakes; rw [hg]; exact ⟨e₁, s₁, hr, hq e₁ s₁ he, rfl, rfl⟩, h e₁ s₁ he Γ p hΓ⟩
  | suspended k₀ l₀ c₀ p₀ fs₀ cl =>
    obtain ⟨e₁, s₁, hr, he⟩ := hgo (Γ.wake c₀ p) p₀ rfl (hB c₀)
    exact ⟨_, _, by unfold Wakes; rw [hg]; exact ⟨e₁, s₁, hr, hq e₁ s₁ he, rfl, rfl⟩, h e₁ s₁ he Γ p hΓ⟩
  | running => exact hgo.elim
  | finished => exact hgo.elim
end
section
variable {prog : Program} {w : World} {A : Around} {E : Value → Shared → Prop} {s : Shared}
/-- next(g): an item -/
theorem next_item {a : Addr} {g : Nat} {gs : GenState} {Φ : Value → End → Shared → Prop} {Q : Option Value → Shared → Prop}
    (hl : s.heap.NoLimit) (hroom : A.depth < recursionLimit) (hg : s.heap.IsGen a g) (hgs : s.gens[g]? = some gs)
    (hgo : Wk (model prog w) A.in1 (fun e s1 => ∃ v l k c p fs, e = .susp v false l k c p fs ∧ fs.any Frame.guarded = false ∧ Φ v e s1) (s.setGen g .running) gs)
    (hQ : ∀ v e s1, Φ v e s1 → Q (some v) (s1.setGen g e.genState)) : wpAny (model prog w) A (pyNext (.ref a)) Q E s := by
  unfold pyNext
  refine wpAny_bind (wpAny_attempt (wpAny_callSpecial?_slot (name := Str.ofString "__next__") hg.typeIs slot_gen_next
    (wpAny_call_entry slot_gen_next hg.typeIs entry_gen_next ?_ (args_gen_next _))))
  show wpAny _ A.in1 (Builtin.Generator.genWake (.ref a) (.send .none)) _ _ s
  unfold Builtin.Generator.genWake
  refine wpAny_bind (wpAny_holding (wpAny_genNumber hg (wpAny_bind (wpAny_genState hgs ?_))))
  cases gs with
  | running => exact hgo.elim
  | finished => exact hgo.elim
  | _ =>
    refine wpAny_bind (wpAny_roomToWake hl hroom ?_)
    show wpAny _ A.in1 (.resume g (.send .none) [] _) _ _ s
    refine wpAny_resumeS hgs hgo (fun e s1 he => ?_) fun e s1 he => ?_
    · obtain ⟨v, l, k, c, p, fs, rfl, hfs, _⟩ := he
      simp [End.quiet, hfs]
    · obtain ⟨v, l, k, c, p, fs, rfl, hfs, hp⟩ := he
      exact wpAny_pure ⟨v, rfl, wpAny_pure (hQ v _ s1 hp)⟩
/-- next(g): the end -/
theorem next_end {a : Addr} {g : Nat} {gs : GenState} {Φ : Shared → Prop} {Q : Option Value → Shared → Prop} (hh : A.handled = none)
    (hl : s.heap.NoLimit) (hroom : A.depth < recursionLimit) (hg : s.heap.IsGen a g) (hgs : s.gens[g]? = some gs)
    (hgo : Wk (model prog w) A.in1 (fun e s1 => e = .ret (.ok (.ret .none)) ∧ Φ s1) (s.setGen g .running) gs)
    (hQ : ∀ s1, Φ s1 → ∀ h', (∀ b o, s1.heap.get? b = some o → h'.get? b = some o) → Q none { s1.setGen g .finished with heap := h' }) : wpAny (model prog w) A (pyNext (.ref a)) Q E s := by
  unfold pyNext
  refine wpAny_bind (wpAny_attempt (wpAny_callSpecial?_slot (name := Str.ofString "__next__") hg.typeIs slot_gen_next
    (wpAny_call_entry slot_gen_next hg.typeIs entry_gen_next ?_ (args_gen_next _))))
  show wpAny _ A.in1 (Builtin.Generator.genWake (.ref a) (.send .none)) _ _ s
  unfold Builtin.Generator.genWake
  refine wpAny_bind (wpAny_holding (wpAny_genNumber hg (wpAny_bind (wpAny_genState hgs ?_))))
  cases gs with
  | running => exact hgo.elim
  | finished => exact hgo.elim
  | _ =>
    refine wpAny_bind (wpAny_roomToWake hl hroom ?_)
    show wpAny _ A.in1 (.resume g (.send .none) [] _) _ _ s
    refine wpAny_resumeS hgs hgo (fun e s1 he => by rw [he.1]; rfl) fun e s1 he => ?_
    obtain ⟨rfl, hp⟩ := he
    show wpAny _ A.in1 (newExc (.type "StopIteration") [] >>= _) _ _ _
    refine wpAny_bind ?_
    simp only [newExc, newTuple]
    refine wpAny_bind (wpAny_newObj_type ?_ (by size_fits))
    refine wpAny_bind (m := firstArgMember _ _) (wpAny_of_eq (a := Value.none) (by first | rfl | (simp only [firstArgMember]; rfl)) ?_)
    refine wpAny_newObj_type ?_ (by size_fits)
    simp only [raiseNew]
    refine wpAny_bind (wpAny_bind (wpAny_handled ?_))
    first | rw [show A.in1.handled = none from hh] | rw [hh]
    refine wpAny_throw ?_
    refine wpAny_bind (wpAny_isInstance (T := "StopIteration") (b := true) ⟨_, Heap.get?_push_size _ rfl, rfl⟩ isSubtype_stop ?_)
    exact wpAny_pure (hQ s1 hp _ fun b o hb => Heap.get?_push_of_some _ (Heap.get?_push_of_some _ hb))
end
/-! ### what sleeps is kept -/
def poiA (G : Array GenState) : Array GenState := G.map poi
theorem poi_rl (x : GenState) : Rl (poi x) x := by
  cases x with
  | suspended k l c p fs cl => exact .poi
  | fresh c => exact .same trivial
  | running => exact .same trivial
  | finished => exact .same trivial
theorem gr_poi (G : Array GenState) : GR (poiA G) G := by
  refine ⟨by unfold poiA; rw [Array.size_map], fun i x hx => ?_⟩
  unfold poiA at hx
  rw [Array.getElem?_map] at hx
  cases e : G[i]? with
  | none => rw [e] at hx; cases hx
  | some y =>
    rw [e] at hx
    have hx : some (poi y) = some x := hx
    cases hx
    exact ⟨y, rfl, poi_rl y⟩
theorem gr_bare {A G : Array GenState} (h : GR A G) (b : AllBare A) : AllBare G := fun y hy => by
  obtain ⟨i, hi, e⟩ := Array.mem_iff_getElem.mp hy
  have hi2 : i < A.size := by rw [h.1]; exact hi
  obtain ⟨z, hz, r⟩ := h.2 i A[i] (Array.getElem?_eq_getElem hi2)
  rw [Array.getElem?_eq_getElem hi, e] at hz
  cases hz
  rw [← r.bare]
  exact b _ (Array.getElem_mem hi2)
theorem bare_poi {G : Array GenState} (b : AllBare G) : AllBare (poiA G) := fun y hy => by
  unfold poiA at hy
  obtain ⟨x, hx, rfl⟩ := Array.mem_map.mp hy
  rw [(poi_rl x).bare]
  exact b x hx
def isSusp : GenState → Bool
  | .suspended .. => true
  | _ => false
/-- the sleeping are kept -/
def KeptS (G G' : Array GenState) : Prop := ∀ (i : Nat) x, G[i]? = some x → isSusp x = true → G'[i]? = some x
theorem keptS_of {G A' G' : Array GenState} (k : Kp (poiA G) G A' G') : KeptS G G' := fun i x hx hs => by
  cases x with
  | suspended kk l c p fs cl =>
    refine (k i (poi (.suspended kk l c p fs cl)) _ ?_ hx ⟨l, c, p, fs, cl, rfl⟩).2
    unfold poiA
    rw [Array.getElem?_map, hx]; rfl
  | fresh c => cases hs
  | running => cases hs
  | finished => cases hs
theorem wpAny_keep {α : Type} {M : Model} {A : Around} {t : Sem α} {Q : α → Shared → Prop} {E : Value → Shared → Prop} {s : Shared} (h : wpAny M A t Q E { s with gens := poiA s.gens }) :
    wpAny M A t (fun a s' => KeptS s.gens s'.gens ∧ ∃ A', GR A' s'.gens ∧ Q a { s' with gens := A' }) (fun e s' => ∃ A', GR A' s'.gens ∧ E e { s' with gens := A' }) s := fun Γ p hΓ => by
  have z := wp_keep M Γ t _ _ p { s with gens := poiA s.gens } s.gens (gr_poi s.gens) (h Γ p hΓ)
  refine wp_post z (fun a p' s' hq => ?_) fun e p' s' hq => ?_
  · obtain ⟨A', a1, a2, a3⟩ := hq
    exact ⟨keptS_of a2, A', a1, a3⟩
  · obtain ⟨A', a1, a2, a3⟩ := hq
    exact ⟨A', a1, a3⟩
theorem inv_gens {X : Cx} {pins : List (Addr × Obj)} {σ : L2.St} {H : Hp} {s : Shared} (I : Inv X pins σ H s) {G : Array GenState} (hg : AllBare G) : Inv X pins σ H { s with gens := G } :=
  ⟨I.ok, I.os, hg, I.base, I.loc, I.cell, I.free, I.freeC, I.pin, I.hok, I.len⟩
theorem inv_poi {X : Cx} {pins : List (Addr × Obj)} {σ : L2.St} {H : Hp} {s : Shared} (I : Inv X pins σ H s) : Inv X pins σ H { s with gens := poiA s.gens } := inv_gens I (bare_poi I.bare)
theorem inv_back {X : Cx} {pins : List (Addr × Obj)} {σ : L2.St} {H : Hp} {s : Shared} {A' : Array GenState} (g : GR A' s.gens) (I : Inv X pins σ H { s with gens := A' }) : Inv X pins σ H s :=
  inv_gens (G := s.gens) I (gr_bare g I.bare)
end GN
set_option maxHeartbeats 1000000
/-! A generator def of the form: name = e1; for x in e2: yield e3. Its turns, within a caller's context. -/
namespace GN
open PySem PySem.Spec PyProof.Rows L2 GenW DL
/-! ### a heap cut off -/
def cutH (h : Heap) (L : Nat) : Heap := { h with objs := h.objs.extract 0 L }
theorem cutH_size {h : Heap} {L : Nat} (hl : L ≤ h.objs.size) : (cutH h L).objs.size = L := by
  unfold cutH
  simp [Array.size_extract]; omega
theorem cutH_get {h : Heap} {L b : Nat} {o : Obj} : (cutH h L).get? b = some o ↔ b < L ∧ h.get? b = some o := by
  rw [Heap.get?_some_iff, Heap.get?_some_iff]
  unfold cutH
  simp only [Array.getElem?_extract, Nat.sub_zero, Nat.zero_add]
  constructor
  · rintro ⟨h1, h2⟩
    by_cases hb : b < min L h.objs.size
    · rw [if_pos hb] at h1
      exact ⟨by omega, h1, h2⟩
    · rw [if_neg hb] at h1; cases h1
  · rintro ⟨h1, h2, h3⟩
    have hb := (Array.getElem?_eq_some_iff.mp h2).1
    rw [if_pos (by omega)]
    exact ⟨h2, h3⟩
/-- the context of a generator's turn: the state at its start, all that is older than the frame -/
@[reducible] def gX (X : Cx) (s : Shared) (H : Hp) (L : Addr) (N : List Str) (qual : Str) (scope : Scope) (f : Addr) (cd : Value) : Cx where
  prog := X.prog
  w := X.w
  K := X.K
  mg := X.mg
  base := X.base
  A := X.A.in1.deeper (envOfC qual scope L f cd)
  N := N
  s_0 := { s with heap := cutH s.heap L }
  H_0 := fun b => if b < L then H b else none
  env := envOfC qual scope L f cd
  outer := X.stack
  stack := envOfC qual scope L f cd :: X.stack
  ex := []
  fn := fun _ => true
  calm := true
  pn := []
  xe := fun _ _ => False
/-- a generator def's scope: no cells -/
structure GSc (scope : Scope) : Prop where
  kind : scope.kind = .function
  co : scope.isCoroutine = false
  gen : scope.isGenerator = true
  loc : ∀ y ∈ scope.names, y.2 ≠ .cell ∧ y.2 ≠ .free
theorem cellsFrom_none : ∀ {names : List (Str × NameKind)} {n : Nat} {acc : List (Str × Addr)}, (∀ y ∈ names, y.2 ≠ .cell) → cellsFrom n names acc = acc
  | [], _, _, _ => rfl
  | (x, k) :: r, n, acc, h => by
    unfold cellsFrom
    rw [if_neg (fun z => h (x, k) List.mem_cons_self (by simpa using z))]
    exact cellsFrom_none fun y hy => h y (List.mem_cons_of_mem _ hy)
theorem GSc.cells {scope : Scope} (S : GSc scope) (qual : Str) (L f : Addr) (cd : Value) : (envOfC qual scope L f cd).cells = [] := cellsFrom_none fun y hy => (S.loc y hy).1
theorem GSc.nocell {scope : Scope} (S : GSc scope) {qual : Str} {L f : Addr} {cd : Value} {x : Str} {c : Addr} (h : (envOfC qual scope L f cd).cells.lookup x = some c) : False := by
  rw [S.cells] at h; cases h
/-- who wakes it -/
structure GCons (X : Cx) (k : Nat) (L : Addr) (own : List Addr) : Prop where
  calm : X.calm = true
  room : Room (k + 2) X.A
  frsL : ∀ b ∈ L2.frs X.stack, b < L
  cells : ∀ x c, X.env.cells.lookup x = some c → c < L
  mid : ∀ b o, X.s_0.heap.get? b = some o → b ∉ X.ex → b < L ∨ (X.H_0 b ≠ none ∧ b ∈ own)
  bsz : X.base.objs.size ≤ L
  loc : X.env.locals < L ∨ X.env.locals ∉ L2.frs X.stack
theorem fs_stack {X : Cx} (ok : X.Ok) {b : Addr} (hb : b ∈ X.fs) : b ∈ frs X.stack := by
  rcases ok.stk with e | ⟨e, hf⟩
  · rw [e]; exact hb
  · rw [e]
    unfold frs
    rw [List.filterMap_cons, hf]
    exact List.mem_cons_of_mem _ hb
section
variable {X : Cx} {k : Nat} {L a f : Addr} {own : List Addr} {pins : List (Addr × Obj)} {σ σg : L2.St} {H H' : Hp} {s s' : Shared} {N : List Str} {qual : Str} {scope : Scope} {cd : Value}
/-- the pins of a turn: the waker's, the generator's object, the waker's frame where it is younger -/
def gpins (X : Cx) (pins : List (Addr × Obj)) (L a : Addr) (h : Heap) : List (Addr × Obj) := (X.pn ++ pins) ++ pinsAt (a :: (if X.env.locals < L then [] else [X.env.locals])) h
theorem mem_gpins {p : Addr × Obj} {h : Heap} (hp : p ∈ gpins X pins L a h) : p ∈ X.pn ++ pins ∨ (h.get? p.1 = some p.2 ∧ (p.1 = a ∨ (p.1 = X.env.locals ∧ ¬ X.env.locals < L))) := by
  unfold gpins at hp
  rcases List.mem_append.mp hp with z | z
  · exact .inl z
  · obtain ⟨h1, h2⟩ := of_pinsAt z
    refine .inr ⟨h2, ?_⟩
    rcases List.mem_cons.mp h1 with e | e
    · exact .inl e
    · by_cases q : X.env.locals < L
      · rw [if_pos q] at e; cases e
      · rw [if_neg q] at e
        exact .inr ⟨List.mem_singleton.mp e, q⟩
theorem funs_cut {base h : Heap} : ∀ {l : List Env}, (∀ b ∈ frs l, b < L) → h.FunFrames base l → (cutH h L).FunFrames base l
  | [], _, _ => trivial
  | env :: r, hs, hl => by
    obtain ⟨hk, ⟨L', o, hf, hn, ho, hd⟩, hr⟩ := hl
    have hm : L' ∈ frs (env :: r) := by unfold frs; rw [List.filterMap_cons, hf]; exact List.mem_cons_self
    exact ⟨hk, ⟨L', o, hf, hn, cutH_get.mpr ⟨hs L' hm, ho⟩, hd⟩, funs_cut (fun b hb => hs b (by unfold frs; rw [List.filterMap_cons, hf]; exact List.mem_cons_of_mem _ hb)) hr⟩
/-- a turn begins -/
theorem gX_start (S : GSc scope) (C : GCons X k L own) (I : Inv X pins σ H s) (hN : N.Nodup) {m : Str → Option Value} (hm : s.heap.Ns L m) (hfL : FpOk X pins H L) (hfa : FpOk X pins H a) {go : Obj} (ha : s.heap.get? a = some go) (had : ∃ vs, go.data = .fields vs)
    (hlen : σg.length = N.length) (hl : ∀ (i : Nat) x v, N[i]? = some x → σg[i]? = some (some v) → Vis scope x → ∃ u, RelV v u ∧ scope.names.lookup x = some .local ∧ m x = some u) :
    Inv (gX X s H L N qual scope f cd) (gpins X pins L a s.heap) σg H s := by
  have hLs : L < s.heap.objs.size := hm.lt
  obtain ⟨vs, had⟩ := had
  have stkX : ∀ b ∈ frs X.stack, b = X.env.locals ∨ b ∈ X.fs := fun b hb => List.mem_cons.mp (I.stkSub b hb)
  refine ⟨⟨I.ok.mod, S.kind, rfl, rfl, ?_, fun y z c h1 h2 => (S.nocell h1).elim, fun y hy => ?_, fun y c _ h => (S.nocell h).elim, fun _ => C.room.hd, ?_, .inr ⟨rfl, rfl⟩, fun b hb => (nomatch hb), fun b o e => ?_, ?_, fun b o e hb => (nomatch hb), fun b hb => (nomatch hb), ?_, ?_⟩,
    rfl, I.bare, ⟨fun b o e n hb hx => (cutH_get.mp e).2, fun b o e n hb hx => ⟨o.slots, (cutH_get.mp e).2⟩, fun b o e n hx => ?_, fun b o e hx => ⟨o, (cutH_get.mp e).2⟩, fun b xs e => ?_, fun b o u e => ?_, fun b ps e => ?_⟩,
    ⟨m, hm, fun i x v h1 h2 h3 => ?_⟩, fun y c h => (S.nocell h).elim, hfL.1, fun y c h => (S.nocell h).elim, fun p hp => ?_, I.hok, hlen⟩
  · show (cutH s.heap L).objs.size ≤ L
    rw [cutH_size (Nat.le_of_lt hLs)]
    exact Nat.le_refl _
  · have hy : scope.names.lookup y = some .cell ∨ scope.names.lookup y = some .free := hy
    rcases hy with hy | hy
    · exact absurd rfl (S.loc _ (PySem.mem_of_lookup hy)).1
    · exact absurd rfl (S.loc _ (PySem.mem_of_lookup hy)).2
  · exact Around.frames_deeper (show X.A.in1.frames = some X.stack from I.ok.frames)
  · have hb : b < L := Nat.lt_of_lt_of_le (Heap.lt_size e) C.bsz
    obtain ⟨h1, h2⟩ := I.bs b o e
    refine ⟨cutH_get.mpr ⟨hb, h1⟩, ?_⟩
    show (if b < L then H b else none) = none
    rw [if_pos hb]; exact h2
  · show X.base.objs.size ≤ (cutH s.heap L).objs.size
    rw [cutH_size (Nat.le_of_lt hLs)]
    exact C.bsz
  · exact funs_cut C.frsL I.stack
  · intro b hb
    show (if b < L then H b else none) = none
    rw [if_pos (C.frsL b hb)]
    exact I.stkFree b hb
  · have n : (if b < L then H b else none) = none := n
    rw [if_pos (cutH_get.mp e).1] at n
    exact n
  · have e : (if b < L then H b else none) = some (.tup xs) := e
    split at e
    · exact e
    · cases e
  · have e : (if b < L then H b else none) = some (.frz o u) := e
    split at e
    · exact e
    · cases e
  · have e : (if b < L then H b else none) = some (.tbl ps) := e
    split at e
    · exact ⟨#[], by rw [e]; simp⟩
    · cases e
  · obtain ⟨u, r, hk, e⟩ := hl i x v h1 h2 h3
    exact ⟨u, r, .inl ⟨hk, e⟩⟩
  · rcases mem_gpins hp with z | ⟨z, z2⟩
    · obtain ⟨q1, q2, q3, q4, q5⟩ := I.pin p z
      refine ⟨q1, q2, hfL.2.2.2.2.2 p z, fun hb => ?_, q5⟩
      rcases stkX p.1 hb with q | q
      · exact q3 q
      · exact q4 q
    · have notL : ∀ o : Obj, s.heap.get? L = some o → ∃ es ep, o.data = .dict es ep := fun o e => by
        obtain ⟨o', es, ep, e', d, _⟩ := hm
        rw [e] at e'; cases e'
        exact ⟨es, ep, d⟩
      rcases z2 with e | ⟨e, q⟩
      · rw [e] at z ⊢
        rw [ha] at z
        have ego : go = p.2 := Option.some.inj z
        refine ⟨by rw [ha, ego], hfa.1, fun w => ?_, fun hb => ?_, fun v d => ?_⟩
        · obtain ⟨es, ep, d⟩ := notL go (by rw [← show a = L from w]; exact ha)
          rw [had] at d; cases d
        · rcases stkX a hb with w | w
          · exact hfa.2.1 w
          · exact hfa.2.2.1 w
        · rw [← ego, had] at d; cases d
      · rw [e] at z ⊢
        refine ⟨z, I.free, fun w => hfL.2.1 (show L = X.env.locals from w.symm), fun hb => ?_, fun v d => ?_⟩
        · rcases C.loc with w | w
          · exact q w
          · exact w hb
        · obtain ⟨m', ⟨o', es, ep, e', d', _⟩, _⟩ := I.loc
          rw [z] at e'; cases e'
          rw [d'] at d; cases d
theorem objOk_there {P : Program} {w : World} {H : Hp} {h : Heap} {a : Addr} {o : HO} (x : ObjOk P w H h a o) : ∃ ob, h.get? a = some ob := by
  cases o with
  | lst xs => obtain ⟨_, _, _, _, e⟩ := x; exact ⟨_, e⟩
  | tup xs => obtain ⟨_, _, _, ⟨_, e, _⟩⟩ := x; exact ⟨_, e⟩
  | dK kvs => obtain ⟨_, _, _, _, o, _, _, e, _⟩ := x; exact ⟨_, e⟩
  | dT kvs => obtain ⟨_, _, _, _, o, _, _, e, _⟩ := x; exact ⟨_, e⟩
  | set S n => obtain ⟨o, _, _, _, e, _⟩ := x; exact ⟨_, e⟩
  | ins C dx fs => obtain ⟨_, _, _, e, _⟩ := x; exact ⟨_, e⟩
  | own y => exact x
  | xd fs => obtain ⟨_, ⟨_, _, _, e, _⟩, _⟩ := x; exact ⟨_, e⟩
  | rng lo hi => obtain ⟨_, _, _, e⟩ := x; exact ⟨_, e⟩
  | frz ob u => obtain ⟨e, _⟩ := x; exact ⟨_, e⟩
  | tbl ps => exact ⟨_, (show h.get? a = some _ from x)⟩
  | met f y => exact ⟨_, (show h.get? a = some _ from x)⟩
  | ext φ => obtain ⟨_, ⟨_, e⟩, _⟩ := x; exact ⟨_, e⟩
/-- a turn is over: the waker's state -/
theorem gX_end {pins' : List (Addr × Obj)} (C : GCons X k L own) (I : Inv X pins σ H s) (hLs : L < s.heap.objs.size) (hown : ∀ b ∈ own, H b ≠ none) (J : Inv (gX X s H L N qual scope f cd) pins' σg H' s') (hp' : ∀ p ∈ gpins X pins L a s.heap, p ∈ pins') (hs : Same H H') : Inv X pins σ H' s' := by
  have old : ∀ b o, b < L → s.heap.get? b = some o → H b = none → ∃ sl, s'.heap.get? b = some { o with slots := sl } := fun b o hb e n => by
    have q : (cutH s.heap L).get? b = some o := cutH_get.mpr ⟨hb, e⟩
    have n0 : (gX X s H L N qual scope f cd).H_0 b = none := by
      show (if b < L then H b else none) = none
      rw [if_pos hb]; exact n
    exact J.base.any q n0 (fun z => by cases z)
  have oldk : ∀ b o, b < L → s.heap.get? b = some o → H b = none → b ∉ frs X.stack → s'.heap.get? b = some o := fun b o hb e n hf => by
    have q : (cutH s.heap L).get? b = some o := cutH_get.mpr ⟨hb, e⟩
    have n0 : (gX X s H L N qual scope f cd).H_0 b = none := by
      show (if b < L then H b else none) = none
      rw [if_pos hb]; exact n
    exact J.base.keep b o q n0 hf (fun z => by cases z)
  have oldf : ∀ b o, b < L → s.heap.get? b = some o → H b = none → H' b = none := fun b o hb e n => by
    have q : (cutH s.heap L).get? b = some o := cutH_get.mpr ⟨hb, e⟩
    have n0 : (gX X s H L N qual scope f cd).H_0 b = none := by
      show (if b < L then H b else none) = none
      rw [if_pos hb]; exact n
    exact J.base.free b o q n0 (fun z => by cases z)
  have pin : ∀ p ∈ gpins X pins L a s.heap, s'.heap.get? p.1 = some p.2 ∧ H' p.1 = none := fun p hp => by
    obtain ⟨q1, q2, _⟩ := J.pin p (List.mem_append_right _ (hp' p hp))
    exact ⟨q1, q2⟩
  have locp : ¬ X.env.locals < L → ∀ o, s.heap.get? X.env.locals = some o → s'.heap.get? X.env.locals = some o ∧ H' X.env.locals = none := fun h o e =>
    pin (X.env.locals, o) (by
      unfold gpins
      refine List.mem_append_right _ (mem_pinsAt ?_ e)
      rw [if_neg h]
      exact List.mem_cons_of_mem _ List.mem_cons_self)
  have nostk : ∀ b o, X.s_0.heap.get? b = some o → b ∉ X.fs → b ∉ frs X.stack := fun b o e hb hm => by
    rcases List.mem_cons.mp (I.stkSub b hm) with z | z
    · have h1 := Heap.lt_size e
      have h2 := I.ok.above
      rw [z] at h1
      exact absurd (Nat.lt_of_lt_of_le h1 h2) (Nat.lt_irrefl _)
    · exact hb z
  have mid : ∀ b o, X.s_0.heap.get? b = some o → X.H_0 b = none → b ∉ X.ex → b < L := fun b o e n hx => (C.mid b o e hx).resolve_right fun z => z.1 n
  obtain ⟨m, hn, hl⟩ := I.loc
  obtain ⟨oL, es, ep, hoL, hdL, hrL⟩ := id hn
  have hn' : s'.heap.Ns X.env.locals m := by
    by_cases h : X.env.locals < L
    · obtain ⟨sl, e⟩ := old _ _ h hoL I.free
      exact ⟨_, es, ep, e, hdL, hrL⟩
    · exact ⟨_, es, ep, (locp h _ hoL).1, hdL, hrL⟩
  have hcell : ∀ x c, X.env.cells.lookup x = some c → ∀ v, s.heap.IsCell c v → s'.heap.IsCell c v := fun x c e v ⟨o, ho, hd⟩ => by
    obtain ⟨sl, q⟩ := old c o (C.cells x c e) ho (I.freeC x c e)
    exact ⟨_, q, hd⟩
  refine ⟨I.ok, J.os.trans I.os, J.bare, ⟨fun b o e n hb hx => ?_, fun b o e n hb hx => ?_, fun b o e n hx => ?_, fun b o e hx => ?_, fun b xs e => hs _ _ (I.base.tups b xs e), fun b o u e => hs _ _ (I.base.frzs b o u e), fun b ps e => ?_⟩, ⟨m, hn', fun i x v h1 h2 h3 => ?_⟩, fun x c e => ?_, ?_, fun x c e => ?_, fun p hp => ?_, J.hok, I.len⟩
  · exact oldk b o (mid b o e n hx) (I.base.keep b o e n hb hx) (I.base.free b o e n hx) (nostk b o e hb)
  · obtain ⟨sl, e1⟩ := I.base.slot b o e n hb hx
    obtain ⟨sl2, e2⟩ := old b _ (mid b o e n hx) e1 (I.base.free b o e n hx)
    exact ⟨sl2, e2⟩
  · obtain ⟨sl, e1⟩ := I.base.any e n hx
    exact oldf b _ (mid b o e n hx) e1 (I.base.free b o e n hx)
  · obtain ⟨o', e1⟩ := I.base.there b o e hx
    cases q : H b with
    | none =>
      have hb : b < L := (C.mid b o e hx).resolve_right fun z => hown b z.2 q
      obtain ⟨sl, e2⟩ := old b o' hb e1 q
      exact ⟨_, e2⟩
    | some u => exact objOk_there (J.hok b u (hs _ _ q))
  · obtain ⟨more, e1⟩ := I.base.tbls b ps e
    exact ⟨more, hs _ _ e1⟩
  · obtain ⟨u, r, l⟩ := hl i x v h1 h2 h3
    refine ⟨u, r, ?_⟩
    rcases l with l | ⟨kk, c, e, z⟩
    · exact .inl l
    · exact .inr ⟨kk, c, e, hcell x c e _ z⟩
  · obtain ⟨v, z⟩ := I.cell x c e
    exact ⟨v, hcell x c e v z⟩
  · by_cases h : X.env.locals < L
    · exact oldf _ _ h hoL I.free
    · exact (locp h _ hoL).2
  · obtain ⟨v, o, ho, hd⟩ := I.cell x c e
    exact oldf c o (C.cells x c e) ho (I.freeC x c e)
  · obtain ⟨q1, q2, q3, q4, q5⟩ := I.pin p hp
    obtain ⟨w1, w2⟩ := pin p (by unfold gpins; exact List.mem_append_left _ hp)
    exact ⟨w1, w2, q3, q4, q5⟩
end
end GN
set_option maxHeartbeats 1000000
/-! name = e1; for x in e2: yield e3: its loop, its turns. -/
namespace GN
open PySem PySem.Spec PyProof.Rows L2 GenW DL
structure GB where
  qual : Str
  scope : Scope
  xl : Str
  xb : Str
  pl : Pos
  pb : Pos
  ps : Pos
  fp : Pos
  yp : Pos
  ep : Pos
  e1 : Expr
  e2 : Expr
  e3 : Expr
abbrev GB.N (B : GB) : List Str := ["self", B.xl, B.xb]
abbrev GB.fbody (B : GB) : List Stmt := [.Expr (.Yield (some B.e3) B.yp) B.ep]
abbrev GB.st1 (B : GB) : Stmt := .Assign [.Name B.xl B.pl] B.e1 B.ps
abbrev GB.body (B : GB) : List Stmt := [B.st1, .For (.Name B.xb B.pb) B.e2 B.fbody [] B.fp]
abbrev GB.env (B : GB) (L f : Addr) (cd : Value) : Env := envOfC B.qual B.scope L f cd
abbrev GB.X (B : GB) (X : Cx) (s : Shared) (H : Hp) (L f : Addr) (cd : Value) : Cx := gX X s H L B.N B.qual B.scope f cd
abbrev GB.cW (B : GB) (L f : Addr) (cd : Value) (it : Addr) : Code := .forLoop (.Name B.xb B.pb) (.ref it) B.fbody [] (B.env L f cd)
abbrev SpG2 := List (Str × PyData) → PyData → List PyData → List PyData → Prop
structure GOk (P : Program) (w : World) (K : PySem.W.Frag) (mg : Str → Option Value) (base : Heap) (k : Nat) (B : GB) (f C : Addr) (Sp : SpG2) : Prop where
  sc : GSc B.scope
  nd : B.N.Nodup
  self : B.scope.names.lookup ("self" : Str) = some .local
  xl : B.scope.names.lookup B.xl = some .local
  xb : B.scope.names.lookup B.xb = some .local
  hs : ∀ env x, foldedSetIterable B.e2 env x = pure x
  run : ∀ (X : Cx) (s : Shared) (H : Hp) (L : Addr) (cd : Value), X.prog = P → X.w = w → X.K = K → X.mg = mg → X.base = base → Room k (X.A.in1.deeper (B.env L f cd)) →
    ∃ te1 te2 te3, PS (B.X X s H L f cd) B.st1 (tAsg te1 (gName 1)) ∧ PE (B.X X s H L f cd) B.e2 te2 ∧ PE (B.X X s H L f cd) B.e3 te3 ∧ ∀ r dx fs lifts bases out, Sp fs lifts bases out →
      EvC K te1 [.raw (.ref r), .un, .un] [(r, .ins C dx fs)] (.val lifts) ∧ EvC K te2 [.raw (.ref r), .val lifts, .un] [(r, .ins C dx fs)] (.val (.list bases)) ∧
      ∀ (i : Nat) (b d : PyData), bases[i]? = some b → out[i]? = some d → EvC K te3 [.un, .val lifts, .val b] [] (.val d)
def FsOk (B : GB) (L f : Addr) (cd : Value) (fs : List Frame) : Prop := ∃ kF l p, fs = [.ret kF none false l (.func B.body (B.env L f cd)) p []] ∧ kF (.ok .next) = leafOf (.ok (.ret .none))
theorem FsOk.over {B : GB} {L f it : Addr} {cd : Value} {fs : List Frame} (h : FsOk B L f cd fs) (A : Around) : A.over (B.cW L f cd it) fs = A.deeper (B.env L f cd) := by
  obtain ⟨kF, l, p, rfl, _⟩ := h
  exact (over_loop (c := .func B.body (B.env L f cd)) rfl rfl).trans over_func
theorem FsOk.split {B : GB} {L f : Addr} {cd : Value} {fs : List Frame} (h : FsOk B L f cd fs) : splitAtGen fs = none := by
  obtain ⟨kF, l, p, rfl, _⟩ := h
  rfl
theorem FsOk.guard {B : GB} {L f : Addr} {cd : Value} {fs : List Frame} (h : FsOk B L f cd fs) : fs.any Frame.guarded = false := by
  obtain ⟨kF, l, p, rfl, _⟩ := h
  rfl
section
variable {P : Program} {w : World} {K : PySem.W.Frag} {mg : Str → Option Value} {base : Heap} {k : Nat} {B : GB} {f C : Addr} {Sp : SpG2}
variable {X : Cx} {L a r dx it q : Addr} {own : List Addr} {pins ip : List (Addr × Obj)} {σ : L2.St} {H Hb H0 : Hp} {s s0 : Shared} {cd : Value} {fs : List (Str × PyData)} {lifts : PyData} {bases out : List PyData} {Φ : End → Shared → Prop} {fr : List Frame} {i : Nat} {vl : V}
/-- the loop's head, an item is there -/
theorem walk_loop_item (G : GOk P w K mg base k B f C Sp) (hP : X.prog = P) (hw : X.w = w) (hK : X.K = K) (hmg : X.mg = mg) (hba : X.base = base) (hroom : Room k (X.A.in1.deeper (B.env L f cd))) (hfr : FsOk B L f cd fr)
    (sp : Sp fs lifts bases out) (J : Inv (B.X X s0 H0 L f cd) ip σ H s) (hσ : ∃ o1 o2, σ = [o1, some vl, o2]) (hs : Same Hb H) (rl : Dr K Hb vl lifts) (hit : s.heap.IsListIter it q i) (rq : Dr K Hb (.ref q) (.list bases)) (hf : FpOk (B.X X s0 H0 L f cd) ip H it)
    {b d : PyData} (hb : bases[i]? = some b) (hd : out[i]? = some d)
    (hΦ : ∀ v v' l kk p s' Hb' H' σ', Inv (B.X X s0 H0 L f cd) ip σ' H' s' → (∃ o1 o2, σ' = [o1, some vl, o2]) → Gr Hb H Hb' H' → RelV v' v → Dr K Hb' v' d → s'.heap.IsListIter it q (i + 1) → H' it = none → kk (.send .none) = .pure (.again (B.cW L f cd it)) →
      Φ (.susp v false l kk (B.cW L f cd it) p fr) s') :
    Sg (model X.prog X.w) X.A.in1 Φ (B.cW L f cd it) ((model X.prog X.w).den (B.cW L f cd it)) fr s := by
  subst hP hw hK hmg hba
  obtain ⟨te1, te2, te3, p1, p2, p3, hsp⟩ := G.run X s0 H0 L cd rfl rfl rfl rfl rfl hroom
  obtain ⟨o1, o2, rfl⟩ := hσ
  refine sg_forLoop ?_
  rw [hfr.over]
  cases rq with
  | lst e1 e2 =>
  obtain ⟨x, hx, rx⟩ := e2.get hb
  obtain ⟨its, rv, pl, hz⟩ := J.list (SqL.of (hs _ _ e1))
  obtain ⟨u, hu, ru⟩ := rv.get hx
  obtain ⟨f0, f1, f2, f3, f4, f5⟩ := hf
  refine wpAny_pyNext_list_item hit pl.isList (x := u) (by simpa using hu) fun h' st' sb => ?_
  have J1 : Inv (B.X X s0 H0 L f cd) ip [o1, some vl, o2] H { s with heap := h' } := J.turned (t' := s.toks) (fun b o hb e => (sb.2 b hb).trans e) f0 f1 f3 f4 f5
  obtain ⟨oi, ei, ci, di⟩ := id st'
  have hfp : ∀ b ∈ [it], FpOk (B.X X s0 H0 L f cd) ip H b := fun b hb => by
    rw [List.mem_singleton.mp hb]; exact ⟨f0, f1, f2, f3, f4, f5⟩
  have J2 := J1.pinned hfp (fun b hb => by
    rw [List.mem_singleton.mp hb]
    exact ⟨oi, ei, fun v z => by rw [di] at z; cases z⟩)
  have pit : (it, oi) ∈ ip ++ pinsAt [it] ({ s with heap := h' } : Shared).heap := List.mem_append_right _ (mem_pinsAt (List.mem_singleton.mpr rfl) ei)
  have pg : PG (B.X X s0 H0 L f cd) (.Name B.xb B.pb) (gName 2) := pg_name G.nd rfl (.inl G.xb)
  refine wpAny_mono (pg.run _ _ _ H x u (fun σ' H' => σ' = [o1, some vl, some x] ∧ H' = H) J2 ru ⟨rfl, rfl⟩) (fun _ s2 ⟨σ2, H2, J3, eσ, eH⟩ => ?_) fun _ _ z => z
  subst eσ eH
  refine sg_execs_cons ?_
  refine sg_Expr_Yield hfr.split ?_ G.sc.co J3.quiet
  rw [hfr.over]
  have S : Stt X.K Hb H2 [o1, some vl, some x] [.un, .val lifts, .val b] [] := by
    refine ⟨hs, rfl, fun j o c h1 h2 => ?_, .nil⟩
    match j, h1, h2 with
    | 0, h1, h2 => cases h2; exact trivial
    | 1, h1, h2 => cases h1; cases h2; exact ⟨vl, rfl, rl⟩
    | 2, h1, h2 => cases h1; cases h2; exact ⟨x, rfl, rx⟩
    | j + 3, h1, h2 => simp at h2
  refine wpAny_mono (p3.run _ s2 _ H2 (fun v H' => ∃ Hb', Gr Hb H2 Hb' H' ∧ Dr X.K Hb' v d) J3 ((hsp 0 0 fs lifts bases out sp).2.2 i b d hb hd Hb H2 _ S _ fun v Hb' H' g rr => ⟨Hb', g, rr⟩)) (fun v s3 ⟨v', H3, J4, rv', Hb3, g3, r3⟩ => ?_) fun _ _ z => False.elim z
  intro l kk p hk
  obtain ⟨w1, w2, _⟩ := J4.pin _ (List.mem_append_right _ pit)
  exact hΦ v v' l kk p s3 Hb3 H3 _ J4.unpinned ⟨_, _, rfl⟩ g3 rv' r3 ⟨oi, w1, ci, di⟩ w2 hk
/-- the loop's head, nothing is left -/
theorem walk_loop_end (G : GOk P w K mg base k B f C Sp) (hK : X.K = K) (hfr : FsOk B L f cd fr)
    (J : Inv (B.X X s0 H0 L f cd) ip σ H s) (hs : Same Hb H) (hit : s.heap.IsListIter it q i) (rq : Dr K Hb (.ref q) (.list bases)) (hf : FpOk (B.X X s0 H0 L f cd) ip H it) (hh : (X.A.in1.deeper (B.env L f cd)).handled = none)
    (hi : bases.length ≤ i) (hΦ : ∀ s', Inv (B.X X s0 H0 L f cd) ip σ H s' → Φ (.ret (.ok (.ret .none))) s') :
    Sg (model X.prog X.w) X.A.in1 Φ (B.cW L f cd it) ((model X.prog X.w).den (B.cW L f cd it)) fr s := by
  subst hK
  refine sg_forLoop ?_
  rw [hfr.over]
  cases rq with
  | lst e1 e2 =>
  obtain ⟨its, rv, pl, hz⟩ := J.list (SqL.of (hs _ _ e1))
  obtain ⟨f0, f1, f2, f3, f4, f5⟩ := hf
  have hl := rv.length
  have hl2 := e2.length
  refine wpAny_pyNext_list_end hh hit pl.isList (by simp; omega) fun h' eb => ?_
  have J1 : Inv (B.X X s0 H0 L f cd) ip σ H { s with heap := h' } := J.turned (t' := s.toks) (fun b o hb e => eb b o hb e) f0 f1 f3 f4 f5
  show Sg _ _ _ _ (.pure (.again (.block [] (B.env L f cd)))) fr _
  refine sg_again rfl ?_
  obtain ⟨kF, l, p, rfl, hkF⟩ := hfr
  refine sg_block0 ?_
  rw [hkF]
  exact sg_end _ (hΦ _ J1)
end
end GN
set_option maxHeartbeats 1000000
/-! The turns, as a waker sees them. -/
namespace GN
open PySem PySem.Spec PyProof.Rows L2 GenW DL
/-- where the generator stands: behind its call, behind its i-th yield -/
def GT (K : PySem.W.Frag) (B : GB) (f : Addr) (cd : Value) (L a : Addr) (g : Nat) (r : Addr) (lifts : PyData) (bases : List PyData) : Nat → List Addr → Hp → Shared → Prop
  | 0, fp, _, s => s.gens[g]? = some (.fresh (.func B.body (B.env L f cd))) ∧ s.heap.IsGen a g ∧ (∃ m, s.heap.Ns L m ∧ m "self" = some (.ref r)) ∧ fp = [L, a]
  | i + 1, fp, Hb, s => ∃ k l p cl it q fs, s.gens[g]? = some (.suspended k l (B.cW L f cd it) p fs cl) ∧ k (.send .none) = .pure (.again (B.cW L f cd it)) ∧ FsOk B L f cd fs ∧ s.heap.IsGen a g ∧
    (∃ m vl ul, s.heap.Ns L m ∧ m B.xl = some ul ∧ RelV vl ul ∧ Dr K Hb vl lifts) ∧ s.heap.IsListIter it q (i + 1) ∧ Dr K Hb (.ref q) (.list bases) ∧ L < it ∧ fp = [L, a, it]
section
variable {K : PySem.W.Frag} {B : GB} {f L a r : Addr} {cd : Value} {g : Nat} {lifts : PyData} {bases : List PyData}
theorem isGen_obj {h : Heap} (x : h.IsGen a g) : ∃ o, h.get? a = some o ∧ o.cls = .type "generator" ∧ (∃ vs, o.data = .fields vs) ∧ ∀ v, o.data ≠ .cell v := by
  obtain ⟨o, nm, qn, ho, hc, hd, _⟩ := x
  exact ⟨o, ho, hc, ⟨_, hd⟩, fun v z => by rw [hd] at z; cases z⟩
theorem ns_obj {h : Heap} {m : Str → Option Value} (x : h.Ns L m) : ∃ o, h.get? L = some o ∧ ∀ v, o.data ≠ .cell v := by
  obtain ⟨o, es, ep, ho, hd, _⟩ := x
  exact ⟨o, ho, fun v z => by rw [hd] at z; cases z⟩
theorem iter_obj {h : Heap} {it q : Addr} {i : Nat} (x : h.IsListIter it q i) : ∃ o, h.get? it = some o ∧ ∀ v, o.data ≠ .cell v := by
  obtain ⟨o, ho, hc, hd⟩ := x
  exact ⟨o, ho, fun v z => by rw [hd] at z; cases z⟩
theorem gt_obj : ∀ {i : Nat} {fp : List Addr} {Hb : Hp} {s : Shared}, GT K B f cd L a g r lifts bases i fp Hb s → ∀ b ∈ fp, ∃ o, s.heap.get? b = some o ∧ ∀ v, o.data ≠ .cell v
  | 0, fp, Hb, s, ⟨_, h2, ⟨m, h3, _⟩, e⟩, b, hb => by
    subst e
    rcases List.mem_cons.mp hb with e | hb
    · rw [e]; exact ns_obj h3
    · rw [List.mem_singleton.mp hb]
      obtain ⟨o, h, _, _, d⟩ := isGen_obj h2
      exact ⟨o, h, d⟩
  | i + 1, fp, Hb, s, ⟨k, l, p, cl, it, q, fs, _, _, _, h2, ⟨m, vl, ul, h3, _⟩, h4, _, _, e⟩, b, hb => by
    subst e
    rcases List.mem_cons.mp hb with e | hb
    · rw [e]; exact ns_obj h3
    · rcases List.mem_cons.mp hb with e | hb
      · rw [e]
        obtain ⟨o, h, _, _, d⟩ := isGen_obj h2
        exact ⟨o, h, d⟩
      · rw [List.mem_singleton.mp hb]; exact iter_obj h4
theorem gt_keep : ∀ {i : Nat} {fp : List Addr} {Hb Hb' : Hp} {s s' : Shared}, GT K B f cd L a g r lifts bases i fp Hb s → Same Hb Hb' → (∀ b ∈ fp, ∀ o, s.heap.get? b = some o → s'.heap.get? b = some o) → s'.gens[g]? = s.gens[g]? → GT K B f cd L a g r lifts bases i fp Hb' s'
  | 0, fp, Hb, Hb', s, s', ⟨h1, ⟨o, nm, qn, ho, h2⟩, ⟨m, ⟨oL, es, ep, hL, h3⟩, hm⟩, e⟩, hs, hk, hg => by
    subst e
    exact ⟨hg.trans h1, ⟨o, nm, qn, hk a (by simp) _ ho, h2⟩, ⟨m, ⟨oL, es, ep, hk L (by simp) _ hL, h3⟩, hm⟩, rfl⟩
  | i + 1, fp, Hb, Hb', s, s', ⟨k, l, p, cl, it, q, fs, h1, hkk, hfs, ⟨o, nm, qn, ho, h2⟩, ⟨m, vl, ul, ⟨oL, es, ep, hL, h3⟩, hm, rv, rl⟩, h4, rq, hlt, e⟩, hs, hk, hg => by
    subst e
    exact ⟨k, l, p, cl, it, q, fs, hg.trans h1, hkk, hfs, ⟨o, nm, qn, hk a (by simp) _ ho, h2⟩, ⟨m, vl, ul, ⟨oL, es, ep, hk L (by simp) _ hL, h3⟩, hm, rv, Dr.up hs _ rl⟩, h4.at fun o e => hk it (by simp) o e, Dr.up hs _ rq, hlt, rfl⟩
theorem gt_susp {i : Nat} {fp : List Addr} {Hb : Hp} {s : Shared} (h : GT K B f cd L a g r lifts bases (i + 1) fp Hb s) : ∃ x, s.gens[g]? = some x ∧ isSusp x = true := by
  obtain ⟨k, l, p, cl, it, q, fs, h1, _⟩ := h
  exact ⟨_, h1, rfl⟩
theorem gt_gen : ∀ {i : Nat} {fp : List Addr} {Hb : Hp} {s : Shared}, GT K B f cd L a g r lifts bases i fp Hb s → s.heap.IsGen a g
  | 0, _, _, _, ⟨_, h, _⟩ => h
  | _ + 1, _, _, _, ⟨_, _, _, _, _, _, _, _, _, _, h, _⟩ => h
theorem gt_fp : ∀ {i : Nat} {fp : List Addr} {Hb : Hp} {s : Shared}, GT K B f cd L a g r lifts bases i fp Hb s → L ∈ fp ∧ a ∈ fp
  | 0, _, _, _, ⟨_, _, _, e⟩ => by subst e; simp
  | _ + 1, _, _, _, ⟨_, _, _, _, _, _, _, _, _, _, _, _, _, _, _, e⟩ => by subst e; simp
theorem gt_ns : ∀ {i : Nat} {fp : List Addr} {Hb : Hp} {s : Shared}, GT K B f cd L a g r lifts bases i fp Hb s → ∃ m, s.heap.Ns L m
  | 0, _, _, _, ⟨_, _, ⟨m, h, _⟩, _⟩ => ⟨m, h⟩
  | _ + 1, _, _, _, ⟨_, _, _, _, _, _, _, _, _, _, _, ⟨m, _, _, h, _⟩, _⟩ => ⟨m, h⟩
end
section
variable {P : Program} {w : World} {K : PySem.W.Frag} {mg : Str → Option Value} {base : Heap} {k : Nat} {B : GB} {f C : Addr} {Sp : SpG2}
variable {X : Cx} {L a r dx it q : Addr} {g : Nat} {own : List Addr} {pins ip : List (Addr × Obj)} {σ σg : L2.St} {H H' Hb H0 : Hp} {s s' s0 : Shared} {cd : Value} {fs : List (Str × PyData)} {lifts : PyData} {bases out : List PyData} {Φ : End → Shared → Prop} {fr : List Frame} {i : Nat} {vl : V}
/-- a new record of the turn, as the waker sees it -/
theorem fp_new (Cn : GCons X k L own) (I : Inv X pins σ H s) (hLs : L < s.heap.objs.size) (J : Inv (B.X X s H L f cd) (gpins X pins L a s.heap) σg H' s') (hn : H' it = none) (hit : s'.heap.objs.size ≤ it) : FpOk X pins H' it := by
  have hL : L < s'.heap.objs.size := J.lt
  have pin : ∀ p ∈ gpins X pins L a s.heap, p.1 < s'.heap.objs.size := fun p hp => Heap.lt_size (J.pin p (List.mem_append_right _ hp)).1
  have hloc : X.env.locals < it := by
    by_cases h : X.env.locals < L
    · exact Nat.lt_of_lt_of_le (Nat.lt_trans h hL) hit
    · obtain ⟨m, ⟨o, es, ep, ho, _⟩, _⟩ := I.loc
      have := pin (X.env.locals, o) (by
        unfold gpins
        refine List.mem_append_right _ (mem_pinsAt ?_ ho)
        rw [if_neg h]
        exact List.mem_cons_of_mem _ List.mem_cons_self)
      exact Nat.lt_of_lt_of_le this hit
  refine ⟨hn, Nat.ne_of_gt hloc, fun hb => ?_, .inr (Nat.le_trans I.ok.above (Nat.le_of_lt hloc)), fun x c e z => ?_, fun p hp z => ?_⟩
  · exact Nat.lt_irrefl _ (Nat.lt_of_lt_of_le (Nat.lt_trans (Cn.frsL it (fs_stack I.ok hb)) hL) hit)
  · have h1 := Cn.cells x c e
    rw [z] at h1
    exact Nat.lt_irrefl _ (Nat.lt_of_lt_of_le (Nat.lt_trans h1 hL) hit)
  · have h1 := pin p (by unfold gpins; exact List.mem_append_left _ hp)
    rw [z] at h1
    exact Nat.lt_irrefl _ (Nat.lt_of_lt_of_le h1 hit)
/-- a record of the waker's, as the turn sees it -/
theorem fp_in (Cn : GCons X k L own) (I : Inv X pins σ H s) (hLs : L < s.heap.objs.size) (hf : FpOk X pins H it) (hlt : L < it) (hne : it ≠ a) (S : GSc B.scope) : FpOk (B.X X s H L f cd) (gpins X pins L a s.heap) H it := by
  obtain ⟨f0, f1, f2, f3, f4, f5⟩ := hf
  refine ⟨f0, Nat.ne_of_gt hlt, fun hb => ?_, .inr ?_, fun x c e => (S.nocell e).elim, fun p hp => ?_⟩
  · rcases List.mem_cons.mp (I.stkSub it hb) with z | z
    · exact f1 z
    · exact f2 z
  · show (cutH s.heap L).objs.size ≤ it
    rw [cutH_size (Nat.le_of_lt hLs)]
    exact Nat.le_of_lt hlt
  · rcases mem_gpins (List.mem_append.mp hp |>.resolve_left (fun z => nomatch z)) with z | ⟨z, z2⟩
    · exact f5 p z
    · rcases z2 with e | ⟨e, _⟩
      · rw [e]; exact fun w => hne w.symm
      · rw [e]; exact fun w => f1 w.symm
/-- the fresh generator's first run up to its loop -/
theorem walk_first (G : GOk P w K mg base k B f C Sp) (hP : X.prog = P) (hw : X.w = w) (hK : X.K = K) (hmg : X.mg = mg) (hba : X.base = base) (Cn : GCons X k L own) (sp : Sp fs lifts bases out) (I : Inv X pins σ H s) (hs : Same Hb H)
    {m : Str → Option Value} (hm : s.heap.Ns L m) (hself : m "self" = some (.ref r)) (hfL : FpOk X pins H L) (hfa : FpOk X pins H a) (hga : s.heap.IsGen a g) (hr0 : Hb r = none) (hr : RsAt K Hb H r (.ins C dx fs))
    (hc : ∀ fr s4 Hb4 H4 σ4 vl it q, FsOk B L f cd fr → Inv (B.X X s H L f cd) (gpins X pins L a s.heap) σ4 H4 s4 → (∃ o1 o2, σ4 = [o1, some vl, o2]) → Gr Hb H Hb4 H4 → Dr K Hb4 vl lifts → s4.heap.IsListIter it q 0 → Dr K Hb4 (.ref q) (.list bases) →
      FpOk (B.X X s H L f cd) (gpins X pins L a s.heap) H4 it → FpOk X pins H4 it → L < it → Sg (model X.prog X.w) X.A.in1 Φ (B.cW L f cd it) ((model X.prog X.w).den (B.cW L f cd it)) fr s4) :
    Sg (model X.prog X.w) X.A.in1 Φ (.func B.body (B.env L f cd)) ((model X.prog X.w).den (.func B.body (B.env L f cd))) [] s := by
  subst hP hw hK hmg hba
  have hroom : Room k (X.A.in1.deeper (B.env L f cd)) := (Cn.room.in1).deeper _
  obtain ⟨te1, te2, te3, p1, p2, p3, hsp⟩ := G.run X s H L cd rfl rfl rfl rfl rfl hroom
  obtain ⟨q1, q2, q3⟩ := hsp r dx fs lifts bases out sp
  obtain ⟨go, hgo, _, hgd, _⟩ := isGen_obj hga
  have J : Inv (B.X X s H L f cd) (gpins X pins L a s.heap) [some (.ref r), none, none] H s := gX_start (N := B.N) G.sc Cn I G.nd hm hfL hfa hgo hgd rfl fun j x v h1 h2 h3 => by
    match j, h1, h2 with
    | 0, h1, h2 =>
      cases h1; cases h2
      exact ⟨_, rfl, G.self, hself⟩
    | 1, h1, h2 => cases h2
    | 2, h1, h2 => cases h2
    | j + 3, h1, h2 => simp at h2
  have S0 : Stt X.K Hb H [some (.ref r), none, none] [.raw (.ref r), .un, .un] [(r, .ins C dx fs)] := by
    refine ⟨hs, rfl, fun j o c h1 h2 => ?_, ⟨by simp, fun x hx => ?_⟩⟩
    · match j, h1, h2 with
      | 0, h1, h2 => cases h1; cases h2; exact rfl
      | 1, h1, h2 => cases h2; exact trivial
      | 2, h1, h2 => cases h2; exact trivial
      | j + 3, h1, h2 => simp at h2
    · rw [List.mem_singleton.mp hx]; exact ⟨hr0, hr⟩
  refine sg_func ?_
  refine sg_execs_cons ?_
  refine sg_wrap ?_
  rw [over_func]
  refine wpAny_mono (p1.run _ s _ H { nx := fun σ' H' => ∃ Hb' v, σ' = [some (.ref r), some v, none] ∧ Gr Hb H Hb' H' ∧ Dr X.K Hb' v lifts, rt := fun _ _ => False } J (q1 Hb H _ S0 _ fun v Hb' H' g' rr => ⟨Hb', v, rfl, g', rr⟩)) (fun fl s2 hfl => ?_) fun _ _ z => False.elim z
  cases fl with
  | brk => obtain ⟨_, _, _, q⟩ := hfl; exact False.elim q
  | cont => obtain ⟨_, _, _, q⟩ := hfl; exact False.elim q
  | ret u => obtain ⟨_, _, _, _, _, q⟩ := hfl; exact False.elim q
  | next =>
  obtain ⟨σ2, H2, J2, Hb2, v2, rfl, g2, r2⟩ := hfl
  refine sg_execs_cons ?_
  refine sg_For (G.hs _) ?_
  rw [over_func]
  have S2 : Stt X.K Hb2 H2 [some (.ref r), some v2, none] [.raw (.ref r), .val lifts, .un] [(r, .ins C dx fs)] := by
    refine ⟨g2.sub, rfl, fun j o c h1 h2 => ?_, (S0.up g2).res⟩
    match j, h1, h2 with
    | 0, h1, h2 => cases h1; cases h2; exact rfl
    | 1, h1, h2 => cases h1; cases h2; exact ⟨v2, rfl, r2⟩
    | 2, h1, h2 => cases h2; exact trivial
    | j + 3, h1, h2 => simp at h2
  refine wpAny_mono (p2.run _ s2 _ H2 (fun v H' => ∃ Hb', Gr Hb2 H2 Hb' H' ∧ Dr X.K Hb' v (.list bases)) J2 (q2 Hb2 H2 _ S2 _ fun v Hb' H' g rr => ⟨Hb', g, rr⟩)) (fun u s3 ⟨v3, H3, J3, rv, Hb3, g3, r3⟩ => ?_) fun _ _ z => False.elim z
  cases r3 with
  | lst e1 e2 =>
  rename_i q vs
  obtain rfl : u = Value.ref q := rv
  obtain ⟨its, rvs, pl, hz⟩ := J3.list (SqL.of (g3.sub _ _ e1))
  refine wpAny_pyIter_list pl.isList ?_
  intro p l
  have J4 : Inv (B.X X s H L f cd) (gpins X pins L a s.heap) [some (.ref r), some v2, none] H3 { s3 with heap := s3.heap.push { cls := .type "list_iterator", data := .fields #[.ref q, rawInt 0] } } := J3.kept (t' := s3.toks) fun b o e => Heap.get?_push_of_some _ e
  have hn : H3 s3.heap.objs.size = none := J3.hok.fresh (Nat.le_refl _)
  have hL3 : L < s3.heap.objs.size := J3.lt
  exact hc _ _ Hb3 H3 _ v2 s3.heap.objs.size q ⟨_, l, p, rfl, rfl⟩ J4 ⟨_, _, rfl⟩ (g2.trans g3) (Dr.up g3.sup _ r2) ⟨_, Heap.get?_push_size _ rfl, rfl, rfl⟩ (.lst e1 e2) (J3.fpOk (Nat.le_refl _) hn) (fp_new Cn I hm.lt J3 hn (Nat.le_refl _)) hL3
end
end GN
set_option maxHeartbeats 1000000
/-! next(g), as a waker sees it. -/
namespace GN
open PySem PySem.Spec PyProof.Rows L2 GenW DL
section
variable {P : Program} {w : World} {K : PySem.W.Frag} {mg : Str → Option Value} {base : Heap} {k : Nat} {B : GB} {f C : Addr} {Sp : SpG2}
variable {X : Cx} {L a r dx it q : Addr} {g : Nat} {own : List Addr} {pins ip : List (Addr × Obj)} {σ σg : L2.St} {H H' Hb H0 : Hp} {s s' s0 : Shared} {cd : Value} {fs : List (Str × PyData)} {lifts : PyData} {bases out : List PyData} {i : Nat} {vl : V} {E : Value → Shared → Prop}
theorem isGen_keep {h h' : Heap} (x : h.IsGen a g) (hk : ∀ o, h.get? a = some o → h'.get? a = some o) : h'.IsGen a g :=
  let ⟨o, nm, qn, ho, r⟩ := x; ⟨o, nm, qn, hk _ ho, r⟩
theorem fpOk_of (h : FpOk X pins H it) (n : H' it = none) : FpOk X pins H' it := ⟨n, h.2⟩
theorem inv_set {x : GenState} (I : Inv X pins σ H s) (hx : x.bare = true) : Inv X pins σ H (s.setGen g x) := inv_gens I (allBare_setGen I.bare hx)
/-- the state behind a yield, from the turn's end -/
theorem turn_yield (G : GOk P w K mg base k B f C Sp) (Cn : GCons X k L own) (I : Inv X pins σ H s) (hown : ∀ b ∈ own, H b ≠ none) {m : Str → Option Value} (hm : s.heap.Ns L m) (hga : s.heap.IsGen a g)
    (hfL : FpOk X pins H L) (hfa : FpOk X pins H a) (J : Inv (B.X X s H L f cd) (gpins X pins L a s.heap) σg H' s') (hσ : ∃ o1 o2, σg = [o1, some vl, o2]) (hs : Same H H') {Hb' : Hp} (rl : Dr K Hb' vl lifts) {gs : GenState} (hb : gs.bare = true) :
    Inv X pins σ H' (s'.setGen g gs) ∧ FpOk X pins H' L ∧ FpOk X pins H' a ∧ s'.heap.IsGen a g ∧ ∃ m vl ul, s'.heap.Ns L m ∧ m B.xl = some ul ∧ RelV vl ul ∧ Dr K Hb' vl lifts := by
  obtain ⟨go, hgo, _, hgd, _⟩ := isGen_obj hga
  have pa : (a, go) ∈ gpins X pins L a s.heap := by
    unfold gpins
    exact List.mem_append_right _ (mem_pinsAt List.mem_cons_self hgo)
  obtain ⟨p1, p2, _⟩ := J.pin _ (List.mem_append_right _ pa)
  have I' : Inv X pins σ H' s' := gX_end Cn I hm.lt hown J (fun p hp => hp) hs
  obtain ⟨o1, o2, rfl⟩ := hσ
  obtain ⟨m', hn', hl'⟩ := J.loc
  obtain ⟨u, ru, lk⟩ := hl' 1 B.xl vl rfl rfl (.inl G.xl)
  refine ⟨inv_set I' hb, fpOk_of hfL J.free, fpOk_of hfa p2, isGen_keep hga fun o e => ?_, m', vl, u, hn', ?_, ru, rl⟩
  · rw [hgo] at e; cases e; exact p1
  · rcases lk with ⟨_, e⟩ | ⟨hk, c, e, _⟩
    · exact e
    · exact (G.sc.nocell e).elim
/-- an item -/
theorem walk_item (G : GOk P w K mg base k B f C Sp) (hP : X.prog = P) (hw : X.w = w) (hK : X.K = K) (hmg : X.mg = mg) (hba : X.base = base) (Cn : GCons X k L own) (sp : Sp fs lifts bases out) (I : Inv X pins σ H s) (hs : Same Hb H) {fp : List Addr}
    (T : GT K B f cd L a g r lifts bases i fp Hb s) (hf : ∀ b ∈ fp, FpOk X pins H b) (hown : ∀ b ∈ own, H b ≠ none) (h0 : i = 0 → Hb r = none ∧ RsAt K Hb H r (.ins C dx fs)) {d : PyData} (hd : out[i]? = some d) (hlen : bases.length = out.length) :
    wpAny (model X.prog X.w) X.A (pyNext (.ref a)) (fun u s1 => ∃ v v' Hb' H' fp', u = some v ∧ Inv X pins σ H' s1 ∧ RelV v' v ∧ Gr Hb H Hb' H' ∧ Dr K Hb' v' d ∧ GT K B f cd L a g r lifts bases (i + 1) fp' Hb' s1 ∧ ∀ b ∈ fp', FpOk X pins H' b) E s := by
  have hil : i < bases.length := by rw [hlen]; exact (List.getElem?_eq_some_iff.mp hd).1
  have hbi : bases[i]? = some bases[i] := List.getElem?_eq_getElem hil
  have hga := gt_gen T
  obtain ⟨hLf, haf⟩ := gt_fp T
  have hfL := hf L hLf
  have hfa := hf a haf
  have Ir : Inv X pins σ H (s.setGen g .running) := inv_set I rfl
  have hroom : Room k (X.A.in1.deeper (B.env L f cd)) := (Cn.room.in1).deeper _
  -- what a turn reaches
  let Ψ : Value → End → Shared → Prop := fun v e s1 => ∃ l kk p fr it q vl v' Hb' H' σg, e = .susp v false l kk (B.cW L f cd it) p fr ∧ FsOk B L f cd fr ∧ kk (.send .none) = .pure (.again (B.cW L f cd it)) ∧
    Inv (B.X X (s.setGen g .running) H L f cd) (gpins X pins L a s.heap) σg H' s1 ∧ (∃ o1 o2, σg = [o1, some vl, o2]) ∧ RelV v' v ∧ Gr Hb H Hb' H' ∧ Dr K Hb' v' d ∧ Dr K Hb' vl lifts ∧ s1.heap.IsListIter it q (i + 1) ∧ Dr K Hb' (.ref q) (.list bases) ∧ L < it ∧ FpOk X pins H' it
  obtain ⟨gs, hgs, hwk⟩ : ∃ gs, s.gens[g]? = some gs ∧ Wk (model X.prog X.w) X.A.in1 (fun e s1 => ∃ v l k c p fs, e = .susp v false l k c p fs ∧ fs.any Frame.guarded = false ∧ Ψ v e s1) (s.setGen g .running) gs := by
    cases i with
    | zero =>
      obtain ⟨h1, h2, ⟨m, h3, h4⟩, rfl⟩ := T
      obtain ⟨hr0, hr⟩ := h0 rfl
      refine ⟨_, h1, ?_⟩
      refine walk_first G hP hw hK hmg hba Cn sp Ir hs (m := m) h3 h4 hfL hfa h2 hr0 hr ?_
      intro fr s4 Hb4 H4 σ4 vl it q hfr J4 hσ4 g4 r4 it4 q4 f4 f4x hlt
      refine walk_loop_item G hP hw hK hmg hba hroom hfr sp J4 hσ4 g4.sub r4 it4 q4 f4 hbi hd ?_
      intro v v' l kk p s5 Hb5 H5 σ5 J5 hσ5 g5 rv5 r5 it5 hn5 hkk
      exact ⟨v, l, kk, _, p, fr, rfl, hfr.guard, l, kk, p, fr, it, q, vl, v', Hb5, H5, σ5, rfl, hfr, hkk, J5, hσ5, rv5, g4.trans g5, r5, Dr.up g5.sup _ r4, it5, Dr.up g5.sup _ q4, hlt, fpOk_of f4x hn5⟩
    | succ i =>
      obtain ⟨k', l', p', cl, it, q, fr, h1, hkk, hfr, h2, ⟨m, vl, ul, h3, h4, rv, rl⟩, hit, rq, hlt, rfl⟩ := T
      refine ⟨_, h1, ?_⟩
      show Sg _ _ _ _ (k' (.send .none)) fr _
      rw [hkk]
      refine sg_again rfl ?_
      have hfit := hf it (by simp)
      obtain ⟨go, hgo, hgc, hgd, _⟩ := isGen_obj hga
      have J : Inv (B.X X (s.setGen g .running) H L f cd) (gpins X pins L a s.heap) [none, some vl, none] H (s.setGen g .running) := gX_start (N := B.N) (s := s.setGen g .running) G.sc Cn Ir G.nd h3 hfL hfa hgo hgd rfl fun j x v e1 e2 e3 => by
        match j, e1, e2 with
        | 0, e1, e2 => cases e2
        | 1, e1, e2 =>
          cases e1; cases e2
          exact ⟨ul, rv, G.xl, h4⟩
        | 2, e1, e2 => cases e2
        | j + 3, e1, e2 => simp at e2
      have hne : it ≠ a := fun z => by
        obtain ⟨o, ho, hc, _⟩ := hit
        rw [z, hgo] at ho
        cases ho
        rw [hgc] at hc
        exact absurd hc (by decide)
      have fin : FpOk (B.X X (s.setGen g .running) H L f cd) (gpins X pins L a s.heap) H it := fp_in (s := s.setGen g .running) Cn Ir h3.lt hfit hlt hne G.sc
      refine walk_loop_item G hP hw hK hmg hba hroom hfr sp J ⟨_, _, rfl⟩ hs rl hit rq fin hbi hd ?_
      intro v v' l kk p s5 Hb5 H5 σ5 J5 hσ5 g5 rv5 r5 it5 hn5 hkk5
      exact ⟨v, l, kk, _, p, fr, rfl, hfr.guard, l, kk, p, fr, it, q, vl, v', Hb5, H5, σ5, rfl, hfr, hkk5, J5, hσ5, rv5, g5, r5, Dr.up g5.sup _ rl, it5, Dr.up g5.sup _ rq, hlt, fpOk_of hfit hn5⟩
  have hgl : g < s.gens.size := (Array.getElem?_eq_some_iff.mp hgs).1
  obtain ⟨m, hm⟩ := gt_ns T
  refine wpAny_gsz (n := g + 1) hgl (wpAny_mono (next_item (Φ := Ψ) I.nolimit Cn.room.depth hga hgs hwk (Q := fun u s1 => ∃ v e s0, u = some v ∧ Ψ v e s0 ∧ s1 = s0.setGen g e.genState) fun v e s1 h => ⟨v, e, s1, rfl, h, rfl⟩) (fun u s1 ⟨v, e, s0, hu, h, es⟩ hsz => ?_) fun e s1 z _ => z)
  subst es hu
  obtain ⟨l, kk, p, fr, it, q, vl, v', Hb', H', σg, rfl, hfr, hkk, J, hσ, rv, gr, rd, rl, hit, rq, hlt, hfi⟩ := h
  have hgl0 : g < s0.gens.size := by
    have : g + 1 ≤ (s0.setGen g (End.susp v false l kk (B.cW L f cd it) p fr).genState).gens.size := hsz
    rw [setGen_size] at this
    exact this
  have hbare : (End.susp v false l kk (B.cW L f cd it) p fr).genState.bare = true := End.bare_of_quiet (by simp [End.quiet, hfr.guard])
  obtain ⟨I5, fL5, fa5, ga5, ns5⟩ := turn_yield (s := s.setGen g .running) G Cn Ir hown hm hga hfL hfa J hσ gr.ext rl hbare
  refine ⟨v, v', Hb', H', [L, a, it], rfl, I5, rv, gr, rd, ⟨kk, _, p, _, it, q, fr, setGen_at hgl0, hkk, hfr, ga5, ns5, hit, rq, hlt, rfl⟩, fun b hb => ?_⟩
  · rcases List.mem_cons.mp hb with e | hb
    · rw [e]; exact fL5
    · rcases List.mem_cons.mp hb with e | hb
      · rw [e]; exact fa5
      · rw [List.mem_singleton.mp hb]; exact hfi
/-- the end -/
theorem walk_done (G : GOk P w K mg base k B f C Sp) (hK : X.K = K) (Cn : GCons X k L own) (I : Inv X pins σ H s) (hs : Same Hb H) {fp : List Addr}
    (T : GT K B f cd L a g r lifts bases (i + 1) fp Hb s) (hf : ∀ b ∈ fp, FpOk X pins H b) (hown : ∀ b ∈ own, H b ≠ none) (hi : bases.length ≤ i + 1) :
    wpAny (model X.prog X.w) X.A (pyNext (.ref a)) (fun u s1 => u = none ∧ Inv X pins σ H s1) E s := by
  have hga := gt_gen T
  obtain ⟨hLf, haf⟩ := gt_fp T
  have hfL := hf L hLf
  have hfa := hf a haf
  have Ir : Inv X pins σ H (s.setGen g .running) := inv_set I rfl
  have hroom : Room k (X.A.in1.deeper (B.env L f cd)) := (Cn.room.in1).deeper _
  obtain ⟨k', l', p', cl, it, q, fr, h1, hkk, hfr, h2, ⟨m, vl, ul, h3, h4, rv, rl⟩, hit, rq, hlt, rfl⟩ := T
  obtain ⟨go, hgo, hgc, hgd, _⟩ := isGen_obj hga
  have hfit := hf it (by simp)
  have hne : it ≠ a := fun z => by
    obtain ⟨o, ho, hc, _⟩ := hit
    rw [z, hgo] at ho
    cases ho
    rw [hgc] at hc
    exact absurd hc (by decide)
  have J : Inv (B.X X (s.setGen g .running) H L f cd) (gpins X pins L a s.heap) [none, some vl, none] H (s.setGen g .running) := gX_start (N := B.N) (s := s.setGen g .running) G.sc Cn Ir G.nd h3 hfL hfa hgo hgd rfl fun j x v e1 e2 e3 => by
    match j, e1, e2 with
    | 0, e1, e2 => cases e2
    | 1, e1, e2 =>
      cases e1; cases e2
      exact ⟨ul, rv, G.xl, h4⟩
    | 2, e1, e2 => cases e2
    | j + 3, e1, e2 => simp at e2
  have fin : FpOk (B.X X (s.setGen g .running) H L f cd) (gpins X pins L a s.heap) H it := fp_in (s := s.setGen g .running) Cn Ir h3.lt hfit hlt hne G.sc
  refine next_end (Φ := fun s1 => Inv (B.X X (s.setGen g .running) H L f cd) (gpins X pins L a s.heap) [none, some vl, none] H s1) (I.ok.hd Cn.calm) I.nolimit Cn.room.depth hga h1 ?_ fun s1 J1 h' hk => ?_
  · show Sg _ _ _ _ (k' (.send .none)) fr _
    rw [hkk]
    refine sg_again rfl ?_
    exact walk_loop_end G hK hfr J hs hit rq fin hroom.hd hi fun s' J' => ⟨rfl, J'⟩
  · have I1 : Inv X pins σ H s1 := gX_end (s := s.setGen g .running) Cn Ir h3.lt hown J1 (fun p hp => hp) (Same.refl H)
    have I2 : Inv X pins σ H (s1.setGen g .finished) := inv_set I1 rfl
    exact ⟨rfl, I2.kept (t' := (s1.setGen g .finished).toks) hk⟩
end
end GN
set_option maxHeartbeats 1000000
/-! A generator is made; a loop over it. -/
namespace GN
open PySem PySem.Spec PyProof.Rows L2 GenW DL
theorem pushCells_none : ∀ {names : List (Str × NameKind)} {h : Heap}, (∀ y ∈ names, y.2 ≠ .cell) → pushCells h names = h
  | [], _, _ => rfl
  | (x, k) :: r, h, hn => by
    unfold pushCells
    rw [if_neg (fun z => hn (x, k) List.mem_cons_self (by simpa using z))]
    exact pushCells_none fun y hy => hn y (List.mem_cons_of_mem _ hy)
theorem newEnv_one {M : Model} {A : Around} {E : Value → Shared → Prop} {s : Shared} {scope : Scope} {globals : Addr} {qual : Str} {func : Option Addr} {code : Value} {builtins : Addr} {Q : Env → Shared → Prop} {n : Str} {v : Value} (S : GSc scope)
    (hl : scope.names.lookup n = some .local)
    (h : ∀ h' tk, h'.Ns s.heap.objs.size (fun y => if y = n then some v else none) → h'.objs.size = s.heap.objs.size + 1 → (∀ b o, s.heap.get? b = some o → h'.get? b = some o) → Q (newEnv scope s.heap.objs.size globals [] qual func code none builtins) { s with heap := h', toks := tk }) :
    wpAny M A (newFunctionEnv scope globals [] [(n, v)] qual func code none builtins) Q E s := by
  have nc : ∀ y ∈ scope.names, y.2 ≠ .cell := fun y hy => (S.loc y hy).1
  simp only [newFunctionEnv, Option.isSome_none, Bool.false_eq_true, if_false]
  refine wpAny_bind (wpAny_alloc ?_)
  refine wpAny_bind (wpAny_layCells _ (fun name kind cells => by cases hkc : kind == NameKind.cell <;> simp [hkc]) _ _ _ _ ?_)
  rw [cellsFrom_none nc, pushCells_none nc]
  rw [List.forIn_cons]
  refine wpAny_bind (wpAny_bind (wpAny_bind (wpAny_storeName_local (m := fun _ => none) hl (Heap.Ns.new s.heap (.type "frame")) (fun h' hn' hs' => ?_) (by show (scope.kind == .class || _) = false; rw [S.kind]; rfl))))
  refine wpAny_pure ?_
  simp only [List.forIn_nil]
  refine wpAny_pure (wpAny_pure ?_)
  refine h h' _ hn' ?_ fun b o e => ?_
  · rw [hs'.1, Heap.size_push]
  · rw [hs'.2 b (Nat.ne_of_lt (Heap.lt_size e))]
    exact Heap.get?_push_of_some _ e
section
variable {P : Program} {w : World} {K : PySem.W.Frag} {mg : Str → Option Value} {base : Heap} {k : Nat} {B : GB} {f C : Addr} {Sp : SpG2}
variable {X : Cx} {L a r dx it q : Addr} {g : Nat} {own : List Addr} {pins ip : List (Addr × Obj)} {σ σg : L2.St} {H H' Hb H0 : Hp} {s s' s0 : Shared} {cd : Value} {fs : List (Str × PyData)} {lifts : PyData} {bases out : List PyData} {i : Nat} {vl : V} {E : Value → Shared → Prop}
/-- a generator that was just made -/
def Made (X : Cx) (pins : List (Addr × Obj)) (σ : L2.St) (H : Hp) (B : GB) (f r : Addr) (L : Nat) (u : Value) (s' : Shared) : Prop := ∃ a g cd, u = .ref a ∧ Inv X pins σ H s' ∧ (∀ lifts bases Hb, GT X.K B f cd L a g r lifts bases 0 [L, a] Hb s') ∧ (∀ b ∈ [L, a], FpOk X pins H b) ∧ s'.heap.objs.size = L + 2 ∧ a = L + 1
theorem call_gen {params : Arguments} {name : Str} {fd : FuncData} (S : GSc B.scope) (hself : B.scope.names.lookup ("self" : Str) = some .local) (F : FunD X.K name B.qual params B.body B.scope [] [] f fd) (hr : Room k X.A) (I : Inv X pins σ H s)
    (hb : ∀ (kV doc pm : Value) (an : Option Addr) (cdv ct u : Value), bindArgs (PySem.W.fnOf name B.qual params B.body B.scope .none kV doc pm an cdv ct) ⟨[u], []⟩ = pure [(("self" : Str), u)]) :
    wpAny (model X.prog X.w) X.A (call (.ref f) [.ref r]) (Made X pins σ H B f r s.heap.objs.size) E s := by
  obtain ⟨oc, od, dV, kV, doc, pm, an, cdv, ct, osl, rfl, lk, hcd, hD, _⟩ := F.ex
  obtain rfl : dV = .none := by
    rcases hD with ⟨_, e⟩ | ⟨e, _⟩
    · exact e
    · exact absurd rfl e
  refine wpAny_call ?_
  refine codeAny_mono (R := fun rr s1 => ∃ u, rr = .ok (.ret u) ∧ Made X pins σ H B f r s.heap.objs.size u s1) ?_ fun rr s1 ⟨u, e, h⟩ => by rw [e]; exact h
  refine codeAny_call_generator hr.depth (I.kIn _ _ lk) rfl S.co S.gen rfl (PySem.W.codeRec_of I.kIn hcd) ?_
  rw [hb]
  refine wpAny_pure ?_
  refine newEnv_one S hself fun h' tk hn hsz hk => ?_
  refine ⟨I.nolimit.keeps hk, _, rfl, h'.objs.size, s.gens.size, cdv, rfl, ?_, fun lifts bases Hb => ?_, fun b hb => ?_, ?_, hsz⟩
  · exact I.call' (ch := []) rfl (Un.kept fun b o e => Heap.get?_push_of_some _ (hk b o e)) (I.hok.kept fun b o e => Heap.get?_push_of_some _ (hk b o e)) (AllBare.push I.bare rfl) fun b z => by simp at z
  · refine ⟨?_, ⟨_, _, _, Heap.get?_push_size _ rfl, rfl, rfl, rfl⟩, ⟨_, hn.push _, by simp⟩, rfl⟩
    show (s.gens.push _)[s.gens.size]? = _
    rw [Array.getElem?_push_size]
    have e : B.env s.heap.objs.size f cdv = newEnv B.scope s.heap.objs.size mainGlobals [] (B.qual ++ ".<locals>.") (some f) cdv none builtinsNs := by
      show envOfC _ _ _ _ _ = _
      unfold envOfC
      rw [cellsFrom_none fun y hy => (S.loc y hy).1]
      rfl
    rw [e]
  · have : s.heap.objs.size ≤ b := by
      rcases List.mem_cons.mp hb with e | hb
      · rw [e]; exact Nat.le_refl _
      · rw [List.mem_singleton.mp hb, hsz]; exact Nat.le_succ _
    exact I.fpOk this (I.hok.fresh this)
  · show (h'.push _).objs.size = _
    rw [Heap.size_push, hsz]
/-- o.walk() -/
theorem eval_gen {o : Expr} {te : TE} {name : Str} {apos pos : Pos} {pl : Sem Bool} {params : Arguments} {fd : FuncData} {Q : V → Hp → Prop} (he : PE X o te) (c : Cls X.K C) (hm : Meth X.K C name f) (S : GSc B.scope) (hself : B.scope.names.lookup ("self" : Str) = some .local)
    (F : FunD X.K name B.qual params B.body B.scope [] [] f fd) (hr : Room k X.A)
    (hb : ∀ (kV doc pm : Value) (an : Option Addr) (cdv ct u : Value), bindArgs (PySem.W.fnOf name B.qual params B.body B.scope .none kV doc pm an cdv ct) ⟨[u], []⟩ = pure [(("self" : Str), u)])
    (I : Inv X pins σ H s) (h : te σ H fun x H1 => ∃ r dx ws, x = .ref r ∧ H1 r = some (.ins C dx ws) ∧ ws.lookup name = none ∧ Q x H1)
    (ht : eval (.Call (.Attribute o name apos) [] [] pos) X.env = (do
      let ov ← eval o X.env
      standAt apos.atName
      let (f, first) ← holding [ov] (getMethod ov name pl)
      callWith pos f first (backTo pos (starEach [] X.env)) (backToKw pos (keywordEach [] X.env))) := by rfl) :
    wpAny (model X.prog X.w) X.A (eval (.Call (.Attribute o name apos) [] [] pos) X.env) (fun u s' => ∃ r H1 s1, Inv X pins σ H1 s1 ∧ Q (.ref r) H1 ∧ Made X pins σ H1 B f r s1.heap.objs.size u s') X.xe s := by
  refine PySem.W.methodCall_KW (pl := pl) (thn (he.run pins s σ H _ I h) fun u s1 ⟨x, H1, I1, rx, r, dx, ws, ex, ea, l, q⟩ => ?_) ht
  subst ex
  obtain rfl : u = Value.ref r := rx
  refine getmeth_ok I1 ea c hm l ?_
  refine PySem.W.callWith_K0 (first := [.ref r]) I1.kIn hm.kp ?_
  exact thn (call_gen (r := r) S hself F hr I1 hb) fun u s2 hq => ⟨r, H1, s1, I1, q, hq⟩
theorem gcons_def (I : Inv X pins σ H s) (hc : X.calm = true) (hr : Room (k + 2) X.A) : GCons X k s.heap.objs.size [] where
  calm := hc
  room := hr
  frsL := fun b hb => by
    rcases List.mem_cons.mp (I.stkSub b hb) with z | z
    · rw [z]; exact I.lt
    · exact Nat.lt_of_not_le fun h => I.nofs h z
  cells := fun x c e => by
    obtain ⟨v, z⟩ := I.cell x c e
    exact z.lt
  mid := fun b o e _ => .inl (Nat.lt_of_lt_of_le (Heap.lt_size e) I.sz)
  bsz := Nat.le_trans I.ok.bsz I.sz
  loc := .inl I.lt
/-! ### for x in o.walk() -/
def RoomIn (K : PySem.W.Frag) (Hb H : Hp) (r C dx : Addr) (fs : List (Str × PyData)) : Prop := Hb r = none ∧ RsAt K Hb H r (.ins C dx fs)
/-- what a loop over the generator asks -/
def RestG (K : PySem.W.Frag) (C : Addr) (Sp : SpG2) (σ : L2.St) (g : TG) (tb : TS) (D : Ends) (x : V) (H1 : Hp) : Prop := ∃ r dx fs lifts bases out Hb, x = .ref r ∧ Sp fs lifts bases out ∧ bases.length = out.length ∧ 0 < out.length ∧ Same Hb H1 ∧
  ∃ W : Nat → Nat → Hp → L2.St → Hp → Prop, (∃ m, W 0 m Hb σ H1) ∧ ∀ i m Hb σ H, W i m Hb σ H →
    Same Hb H ∧ (i = 0 → RoomIn K Hb H r C dx fs) ∧ i ≤ out.length ∧ (i = out.length → D.nx σ H) ∧ ∀ d, out[i]? = some d → ∀ x Hb' H', Gr Hb H Hb' H' → Dr K Hb' x d →
      g x σ H' fun σ2 H2 => tb { D with nx := fun σ' H' => ∃ m' Hb3, m' < m ∧ Same Hb' Hb3 ∧ W (i + 1) m' Hb3 σ' H', ct := fun σ' H' => ∃ m' Hb3, m' < m ∧ Same Hb' Hb3 ∧ W (i + 1) m' Hb3 σ' H', bk := D.nx } σ2 H2
def tForG (K : PySem.W.Frag) (C : Addr) (name : Str) (Sp : SpG2) (to : TE) (g : TG) (tb : TS) : TS := fun D σ H => to σ H fun x H1 => ∃ r dx ws, x = .ref r ∧ H1 r = some (.ins C dx ws) ∧ ws.lookup name = none ∧ RestG K C Sp σ g tb D x H1
theorem gen_go {M : Model} {A : Around} {tg : Expr} {u : Value} {Q : Unit → Shared → Prop} (h : s.heap.IsGen a g) (hQ : Q () s) : wpAny M A (letOwnedTupleGo tg (.ref a) u) Q E s := by
  obtain ⟨o, nm, qn, ho, hc, hd, _⟩ := h
  exact go_of (n := "generator") ho hc hd (by decide) hQ
theorem ps_forG {tg o : Expr} {te : TE} {name : Str} {apos pos cpos : Pos} {pl : Sem Bool} {params : Arguments} {fd : FuncData} {body : List Stmt} {gg : TG} {tb : TS} (hx : ∀ e s, ¬ X.xe e s) (hc : X.calm = true) (G : GOk X.prog X.w X.K X.mg X.base k B f C Sp) (he : PE X o te) (c : Cls X.K C) (hm : Meth X.K C name f)
    (F : FunD X.K name B.qual params B.body B.scope [] [] f fd) (hr : Room (k + 2) X.A)
    (hb : ∀ (kV doc pm : Value) (an : Option Addr) (cdv ct u : Value), bindArgs (PySem.W.fnOf name B.qual params B.body B.scope .none kV doc pm an cdv ct) ⟨[u], []⟩ = pure [(("self" : Str), u)])
    (hg : PG X tg gg) (hbd : PSs X body tb)
    (hs : ∀ x, foldedSetIterable (.Call (.Attribute o name apos) [] [] cpos) X.env x = pure x := by intro _; rfl)
    (ht : eval (.Call (.Attribute o name apos) [] [] cpos) X.env = (do
      let ov ← eval o X.env
      standAt apos.atName
      let (f, first) ← holding [ov] (getMethod ov name pl)
      callWith cpos f first (backTo cpos (starEach [] X.env)) (backToKw cpos (keywordEach [] X.env))) := by rfl) :
    PS X (.For tg (.Call (.Attribute o name apos) [] [] cpos) body [] pos) (tForG X.K C name Sp te gg tb) := by
  refine ⟨fun pins s σ H D I h => ?_⟩
  refine wpAny_For ?_ hs
  have nox : ∀ {e : Value} {s' : Shared} {Pp : Prop}, X.xe e s' → Pp := fun {e s' Pp} z => (hx e s' z).elim
  have noxK : ∀ {e : Value} {s' : Shared} {Pp : Prop}, (∃ A', GR A' s'.gens ∧ X.xe e { s' with gens := A' }) → Pp := fun {e s' Pp} ⟨A', _, z⟩ => (hx e _ z).elim
  refine wpAny_mono (eval_gen (pl := pl) (k := k + 2) (Q := RestG X.K C Sp σ gg tb D) he c hm G.sc G.self F hr hb I h ht) (fun u s2 hq => ?_) fun _ _ z => z
  obtain ⟨r, H1, s1, I1, ⟨r', dx, fs, lifts, bases, out, Hb1, er, sp, hlen, hpos, hsame, W, ⟨m0, w0⟩, turn⟩, a, g, cd, rfl, I2, T0, f0, _, _⟩ := hq
  cases er
  have Cn := gcons_def (k := k) I1 hc hr
  generalize s1.heap.objs.size = L at T0 f0 Cn
  refine wpAny_pyIter_gen (gt_gen (T0 lifts bases Hb1)) ?_
  refine codeAny_forLoop_any (fun n s' => ∃ i σ' H' Hb' fp, Inv X pins σ' H' s' ∧ GT X.K B f cd L a g r lifts bases i fp Hb' s' ∧ (∀ b ∈ fp, FpOk X pins H' b) ∧ W i n Hb' σ' H') ?_ m0 ⟨0, σ, H1, Hb1, _, I2, T0 lifts bases Hb1, f0, w0⟩
  rintro n s3 ⟨i, σ3, H3, Hb3, fp3, I3, T3, f3, w3⟩
  obtain ⟨hs3, h03, hle, hnx, step⟩ := turn i n Hb3 σ3 H3 w3
  by_cases hi : i < out.length
  · refine wpAny_mono (walk_item (E := fun _ _ => False) G rfl rfl rfl rfl rfl Cn sp I3 hs3 T3 f3 (fun b hb => nomatch hb) h03 (List.getElem?_eq_getElem hi) hlen) (fun u s4 hq4 => ?_) fun _ _ z => False.elim z
    obtain ⟨v, x, Hb4, H4, fp4, rfl, I4, rv4, g4, r4, T4, f4⟩ := hq4
    refine gen_go (gt_gen T4) ?_
    have st := step _ (List.getElem?_eq_getElem hi) x Hb4 H4 g4 r4
    have I4p := I4.pinned f4 (gt_obj T4)
    obtain ⟨gs4, hgs4, hsu4⟩ := gt_susp T4
    refine wpAny_mono (wpAny_keep (hg.run _ { s4 with gens := poiA s4.gens } σ3 H4 x v _ (inv_poi I4p) rv4 st)) (fun _ s5 hq5 => ?_) fun _ _ z => noxK z
    obtain ⟨k5, A5, gr5, σ5, H5, I5, q5⟩ := hq5
    have I5' := inv_back gr5 I5
    refine wpAny_mono (wpAny_keep (hbd.run _ { s5 with gens := poiA s5.gens } σ5 H5 _ (inv_poi I5') q5)) (fun fl s6 hq6 => ?_) fun _ _ z => noxK z
    obtain ⟨k6, A6, gr6, q6⟩ := hq6
    have hgs6 : s6.gens[g]? = s4.gens[g]? := by
      rw [hgs4]
      exact k6 g gs4 (k5 g gs4 hgs4 hsu4) hsu4
    have again : ∀ {σ7 : L2.St} {H7 : Hp}, Inv X (pins ++ pinsAt fp4 s4.heap) σ7 H7 { s6 with gens := A6 } → (∃ m' Hb7, m' < n ∧ Same Hb4 Hb7 ∧ W (i + 1) m' Hb7 σ7 H7) → ∃ m, m < n ∧ ∃ i σ' H' Hb' fp, Inv X pins σ' H' s6 ∧ GT X.K B f cd L a g r lifts bases i fp Hb' s6 ∧ (∀ b ∈ fp, FpOk X pins H' b) ∧ W i m Hb' σ' H' := fun {σ7 H7} I7 hw => by
      obtain ⟨m', Hb7, hm', hs7, w7⟩ := hw
      have I7' := inv_back gr6 I7
      have kp : ∀ b ∈ fp4, ∀ o, s4.heap.get? b = some o → s6.heap.get? b = some o ∧ H7 b = none := fun b hb o e =>
        let z := I7'.pin (b, o) (List.mem_append_right _ (List.mem_append_right _ (mem_pinsAt hb e)))
        ⟨z.1, z.2.1⟩
      refine ⟨m', hm', i + 1, σ7, H7, Hb7, fp4, I7'.unpinned, gt_keep T4 hs7 (fun b hb o e => (kp b hb o e).1) hgs6, fun b hb => ?_, w7⟩
      obtain ⟨o, e, _⟩ := gt_obj T4 b hb
      exact fpOk_of (f4 b hb) (kp b hb o e).2
    cases fl with
    | next => obtain ⟨σ7, H7, I7, n7⟩ := q6; exact again I7 n7
    | cont => obtain ⟨σ7, H7, I7, n7⟩ := q6; exact again I7 n7
    | brk => obtain ⟨σ7, H7, I7, q7⟩ := q6; exact ⟨σ7, H7, (inv_back gr6 I7).unpinned, q7⟩
    | ret v => obtain ⟨x7, σ7, H7, I7, r7, q7⟩ := q6; exact ⟨x7, σ7, H7, (inv_back gr6 I7).unpinned, r7, q7⟩
  · have e : i = out.length := by omega
    obtain ⟨j, rfl⟩ : ∃ j, i = j + 1 := ⟨i - 1, by omega⟩
    refine wpAny_mono (walk_done (E := fun _ _ => False) G rfl Cn I3 hs3 T3 f3 (fun b hb => nomatch hb) (by omega)) (fun u s4 hq4 => ?_) fun _ _ z => False.elim z
    obtain ⟨rfl, I4⟩ := hq4
    exact wpAny_execs_nil ⟨σ3, H3, I4, hnx e⟩
/-- .. at the data -/
theorem sd_forG {ds : Scs} {rs : Rss} {Pp : DL.Pst} {to : TE} {g : TG} {tb : TS} {name : Str} {r dx : Addr} (ho : EvC K to ds rs (.raw (.ref r))) (hm : (r, .ins C dx fs) ∈ rs) (hf : fs.lookup name = none) (sp : Sp fs lifts bases out) (hlen : bases.length = out.length) (hpos : 0 < out.length)
    (I : Nat → Scs → Rss → Prop) (h0 : I 0 ds rs) (h00 : ∀ ds' rs', I 0 ds' rs' → (r, .ins C dx fs) ∈ rs')
    (hs : ∀ i d ds' rs', out[i]? = some d → I i ds' rs' → ∃ ds2, GtS K g (.val d) ds' ds2 ∧ SdC K tb ds2 rs' { Pp with nx := I (i + 1), ct := I (i + 1), bk := Pp.nx }) (hd : ∀ ds' rs', I out.length ds' rs' → Pp.nx ds' rs') : SdC K (tForG K C name Sp to g tb) ds rs Pp := fun M Hb0 H0 Hb σ H D A m =>
  ho Hb H σ A.st _ fun x Hb1 H1 g1 r1 => by
    have e1 : x = .ref r := r1
    subst e1
    have A1 := A.up g1
    obtain ⟨ws, hw, rw_⟩ := ins_at A1.st hm
    refine ⟨r, dx, ws, rfl, hw, fs_none rw_ hf, r, dx, fs, lifts, bases, out, Hb1, rfl, sp, hlen, hpos, A1.st.sub, ?_⟩
    refine ⟨fun i n Hb' σ' H' => n = out.length - i ∧ i ≤ out.length ∧ ∃ ds' rs', At K M Hb1 H0 Hb' σ' H' ds' rs' ∧ I i ds' rs', ⟨out.length, by simp, Nat.zero_le _, ds, rs, A1.fwd, h0⟩, ?_⟩
    rintro i n Hb' σ' H' ⟨rfl, hle, ds', rs', A', hI⟩
    refine ⟨A'.st.sub, fun z => ?_, hle, fun e => ?_, fun d hd' x Hb2 H2 g2 rx => ?_⟩
    · subst z
      exact A'.st.res.at_ _ (h00 ds' rs' hI)
    · subst e
      exact m.nx σ' H' Hb' ds' rs' (A'.back A1.gr) (hd ds' rs' hI)
    · have hlt : i < out.length := (List.getElem?_eq_some_iff.mp hd').1
      obtain ⟨ds2, hg, hb⟩ := hs i d ds' rs' hd' hI
      have A2 := A'.up g2
      refine hg rs' Hb2 H2 σ' x A2.st rx _ fun σ2 S2 => ?_
      have A3 : At K M Hb1 H0 Hb2 σ2 H2 ds2 rs' := ⟨A2.gr, S2, A2.own⟩
      refine hb M Hb2 H0 Hb2 σ2 H2 _ A3.fwd ⟨fun σ3 H3 Hb3 ds3 rs3 A4 p => ⟨out.length - (i + 1), Hb3, by omega, A4.gr.sup, rfl, hlt, ds3, rs3, A4.back A3.gr, p⟩, fun v H3 Hb3 c3 rs3 A4 p => m.rt v H3 Hb3 c3 rs3 ((A4.back A3.gr).back A1.gr) p, fun σ3 H3 Hb3 ds3 rs3 A4 p => m.nx σ3 H3 Hb3 ds3 rs3 ((A4.back A3.gr).back A1.gr) p, fun σ3 H3 Hb3 ds3 rs3 A4 p => ⟨out.length - (i + 1), Hb3, by omega, A4.gr.sup, rfl, hlt, ds3, rs3, A4.back A3.gr, p⟩⟩
end
end GN
set_option maxHeartbeats 1000000
/-! [x for x in o.walk()]. -/
namespace GN
open PySem PySem.Spec PyProof.Rows L2 GenW DL
theorem cloFrom_none {cells : List (Str × Addr)} : ∀ {names : List (Str × NameKind)} {acc : List (Str × Addr)}, (∀ y ∈ names, y.2 ≠ .free) → cloFrom cells names acc = acc
  | [], _, _ => rfl
  | (x, k) :: r, acc, h => by
    unfold cloFrom
    rw [if_neg (fun z => h (x, k) List.mem_cons_self (by simpa using z))]
    exact cloFrom_none fun y hy => h y (List.mem_cons_of_mem _ hy)
section
variable {P : Program} {w : World} {K : PySem.W.Frag} {mg : Str → Option Value} {base : Heap} {k : Nat} {B : GB} {f C : Addr} {Sp : SpG2}
variable {X : Cx} {L a r dx it q : Addr} {g : Nat} {own : List Addr} {pins ip : List (Addr × Obj)} {σ σg : L2.St} {H H' Hb H0 : Hp} {s s' s0 : Shared} {cd : Value} {fs : List (Str × PyData)} {lifts : PyData} {bases out : List PyData} {i : Nat} {vl : V} {E : Value → Shared → Prop}
def RestL (K : PySem.W.Frag) (C : Addr) (Sp : SpG2) (Q : VK) (x : V) (H1 : Hp) : Prop := ∃ r dx fs lifts bases out Hb, x = .ref r ∧ Sp fs lifts bases out ∧ bases.length = out.length ∧ 0 < out.length ∧ out.length ≤ 50000 ∧ Same Hb H1 ∧ RoomIn K Hb H1 r C dx fs ∧
  ∀ D acc Hb' H', Gr Hb H1 Hb' H' → Hb' D = none → H1 D = none → H' D = some (.lst acc) → DrAll K Hb' acc out → Q (.ref D) H'
def tLcG (K : PySem.W.Frag) (C : Addr) (name : Str) (Sp : SpG2) (to : TE) : TE := fun σ H Q => to σ H fun x H1 => ∃ r dx ws, x = .ref r ∧ H1 r = some (.ins C dx ws) ∧ ws.lookup name = none ∧ RestL K C Sp Q x H1
theorem lc_coreG {Q : VK} {elt tg o : Expr} {te : TE} {name : Str} {scope : Scope} {j : Nat} {y : Str} {pos pos' apos cpos : Pos} {pl : Sem Bool} {params : Arguments} {fd : FuncData} {use : Option (Value → Sem Unit)} {Qf : Value → Shared → Prop}
    (hx : ∀ e s, ¬ X.xe e s) (hc : X.calm = true) (hN : X.N.Nodup) (G : GOk X.prog X.w X.K X.mg X.base k B f C Sp) (he : PE X o te) (c : Cls X.K C) (hm : Meth X.K C name f)
    (F : FunD X.K name B.qual params B.body B.scope [] [] f fd) (hr : Room (k + 2) X.A)
    (hb : ∀ (kV doc pm : Value) (an : Option Addr) (cdv ct u : Value), bindArgs (PySem.W.fnOf name B.qual params B.body B.scope .none kV doc pm an cdv ct) ⟨[u], []⟩ = pure [(("self" : Str), u)])
    (I : Inv X pins σ H s) (ok : BlkOk X.N X.env.scope scope [(y, j)]) (hnc : ∀ q ∈ scope.names, q.2 ≠ .cell ∧ q.2 ≠ .free) (hj : j < X.N.length)
    (hg : ∀ (s : Shared) (H : Hp) (C : Addr) (cl : List (Str × Addr)) (fp : List Addr), PG (X.blk s H scope (compEnvC scope cl C X.env) fp) tg (gName j))
    (hel : ∀ (s : Shared) (H : Hp) (C : Addr) (cl : List (Str × Addr)) (fp : List Addr), PE (X.blk s H scope (compEnvC scope cl C X.env) fp) elt (tVar j))
    (hs : ∀ x, foldedSetIterable (.Call (.Attribute o name apos) [] [] cpos) X.env x = pure x)
    (ht : eval (.Call (.Attribute o name apos) [] [] cpos) X.env = (do
      let ov ← eval o X.env
      standAt apos.atName
      let (f, first) ← holding [ov] (getMethod ov name pl)
      callWith cpos f first (backTo cpos (starEach [] X.env)) (backToKw cpos (keywordEach [] X.env))))
    (h : tLcG X.K C name Sp te σ H Q)
    (hRR : ∀ D C s' m H', Inv X pins σ H' s' → Q (.ref D) H' → s'.heap.Ns C m → FpOk X pins H' C → compPost (model X.prog X.w) X.A X.xe use Qf (.ref D) C (.ok .next) s') :
    wpAny (model X.prog X.w) X.A (comprehension (.ListComp elt [⟨tg, .Call (.Attribute o name apos) [] [] cpos, [], 0⟩] scope pos) scope X.env pos' (newList []) false (eval (.Call (.Attribute o name apos) [] [] cpos) X.env) use) Qf X.xe s := by
  have hfree : ∀ y ∈ scope.names, y.2 = .free → ∃ c, X.env.cells.lookup y.1 = some c := fun y hy e => absurd e (hnc y hy).2
  refine wpAny_comprehension_free (use := use) rfl hs (closure_ok hfree) ok.kind (fun y hy e => by rw [ok.uniq y hy, e])
    (thn (eval_gen (pl := pl) (k := k + 2) (Q := RestL X.K C Sp Q) he c hm G.sc G.self F hr hb I h ht) fun xv s2 hq => ?_)
  obtain ⟨r, H1, s1, I1, ⟨r', dx, fs, lifts, bases, out, Hb1, er, sp, hlen, hpos, hmax, hsame, hroomIn, hQ⟩, a, g, cd, rfl, I2, T0, f0, hsz, ha⟩ := hq
  cases er
  have Cn := gcons_def (k := k) I1 hc hr
  generalize hLe : s1.heap.objs.size = L at T0 f0 Cn hsz ha
  refine wpAny_pyIter_gen (gt_gen (T0 lifts bases Hb1)) ?_
  refine wpAny_newObj_type (newEnv_comp ?_) (by show 0 ≤ sizeLine; decide)
  generalize hD : s2.heap.objs.size = D
  have hDn : H1 D = none := I2.hok.fresh (Nat.le_of_eq hD)
  generalize hs3 : ({ s2 with heap := s2.heap.push { cls := .type "list", data := .seq ([] : List Value).toArray } } : Shared) = s3
  have I3 : Inv X pins σ (upd H1 D (.lst [])) s3 := by
    rw [← hs3]
    refine I2.laid (t' := s2.toks) (fun b o e => Heap.get?_push_of_some _ e) (Nat.le_of_eq hD) ⟨Nat.zero_le _, [], 0, .nil, ?_⟩
    rw [← hD]
    exact Heap.get?_push_size _ rfl
  have h3 : s3.heap = s2.heap.push { cls := .type "list", data := .seq ([] : List Value).toArray } := by rw [← hs3]
  have h3g : s3.gens = s2.gens := by rw [← hs3]
  have h3s : s3.heap.objs.size = L + 3 := by rw [h3, Heap.size_push, hsz]
  have fp2 : ∀ b ∈ [L, a], b < s2.heap.objs.size := fun b hb => by
    obtain ⟨o, e, _⟩ := gt_obj (T0 lifts bases Hb1) b hb
    exact Heap.lt_size e
  have f3 : ∀ b ∈ [L, a], FpOk X pins (upd H1 D (.lst [])) b ∧ b < s3.heap.objs.size := fun b hb => by
    have hlt := fp2 b hb
    refine ⟨⟨?_, (f0 b hb).2⟩, by rw [h3, Heap.size_push]; exact Nat.lt_succ_of_lt hlt⟩
    rw [upd_ne (by rw [← hD]; exact Nat.ne_of_lt hlt)]
    exact (f0 b hb).1
  have I4 := block_start I3 ok hN f3
  have pg := hg s3 (upd H1 D (.lst [])) s3.heap.objs.size (cellsFrom (s3.heap.objs.size + 1) scope.names (cloFrom X.env.cells scope.names [])) [L, a]
  have pe := hel s3 (upd H1 D (.lst [])) s3.heap.objs.size (cellsFrom (s3.heap.objs.size + 1) scope.names (cloFrom X.env.cells scope.names [])) [L, a]
  have hcl : (compEnvC scope (cellsFrom (s3.heap.objs.size + 1) scope.names (cloFrom X.env.cells scope.names [])) s3.heap.objs.size X.env).cells = [] := by
    show cellsFrom _ _ _ = []
    rw [cloFrom_none fun y hy => (hnc y hy).2, cellsFrom_none fun y hy => (hnc y hy).1]
  show codeAny _ _ (.compStart (.ListComp elt [⟨tg, .Call (.Attribute o name apos) [] [] cpos, [], 0⟩] scope pos) 0 (.ref a) (.ref D) (compEnvC scope (cellsFrom (s3.heap.objs.size + 1) scope.names (cloFrom X.env.cells scope.names [])) s3.heap.objs.size X.env)) (compPost (model X.prog X.w) X.A X.xe use Qf (.ref D) s3.heap.objs.size) { s3 with heap := pushCells (s3.heap.push { cls := .type "dict", data := .dict #[] }) scope.names }
  generalize hce : compEnvC scope (cellsFrom (s3.heap.objs.size + 1) scope.names (cloFrom X.env.cells scope.names [])) s3.heap.objs.size X.env = ce at I4 pg pe hcl ⊢
  have cL : ce.locals = s3.heap.objs.size := by subst hce; rfl
  have rn3 : Hb1 r = none ∧ RsAt X.K Hb1 (upd H1 D (.lst [])) r (.ins C dx fs) := by
    obtain ⟨q1, ws, q2, q3⟩ := hroomIn
    exact ⟨q1, ws, by rw [upd_ne (ne_of_none q2 hDn)]; exact q2, q3⟩
  have g3 : Gr Hb1 H1 Hb1 (upd H1 D (.lst [])) := Gr.own hsame _ hDn
  have hD3 : upd H1 D (.lst []) D = some (.lst []) := upd_same
  have hbD : Hb1 D = none := hsame.free hDn
  generalize hH3 : upd H1 D (.lst []) = H3 at I3 I4 pg pe f3 rn3 g3 hD3
  generalize hs4 : ({ s3 with heap := pushCells (s3.heap.push { cls := .type "dict", data := .dict #[] }) scope.names } : Shared) = s4 at I4 ⊢
  have T4 : GT X.K B f cd L a g r lifts bases 0 [L, a] Hb1 s4 := gt_keep (T0 lifts bases Hb1) (Same.refl _) (fun b _ o e => by
    rw [← hs4]
    exact pushCells_keeps _ _ _ _ (Heap.get?_push_of_some _ (by rw [h3]; exact Heap.get?_push_of_some _ e))) (by rw [← hs4]; show s3.gens[g]? = _; rw [h3g])
  have stat : ∀ {σ' : L2.St} {H' : Hp} {s' : Shared}, Inv (X.blk s3 H3 scope ce [L, a]) [] σ' H' s' → (∀ b ∈ [L, a], H' b = none) → ∀ b ∈ [L, a], FpOk (X.blk s3 H3 scope ce [L, a]) [] H' b := fun {σ' H' s'} I' hn b hb =>
    ⟨hn b hb, (I'.ok.exf b hb).1, I'.ok.exfs b hb, .inl hb, fun x c e => (I'.ok.exf b hb).2 x c e, fun p hp => absurd (show p ∈ ([] : List (Addr × Obj)) ++ [] from hp) (by simp)⟩
  have CnB : GCons (X.blk s3 H3 scope ce [L, a]) k L [D] := by
    refine ⟨hc, hr, Cn.frsL, fun x c e => ?_, fun b o e hx => ?_, Cn.bsz, .inr fun hb => ?_⟩
    · have e : ce.cells.lookup x = some c := e
      rw [hcl] at e; cases e
    · have hb := Heap.lt_size (show s3.heap.get? b = some o from e)
      rw [h3s] at hb
      have hx : b ∉ [L, a] := hx
      have hDe : D = L + 2 := by rw [← hD, hsz]
      by_cases q : b < L
      · exact .inl q
      · refine .inr ?_
        have hbe : b = D := by
          have n1 : b ≠ L := fun z => hx (by rw [z]; simp)
          have n2 : b ≠ a := fun z => hx (by rw [z]; simp)
          have : b = L ∨ b = L + 1 ∨ b = L + 2 := by
            have h1 : ¬ (b : Nat) < L := q
            have h2 : (b : Nat) < L + 3 := hb
            have key : ∀ x y : Nat, ¬ x < y → x < y + 3 → x = y ∨ x = y + 1 ∨ x = y + 2 := fun x y _ _ => by omega
            exact key b L h1 h2
          rcases this with z | z | z
          · exact absurd z n1
          · exact absurd (z.trans ha.symm) n2
          · exact z.trans hDe.symm
        rw [hbe]
        refine ⟨?_, List.mem_singleton.mpr rfl⟩
        show H3 D ≠ none
        rw [hD3]; exact fun z => nomatch z
    · have h1 := Cn.frsL _ hb
      have h1 : ce.locals < L := h1
      rw [cL, h3s] at h1
      exact Nat.lt_irrefl _ (Nat.lt_of_le_of_lt (Nat.le_add_right L 3) h1)
  have nox : ∀ {e : Value} {s' : Shared} {Pp : Prop}, X.xe e s' → Pp := fun {e s' Pp} z => (hx e s' z).elim
  have loop : codeAny (model X.prog X.w) X.A (.compLoop (.ListComp elt [⟨tg, .Call (.Attribute o name apos) [] [] cpos, [], 0⟩] scope pos) 0 (.ref a) (.ref D) ce) (compPost (model X.prog X.w) X.A X.xe use Qf (.ref D) s3.heap.objs.size) s4 := by
    refine compLoop_any (fun n s' => ∃ i H' Hb' fp acc, n = out.length - i ∧ i ≤ out.length ∧ Inv (X.blk s3 H3 scope ce [L, a]) [] (wipe σ [j]) H' s' ∧ GT X.K B f cd L a g r lifts bases i fp Hb' s' ∧ (∀ b ∈ fp, FpOk (X.blk s3 H3 scope ce [L, a]) [] H' b) ∧ Gr Hb1 H1 Hb' H' ∧ Hb' D = none ∧ H' D = some (.lst acc) ∧ DrAll X.K Hb' acc (out.take i) ∧ (i = 0 → Hb' = Hb1 ∧ H' = H3)) ?_ out.length
      ⟨0, H3, Hb1, _, [], by simp, Nat.zero_le _, I4, T4, stat I4 fun b hb => (f3 b hb).1.1, g3, hbD, hD3, by simpa using DrAll.nil, fun _ => ⟨rfl, rfl⟩⟩
    rintro n s5 ⟨i, H5, Hb5, fp5, acc, rfl, hle, I5, T5, f5, g5, hb5, hD5, ra5, hz5⟩
    have hown : ∀ b ∈ [D], H5 b ≠ none := fun b hb => by
      rw [List.mem_singleton.mp hb, hD5]; exact fun z => nomatch z
    by_cases hi : i < out.length
    · refine wpAny_mono (walk_item (dx := dx) (E := fun _ _ => False) (X := X.blk s3 H3 scope ce [L, a]) G rfl rfl rfl rfl rfl CnB sp I5 g5.sub T5 f5 hown (fun z => ?_) (List.getElem?_eq_getElem hi) hlen) (fun u s6 hq6 => ?_) fun _ _ z => False.elim z
      · obtain ⟨e1, e2⟩ := hz5 z
        subst e1 e2
        exact rn3
      obtain ⟨v, x, Hb6, H6, fp6, rfl, I6, rv6, g6, r6, T6, f6⟩ := hq6
      refine gen_go (gt_gen T6) ?_
      have I6p := I6.pinned f6 (gt_obj T6)
      obtain ⟨gs6, hgs6, hsu6⟩ := gt_susp T6
      refine wpAny_mono (wpAny_keep (pg.run _ { s6 with gens := poiA s6.gens } _ H6 x v (fun σ' H' => σ' = (wipe σ [j]).set j (some x) ∧ H' = H6) (inv_poi I6p) rv6 ⟨rfl, rfl⟩)) (fun _ s7 hq7 => ?_) fun _ _ z => (by obtain ⟨_, _, z⟩ := z; exact False.elim z)
      obtain ⟨k7, A7, gr7, σ7, H7, I7, rfl, rfl⟩ := hq7
      have I7' := inv_back gr7 I7
      refine wpAny_tests_nil ?_
      rw [if_pos rfl]
      have hlenw : j < (wipe σ [j]).length := by rw [wipe_length, I.len]; exact hj
      refine wpAny_mono (wpAny_keep (pe.run _ { s7 with gens := poiA s7.gens } _ H7 (fun v' H' => v' = x ∧ H' = H7) (inv_poi I7') ⟨x, List.getElem?_set_self hlenw, rfl, rfl⟩)) (fun v8 s8 hq8 => ?_) fun _ _ z => (by obtain ⟨_, _, z⟩ := z; exact False.elim z)
      obtain ⟨k8, A8, gr8, x8, H8, I8, rv8, rfl, rfl⟩ := hq8
      have I8' := inv_back gr8 I8
      have hD8 : H8 D = some (.lst acc) := g6.ext _ _ hD5
      have hal : acc.length = i := by rw [ra5.length, List.length_take]; omega
      have hz : acc.length < sizeLine := Nat.lt_of_lt_of_le (by omega : acc.length < 100000) (line_of (Nat.le_refl _))
      refine wpAny_mono (wpAny_keep (app_ok (E := fun _ _ => False) (X := X.blk s3 H3 scope ce [L, a]) (Q := fun _ s' => Inv (X.blk s3 H3 scope ce [L, a]) ([] ++ pinsAt fp6 s6.heap) _ (upd H8 D (.lst (acc ++ [x8]))) s') (inv_poi I8') hD8 hz rv8 fun s' z => z)) (fun _ s9 hq9 => ?_) fun _ _ z => (by obtain ⟨_, _, z⟩ := z; exact False.elim z)
      obtain ⟨k9, A9, gr9, I9⟩ := hq9
      have I9' := inv_back gr9 I9
      have hgs9 : s9.gens[g]? = s6.gens[g]? := by
        rw [hgs6]
        exact k9 g gs6 (k8 g gs6 (k7 g gs6 hgs6 hsu6) hsu6) hsu6
      have kp : ∀ b ∈ fp6, ∀ o, s6.heap.get? b = some o → s9.heap.get? b = some o ∧ upd H8 D (.lst (acc ++ [x8])) b = none := fun b hb o e =>
        let z := I9'.pin (b, o) (List.mem_append_right _ (List.mem_append_right _ (mem_pinsAt hb e)))
        ⟨z.1, z.2.1⟩
      have hb6 : Hb6 D = none := g6.out D (by rw [hD5]; exact fun z => nomatch z) hb5
      have gg := g5.trans g6
      refine ⟨out.length - (i + 1), by omega, i + 1, _, Hb6, fp6, acc ++ [x8], rfl, hi, (I9'.unpinned (pins := [])).weak (by rw [List.length_set]) (fun jj vv e => ?_), gt_keep T6 (Same.refl _) (fun b hb o e => (kp b hb o e).1) hgs9, fun b hb => ?_, ⟨fun b o e => ?_, gg.sup, fun b o e => ?_, gg.out⟩, hb6, upd_same, ?_, fun z => absurd z (Nat.succ_ne_zero i)⟩
      · have hne : j ≠ jj := fun z => by
          subst z
          have := (wipe_some e).2
          exact this (by simp)
        rw [List.getElem?_set_ne hne]
        exact e
      · obtain ⟨o, e, _⟩ := gt_obj T6 b hb
        exact fpOk_of (f6 b hb) (kp b hb o e).2
      · rw [upd_ne (ne_of_none e hDn)]; exact gg.ext b o e
      · rw [upd_ne (fun z => by rw [z, hb6] at e; cases e)]; exact gg.sub b o e
      · have etake : out.take (i + 1) = out.take i ++ [out[i]] := by rw [List.take_add_one, List.getElem?_eq_getElem hi]; rfl
        rw [etake]
        exact (DrAll.up g6.sup _ ra5).append (.one r6)
    · have e : i = out.length := by omega
      obtain ⟨jx, rfl⟩ : ∃ jx, i = jx + 1 := ⟨i - 1, by omega⟩
      refine wpAny_mono (walk_done (E := fun _ _ => False) (X := X.blk s3 H3 scope ce [L, a]) G rfl CnB I5 g5.sub T5 f5 hown (by omega)) (fun u s6 hq6 => ?_) fun _ _ z => False.elim z
      obtain ⟨rfl, I6⟩ := hq6
      have I7 : Inv X pins σ H5 s6 := I3.call' (ch := [L, a]) I6.os I6.base I6.hok I6.bare fun b hb => ⟨(f3 b hb).1.2.2.2.1, (f3 b hb).1.2.1, (f3 b hb).1.2.2.2.2.1, (f3 b hb).1.2.2.2.2.2⟩
      have nC : H5 s3.heap.objs.size = none := by
        have z : H5 ce.locals = none := I6.free
        rw [cL] at z
        exact z
      obtain ⟨m, hn, _⟩ := I6.loc
      have hn : s6.heap.Ns ce.locals m := hn
      rw [cL] at hn
      rw [e, List.take_length] at ra5
      exact hRR D s3.heap.objs.size s6 m H5 I7 (hQ D acc Hb5 H5 g5 hb5 hDn hD5 ra5) hn (I3.fpOk (Nat.le_refl _) nC)
  exact codeAny_compStart_list loop (wpAny_pyIter_gen (gt_gen T4) loop)
/-- as a value -/
theorem pe_lcG {elt tg o : Expr} {te : TE} {name : Str} {scope : Scope} {j : Nat} {y : Str} {pos apos cpos : Pos} {pl : Sem Bool} {params : Arguments} {fd : FuncData}
    (hx : ∀ e s, ¬ X.xe e s) (hc : X.calm = true) (hN : X.N.Nodup) (G : GOk X.prog X.w X.K X.mg X.base k B f C Sp) (he : PE X o te) (c : Cls X.K C) (hm : Meth X.K C name f)
    (F : FunD X.K name B.qual params B.body B.scope [] [] f fd) (hr : Room (k + 2) X.A)
    (hb : ∀ (kV doc pm : Value) (an : Option Addr) (cdv ct u : Value), bindArgs (PySem.W.fnOf name B.qual params B.body B.scope .none kV doc pm an cdv ct) ⟨[u], []⟩ = pure [(("self" : Str), u)])
    (ok : BlkOk X.N X.env.scope scope [(y, j)]) (hnc : ∀ q ∈ scope.names, q.2 ≠ .cell ∧ q.2 ≠ .free) (hj : j < X.N.length)
    (hg : ∀ (s : Shared) (H : Hp) (C : Addr) (cl : List (Str × Addr)) (fp : List Addr), PG (X.blk s H scope (compEnvC scope cl C X.env) fp) tg (gName j))
    (hel : ∀ (s : Shared) (H : Hp) (C : Addr) (cl : List (Str × Addr)) (fp : List Addr), PE (X.blk s H scope (compEnvC scope cl C X.env) fp) elt (tVar j))
    (hs : ∀ x, foldedSetIterable (.Call (.Attribute o name apos) [] [] cpos) X.env x = pure x := by intro _; rfl)
    (ht : eval (.Call (.Attribute o name apos) [] [] cpos) X.env = (do
      let ov ← eval o X.env
      standAt apos.atName
      let (f, first) ← holding [ov] (getMethod ov name pl)
      callWith cpos f first (backTo cpos (starEach [] X.env)) (backToKw cpos (keywordEach [] X.env))) := by rfl) :
    PE X (.ListComp elt [⟨tg, .Call (.Attribute o name apos) [] [] cpos, [], 0⟩] scope pos) (tLcG X.K C name Sp te) := by
  refine ⟨fun pins s σ H Q I h => ?_⟩
  rw [eval_ListComp]
  refine lc_coreG (pl := pl) hx hc hN G he c hm F hr hb I ok hnc hj hg hel hs ht h fun D C s' m H' I' q hn f => ⟨m, hn, fun h'' sb => ?_⟩
  obtain ⟨f0, f1, f2, f3, f4, f5⟩ := f
  exact ⟨.ref D, H', I'.turned (t' := s'.toks) (fun b o hb e => (sb.2 b hb).trans e) f0 f1 f3 f4 f5, rfl, q⟩
/-- name = [..] on one line -/
theorem ps_setLcG {ii : Nat} {yy : Str} {py spos : Pos} {elt tg o : Expr} {te : TE} {name : Str} {scope : Scope} {j : Nat} {y : Str} {pos apos cpos : Pos} {pl : Sem Bool} {params : Arguments} {fd : FuncData}
    (hx : ∀ e s, ¬ X.xe e s) (hc : X.calm = true) (hN : X.N.Nodup) (hy : X.N[ii]? = some yy) (hyl : X.env.scope.names.lookup yy = some .local)
    (hsw : swapsWith (.ListComp elt [⟨tg, .Call (.Attribute o name apos) [] [] cpos, [], 0⟩] scope pos) (some (.Name yy py)) spos.line X.env = pure true)
    (G : GOk X.prog X.w X.K X.mg X.base k B f C Sp) (he : PE X o te) (c : Cls X.K C) (hm : Meth X.K C name f)
    (F : FunD X.K name B.qual params B.body B.scope [] [] f fd) (hr : Room (k + 2) X.A)
    (hb : ∀ (kV doc pm : Value) (an : Option Addr) (cdv ct u : Value), bindArgs (PySem.W.fnOf name B.qual params B.body B.scope .none kV doc pm an cdv ct) ⟨[u], []⟩ = pure [(("self" : Str), u)])
    (ok : BlkOk X.N X.env.scope scope [(y, j)]) (hnc : ∀ q ∈ scope.names, q.2 ≠ .cell ∧ q.2 ≠ .free) (hj : j < X.N.length)
    (hg : ∀ (s : Shared) (H : Hp) (C : Addr) (cl : List (Str × Addr)) (fp : List Addr), PG (X.blk s H scope (compEnvC scope cl C X.env) fp) tg (gName j))
    (hel : ∀ (s : Shared) (H : Hp) (C : Addr) (cl : List (Str × Addr)) (fp : List Addr), PE (X.blk s H scope (compEnvC scope cl C X.env) fp) elt (tVar j))
    (hs : ∀ x, foldedSetIterable (.Call (.Attribute o name apos) [] [] cpos) X.env x = pure x := by intro _; rfl)
    (ht : eval (.Call (.Attribute o name apos) [] [] cpos) X.env = (do
      let ov ← eval o X.env
      standAt apos.atName
      let (f, first) ← holding [ov] (getMethod ov name pl)
      callWith cpos f first (backTo cpos (starEach [] X.env)) (backToKw cpos (keywordEach [] X.env))) := by rfl) :
    PS X (.Assign [.Name yy py] (.ListComp elt [⟨tg, .Call (.Attribute o name apos) [] [] cpos, [], 0⟩] scope pos) spos) (tAsg (tLcG X.K C name Sp te) (gName ii)) := by
  refine ⟨fun pins s σ H D I h => ?_⟩
  rw [exec_Assign_Name_used _ _ _ _ hsw]
  refine wpAny_bind (wpAny_standAt (wpAny_bind ?_))
  show wpAny _ X.A (do let _ ← comprehension (.ListComp elt [⟨tg, .Call (.Attribute o name apos) [] [] cpos, [], 0⟩] scope pos) scope X.env (firstIterPos [⟨tg, .Call (.Attribute o name apos) [] [] cpos, [], 0⟩] pos) (newList []) false (eval (.Call (.Attribute o name apos) [] [] cpos) X.env) (some (assign (.Name yy py) X.env))) _ _ s
  have h : tLcG X.K C name Sp te σ H (fun x H1 => gName ii x σ H1 D.nx) := h
  refine wpAny_bind (thn (lc_coreG (pl := pl) (Qf := fun _ s' => SP X pins D .next s') hx hc hN G he c hm F hr hb I ok hnc hj hg hel hs ht h fun L C s' m H' I' q hn f => ?_) fun _ s' hq => wpAny_pure (wpAny_pure hq))
  show wpAny _ _ (assign (.Name yy py) X.env (.ref L)) _ _ _
  refine wpAny_assign_Name (store_ok2 (v := V.ref L) I' hN hy (.inl hyl) rfl (fun s2 I2 ⟨a, sb, ha⟩ => ?_) (.inr hyl))
  obtain ⟨f0, f1, f2, f3, f4, f5⟩ := f
  have haC : C ≠ a := by
    rcases ha with z | z
    · rw [z]; exact f1
    · exact fun e => f4 yy a z e.symm
  refine ⟨m, hn.sameBut sb haC, fun h3 sb3 => ?_⟩
  exact ⟨_, H', I2.turned (t' := s2.toks) (fun b o hb e => (sb3.2 b hb).trans e) f0 f1 f3 f4 f5, q⟩
/-- at the data -/
theorem ec_lcG {ds : Scs} {rs : Rss} {to : TE} {name : Str} (ho : EvC K to ds rs (.raw (.ref r))) (hm : (r, .ins C dx fs) ∈ rs) (hf : fs.lookup name = none) (sp : Sp fs lifts bases out) (hlen : bases.length = out.length) (hpos : 0 < out.length) (hmax : out.length ≤ 50000) :
    EvC K (tLcG K C name Sp to) ds rs (.val (.list out)) := fun Hb H σ S Q k =>
  ho Hb H σ S _ fun x Hb1 H1 g1 r1 => by
    have e1 : x = .ref r := r1
    subst e1
    have S1 := S.up g1
    obtain ⟨ws, hw, rw_⟩ := ins_at S1 hm
    refine ⟨r, dx, ws, rfl, hw, fs_none rw_ hf, r, dx, fs, lifts, bases, out, Hb1, rfl, sp, hlen, hpos, hmax, S1.sub, S1.res.at_ _ hm, fun D acc Hb' H' g hb hn hD ra => ?_⟩
    have gD : Gr Hb1 H1 (upd Hb' D (.lst acc)) H' := ⟨g.ext, g.sup.trans (same_upd _ hb), fun a o e => by
        by_cases q : a = D
        · subst q; rw [upd_same] at e; cases e; exact hD
        · rw [upd_ne q] at e; exact g.sub a o e, fun a h1 h2 => by
        rw [upd_ne (fun z => h1 (by rw [z]; exact hn))]; exact g.out a h1 h2⟩
    exact k _ _ _ (g1.trans gD) (.lst upd_same (DrAll.up (same_upd _ hb) _ ra))
end
end GN
set_option maxHeartbeats 1000000
/-! Rooms: data, contracts, rules. -/
namespace FT
open PySem PySem.Spec PyProof.Rows L2 DL FTM
/-! ### rooms as data -/
abbrev rB (p : Int) (l : Nat) (cols : List (List Int)) : PyData := .list ((List.range (cols.length + 1)).map fun n => eB (baseAt p l cols n))
abbrev rF (p : Int) (l : Nat) (cols : List (List Int)) : List (Str × PyData) := [("prime", .int p), ("width", .int (l : Nat)), ("kept_columns", eCs cols), ("kept_bases", rB p l cols)]
structure RoomOk (p : Int) (l : Nat) (cols : List (List Int)) : Prop where
  hp : p ∈ primes
  hl : 1 ≤ l
  hl3 : l ≤ 3
  hc : cols.length ≤ 60
  cok : ColsOk p l cols
theorem base_okB {p : Int} {l : Nat} {cols : List (List Int)} (R : RoomOk p l cols) {n : Nat} (hn : n ≤ cols.length) : BaseOk p l (baseAt p l cols n) := by
  have h1 := R.hl3
  have h2 := R.hc
  obtain ⟨G, hs, _⟩ := base_ok R.hp (l := l) (cols := cols) n hn
  refine good_ok R.hp G (by omega) fun j hj => ?_
  have h3 := hsum_le (nonneg_of G) j hj
  rw [hs] at h3
  have h4 := mul_le9 (l := l) (n := n + 1) (by omega) (by omega)
  have h5 : (l : Int) * ((n : Int) + 1) = (l : Int) * ((n + 1 : Nat) : Int) := by push_cast; rfl
  omega
theorem baseAt_app (p : Int) (l : Nat) (cols : List (List Int)) (c : List Int) {n : Nat} (hn : n ≤ cols.length) : baseAt p l (cols ++ [c]) n = baseAt p l cols n := by
  have := baseAt_take p l (cols ++ [c]) cols.length n hn
  rw [List.take_append_of_le_length (Nat.le_refl _), List.take_length] at this
  exact this.symm
theorem RoomOk.app {p : Int} {l : Nat} {cols : List (List Int)} (R : RoomOk p l cols) {c : List Int} (hc : cols.length < 60) (h1 : c.length = l) (h2 : ∀ x ∈ c, 0 ≤ x ∧ x < p) : RoomOk p l (cols ++ [c]) :=
  ⟨R.hp, R.hl, R.hl3, by rw [List.length_append, List.length_singleton]; omega, fun d hd => by
    rcases List.mem_append.mp hd with z | z
    · exact R.cok d z
    · rw [List.mem_singleton.mp z]; exact ⟨h1, h2⟩⟩
theorem RoomOk.take {p : Int} {l : Nat} {cols : List (List Int)} (R : RoomOk p l cols) (n : Nat) : RoomOk p l (cols.take n) :=
  ⟨R.hp, R.hl, R.hl3, Nat.le_trans (by rw [List.length_take]; omega) R.hc, R.cok.take n⟩
theorem rB_app (p : Int) (l : Nat) (cols : List (List Int)) (c : List Int) : rB p l (cols ++ [c]) = .list (((List.range (cols.length + 1)).map fun n => eB (baseAt p l cols n)) ++ [eB (baseAt p l (cols ++ [c]) (cols.length + 1))]) := by
  show PyData.list _ = PyData.list _
  rw [List.length_append, List.length_singleton, List.range_succ (n := cols.length + 1), List.map_append]
  congr 2
  refine List.map_congr_left fun n hn => ?_
  rw [baseAt_app p l cols c (by have := List.mem_range.mp hn; omega)]
theorem rB_take (p : Int) (l : Nat) (cols : List (List Int)) {n : Nat} (hn : n ≤ cols.length) : rB p l (cols.take n) = .list (((List.range (cols.length + 1)).map fun k => eB (baseAt p l cols k)).take (n + 1)) := by
  show PyData.list _ = PyData.list _
  have hl : (cols.take n).length = n := by rw [List.length_take]; omega
  rw [hl, ← List.map_take, List.take_range, Nat.min_eq_left (by omega)]
  congr 1
  refine List.map_congr_left fun k hk => ?_
  rw [baseAt_take p l cols n k (by have := List.mem_range.mp hk; omega)]
/-! ### the facts of the class -/
abbrev CR (K : PySem.W.Frag) : Addr := He.ga K "LetterRoom"
structure Tr (K : PySem.W.Frag) : Prop where
  ph : ∃ q, PropOf K (CR K) "heights" q (df_room_heights.at_ K)
  po : ∃ q, PropOf K (CR K) "least_order" q (df_room_least_order.at_ K)
  ins : C8.InsC K (CR K)
  eqf : PySem.W.findIn K (.ref (CR K)) "__eq__" = some (some (.ref (df_room_eq.at_ K)))
  eqn : PySem.W.isFn K (.ref (df_room_eq.at_ K)) = true
  dfl : ∃ (o : Obj) (n : Nat), K.lookup (initDefault K) = some o ∧ o.cls = .type "tuple" ∧ o.data = .seq #[] n
section
variable {K : PySem.W.Frag} {mg : PySem.Str → Option Value}
theorem Tx.cl (T : Tx K mg) : Cls K (CR K) := T.f (f := .cls "LetterRoom") 66
theorem Tx.mkR (T : Tx K mg) : Mk K (CR K) (df_room_init.at_ K) := T.f (f := .mkr "LetterRoom") 67
theorem Tx.n1 (T : Tx K mg) : NoAttr K (CR K) "prime" := T.f (f := .noat "LetterRoom" "prime") 68
theorem Tx.n2 (T : Tx K mg) : NoAttr K (CR K) "width" := T.f (f := .noat "LetterRoom" "width") 69
theorem Tx.n3 (T : Tx K mg) : NoAttr K (CR K) "kept_columns" := T.f (f := .noat "LetterRoom" "kept_columns") 70
theorem Tx.n4 (T : Tx K mg) : NoAttr K (CR K) "kept_bases" := T.f (f := .noat "LetterRoom" "kept_bases") 71
theorem Tx.m1 (T : Tx K mg) : Meth K (CR K) "put" (df_room_put.at_ K) := T.f (f := .meth "LetterRoom" "put") 72
theorem Tx.m2 (T : Tx K mg) : Meth K (CR K) "take_back" (df_room_take_back.at_ K) := T.f (f := .meth "LetterRoom" "take_back") 73
theorem Tx.m3 (T : Tx K mg) : Meth K (CR K) "columns" (df_room_columns.at_ K) := T.f (f := .meth "LetterRoom" "columns") 74
theorem Tx.m4 (T : Tx K mg) : Meth K (CR K) "walk" (df_room_walk.at_ K) := T.f (f := .meth "LetterRoom" "walk") 75
theorem Tx.rm (T : Tx K mg) : mg "LetterRoom" = some (.ref (CR K)) := T.f (f := .glo "LetterRoom") 47
theorem most (T : Tx K mg) : ∃ u, mg "MOST_COLUMNS" = some u ∧ RelV (.int 60) u := by
  obtain ⟨t, h⟩ := T.f (f := .int "MOST_COLUMNS" 60) 48
  exact ⟨_, h, t, rfl⟩
end
/-! ### contracts by an address -/
theorem calAt_of {P : Program} {w : World} {K : PySem.W.Frag} {mg : PySem.Str → Option Value} {base : Heap} {d : Df} {N ps : List PySem.Str} {n k : Nat} {W : Wc} (h : Std K d) (hd : d.dfl = []) (hk : d.kwd = [])
    (S : FnScope N ps (defScope d.st)) (hb : ∀ (kV doc pm : Value) (an : Option Addr) (cdv ct : Value) (us : List Value), us.length = ps.length → bindArgs (PySem.W.fnOf d.name d.qual (defArgs d.st) (defBody d.st) (defScope d.st) .none kV doc pm an cdv ct) ⟨us, []⟩ = pure (ps.zip us))
    (hl : WcLen W ps.length) (hn : N.length - ps.length = n)
    (hbody : ∀ (cdv : Value) (A : Around) (outer : List Env) (s : Shared) (H : Hp) (E : XK), Room k (A.deeper (envOfC d.qual (defScope d.st) s.heap.objs.size (d.at_ K) cdv)) →
      ∃ t, PSs (cxOf CX0 P w K mg base N d.qual (defScope d.st) (d.at_ K) cdv A outer s H E).nox (defBody d.st) t ∧ ∀ cs rs Post, W cs rs Post → SdC K t (cs ++ List.replicate n .un) rs { nx := fun _ rs' => Post (.val .none) rs', rt := Post }) : C8.CalAt P w K mg base (k + 1) (d.at_ K) (Fn K W) := by
  obtain ⟨fd, F⟩ := h
  rw [hd, hk] at F
  refine ⟨fd, ps, F.ok S (fn_len hl) fun cdv A outer s H vs Q E hr hsp => ?_, F.kp, F.bindsN hb⟩
  obtain ⟨t, ht, hq⟩ := hbody cdv A outer s H E hr
  have hv := fn_len hl _ _ _ _ hsp
  exact ⟨t, ht.nox, fn_body hsp n (by rw [hv]; exact hn) hq⟩
/-- a def that only reads: its promise -/
abbrev Rd := Scs → Rss → PyData → Prop
def FnG (K : PySem.W.Frag) (R : Rd) : Sp := fun vs H Q _ => ∃ Hb cs rs d, Same Hb H ∧ ScRs K Hb vs cs ∧ ResR K Hb H rs ∧ R cs rs d ∧ ∀ v Hb' H', Gr Hb H Hb' H' → Dr K Hb' v d → Q v H'
theorem calG_of {P : Program} {w : World} {K : PySem.W.Frag} {mg : PySem.Str → Option Value} {base : Heap} {d : Df} {N ps : List PySem.Str} {n k : Nat} {R : Rd} (h : Std K d) (hd : d.dfl = []) (hk : d.kwd = [])
    (S : FnScope N ps (defScope d.st)) (hb : ∀ (kV doc pm : Value) (an : Option Addr) (cdv ct : Value) (us : List Value), us.length = ps.length → bindArgs (PySem.W.fnOf d.name d.qual (defArgs d.st) (defBody d.st) (defScope d.st) .none kV doc pm an cdv ct) ⟨us, []⟩ = pure (ps.zip us))
    (hl : ∀ cs rs d, R cs rs d → cs.length = ps.length) (hn : N.length - ps.length = n)
    (hbody : ∀ (cdv : Value) (A : Around) (outer : List Env) (s : Shared) (H : Hp) (E : XK), Room k (A.deeper (envOfC d.qual (defScope d.st) s.heap.objs.size (d.at_ K) cdv)) →
      ∃ t, PSs (cxOf CX0 P w K mg base N d.qual (defScope d.st) (d.at_ K) cdv A outer s H E).nox (defBody d.st) t ∧ ∀ cs rs d, R cs rs d → ∀ Hb H σ D, Stt K Hb H σ (cs ++ List.replicate n .un) rs → (∀ v Hb' H', Gr Hb H Hb' H' → Dr K Hb' v d → D.rt v H') → t D σ H) : C8.CalAt P w K mg base (k + 1) (d.at_ K) (FnG K R) := by
  obtain ⟨fd, F⟩ := h
  rw [hd, hk] at F
  have len : ∀ vs H Q E, FnG K R vs H Q E → vs.length = ps.length := fun vs H Q E ⟨Hb, cs, rs, d, s, r, _, w, _⟩ => by
    rw [Paired.length r]; exact hl _ _ _ w
  refine ⟨fd, ps, F.ok S len fun cdv A outer s H vs Q E hr hsp => ?_, F.kp, F.bindsN hb⟩
  obtain ⟨t, ht, hq⟩ := hbody cdv A outer s H E hr
  have hv := len _ _ _ _ hsp
  obtain ⟨Hb, cs, rs, d', s', r, rr, w, k'⟩ := hsp
  exact ⟨t, ht.nox, hq cs rs d' w Hb H _ _ (stt_start s' r rr n (by rw [hv]; exact hn)) k'⟩
section
variable {K : PySem.W.Frag} {ds : Scs} {rs rsI rsF : Rss} {te ta : TE} {a C dx : Addr} {fs : List (Str × PyData)} {d : PyData} {R : Rd} {E : XK}
/-- a property that only reads -/
theorem ec_propG (ho : EvC K te ds rs (.raw (.ref a))) (hm : (a, .ins C dx fs) ∈ rs) (hr : R [.raw (.ref a)] [(a, .ins C dx fs)] d) : EvC K (tProp C (FnG K R) [] E te) ds rs (.val d) := fun Hb H σ S Q k =>
  ho Hb H σ S _ fun x Hb1 H1 g1 r1 => by
    have e1 : x = .ref a := r1
    subst e1
    have S1 := S.up g1
    obtain ⟨ws, hw, rw_⟩ := ins_at S1 hm
    refine ⟨a, dx, ws, rfl, hw, Hb1, [.raw (.ref a)], [(a, .ins C dx fs)], d, S1.sub, sc_ref .nil, ⟨by simp, fun x hx => by rw [List.mem_singleton.mp hx]; exact S1.res.at_ _ hm⟩, hr, fun v Hb' H' g r => k v Hb' H' (g1.trans g) r⟩
/-- a method that only reads -/
theorem ec_methG {m : Str} {tr : TA} {xs : List PyData} (ho : EvC K te ds rs (.raw (.ref a))) (hm : (a, .ins C dx fs) ∈ rs) (hf : fs.lookup m = none) (hx : EaC K tr ds rs (xs.map .val)) (hr : R (.raw (.ref a) :: xs.map .val) [(a, .ins C dx fs)] d) : EvC K (tMeth C m (FnG K R) [] E te tr) ds rs (.val d) := fun Hb H σ S Q k =>
  ho Hb H σ S _ fun x Hb1 H1 g1 r1 => by
    have e1 : x = .ref a := r1
    subst e1
    obtain ⟨ws, hw, rw_⟩ := ins_at (S.up g1) hm
    refine ⟨a, dx, ws, rfl, hw, fs_none rw_ hf, hx Hb1 H1 σ (S.up g1) _ fun vs Hb2 H2 g2 r2 => ?_⟩
    have S2 := S.up (g1.trans g2)
    show FnG K R (.ref a :: (vs ++ [])) H2 Q E
    rw [List.append_nil]
    exact ⟨Hb2, _, [(a, .ins C dx fs)], d, S2.sub, sc_ref r2, ⟨by simp, fun x hx => by rw [List.mem_singleton.mp hx]; exact S2.res.at_ _ hm⟩, hr, fun v Hb' H' g r => k v Hb' H' ((g1.trans g2).trans g) r⟩
end
section
variable {X : Cx} {k j : Nat} {C g q : Addr} {sp : Sp} {e o : Expr} {f m : Str} {pos apos : Pos} {ta : TE}
theorem pe_propC (c : C8.CalAt X.prog X.w X.K X.mg X.base k g sp) (he : PE X e ta) (cl : Cls X.K C) (hp : ∃ q, PropOf X.K C f q g) (hr : Room j X.A) (hk : k + 1 ≤ j) (hab : attributeBase e f X.env (eval e X.env) = eval e X.env) : PE X (.Attribute e f pos) (tProp C sp [] E0 ta) := by
  obtain ⟨fd, ps, F, kp, b⟩ := c.ex
  obtain ⟨q, hp⟩ := hp
  exact pe_prop he cl hp F (hr.mono hk) b .nil C8.pass0 hab
theorem pe_metC0 {pl : Sem Bool} (c : C8.CalAt X.prog X.w X.K X.mg X.base k g sp) (he : PE X o ta) (cl : Cls X.K C) (hm : Meth X.K C m g) (hr : Room j X.A) (hk : k ≤ j)
    (ht : eval (.Call (.Attribute o m apos) [] [] pos) X.env = (do
      let ov ← eval o X.env
      standAt apos.atName
      let (f, first) ← holding [ov] (getMethod ov m pl)
      callWith pos f first (backTo pos (starEach [] X.env)) (backToKw pos (keywordEach [] X.env))) := by rfl) :
    PE X (.Call (.Attribute o m apos) [] [] pos) (tMeth C m sp [] E0 ta tNil) := by
  obtain ⟨fd, ps, F, kp, b⟩ := c.ex
  exact pe_meth0 (pl := pl) he cl hm F (hr.mono hk) b .nil C8.pass0 ht
end
end FT
set_option maxHeartbeats 1000000
namespace FT
open PySem PySem.Spec PyProof.Rows L2 DL FTM
theorem at_last {α : Type} {enc : α → PyData} {xs : List α} {n : Nat} (d : α) (h : xs.length = n + 1) : atI (xs.map enc) (-1) = some (enc (xs.getD n d)) := by
  unfold atI ixN
  rw [List.length_map, h, if_neg (by decide), if_pos (by omega)]
  show (xs.map enc)[((-1 : Int) + ((n + 1 : Nat) : Int)).toNat]? = _
  have e : ((-1 : Int) + ((n + 1 : Nat) : Int)).toNat = n := by omega
  rw [e, List.getElem?_map, List.getElem?_eq_getElem (by omega), List.getD_eq_getElem?_getD, List.getElem?_eq_getElem (by omega)]
  rfl
theorem at_bases (p : Int) (l : Nat) (cols : List (List Int)) : atI ((List.range (cols.length + 1)).map fun n => eB (baseAt p l cols n)) (-1) = some (eB (baseAt p l cols cols.length)) := by
  have := at_last (enc := fun n => eB (baseAt p l cols n)) (xs := List.range (cols.length + 1)) (n := cols.length) 0 (by rw [List.length_range])
  rw [this]
  have e : (List.range (cols.length + 1)).getD cols.length 0 = cols.length := by
    rw [List.getD_eq_getElem?_getD, List.getElem?_range (by omega)]; rfl
  rw [e]
theorem const_neB {p : Int} {l : Nat} {cols : List (List Int)} (R : RoomOk p l cols) {n : Nat} (hn : n ≤ cols.length) : constHs l (baseAt p l cols n) ≠ [] := by
  obtain ⟨G, _, _⟩ := base_ok R.hp (l := l) (cols := cols) n hn
  exact G.const_ne (prime_lt R.hp).1

abbrev N_room_heights : List PySem.Str := ["self"]
theorem sc_room_heights : FnScope N_room_heights ["self"] (defScope df_room_heights.st) := ⟨rfl, rfl, rfl, by decide +kernel, rfl, by decide +kernel, by decide +kernel⟩
abbrev W_room_heights (K : PySem.W.Frag) : FT.Rd := fun cs rs d => ∃ r dx p l cols, cs = [.raw (.ref r)] ∧ rs = [(r, .ins (CR K) dx (rF p l cols))] ∧ RoomOk p l cols ∧ d = tupI (heightsOf l (baseAt p l cols cols.length))
theorem w_room_heights {P : Program} {w : World} {K : PySem.W.Frag} {mg : PySem.Str → Option Value} {base : Heap} (T : Tx K mg) (c_heights_of_base : C8.Cal P w K mg base 3 "heights_of_base" (Fn K W_heights_of_base) []) (c_lifts_of_width : C8.Cal P w K mg base 1 "lifts_of_width" (Fn K W_lifts_of_width) []) : C8.CalAt P w K mg base 4 (df_room_heights.at_ K) (FnG K (W_room_heights K)) := by
  refine calG_of (d := df_room_heights) (N := N_room_heights) (ps := ["self"]) (n := 0) (T.d 48) rfl rfl sc_room_heights (fun _ _ _ _ _ _ us hl => match us, hl with | [_], _ => rfl) ?_ rfl fun cdv A outer s H E hr => ?_
  · intro cs rs d h; obtain ⟨_, _, _, _, _, rfl, _⟩ := h; rfl
  have hu := hu_of hr
  have hu0 := hr.units0
  have hu64 := hr.units
  refine ⟨_, (pss_one (ps_ret (C8.pe_c c_heights_of_base hr (by decide) rfl (pa_cons (C8.pe_c c_lifts_of_width hr (by decide) rfl (pa_cons (pe_fld (pv 0) rfl) pa_nil)) (pa_cons (pe_ix (r := rIxL K) ix_list (pe_fld (pv 0) rfl) (pe_un un_neg pe_int) (fun _ _ => rfl)) pa_nil))))), ?_⟩
  rintro cs rs d ⟨r, dx, p, l, cols, rfl, rfl, R, rfl⟩ Hb H σ D S k
  have h1 := R.hl3
  refine (ec_call (d := tupI (heightsOf l (baseAt p l cols cols.length))) (xs := [tupI (liftsOf l), eB (baseAt p l cols cols.length)]) (ea_cons (ec_call (xs := [.int (l : Nat)]) (ea_cons (ec_fld T.cl T.n2 (ec_raw rfl) List.mem_cons_self rfl) ea_nil) ⟨l, rfl, R.hl, by omega, rfl⟩) (ea_cons (ec_op (ec_fld T.cl T.n4 (ec_raw rfl) List.mem_cons_self rfl) (ec_un ec_int ru_neg) (rv_ixL (at_bases p l cols))) ea_nil)) ⟨p, l, _, rfl, base_okB R (Nat.le_refl _), rfl⟩) Hb H σ S D.rt k
abbrev N_room_least_order : List PySem.Str := ["self"]
theorem sc_room_least_order : FnScope N_room_least_order ["self"] (defScope df_room_least_order.st) := ⟨rfl, rfl, rfl, by decide +kernel, rfl, by decide +kernel, by decide +kernel⟩
abbrev W_room_least_order (K : PySem.W.Frag) : FT.Rd := fun cs rs d => ∃ r dx p l cols, cs = [.raw (.ref r)] ∧ rs = [(r, .ins (CR K) dx (rF p l cols))] ∧ RoomOk p l cols ∧ d = .int (leastOf l (baseAt p l cols cols.length))
theorem w_room_least_order {P : Program} {w : World} {K : PySem.W.Frag} {mg : PySem.Str → Option Value} {base : Heap} (T : Tx K mg) (c_least_of_base : C8.Cal P w K mg base 3 "least_of_base" (Fn K W_least_of_base) []) (c_lifts_of_width : C8.Cal P w K mg base 1 "lifts_of_width" (Fn K W_lifts_of_width) []) : C8.CalAt P w K mg base 4 (df_room_least_order.at_ K) (FnG K (W_room_least_order K)) := by
  refine calG_of (d := df_room_least_order) (N := N_room_least_order) (ps := ["self"]) (n := 0) (T.d 49) rfl rfl sc_room_least_order (fun _ _ _ _ _ _ us hl => match us, hl with | [_], _ => rfl) ?_ rfl fun cdv A outer s H E hr => ?_
  · intro cs rs d h; obtain ⟨_, _, _, _, _, rfl, _⟩ := h; rfl
  have hu := hu_of hr
  have hu0 := hr.units0
  have hu64 := hr.units
  refine ⟨_, (pss_one (ps_ret (C8.pe_c c_least_of_base hr (by decide) rfl (pa_cons (C8.pe_c c_lifts_of_width hr (by decide) rfl (pa_cons (pe_fld (pv 0) rfl) pa_nil)) (pa_cons (pe_ix (r := rIxL K) ix_list (pe_fld (pv 0) rfl) (pe_un un_neg pe_int) (fun _ _ => rfl)) pa_nil))))), ?_⟩
  rintro cs rs d ⟨r, dx, p, l, cols, rfl, rfl, R, rfl⟩ Hb H σ D S k
  have h1 := R.hl3
  refine (ec_call (d := .int (leastOf l (baseAt p l cols cols.length))) (xs := [tupI (liftsOf l), eB (baseAt p l cols cols.length)]) (ea_cons (ec_call (xs := [.int (l : Nat)]) (ea_cons (ec_fld T.cl T.n2 (ec_raw rfl) List.mem_cons_self rfl) ea_nil) ⟨l, rfl, R.hl, by omega, rfl⟩) (ea_cons (ec_op (ec_fld T.cl T.n4 (ec_raw rfl) List.mem_cons_self rfl) (ec_un ec_int ru_neg) (rv_ixL (at_bases p l cols))) ea_nil)) ⟨p, l, _, rfl, base_okB R (Nat.le_refl _), const_neB R (Nat.le_refl _), rfl⟩) Hb H σ S D.rt k
abbrev N_room_columns : List PySem.Str := ["self"]
theorem sc_room_columns : FnScope N_room_columns ["self"] (defScope df_room_columns.st) := ⟨rfl, rfl, rfl, by decide +kernel, rfl, by decide +kernel, by decide +kernel⟩
abbrev W_room_columns (K : PySem.W.Frag) : FT.Rd := fun cs rs d => ∃ r dx p l cols, cs = [.raw (.ref r)] ∧ rs = [(r, .ins (CR K) dx (rF p l cols))] ∧ RoomOk p l cols ∧ d = eCs cols
theorem w_room_columns {P : Program} {w : World} {K : PySem.W.Frag} {mg : PySem.Str → Option Value} {base : Heap} (T : Tx K mg)  : C8.CalAt P w K mg base 1 (df_room_columns.at_ K) (FnG K (W_room_columns K)) := by
  refine calG_of (d := df_room_columns) (N := N_room_columns) (ps := ["self"]) (n := 0) (T.d 52) rfl rfl sc_room_columns (fun _ _ _ _ _ _ us hl => match us, hl with | [_], _ => rfl) ?_ rfl fun cdv A outer s H E hr => ?_
  · intro cs rs d h; obtain ⟨_, _, _, _, _, rfl, _⟩ := h; rfl
  have hu := hu_of hr
  have hu0 := hr.units0
  have hu64 := hr.units
  refine ⟨_, (pss_one (ps_ret (pe_callTy call_list_of (by rfl) (T.f (f := .free "list") 58) boot_list (pa_cons (pe_fld (pv 0) rfl) pa_nil)))), ?_⟩
  rintro cs rs d ⟨r, dx, p, l, cols, rfl, rfl, R, rfl⟩ Hb H σ D S k
  exact (ec_cb (ea_cons (ec_fld T.cl T.n3 (ec_raw rfl) List.mem_cons_self rfl) ea_nil) rc_listL) Hb H σ S D.rt k
abbrev N_room_take_back : List PySem.Str := ["self"]
theorem sc_room_take_back : FnScope N_room_take_back ["self"] (defScope df_room_take_back.st) := ⟨rfl, rfl, rfl, by decide +kernel, rfl, by decide +kernel, by decide +kernel⟩
abbrev W_room_take_back (K : PySem.W.Frag) : Wc := fun cs rs Post => ∃ r dx p l cols n, cs = [.raw (.ref r)] ∧ rs = [(r, .ins (CR K) dx (rF p l cols))] ∧ cols.length = n + 1 ∧ n ≤ 1000 ∧ Post = fun c rs' => c = .val .none ∧ rs' = [(r, .ins (CR K) dx (rF p l (cols.take n)))]
theorem w_room_take_back {P : Program} {w : World} {K : PySem.W.Frag} {mg : PySem.Str → Option Value} {base : Heap} (T : Tx K mg)  : C8.CalAt P w K mg base 1 (df_room_take_back.at_ K) (Fn K (W_room_take_back K)) := by
  refine calAt_of (d := df_room_take_back) (N := N_room_take_back) (ps := ["self"]) (n := 0) (T.d 51) rfl rfl sc_room_take_back (fun _ _ _ _ _ _ us hl => match us, hl with | [_], _ => rfl) ?_ rfl fun cdv A outer s H E hr => ?_
  · intro cs rs Post h; obtain ⟨_, _, _, _, _, _, rfl, _⟩ := h; rfl
  have hu := hu_of hr
  have hu0 := hr.units0
  have hu64 := hr.units
  refine ⟨_, (pss_cons (ps_if (pt_cmpR op_eq (pe_callB call_len_seq (by rfl) (T.f (f := .free "len") 51) boot_len (pa_cons (pe_fld (pv 0) rfl) pa_nil)) pe_int (nomark _))
  pss_never pss_nil)
  (pss_cons (ps_fld (pv 0) (pe_slice (r := rSlL K) sl_list (pe_fld (pv 0) rfl) po_none (po_some (pe_un un_neg pe_int))) rfl)
  (pss_one (ps_fld (pv 0) (pe_slice (r := rSlL K) sl_list (pe_fld (pv 0) rfl) po_none (po_some (pe_un un_neg pe_int))) rfl)))), ?_⟩
  rintro cs rs Post ⟨r, dx, p, l, cols, n, rfl, rfl, hl, hn, rfl⟩
  refine sd_seq (sd_if (b := false) (et_is (et_test (ec_op (ec_cb (ea_cons (ec_fld T.cl T.n3 (ec_raw rfl) List.mem_cons_self rfl) ea_nil) rc_lenL) ec_int rv_eqI)) (decide_eq_false (by rw [List.length_map]; omega))) (fun h => Bool.noConfusion h) fun _ => sd_next ?_)
  refine sd_seq (sd_fld T.cl T.n3 (d := eCs (cols.take n)) (ec_is (ec_slL (ec_fld T.cl T.n3 (ec_raw rfl) List.mem_cons_self rfl) eo_none (eo_some (ec_un ec_int ru_neg))) ?_) (ec_raw rfl) (List.Perm.refl _) (by show 4 < 1000; decide) ?_)
  · rw [show (-(1 : Int)) = -1 from rfl, cut_last (n := n) (by rw [List.length_map]; exact hl), ← List.map_take]
  refine sd_fld T.cl T.n4 (d := rB p l (cols.take n)) (ec_is (ec_slL (ec_fld T.cl T.n4 (ec_raw rfl) List.mem_cons_self rfl) eo_none (eo_some (ec_un ec_int ru_neg))) ?_) (ec_raw rfl) (List.Perm.refl _) (by show 4 < 1000; decide) ⟨rfl, rfl⟩
  rw [show (-(1 : Int)) = -1 from rfl, cut_last (n := n + 1) (by rw [List.length_map, List.length_range]; omega), rB_take p l cols (by omega)]
end FT
set_option maxHeartbeats 2000000
namespace FT
open PySem PySem.Spec PyProof.Rows L2 DL FTM
/-! ### equal data -/
theorem canLay_map {α : Type} (enc : α → PyData) (h : ∀ x, PyData.canLay0 (enc x) = true) : ∀ xs : List α, PyData.canLayAll0 (xs.map enc) = true
  | [] => by simp [PyData.canLayAll0]
  | x :: xs => by
    rw [List.map_cons]
    simp only [PyData.canLayAll0, h x, Bool.true_and]
    exact canLay_map enc h xs
theorem depth_map {α : Type} (enc : α → PyData) {n : Nat} (h : ∀ x, PyData.depth (enc x) ≤ n) : ∀ xs : List α, PyData.depthAll (xs.map enc) ≤ n
  | [] => by simp [PyData.depthAll]
  | x :: xs => by
    rw [List.map_cons]
    simp only [PyData.depthAll]
    exact Nat.max_le.mpr ⟨h x, depth_map enc h xs⟩
theorem shaped_eCs (cols : List (List Int)) : SeqAt.shaped (eCs cols) = true := by
  unfold SeqAt.shaped
  have h1 := canLay_map tupI (fun c => by simp only [PyData.canLay0, canLay_iL]) cols
  have h2 := depth_map tupI (n := 1) (fun c => by simp only [PyData.depth, depth_iL]; exact Nat.le_refl _) cols
  have e1 : PyData.canLay0 (eCs cols) = true := by simp only [PyData.canLay0]; exact h1
  have e2 : PyData.depth (eCs cols) ≤ 64 := by
    simp only [PyData.depth]
    exact Nat.le_trans (Nat.add_le_add_right h2 1) (by decide)
  rw [e1, Bool.true_and, decide_eq_true_eq]
  exact e2
theorem eqv_map {α : Type} (enc : α → PyData) (h : ∀ x, PyData.eqv (enc x) (enc x) = true) : ∀ xs : List α, PyData.eqvAll (xs.map enc) (xs.map enc) = true
  | [] => by simp [PyData.eqvAll]
  | x :: xs => by
    rw [List.map_cons]
    simp only [PyData.eqvAll, h x, Bool.true_and]
    exact eqv_map enc h xs
theorem eqv_eCs (cols : List (List Int)) : PyData.eqv (eCs cols) (eCs cols) = true := by
  simp only [PyData.eqv]
  exact eqv_map tupI (fun c => by rw [eqv_tupI]; simp) cols

abbrev N_room_put : List PySem.Str := ["self", "letters", "grown", "base"]
theorem sc_room_put : FnScope N_room_put ["self", "letters"] (defScope df_room_put.st) := ⟨rfl, rfl, rfl, by decide +kernel, rfl, by decide +kernel, by decide +kernel⟩
abbrev W_room_put (K : PySem.W.Frag) : Wc := fun cs rs Post => ∃ r dx p l cols c, cs = [.raw (.ref r), .val (tupI c)] ∧ rs = [(r, .ins (CR K) dx (rF p l cols))] ∧ RoomOk p l cols ∧ cols.length < 60 ∧ c.length = l ∧ (∀ x ∈ c, 0 ≤ x ∧ x < p) ∧ Post = fun c' rs' => c' = .val .none ∧ rs' = [(r, .ins (CR K) dx (rF p l (cols ++ [c])))]
abbrev spPut (K : PySem.W.Frag) : Sp := fun vs H Q E => ∃ v rest, vs = v :: rest ∧ rest.length ≤ 5 ∧ ∀ p, H p = none → Fn K (W_room_put K) [v, .ref p] (upd H p (.tup rest)) Q E
theorem w_room_put {P : Program} {w : World} {K : PySem.W.Frag} {mg : PySem.Str → Option Value} {base : Heap} (T : Tx K mg) (c_is_column : C8.Cal P w K mg base 4 "is_column" (Fn K W_is_column) []) (c_next_base : C8.Cal P w K mg base 7 "next_base" (Fn K W_next_base) []) (c_lifts_of_width : C8.Cal P w K mg base 1 "lifts_of_width" (Fn K W_lifts_of_width) []) : FnR P w K mg base C8.CX0 8 (df_room_put.at_ K) (spPut K) := by
  obtain ⟨fd, F⟩ := T.d 50
  obtain ⟨oc, od, dV, kV, doc, pm, an, cdv, ct, osl, rfl, lk, hcd, hD, hK⟩ := F.ex
  obtain rfl : dV = .none := by
    rcases hD with ⟨_, e⟩ | ⟨e, _⟩
    · exact e
    · exact absurd rfl e
  refine fn_ofV (nmax := 5) (N := N_room_put) (sp := Fn K (W_room_put K)) lk hcd sc_room_put (by decide) (bindV_of (fun _ => rfl) (fun _ _ => rfl) (fun _ _ _ => rfl) (fun _ _ _ _ => rfl) (fun _ _ _ _ _ => rfl) (fun _ _ _ _ _ _ => rfl)) (fun _ _ _ _ _ _ _ _ _ _ _ _ h => h) fun A outer s H vs Q E hr hsp => ?_
  have hu := hu_of hr
  have hu0 := hr.units0
  have hu64 := hr.units
  refine ⟨_, PSs.nox (pss_cons (ps_if (pt_not (pt_val (C8.pe_c c_is_column hr (by decide) rfl (pa_cons (pe_fld (pv 0) rfl) (pa_cons (pe_fld (pv 0) rfl) (pa_cons (pv 1) pa_nil))))))
  pss_never pss_nil)
  (pss_cons (ps_if (pt_cmpR op_ge (pe_callB call_len_seq (by rfl) (T.f (f := .free "len") 51) boot_len (pa_cons (pe_fld (pv 0) rfl) pa_nil)) (C8.pe_gc (by rfl) (most T)) (nomark _))
  pss_never pss_nil)
  (pss_cons (ps_set (i := 2) sc_room_put.nd rfl (Or.inl rfl) (pe_lst (StX.pa_star (pe_fld (pv 0) rfl) (pa_cons (pv 1) pa_nil))))
  (pss_cons (ps_set (i := 3) sc_room_put.nd rfl (Or.inl rfl) (C8.pe_c c_next_base hr (by decide) rfl (pa_cons (pe_fld (pv 0) rfl) (pa_cons (C8.pe_c c_lifts_of_width hr (by decide) rfl (pa_cons (pe_fld (pv 0) rfl) pa_nil)) (pa_cons (pe_ix (r := rIxL K) ix_list (pe_fld (pv 0) rfl) (pe_un un_neg pe_int) (fun _ _ => rfl)) (pa_cons (pv 2) pa_nil))))))
  (pss_cons (ps_fld (pv 0) (pv 2) rfl)
  (pss_one (ps_fld (pv 0) (pe_lst (StX.pa_star (pe_fld (pv 0) rfl) (pa_cons (pv 3) pa_nil))) rfl))))))), ?_⟩
  have hv : vs.length = 2 := fn_len (n := 2) (fun cs rs Post h => by obtain ⟨_, _, _, _, _, _, rfl, _⟩ := h; rfl) _ _ _ _ hsp
  refine fn_body hsp 2 (by rw [hv]; rfl) ?_
  rintro cs rs Post ⟨r, dx, p, l, cols, c, rfl, rfl, R, h60, hcl, hcx, rfl⟩
  have hl3 := R.hl3
  have R2 := R.app h60 hcl hcx
  refine sd_seq (sd_if (b := false) (et_is (et_not (et_B (ec_call (d := .bool true) (xs := [.int p, .int (l : Nat), tupI c]) (ea_cons (ec_fld T.cl T.n1 (ec_raw rfl) List.mem_cons_self rfl) (ea_cons (ec_fld T.cl T.n2 (ec_raw rfl) List.mem_cons_self rfl) (ea_cons (ec_val rfl) ea_nil))) ⟨p, c, by rw [hcl], by omega, hcx, rfl⟩))) rfl) (fun h => Bool.noConfusion h) fun _ => sd_next ?_)
  refine sd_seq (sd_if (b := false) (et_is (et_test (ec_op (ec_cb (ea_cons (ec_fld T.cl T.n3 (ec_raw rfl) List.mem_cons_self rfl) ea_nil) rc_lenL) (ec_c (c := .val (.int 60)) fun _ => Dr.int 60) rv_B0)) (decide_eq_false (by rw [List.length_map]; omega))) (fun h => Bool.noConfusion h) fun _ => sd_next ?_)
  refine sd_seq (sd_asg (c := .val (eCs (cols ++ [c]))) (ec_is (ec_lst (xs := cols.map tupI ++ [tupI c]) (ea_is (ea_starL (xs := cols.map tupI) (ec_fld T.cl T.n3 (ec_raw rfl) List.mem_cons_self rfl) (ea_cons (ec_val rfl) ea_nil)) (by simp)) (by simp; omega)) (by simp)) ?_)
  obtain ⟨G, hs, _⟩ := base_ok R2.hp (l := l) (cols := cols ++ [c]) cols.length (by simp)
  have hn : cols.length < (cols ++ [c]).length := by simp
  have ht : (cols ++ [c]).take (cols.length + 1) = cols ++ [c] := List.take_of_length_le (by simp)
  rw [baseAt_app p l cols c (Nat.le_refl _)] at G hs
  refine sd_seq (sd_asg (ec_call (d := eB (baseAt p l (cols ++ [c]) (cols.length + 1))) (xs := [.int p, tupI (liftsOf l), eB (baseAt p l cols cols.length), eCs (cols ++ [c])]) (ea_cons (ec_fld T.cl T.n1 (ec_raw rfl) List.mem_cons_self rfl) (ea_cons (ec_call (xs := [.int (l : Nat)]) (ea_cons (ec_fld T.cl T.n2 (ec_raw rfl) List.mem_cons_self rfl) ea_nil) ⟨l, rfl, R.hl, by omega, rfl⟩) (ea_cons (ec_op (ec_fld T.cl T.n4 (ec_raw rfl) List.mem_cons_self rfl) (ec_un ec_int ru_neg) (rv_ixL (at_bases p l cols))) (ea_cons (ec_val rfl) ea_nil)))) ⟨p, l, cols ++ [c], cols.length, _, _, by rw [ht], ⟨R2.hp, R2.hl, by omega, G, hs, hn, R2.hc, R2.cok⟩, ?_⟩) ?_)
  · show eB (nextBase p l (baseAt p l (cols ++ [c]) cols.length) _) = _
    rw [baseAt_app p l cols c (Nat.le_refl _)]
  refine sd_seq (sd_fld T.cl T.n3 (d := eCs (cols ++ [c])) (ec_val rfl) (ec_raw rfl) (List.Perm.refl _) (by show 4 < 1000; decide) ?_)
  refine sd_fld T.cl T.n4 (d := rB p l (cols ++ [c])) (ec_is (ec_lst (xs := ((List.range (cols.length + 1)).map fun n => eB (baseAt p l cols n)) ++ [eB (baseAt p l (cols ++ [c]) (cols.length + 1))]) (ea_is (ea_starL (xs := (List.range (cols.length + 1)).map fun n => eB (baseAt p l cols n)) (ec_fld T.cl T.n4 (ec_raw rfl) List.mem_cons_self rfl) (ea_cons (ec_val rfl) ea_nil)) (by simp)) (by simp; omega)) (by rw [rB_app])) (ec_raw rfl) (List.Perm.refl _) (by show 4 < 1000; decide) ⟨rfl, rfl⟩
end FT
set_option maxHeartbeats 2000000
namespace FT
open PySem PySem.Spec PyProof.Rows L2 DL FTM

abbrev W_all_bases0 : Wc := Pu fun xs d => ∃ (p : Int) (l : Nat), xs = [.int p, .int l, .tuple []] ∧ 1 ≤ l ∧ l ≤ 9 ∧ d = rB p l []
theorem w_all_bases0 {P : Program} {w : World} {K : PySem.W.Frag} {mg : PySem.Str → Option Value} {base : Heap} (T : Tx K mg) (c_lifts_of_width : C8.Cal P w K mg base 1 "lifts_of_width" (Fn K W_lifts_of_width) []) (c_unit_row : C8.Cal P w K mg base 1 "unit_row" (Fn K W_unit_row) []) (c_next_base : C8.Cal P w K mg base 7 "next_base" (Fn K W_next_base) []) : C8.Cal P w K mg base 8 "all_bases" (Fn K W_all_bases0) [] := by
  refine cal_of (d := df_all_bases) (N := N_all_bases) (ps := ["prime", "width", "columns"]) (n := 5) (T.d 23) rfl rfl (T.f (f := .glo "all_bases") 23) sc_all_bases (fun _ _ _ _ _ _ us hl => match us, hl with | [_, _, _], _ => rfl) ?_ rfl fun cdv A outer s H E hr => ?_
  · exact pu_len (fun xs d h => by obtain ⟨_, _, rfl, _⟩ := h; rfl)
  have hu := hu_of hr
  have hu0 := hr.units0
  have hu64 := hr.units
  refine ⟨_, (pss_cons (ps_set (i := 3) sc_all_bases.nd rfl (Or.inl rfl) (C8.pe_c c_lifts_of_width hr (by decide) rfl (pa_cons (pv 1) pa_nil)))
  (pss_cons (ps_setLc (i := 4) (own := [("place", 7)]) (tt := tYes) rfl sc_all_bases.nd rfl rfl (sw_true rfl rfl rfl (by decide +kernel)) (pi_range1 (by rfl) (T.f (f := .free "range") 53) (pa_cons (pe_op op_add (pv 1) pe_int) pa_nil)) (blkOk_by (N := N_all_bases) (sc := defScope df_all_bases.st) (by decide +kernel)) (fun _ _ _ _ _ => (pg_name (i := 7) sc_all_bases.nd rfl (Or.inl rfl))) (fun _ _ _ _ _ => pts_nil) (fun _ _ _ _ _ => (C8.pe_c c_unit_row hr (by decide) rfl (pa_cons (pe_op op_add (pv 1) pe_int) (pa_cons (pv 7) pa_nil)))))
  (pss_cons (ps_set (i := 5) sc_all_bases.nd rfl (Or.inl rfl) (pe_lst (pa_cons (pv 4) pa_nil)))
  (pss_cons (ps_for PassesOwn.never rfl (pi_range1 (by rfl) (T.f (f := .free "range") 53) (pa_cons (pe_callB call_len_seq (by rfl) (T.f (f := .free "len") 51) boot_len (pa_cons (pv 2) pa_nil)) pa_nil)) (pg_name (i := 6) sc_all_bases.nd rfl (Or.inl rfl))
  (pss_cons (ps_set (i := 4) sc_all_bases.nd rfl (Or.inl rfl) (C8.pe_c c_next_base hr (by decide) rfl (pa_cons (pv 0) (pa_cons (pv 3) (pa_cons (pv 4) (pa_cons (pe_slice (r := rSlL K) sl_list (pv 2) po_none (po_some (pe_op op_add (pv 6) pe_int))) pa_nil))))))
  (pss_one (ps_expr (pe_bm PySem.F.plainAttrs_list PySem.F.slot_list_append PySem.F.type_list_append mt_append (pv 5) (pa_cons (pv 4) pa_nil))))))
  (pss_one (ps_ret (pv 5))))))), ?_⟩
  rintro cs rs Post ⟨rfl, xs, d, rfl, ⟨p, l, rfl, hl1, hl9, rfl⟩, rfl⟩
  refine sd_seq (sd_asg (ec_call (xs := [.int l]) (ea_cons (ec_val rfl) ea_nil) ⟨l, rfl, hl1, by omega, rfl⟩) ?_)
  refine sd_seq (sd_asg (c := .val (eB (unitBase l))) (ec_is (ec_lc (List.range (l + 1)) (fun i => .int (i : Nat)) (fun i => eR (unitRow (l + 1) i)) (by rw [List.length_range]; omega) (it_is (it_range1 (ea_cons (ec_op (ec_val rfl) ec_int rv_I0) ea_nil) (by omega) (by omega)) ?_) fun i hi => ⟨_, gt_name, ec_call (xs := [.int ((l + 1 : Nat) : Int), .int (i : Nat)]) (ea_cons (ec_is (ec_op (ec_val rfl) ec_int rv_I0) ?_) (ea_cons (ec_val rfl) ea_nil)) ⟨l + 1, i, rfl, by omega, rfl⟩⟩) ?_) ?_)
  · rw [show ((l : Int) + 1).toNat = l + 1 by omega, range0]
  · exact congrArg (fun z => Sc.val (PyData.int z)) (by push_cast; rfl)
  · unfold unitBase eB
    rw [List.map_map]; rfl
  refine sd_seq (sd_asgM (em_lstF (eam_cons (em_of (ec_val rfl) (eam_nil ⟨[eB (unitBase l)], rfl, by show 1 ≤ 100000; decide, fun D => ?_⟩)))))
  refine sd_seq (sd_for (xs := []) (it_is (it_range1 (n := 0) (ea_cons (ec_cb (ea_cons (ec_val rfl) ea_nil) rc_lenT) ea_nil) (by decide) (by decide)) rfl)
    (fun i ds rs => rs = [(D, .lst [eB (unitBase l)])] ∧ ∃ u1 u2 u3, ds = [.val (.int p), .val (.int l), .val (.tuple []), .val (tupI (liftsOf l)), u1, .raw (.ref D), u2, u3]) ⟨rfl, _, _, _, rfl⟩ ?_ ?_)
  · intro i d ds' rs' h
    simp at h
  · rintro ds' rs' ⟨rfl, u1, u2, u3, rfl⟩
    refine sd_freeze (i := 5) rfl (List.Perm.refl _) ?_
    exact sd_ret (ec_val rfl) ⟨rfl, rfl⟩
abbrev N_room_eq : List PySem.Str := ["self", "other", "alike"]
theorem sc_room_eq : FnScope N_room_eq ["self", "other"] (defScope df_room_eq.st) := ⟨rfl, rfl, rfl, by decide +kernel, rfl, by decide +kernel, by decide +kernel⟩
def REq (K : PySem.W.Frag) (a b : Addr) (H : Hp) : Prop := ∃ Hb dx dy p l cols, Same Hb H ∧ ResR K Hb H [(a, .ins (CR K) dx (rF p l cols)), (b, .ins (CR K) dy (rF p l cols))]
theorem w_room_eq {P : Program} {w : World} {K : PySem.W.Frag} {mg : PySem.Str → Option Value} {base : Heap} (T : Tx K mg) (Q : Tr K) : ∃ fd, FnOk P w K mg base C8.CX0 1 (df_room_eq.at_ K) fd ["self", "other"] (spEq (REq K)) ∧ Binds K fd ["self", "other"] [] := by
  obtain ⟨fd, F⟩ := T.d 54
  refine ⟨fd, F.ok sc_room_eq (fun vs H Q E h => by obtain ⟨_, _, rfl, _⟩ := h; rfl) fun cdv A outer s H vs QQ E hr hsp => ?_, F.bindsN fun _ _ _ _ _ _ us hl => match us, hl with | [_, _], _ => rfl⟩
  have hu := hu_of hr
  have hu0 := hr.units0
  have hu64 := hr.units
  refine ⟨_, PSs.nox (pss_cons (ps_if (pt_not (pt_val (pe_callB (C8.call_isC Q.ins) (by rfl) (T.f (f := .free "isinstance") 49) boot_isinstance (pa_cons (pv 1) (pa_cons (pe_glob (v := .ref (CR K)) (by rfl) (T.f (f := .glo "LetterRoom") 47) rfl) pa_nil)))))
  (pss_one (ps_ret pe_bl)) pss_nil)
  (pss_cons (ps_set (i := 2) sc_room_eq.nd rfl (Or.inl rfl) (pe_and (pe_cmpR op_eq (pe_fld (pv 0) rfl) (pe_fld (pv 1) rfl) (nomark _)) (pe_one (pe_cmpR op_eq (pe_fld (pv 0) rfl) (pe_fld (pv 1) rfl) (nomark _)))))
  (pss_one (ps_ret (pe_and (pv 2) (pe_one (pe_cmpR (op_eqD hu64) (pe_fld (pv 0) rfl) (pe_fld (pv 1) rfl) (nomark _)))))))), ?_⟩
  obtain ⟨a, b, rfl, ⟨Hb, dx, dy, p, l, cols, hs, rr⟩, hq⟩ := hsp
  have S : Stt K Hb H (L2.start N_room_eq [.ref a, .ref b]) ([.raw (.ref a), .raw (.ref b)] ++ List.replicate 1 .un) [(a, .ins (CR K) dx (rF p l cols)), (b, .ins (CR K) dy (rF p l cols))] := stt_start hs (sc_ref (sc_ref .nil)) rr 1 rfl
  unfold tSeq tIfS
  refine (et_not (et_B (ec_isiC (ec_raw (i := 1) (w := .ref b) rfl) (List.mem_cons_of_mem _ List.mem_cons_self))) : EtD K _ _ _ _) Hb H _ S _ fun Hb1 H1 g1 => ?_
  rw [if_neg (by decide)]
  unfold tNext tAsg
  have S1 := S.up g1
  have mb : (b, Rs.ins (CR K) dy (rF p l cols)) ∈ [(a, Rs.ins (CR K) dx (rF p l cols)), (b, .ins (CR K) dy (rF p l cols))] := List.mem_cons_of_mem _ List.mem_cons_self
  refine (ec_andV (ec_op (ec_fld T.cl T.n1 (ec_raw (i := 0) (w := .ref a) rfl) List.mem_cons_self rfl) (ec_fld T.cl T.n1 (ec_raw (i := 1) (w := .ref b) rfl) mb rfl) rv_eqI) (fun _ => ec_op (ec_fld T.cl T.n2 (ec_raw (i := 0) (w := .ref a) rfl) List.mem_cons_self rfl) (ec_fld T.cl T.n2 (ec_raw (i := 1) (w := .ref b) rfl) mb rfl) rv_eqI) : EvC K _ _ _ _) Hb1 H1 _ S1 _ fun v Hb2 H2 g2 r2 => ?_
  have S2 := ((S1.up g2).set 2 r2)
  unfold gName tRet
  refine (ec_andV (ec_val rfl) (fun _ => ec_op (ec_fld T.cl T.n3 (ec_raw (i := 0) (w := .ref a) rfl) List.mem_cons_self rfl) (ec_fld T.cl T.n3 (ec_raw (i := 1) (w := .ref b) rfl) mb rfl) (rv_eqD (shaped_eCs cols) (shaped_eCs cols))) : EvC K _ _ _ _) Hb2 H2 _ S2 _ fun v Hb3 H3 g3 r3 => ?_
  have e : (decide (p = p) && decide ((l : Int) = (l : Int)) && PyData.eqv (eCs cols) (eCs cols)) = true := by rw [eqv_eCs]; simp
  cases r3
  show QQ (.bl (decide (p = p) && decide ((l : Int) = (l : Int)) && PyData.eqv (eCs cols) (eCs cols))) H3
  rw [e]
  exact hq H3 ((g1.trans g2).trans g3).ext
abbrev N_room_init : List PySem.Str := ["self", "prime", "width", "columns", "widest", "at", "column"]
theorem sc_room_init : FnScope N_room_init ["self", "prime", "width", "columns", "widest"] (defScope df_room_init.st) := ⟨rfl, rfl, rfl, by decide +kernel, rfl, by decide +kernel, by decide +kernel⟩
abbrev W_room_init (K : PySem.W.Frag) : Wc := fun cs rs Post => ∃ x dx p l cols cd, cs = [.raw (.ref x), .val (.int p), .val (.int (l : Nat)), .val cd, .val (.int 3)] ∧ rs = [(x, .ins (CR K) dx [])] ∧ RoomOk p l cols ∧ (cd = eCs cols) ∧ Post = fun c rs' => c = .val .none ∧ rs' = [(x, .ins (CR K) dx (rF p l cols))]
theorem w_room_init {P : Program} {w : World} {K : PySem.W.Frag} {mg : PySem.Str → Option Value} {base : Heap} (T : Tx K mg) (c_is_prime : C8.Cal P w K mg base 3 "is_prime" (Fn K W_is_prime) []) (c_is_number : C8.Cal P w K mg base 2 "is_number" (Fn K W_is_number) []) (c_is_column : C8.Cal P w K mg base 4 "is_column" (Fn K W_is_column) []) (c_all_bases : C8.Cal P w K mg base 8 "all_bases" (Fn K W_all_bases) []) : ∃ fd, FunD K "__init__" "LetterRoom.__init__" (defArgs sr_init) (defBody sr_init) (defScope sr_init) [.ref (initDefault K)] [("widest", .int 3)] (df_room_init.at_ K) fd ∧ FnOk P w K mg base C8.CX0 9 (df_room_init.at_ K) fd ["self", "prime", "width", "columns", "widest"] (Fn K (W_room_init K)) := by
  obtain ⟨fd, F⟩ := T.d 47
  refine ⟨fd, F, F.ok sc_room_init (fn_len (fun cs rs Post h => by obtain ⟨_, _, _, _, _, _, rfl, _⟩ := h; rfl)) fun cdv A outer s H vs QQ E hr hsp => ?_⟩
  have hu := hu_of hr
  have hu0 := hr.units0
  have hu64 := hr.units
  refine ⟨_, PSs.nox (pss_cons (ps_if (pt_not (pt_val (C8.pe_c c_is_prime hr (by decide) rfl (pa_cons (pv 1) pa_nil))))
  pss_never pss_nil)
  (pss_cons (ps_if (pt_not (pt_val (C8.pe_c c_is_number hr (by decide) rfl (pa_cons (pv 2) (pa_cons pe_int (pa_cons (pv 4) pa_nil))))))
  pss_never pss_nil)
  (pss_cons (ps_if (pt_not (pt_val (pe_callB call_isiT (by rfl) (T.f (f := .free "isinstance") 49) boot_isinstance (pa_cons (pv 3) (pa_cons (pe_tup (pa_cons (pe_bltn (v := .ty "list") (by rfl) (T.f (f := .free "list") 58) boot_list rfl) (pa_cons (pe_bltn (v := .ty "tuple") (by rfl) (T.f (f := .free "tuple") 52) boot_tuple rfl) pa_nil))) pa_nil)))))
  pss_never pss_nil)
  (pss_cons (ps_for PassesOwn.never rfl (pi_enum (by rfl) (T.f (f := .free "enumerate") 55) (pa_cons (pv 3) pa_nil)) (pg_tup rfl (pgs_cons (pg_name (i := 5) sc_room_init.nd rfl (Or.inl rfl)) (pgs_cons (pg_name (i := 6) sc_room_init.nd rfl (Or.inl rfl)) pgs_nil)))
  (pss_one (ps_if (pt_not (pt_val (C8.pe_c c_is_column hr (by decide) rfl (pa_cons (pv 1) (pa_cons (pv 2) (pa_cons (pv 6) pa_nil))))))
  pss_never pss_nil)))
  (pss_cons (ps_if (pt_cmpR op_gt (pe_callB call_len_seq (by rfl) (T.f (f := .free "len") 51) boot_len (pa_cons (pv 3) pa_nil)) (C8.pe_gc (by rfl) (most T)) (nomark _))
  pss_never pss_nil)
  (pss_cons (ps_fld (pv 0) (pv 1) rfl)
  (pss_cons (ps_fld (pv 0) (pv 2) rfl)
  (pss_cons (ps_fld (pv 0) (pe_callTy call_list_of (by rfl) (T.f (f := .free "list") 58) boot_list (pa_cons (pv 3) pa_nil)) rfl)
  (pss_one (ps_fld (pv 0) (C8.pe_c c_all_bases hr (by decide) rfl (pa_cons (pv 1) (pa_cons (pv 2) (pa_cons (pv 3) pa_nil)))) rfl)))))))))), ?_⟩
  have hv : vs.length = 5 := fn_len (n := 5) (fun cs rs Post h => by obtain ⟨_, _, _, _, _, _, rfl, _⟩ := h; rfl) _ _ _ _ hsp
  refine fn_body hsp 2 (by rw [hv]; rfl) ?_
  rintro cs rs Post ⟨x, dx, p, l, cols, cd, rfl, rfl, R, rfl, rfl⟩
  have hl3 := R.hl3
  have hl1 := R.hl
  refine sd_seq (sd_if (b := false) (et_is (et_not (et_B (ec_call (d := .bool true) (xs := [.int p]) (ea_cons (ec_val rfl) ea_nil) ⟨p, rfl, R.hp, rfl⟩))) rfl) (fun h => Bool.noConfusion h) fun _ => sd_next ?_)
  refine sd_seq (sd_if (b := false) (et_is (et_not (et_B (ec_call (d := .bool (numD (.int (l : Nat)) 1 3)) (xs := [.int (l : Nat), .int 1, .int 3]) (ea_cons (ec_val rfl) (ea_cons ec_int (ea_cons (ec_val rfl) ea_nil))) ⟨_, _, _, rfl, rfl⟩))) (by rw [numD_int (by omega) (by omega)]; rfl)) (fun h => Bool.noConfusion h) fun _ => sd_next ?_)
  refine sd_seq (sd_if (b := false) (et_is (et_not (et_B (ec_isiT2 (ec_val rfl) rfl rfl))) (by simp [isT, tyD])) (fun h => Bool.noConfusion h) fun _ => sd_next ?_)
  refine sd_seq (sd_forA (List.range cols.length) (fun i => pairD (.int (i : Nat)) (tupI (cols.getD i []))) (it_is (it_enumL (ea_cons (ec_val rfl) ea_nil)) (enumD_map tupI cols []))
    (fun i ds rs => rs = [(x, .ins (CR K) dx [])] ∧ ∃ u1 u2, ds = [.raw (.ref x), .val (.int p), .val (.int (l : Nat)), .val (eCs cols), .val (.int 3), u1, u2]) ⟨rfl, _, _, rfl⟩ ?_ ?_)
  · rintro i a ds' rs' ha ⟨rfl, u1, u2, rfl⟩
    obtain ⟨hi, rfl⟩ := range_at ha
    have hc := R.cok _ (FTM.getD_mem (d := []) hi)
    refine ⟨_, gs_tup2 gs_name gs_name, ?_⟩
    refine sd_if (b := false) (et_is (et_not (et_B (ec_call (d := .bool true) (xs := [.int p, .int (l : Nat), tupI (cols.getD i [])]) (ea_cons (ec_val rfl) (ea_cons (ec_val rfl) (ea_cons (ec_val rfl) ea_nil))) ⟨p, _, by rw [hc.1], by rw [hc.1]; omega, hc.2, rfl⟩))) rfl) (fun h => Bool.noConfusion h) fun _ => sd_next ⟨rfl, _, _, rfl⟩
  rintro ds' rs' ⟨rfl, u1, u2, rfl⟩
  refine sd_seq (sd_if (b := false) (et_is (et_test (ec_op (ec_cb (ea_cons (ec_val rfl) ea_nil) rc_lenL) (ec_c (c := .val (.int 60)) fun _ => Dr.int 60) rv_B0)) (decide_eq_false (by rw [List.length_map]; have := R.hc; omega))) (fun h => Bool.noConfusion h) fun _ => sd_next ?_)
  refine sd_seq (sd_fld T.cl T.n1 (ec_val rfl) (ec_raw rfl) (List.Perm.refl _) (by show 0 < 1000; decide) ?_)
  refine sd_seq (sd_fld T.cl T.n2 (ec_val rfl) (ec_raw rfl) (List.Perm.refl _) (by show 1 < 1000; decide) ?_)
  refine sd_seq (sd_fld T.cl T.n3 (ec_cb (ea_cons (ec_val rfl) ea_nil) rc_listL) (ec_raw rfl) (List.Perm.refl _) (by show 2 < 1000; decide) ?_)
  exact sd_fld T.cl T.n4 (ec_call (d := rB p l cols) (xs := [.int p, .int (l : Nat), eCs cols]) (ea_cons (ec_val rfl) (ea_cons (ec_val rfl) (ea_cons (ec_val rfl) ea_nil))) ⟨p, l, cols, rfl, R.hp, R.hl, by omega, R.hc, R.cok, rfl⟩) (ec_raw rfl) (List.Perm.refl _) (by show 3 < 1000; decide) ⟨rfl, rfl⟩
abbrev W_room_init0 (K : PySem.W.Frag) : Wc := fun cs rs Post => ∃ x dx p l cols cd, cs = [.raw (.ref x), .val (.int p), .val (.int (l : Nat)), .val cd, .val (.int 3)] ∧ rs = [(x, .ins (CR K) dx [])] ∧ RoomOk p l cols ∧ (cd = .tuple [] ∧ cols = []) ∧ Post = fun c rs' => c = .val .none ∧ rs' = [(x, .ins (CR K) dx (rF p l cols))]
theorem w_room_init0 {P : Program} {w : World} {K : PySem.W.Frag} {mg : PySem.Str → Option Value} {base : Heap} (T : Tx K mg) (c_is_prime : C8.Cal P w K mg base 3 "is_prime" (Fn K W_is_prime) []) (c_is_number : C8.Cal P w K mg base 2 "is_number" (Fn K W_is_number) []) (c_is_column : C8.Cal P w K mg base 4 "is_column" (Fn K W_is_column) []) (c_all_bases : C8.Cal P w K mg base 8 "all_bases" (Fn K W_all_bases0) []) : ∃ fd, FunD K "__init__" "LetterRoom.__init__" (defArgs sr_init) (defBody sr_init) (defScope sr_init) [.ref (initDefault K)] [("widest", .int 3)] (df_room_init.at_ K) fd ∧ FnOk P w K mg base C8.CX0 9 (df_room_init.at_ K) fd ["self", "prime", "width", "columns", "widest"] (Fn K (W_room_init0 K)) := by
  obtain ⟨fd, F⟩ := T.d 47
  refine ⟨fd, F, F.ok sc_room_init (fn_len (fun cs rs Post h => by obtain ⟨_, _, _, _, _, _, rfl, _⟩ := h; rfl)) fun cdv A outer s H vs QQ E hr hsp => ?_⟩
  have hu := hu_of hr
  have hu0 := hr.units0
  have hu64 := hr.units
  refine ⟨_, PSs.nox (pss_cons (ps_if (pt_not (pt_val (C8.pe_c c_is_prime hr (by decide) rfl (pa_cons (pv 1) pa_nil))))
  pss_never pss_nil)
  (pss_cons (ps_if (pt_not (pt_val (C8.pe_c c_is_number hr (by decide) rfl (pa_cons (pv 2) (pa_cons pe_int (pa_cons (pv 4) pa_nil))))))
  pss_never pss_nil)
  (pss_cons (ps_if (pt_not (pt_val (pe_callB call_isiT (by rfl) (T.f (f := .free "isinstance") 49) boot_isinstance (pa_cons (pv 3) (pa_cons (pe_tup (pa_cons (pe_bltn (v := .ty "list") (by rfl) (T.f (f := .free "list") 58) boot_list rfl) (pa_cons (pe_bltn (v := .ty "tuple") (by rfl) (T.f (f := .free "tuple") 52) boot_tuple rfl) pa_nil))) pa_nil)))))
  pss_never pss_nil)
  (pss_cons (ps_for PassesOwn.never rfl (DLX.pi_enumT (by rfl) (T.f (f := .free "enumerate") 55) (pa_cons (pv 3) pa_nil)) (pg_tup rfl (pgs_cons (pg_name (i := 5) sc_room_init.nd rfl (Or.inl rfl)) (pgs_cons (pg_name (i := 6) sc_room_init.nd rfl (Or.inl rfl)) pgs_nil)))
  (pss_one (ps_if (pt_not (pt_val (C8.pe_c c_is_column hr (by decide) rfl (pa_cons (pv 1) (pa_cons (pv 2) (pa_cons (pv 6) pa_nil))))))
  pss_never pss_nil)))
  (pss_cons (ps_if (pt_cmpR op_gt (pe_callB call_len_seq (by rfl) (T.f (f := .free "len") 51) boot_len (pa_cons (pv 3) pa_nil)) (C8.pe_gc (by rfl) (most T)) (nomark _))
  pss_never pss_nil)
  (pss_cons (ps_fld (pv 0) (pv 1) rfl)
  (pss_cons (ps_fld (pv 0) (pv 2) rfl)
  (pss_cons (ps_fld (pv 0) (pe_callTy call_list_of (by rfl) (T.f (f := .free "list") 58) boot_list (pa_cons (pv 3) pa_nil)) rfl)
  (pss_one (ps_fld (pv 0) (C8.pe_c c_all_bases hr (by decide) rfl (pa_cons (pv 1) (pa_cons (pv 2) (pa_cons (pv 3) pa_nil)))) rfl)))))))))), ?_⟩
  have hv : vs.length = 5 := fn_len (n := 5) (fun cs rs Post h => by obtain ⟨_, _, _, _, _, _, rfl, _⟩ := h; rfl) _ _ _ _ hsp
  refine fn_body hsp 2 (by rw [hv]; rfl) ?_
  rintro cs rs Post ⟨x, dx, p, l, cols, cd, rfl, rfl, R, ⟨rfl, rfl⟩, rfl⟩
  have hl3 := R.hl3
  have hl1 := R.hl
  refine sd_seq (sd_if (b := false) (et_is (et_not (et_B (ec_call (d := .bool true) (xs := [.int p]) (ea_cons (ec_val rfl) ea_nil) ⟨p, rfl, R.hp, rfl⟩))) rfl) (fun h => Bool.noConfusion h) fun _ => sd_next ?_)
  refine sd_seq (sd_if (b := false) (et_is (et_not (et_B (ec_call (d := .bool (numD (.int (l : Nat)) 1 3)) (xs := [.int (l : Nat), .int 1, .int 3]) (ea_cons (ec_val rfl) (ea_cons ec_int (ea_cons (ec_val rfl) ea_nil))) ⟨_, _, _, rfl, rfl⟩))) (by rw [numD_int (by omega) (by omega)]; rfl)) (fun h => Bool.noConfusion h) fun _ => sd_next ?_)
  refine sd_seq (sd_if (b := false) (et_is (et_not (et_B (ec_isiT2 (ec_val rfl) rfl rfl))) (by simp [isT, tyD])) (fun h => Bool.noConfusion h) fun _ => sd_next ?_)
  refine sd_seq (sd_for (xs := []) (it_is (it_enumT (xs := []) (ea_cons (ec_val rfl) ea_nil)) rfl)
    (fun i ds rs => rs = [(x, .ins (CR K) dx [])] ∧ ∃ u1 u2, ds = [.raw (.ref x), .val (.int p), .val (.int (l : Nat)), .val (.tuple []), .val (.int 3), u1, u2]) ⟨rfl, _, _, rfl⟩ (fun i d ds' rs' h => by simp at h) ?_)
  rintro ds' rs' ⟨rfl, u1, u2, rfl⟩
  refine sd_seq (sd_if (b := false) (et_is (et_test (ec_op (ec_cb (ea_cons (ec_val rfl) ea_nil) rc_lenT) (ec_c (c := .val (.int 60)) fun _ => Dr.int 60) rv_B0)) rfl) (fun h => Bool.noConfusion h) fun _ => sd_next ?_)
  refine sd_seq (sd_fld T.cl T.n1 (ec_val rfl) (ec_raw rfl) (List.Perm.refl _) (by show 0 < 1000; decide) ?_)
  refine sd_seq (sd_fld T.cl T.n2 (ec_val rfl) (ec_raw rfl) (List.Perm.refl _) (by show 1 < 1000; decide) ?_)
  refine sd_seq (sd_fld T.cl T.n3 (ec_cb (ea_cons (ec_val rfl) ea_nil) rc_listT) (ec_raw rfl) (List.Perm.refl _) (by show 2 < 1000; decide) ?_)
  exact sd_fld T.cl T.n4 (ec_call (d := rB p l []) (xs := [.int p, .int (l : Nat), .tuple []]) (ea_cons (ec_val rfl) (ea_cons (ec_val rfl) (ea_cons (ec_val rfl) ea_nil))) ⟨p, l, rfl, R.hl, by omega, rfl⟩) (ec_raw rfl) (List.Perm.refl _) (by show 3 < 1000; decide) ⟨rfl, rfl⟩
end FT
set_option maxHeartbeats 2000000
/-! The generator walk of a room. -/
namespace FT
open PySem PySem.Spec PyProof.Rows L2 DL FTM GN
def bW : GB := match defBody sr_walk with
  | [.Assign [.Name xl pl] e1 ps, .For (.Name xb pb) e2 [.Expr (.Yield (some e3) yp) ep] [] fp] => ⟨"LetterRoom.walk", defScope sr_walk, xl, xb, pl, pb, ps, fp, yp, ep, e1, e2, e3⟩
  | _ => ⟨"", defScope sr_walk, "", "", ⟨0, 0, 0, 0⟩, ⟨0, 0, 0, 0⟩, ⟨0, 0, 0, 0⟩, ⟨0, 0, 0, 0⟩, ⟨0, 0, 0, 0⟩, ⟨0, 0, 0, 0⟩, .Name "" ⟨0, 0, 0, 0⟩, .Name "" ⟨0, 0, 0, 0⟩, .Name "" ⟨0, 0, 0, 0⟩⟩
theorem bW_body : defBody sr_walk = bW.body := by rfl
theorem bW_nd : bW.N.Nodup := by decide +kernel
abbrev pairW (p : Int) (l : Nat) (cols : List (List Int)) (n : Nat) : PyData := .tuple [.int (leastOf l (baseAt p l cols n)), tupI (heightsOf l (baseAt p l cols n))]
abbrev walkD (p : Int) (l : Nat) (cols : List (List Int)) : List PyData := (List.range (cols.length + 1)).map (pairW p l cols)
def SpW : SpG2 := fun fs lifts bases out => ∃ p l cols, RoomOk p l cols ∧ fs = rF p l cols ∧ lifts = tupI (liftsOf l) ∧ bases = ((List.range (cols.length + 1)).map fun n => eB (baseAt p l cols n)) ∧ out = walkD p l cols
theorem gok_walk {P : Program} {w : World} {K : PySem.W.Frag} {mg : PySem.Str → Option Value} {base : Heap} (T : Tx K mg) (c_lifts_of_width : C8.Cal P w K mg base 1 "lifts_of_width" (Fn K W_lifts_of_width) []) (c_least_of_base : C8.Cal P w K mg base 3 "least_of_base" (Fn K W_least_of_base) []) (c_heights_of_base : C8.Cal P w K mg base 3 "heights_of_base" (Fn K W_heights_of_base) []) :
    GOk P w K mg base 3 bW (df_room_walk.at_ K) (CR K) SpW where
  sc := ⟨rfl, rfl, rfl, by decide +kernel⟩
  nd := bW_nd
  self := rfl
  xl := rfl
  xb := rfl
  hs := fun _ _ => rfl
  run := fun X s H L cd hP hw hK hmg hba hr => by
    subst hP hw hK hmg hba
    refine ⟨_, _, _, ps_set (i := 1) bW_nd rfl (.inl rfl) (C8.pe_c c_lifts_of_width hr (by decide) rfl (pa_cons (pe_fld (pv 0) rfl) pa_nil)), (pe_callTy call_list_of (by rfl) (T.f (f := .free "list") 58) boot_list (pa_cons (pe_fld (pv 0) rfl) pa_nil)),
      (pe_tup (pa_cons (C8.pe_c c_least_of_base hr (by decide) rfl (pa_cons (pv 1) (pa_cons (pv 2) pa_nil))) (pa_cons (C8.pe_c c_heights_of_base hr (by decide) rfl (pa_cons (pv 1) (pa_cons (pv 2) pa_nil))) pa_nil))), ?_⟩
    rintro r dx fs lifts bases out ⟨p, l, cols, R, rfl, rfl, rfl, rfl⟩
    have hl3 := R.hl3
    refine ⟨ec_call (xs := [.int (l : Nat)]) (ea_cons (ec_fld T.cl T.n2 (ec_raw rfl) List.mem_cons_self rfl) ea_nil) ⟨l, rfl, R.hl, by omega, rfl⟩, ec_cb (ea_cons (ec_fld T.cl T.n4 (ec_raw rfl) List.mem_cons_self rfl) ea_nil) rc_listL, ?_⟩
    intro i b d hb hd
    obtain ⟨hi, rfl⟩ := range_get hb
    obtain ⟨_, rfl⟩ := range_get hd
    have B := base_okB R (n := i) (by omega)
    exact ec_tup (xs := [.int (leastOf l (baseAt p l cols i)), tupI (heightsOf l (baseAt p l cols i))]) (ea_cons (ec_call (xs := [tupI (liftsOf l), eB (baseAt p l cols i)]) (ea_cons (ec_val rfl) (ea_cons (ec_val rfl) ea_nil)) ⟨p, l, _, rfl, B, const_neB R (by omega), rfl⟩) (ea_cons (ec_call (xs := [tupI (liftsOf l), eB (baseAt p l cols i)]) (ea_cons (ec_val rfl) (ea_cons (ec_val rfl) ea_nil)) ⟨p, l, _, rfl, B, rfl⟩) ea_nil)) (by show 2 ≤ 100000; decide)
theorem fund_walk {K : PySem.W.Frag} {mg : PySem.Str → Option Value} (T : Tx K mg) : ∃ fd, FunD K "walk" bW.qual (defArgs sr_walk) bW.body bW.scope [] [] (df_room_walk.at_ K) fd := by
  obtain ⟨fd, F⟩ := T.d 53
  refine ⟨fd, ?_⟩
  have e : FunD K "walk" "LetterRoom.walk" (defArgs sr_walk) (defBody sr_walk) (defScope sr_walk) [] [] (df_room_walk.at_ K) fd := F
  rw [bW_body] at e
  exact e
theorem bind_walk (kV doc pm : Value) (an : Option Addr) (cdv ct u : Value) : bindArgs (PySem.W.fnOf "walk" bW.qual (defArgs sr_walk) bW.body bW.scope .none kV doc pm an cdv ct) ⟨[u], []⟩ = pure [(("self" : Str), u)] := by rfl
end FT
set_option maxHeartbeats 2000000
namespace FT
open PySem PySem.Spec PyProof.Rows L2 DL FTM
theorem sd_asgT {K : PySem.W.Frag} {te : TE} {g : TG} {ds : Scs} {rs : Rss} {P : DL.Pst} (h : EvM K te ds rs fun c rs' => ∃ ds2, GtS K g c ds ds2 ∧ P.nx ds2 rs') : SdC K (tAsg te g) ds rs P := fun M Hb0 H0 Hb σ H D A m =>
  h M Hb0 H0 Hb σ H _ A fun v Hb' H' c rs' A' r ⟨ds2, hg, p⟩ => hg rs' Hb' H' σ v A'.st r _ fun σ' S' => m.nx σ' H' Hb' ds2 rs' ⟨A'.gr, S', A'.own⟩ p
/-- a base row of low height alone: one letter row -/
structure Low1 (p : Int) (cols : List (List Int)) (o : Nat) (A : FTM.Row) : Prop where
  R : RoomOk p 1 cols
  least : leastOf 1 (baseAt p 1 cols cols.length) = o
  flt : (baseAt p 1 cols cols.length).filter (fun row => decide (rowH 1 row ≤ o)) = [A]
  hc : hasConst A = true
  hh : rowH 1 A = o
  len : (A.getD 0 []).length ≤ o + 1
  red : ∀ x ∈ A.getD 0 [], 0 ≤ x ∧ x < p
  pos : 0 < (A.getD 0 []).getD 0 0
  lt : (A.getD 0 []).getD 0 0 < p
  on : o ≤ cols.length
theorem Low1.ne {p : Int} {cols : List (List Int)} {o : Nat} {A : FTM.Row} (L : Low1 p cols o A) : A.length = 2 := by
  have h : A ∈ (baseAt p 1 cols cols.length).filter (fun row => decide (rowH 1 row ≤ o)) := by rw [L.flt]; exact List.mem_singleton.mpr rfl
  exact ((base_okB L.R (Nat.le_refl _)).row A (List.mem_filter.mp h).1).1
theorem padF_len {f : Form} {o : Nat} (h : f.length ≤ o + 1) : (padF f o).length = o + 1 := by
  unfold padF
  rw [List.length_append, List.length_replicate]; omega
theorem ruleOf_len {p : Int} {row : FTM.Row} {o : Nat} (h : (row.getD 0 []).length ≤ o + 1) : (ruleOf p row o).length = o + 1 := by
  unfold ruleOf
  rw [List.length_map, padF_len h]
theorem ruleOf_bd {p : Int} (hp : 0 < p) {row : FTM.Row} {o : Nat} : ∀ x ∈ ruleOf p row o, 0 ≤ x ∧ x < p := fun x hx => by
  unfold ruleOf at hx
  obtain ⟨y, _, rfl⟩ := List.mem_map.mp hx
  exact ⟨Int.emod_nonneg _ (by omega), Int.emod_lt_of_pos _ hp⟩

abbrev N_padded : List PySem.Str := ["form", "shift", "order"]
theorem sc_padded : FnScope N_padded ["form", "shift", "order"] (defScope df_padded.st) := ⟨rfl, rfl, rfl, by decide +kernel, rfl, by decide +kernel, by decide +kernel⟩
abbrev W_padded : Wc := Pu fun xs d => ∃ (f : Form) (o : Nat), xs = [tupI f, .int 0, .int (o : Nat)] ∧ f.length ≤ o + 1 ∧ o ≤ 900 ∧ d = lstI (padF f o)
theorem w_padded {P : Program} {w : World} {K : PySem.W.Frag} {mg : PySem.Str → Option Value} {base : Heap} (T : Tx K mg)  : C8.Cal P w K mg base 1 "padded" (Fn K W_padded) [] := by
  refine cal_of (d := df_padded) (N := N_padded) (ps := ["form", "shift", "order"]) (n := 0) (T.d 25) rfl rfl (T.f (f := .glo "padded") 25) sc_padded (fun _ _ _ _ _ _ us hl => match us, hl with | [_, _, _], _ => rfl) ?_ rfl fun cdv A outer s H E hr => ?_
  · exact pu_len (fun xs d h => by obtain ⟨_, _, rfl, _⟩ := h; rfl)
  have hu := hu_of hr
  have hu0 := hr.units0
  have hu64 := hr.units
  refine ⟨_, (pss_one (ps_ret (pe_op op_cat (pe_op op_cat (pe_op op_rep (pe_lst (pa_cons pe_int pa_nil)) (pv 1)) (pe_callTy call_list_of (by rfl) (T.f (f := .free "list") 58) boot_list (pa_cons (pv 0) pa_nil))) (pe_op op_rep (pe_lst (pa_cons pe_int pa_nil)) (pe_op op_sub (pe_op op_sub (pe_op op_add (pv 2) pe_int) (pv 1)) (pe_callB call_len_seq (by rfl) (T.f (f := .free "len") 51) boot_len (pa_cons (pv 0) pa_nil))))))), ?_⟩
  rintro cs rs Post ⟨rfl, xs, d, rfl, ⟨f, o, rfl, hf, ho, rfl⟩, rfl⟩
  have r1 : RvC K rRep (.val (.list [.int 0])) (.val (.int 0)) (.val (.list [])) := rv_repL (xs := [.int 0]) (n := 0) (by decide) (by decide) (by decide)
  have r2 : RvC K rRep (.val (.list [.int 0])) (.val (.int ((o : Int) + 1 - 0 - (f.length : Int)))) (.val (.list (List.replicate ((o : Int) + 1 - 0 - (f.length : Int)).toNat [PyData.int 0]).flatten)) := rv_repL (xs := [.int 0]) (by omega) (by omega) (by decide)
  have c1 : RvC K rCat (.val (.list [])) (.val (lstI f)) (.val (.list ([] ++ iL f))) := rv_catL (by simp; omega)
  have c2 : RvC K rCat (.val (.list ([] ++ iL f))) (.val (.list (List.replicate ((o : Int) + 1 - 0 - (f.length : Int)).toNat [PyData.int 0]).flatten)) (.val (.list (([] ++ iL f) ++ (List.replicate ((o : Int) + 1 - 0 - (f.length : Int)).toNat [PyData.int 0]).flatten))) := rv_catL (by simp; omega)
  refine sd_ret (ec_is (ec_op (ec_op (ec_op (ec_lst (xs := [.int 0]) (ea_cons ec_int ea_nil) (by decide)) (ec_val rfl) r1) (ec_cb (ea_cons (ec_val rfl) ea_nil) rc_listT) c1) (ec_op (ec_lst (xs := [.int 0]) (ea_cons ec_int ea_nil) (by decide)) (ec_op (ec_op (ec_op (ec_val rfl) ec_int rv_I0) (ec_val rfl) rv_I0) (ec_is (ec_cb (ea_cons (ec_val rfl) ea_nil) rc_lenT) (by rw [len_iL])) rv_I0) r2) c2) ?_) ⟨rfl, rfl⟩
  unfold padF
  rw [show ((o : Int) + 1 - 0 - (f.length : Int)).toNat = o + 1 - f.length by omega]
  simp
abbrev N_low_rows : List PySem.Str := ["room", "order", "lifts", "pairs", "row", "height"]
theorem sc_low_rows : FnScope N_low_rows ["room", "order"] (defScope df_low_rows.st) := ⟨rfl, rfl, rfl, by decide +kernel, rfl, by decide +kernel, by decide +kernel⟩
abbrev W_low_rows (K : PySem.W.Frag) : Wc := fun cs rs Post => ∃ r dx p l cols o, cs = [.raw (.ref r), .val (.int o)] ∧ rs = [(r, .ins (CR K) dx (rF p l cols))] ∧ (RoomOk p l cols) ∧ Post = fun c rs' => c = .val (.list (((baseAt p l cols cols.length).filter fun row => decide (rowH l row ≤ o)).map fun row => .tuple [eR row, .int (rowH l row)])) ∧ rs' = [(r, .ins (CR K) dx (rF p l cols))]
theorem w_low_rows {P : Program} {w : World} {K : PySem.W.Frag} {mg : PySem.Str → Option Value} {base : Heap} (T : Tx K mg) (c_lifts_of_width : C8.Cal P w K mg base 1 "lifts_of_width" (Fn K W_lifts_of_width) []) (c_height_of : C8.Cal P w K mg base 2 "height_of" (Fn K W_height_of) [])  : C8.Cal P w K mg base 3 "low_rows" (Fn K (W_low_rows K)) [] := by
  refine cal_of (d := df_low_rows) (N := N_low_rows) (ps := ["room", "order"]) (n := 4) (T.d 24) rfl rfl (T.f (f := .glo "low_rows") 24) sc_low_rows (fun _ _ _ _ _ _ us hl => match us, hl with | [_, _], _ => rfl) ?_ rfl fun cdv A outer s H E hr => ?_
  · intro cs rs Post h; obtain ⟨_, _, _, _, _, _, rfl, _⟩ := h; rfl
  have hu := hu_of hr
  have hu0 := hr.units0
  have hu64 := hr.units
  refine ⟨_, (pss_cons (ps_set (i := 2) sc_low_rows.nd rfl (Or.inr rfl) (C8.pe_c c_lifts_of_width hr (by decide) rfl (pa_cons (pe_fld (pv 0) rfl) pa_nil)))
  (pss_cons (ps_setLc (i := 3) (own := [("row", 4)]) (tt := tYes) rfl sc_low_rows.nd rfl rfl (sw_true rfl rfl rfl (by decide +kernel)) (pi_list (pe_ix (r := rIxL K) ix_list (pe_fld (pv 0) rfl) (pe_un un_neg pe_int) (fun _ _ => rfl))) (blkOk_by (N := N_low_rows) (sc := defScope df_low_rows.st) (by decide +kernel)) (fun _ _ _ _ _ => (pg_name (i := 4) sc_low_rows.nd rfl (Or.inl rfl))) (fun _ _ _ _ _ => pts_nil) (fun _ _ _ _ _ => (pe_tup (pa_cons (pv 4) (pa_cons (C8.pe_c c_height_of hr (by decide) rfl (pa_cons (pv 4) (pa_cons (pv 2) pa_nil))) pa_nil)))))
  (pss_one (ps_ret (pe_lc (g := (gTup K 2 (gCons (gName 4) (gCons (gName 5) gNil)))) (own := [("row", 4), ("height", 5)])  rfl sc_low_rows.nd (pi_list (pv 3)) (blkOk_by (N := N_low_rows) (sc := defScope df_low_rows.st) (by decide +kernel)) (fun _ _ _ _ _ => (pg_tup rfl (pgs_cons (pg_name (i := 4) sc_low_rows.nd rfl (Or.inl rfl)) (pgs_cons (pg_name (i := 5) sc_low_rows.nd rfl (Or.inl rfl)) pgs_nil)))) (fun _ _ _ _ _ => (pts_one (pt_cmpR op_le (pv 5) (pv 1) (nomark _)))) (fun _ _ _ _ _ => (pe_tup (pa_cons (pv 4) (pa_cons (pv 5) pa_nil))))))))), ?_⟩
  rintro cs rs Post ⟨r, dx, p, l, cols, o, rfl, rfl, R, rfl⟩
  have hl3 := R.hl3
  have hB := base_okB R (Nat.le_refl cols.length)
  have hlen := hB.len
  refine sd_seq (sd_asg (ec_call (xs := [.int (l : Nat)]) (ea_cons (ec_fld T.cl T.n2 (ec_raw rfl) List.mem_cons_self rfl) ea_nil) ⟨l, rfl, R.hl, by omega, rfl⟩) ?_)
  refine sd_seq (sd_asg (c := .val (.list ((baseAt p l cols cols.length).map fun row => .tuple [eR row, .int (rowH l row)]))) (ec_lc (baseAt p l cols cols.length) eR (fun row => .tuple [eR row, .int (rowH l row)]) (by omega) (it_list (ec_op (ec_fld T.cl T.n4 (ec_raw rfl) List.mem_cons_self rfl) (ec_un ec_int ru_neg) (rv_ixL (at_bases p l cols)))) fun row hrow => ⟨_, gt_name, ec_tup (xs := [eR row, .int (rowH l row)]) (ea_cons (ec_val rfl) (ea_cons (ec_is (ec_call (d := encH (levelOf (liftsOf l) row)) (xs := [eR row, tupI (liftsOf l)]) (ea_cons (ec_val rfl) (ea_cons (ec_val rfl) ea_nil)) ⟨row, _, rfl, by rw [liftsOf_len, (hB.row row hrow).1]; exact Nat.le_refl _, by rw [(hB.row row hrow).1]; omega, rfl⟩) (by rw [encH_getD (hB.row row hrow).2.2]; rfl)) ea_nil)) (by show 2 ≤ 100000; decide)⟩) ?_)
  refine sd_ret (ec_lcF (baseAt p l cols cols.length) (fun row => .tuple [eR row, .int (rowH l row)]) (fun row => decide (rowH l row ≤ o)) (fun row => .tuple [eR row, .int (rowH l row)]) (by omega) (it_list (ec_val rfl)) fun row hrow => ⟨_, gt_tup2, et_test (ec_op (ec_val rfl) (ec_val rfl) rv_B0), fun _ => ec_tup (xs := [eR row, .int (rowH l row)]) (ea_cons (ec_val rfl) (ea_cons (ec_val rfl) ea_nil)) (by show 2 ≤ 100000; decide)⟩) ⟨rfl, rfl⟩
abbrev N_told_by : List PySem.Str := ["room", "rule", "columns", "many", "told", "place", "total", "back"]
theorem sc_told_by : FnScope N_told_by ["room", "rule"] (defScope df_told_by.st) := ⟨rfl, rfl, rfl, by decide +kernel, rfl, by decide +kernel, by decide +kernel⟩
abbrev W_told_by (K : PySem.W.Frag) : Wc := fun cs rs Post => ∃ r dx p l cols rl, cs = [.raw (.ref r), .val (lstI rl)] ∧ rs = [(r, .ins (CR K) dx (rF p l cols))] ∧ (RoomOk p l cols ∧ 1 ≤ rl.length ∧ rl.length ≤ cols.length + 1 ∧ (∀ x ∈ rl, 0 ≤ x ∧ x < p)) ∧ Post = fun c rs' => c = .val (tupI (toldOf p l cols rl)) ∧ rs' = [(r, .ins (CR K) dx (rF p l cols))]
theorem w_told_by {P : Program} {w : World} {K : PySem.W.Frag} {mg : PySem.Str → Option Value} {base : Heap} (T : Tx K mg) (Q : Tr K)  (c_room_columns : C8.CalAt P w K mg base 1 (df_room_columns.at_ K) (FnG K (W_room_columns K))) : C8.Cal P w K mg base 2 "told_by" (Fn K (W_told_by K)) [] := by
  refine cal_of (d := df_told_by) (N := N_told_by) (ps := ["room", "rule"]) (n := 6) (T.d 27) rfl rfl (T.f (f := .glo "told_by") 27) sc_told_by (fun _ _ _ _ _ _ us hl => match us, hl with | [_, _], _ => rfl) ?_ rfl fun cdv A outer s H E hr => ?_
  · intro cs rs Post h; obtain ⟨_, _, _, _, _, _, rfl, _⟩ := h; rfl
  have hu := hu_of hr
  have hu0 := hr.units0
  have hu64 := hr.units
  refine ⟨_, (pss_cons (ps_set (i := 2) sc_told_by.nd rfl (Or.inr rfl) (pe_metC0 c_room_columns (pv 0) T.cl T.m3 hr (by decide)))
  (pss_cons (ps_set (i := 3) sc_told_by.nd rfl (Or.inr rfl) (pe_callB call_len_seq (by rfl) (T.f (f := .free "len") 51) boot_len (pa_cons (pv 2) pa_nil)))
  (pss_cons (ps_set (i := 4) sc_told_by.nd rfl (Or.inl rfl) (pe_lst pa_nil))
  (pss_cons (ps_for PassesOwn.never rfl (pi_range1 (by rfl) (T.f (f := .free "range") 53) (pa_cons (pe_fld (pv 0) rfl) pa_nil)) (pg_name (i := 5) sc_told_by.nd rfl (Or.inr rfl))
  (pss_cons (ps_set (i := 6) sc_told_by.nd rfl (Or.inl rfl) (pe_callB (r := rSum K) (cr_sum rfl) (by rfl) (T.f (f := .free "sum") 59) boot_sum (pa_cons (pe_lc (own := [("back", 7)]) (tt := tYes) rfl sc_told_by.nd (pi_range2 (by rfl) (T.f (f := .free "range") 53) (pa_cons pe_int (pa_cons (pe_callB call_len_seq (by rfl) (T.f (f := .free "len") 51) boot_len (pa_cons (pv 1) pa_nil)) pa_nil))) (blkOk_by (N := N_told_by) (sc := defScope df_told_by.st) (by decide +kernel)) (fun _ _ _ _ _ => (pg_name (i := 7) sc_told_by.nd rfl (Or.inl rfl))) (fun _ _ _ _ _ => pts_nil) (fun _ _ _ _ _ => (pe_op op_mul (pe_ix (r := rIxL K) ix_list (pv 1) (pv 7) (fun _ _ => rfl)) (pe_ix (r := rIxT K) ix_tup (pe_ix (r := rIxL K) ix_list (pv 2) (pe_op op_sub (pv 3) (pv 7)) (fun _ _ => rfl)) (pv 5) (fun _ _ => rfl))))) pa_nil)))
  (pss_one (ps_expr (pe_bm PySem.F.plainAttrs_list PySem.F.slot_list_append PySem.F.type_list_append mt_append (pv 4) (pa_cons (pe_op op_mod (pe_un un_neg (pv 6)) (pe_fld (pv 0) rfl)) pa_nil))))))
  (pss_one (ps_ret (pe_callTy call_tuple_of (by rfl) (T.f (f := .free "tuple") 52) boot_tuple (pa_cons (pv 4) pa_nil)))))))), ?_⟩
  rintro cs rs Post ⟨r, dx, p, l, cols, rl, rfl, rfl, ⟨R, hr1, hr2, hrx⟩, rfl⟩
  have hl3 := R.hl3
  have hcl := R.hc
  have hp2 := prime_lt R.hp
  refine sd_seq (sd_asg (ec_methG (xs := []) (ec_raw rfl) List.mem_cons_self rfl ea_nil ⟨r, dx, p, l, cols, rfl, rfl, R, rfl⟩) ?_)
  refine sd_seq (sd_asg (ec_cb (ea_cons (ec_val rfl) ea_nil) rc_lenL) ?_)
  refine sd_seq (sd_asgM (em_lstF (eam_nil ⟨[], rfl, by decide, fun D => ?_⟩)))
  let tf : Nat → Int := fun place => (-(((List.range (rl.length - 1)).map fun b => rl.getD (b + 1) 0 * (cols.getD (cols.length - (b + 1)) []).getD place 0).sum)) % p
  refine sd_seq (sd_forA (List.range l) (fun i => .int (i : Nat)) (it_is (it_range1 (ea_cons (ec_fld T.cl T.n2 (ec_raw rfl) (List.mem_cons_of_mem _ List.mem_cons_self) rfl) ea_nil) (by omega) (by omega)) (by rw [Int.toNat_natCast, range0]))
    (fun i ds rs => rs = [(D, .lst (iL ((List.range i).map tf))), (r, .ins (CR K) dx (rF p l cols))] ∧ ∃ u1 u2 u3, ds = [.raw (.ref r), .val (lstI rl), .val (eCs cols), .val (.int cols.length), .raw (.ref D), u1, u2, u3]) ⟨rfl, _, _, _, by rw [len_map]; rfl⟩ ?_ ?_)
  · rintro i a ds' rs' ha ⟨rfl, u1, u2, u3, rfl⟩
    obtain ⟨hi, rfl⟩ := range_at ha
    refine ⟨_, gs_name, ?_⟩
    refine sd_seq (sd_asg (ec_cb (ea_cons (ec_is (ec_lc (List.range (rl.length - 1)) (fun b => .int (1 + (b : Nat))) (fun b => .int (rl.getD (b + 1) 0 * (cols.getD (cols.length - (b + 1)) []).getD i 0)) (by rw [List.length_range]; omega) (it_is (it_range2 (ea_cons ec_int (ea_cons (ec_cb (ea_cons (ec_val rfl) ea_nil) rc_lenL) ea_nil)) (by rw [len_iL]; omega)) (by rw [len_iL, show ((rl.length : Int) - 1).toNat = rl.length - 1 by omega])) fun b hb => ⟨_, gt_name, ?_⟩) (by rw [map_iL])) ea_nil) rc_sum) ?_)
    · have hb := List.mem_range.mp hb
      have hb1 : b + 1 < rl.length := by omega
      have hx := hrx _ (FTM.getD_mem (d := 0) hb1)
      have hc := R.cok _ (FTM.getD_mem (d := []) (show cols.length - (b + 1) < cols.length by omega))
      refine ec_op (ec_op (ec_val rfl) (ec_val rfl) (rv_ixL (at_mapI (j := b + 1) 0 (by push_cast; omega) hb1))) (ec_op (ec_op (ec_val rfl) (ec_op (ec_val rfl) (ec_val rfl) rv_I0) (rv_ixL (at_mapI (j := cols.length - (b + 1)) [] (by omega) (by omega)))) (ec_val rfl) (rv_ixT (at_map (xs := cols.getD (cols.length - (b + 1)) []) (j := i) 0 (by rw [hc.1]; exact hi)))) (rv_I (.inl ⟨by omega, by omega⟩))
    · refine sd_app (ec_raw rfl) List.mem_cons_self (eam_of (ea_cons (ec_op (ec_un (ec_val rfl) ru_neg) (ec_fld T.cl T.n1 (ec_raw rfl) (List.mem_cons_of_mem _ List.mem_cons_self) rfl) (rv_I (show (0 : Int) < p by omega))) ea_nil) ⟨_, _, [(r, .ins (CR K) dx (rF p l cols))], rfl, List.Perm.refl _, by simp; omega, ?_, _, _, _, rfl⟩)
      rw [List.range_succ, List.map_append]
      show _ = [(D, Rs.lst (iL ((List.range i).map tf ++ [tf i]))), _]
      rw [← app_iL]
      rfl
  · rintro ds' rs' ⟨rfl, u1, u2, u3, rfl⟩
    rw [List.length_range]
    refine sd_freeze (i := 4) rfl (List.Perm.refl _) ?_
    exact sd_ret (ec_cb (ea_cons (ec_val rfl) ea_nil) rc_tupleL) ⟨rfl, rfl⟩
end FT
set_option maxHeartbeats 2000000
namespace FT
open PySem PySem.Spec PyProof.Rows L2 DL FTM
theorem hasConst_pos {A : FTM.Row} (h : hasConst A = true) : A.getD 0 [] ≠ [] := by
  unfold hasConst at h
  rw [Bool.and_eq_true, decide_eq_true_eq] at h
  exact h.1

abbrev N_rule_and_changes : List PySem.Str := ["room", "order", "prime", "low", "first", "rule", "share", "changes", "at", "row", "height", "vector", "number", "shift", "pair", "a", "b"]
theorem sc_rule_and_changes : FnScope N_rule_and_changes ["room", "order"] (defScope df_rule_and_changes.st) := ⟨rfl, rfl, rfl, by decide +kernel, rfl, by decide +kernel, by decide +kernel⟩
abbrev W_rule_and_changes (K : PySem.W.Frag) : Wc := fun cs rs Post => ∃ r dx p cols o A, cs = [.raw (.ref r), .val (.int (o : Nat))] ∧ rs = [(r, .ins (CR K) dx (rF p 1 cols))] ∧ Low1 p cols o A ∧ Post = fun c rs' => c = .val (.tuple [lstI (ruleOf p A o), .list []]) ∧ rs' = [(r, .ins (CR K) dx (rF p 1 cols))]
theorem w_rule_and_changes {P : Program} {w : World} {K : PySem.W.Frag} {mg : PySem.Str → Option Value} {base : Heap} (T : Tx K mg) (c_low_rows : C8.Cal P w K mg base 3 "low_rows" (Fn K (W_low_rows K)) []) (c_padded : C8.Cal P w K mg base 1 "padded" (Fn K W_padded) []) (c_inverse : C8.Cal P w K mg base 1 "inverse" (Fn K W_inverse) []) (c_has_constant : C8.Cal P w K mg base 1 "has_constant" (Fn K W_has_constant) [])  : C8.Cal P w K mg base 4 "rule_and_changes" (Fn K (W_rule_and_changes K)) [] := by
  refine cal_of (d := df_rule_and_changes) (N := N_rule_and_changes) (ps := ["room", "order"]) (n := 15) (T.d 26) rfl rfl (T.f (f := .glo "rule_and_changes") 26) sc_rule_and_changes (fun _ _ _ _ _ _ us hl => match us, hl with | [_, _], _ => rfl) ?_ rfl fun cdv A outer s H E hr => ?_
  · intro cs rs Post h; obtain ⟨_, _, _, _, _, _, rfl, _⟩ := h; rfl
  have hu := hu_of hr
  have hu0 := hr.units0
  have hu64 := hr.units
  refine ⟨_, (pss_cons (ps_set (i := 2) sc_rule_and_changes.nd rfl (Or.inr rfl) (pe_fld (pv 0) rfl))
  (pss_cons (ps_set (i := 3) sc_rule_and_changes.nd rfl (Or.inl rfl) (C8.pe_c c_low_rows hr (by decide) rfl (pa_cons (pv 0) (pa_cons (pv 1) pa_nil))))
  (pss_cons (ps_setLc (i := 4) (g := (gTup K 2 (gCons (gName 8) (gCons (gName 14) gNil)))) (own := [("at", 8), ("pair", 14)])  rfl sc_rule_and_changes.nd rfl rfl (sw_true rfl rfl rfl (by decide +kernel)) (pi_enum (by rfl) (T.f (f := .free "enumerate") 55) (pa_cons (pv 3) pa_nil)) (blkOk_by (N := N_rule_and_changes) (sc := defScope df_rule_and_changes.st) (by decide +kernel)) (fun _ _ _ _ _ => (pg_tup rfl (pgs_cons (pg_name (i := 8) sc_rule_and_changes.nd rfl (Or.inl rfl)) (pgs_cons (pg_name (i := 14) sc_rule_and_changes.nd rfl (Or.inl rfl)) pgs_nil)))) (fun _ _ _ _ _ => (pts_one (pt_val (C8.pe_c c_has_constant hr (by decide) rfl (pa_cons (pe_ix (r := rIxT K) ix_tup (pv 14) pe_int (fun _ _ => rfl)) pa_nil))))) (fun _ _ _ _ _ => (pv 8)))
  (pss_cons (ps_if (pt_cmpR op_eq (pe_callB call_len_seq (by rfl) (T.f (f := .free "len") 51) boot_len (pa_cons (pv 4) pa_nil)) pe_int (nomark _))
  (pss_one (ps_ret pe_non)) pss_nil)
  (pss_cons (ps_set (i := 5) sc_rule_and_changes.nd rfl (Or.inl rfl) (C8.pe_c c_padded hr (by decide) rfl (pa_cons (pe_ix (r := rIxT K) ix_tup (pe_ix (r := rIxT K) ix_tup (pe_ix (r := rIxL K) ix_list (pv 3) (pe_ix (r := rIxL K) ix_list (pv 4) pe_int (fun _ _ => rfl)) (fun _ _ => rfl)) pe_int (fun _ _ => rfl)) pe_int (fun _ _ => rfl)) (pa_cons pe_int (pa_cons (pv 1) pa_nil)))))
  (pss_cons (ps_set (i := 6) sc_rule_and_changes.nd rfl (Or.inr rfl) (C8.pe_c c_inverse hr (by decide) rfl (pa_cons (pv 2) (pa_cons (pe_ix (r := rIxL K) ix_list (pv 5) pe_int (fun _ _ => rfl)) pa_nil))))
  (pss_cons (ps_setLc (i := 5) (own := [("number", 12)]) (tt := tYes) rfl sc_rule_and_changes.nd rfl rfl (sw_true rfl rfl rfl (by decide +kernel)) (pi_list (pv 5)) (blkOk_by (N := N_rule_and_changes) (sc := defScope df_rule_and_changes.st) (by decide +kernel)) (fun _ _ _ _ _ => (pg_name (i := 12) sc_rule_and_changes.nd rfl (Or.inl rfl))) (fun _ _ _ _ _ => pts_nil) (fun _ _ _ _ _ => (pe_op op_mod (pe_op op_mul (pv 6) (pv 12)) (pv 2))))
  (pss_cons (ps_set (i := 7) sc_rule_and_changes.nd rfl (Or.inl rfl) (pe_lst pa_nil))
  (pss_cons (ps_for PassesOwn.never rfl (pi_enum (by rfl) (T.f (f := .free "enumerate") 55) (pa_cons (pv 3) pa_nil)) (pg_tup rfl (pgs_cons (pg_name (i := 8) sc_rule_and_changes.nd rfl (Or.inl rfl)) (pgs_cons (pg_tup rfl (pgs_cons (pg_name (i := 9) sc_rule_and_changes.nd rfl (Or.inl rfl)) (pgs_cons (pg_name (i := 10) sc_rule_and_changes.nd rfl (Or.inl rfl)) pgs_nil))) pgs_nil)))
  (pss_cons (ps_if (pt_cmpR op_ne (pv 8) (pe_ix (r := rIxL K) ix_list (pv 4) pe_int (fun _ _ => rfl)) (nomark _))
  (pss_cons (ps_set (i := 11) sc_rule_and_changes.nd rfl (Or.inl rfl) (C8.pe_c c_padded hr (by decide) rfl (pa_cons (pe_ix (r := rIxT K) ix_tup (pv 9) pe_int (fun _ _ => rfl)) (pa_cons pe_int (pa_cons (pv 1) pa_nil)))))
  (pss_cons (ps_set (i := 12) sc_rule_and_changes.nd rfl (Or.inr rfl) (pe_ix (r := rIxL K) ix_list (pv 11) pe_int (fun _ _ => rfl)))
  (pss_one (ps_expr (pe_bm PySem.F.plainAttrs_list PySem.F.slot_list_append PySem.F.type_list_append mt_append (pv 7) (pa_cons (pe_lc (g := (gTup K 2 (gCons (gName 15) (gCons (gName 16) gNil)))) (own := [("a", 15), ("b", 16)]) (tt := tYes) rfl sc_rule_and_changes.nd (RZ.pi_zipA (by rfl) (T.f (f := .free "zip") 54) (pa_cons (pv 11) (pa_cons (pv 5) pa_nil))) (blkOk_by (N := N_rule_and_changes) (sc := defScope df_rule_and_changes.st) (by decide +kernel)) (fun _ _ _ _ _ => (pg_tup rfl (pgs_cons (pg_name (i := 15) sc_rule_and_changes.nd rfl (Or.inl rfl)) (pgs_cons (pg_name (i := 16) sc_rule_and_changes.nd rfl (Or.inl rfl)) pgs_nil)))) (fun _ _ _ _ _ => pts_nil) (fun _ _ _ _ _ => (pe_op op_mod (pe_op op_sub (pv 15) (pe_op op_mul (pv 12) (pv 16))) (pv 2)))) pa_nil)))))) pss_nil)
  (pss_one (ps_for PassesOwn.never rfl (pi_range2 (by rfl) (T.f (f := .free "range") 53) (pa_cons pe_int (pa_cons (pe_op op_add (pe_op op_sub (pv 1) (pv 10)) pe_int) pa_nil))) (pg_name (i := 13) sc_rule_and_changes.nd rfl (Or.inl rfl))
  (pss_one (ps_expr (pe_bm PySem.F.plainAttrs_list PySem.F.slot_list_append PySem.F.type_list_append mt_append (pv 7) (pa_cons (C8.pe_c c_padded hr (by decide) rfl (pa_cons (pe_ix (r := rIxT K) ix_tup (pv 9) pe_int (fun _ _ => rfl)) (pa_cons (pv 13) (pa_cons (pv 1) pa_nil)))) pa_nil))))))))
  (pss_one (ps_ret (pe_tup (pa_cons (pv 5) (pa_cons (pv 7) pa_nil)))))))))))))), ?_⟩
  rintro cs rs Post ⟨r, dx, p, cols, o, A, rfl, rfl, L, rfl⟩
  have R := L.R
  have hp2 := prime_lt R.hp
  have hA2 := L.ne
  have hlen := L.len
  have hon := L.on
  have hcl := R.hc
  have hne : A ≠ [] := fun z => by rw [z] at hA2; cases hA2
  have hpl := padF_len hlen
  refine sd_seq (sd_asg (ec_fld T.cl T.n1 (ec_raw rfl) List.mem_cons_self rfl) ?_)
  refine sd_seq (sd_asgM (em_call (eam_of (ea_cons (ec_raw rfl) (ea_cons (ec_val rfl) ea_nil)) ⟨[(r, .ins (CR K) dx (rF p 1 cols))], [], _, List.Perm.refl _, ⟨r, dx, p, 1, cols, (o : Int), rfl, rfl, R, rfl⟩, ?_⟩)))
  rintro c rs2 ⟨rfl, rfl⟩
  rw [L.flt]
  have lowd : (([A] : List FTM.Row).map fun row => PyData.tuple [eR row, .int (rowH 1 row)]) = [.tuple [eR A, .int (o : Nat)]] := by
    rw [List.map_singleton, L.hh]
  rw [lowd]
  refine sd_seq (sd_asg (c := .val (lstI [0])) (ec_is (ec_lcF [(0 : Int)] (fun i => pairD (.int i) (.tuple [eR A, .int (o : Nat)])) (fun _ => hasConst A) (fun i => .int i) (by decide) (it_is (it_enumL (ea_cons (ec_val rfl) ea_nil)) rfl) fun i hi => ⟨_, gt_tup2, et_B (ec_call (d := .bool (hasConst A)) (xs := [eR A]) (ea_cons (ec_op (ec_val rfl) ec_int (rv_ixT (d := eR A) rfl)) ea_nil) ⟨A, rfl, hne, rfl⟩), fun _ => ec_val rfl⟩) (by rw [show ([(0 : Int)].filter fun _ => hasConst A) = [0] by rw [L.hc]; rfl])) ?_)
  refine sd_seq (sd_if (b := false) (et_test (ec_op (ec_cb (ea_cons (ec_val rfl) ea_nil) rc_lenL) ec_int rv_eqI)) (fun h => Bool.noConfusion h) fun _ => sd_next ?_)
  refine sd_seq (sd_asg (ec_call (d := lstI (padF (A.getD 0 []) o)) (xs := [tupI (A.getD 0 []), .int 0, .int (o : Nat)]) (ea_cons (ec_op (ec_op (ec_op (ec_val rfl) (ec_op (ec_val rfl) ec_int (rv_ixL (d := .int 0) rfl)) (rv_ixL (d := .tuple [eR A, .int (o : Nat)]) rfl)) ec_int (rv_ixT (d := eR A) rfl)) ec_int (rv_ixT (at_map (xs := A) (j := 0) [] (by omega)))) (ea_cons ec_int (ea_cons (ec_val rfl) ea_nil))) ⟨_, o, rfl, hlen, by omega, rfl⟩) ?_)
  have hp0 : (padF (A.getD 0 []) o).getD 0 0 = (A.getD 0 []).getD 0 0 := padF_getD _ _ _
  have hpos := L.pos
  have hlt := L.lt
  refine sd_seq (sd_asg (ec_call (d := .int (inv p ((padF (A.getD 0 []) o).getD 0 0))) (xs := [.int p, .int ((padF (A.getD 0 []) o).getD 0 0)]) (ea_cons (ec_val rfl) (ea_cons (ec_op (ec_val rfl) ec_int (rv_ixL (at_map (j := 0) 0 (by omega)))) ea_nil)) ⟨_, _, rfl, R.hp, by omega, by omega, rfl⟩) ?_)
  have hinv : 0 ≤ inv p ((padF (A.getD 0 []) o).getD 0 0) ∧ inv p ((padF (A.getD 0 []) o).getD 0 0) < p := by
    unfold inv
    exact ⟨Int.emod_nonneg _ (by omega), Int.emod_lt_of_pos _ (by omega)⟩
  refine sd_seq (sd_asg (c := .val (lstI (ruleOf p A o))) (ec_is (ec_lc (padF (A.getD 0 []) o) PyData.int (fun x => .int (inv p ((padF (A.getD 0 []) o).getD 0 0) * x % p)) (by omega) (it_list (ec_val rfl)) fun x hx => ⟨_, gt_name, ec_op (ec_op (ec_val rfl) (ec_val rfl) (rv_I (.inl ⟨by omega, by omega⟩))) (ec_val rfl) (rv_I (show (0 : Int) < p by omega))⟩) (by rw [map_iL]; rfl)) ?_)
  refine sd_seq (sd_asgM (em_lstF (eam_nil ⟨[], rfl, by decide, fun D => ?_⟩)))
  refine sd_seq (sd_for (xs := [pairD (.int 0) (.tuple [eR A, .int (o : Nat)])]) (it_is (it_enumL (xs := [.tuple [eR A, .int (o : Nat)]]) (ea_cons (ec_val rfl) ea_nil)) rfl)
    (fun i ds rs => rs = [(D, .lst []), (r, .ins (CR K) dx (rF p 1 cols))] ∧ ∃ u1 u2 u3 u4 u5 u6 u7 u8 u9 u10, ds = [.raw (.ref r), .val (.int (o : Nat)), .val (.int p), .val (.list [.tuple [eR A, .int (o : Nat)]]), .val (lstI [0]), .val (lstI (ruleOf p A o)), u1, .raw (.ref D), u2, u3, u4, u5, u6, u7, u8, u9, u10]) ⟨rfl, _, _, _, _, _, _, _, _, _, _, rfl⟩ ?_ ?_)
  · rintro i d ds' rs' hd ⟨rfl, u1, u2, u3, u4, u5, u6, u7, u8, u9, u10, rfl⟩
    have hi : i = 0 := by
      have := (List.getElem?_eq_some_iff.mp hd).1
      simp at this
      exact this
    subst hi
    have hd : d = pairD (.int 0) (.tuple [eR A, .int (o : Nat)]) := (Option.some.inj hd).symm
    subst hd
    refine ⟨_, gs_tup2 gs_name (gs_tup2 gs_name gs_name), ?_⟩
    refine sd_seq (sd_if (b := false) (et_test (ec_op (ec_val rfl) (ec_op (ec_val rfl) ec_int (rv_ixL (d := .int 0) rfl)) rv_neI)) (fun h => Bool.noConfusion h) fun _ => sd_next ?_)
    refine sd_for (xs := []) (it_is (it_range2 (a := 1) (b := (o : Int) - (o : Int) + 1) (ea_cons ec_int (ea_cons (ec_op (ec_op (ec_val rfl) (ec_val rfl) rv_I0) ec_int rv_I0) ea_nil)) (by omega)) (by rw [show ((o : Int) - (o : Int) + 1 - 1).toNat = 0 by omega]; rfl))
      (fun i ds rs => rs = [(D, .lst []), (r, .ins (CR K) dx (rF p 1 cols))] ∧ ∃ u1 u2 u3 u4 u5 u6 u7 u8 u9 u10, ds = [.raw (.ref r), .val (.int (o : Nat)), .val (.int p), .val (.list [.tuple [eR A, .int (o : Nat)]]), .val (lstI [0]), .val (lstI (ruleOf p A o)), u1, .raw (.ref D), u2, u3, u4, u5, u6, u7, u8, u9, u10]) ⟨rfl, _, _, _, _, _, _, _, _, _, _, rfl⟩ (fun i d ds' rs' h => by simp at h) ?_
    rintro ds' rs' ⟨rfl, u1, u2, u3, u4, u5, u6, u7, u8, u9, u10, rfl⟩
    exact ⟨rfl, _, _, _, _, _, _, _, _, _, _, rfl⟩
  · rintro ds' rs' ⟨rfl, u1, u2, u3, u4, u5, u6, u7, u8, u9, u10, rfl⟩
    refine sd_freeze (i := 7) rfl (List.Perm.refl _) ?_
    exact sd_ret (ec_tup (xs := [lstI (ruleOf p A o), .list []]) (ea_cons (ec_val rfl) (ea_cons (ec_val rfl) ea_nil)) (by show 2 ≤ 100000; decide)) ⟨rfl, rfl⟩
abbrev N_sure_column : List PySem.Str := ["room", "rule", "changes", "change", "number"]
theorem sc_sure_column : FnScope N_sure_column ["room"] (defScope df_sure_column.st) := ⟨rfl, rfl, rfl, by decide +kernel, rfl, by decide +kernel, by decide +kernel⟩
abbrev W_sure_column (K : PySem.W.Frag) : Wc := fun cs rs Post => ∃ r dx p cols o A, cs = [.raw (.ref r)] ∧ rs = [(r, .ins (CR K) dx (rF p 1 cols))] ∧ Low1 p cols o A ∧ Post = fun c rs' => c = .val (tupI (toldOf p 1 cols (ruleOf p A o))) ∧ rs' = [(r, .ins (CR K) dx (rF p 1 cols))]
theorem w_sure_column {P : Program} {w : World} {K : PySem.W.Frag} {mg : PySem.Str → Option Value} {base : Heap} (T : Tx K mg) (Q : Tr K) (c_rule_and_changes : C8.Cal P w K mg base 4 "rule_and_changes" (Fn K (W_rule_and_changes K)) []) (c_told_by : C8.Cal P w K mg base 2 "told_by" (Fn K (W_told_by K)) []) (c_room_least_order : C8.CalAt P w K mg base 4 (df_room_least_order.at_ K) (FnG K (W_room_least_order K))) : C8.Cal P w K mg base 6 "sure_column" (Fn K (W_sure_column K)) [] := by
  refine cal_of (d := df_sure_column) (N := N_sure_column) (ps := ["room"]) (n := 4) (T.d 28) rfl rfl (T.f (f := .glo "sure_column") 28) sc_sure_column (fun _ _ _ _ _ _ us hl => match us, hl with | [_], _ => rfl) ?_ rfl fun cdv A outer s H E hr => ?_
  · intro cs rs Post h; obtain ⟨_, _, _, _, _, _, rfl, _⟩ := h; rfl
  have hu := hu_of hr
  have hu0 := hr.units0
  have hu64 := hr.units
  refine ⟨_, (pss_cons (ps_asg (C8.pe_c c_rule_and_changes hr (by decide) rfl (pa_cons (pv 0) (pa_cons (pe_propC c_room_least_order (pv 0) T.cl Q.po hr (by decide) rfl) pa_nil))) (pg_tup rfl (pgs_cons (pg_name (i := 1) sc_sure_column.nd rfl (Or.inl rfl)) (pgs_cons (pg_name (i := 2) sc_sure_column.nd rfl (Or.inl rfl)) pgs_nil))))
  (pss_cons (ps_for PassesOwn.never rfl (pi_list (pv 2)) (pg_name (i := 3) sc_sure_column.nd rfl (Or.inl rfl))
  (pss_one (ps_if (pt_val (pe_callB (cr_any rfl) (by rfl) (T.f (f := .free "any") 60) boot_any (pa_cons (pe_lc (own := [("number", 4)]) (tt := tYes) rfl sc_sure_column.nd (pi_list (C8.pe_c c_told_by hr (by decide) rfl (pa_cons (pv 0) (pa_cons (pv 3) pa_nil)))) (blkOk_by (N := N_sure_column) (sc := defScope df_sure_column.st) (by decide +kernel)) (fun _ _ _ _ _ => (pg_name (i := 4) sc_sure_column.nd rfl (Or.inl rfl))) (fun _ _ _ _ _ => pts_nil) (fun _ _ _ _ _ => (pe_cmpR op_ne (pv 4) pe_int (nomark _)))) pa_nil)))
  (pss_one (ps_ret pe_non)) pss_nil)))
  (pss_one (ps_ret (C8.pe_c c_told_by hr (by decide) rfl (pa_cons (pv 0) (pa_cons (pv 1) pa_nil))))))), ?_⟩
  rintro cs rs Post ⟨r, dx, p, cols, o, A, rfl, rfl, L, rfl⟩
  have R := L.R
  have hp2 := prime_lt R.hp
  have hon := L.on
  have hrl := ruleOf_len (p := p) L.len
  refine sd_seq (sd_asgT (em_call (eam_of (cs := [.raw (.ref r), .val (.int (o : Nat))]) (ea_cons (ec_raw rfl) (ea_cons (ec_is (ec_propG (ec_raw rfl) List.mem_cons_self ⟨r, dx, p, 1, cols, rfl, rfl, R, rfl⟩) (by rw [L.least])) ea_nil)) ⟨[(r, .ins (CR K) dx (rF p 1 cols))], [], _, List.Perm.refl _, ⟨r, dx, p, cols, o, A, rfl, rfl, L, rfl⟩, ?_⟩)))
  rintro c rs2 ⟨rfl, rfl⟩
  refine ⟨_, gs_tup2 gs_name gs_name, ?_⟩
  refine sd_seq (sd_for (xs := []) (it_list (ec_val rfl)) (fun i ds rs => rs = [(r, .ins (CR K) dx (rF p 1 cols))] ∧ ∃ u1 u2 u3, ds = [.raw (.ref r), .val (lstI (ruleOf p A o)), u1, u2, u3]) ⟨rfl, _, _, _, rfl⟩ (fun i d ds' rs' h => by simp at h) ?_)
  rintro ds' rs' ⟨rfl, u1, u2, u3, rfl⟩
  refine sd_retM (em_call (eam_of (ea_cons (ec_raw rfl) (ea_cons (ec_val rfl) ea_nil)) ⟨[(r, .ins (CR K) dx (rF p 1 cols))], [], _, List.Perm.refl _, ⟨r, dx, p, 1, cols, ruleOf p A o, rfl, rfl, ⟨R, by omega, by omega, ruleOf_bd (by omega)⟩, rfl⟩, ?_⟩))
  rintro c rs2 ⟨rfl, rfl⟩
  exact ⟨rfl, rfl⟩
end FT
set_option maxHeartbeats 2000000
namespace FT
open PySem PySem.Spec PyProof.Rows L2 DL FTM
section
variable {K : PySem.W.Frag} {ds : Scs} {rs rsF : Rss} {te ta : TE} {t u : TS} {a : Addr} {P : DL.Pst} {E : XK}
theorem sd_mid (I : Scs → Rss → Prop) (h : SdC K t ds rs { P with nx := I }) (k : ∀ ds' rs', I ds' rs' → SdC K u ds' rs' P) : SdC K (tSeq t u) ds rs P :=
  sd_seq fun M Hb0 H0 Hb σ H D A m => h M Hb0 H0 Hb σ H D A ⟨fun σ' H' Hb' ds' rs' A' p => m.nx σ' H' Hb' ds' rs' A' (k ds' rs' p), m.rt, m.bk, m.ct⟩
theorem ec_sqi {i : Nat} {ns : List Int} (h : ds[i]? = some (.sqi ns)) : EvC K (tVar i) ds rs (.sqi ns) := fun Hb H σ S Q k => by
  obtain ⟨o, e, b, e2, r⟩ := S.var h
  exact ⟨.ref b, by rw [e, e2], k (.ref b) Hb H (Gr.refl S.sub) ⟨b, rfl, r⟩⟩
theorem ec_slS {tl th : TO} {ns : List Int} {lo hi : Option Int} (h : EvC K te ds rs (.sqi ns)) (h1 : EoD K tl ds rs lo) (h2 : EoD K th ds rs hi) : EvC K (tSl (rSlL K) te tl th) ds rs (.val (.list (DL.cutD (iL ns) lo hi))) := fun Hb H σ S Q k =>
  h Hb H σ S _ fun v Hb1 H1 g1 r1 => h1 Hb1 H1 σ (S.up g1) _ fun Hb2 H2 g2 => h2 Hb2 H2 σ (S.up (g1.trans g2)) _ fun Hb3 H3 g3 => by
    obtain ⟨b, e1, e2⟩ := r1
    have e3 := sqL_up (g3.sub) (sqL_up (g2.sup.trans g3.sup) e2)
    refine ⟨b, _, e1, e3, fun p hp => ?_⟩
    obtain ⟨g4, r4⟩ := new_lst g3.sub hp (cut_dr (DrAll.ints ns) lo hi)
    exact k _ _ _ (((g1.trans g2).trans g3).trans g4) r4
end
/-! ### the bag -/
abbrev bagX (ns : List Int) (i : Nat) (q b k : Int) : List PyData := [lstI ns, .int i, .int q, .int b, .int k]
def BagOk (xs : List PyData) : Prop := ∃ (ns : List Int) (i : Nat) (q b k : Int), xs = bagX ns i q b k ∧ 0 ≤ q ∧ 0 ≤ b
theorem cut_ints (ns : List Int) (lo hi : Option Int) : ∃ ms, DL.cutD (iL ns) lo hi = iL ms := by
  unfold DL.cutD
  exact ⟨_, by rw [drop_iL, take_iL]⟩

abbrev N_law_bag : List PySem.Str := ["_law_script", "_law_cells", "_law_blend", "_law_cell"]
theorem sc_law_bag : FnScope N_law_bag ["_law_script"] (defScope df_law_bag.st) := ⟨rfl, rfl, rfl, by decide +kernel, rfl, by decide +kernel, by decide +kernel⟩
abbrev W_law_bag : Wc := fun cs rs Post => ∃ ns, cs = [.sqi ns] ∧ rs = [] ∧ Post = fun c rs' => ∃ a xs, c = .raw (.ref a) ∧ rs' = [(a, .lst xs)] ∧ BagOk xs
theorem w_law_bag {P : Program} {w : World} {K : PySem.W.Frag} {mg : PySem.Str → Option Value} {base : Heap} (T : Tx K mg)   : C8.Cal P w K mg base 1 "_law_bag" (Fn K W_law_bag) [] := by
  refine cal_of (d := df_law_bag) (N := N_law_bag) (ps := ["_law_script"]) (n := 3) (T.d 29) rfl rfl (T.f (f := .glo "_law_bag") 29) sc_law_bag (fun _ _ _ _ _ _ us hl => match us, hl with | [_], _ => rfl) ?_ rfl fun cdv A outer s H E hr => ?_
  · intro cs rs Post h; obtain ⟨_, rfl, _⟩ := h; rfl
  have hu := hu_of hr
  have hu0 := hr.units0
  have hu64 := hr.units
  refine ⟨_, (pss_cons (ps_setLc (i := 1) (own := [("_law_cell", 3)]) (tt := tYes) rfl sc_law_bag.nd rfl rfl (sw_true rfl rfl rfl (by decide +kernel)) (pi_list (pe_slice (r := rSlL K) sl_list (pv 0) po_none (po_some pe_int))) (blkOk_by (N := N_law_bag) (sc := defScope df_law_bag.st) (by decide +kernel)) (fun _ _ _ _ _ => (pg_name (i := 3) sc_law_bag.nd rfl (Or.inl rfl))) (fun _ _ _ _ _ => pts_nil) (fun _ _ _ _ _ => (pe_callTy call_int1 (by rfl) (T.f (f := .free "int") 63) boot_int (pa_cons (pv 3) pa_nil))))
  (pss_cons (ps_set (i := 2) sc_law_bag.nd rfl (Or.inl rfl) pe_int)
  (pss_cons (ps_for PassesOwn.never rfl (pi_list (pv 1)) (pg_name (i := 3) sc_law_bag.nd rfl (Or.inl rfl))
  (pss_one (ps_set (i := 2) sc_law_bag.nd rfl (Or.inl rfl) (pe_op op_mod (pe_callTy call_int1 (by rfl) (T.f (f := .free "int") 63) boot_int (pa_cons (pe_op op_add (pe_op op_add (pe_op op_mul (pv 2) pe_int) (pe_op op_mod (pe_callTy call_int1 (by rfl) (T.f (f := .free "int") 63) boot_int (pa_cons (pv 3) pa_nil)) pe_int)) pe_int) pa_nil)) pe_int))))
  (pss_one (ps_ret (pe_lst (pa_cons (pv 1) (pa_cons pe_int (pa_cons pe_int (pa_cons (pv 2) (pa_cons pe_int pa_nil))))))))))), ?_⟩
  rintro cs rs Post ⟨ns, rfl, rfl, rfl⟩
  obtain ⟨ms, hms⟩ := cut_ints (ns.take 63) none none
  have hc : DL.cutD (iL ns) none (some 63) = iL (ns.take 63) := by
    unfold DL.cutD
    rw [HT.sIx_none, List.drop_zero, Nat.sub_zero]
    show List.take (min (63 : Int).toNat (iL ns).length) (iL ns) = _
    rw [← take_iL, ← List.take_take, List.take_length]
    rfl
  have h63 : (ns.take 63).length ≤ 63 := by rw [List.length_take]; omega
  refine sd_seq (sd_asg (c := .val (lstI (ns.take 63))) (ec_is (ec_lc (ns.take 63) PyData.int PyData.int (by omega) (it_is (it_list (ec_slS (ec_sqi rfl) eo_none (eo_some ec_int))) hc) fun x hx => ⟨_, gt_name, ec_cb (ea_cons (ec_val rfl) ea_nil) rc_int⟩) rfl) ?_)
  refine sd_seq (sd_asg ec_int ?_)
  refine sd_seq (sd_forA (ns.take 63) PyData.int (it_list (ec_val rfl)) (fun i ds rs => rs = [] ∧ ∃ u b, 0 ≤ b ∧ ds = [.sqi ns, .val (lstI (ns.take 63)), .val (.int b), u]) ⟨rfl, _, _, (by decide), rfl⟩ ?_ ?_)
  · rintro i x ds' rs' hx ⟨rfl, u, b, hb, rfl⟩
    refine ⟨_, gs_name, ?_⟩
    refine sd_asg (ec_op (ec_cb (ea_cons (ec_op (ec_op (ec_op (ec_val rfl) ec_int (rv_I (.inr ⟨by decide, by decide⟩))) (ec_op (ec_cb (ea_cons (ec_val rfl) ea_nil) rc_int) ec_int (rv_I (show (0 : Int) < 2147483399 by decide))) rv_I0) ec_int rv_I0) ea_nil) rc_int) ec_int (rv_I (show (0 : Int) < 2147483549 by decide))) ⟨rfl, _, _, ?_, rfl⟩
    exact Int.emod_nonneg _ (by decide)
  · rintro ds' rs' ⟨rfl, u, b, hb, rfl⟩
    refine sd_retM (em_lstF (eam_of (cs := [lstI (ns.take 63), .int 0, .int 0, .int b, .int 0].map Sc.val) (ea_cons (ec_val rfl) (ea_cons ec_int (ea_cons ec_int (ea_cons (ec_val rfl) (ea_cons ec_int ea_nil))))) ⟨_, rfl, by show 5 ≤ 100000; decide, fun a => ⟨a, _, rfl, rfl, ns.take 63, 0, 0, b, 0, rfl, Int.le_refl _, hb⟩⟩))
abbrev N_law_draw : List PySem.Str := ["_law_bag_here", "_law_many", "_law_cell", "_law_digit", "_law_blend"]
theorem sc_law_draw : FnScope N_law_draw ["_law_bag_here", "_law_many"] (defScope df_law_draw.st) := ⟨rfl, rfl, rfl, by decide +kernel, rfl, by decide +kernel, by decide +kernel⟩
abbrev W_law_draw : Wc := fun cs rs Post => ∃ a xs m, cs = [.raw (.ref a), .val (.int m)] ∧ rs = [(a, .lst xs)] ∧ (BagOk xs ∧ 0 < m ∧ m < 1000000) ∧ Post = fun c rs' => ∃ d ys, c = .val (.int d) ∧ 0 ≤ d ∧ d < m ∧ rs' = [(a, .lst ys)] ∧ BagOk ys
theorem w_law_draw {P : Program} {w : World} {K : PySem.W.Frag} {mg : PySem.Str → Option Value} {base : Heap} (T : Tx K mg)   : C8.Cal P w K mg base 1 "_law_draw" (Fn K W_law_draw) [] := by
  refine cal_of (d := df_law_draw) (N := N_law_draw) (ps := ["_law_bag_here", "_law_many"]) (n := 3) (T.d 30) rfl rfl (T.f (f := .glo "_law_draw") 30) sc_law_draw (fun _ _ _ _ _ _ us hl => match us, hl with | [_, _], _ => rfl) ?_ rfl fun cdv A outer s H E hr => ?_
  · intro cs rs Post h; obtain ⟨_, _, _, rfl, _⟩ := h; rfl
  have hu := hu_of hr
  have hu0 := hr.units0
  have hu64 := hr.units
  refine ⟨_, (pss_cons (ps_if (PW.pt (pw_and (pt_cmpR op_eq (pe_ix (r := rIxL K) ix_list (pv 0) pe_int (fun _ _ => rfl)) pe_int (nomark _)) (pw_and1 (pt_cmpR op_lt (pe_ix (r := rIxL K) ix_list (pv 0) pe_int (fun _ _ => rfl)) (pe_callB call_len_seq (by rfl) (T.f (f := .free "len") 51) boot_len (pa_cons (pe_ix (r := rIxL K) ix_list (pv 0) pe_int (fun _ _ => rfl)) pa_nil)) (nomark _)))))
  (pss_cons (ps_set (i := 2) sc_law_draw.nd rfl (Or.inl rfl) (pe_ix (r := rIxL K) ix_list (pe_ix (r := rIxL K) ix_list (pv 0) pe_int (fun _ _ => rfl)) (pe_ix (r := rIxL K) ix_list (pv 0) pe_int (fun _ _ => rfl)) (fun _ _ => rfl)))
  (pss_cons (ps_asg (pe_op op_add (pe_ix (r := rIxL K) ix_list (pv 0) pe_int (fun _ _ => rfl)) pe_int) (pg_sub (pv 0) pe_int set_list))
  (pss_one (ps_if (pt_cmpR op_ge (pe_callB call_abs (by rfl) (T.f (f := .free "abs") 61) boot_abs (pa_cons (pv 2) pa_nil)) (pe_op op_pow pe_int pe_int) (nomark _))
  (pss_one (ps_asg (pe_callB call_abs (by rfl) (T.f (f := .free "abs") 61) boot_abs (pa_cons (pv 2) pa_nil)) (pg_sub (pv 0) pe_int set_list))) (pss_one (ps_asg (pe_op op_mod (pe_callTy call_int1 (by rfl) (T.f (f := .free "int") 63) boot_int (pa_cons (pe_op op_add (pe_op op_add (pe_op op_mul (pe_ix (r := rIxL K) ix_list (pv 0) pe_int (fun _ _ => rfl)) pe_int) (pe_op op_mod (pe_callTy call_int1 (by rfl) (T.f (f := .free "int") 63) boot_int (pa_cons (pv 2) pa_nil)) pe_int)) pe_int) pa_nil)) pe_int) (pg_sub (pv 0) pe_int set_list))))))) pss_nil)
  (pss_cons (ps_if (pt_cmpR op_gt (pe_ix (r := rIxL K) ix_list (pv 0) pe_int (fun _ _ => rfl)) pe_int (nomark _))
  (pss_cons (ps_set (i := 3) sc_law_draw.nd rfl (Or.inl rfl) (pe_op op_mod (pe_callTy call_int1 (by rfl) (T.f (f := .free "int") 63) boot_int (pa_cons (pe_ix (r := rIxL K) ix_list (pv 0) pe_int (fun _ _ => rfl)) pa_nil)) (pv 1)))
  (pss_cons (ps_asg (pe_op op_fdiv (pe_callTy call_int1 (by rfl) (T.f (f := .free "int") 63) boot_int (pa_cons (pe_ix (r := rIxL K) ix_list (pv 0) pe_int (fun _ _ => rfl)) pa_nil)) (pv 1)) (pg_sub (pv 0) pe_int set_list))
  (pss_one (ps_ret (pv 3))))) pss_nil)
  (pss_cons (ps_asg (pe_op op_add (pe_ix (r := rIxL K) ix_list (pv 0) pe_int (fun _ _ => rfl)) pe_int) (pg_sub (pv 0) pe_int set_list))
  (pss_cons (ps_set (i := 4) sc_law_draw.nd rfl (Or.inl rfl) (pe_op op_mod (pe_callTy call_int1 (by rfl) (T.f (f := .free "int") 63) boot_int (pa_cons (pe_op op_add (pe_ix (r := rIxL K) ix_list (pv 0) pe_int (fun _ _ => rfl)) (pe_op op_mul (pe_ix (r := rIxL K) ix_list (pv 0) pe_int (fun _ _ => rfl)) pe_int)) pa_nil)) pe_int))
  (pss_cons (ps_asg (pe_op op_mod (pe_callTy call_int1 (by rfl) (T.f (f := .free "int") 63) boot_int (pa_cons (pe_op op_add (pe_op op_add (pe_op op_pow (pv 4) pe_int) (pe_op op_mul pe_int (pv 4))) pe_int) pa_nil)) pe_int) (pg_sub (pv 0) pe_int set_list))
  (pss_one (ps_ret (pe_op op_mod (pe_callTy call_int1 (by rfl) (T.f (f := .free "int") 63) boot_int (pa_cons (pe_op op_add (pe_op op_fdiv (pe_ix (r := rIxL K) ix_list (pv 0) pe_int (fun _ _ => rfl)) pe_int) (pe_op op_mul (pe_op op_mod (pe_callTy call_int1 (by rfl) (T.f (f := .free "int") 63) boot_int (pa_cons (pe_ix (r := rIxL K) ix_list (pv 0) pe_int (fun _ _ => rfl)) pa_nil)) pe_int) pe_int)) pa_nil)) (pv 1))))))))), ?_⟩
  rintro cs rs Post ⟨a, xs, m, rfl, rfl, ⟨⟨ns, i, q, b, k, rfl, hq, hb⟩, hm0, hm1⟩, rfl⟩
  refine sd_mid (fun ds rs => ∃ u ns i q b k, ds = [.raw (.ref a), .val (.int m), u, .un, .un] ∧ rs = [(a, .lst (bagX ns i q b k))] ∧ 0 ≤ q ∧ 0 ≤ b) ?_ ?_
  · refine sd_if (et_and (et_test (ec_op (ec_ixO (ec_raw rfl) List.mem_cons_self ec_int rfl) ec_int rv_eqI)) fun _ => et_test (ec_op (ec_ixO (ec_raw rfl) List.mem_cons_self ec_int rfl) (ec_is (ec_cb (ea_cons (ec_ixO (ec_raw rfl) List.mem_cons_self ec_int rfl) ea_nil) rc_lenL) (by rw [len_iL])) rv_B0)) (fun h => ?_) fun _ => sd_next ⟨_, ns, i, q, b, k, rfl, rfl, hq, hb⟩
    have hlt : i < ns.length := by
      have := (Bool.and_eq_true_iff.mp h).2
      simpa using this
    refine sd_seq (sd_asg (c := .val (.int (ns.getD i 0))) (ec_op (ec_ixO (ec_raw rfl) List.mem_cons_self ec_int rfl) (ec_ixO (ec_raw rfl) List.mem_cons_self ec_int rfl) (rv_ixL (at_mapI (j := i) 0 rfl hlt))) ?_)
    refine sd_seq (sd_setO (em_of (ec_op (ec_ixO (ec_raw rfl) List.mem_cons_self ec_int rfl) ec_int rv_I0) ⟨_, a, bagX ns i q b k, 1, 1, [], rfl, ec_raw rfl, ec_int, List.Perm.refl _, rfl, ?_⟩))
    show SdC K _ _ [(a, .lst (bagX ns (i + 1) q b k))] _
    generalize ns.getD i 0 = x
    generalize i + 1 = i
    refine sd_if (et_test (ec_op (ec_cb (ea_cons (ec_val rfl) ea_nil) rc_abs) (ec_op ec_int ec_int (rv_I ⟨by decide, by decide, by decide⟩)) rv_B0)) (fun _ => ?_) fun _ => ?_
    · refine sd_setO (em_of (ec_cb (ea_cons (ec_val rfl) ea_nil) rc_abs) ⟨_, a, bagX ns i q b k, 2, 2, [], rfl, ec_raw rfl, ec_int, List.Perm.refl _, rfl, ?_⟩)
      refine ⟨_, ns, i, (if x < 0 then -x else x), b, k, rfl, rfl, ?_, hb⟩
      split <;> omega
    · refine sd_setO (em_of (ec_op (ec_cb (ea_cons (ec_op (ec_op (ec_op (ec_ixO (ec_raw rfl) List.mem_cons_self ec_int rfl) ec_int (rv_I (.inr ⟨by decide, by decide⟩))) (ec_op (ec_cb (ea_cons (ec_val rfl) ea_nil) rc_int) ec_int (rv_I (show (0 : Int) < 2147483477 by decide))) rv_I0) ec_int rv_I0) ea_nil) rc_int) ec_int (rv_I (show (0 : Int) < 2147483549 by decide))) ⟨_, a, bagX ns i q b k, 3, 3, [], rfl, ec_raw rfl, ec_int, List.Perm.refl _, rfl, ?_⟩)
      exact ⟨_, ns, i, q, _, k, rfl, rfl, hq, Int.emod_nonneg _ (by decide)⟩
  · rintro ds' rs' ⟨u, ns, i, q, b, k, rfl, rfl, hq, hb⟩
    refine sd_seq (sd_if (et_test (ec_op (ec_ixO (ec_raw rfl) List.mem_cons_self ec_int rfl) ec_int rv_B0)) (fun h => ?_) fun _ => sd_next ?_)
    · refine sd_seq (sd_asg (ec_op (ec_cb (ea_cons (ec_ixO (ec_raw rfl) List.mem_cons_self ec_int rfl) ea_nil) rc_int) (ec_val rfl) (rv_I (show (0 : Int) < m from hm0))) ?_)
      refine sd_seq (sd_setO (em_of (ec_op (ec_cb (ea_cons (ec_ixO (ec_raw rfl) List.mem_cons_self ec_int rfl) ea_nil) rc_int) (ec_val rfl) (rv_I ⟨hm0, by omega⟩)) ⟨_, a, bagX ns i q b k, 2, 2, [], rfl, ec_raw rfl, ec_int, List.Perm.refl _, rfl, ?_⟩))
      refine sd_ret (ec_val rfl) ⟨_, _, rfl, Int.emod_nonneg _ (by omega), Int.emod_lt_of_pos _ hm0, rfl, ns, i, q / m, b, k, rfl, Int.ediv_nonneg hq (by omega), hb⟩
    · refine sd_seq (sd_setO (em_of (ec_op (ec_ixO (ec_raw rfl) List.mem_cons_self ec_int rfl) ec_int rv_I0) ⟨_, a, bagX ns i q b k, 4, 4, [], rfl, ec_raw rfl, ec_int, List.Perm.refl _, rfl, ?_⟩))
      show SdC K _ _ [(a, .lst (bagX ns i q b (k + 1)))] _
      generalize k + 1 = k
      refine sd_seq (sd_asg (ec_op (ec_cb (ea_cons (ec_op (ec_ixO (ec_raw rfl) List.mem_cons_self ec_int rfl) (ec_op (ec_ixO (ec_raw rfl) List.mem_cons_self ec_int rfl) ec_int (rv_I (.inr ⟨by decide, by decide⟩))) rv_I0) ea_nil) rc_int) ec_int (rv_I (show (0 : Int) < 2147483563 by decide))) ?_)
      have hz0 := Int.emod_nonneg (b + k * 9239) (show (2147483563 : Int) ≠ 0 by decide)
      have hz1 := Int.emod_lt_of_pos (b + k * 9239) (show (0 : Int) < 2147483563 by decide)
      generalize (b + k * 9239) % 2147483563 = z at hz0 hz1 ⊢
      refine sd_seq (sd_setO (em_of (ec_op (ec_cb (ea_cons (ec_op (ec_op (ec_op (ec_val rfl) ec_int (rv_I ⟨by decide, by decide, by omega⟩)) (ec_op ec_int (ec_val rfl) (rv_I (.inl ⟨by decide, by decide⟩))) rv_I0) ec_int rv_I0) ea_nil) rc_int) ec_int (rv_I (show (0 : Int) < 2147483563 by decide))) ⟨_, a, bagX ns i q b k, 3, 3, [], rfl, ec_raw rfl, ec_int, List.Perm.refl _, rfl, ?_⟩))
      have hy0 := Int.emod_nonneg (z ^ (3 : Int).toNat + 52369 * z + 3307) (show (2147483563 : Int) ≠ 0 by decide)
      show SdC K _ _ [(a, .lst (bagX ns i q ((z ^ (3 : Int).toNat + 52369 * z + 3307) % 2147483563) k))] _
      generalize (z ^ (3 : Int).toNat + 52369 * z + 3307) % 2147483563 = y at hy0 ⊢
      refine sd_ret (ec_op (ec_cb (ea_cons (ec_op (ec_op (ec_ixO (ec_raw rfl) List.mem_cons_self ec_int rfl) ec_int (rv_I ⟨by decide, by decide⟩)) (ec_op (ec_op (ec_cb (ea_cons (ec_ixO (ec_raw rfl) List.mem_cons_self ec_int rfl) ea_nil) rc_int) ec_int (rv_I (show (0 : Int) < 8009 by decide))) ec_int (rv_I (.inr ⟨by decide, by decide⟩))) rv_I0) ea_nil) rc_int) (ec_val rfl) (rv_I (show (0 : Int) < m from hm0))) ⟨_, _, rfl, Int.emod_nonneg _ (by omega), Int.emod_lt_of_pos _ hm0, rfl, ns, i, q, y, k, rfl, hq, hy0⟩
theorem em_draw {K : PySem.W.Frag} {ds : Scs} {rs rsF : Rss} {ta : TA} {a : Addr} {xs : List PyData} {m : Int} {E : XK} {PP : Sc → Rss → Prop} (h : EaC K ta ds rs [.raw (.ref a), .val (.int m)]) (p : rs.Perm ((a, .lst xs) :: rsF)) (hx : BagOk xs) (h0 : 0 < m) (h1 : m < 1000000) (k : ∀ d ys, 0 ≤ d → d < m → BagOk ys → PP (.val (.int d)) ((a, .lst ys) :: rsF)) : EvM K (tCall (Fn K W_law_draw) [] E ta) ds rs PP :=
  em_call (eam_of h ⟨[(a, .lst xs)], rsF, _, p, ⟨a, xs, m, rfl, rfl, ⟨hx, h0, h1⟩, rfl⟩, fun c rs' ⟨d, ys, e, h2, h3, e2, h4⟩ => by subst e; subst e2; exact k d ys h2 h3 h4⟩)
abbrev N_law_of : List PySem.Str := ["_law_bag_here", "_law_some"]
theorem sc_law_of : FnScope N_law_of ["_law_bag_here", "_law_some"] (defScope df_law_of.st) := ⟨rfl, rfl, rfl, by decide +kernel, rfl, by decide +kernel, by decide +kernel⟩
abbrev W_law_of : Wc := fun cs rs Post => ∃ a xs ns, cs = [.raw (.ref a), .val (lstI ns)] ∧ rs = [(a, .lst xs)] ∧ (BagOk xs ∧ 0 < ns.length ∧ ns.length < 1000) ∧ Post = fun c rs' => ∃ d ys, c = .val (.int d) ∧ d ∈ ns ∧ rs' = [(a, .lst ys)] ∧ BagOk ys
theorem w_law_of {P : Program} {w : World} {K : PySem.W.Frag} {mg : PySem.Str → Option Value} {base : Heap} (T : Tx K mg) (c_law_draw : C8.Cal P w K mg base 1 "_law_draw" (Fn K W_law_draw) [])  : C8.Cal P w K mg base 2 "_law_of" (Fn K W_law_of) [] := by
  refine cal_of (d := df_law_of) (N := N_law_of) (ps := ["_law_bag_here", "_law_some"]) (n := 0) (T.d 31) rfl rfl (T.f (f := .glo "_law_of") 31) sc_law_of (fun _ _ _ _ _ _ us hl => match us, hl with | [_, _], _ => rfl) ?_ rfl fun cdv A outer s H E hr => ?_
  · intro cs rs Post h; obtain ⟨_, _, _, rfl, _⟩ := h; rfl
  have hu := hu_of hr
  have hu0 := hr.units0
  have hu64 := hr.units
  refine ⟨_, (pss_one (ps_ret (pe_ix (r := rIxL K) ix_list (pv 1) (C8.pe_c c_law_draw hr (by decide) rfl (pa_cons (pv 0) (pa_cons (pe_callB call_len_seq (by rfl) (T.f (f := .free "len") 51) boot_len (pa_cons (pv 1) pa_nil)) pa_nil))) (fun _ _ => rfl)))), ?_⟩
  rintro cs rs Post ⟨a, xs, ns, rfl, rfl, ⟨hx, hn0, hn1⟩, rfl⟩
  refine sd_retM (em_op (em_of (c := .val (lstI ns)) (ec_val rfl) (em_draw (m := ns.length) (xs := xs) (rsF := []) (ea_cons (ec_raw rfl) (ea_cons (ec_is (ec_cb (ea_cons (ec_val rfl) ea_nil) rc_lenL) (by rw [len_iL])) ea_nil)) (List.Perm.refl _) hx (by omega) (by omega) fun d ys h0 h1 hy => ?_)))
  have hj : d.toNat < ns.length := by omega
  exact ⟨_, rv_ixL (at_mapI (j := d.toNat) 0 (by omega) hj), _, ys, rfl, FTM.getD_mem hj, rfl, hy⟩
theorem em_of_ {K : PySem.W.Frag} {ds : Scs} {rs rsF : Rss} {ta : TA} {a : Addr} {xs : List PyData} {ns : List Int} {E : XK} {PP : Sc → Rss → Prop} (h : EaC K ta ds rs [.raw (.ref a), .val (lstI ns)]) (p : rs.Perm ((a, .lst xs) :: rsF)) (hx : BagOk xs) (h0 : 0 < ns.length) (h1 : ns.length < 1000) (k : ∀ d ys, d ∈ ns → BagOk ys → PP (.val (.int d)) ((a, .lst ys) :: rsF)) : EvM K (tCall (Fn K W_law_of) [] E ta) ds rs PP :=
  em_call (eam_of h ⟨[(a, .lst xs)], rsF, _, p, ⟨a, xs, ns, rfl, rfl, ⟨hx, h0, h1⟩, rfl⟩, fun c rs' ⟨d, ys, e, h2, e2, h4⟩ => by subst e; subst e2; exact k d ys h2 h4⟩)
abbrev N_law_prime : List PySem.Str := ["_law_bag_here"]
theorem sc_law_prime : FnScope N_law_prime ["_law_bag_here"] (defScope df_law_prime.st) := ⟨rfl, rfl, rfl, by decide +kernel, rfl, by decide +kernel, by decide +kernel⟩
abbrev W_law_prime : Wc := fun cs rs Post => ∃ a xs, cs = [.raw (.ref a)] ∧ rs = [(a, .lst xs)] ∧ BagOk xs ∧ Post = fun c rs' => ∃ d ys, c = .val (.int d) ∧ d ∈ primes ∧ rs' = [(a, .lst ys)] ∧ BagOk ys
theorem w_law_prime {P : Program} {w : World} {K : PySem.W.Frag} {mg : PySem.Str → Option Value} {base : Heap} (T : Tx K mg) (c_law_of : C8.Cal P w K mg base 2 "_law_of" (Fn K W_law_of) [])  : C8.Cal P w K mg base 3 "_law_prime" (Fn K W_law_prime) [] := by
  refine cal_of (d := df_law_prime) (N := N_law_prime) (ps := ["_law_bag_here"]) (n := 0) (T.d 33) rfl rfl (T.f (f := .glo "_law_prime") 33) sc_law_prime (fun _ _ _ _ _ _ us hl => match us, hl with | [_], _ => rfl) ?_ rfl fun cdv A outer s H E hr => ?_
  · intro cs rs Post h; obtain ⟨_, _, rfl, _⟩ := h; rfl
  have hu := hu_of hr
  have hu0 := hr.units0
  have hu64 := hr.units
  refine ⟨_, (pss_one (ps_ret (C8.pe_c c_law_of hr (by decide) rfl (pa_cons (pv 0) (pa_cons (pe_lst (pa_cons pe_int (pa_cons pe_int (pa_cons pe_int (pa_cons pe_int (pa_cons pe_int (pa_cons pe_int (pa_cons pe_int (pa_cons pe_int (pa_cons pe_int (pa_cons pe_int (pa_cons pe_int (pa_cons pe_int (pa_cons pe_int (pa_cons pe_int (pa_cons pe_int pa_nil)))))))))))))))) pa_nil))))), ?_⟩
  rintro cs rs Post ⟨a, xs, rfl, rfl, hx, rfl⟩
  have hall : ∀ d ∈ ([2, 3, 5, 7, 11, 13, 3, 5, 7, 2, 5, 97, 3, 31, 5] : List Int), d ∈ primes := by decide
  refine sd_retM (em_of_ (xs := xs) (rsF := []) (ns := [2, 3, 5, 7, 11, 13, 3, 5, 7, 2, 5, 97, 3, 31, 5]) (ea_cons (ec_raw rfl) (ea_cons (ec_lst (xs := iL [2, 3, 5, 7, 11, 13, 3, 5, 7, 2, 5, 97, 3, 31, 5]) (ea_cons ec_int (ea_cons ec_int (ea_cons ec_int (ea_cons ec_int (ea_cons ec_int (ea_cons ec_int (ea_cons ec_int (ea_cons ec_int (ea_cons ec_int (ea_cons ec_int (ea_cons ec_int (ea_cons ec_int (ea_cons ec_int (ea_cons ec_int (ea_cons ec_int ea_nil))))))))))))))) (by decide)) ea_nil)) (List.Perm.refl _) hx (by decide) (by decide) fun d ys hd hy => ⟨d, ys, rfl, hall d hd, rfl, hy⟩)
end FT
set_option maxHeartbeats 2000000
namespace FT
open PySem PySem.Spec PyProof.Rows L2 DL FTM
abbrev rLen (K : PySem.W.Frag) : List V → Hp → VK → Prop := fun xs H Q => ∃ p ys, xs = [.ref p] ∧ (SqL K H p ys ∨ SqT K H p ys) ∧ Q (.int ys.length) H
def ColOk (p : Int) (l : Nat) (v : List Int) : Prop := v.length = l ∧ ∀ x ∈ v, 0 ≤ x ∧ x < p
theorem etm_and {K : PySem.W.Frag} {ds : Scs} {rs : Rss} {t u : TT} {PP : Bool → Rss → Prop} (h : EtM K t ds rs fun b rs1 => (b = true → EtM K u ds rs1 PP) ∧ (b = false → PP false rs1)) : EtM K (tAnd t u) ds rs PP := fun M Hb0 H0 Hb σ H Q A k =>
  h M Hb0 H0 Hb σ H _ A fun b Hb1 H1 rs1 A1 p => by
    cases b with
    | true =>
      rw [if_pos rfl]
      exact p.1 rfl M Hb0 H0 Hb1 σ H1 Q A1 k
    | false =>
      rw [if_neg Bool.false_ne_true]
      exact k false Hb1 H1 rs1 A1 (p.2 rfl)
theorem etm_or {K : PySem.W.Frag} {ds : Scs} {rs : Rss} {t u : TT} {PP : Bool → Rss → Prop} (h : EtM K t ds rs fun b rs1 => (b = false → EtM K u ds rs1 PP) ∧ (b = true → PP true rs1)) : EtM K (tOr t u) ds rs PP := fun M Hb0 H0 Hb σ H Q A k =>
  h M Hb0 H0 Hb σ H _ A fun b Hb1 H1 rs1 A1 p => by
    cases b with
    | false =>
      rw [if_neg Bool.false_ne_true]
      exact p.1 rfl M Hb0 H0 Hb1 σ H1 Q A1 k
    | true =>
      rw [if_pos rfl]
      exact k true Hb1 H1 rs1 A1 (p.2 rfl)

abbrev N_law_column : List PySem.Str := ["_law_bag_here", "_law_p", "_law_wide", "_law_c"]
theorem sc_law_column : FnScope N_law_column ["_law_bag_here", "_law_p", "_law_wide"] (defScope df_law_column.st) := ⟨rfl, rfl, rfl, by decide +kernel, rfl, by decide +kernel, by decide +kernel⟩
abbrev W_law_column : Wc := fun cs rs Post => ∃ a xs p l, cs = [.raw (.ref a), .val (.int p), .val (.int (l : Nat))] ∧ rs = [(a, .lst xs)] ∧ (BagOk xs ∧ 0 < p ∧ p < 1000 ∧ l ≤ 100) ∧ Post = fun c rs' => ∃ v ys, c = .val (tupI v) ∧ ColOk p l v ∧ rs' = [(a, .lst ys)] ∧ BagOk ys
theorem w_law_column {P : Program} {w : World} {K : PySem.W.Frag} {mg : PySem.Str → Option Value} {base : Heap} (T : Tx K mg) (c_law_draw : C8.Cal P w K mg base 1 "_law_draw" (Fn K W_law_draw) [])  : C8.Cal P w K mg base 2 "_law_column" (Fn K W_law_column) [] := by
  refine cal_of (d := df_law_column) (N := N_law_column) (ps := ["_law_bag_here", "_law_p", "_law_wide"]) (n := 1) (T.d 35) rfl rfl (T.f (f := .glo "_law_column") 35) sc_law_column (fun _ _ _ _ _ _ us hl => match us, hl with | [_, _, _], _ => rfl) ?_ rfl fun cdv A outer s H E hr => ?_
  · intro cs rs Post h; obtain ⟨_, _, _, _, rfl, _⟩ := h; rfl
  have hu := hu_of hr
  have hu0 := hr.units0
  have hu64 := hr.units
  refine ⟨_, (pss_one (ps_ret (pe_callTy call_tuple_of (by rfl) (T.f (f := .free "tuple") 52) boot_tuple (pa_cons (pe_lc (own := [("_law_c", 3)]) (tt := tYes) rfl sc_law_column.nd (pi_range1 (by rfl) (T.f (f := .free "range") 53) (pa_cons (pv 2) pa_nil)) (blkOk_by (N := N_law_column) (sc := defScope df_law_column.st) (by decide +kernel)) (fun _ _ _ _ _ => (pg_name (i := 3) sc_law_column.nd rfl (Or.inl rfl))) (fun _ _ _ _ _ => pts_nil) (fun _ _ _ _ _ => (C8.pe_c c_law_draw hr (by decide) rfl (pa_cons (pv 0) (pa_cons (pv 1) pa_nil))))) pa_nil)))), ?_⟩
  rintro cs rs Post ⟨a, xs, p, l, rfl, rfl, ⟨hx, hp, hp1, hl⟩, rfl⟩
  refine sd_retM (em_cb (eam_cons (em_lcM (List.range l) (fun i => .int (i : Nat)) (by rw [List.length_range]; omega) (it_is (it_range1 (ea_cons (ec_val rfl) ea_nil) (by omega) (by omega)) (by rw [Int.toNat_natCast, range0]))
    (fun i acc rs' => ∃ v ys, acc = iL v ∧ (∀ x ∈ v, 0 ≤ x ∧ x < p) ∧ rs' = [(a, .lst ys)] ∧ BagOk ys) ⟨[], xs, rfl, (fun x hx => nomatch hx), rfl, hx⟩ ?_ ?_)))
  · rintro i j acc rs' hi hl2 ⟨v, ys, rfl, hv, rfl, hy⟩
    refine ⟨_, gt_name, em_draw (xs := ys) (rsF := []) (ea_cons (ec_raw rfl) (ea_cons (ec_val rfl) ea_nil)) (List.Perm.refl _) hy hp (by omega) fun d ys2 h0 h1 hy2 => ⟨_, rfl, v ++ [d], ys2, (app_iL v [d]), fun x hx2 => ?_, rfl, hy2⟩⟩
    rcases List.mem_append.mp hx2 with z | z
    · exact hv x z
    · rw [List.mem_singleton.mp z]; exact ⟨h0, h1⟩
  · rintro acc rs' hl2 ⟨v, ys, rfl, hv, rfl, hy⟩
    rw [len_iL, List.length_range] at hl2
    exact eam_nil ⟨_, rc_tupleL, v, ys, rfl, ⟨hl2, hv⟩, rfl, hy⟩
theorem em_column {K : PySem.W.Frag} {ds : Scs} {rs rsF : Rss} {ta : TA} {a : Addr} {xs : List PyData} {p : Int} {l : Nat} {E : XK} {PP : Sc → Rss → Prop} (h : EaC K ta ds rs [.raw (.ref a), .val (.int p), .val (.int (l : Nat))]) (pm : rs.Perm ((a, .lst xs) :: rsF)) (hx : BagOk xs) (h0 : 0 < p) (h1 : p < 1000) (hl : l ≤ 100) (k : ∀ v ys, ColOk p l v → BagOk ys → PP (.val (tupI v)) ((a, .lst ys) :: rsF)) : EvM K (tCall (Fn K W_law_column) [] E ta) ds rs PP :=
  em_call (eam_of h ⟨[(a, .lst xs)], rsF, _, pm, ⟨a, xs, p, l, rfl, rfl, ⟨hx, h0, h1, hl⟩, rfl⟩, fun c rs' ⟨d, ys, e, h2, e2, h4⟩ => by subst e; subst e2; exact k d ys h2 h4⟩)
abbrev N_law_tells : List PySem.Str := ["_law_p", "_law_cells", "_law_wide", "_law_some", "_law_many", "_law_c", "_law_k"]
theorem sc_law_tells : FnScope N_law_tells ["_law_p", "_law_cells", "_law_wide", "_law_some"] (defScope df_law_tells.st) := ⟨rfl, rfl, rfl, by decide +kernel, rfl, by decide +kernel, by decide +kernel⟩
abbrev W_law_tells : Wc := fun cs rs Post => ∃ p D l cols sm, cs = [.val (.int p), .raw (.ref D), .val (.int (l : Nat)), .val (tupI sm)] ∧ rs = [(D, .lst (cols.map tupI))] ∧ (0 < p ∧ p < 1000 ∧ ColsOk p l cols ∧ 1 ≤ sm.length ∧ sm.length ≤ cols.length + 1 ∧ cols.length ≤ 100 ∧ l ≤ 100 ∧ ∀ x ∈ sm, 0 ≤ x ∧ x < p) ∧ Post = fun c rs' => ∃ v, c = .val (tupI v) ∧ ColOk p l v ∧ rs' = [(D, .lst (cols.map tupI))]
theorem w_law_tells {P : Program} {w : World} {K : PySem.W.Frag} {mg : PySem.Str → Option Value} {base : Heap} (T : Tx K mg)   : C8.Cal P w K mg base 1 "_law_tells" (Fn K W_law_tells) [] := by
  refine cal_of (d := df_law_tells) (N := N_law_tells) (ps := ["_law_p", "_law_cells", "_law_wide", "_law_some"]) (n := 3) (T.d 37) rfl rfl (T.f (f := .glo "_law_tells") 37) sc_law_tells (fun _ _ _ _ _ _ us hl => match us, hl with | [_, _, _, _], _ => rfl) ?_ rfl fun cdv A outer s H E hr => ?_
  · intro cs rs Post h; obtain ⟨_, _, _, _, _, rfl, _⟩ := h; rfl
  have hu := hu_of hr
  have hu0 := hr.units0
  have hu64 := hr.units
  refine ⟨_, (pss_cons (ps_set (i := 4) sc_law_tells.nd rfl (Or.inr rfl) (pe_callB call_len_seq (by rfl) (T.f (f := .free "len") 51) boot_len (pa_cons (pv 1) pa_nil)))
  (pss_one (ps_ret (pe_callTy call_tuple_of (by rfl) (T.f (f := .free "tuple") 52) boot_tuple (pa_cons (pe_lc (own := [("_law_c", 5)]) (tt := tYes) rfl sc_law_tells.nd (pi_range1 (by rfl) (T.f (f := .free "range") 53) (pa_cons (pv 2) pa_nil)) (blkOk_by (N := N_law_tells) (sc := defScope df_law_tells.st) (by decide +kernel)) (fun _ _ _ _ _ => (pg_name (i := 5) sc_law_tells.nd rfl (Or.inr rfl))) (fun _ _ _ _ _ => pts_nil) (fun _ _ _ _ _ => (pe_op op_mod (pe_callTy call_int1 (by rfl) (T.f (f := .free "int") 63) boot_int (pa_cons (pe_un un_neg (pe_callB (r := rSum K) (cr_sum rfl) (by rfl) (T.f (f := .free "sum") 59) boot_sum (pa_cons (pe_lc (own := [("_law_k", 6)]) (tt := tYes) rfl sc_law_tells.nd (pi_range2 (by rfl) (T.f (f := .free "range") 53) (pa_cons pe_int (pa_cons (pe_callB (r := rLen K) call_len_seq (by rfl) (T.f (f := .free "len") 51) boot_len (pa_cons (pv 3) pa_nil)) pa_nil))) (blkOk_by (N := N_law_tells) (by rfl)) (fun _ _ _ _ _ => (pg_name (i := 6) sc_law_tells.nd rfl (Or.inl rfl))) (fun _ _ _ _ _ => pts_nil) (fun _ _ _ _ _ => (pe_op op_mul (pe_ix (r := rIxT K) ix_tup (pv 3) (pv 6) (fun _ _ => rfl)) (pe_ix (r := rIxT K) ix_tup (pe_ix (r := rIxL K) ix_list (pv 1) (pe_op op_sub (pv 4) (pv 6)) (fun _ _ => rfl)) (pv 5) (fun _ _ => rfl))))) pa_nil))) pa_nil)) (pv 0)))) pa_nil))))), ?_⟩
  rintro cs rs Post ⟨p, D, l, cols, sm, rfl, rfl, ⟨hp, hp1, hC, hs1, hs2, hc, hl, hsm⟩, rfl⟩
  refine sd_seq (sd_asg (c := .val (.int (cols.length : Nat))) (ec_is (ec_lenO (ea_cons (ec_raw rfl) ea_nil) List.mem_cons_self) (by rw [List.length_map])) ?_)
  let tf : Nat → Int := fun i => -(((List.range (sm.length - 1)).map fun b => sm.getD (b + 1) 0 * (cols.getD (cols.length - (b + 1)) []).getD i 0).sum) % p
  refine sd_ret (ec_cb (ea_cons (ec_is (ec_lc (List.range l) (fun i => .int (i : Nat)) (fun i => .int (tf i)) (by rw [List.length_range]; omega) (it_is (it_range1 (ea_cons (ec_val rfl) ea_nil) (by omega) (by omega)) (by rw [Int.toNat_natCast, range0])) fun i hi => ⟨_, gt_name, ?_⟩) (by rw [map_iL])) ea_nil) rc_tupleL) ⟨_, rfl, ⟨by rw [List.length_map, List.length_range], fun x hx => ?_⟩, rfl⟩
  · have hi := List.mem_range.mp hi
    refine ec_op (ec_cb (ea_cons (ec_un (ec_cb (ea_cons (ec_is (ec_lc (List.range (sm.length - 1)) (fun b => .int (1 + (b : Nat))) (fun b => .int (sm.getD (b + 1) 0 * (cols.getD (cols.length - (b + 1)) []).getD i 0)) (by rw [List.length_range]; omega) (it_is (it_range2 (ea_cons ec_int (ea_cons (ec_cb (ea_cons (ec_val rfl) ea_nil) rc_lenT) ea_nil)) (by rw [len_iL]; omega)) (by rw [len_iL, show ((sm.length : Int) - 1).toNat = sm.length - 1 by omega])) fun b hb => ⟨_, gt_name, ?_⟩) (by rw [map_iL])) ea_nil) rc_sum) ru_neg) ea_nil) rc_int) (ec_val rfl) (rv_I hp)
    have hb := List.mem_range.mp hb
    have hb1 : b + 1 < sm.length := by omega
    have hx := hsm _ (FTM.getD_mem (d := 0) hb1)
    have hcc := hC _ (FTM.getD_mem (d := []) (show cols.length - (b + 1) < cols.length by omega))
    exact ec_op (ec_op (ec_val rfl) (ec_val rfl) (rv_ixT (at_mapI (j := b + 1) 0 (by push_cast; omega) hb1))) (ec_op (ec_ixO (ec_raw rfl) List.mem_cons_self (ec_op (ec_val rfl) (ec_val rfl) rv_I0) (at_mapI (j := cols.length - (b + 1)) [] (by omega) (by omega))) (ec_val rfl) (rv_ixT (at_map (xs := cols.getD (cols.length - (b + 1)) []) (j := i) 0 (by rw [hcc.1]; exact hi)))) (rv_I (.inl ⟨by omega, by omega⟩))
  · obtain ⟨i, _, rfl⟩ := List.mem_map.mp hx
    exact ⟨Int.emod_nonneg _ (by omega), Int.emod_lt_of_pos _ hp⟩
abbrev N_law_ruled : List PySem.Str := ["_law_bag_here", "_law_p", "_law_wide", "_law_many", "_law_e", "_law_cells", "_law_some", "_law_n", "_law_at", "_law_c", "_law_new"]
theorem sc_law_ruled : FnScope N_law_ruled ["_law_bag_here", "_law_p", "_law_wide", "_law_many"] (defScope df_law_ruled.st) := ⟨rfl, rfl, rfl, by decide +kernel, rfl, by decide +kernel, by decide +kernel⟩
abbrev W_law_ruled : Wc := fun cs rs Post => ∃ a xs p l m, cs = [.raw (.ref a), .val (.int p), .val (.int (l : Nat)), .val (.int (m : Nat))] ∧ rs = [(a, .lst xs)] ∧ (BagOk xs ∧ 1 < p ∧ p < 1000 ∧ 1 ≤ l ∧ l ≤ 3 ∧ m ≤ 60) ∧ Post = fun c rs' => ∃ e cols ys, c = .val (.tuple [.int e, eCs cols]) ∧ ColsOk p l cols ∧ cols.length = m ∧ rs' = [(a, .lst ys)] ∧ BagOk ys
theorem w_law_ruled {P : Program} {w : World} {K : PySem.W.Frag} {mg : PySem.Str → Option Value} {base : Heap} (T : Tx K mg) (c_law_column : C8.Cal P w K mg base 2 "_law_column" (Fn K W_law_column) []) (c_law_draw : C8.Cal P w K mg base 1 "_law_draw" (Fn K W_law_draw) []) (c_law_tells : C8.Cal P w K mg base 1 "_law_tells" (Fn K W_law_tells) [])  : C8.Cal P w K mg base 3 "_law_ruled" (Fn K W_law_ruled) [] := by
  refine cal_of (d := df_law_ruled) (N := N_law_ruled) (ps := ["_law_bag_here", "_law_p", "_law_wide", "_law_many"]) (n := 7) (T.d 38) rfl rfl (T.f (f := .glo "_law_ruled") 38) sc_law_ruled (fun _ _ _ _ _ _ us hl => match us, hl with | [_, _, _, _], _ => rfl) ?_ rfl fun cdv A outer s H E hr => ?_
  · intro cs rs Post h; obtain ⟨_, _, _, _, _, rfl, _⟩ := h; rfl
  have hu := hu_of hr
  have hu0 := hr.units0
  have hu64 := hr.units
  refine ⟨_, (pss_cons (ps_par (i := 4) (j := 5) rfl sc_law_ruled.nd rfl rfl (by decide) rfl rfl (pa_cons (pe_callB (call_min2 rfl) (by rfl) (T.f (f := .free "min") 57) boot_min (pa_cons (pv 3) (pa_cons (C8.pe_c c_law_draw hr (by decide) rfl (pa_cons (pv 0) (pa_cons pe_int pa_nil))) pa_nil))) (pa_cons (pe_lst pa_nil) pa_nil)) rfl)
  (pss_cons (ps_set (i := 6) sc_law_ruled.nd rfl (Or.inl rfl) (pe_op op_catA (pe_tup (pa_cons pe_int pa_nil)) (C8.pe_c c_law_column hr (by decide) rfl (pa_cons (pv 0) (pa_cons (pv 1) (pa_cons (pv 4) pa_nil))))))
  (pss_cons (ps_for PassesOwn.never rfl (pi_range1 (by rfl) (T.f (f := .free "range") 53) (pa_cons (pv 3) pa_nil)) (pg_name (i := 7) sc_law_ruled.nd rfl (Or.inl rfl))
  (pss_one (ps_expr (pe_bm PySem.F.plainAttrs_list PySem.F.slot_list_append PySem.F.type_list_append mt_append (pv 5) (pa_cons (pe_ifExp (pt_cmpR op_lt (pv 7) (pv 4) (nomark _)) (C8.pe_c c_law_column hr (by decide) rfl (pa_cons (pv 0) (pa_cons (pv 1) (pa_cons (pv 2) pa_nil)))) (C8.pe_c c_law_tells hr (by decide) rfl (pa_cons (pv 1) (pa_cons (pv 5) (pa_cons (pv 2) (pa_cons (pv 6) pa_nil)))))) pa_nil)))))
  (pss_cons (ps_if (PW.pt (pw_and (pt_cmpR op_gt (pv 3) pe_int (nomark _)) (pw_and1 (pt_cmpR op_eq (C8.pe_c c_law_draw hr (by decide) rfl (pa_cons (pv 0) (pa_cons pe_int pa_nil))) pe_int (nomark _)))))
  (pss_cons (ps_par (i := 8) (j := 9) rfl sc_law_ruled.nd rfl rfl (by decide) rfl rfl (pa_cons (C8.pe_c c_law_draw hr (by decide) rfl (pa_cons (pv 0) (pa_cons (pv 3) pa_nil))) (pa_cons (C8.pe_c c_law_draw hr (by decide) rfl (pa_cons (pv 0) (pa_cons (pv 2) pa_nil))) pa_nil)) rfl)
  (pss_cons (ps_set (i := 10) sc_law_ruled.nd rfl (Or.inl rfl) (pe_op op_mod (pe_callTy call_int1 (by rfl) (T.f (f := .free "int") 63) boot_int (pa_cons (pe_op op_add (pe_op op_add (pe_ix (r := rIxT K) ix_tup (pe_ix (r := rIxL K) ix_list (pv 5) (pv 8) (fun _ _ => rfl)) (pv 9) (fun _ _ => rfl)) pe_int) (C8.pe_c c_law_draw hr (by decide) rfl (pa_cons (pv 0) (pa_cons (pe_op op_sub (pv 1) pe_int) pa_nil)))) pa_nil)) (pv 1)))
  (pss_cons (ps_asg (pe_op op_catA (pe_op op_catA (pe_slice (r := rSlA K) sl_tupA (pe_ix (r := rIxL K) ix_list (pv 5) (pv 8) (fun _ _ => rfl)) po_none (po_some (pv 9))) (pe_tup (pa_cons (pv 10) pa_nil))) (pe_slice (r := rSlA K) sl_tupA (pe_ix (r := rIxL K) ix_list (pv 5) (pv 8) (fun _ _ => rfl)) (po_some (pe_op op_add (pv 9) pe_int)) po_none)) (pg_sub (pv 5) (pv 8) set_list))
  (pss_one (ps_set (i := 4) sc_law_ruled.nd rfl (Or.inl rfl) (pv 3)))))) pss_nil)
  (pss_one (ps_ret (pe_tup (pa_cons (pv 4) (pa_cons (pv 5) pa_nil))))))))), ?_⟩
  rintro cs rs Post ⟨a, xs, p, l, m, rfl, rfl, ⟨hx, hp, hp1, hl1, hl3, hm⟩, rfl⟩
  refine sd_seq (sd_parM (eam_cons (em_cb (eam_cons (em_of (c := .val (.int (m : Nat))) (ec_val rfl) (eam_cons (em_draw (xs := xs) (rsF := []) (ea_cons (ec_raw rfl) (ea_cons ec_int ea_nil)) (List.Perm.refl _) hx (by decide) (by decide) fun d ys h0 h1 hy => eam_nil ⟨_, rc_min2, eam_cons (em_lstF (eam_nil ⟨[], rfl, by decide, fun D => eam_nil ⟨_, _, rfl, ?_⟩⟩))⟩)))))))
  obtain ⟨e, he⟩ : ∃ e : Nat, (if d < (m : Int) then d else (m : Int)) = e := ⟨(if d < (m : Int) then d else (m : Int)).toNat, by split <;> omega⟩
  have hem : e ≤ m := by split at he <;> omega
  rw [he]
  clear he h0 h1 hx
  refine sd_seq (sd_asgM (em_op (em_of (c := .val (tupI [1])) (ec_tup (xs := [.int 1]) (ea_cons ec_int ea_nil) (by decide)) (em_column (l := e) (p := p) (xs := ys) (rsF := [(D, .lst [])]) (ea_cons (ec_raw rfl) (ea_cons (ec_val rfl) (ea_cons (ec_val rfl) ea_nil))) (List.Perm.swap ..) hy (by omega) hp1 (by omega) fun v ys2 hv hy2 => ⟨_, rv_catT (xs := iL [1]) (ys := iL v) (by rw [len_iL, len_iL, hv.1]; simp; omega), ?_⟩))))
  rw [app_iL]
  obtain ⟨sm, hsm⟩ : ∃ sm : List Int, [1] ++ v = sm := ⟨_, rfl⟩
  have hs1 : sm.length = e + 1 := by rw [← hsm]; simp [hv.1]
  have hs2 : ∀ x ∈ sm, 0 ≤ x ∧ x < p := fun x hx => by
    rw [← hsm] at hx
    rcases List.mem_append.mp hx with z | z
    · rw [List.mem_singleton.mp z]; omega
    · exact hv.2 x z
  rw [hsm]
  clear hsm hv hy
  refine sd_perm (List.Perm.swap _ _ _) ?_
  refine sd_seq (sd_forA (List.range m) (fun i => .int (i : Nat)) (it_is (it_range1 (ea_cons (ec_val rfl) ea_nil) (by omega) (by omega)) (by rw [Int.toNat_natCast, range0]))
    (fun i ds rs => ∃ ys cols u, rs = [(D, .lst (cols.map tupI)), (a, .lst ys)] ∧ BagOk ys ∧ ColsOk p l cols ∧ cols.length = i ∧ ds = [.raw (.ref a), .val (.int p), .val (.int (l : Nat)), .val (.int (m : Nat)), .val (.int (e : Nat)), .raw (.ref D), .val (tupI sm), u, .un, .un, .un]) ?_ ?_ ?_)
  · exact ⟨ys2, [], _, rfl, hy2, (fun c hc => nomatch hc), rfl, rfl⟩
  · rintro i j ds' rs' hj ⟨ys, cols, u, rfl, hy, hC, hci, rfl⟩
    obtain ⟨hi, rfl⟩ := range_at hj
    refine ⟨_, gs_name, ?_⟩
    have fin : ∀ v ys, ColOk p l v → BagOk ys → ∃ ys_1 cols_1 u, ([(D, Rs.lst (cols.map tupI ++ [tupI v])), (a, .lst ys)] : Rss) = [(D, .lst (cols_1.map tupI)), (a, .lst ys_1)] ∧ BagOk ys_1 ∧ ColsOk p l cols_1 ∧ cols_1.length = i + 1 ∧ ([.raw (.ref a), .val (.int p), .val (.int (l : Nat)), .val (.int (m : Nat)), .val (.int (e : Nat)), .raw (.ref D), .val (tupI sm), .val (.int (i : Nat)), .un, .un, .un] : Scs) = [.raw (.ref a), .val (.int p), .val (.int (l : Nat)), .val (.int (m : Nat)), .val (.int (e : Nat)), .raw (.ref D), .val (tupI sm), u, .un, .un, .un] := fun v ys hv hy =>
      ⟨ys, cols ++ [v], _, by rw [List.map_append]; rfl, hy, fun c hc => (by
        rcases List.mem_append.mp hc with z | z
        · exact hC c z
        · rw [List.mem_singleton.mp z]; exact hv), by rw [List.length_append, hci]; rfl, rfl⟩
    refine sd_app (ec_raw rfl) List.mem_cons_self (eam_cons (em_if (etm_of (et_test (ec_op (ec_val rfl) (ec_val rfl) rv_B0)) ⟨fun h => ?_, fun h => ?_⟩)))
    · refine em_column (l := l) (p := p) (xs := ys) (rsF := [(D, .lst (cols.map tupI))]) (ea_cons (ec_raw rfl) (ea_cons (ec_val rfl) (ea_cons (ec_val rfl) ea_nil))) (List.Perm.swap ..) hy (by omega) hp1 (by omega) fun v ys2 hv hy2 => eam_nil ⟨_, _, [(a, .lst ys2)], rfl, List.Perm.swap .., by rw [List.length_map]; omega, fin v ys2 hv hy2⟩
    · have hei : e ≤ i := by
        have := of_decide_eq_false h
        omega
      refine em_call (eam_of (ea_cons (ec_val rfl) (ea_cons (ec_raw rfl) (ea_cons (ec_val rfl) (ea_cons (ec_val rfl) ea_nil)))) ⟨[(D, .lst (cols.map tupI))], [(a, .lst ys)], _, List.Perm.refl _, ⟨p, D, l, cols, sm, rfl, rfl, ⟨by omega, hp1, hC, by omega, by omega, by omega, by omega, hs2⟩, rfl⟩, ?_⟩)
      rintro c rs' ⟨v, rfl, hv, rfl⟩
      exact eam_nil ⟨_, _, [(a, .lst ys)], rfl, List.Perm.refl _, by rw [List.length_map]; omega, fin v ys hv hy⟩
  · rintro ds' rs' ⟨ys, cols, u, rfl, hy, hC, hci, rfl⟩
    rw [List.length_range] at hci
    refine sd_mid (fun ds rs => ∃ ys cols u u1 u2 u3 e, rs = [(D, .lst (cols.map tupI)), (a, .lst ys)] ∧ BagOk ys ∧ ColsOk p l cols ∧ cols.length = m ∧ ds = [.raw (.ref a), .val (.int p), .val (.int (l : Nat)), .val (.int (m : Nat)), .val (.int e), .raw (.ref D), .val (tupI sm), u, u1, u2, u3]) ?_ ?_
    · refine sd_ifM (etm_and (etm_of (et_test (ec_op (ec_val rfl) ec_int rv_B0)) ⟨fun h => etm_test (em_op (em_draw (xs := ys) (rsF := [(D, .lst (cols.map tupI))]) (ea_cons (ec_raw rfl) (ea_cons ec_int ea_nil)) (List.Perm.swap ..) hy (by decide) (by decide) fun d ys2 h0 h1 hy2 => em_of ec_int ⟨_, rv_eqI, _, rfl, fun _ => ?_, fun _ => sd_perm (List.Perm.swap _ _ _) (sd_next ⟨ys2, cols, _, _, _, _, _, rfl, hy2, hC, hci, rfl⟩)⟩)), fun h => ⟨fun z => Bool.noConfusion z, fun _ => sd_next ⟨ys, cols, _, _, _, _, _, rfl, hy, hC, hci, rfl⟩⟩⟩))
      · have hm0 : 0 < m := by
          have := of_decide_eq_true h
          omega
        refine sd_seq (sd_parM (eam_cons (em_draw (m := (m : Nat)) (xs := ys2) (rsF := [(D, .lst (cols.map tupI))]) (ea_cons (ec_raw rfl) (ea_cons (ec_val rfl) ea_nil)) (List.Perm.refl _) hy2 (by omega) (by omega) fun at_ ys3 ha0 ha1 hy3 => eam_cons (em_draw (m := (l : Nat)) (xs := ys3) (rsF := [(D, .lst (cols.map tupI))]) (ea_cons (ec_raw rfl) (ea_cons (ec_val rfl) ea_nil)) (List.Perm.refl _) hy3 (by omega) (by omega) fun cc ys4 hc0 hc1 hy4 => eam_nil ⟨_, _, rfl, ?_⟩))))
        have hat : at_.toNat < cols.length := by omega
        have hcol := hC _ (FTM.getD_mem (d := []) hat)
        have hcl : cc.toNat < (cols.getD at_.toNat []).length := by rw [hcol.1]; omega
        have hix : ∀ {rs2 : Rss}, atI (cols.map tupI) at_ = some (tupI (cols.getD at_.toNat [])) := fun {_} => at_mapI (j := at_.toNat) [] (by omega) hat
        refine sd_seq (sd_asgM (em_op (em_cb (eam_cons (em_op (em_of (c := .val (.int ((cols.getD at_.toNat []).getD cc.toNat 0 + 1))) (ec_op (ec_op (ec_ixO (ec_raw rfl) (List.mem_cons_of_mem _ List.mem_cons_self) (ec_val rfl) (hix (rs2 := []))) (ec_val rfl) (rv_ixT (at_mapI (j := cc.toNat) 0 (by omega) hcl))) ec_int rv_I0) (em_draw (m := p - 1) (xs := ys4) (rsF := [(D, .lst (cols.map tupI))]) (ea_cons (ec_raw rfl) (ea_cons (ec_op (ec_val rfl) ec_int rv_I0) ea_nil)) (List.Perm.refl _) hy4 (by omega) (by omega) fun nw ys5 hn0 hn1 hy5 => ⟨_, rv_I0, eam_nil ⟨_, rc_int, em_of (ec_val rfl) ⟨_, rv_I (show (0 : Int) < p by omega), ?_⟩⟩⟩)))))))
        have hz0 := Int.emod_nonneg ((cols.getD at_.toNat []).getD cc.toNat 0 + 1 + nw) (show p ≠ 0 by omega)
        have hz1 := Int.emod_lt_of_pos ((cols.getD at_.toNat []).getD cc.toNat 0 + 1 + nw) (show (0 : Int) < p by omega)
        generalize ((cols.getD at_.toNat []).getD cc.toNat 0 + 1 + nw) % p = z at hz0 hz1 ⊢
        have hcc : cc = ((cc.toNat : Nat) : Int) := by omega
        have k1 : DL.cutD (iL (cols.getD at_.toNat [])) none (some cc) = iL ((cols.getD at_.toNat []).take cc.toNat) := by rw [hcc, cut_to (by rw [len_iL]; omega), take_iL]; rfl
        have k2 : DL.cutD (iL (cols.getD at_.toNat [])) (some (cc + 1)) none = iL ((cols.getD at_.toNat []).drop (cc.toNat + 1)) := by rw [show cc + 1 = ((cc.toNat + 1 : Nat) : Int) by omega, cut_from, drop_iL]
        have q1 : ((cols.getD at_.toNat []).take cc.toNat).length ≤ 3 := by rw [List.length_take, hcol.1]; omega
        have q2 : ((cols.getD at_.toNat []).drop (cc.toNat + 1)).length ≤ 3 := by rw [List.length_drop, hcol.1]; omega
        refine sd_seq (sd_setO (em_of (c := .val (tupI ((cols.getD at_.toNat []).take cc.toNat ++ [z] ++ (cols.getD at_.toNat []).drop (cc.toNat + 1)))) (ec_is (ec_op (ec_op (ec_slT (ec_ixO (ec_raw rfl) (List.mem_cons_of_mem _ List.mem_cons_self) (ec_val rfl) (hix (rs2 := []))) eo_none (eo_some (ec_val rfl))) (ec_tup (xs := [.int z]) (ea_cons (ec_val rfl) ea_nil) (by show 1 ≤ 100000; decide)) (rv_catT (by rw [k1, len_iL]; show _ + 1 ≤ _; omega))) (ec_slT (ec_ixO (ec_raw rfl) (List.mem_cons_of_mem _ List.mem_cons_self) (ec_val rfl) (hix (rs2 := []))) (eo_some (ec_op (ec_val rfl) ec_int rv_I0)) eo_none) (rv_catT (by rw [k1, k2, List.length_append, len_iL, len_iL]; show _ + 1 + _ ≤ _; omega))) (by rw [k1, k2]; show Sc.val (.tuple (iL _ ++ iL [z] ++ iL _)) = _; rw [app_iL, app_iL])) ⟨_, D, cols.map tupI, at_, at_.toNat, [(a, .lst ys5)], rfl, ec_raw rfl, ec_val rfl, List.Perm.swap .., ixN_at (by omega) (by rw [List.length_map]; exact hat), ?_⟩))
        refine sd_asg (ec_val rfl) ⟨ys5, cols.set at_.toNat ((cols.getD at_.toNat []).take cc.toNat ++ [z] ++ (cols.getD at_.toNat []).drop (cc.toNat + 1)), _, _, _, _, _, by rw [List.map_set], hy5, fun c hc => ?_, by rw [List.length_set]; exact hci, rfl⟩
        rcases List.mem_or_eq_of_mem_set hc with q | q
        · exact hC c q
        · rw [q]
          refine ⟨by simp only [List.length_append, List.length_take, List.length_drop, List.length_singleton]; have := hcol.1; omega, fun x hx => ?_⟩
          rcases List.mem_append.mp hx with w | w
          · rcases List.mem_append.mp w with w | w
            · exact hcol.2 x (List.mem_of_mem_take w)
            · rw [List.mem_singleton.mp w]; exact ⟨hz0, hz1⟩
          · exact hcol.2 x (List.mem_of_mem_drop w)
    · rintro ds' rs' ⟨ys, cols, u, u1, u2, u3, e, rfl, hy, hC, hci, rfl⟩
      refine sd_freeze (i := 5) rfl (List.Perm.refl _) ?_
      exact sd_ret (ec_tup (xs := [.int e, eCs cols]) (ea_cons (ec_val rfl) (ea_cons (ec_val rfl) ea_nil)) (by show 2 ≤ 100000; decide)) ⟨e, cols, ys, rfl, hC, hci, rfl, hy⟩
abbrev N_law_columns : List PySem.Str := ["_law_bag_here", "_law_p", "_law_wide", "_law_many", "_law_how", "_law_at", "_law_n"]
theorem sc_law_columns : FnScope N_law_columns ["_law_bag_here", "_law_p", "_law_wide", "_law_many"] (defScope df_law_columns.st) := ⟨rfl, rfl, rfl, by decide +kernel, rfl, by decide +kernel, by decide +kernel⟩
abbrev W_law_columns : Wc := fun cs rs Post => ∃ a xs p l m, cs = [.raw (.ref a), .val (.int p), .val (.int (l : Nat)), .val (.int (m : Nat))] ∧ rs = [(a, .lst xs)] ∧ (BagOk xs ∧ 1 < p ∧ p < 1000 ∧ 1 ≤ l ∧ l ≤ 3 ∧ m ≤ 60) ∧ Post = fun c rs' => ∃ cols ys, c = .val (eCs cols) ∧ ColsOk p l cols ∧ cols.length = m ∧ rs' = [(a, .lst ys)] ∧ BagOk ys
theorem w_law_columns {P : Program} {w : World} {K : PySem.W.Frag} {mg : PySem.Str → Option Value} {base : Heap} (T : Tx K mg) (c_law_draw : C8.Cal P w K mg base 1 "_law_draw" (Fn K W_law_draw) []) (c_law_ruled : C8.Cal P w K mg base 3 "_law_ruled" (Fn K W_law_ruled) []) (c_law_column : C8.Cal P w K mg base 2 "_law_column" (Fn K W_law_column) [])  : C8.Cal P w K mg base 4 "_law_columns" (Fn K W_law_columns) [] := by
  refine cal_of (d := df_law_columns) (N := N_law_columns) (ps := ["_law_bag_here", "_law_p", "_law_wide", "_law_many"]) (n := 3) (T.d 42) rfl rfl (T.f (f := .glo "_law_columns") 42) sc_law_columns (fun _ _ _ _ _ _ us hl => match us, hl with | [_, _, _, _], _ => rfl) ?_ rfl fun cdv A outer s H E hr => ?_
  · intro cs rs Post h; obtain ⟨_, _, _, _, _, rfl, _⟩ := h; rfl
  have hu := hu_of hr
  have hu0 := hr.units0
  have hu64 := hr.units
  refine ⟨_, (pss_cons (ps_set (i := 4) sc_law_columns.nd rfl (Or.inl rfl) (C8.pe_c c_law_draw hr (by decide) rfl (pa_cons (pv 0) (pa_cons pe_int pa_nil))))
  (pss_cons (ps_if (pt_cmpR op_lt (pv 4) pe_int (nomark _))
  (pss_one (ps_ret (pe_ix (r := rIxT K) ix_tup (C8.pe_c c_law_ruled hr (by decide) rfl (pa_cons (pv 0) (pa_cons (pv 1) (pa_cons (pv 2) (pa_cons (pv 3) pa_nil))))) pe_int (fun _ _ => rfl)))) pss_nil)
  (pss_cons (ps_set (i := 5) sc_law_columns.nd rfl (Or.inl rfl) (pe_ifExp (pt_cmpR op_eq (pv 4) pe_int (nomark _)) (C8.pe_c c_law_draw hr (by decide) rfl (pa_cons (pv 0) (pa_cons (pe_op op_add (pv 3) pe_int) pa_nil))) pe_int))
  (pss_one (ps_ret (pe_op op_cat (pe_op op_rep (pe_lst (pa_cons (pe_op DLX.op_rep1 (pe_tup (pa_cons pe_int pa_nil)) (pv 2)) pa_nil)) (pv 5)) (pe_lc (own := [("_law_n", 6)]) (tt := tYes) rfl sc_law_columns.nd (pi_range1 (by rfl) (T.f (f := .free "range") 53) (pa_cons (pe_op op_sub (pv 3) (pv 5)) pa_nil)) (blkOk_by (N := N_law_columns) (sc := defScope df_law_columns.st) (by decide +kernel)) (fun _ _ _ _ _ => (pg_name (i := 6) sc_law_columns.nd rfl (Or.inl rfl))) (fun _ _ _ _ _ => pts_nil) (fun _ _ _ _ _ => (C8.pe_c c_law_column hr (by decide) rfl (pa_cons (pv 0) (pa_cons (pv 1) (pa_cons (pv 2) pa_nil)))))))))))), ?_⟩
  rintro cs rs Post ⟨a, xs, p, l, m, rfl, rfl, ⟨hx, hp, hp1, hl1, hl3, hm⟩, rfl⟩
  refine sd_seq (sd_asgM (em_draw (xs := xs) (rsF := []) (ea_cons (ec_raw rfl) (ea_cons ec_int ea_nil)) (List.Perm.refl _) hx (by decide) (by decide) fun how ys h0 h1 hy => ?_))
  refine sd_seq (sd_if (et_test (ec_op (ec_val rfl) ec_int rv_B0)) (fun _ => ?_) fun _ => sd_next ?_)
  · refine sd_retM (em_op (em_call (eam_of (ea_cons (ec_raw rfl) (ea_cons (ec_val rfl) (ea_cons (ec_val rfl) (ea_cons (ec_val rfl) ea_nil)))) ⟨[(a, .lst ys)], [], _, List.Perm.refl _, ⟨a, ys, p, l, m, rfl, rfl, ⟨hy, hp, hp1, hl1, hl3, hm⟩, rfl⟩, ?_⟩)))
    rintro c rs' ⟨e, cols, zs, rfl, hC, hcl, rfl, hz⟩
    exact em_of ec_int ⟨_, rv_ixT (d := eCs cols) rfl, cols, zs, rfl, hC, hcl, rfl, hz⟩
  · refine sd_mid (fun ds rs => ∃ ys at_ u, at_ ≤ m ∧ rs = [(a, .lst ys)] ∧ BagOk ys ∧ ds = [.raw (.ref a), .val (.int p), .val (.int (l : Nat)), .val (.int (m : Nat)), .val (.int how), .val (.int (at_ : Nat)), u]) ?_ ?_
    · refine sd_asgM (em_if (etm_of (et_test (ec_op (ec_val rfl) ec_int rv_eqI)) ⟨fun _ => em_draw (m := (m : Int) + 1) (xs := ys) (rsF := []) (ea_cons (ec_raw rfl) (ea_cons (ec_op (ec_val rfl) ec_int rv_I0) ea_nil)) (List.Perm.refl _) hy (by omega) (by omega) fun d ys2 h0 h1 hy2 => ?_, fun _ => em_of ec_int ⟨ys, 0, _, Nat.zero_le _, rfl, hy, rfl⟩⟩))
      obtain ⟨n, rfl⟩ := Int.eq_ofNat_of_zero_le h0
      exact ⟨ys2, n, _, by omega, rfl, hy2, rfl⟩
    · rintro ds' rs' ⟨ys, at_, u, ha, rfl, hy, rfl⟩
      have e1 : (List.replicate (l : Int).toNat (PyData.int 0)) = iL (List.replicate l 0) := by rw [Int.toNat_natCast]; exact List.map_replicate.symm
      have e2 : (List.replicate (at_ : Int).toNat [tupI (List.replicate l 0)]).flatten = (List.replicate at_ (List.replicate l 0)).map tupI := by rw [Int.toNat_natCast, List.flatten_replicate_singleton, List.map_replicate]
      refine sd_retM (em_op (em_of (c := .val (eCs (List.replicate at_ (List.replicate l 0)))) (ec_is (ec_op (ec_lst (xs := [tupI (List.replicate l 0)]) (ea_cons (ec_is (ec_op (ec_tup (xs := [.int 0]) (ea_cons ec_int ea_nil) (by decide)) (ec_val rfl) (rv_repT (by omega) (by omega))) (by rw [e1])) ea_nil) (by show 1 ≤ 100000; decide)) (ec_val rfl) (rv_repL (by omega) (by omega) (by show 1 ≤ 10; decide))) (by rw [e2])) ?_))
      refine em_lcM (List.range (m - at_)) (fun i => .int (i : Nat)) (by rw [List.length_range]; omega) (it_is (it_range1 (ea_cons (ec_op (ec_val rfl) (ec_val rfl) rv_I0) ea_nil) (by omega) (by omega)) (by rw [show ((m : Int) - (at_ : Int)).toNat = m - at_ by omega, range0]))
        (fun i acc rs' => ∃ cols ys, acc = cols.map tupI ∧ ColsOk p l cols ∧ rs' = [(a, .lst ys)] ∧ BagOk ys) ⟨[], ys, rfl, (fun x hx => nomatch hx), rfl, hy⟩ ?_ ?_
      · rintro i j acc rs' hi hl2 ⟨cols, ys, rfl, hC, rfl, hy⟩
        refine ⟨_, gt_name, em_column (l := l) (p := p) (xs := ys) (rsF := []) (ea_cons (ec_raw rfl) (ea_cons (ec_val rfl) (ea_cons (ec_val rfl) ea_nil))) (List.Perm.refl _) hy (by omega) hp1 (by omega) fun v ys2 hv hy2 => ⟨_, rfl, cols ++ [v], ys2, by rw [List.map_append]; rfl, fun c hc => ?_, rfl, hy2⟩⟩
        rcases List.mem_append.mp hc with z | z
        · exact hC c z
        · rw [List.mem_singleton.mp z]; exact hv
      · rintro acc rs' hl2 ⟨cols, ys, rfl, hC, rfl, hy⟩
        rw [List.length_map, List.length_range] at hl2
        refine ⟨_, rv_catL (by rw [List.length_map, List.length_map, List.length_replicate]; omega), List.replicate at_ (List.replicate l 0) ++ cols, ys, by show _ = Sc.val (.list (List.map tupI (_ ++ _))); rw [List.map_append], fun c hc => ?_, by rw [List.length_append, List.length_replicate]; omega, rfl, hy⟩
        rcases List.mem_append.mp hc with z | z
        · rw [List.eq_of_mem_replicate z]
          exact ⟨List.length_replicate .., fun x hx => by rw [List.eq_of_mem_replicate hx]; omega⟩
        · exact hC c z
abbrev N_law_is_number : List PySem.Str := ["_law_v", "_law_least_here", "_law_high"]
theorem sc_law_is_number : FnScope N_law_is_number ["_law_v", "_law_least_here", "_law_high"] (defScope df_law_is_number.st) := ⟨rfl, rfl, rfl, by decide +kernel, rfl, by decide +kernel, by decide +kernel⟩
abbrev W_law_is_number : Wc := Pu fun xs d => ∃ (v lo hi : Int), xs = [.int v, .int lo, .int hi] ∧ d = .bool (decide (lo ≤ v) && decide (v ≤ hi))
theorem w_law_is_number {P : Program} {w : World} {K : PySem.W.Frag} {mg : PySem.Str → Option Value} {base : Heap} (T : Tx K mg)  : C8.Cal P w K mg base 1 "_law_is_number" (Fn K W_law_is_number) [] := by
  refine cal_of (d := df_law_is_number) (N := N_law_is_number) (ps := ["_law_v", "_law_least_here", "_law_high"]) (n := 0) (T.d 36) rfl rfl (T.f (f := .glo "_law_is_number") 36) sc_law_is_number (fun _ _ _ _ _ _ us hl => match us, hl with | [_, _, _], _ => rfl) ?_ rfl fun cdv A outer s H E hr => ?_
  · exact pu_len (fun xs d h => by obtain ⟨_, _, _, rfl, _⟩ := h; rfl)
  have hu := hu_of hr
  have hu0 := hr.units0
  have hu64 := hr.units
  refine ⟨_, (pss_one (ps_ret (pe_and (pe_callB call_isi (by rfl) (T.f (f := .free "isinstance") 49) boot_isinstance (pa_cons (pv 0) (pa_cons (pe_bltn (v := .ty "int") (by rfl) (T.f (f := .free "int") 63) boot_int rfl) pa_nil))) (pe_and (pe_not (pe_callB call_isi (by rfl) (T.f (f := .free "isinstance") 49) boot_isinstance (pa_cons (pv 0) (pa_cons (pe_bltn (v := .ty "bool") (by rfl) (T.f (f := .free "bool") 64) boot_bool rfl) pa_nil)))) (pe_and (pe_cmpR op_le (pv 1) (pv 0) (nomark _)) (pe_one (pe_cmpR op_le (pv 0) (pv 2) (nomark _)))))))), ?_⟩
  rintro cs rs Post ⟨rfl, xs, d, rfl, ⟨v, lo, hi, rfl, rfl⟩, rfl⟩
  exact sd_ret (ec_is (ec_andV (ec_isi (T := "int") (ec_val rfl) rfl) fun _ => ec_andV (ec_notV (ec_isi (T := "bool") (ec_val rfl) rfl)) fun _ => ec_andV (ec_op (ec_val rfl) (ec_val rfl) rv_B0) fun _ => ec_op (ec_val rfl) (ec_val rfl) rv_B0) rfl) ⟨rfl, rfl⟩
abbrev N_law_inverse : List PySem.Str := ["_law_p", "_law_v", "_law_k"]
theorem sc_law_inverse : FnScope N_law_inverse ["_law_p", "_law_v"] (defScope df_law_inverse.st) := ⟨rfl, rfl, rfl, by decide +kernel, rfl, by decide +kernel, by decide +kernel⟩
abbrev W_law_inverse : Wc := Pu fun xs d => ∃ (p v : Int), xs = [.int p, .int v] ∧ p ∈ primes ∧ 0 < v ∧ v < p ∧ d = .int (lawInv p v)
theorem w_law_inverse {P : Program} {w : World} {K : PySem.W.Frag} {mg : PySem.Str → Option Value} {base : Heap} (T : Tx K mg)  : C8.Cal P w K mg base 1 "_law_inverse" (Fn K W_law_inverse) [] := by
  refine cal_of (d := df_law_inverse) (N := N_law_inverse) (ps := ["_law_p", "_law_v"]) (n := 1) (T.d 34) rfl rfl (T.f (f := .glo "_law_inverse") 34) sc_law_inverse (fun _ _ _ _ _ _ us hl => match us, hl with | [_, _], _ => rfl) ?_ rfl fun cdv A outer s H E hr => ?_
  · exact pu_len (fun xs d h => by obtain ⟨_, _, rfl, _⟩ := h; rfl)
  have hu := hu_of hr
  have hu0 := hr.units0
  have hu64 := hr.units
  refine ⟨_, (pss_one (ps_ret (pe_ix (r := rIxL K) ix_list (pe_lc (own := [("_law_k", 2)])  rfl sc_law_inverse.nd (pi_range2 (by rfl) (T.f (f := .free "range") 53) (pa_cons pe_int (pa_cons (pv 0) pa_nil))) (blkOk_by (N := N_law_inverse) (sc := defScope df_law_inverse.st) (by decide +kernel)) (fun _ _ _ _ _ => (pg_name (i := 2) sc_law_inverse.nd rfl (Or.inl rfl))) (fun _ _ _ _ _ => (pts_one (pt_cmpR op_eq (pe_op op_mod (pe_callTy call_int1 (by rfl) (T.f (f := .free "int") 63) boot_int (pa_cons (pe_op op_mul (pv 1) (pv 2)) pa_nil)) (pv 0)) pe_int (nomark _)))) (fun _ _ _ _ _ => (pv 2))) pe_int (fun _ _ => rfl)))), ?_⟩
  rintro cs rs Post ⟨rfl, xs, d, rfl, ⟨p, v, rfl, hp, h0, h1, rfl⟩, rfl⟩
  have hp2 := prime_lt hp
  have hne := (lawInv_ok hp h0 h1).2
  refine sd_ret (ec_op (ec_lcF ((List.range (p - 1).toNat).map fun i => (1 : Int) + (i : Nat)) PyData.int (fun k => v * k % p == 1) PyData.int (by rw [List.length_map, List.length_range]; omega) (it_is (it_range2 (ea_cons ec_int (ea_cons (ec_val rfl) ea_nil)) (by omega)) (by rw [List.map_map]; rfl)) fun k hk => ⟨_, gt_name, et_is (et_test (ec_op (ec_op (ec_cb (ea_cons (ec_op (ec_val rfl) (ec_val rfl) (rv_I (.inl ⟨by omega, by omega⟩))) ea_nil) rc_int) (ec_val rfl) (rv_I (show (0 : Int) < p by omega))) ec_int rv_eqI)) rfl, fun _ => ec_val rfl⟩) ec_int (rv_ixL (d := .int (lawInv p v)) ?_)) ⟨rfl, rfl⟩
  unfold lawInv
  cases hz : ((List.range (p - 1).toNat).map fun i => (1 : Int) + (i : Nat)).filter fun k => v * k % p == 1 with
  | nil => exact absurd hz hne
  | cons z zs => exact at_map (j := 0) 0 (by rw [List.length_cons]; omega)
end FT
set_option maxHeartbeats 2000000
namespace FT
open PySem PySem.Spec PyProof.Rows L2 DL FTM
theorem fm_succ {α : Type} (g : α → Nat → Option α) (a : α) (i : Nat) : (List.range (i + 1)).foldlM g a = ((List.range i).foldlM g a).bind fun s => g s i := by
  rw [List.range_succ, List.foldlM_append]
  cases (List.range i).foldlM g a with
  | none => rfl
  | some s =>
    show (g s i >>= fun s => some s) = g s i
    cases g s i <;> rfl
theorem fm_none {α : Type} (g : α → Nat → Option α) (a : α) {i : Nat} (h : (List.range i).foldlM g a = none) : ∀ n, i ≤ n → (List.range n).foldlM g a = none := fun n hn => by
  induction n with
  | zero => rw [show i = 0 by omega] at h; exact h
  | succ n ih =>
    by_cases q : i = n + 1
    · rw [← q]; exact h
    · rw [fm_succ, ih (by omega)]; rfl
abbrev encF (f : Found) : List (Int × PyData) := f.map fun x => (x.1, lstI x.2)
theorem getD_encF (k : Int) : ∀ f : Found, getD_ (encF f) k = (f.lookup k).map lstI
  | [] => rfl
  | x :: f => by
    have ih := getD_encF k f
    show Option.map _ (List.find? _ ((x.1, lstI x.2) :: encF f)) = _
    rw [List.find?_cons, List.lookup_cons]
    by_cases h : x.1 = k
    · have e : (k == x.1) = true := by rw [h]; exact beq_self_eq_true k
      rw [e]
      simp only [h, decide_true, if_true]
      rfl
    · have e : (k == x.1) = false := by simpa using fun z => h z.symm
      rw [e]
      simp only [h, decide_false]
      exact ih
theorem em_dropR {K : PySem.W.Frag} {ds : Scs} {rs : Rss} {te : TE} {PP : Sc → Rss → Prop} (h : EvM K te ds rs fun c rs' => ∃ x rsF, rs' = x :: rsF ∧ PP c rsF) : EvM K te ds rs PP := fun M Hb0 H0 Hb σ H Q A k =>
  h M Hb0 H0 Hb σ H Q A fun v Hb' H' c rs' A' r ⟨x, rsF, e, p⟩ => by
    subst e
    exact k v Hb' H' c rsF A'.drop r p
theorem em_notN {K : PySem.W.Frag} {ds : Scs} {rs : Rss} {te : TE} {PP : Sc → Rss → Prop} (h : EvM K te ds rs fun c rs' => (∃ d, c = .val d ∧ PP (.val (.bool (!isNone d))) rs') ∨ ∃ a, c = .raw (.ref a) ∧ PP (.val (.bool true)) rs') : EvM K (tNotN te) ds rs PP := fun M Hb0 H0 Hb σ H Q A k =>
  h M Hb0 H0 Hb σ H _ A fun v Hb' H' c rs' A' r p => by
    rcases p with ⟨d, e, p⟩ | ⟨a, e, p⟩
    · subst e
      have e := isN_of r
      rw [e]
      exact k _ Hb' H' (.val (.bool _)) rs' A' (Dr.bl _) p
    · subst e
      have e : v = .ref a := r
      subst e
      exact k _ Hb' H' (.val (.bool _)) rs' A' (Dr.bl _) p
theorem foldl_succ {α : Type} (g : α → Nat → α) (a : α) (i : Nat) : (List.range (i + 1)).foldl g a = g ((List.range i).foldl g a) i := by
  rw [List.range_succ, List.foldl_append]; rfl
theorem revs (e : Nat) : ((List.range ((e : Int) + 1 - 1).toNat).map fun i => PyData.int (1 + ((((e : Int) + 1 - 1).toNat : Nat) : Int) - 1 - (i : Nat))) = (List.range e).map fun j => PyData.int ((e - j : Nat) : Int) := by
  rw [show ((e : Int) + 1 - 1).toNat = e by omega]
  refine List.map_congr_left fun i hi => ?_
  have := List.mem_range.mp hi
  congr 1
  omega

abbrev N_law_pivots : List PySem.Str := ["_law_p", "_law_cells", "_law_e", "_law_found", "_law_n", "_law_c", "_law_line", "_law_at", "_law_scale", "_law_old", "_law_k", "_law_v"]
theorem sc_law_pivots : FnScope N_law_pivots ["_law_p", "_law_cells", "_law_e"] (defScope df_law_pivots.st) := ⟨rfl, rfl, rfl, by decide +kernel, rfl, by decide +kernel, by decide +kernel⟩
abbrev W_law_pivots : Wc := fun cs rs Post => ∃ p l cols e, cs = [.val (.int p), .val (eCs cols), .val (.int (e : Nat))] ∧ rs = [] ∧ (p ∈ primes ∧ l ≤ 3 ∧ ColsOk p l cols ∧ e ≤ cols.length ∧ cols.length ≤ 60) ∧ Post = fun c rs' => ∃ D kvs, rs' = [(D, .dct kvs)] ∧ ((pivots p l cols e = none ∧ c = .val .none) ∨ ((pivots p l cols e).isSome = true ∧ c = .raw (.ref D)))
theorem w_law_pivots {P : Program} {w : World} {K : PySem.W.Frag} {mg : PySem.Str → Option Value} {base : Heap} (T : Tx K mg) (c_law_inverse : C8.Cal P w K mg base 1 "_law_inverse" (Fn K W_law_inverse) [])  : C8.Cal P w K mg base 2 "_law_pivots" (Fn K W_law_pivots) [] := by
  refine cal_of (d := df_law_pivots) (N := N_law_pivots) (ps := ["_law_p", "_law_cells", "_law_e"]) (n := 9) (T.d 39) rfl rfl (T.f (f := .glo "_law_pivots") 39) sc_law_pivots (fun _ _ _ _ _ _ us hl => match us, hl with | [_, _, _], _ => rfl) ?_ rfl fun cdv A outer s H E hr => ?_
  · intro cs rs Post h; obtain ⟨_, _, _, _, rfl, _⟩ := h; rfl
  have hu := hu_of hr
  have hu0 := hr.units0
  have hu64 := hr.units
  refine ⟨_, (pss_cons (ps_set (i := 3) sc_law_pivots.nd rfl (Or.inl rfl) pe_dnewK)
  (pss_cons (ps_for PassesOwn.never rfl (pi_range2 (by rfl) (T.f (f := .free "range") 53) (pa_cons (pv 2) (pa_cons (pe_callB call_len_seq (by rfl) (T.f (f := .free "len") 51) boot_len (pa_cons (pv 1) pa_nil)) pa_nil))) (pg_name (i := 4) sc_law_pivots.nd rfl (Or.inr rfl))
  (pss_one (ps_for PassesOwn.never rfl (pi_range1 (by rfl) (T.f (f := .free "range") 53) (pa_cons (pe_callB call_len_seq (by rfl) (T.f (f := .free "len") 51) boot_len (pa_cons (pe_ix (r := rIxL K) ix_list (pv 1) (pv 4) (fun _ _ => rfl)) pa_nil)) pa_nil)) (pg_name (i := 5) sc_law_pivots.nd rfl (Or.inr rfl))
  (pss_cons (ps_set (i := 6) sc_law_pivots.nd rfl (Or.inr rfl) (pe_lc (own := [("_law_k", 10)]) (tt := tYes) rfl sc_law_pivots.nd (pi_range1 (by rfl) (T.f (f := .free "range") 53) (pa_cons (pe_op op_add (pv 2) pe_int) pa_nil)) (blkOk_by (N := N_law_pivots) (sc := defScope df_law_pivots.st) (by decide +kernel)) (fun _ _ _ _ _ => (pg_name (i := 10) sc_law_pivots.nd rfl (Or.inl rfl))) (fun _ _ _ _ _ => pts_nil) (fun _ _ _ _ _ => (pe_ix (r := rIxT K) ix_tup (pe_ix (r := rIxL K) ix_list (pv 1) (pe_op op_sub (pv 4) (pv 10)) (fun _ _ => rfl)) (pv 5) (fun _ _ => rfl)))))
  (pss_cons (ps_for PassesOwn.never rfl (pi_revR (by rfl) (T.f (f := .free "reversed") 62) (prg_2 (by rfl) (T.f (f := .free "range") 53) pe_int (pe_op op_add (pv 2) pe_int))) (pg_name (i := 7) sc_law_pivots.nd rfl (Or.inl rfl))
  (pss_one (ps_if (PW.pt (pw_and (pt_cmpR op_ne (pe_ix (r := rIxL K) ix_list (pv 6) (pv 7) (fun _ _ => rfl)) pe_int (nomark _)) (pw_and1 (pt_cmp (pc_din hu (pv 7) (pv 3))))))
  (pss_cons (ps_asg (pe_tup (pa_cons (pe_ix (r := rIxL K) ix_list (pv 6) (pv 7) (fun _ _ => rfl)) (pa_cons (pe_dget hu (pv 3) (pv 7) (fun _ _ => rfl)) pa_nil))) (pg_tup rfl (pgs_cons (pg_name (i := 8) sc_law_pivots.nd rfl (Or.inr rfl)) (pgs_cons (pg_name (i := 9) sc_law_pivots.nd rfl (Or.inr rfl)) pgs_nil))))
  (pss_one (ps_set (i := 6) sc_law_pivots.nd rfl (Or.inr rfl) (pe_lc (own := [("_law_k", 10)]) (tt := tYes) rfl sc_law_pivots.nd (pi_range1 (by rfl) (T.f (f := .free "range") 53) (pa_cons (pe_op op_add (pv 2) pe_int) pa_nil)) (blkOk_by (N := N_law_pivots) (sc := defScope df_law_pivots.st) (by decide +kernel)) (fun _ _ _ _ _ => (pg_name (i := 10) sc_law_pivots.nd rfl (Or.inl rfl))) (fun _ _ _ _ _ => pts_nil) (fun _ _ _ _ _ => (pe_op op_mod (pe_callTy call_int1 (by rfl) (T.f (f := .free "int") 63) boot_int (pa_cons (pe_op op_sub (pe_ix (r := rIxL K) ix_list (pv 6) (pv 10) (fun _ _ => rfl)) (pe_op op_mul (pv 8) (pe_ix (r := rIxL K) ix_list (pv 9) (pv 10) (fun _ _ => rfl)))) pa_nil)) (pv 0))))))) (pss_one (ps_if (pt_cmpR op_ne (pe_ix (r := rIxL K) ix_list (pv 6) (pv 7) (fun _ _ => rfl)) pe_int (nomark _))
  (pss_cons (ps_set (i := 8) sc_law_pivots.nd rfl (Or.inr rfl) (C8.pe_c c_law_inverse hr (by decide) rfl (pa_cons (pv 0) (pa_cons (pe_ix (r := rIxL K) ix_list (pv 6) (pv 7) (fun _ _ => rfl)) pa_nil))))
  (pss_cons (ps_dput hu (pv 3) (pv 7) (pe_lc (own := [("_law_v", 11)]) (tt := tYes) rfl sc_law_pivots.nd (pi_list (pv 6)) (blkOk_by (N := N_law_pivots) (sc := defScope df_law_pivots.st) (by decide +kernel)) (fun _ _ _ _ _ => (pg_name (i := 11) sc_law_pivots.nd rfl (Or.inl rfl))) (fun _ _ _ _ _ => pts_nil) (fun _ _ _ _ _ => (pe_op op_mod (pe_callTy call_int1 (by rfl) (T.f (f := .free "int") 63) boot_int (pa_cons (pe_op op_mul (pv 11) (pv 8)) pa_nil)) (pv 0)))) rfl)
  (pss_one (ps_set (i := 6) sc_law_pivots.nd rfl (Or.inr rfl) (pe_lc (own := [("_law_v", 11)]) (tt := tYes) rfl sc_law_pivots.nd (pi_list (pv 6)) (blkOk_by (N := N_law_pivots) (sc := defScope df_law_pivots.st) (by decide +kernel)) (fun _ _ _ _ _ => (pg_name (i := 11) sc_law_pivots.nd rfl (Or.inl rfl))) (fun _ _ _ _ _ => pts_nil) (fun _ _ _ _ _ => pe_int)))))) pss_nil)))))
  (pss_one (ps_if (pt_cmpR op_ne (pe_ix (r := rIxL K) ix_list (pv 6) pe_int (fun _ _ => rfl)) pe_int (nomark _))
  (pss_one (ps_ret pe_non)) pss_nil)))))))
  (pss_one (ps_ret (pv 3))))), ?_⟩
  rintro cs rs Post ⟨p, l, cols, e, rfl, rfl, ⟨hp, hl3, hC, he, hcl⟩, rfl⟩
  have hp2 := prime_lt hp
  refine sd_seq (sd_asgM (em_dnew fun D => ?_))
  have fin : ∀ i f, i ≤ cols.length - e → (List.range i).foldlM (pivCol p l cols e) ([] : Found) = some f → FOk p e f → FOk p e f := fun _ _ _ _ h => h
  refine sd_seq (sd_forA (List.range (cols.length - e)) (fun i => .int ((e + i : Nat) : Int)) (it_is (it_range2 (ea_cons (ec_val rfl) (ea_cons (ec_cb (ea_cons (ec_val rfl) ea_nil) rc_lenL) ea_nil)) (by rw [len_map]; omega)) (by rw [len_map, show ((cols.length : Int) - (e : Int)).toNat = cols.length - e by omega]; rfl))
    (fun i ds rs => ∃ f u4 u5 u6 u7 u8 u9, (List.range i).foldlM (pivCol p l cols e) ([] : Found) = some f ∧ FOk p e f ∧ (∀ x ∈ f, x.2.length = e + 1) ∧ f.length ≤ 1000 * i ∧ rs = [(D, .dct (encF f))] ∧ ds = [.val (.int p), .val (eCs cols), .val (.int (e : Nat)), .raw (.ref D), u4, u5, u6, u7, u8, u9, .un, .un]) ?_ ?_ ?_)
  · exact ⟨[], _, _, _, _, _, _, rfl, ⟨by simp, fun x hx => by simp at hx⟩, (fun x hx => by simp at hx), by simp, rfl, rfl⟩
  · rintro i i' ds' rs' hi' ⟨f, u4, u5, u6, u7, u8, u9, hf, F, FL, hfl, rfl, rfl⟩
    obtain ⟨hi, rfl⟩ := range_at hi'
    refine ⟨_, gs_name, ?_⟩
    have hn : e + i < cols.length := by omega
    have hcn := hC _ (FTM.getD_mem (d := []) hn)
    refine sd_forA (List.range l) (fun c => .int (c : Nat)) (it_is (it_range1 (n := (l : Nat)) (ea_cons (ec_is (ec_cb (ea_cons (ec_op (ec_val rfl) (ec_val rfl) (rv_ixL (at_map (j := e + i) [] hn))) ea_nil) rc_lenT) (by rw [len_iL, hcn.1])) ea_nil) (by omega) (by omega)) (by rw [Int.toNat_natCast, range0]))
      (fun c ds rs => ∃ f' u5 u6 u7 u8 u9, (List.range c).foldlM (pivStep p cols e (e + i)) f = some f' ∧ FOk p e f' ∧ (∀ x ∈ f', x.2.length = e + 1) ∧ f'.length ≤ 1000 * i + 100 * c ∧ rs = [(D, .dct (encF f'))] ∧ ds = [.val (.int p), .val (eCs cols), .val (.int (e : Nat)), .raw (.ref D), .val (.int ((e + i : Nat) : Int)), u5, u6, u7, u8, u9, .un, .un]) ?_ ?_ ?_
    · exact ⟨f, _, _, _, _, _, rfl, F, FL, by omega, rfl, rfl⟩
    · rintro c c' ds' rs' hc' ⟨f', u5, u6, u7, u8, u9, hf', F', FL', hfl', rfl, rfl⟩
      obtain ⟨hc, rfl⟩ := range_at hc'
      refine ⟨_, gs_name, ?_⟩
      refine sd_seq (sd_asg (c := .val (lstI (lineOf cols e (e + i) c))) (ec_is (ec_lc (List.range (e + 1)) (fun k => .int (k : Nat)) (fun k => .int ((cols.getD (e + i - k) []).getD c 0)) (by rw [List.length_range]; omega) (it_is (it_range1 (ea_cons (ec_op (ec_val rfl) ec_int rv_I0) ea_nil) (by omega) (by omega)) (by rw [show ((e : Int) + 1).toNat = e + 1 by omega, range0])) fun k hk => ⟨_, gt_name, ?_⟩) (by rw [map_iL]; rfl)) ?_)
      · have hk := List.mem_range.mp hk
        have hck := hC _ (FTM.getD_mem (d := []) (show e + i - k < cols.length by omega))
        exact ec_op (ec_op (ec_val rfl) (ec_op (ec_val rfl) (ec_val rfl) rv_I0) (rv_ixL (at_mapI (j := e + i - k) [] (by omega) (by omega)))) (ec_val rfl) (rv_ixT (at_map (xs := cols.getD (e + i - k) []) (j := c) 0 (by rw [hck.1]; exact hc)))
      · have L0 := lineOf_ok (p := p) (e := e) hC hn hc
        refine sd_seq (sd_forA (List.range e) (fun j => .int ((e - j : Nat) : Int)) (it_is (it_rev2 ec_int (ec_op (ec_val rfl) ec_int rv_I0) (by omega)) (revs e))
          (fun j ds rs => ∃ s u7 u8 u9, s = (List.range j).foldl (fun s i => redStep p e s (e - i)) (f', lineOf cols e (e + i) c) ∧ RedOk p e (f', lineOf cols e (e + i) c) s (e - j) ∧ (∀ x ∈ s.1, x.2.length = e + 1) ∧ s.1.length ≤ 1000 * i + 100 * c + j ∧ rs = [(D, .dct (encF s.1))] ∧ ds = [.val (.int p), .val (eCs cols), .val (.int (e : Nat)), .raw (.ref D), .val (.int ((e + i : Nat) : Int)), .val (.int (c : Nat)), .val (lstI s.2), u7, u8, u9, .un, .un]) ?_ ?_ ?_)
        · exact ⟨(f', lineOf cols e (e + i) c), _, _, _, rfl, ⟨F', L0, fun k h1 h2 => by omega, fun q => Iff.rfl⟩, FL', hfl', rfl, rfl⟩
        · rintro j j' ds' rs' hj' ⟨s, u7, u8, u9, hs, R, SL, hsl, rfl, rfl⟩
          obtain ⟨hj, rfl⟩ := range_at hj'
          refine ⟨_, gs_name, ?_⟩
          have nxt : redStep p e s (e - j) = (List.range (j + 1)).foldl (fun s i => redStep p e s (e - i)) (f', lineOf cols e (e + i) c) := by rw [foldl_succ, ← hs]
          have R2 := redStep_ok hp (show 1 ≤ e - j by omega) (by omega) R
          rw [show e - j - 1 = e - (j + 1) by omega] at R2
          obtain ⟨fs, ln⟩ := s
          have Ll := R.line
          simp only at Ll SL hsl
          have hat : e - j < ln.length := by rw [Ll.1]; omega
          have hx := Ll.co (by omega) (e - j)
          have hix : atI (iL ln) (((e - j : Nat)) : Int) = some (.int (ln.getD (e - j) 0)) := at_map (j := e - j) 0 hat
          have hunf : redStep p e (fs, ln) (e - j) = if ln.getD (e - j) 0 ≠ 0 then match fs.lookup ((e - j : Nat) : Int) with
            | some old => (fs, (List.range (e + 1)).map fun k => (ln.getD k 0 - ln.getD (e - j) 0 * old.getD k 0) % p)
            | none => (fs ++ [(((e - j : Nat) : Int), ln.map fun v => v * lawInv p (ln.getD (e - j) 0) % p)], ln.map fun _ => 0)
            else (fs, ln) := rfl
          generalize hxx : ln.getD (e - j) 0 = x at hx hix hunf
          have hgd := getD_encF (((e - j : Nat)) : Int) fs
          refine sd_if (et_and (et_test (ec_op (ec_op (ec_val rfl) (ec_val rfl) (rv_ixL hix)) ec_int rv_neI)) fun _ => et_B (ec_din (ec_val rfl) (ec_raw rfl) List.mem_cons_self)) (fun h => ?_) fun h => ?_
          · have h := Bool.and_eq_true_iff.mp h
            have hx0 : x ≠ 0 := by simpa using h.1
            cases hlk : fs.lookup ((e - j : Nat) : Int) with
            | none => rw [hgd, hlk] at h; exact absurd h.2 (by simp)
            | some old =>
              rw [hlk] at hgd hunf
              rw [if_pos hx0] at hunf
              simp only at hunf
              have hol := SL _ (lookup_mem hlk)
              simp only at hol
              refine sd_seq (sd_asgT (em_of (ec_tup (xs := [.int x, lstI old]) (ea_cons (ec_op (ec_val rfl) (ec_val rfl) (rv_ixL hix)) (ea_cons (ec_dget (ec_raw rfl) List.mem_cons_self (ec_val rfl) hgd) ea_nil)) (by show 2 ≤ 100000; decide)) ⟨_, gs_tup2 gs_name gs_name, ?_⟩))
              refine sd_asg (c := .val (lstI ((List.range (e + 1)).map fun k => (ln.getD k 0 - x * old.getD k 0) % p))) (ec_is (ec_lc (List.range (e + 1)) (fun k => .int (k : Nat)) (fun k => .int ((ln.getD k 0 - x * old.getD k 0) % p)) (by rw [List.length_range]; omega) (it_is (it_range1 (ea_cons (ec_op (ec_val rfl) ec_int rv_I0) ea_nil) (by omega) (by omega)) (by rw [show ((e : Int) + 1).toNat = e + 1 by omega, range0])) fun k hk => ⟨_, gt_name, ?_⟩) (by rw [map_iL])) ?_
              · have hk := List.mem_range.mp hk
                exact ec_op (ec_cb (ea_cons (ec_op (ec_op (ec_val rfl) (ec_val rfl) (rv_ixL (at_map (j := k) 0 (by rw [Ll.1]; exact hk)))) (ec_op (ec_val rfl) (ec_op (ec_val rfl) (ec_val rfl) (rv_ixL (at_map (j := k) 0 (by rw [hol]; exact hk)))) (rv_I (.inl ⟨by omega, by omega⟩))) rv_I0) ea_nil) rc_int) (ec_val rfl) (rv_I (show (0 : Int) < p by omega))
              · refine ⟨redStep p e (fs, ln) (e - j), .val (.int ((e - j : Nat) : Int)), .val (.int x), .val (lstI old), nxt, R2, ?_, ?_, ?_, ?_⟩
                · rw [hunf]; exact SL
                · rw [hunf]; show fs.length ≤ _; omega
                · rw [hunf]
                · rw [hunf]; rfl
          · refine sd_if (et_test (ec_op (ec_op (ec_val rfl) (ec_val rfl) (rv_ixL hix)) ec_int rv_neI)) (fun h2 => ?_) fun h2 => sd_next ?_
            · have hx0 : x ≠ 0 := by simpa using h2
              rw [if_pos hx0] at hunf
              cases hlk : fs.lookup ((e - j : Nat) : Int) with
              | some old => rw [hgd, hlk] at h; rw [h2] at h; exact absurd h (by simp)
              | none =>
                rw [hlk] at hgd hunf
                simp only at hunf
                refine sd_seq (sd_asg (ec_call (d := .int (lawInv p x)) (xs := [.int p, .int x]) (ea_cons (ec_val rfl) (ea_cons (ec_op (ec_val rfl) (ec_val rfl) (rv_ixL hix)) ea_nil)) ⟨p, x, rfl, hp, by omega, hx.2, rfl⟩) ?_)
                refine sd_seq (sd_dput (d := lstI (ln.map fun v => v * lawInv p x % p)) (ec_is (ec_lc ln PyData.int (fun v => .int (v * lawInv p x % p)) (by rw [Ll.1]; omega) (it_list (ec_val rfl)) fun v hv => ⟨_, gt_name, ?_⟩) (by rw [map_iL])) (ec_raw rfl) (ec_val rfl) (List.Perm.refl _) hgd (show (encF fs).length < 100000 by rw [List.length_map]; omega) ?_)
                · have hv := Ll.2 v hv
                  exact ec_op (ec_cb (ea_cons (ec_op (ec_val rfl) (ec_val rfl) (rv_I (.inl ⟨by omega, by omega⟩))) ea_nil) rc_int) (ec_val rfl) (rv_I (show (0 : Int) < p by omega))
                · refine sd_asg (c := .val (lstI (ln.map fun _ => 0))) (ec_is (ec_lc ln PyData.int (fun v => .int 0) (by rw [Ll.1]; omega) (it_list (ec_val rfl)) fun v hv => ⟨_, gt_name, ec_int⟩) (by rw [map_iL])) ⟨redStep p e (fs, ln) (e - j), .val (.int ((e - j : Nat) : Int)), .val (.int (lawInv p x)), u9, nxt, R2, ?_, ?_, ?_, ?_⟩
                  · rw [hunf]
                    intro y hy
                    rcases List.mem_append.mp hy with z | z
                    · exact SL y z
                    · rw [List.mem_singleton.mp z]
                      show (ln.map _).length = _
                      rw [List.length_map, Ll.1]
                  · rw [hunf]; show (fs ++ _).length ≤ _; rw [List.length_append, List.length_singleton]; omega
                  · rw [hunf]
                    show _ = [(D, Rs.dct (List.map _ (fs ++ _)))]
                    rw [List.map_append]
                    rfl
                  · rw [hunf]; rfl
            · have hx0 : x = 0 := by simpa using h2
              rw [if_neg (by simpa using hx0)] at hunf
              refine ⟨redStep p e (fs, ln) (e - j), .val (.int ((e - j : Nat) : Int)), u8, u9, nxt, R2, ?_, ?_, ?_, ?_⟩
              · rw [hunf]; exact SL
              · rw [hunf]; show fs.length ≤ _; omega
              · rw [hunf]
              · rw [hunf]; rfl
        · rintro ds' rs' ⟨s, u7, u8, u9, hs, R, SL, hsl, rfl, rfl⟩
          rw [List.length_range] at hs R hsl
          have hs : s = redLine p e (f', lineOf cols e (e + i) c) := hs
          have Ll := R.line
          refine sd_if (et_test (ec_op (ec_op (ec_val rfl) ec_int (rv_ixL (at_map (xs := s.2) (j := 0) 0 (by rw [Ll.1]; omega)))) ec_int rv_neI)) (fun h => ?_) fun h => sd_next ?_
          · have h0 : s.2.getD 0 0 ≠ 0 := by simpa using h
            refine sd_ret ec_non ⟨D, _, rfl, .inl ⟨?_, rfl⟩⟩
            have k1 : pivStep p cols e (e + i) f' c = none := by unfold pivStep; rw [← hs, if_pos h0]
            have k2 : (List.range (c + 1)).foldlM (pivStep p cols e (e + i)) f = none := by rw [fm_succ, hf']; exact k1
            have k3 : pivCol p l cols e f i = none := fm_none _ _ k2 l (by omega)
            have k4 : (List.range (i + 1)).foldlM (pivCol p l cols e) ([] : Found) = none := by rw [fm_succ, hf]; exact k3
            exact fm_none _ _ k4 _ (by omega)
          · have h0 : ¬ s.2.getD 0 0 ≠ 0 := by simpa using h
            have k1 : pivStep p cols e (e + i) f' c = some s.1 := by unfold pivStep; rw [← hs, if_neg h0]
            refine ⟨s.1, _, _, _, _, _, by rw [fm_succ, hf']; exact k1, R.f, SL, by omega, rfl, rfl⟩
    · rintro ds' rs' ⟨f', u5, u6, u7, u8, u9, hf', F', FL', hfl', rfl, rfl⟩
      rw [List.length_range] at hf' hfl'
      exact ⟨f', _, _, _, _, _, _, by rw [fm_succ, hf]; exact hf', F', FL', by omega, rfl, rfl⟩
  · rintro ds' rs' ⟨f, u4, u5, u6, u7, u8, u9, hf, F, FL, hfl, rfl, rfl⟩
    rw [List.length_range] at hf
    refine sd_ret (ec_raw rfl) ⟨D, _, rfl, .inr ⟨?_, rfl⟩⟩
    show (Option.isSome ((List.range (cols.length - e)).foldlM (pivCol p l cols e) [])) = true
    rw [hf]; rfl
abbrev N_law_least : List PySem.Str := ["_law_p", "_law_cells", "_law_e"]
theorem sc_law_least : FnScope N_law_least ["_law_p", "_law_cells"] (defScope df_law_least.st) := ⟨rfl, rfl, rfl, by decide +kernel, rfl, by decide +kernel, by decide +kernel⟩
abbrev W_law_least : Wc := Pu fun xs d => ∃ (p : Int) (l : Nat) (cols : List (List Int)), xs = [.int p, eCs cols] ∧ p ∈ primes ∧ l ≤ 3 ∧ ColsOk p l cols ∧ cols.length ≤ 60 ∧ d = .int (lawLeast p l cols : Nat)
theorem w_law_least {P : Program} {w : World} {K : PySem.W.Frag} {mg : PySem.Str → Option Value} {base : Heap} (T : Tx K mg) (c_law_pivots : C8.Cal P w K mg base 2 "_law_pivots" (Fn K W_law_pivots) []) : C8.Cal P w K mg base 3 "_law_least" (Fn K W_law_least) [] := by
  refine cal_of (d := df_law_least) (N := N_law_least) (ps := ["_law_p", "_law_cells"]) (n := 1) (T.d 40) rfl rfl (T.f (f := .glo "_law_least") 40) sc_law_least (fun _ _ _ _ _ _ us hl => match us, hl with | [_, _], _ => rfl) ?_ rfl fun cdv A outer s H E hr => ?_
  · exact pu_len (fun xs d h => by obtain ⟨_, _, _, rfl, _⟩ := h; rfl)
  have hu := hu_of hr
  have hu0 := hr.units0
  have hu64 := hr.units
  refine ⟨_, (pss_cons (ps_for PassesOwn.never rfl (pi_range1 (by rfl) (T.f (f := .free "range") 53) (pa_cons (pe_callB call_len_seq (by rfl) (T.f (f := .free "len") 51) boot_len (pa_cons (pv 1) pa_nil)) pa_nil)) (pg_name (i := 2) sc_law_least.nd rfl (Or.inl rfl))
  (pss_one (ps_if (pt_cmp (pc_notN (C8.pe_c c_law_pivots hr (by decide) rfl (pa_cons (pv 0) (pa_cons (pv 1) (pa_cons (pv 2) pa_nil))))))
  (pss_one (ps_ret (pv 2))) pss_nil)))
  (pss_one (ps_ret (pe_callB call_len_seq (by rfl) (T.f (f := .free "len") 51) boot_len (pa_cons (pv 1) pa_nil))))), ?_⟩
  rintro cs rs Post ⟨rfl, xs, d, rfl, ⟨p, l, cols, rfl, hp, hl, hC, hcl, rfl⟩, rfl⟩
  refine sd_seq (sd_forA (List.range cols.length) (fun i => .int (i : Nat)) (it_is (it_range1 (ea_cons (ec_is (ec_cb (ea_cons (ec_val rfl) ea_nil) rc_lenL) (by rw [len_map])) ea_nil) (by omega) (by omega)) (by rw [Int.toNat_natCast, range0]))
    (fun i ds rs => ∃ u, rs = [] ∧ (∀ j, j < i → (pivots p l cols j).isSome = false) ∧ ds = [.val (.int p), .val (eCs cols), u]) ⟨_, rfl, (fun j hj => absurd hj (Nat.not_lt_zero j)), rfl⟩ ?_ ?_)
  · rintro i i' ds' rs' hi' ⟨u, rfl, hj, rfl⟩
    obtain ⟨hi, rfl⟩ := range_at hi'
    refine ⟨_, gs_name, sd_ifM (etm_B (em_notN (em_dropR (em_call (eam_of (ea_cons (ec_val rfl) (ea_cons (ec_val rfl) (ea_cons (ec_val rfl) ea_nil))) ⟨[], [], _, List.Perm.refl _, ⟨p, l, cols, i, rfl, rfl, ⟨hp, hl, hC, by omega, hcl⟩, rfl⟩, ?_⟩)))))⟩
    rintro c rs' ⟨D, kvs, rfl, ⟨h, rfl⟩ | ⟨h, rfl⟩⟩
    · refine ⟨_, [], rfl, .inl ⟨_, rfl, _, rfl, fun z => Bool.noConfusion z, fun _ => sd_next ⟨_, rfl, fun j hj2 => ?_, rfl⟩⟩⟩
      by_cases q : j = i
      · rw [q, h]; rfl
      · exact hj j (by omega)
    · refine ⟨_, [], rfl, .inr ⟨_, rfl, _, rfl, fun _ => sd_ret (ec_is (ec_val rfl) ?_) ⟨rfl, rfl⟩, fun z => Bool.noConfusion z⟩⟩
      unfold lawLeast
      rw [List.find?_range_eq_some.mpr ⟨h, List.mem_range.mpr hi, fun j hj2 => by rw [hj j hj2]; rfl⟩]
      rfl
  · rintro ds' rs' ⟨u, rfl, hj, rfl⟩
    rw [List.length_range] at hj
    refine sd_ret (ec_is (ec_cb (ea_cons (ec_val rfl) ea_nil) rc_lenL) ?_) ⟨rfl, rfl⟩
    unfold lawLeast
    rw [List.find?_range_eq_none.mpr fun j hj2 => by rw [hj j hj2]; rfl, len_map]
    rfl
end FT
set_option maxHeartbeats 2000000
namespace FT
open PySem PySem.Spec PyProof.Rows L2 DL FTM
theorem em_put {K : PySem.W.Frag} {mg : PySem.Str → Option Value} (T : Tx K mg) {ds : Scs} {rs rsF : Rss} {to : TE} {ta : TA} {E : XK} {r dx : Addr} {p : Int} {l : Nat} {cols : List (List Int)} {c : List Int} {PP : Sc → Rss → Prop}
    (ho : EvC K to ds rs (.raw (.ref r))) (ha : EaC K ta ds rs ((iL c).map .val)) (hp : rs.Perm ((r, .ins (CR K) dx (rF p l cols)) :: rsF)) (R : RoomOk p l cols) (hcl : cols.length < 60) (hc : c.length = l) (hx : ∀ x ∈ c, 0 ≤ x ∧ x < p)
    (k : PP (.val .none) ((r, .ins (CR K) dx (rF p l (cols ++ [c]))) :: rsF)) : EvM K (tMethR (CR K) "put" (spPut K) E to ta) ds rs PP := fun M Hb0 H0 Hb σ H Q A kk =>
  ho Hb H σ A.st _ fun x Hb1 H1 g1 r1 => by
    have e1 : x = .ref r := r1
    subst e1
    have A1 := A.up g1
    obtain ⟨ws, hw, rw_⟩ := ins_at A1.st (hp.mem_iff.mpr List.mem_cons_self)
    refine ⟨r, dx, ws, rfl, hw, fs_none rw_ rfl, ha Hb1 H1 σ A1.st _ fun vs Hb2 H2 g2 r2 => ?_⟩
    have A2 := A1.up g2
    have r3 := drAll_of r2
    refine ⟨_, vs, rfl, ?_, fun q hq => ?_⟩
    · have := R.hl3
      rw [r3.length, len_iL]
      omega
    · obtain ⟨g3, r4⟩ := new_tup A2.st.sub hq r3
      have hrr : ScRs K (upd Hb2 q (.tup vs)) [.ref q] [.val (tupI c)] := Paired.cons (F := ScR K (upd Hb2 q (.tup vs))) (show ScR K _ (.ref q) (.val (tupI c)) from r4) Paired.nil
      exact call_m (A2.up g3) (sc_ref hrr) ⟨[(r, .ins (CR K) dx (rF p l cols))], rsF, _, hp, ⟨r, dx, p, l, cols, c, rfl, rfl, R, hcl, hc, hx, rfl⟩, fun c' rs' ⟨e, e2⟩ => by subst e; subst e2; exact k⟩ kk

abbrev N_law_put : List PySem.Str := ["_law_hall", "_law_some"]
theorem sc_law_put : FnScope N_law_put ["_law_hall", "_law_some"] (defScope df_law_put.st) := ⟨rfl, rfl, rfl, by decide +kernel, rfl, by decide +kernel, by decide +kernel⟩
abbrev W_law_put (K : PySem.W.Frag) : Wc := fun cs rs Post => ∃ r dx p l cols c, cs = [.raw (.ref r), .val (tupI c)] ∧ rs = [(r, .ins (CR K) dx (rF p l cols))] ∧ (RoomOk p l cols ∧ cols.length < 60 ∧ c.length = l ∧ (∀ x ∈ c, 0 ≤ x ∧ x < p)) ∧ Post = fun c' rs' => c' = .val .none ∧ rs' = [(r, .ins (CR K) dx (rF p l (cols ++ [c])))]
theorem w_law_put {P : Program} {w : World} {K : PySem.W.Frag} {mg : PySem.Str → Option Value} {base : Heap} (T : Tx K mg) (Q : Tr K)  (c_room_put : FnR P w K mg base C8.CX0 8 (df_room_put.at_ K) (spPut K)) : C8.Cal P w K mg base 9 "_law_put" (Fn K (W_law_put K)) [] := by
  refine cal_of (d := df_law_put) (N := N_law_put) (ps := ["_law_hall", "_law_some"]) (n := 0) (T.d 41) rfl rfl (T.f (f := .glo "_law_put") 41) sc_law_put (fun _ _ _ _ _ _ us hl => match us, hl with | [_, _], _ => rfl) ?_ rfl fun cdv A outer s H E hr => ?_
  · intro cs rs Post h; obtain ⟨_, _, _, _, _, _, rfl, _⟩ := h; rfl
  have hu := hu_of hr
  have hu0 := hr.units0
  have hu64 := hr.units
  refine ⟨_, (pss_cons (ps_if (pt_cmpR op_eq (pe_callB call_len_seq (by rfl) (T.f (f := .free "len") 51) boot_len (pa_cons (pv 1) pa_nil)) pe_int (nomark _))
  (pss_one ps_never) pss_nil)
  (pss_cons (ps_if (pt_cmpR op_eq (pe_callB call_len_seq (by rfl) (T.f (f := .free "len") 51) boot_len (pa_cons (pv 1) pa_nil)) pe_int (nomark _))
  (pss_one (ps_ret (pe_methR (E := E0) (pv 0) T.cl T.m1 c_room_put (hr.mono (by decide)) C8.pass0 (pa_cons (pe_ix (r := rIxT K) ix_tup (pv 1) pe_int (fun _ _ => rfl)) pa_nil)))) pss_nil)
  (pss_cons (ps_if (pt_cmpR op_eq (pe_callB call_len_seq (by rfl) (T.f (f := .free "len") 51) boot_len (pa_cons (pv 1) pa_nil)) pe_int (nomark _))
  (pss_one (ps_ret (pe_methR (E := E0) (pv 0) T.cl T.m1 c_room_put (hr.mono (by decide)) C8.pass0 (pa_cons (pe_ix (r := rIxT K) ix_tup (pv 1) pe_int (fun _ _ => rfl)) (pa_cons (pe_ix (r := rIxT K) ix_tup (pv 1) pe_int (fun _ _ => rfl)) pa_nil))))) pss_nil)
  (pss_cons (ps_if (pt_cmpR op_eq (pe_callB call_len_seq (by rfl) (T.f (f := .free "len") 51) boot_len (pa_cons (pv 1) pa_nil)) pe_int (nomark _))
  (pss_one (ps_ret (pe_methR (E := E0) (pv 0) T.cl T.m1 c_room_put (hr.mono (by decide)) C8.pass0 (pa_cons (pe_ix (r := rIxT K) ix_tup (pv 1) pe_int (fun _ _ => rfl)) (pa_cons (pe_ix (r := rIxT K) ix_tup (pv 1) pe_int (fun _ _ => rfl)) (pa_cons (pe_ix (r := rIxT K) ix_tup (pv 1) pe_int (fun _ _ => rfl)) pa_nil)))))) pss_nil)
  (pss_cons (ps_if (pt_cmpR op_eq (pe_callB call_len_seq (by rfl) (T.f (f := .free "len") 51) boot_len (pa_cons (pv 1) pa_nil)) pe_int (nomark _))
  (pss_one ps_never) pss_nil)
  (pss_cons (ps_if (pt_cmpR op_eq (pe_callB call_len_seq (by rfl) (T.f (f := .free "len") 51) boot_len (pa_cons (pv 1) pa_nil)) pe_int (nomark _))
  (pss_one ps_never) pss_nil)
  (pss_one ps_never))))))), ?_⟩
  rintro cs rs Post ⟨r, dx, p, l, cols, c, rfl, rfl, ⟨R, hcl, hc, hx⟩, rfl⟩
  have hl := R.hl
  have hl3 := R.hl3
  obtain rfl | rfl | rfl : l = 1 ∨ l = 2 ∨ l = 3 := by omega
  · match c, hc, hx with
    | [x], hc, hx =>
    refine sd_seq (sd_if (b := false) (et_is (et_test (ec_op (ec_cb (ea_cons (ec_val rfl) ea_nil) rc_lenT) ec_int rv_eqI)) (by simp)) (fun h => Bool.noConfusion h) fun _ => sd_next ?_)
    refine sd_seq (sd_if (b := true) (et_is (et_test (ec_op (ec_cb (ea_cons (ec_val rfl) ea_nil) rc_lenT) ec_int rv_eqI)) (by simp)) (fun _ => ?_) (fun h => Bool.noConfusion h))
    exact sd_retM (em_put T (c := [x]) (rsF := []) (ec_raw rfl) (ea_cons (ec_op (ec_val rfl) ec_int (rv_ixT (at_mapI (j := 0) 0 (by omega) (by simp)))) ea_nil) (List.Perm.refl _) R hcl rfl hx ⟨rfl, rfl⟩)
  · match c, hc, hx with
    | [x, y], hc, hx =>
    refine sd_seq (sd_if (b := false) (et_is (et_test (ec_op (ec_cb (ea_cons (ec_val rfl) ea_nil) rc_lenT) ec_int rv_eqI)) (by simp)) (fun h => Bool.noConfusion h) fun _ => sd_next ?_)
    refine sd_seq (sd_if (b := false) (et_is (et_test (ec_op (ec_cb (ea_cons (ec_val rfl) ea_nil) rc_lenT) ec_int rv_eqI)) (by simp)) (fun h => Bool.noConfusion h) fun _ => sd_next ?_)
    refine sd_seq (sd_if (b := true) (et_is (et_test (ec_op (ec_cb (ea_cons (ec_val rfl) ea_nil) rc_lenT) ec_int rv_eqI)) (by simp)) (fun _ => ?_) (fun h => Bool.noConfusion h))
    exact sd_retM (em_put T (c := [x, y]) (rsF := []) (ec_raw rfl) (ea_cons (ec_op (ec_val rfl) ec_int (rv_ixT (at_mapI (j := 0) 0 (by omega) (by simp)))) (ea_cons (ec_op (ec_val rfl) ec_int (rv_ixT (at_mapI (j := 1) 0 (by omega) (by simp)))) ea_nil)) (List.Perm.refl _) R hcl rfl hx ⟨rfl, rfl⟩)
  · match c, hc, hx with
    | [x, y, z], hc, hx =>
    refine sd_seq (sd_if (b := false) (et_is (et_test (ec_op (ec_cb (ea_cons (ec_val rfl) ea_nil) rc_lenT) ec_int rv_eqI)) (by simp)) (fun h => Bool.noConfusion h) fun _ => sd_next ?_)
    refine sd_seq (sd_if (b := false) (et_is (et_test (ec_op (ec_cb (ea_cons (ec_val rfl) ea_nil) rc_lenT) ec_int rv_eqI)) (by simp)) (fun h => Bool.noConfusion h) fun _ => sd_next ?_)
    refine sd_seq (sd_if (b := false) (et_is (et_test (ec_op (ec_cb (ea_cons (ec_val rfl) ea_nil) rc_lenT) ec_int rv_eqI)) (by simp)) (fun h => Bool.noConfusion h) fun _ => sd_next ?_)
    refine sd_seq (sd_if (b := true) (et_is (et_test (ec_op (ec_cb (ea_cons (ec_val rfl) ea_nil) rc_lenT) ec_int rv_eqI)) (by simp)) (fun _ => ?_) (fun h => Bool.noConfusion h))
    exact sd_retM (em_put T (c := [x, y, z]) (rsF := []) (ec_raw rfl) (ea_cons (ec_op (ec_val rfl) ec_int (rv_ixT (at_mapI (j := 0) 0 (by omega) (by simp)))) (ea_cons (ec_op (ec_val rfl) ec_int (rv_ixT (at_mapI (j := 1) 0 (by omega) (by simp)))) (ea_cons (ec_op (ec_val rfl) ec_int (rv_ixT (at_mapI (j := 2) 0 (by omega) (by simp)))) ea_nil))) (List.Perm.refl _) R hcl rfl hx ⟨rfl, rfl⟩)
/-! ### _law_same of equal data -/
def samD : Nat → PyData → Prop
  | 0, _ => False
  | _ + 1, .int _ => True
  | _ + 1, .bool _ => True
  | n + 1, .list xs => xs.length ≤ 1000 ∧ ∀ x ∈ xs, samD n x
  | n + 1, .tuple xs => xs.length ≤ 1000 ∧ ∀ x ∈ xs, samD n x
  | _ + 1, _ => False
abbrev W_same (n : Nat) : Wc := Pu fun xs d => ∃ e, xs = [e, e] ∧ samD n e ∧ d = .bool true
theorem rv_ixSL {K : PySem.W.Frag} {xs : List PyData} {i : Int} {d : PyData} (h : atI xs i = some d) : RvC K (rIx K) (.val (.list xs)) (.val (.int i)) (.val d) := fun Hb H x y s r1 r2 Q k => .inl (rv_ixL h Hb H x y s r1 r2 Q k)
theorem rv_ixST {K : PySem.W.Frag} {xs : List PyData} {i : Int} {d : PyData} (h : atI xs i = some d) : RvC K (rIx K) (.val (.tuple xs)) (.val (.int i)) (.val d) := fun Hb H x y s r1 r2 Q k => .inr (.inl (rv_ixT h Hb H x y s r1 r2 Q k))
theorem bools_true (n : Nat) : Sc.val (.list ((List.range n).map fun i => PyData.bool ((fun _ => true) i))) = Sc.val (.list (((List.range n).map fun _ => true).map PyData.bool)) := by
  rw [List.map_map]; rfl
theorem all_true (n : Nat) : ((List.range n).map fun _ => true).all id = true := by
  rw [List.all_eq_true]
  intro b hb
  obtain ⟨_, _, rfl⟩ := List.mem_map.mp hb
  rfl
abbrev N_law_same : List PySem.Str := ["_law_found", "_law_due", "_law_k"]
theorem sc_law_same : FnScope N_law_same ["_law_found", "_law_due"] (defScope df_law_same.st) := ⟨rfl, rfl, rfl, by decide +kernel, rfl, by decide +kernel, by decide +kernel⟩
theorem w_law_same_S {P : Program} {w : World} {K : PySem.W.Frag} {mg : PySem.Str → Option Value} {base : Heap} (T : Tx K mg) (n : Nat) (c_law_same : C8.Cal P w K mg base (n + 1) "_law_same" (Fn K (W_same n)) []) : C8.Cal P w K mg base (n + 1 + 1) "_law_same" (Fn K (W_same (n + 1))) [] := by
  refine cal_of (d := df_law_same) (N := N_law_same) (ps := ["_law_found", "_law_due"]) (n := 1) (T.d 32) rfl rfl (T.f (f := .glo "_law_same") 32) sc_law_same (fun _ _ _ _ _ _ us hl => match us, hl with | [_, _], _ => rfl) ?_ rfl fun cdv A outer s H E hr => ?_
  · exact pu_len (fun xs d h => by obtain ⟨_, rfl, _⟩ := h; rfl)
  have hu := hu_of hr
  have hu0 := hr.units0
  have hu64 := hr.units
  refine ⟨_, (pss_cons (ps_if (pt_val (pe_callB call_isiT (by rfl) (T.f (f := .free "isinstance") 49) boot_isinstance (pa_cons (pv 1) (pa_cons (pe_tup (pa_cons (pe_bltn (v := .ty "list") (by rfl) (T.f (f := .free "list") 58) boot_list rfl) (pa_cons (pe_bltn (v := .ty "tuple") (by rfl) (T.f (f := .free "tuple") 52) boot_tuple rfl) pa_nil))) pa_nil))))
  (pss_cons (ps_if (PW.pt (pw_or (pt_cmpR op_ne (pe_callB call_isi (by rfl) (T.f (f := .free "isinstance") 49) boot_isinstance (pa_cons (pv 0) (pa_cons (pe_bltn (v := .ty "list") (by rfl) (T.f (f := .free "list") 58) boot_list rfl) pa_nil))) (pe_callB call_isi (by rfl) (T.f (f := .free "isinstance") 49) boot_isinstance (pa_cons (pv 1) (pa_cons (pe_bltn (v := .ty "list") (by rfl) (T.f (f := .free "list") 58) boot_list rfl) pa_nil))) (nomark _)) (pw_or1 (pt_cmpR op_ne (pe_callB call_isi (by rfl) (T.f (f := .free "isinstance") 49) boot_isinstance (pa_cons (pv 0) (pa_cons (pe_bltn (v := .ty "tuple") (by rfl) (T.f (f := .free "tuple") 52) boot_tuple rfl) pa_nil))) (pe_callB call_isi (by rfl) (T.f (f := .free "isinstance") 49) boot_isinstance (pa_cons (pv 1) (pa_cons (pe_bltn (v := .ty "tuple") (by rfl) (T.f (f := .free "tuple") 52) boot_tuple rfl) pa_nil))) (nomark _)))))
  (pss_one (ps_ret pe_bl)) pss_nil)
  (pss_one (ps_ret (pe_and (pe_cmpR op_eq (pe_callB call_len_seq (by rfl) (T.f (f := .free "len") 51) boot_len (pa_cons (pv 0) pa_nil)) (pe_callB call_len_seq (by rfl) (T.f (f := .free "len") 51) boot_len (pa_cons (pv 1) pa_nil)) (nomark _)) (pe_one (pe_callB (cr_all rfl) (by rfl) (T.f (f := .free "all") 50) boot_all (pa_cons (pe_lc (own := [("_law_k", 2)]) (tt := tYes) rfl sc_law_same.nd (pi_range1 (by rfl) (T.f (f := .free "range") 53) (pa_cons (pe_callB call_len_seq (by rfl) (T.f (f := .free "len") 51) boot_len (pa_cons (pv 1) pa_nil)) pa_nil)) (blkOk_by (N := N_law_same) (sc := defScope df_law_same.st) (by decide +kernel)) (fun _ _ _ _ _ => (pg_name (i := 2) sc_law_same.nd rfl (Or.inl rfl))) (fun _ _ _ _ _ => pts_nil) (fun _ _ _ _ _ => (C8.pe_c c_law_same hr (Nat.le_refl _) rfl (pa_cons (pe_ix (r := rIx K) ix_seq (pv 0) (pv 2) (fun _ _ => rfl)) (pa_cons (pe_ix (r := rIx K) ix_seq (pv 1) (pv 2) (fun _ _ => rfl)) pa_nil))))) pa_nil))))))) pss_nil)
  (pss_cons (ps_if (PW.pt (pw_or (pt_cmp (pc_isN (pv 1))) (pw_or1 (pt_cmp (pc_isN (pv 0))))))
  (pss_one (ps_ret (pe_and (pe_cmp (pc_isN (pv 1))) (pe_one (pe_cmp (pc_isN (pv 0))))))) pss_nil)
  (pss_cons (ps_if (PW.pt (pw_or (pt_cmpR op_ne (pe_callB call_isi (by rfl) (T.f (f := .free "isinstance") 49) boot_isinstance (pa_cons (pv 0) (pa_cons (pe_bltn (v := .ty "bool") (by rfl) (T.f (f := .free "bool") 64) boot_bool rfl) pa_nil))) (pe_callB call_isi (by rfl) (T.f (f := .free "isinstance") 49) boot_isinstance (pa_cons (pv 1) (pa_cons (pe_bltn (v := .ty "bool") (by rfl) (T.f (f := .free "bool") 64) boot_bool rfl) pa_nil))) (nomark _)) (pw_or1 (pt_cmpR op_ne (pe_callB call_isi (by rfl) (T.f (f := .free "isinstance") 49) boot_isinstance (pa_cons (pv 0) (pa_cons (pe_bltn (v := .ty "int") (by rfl) (T.f (f := .free "int") 63) boot_int rfl) pa_nil))) (pe_callB call_isi (by rfl) (T.f (f := .free "isinstance") 49) boot_isinstance (pa_cons (pv 1) (pa_cons (pe_bltn (v := .ty "int") (by rfl) (T.f (f := .free "int") 63) boot_int rfl) pa_nil))) (nomark _)))))
  (pss_one (ps_ret pe_bl)) pss_nil)
  (pss_cons (ps_if (PW.pt (pw_or (pt_cmpR op_ne (pe_callB call_isi (by rfl) (T.f (f := .free "isinstance") 49) boot_isinstance (pa_cons (pv 0) (pa_cons (pe_bltn (v := .ty "str") (by rfl) (T.f (f := .free "str") 65) boot_str rfl) pa_nil))) (pe_callB call_isi (by rfl) (T.f (f := .free "isinstance") 49) boot_isinstance (pa_cons (pv 1) (pa_cons (pe_bltn (v := .ty "str") (by rfl) (T.f (f := .free "str") 65) boot_str rfl) pa_nil))) (nomark _)) (pw_or1 (pt_val (pe_callB call_isiT (by rfl) (T.f (f := .free "isinstance") 49) boot_isinstance (pa_cons (pv 0) (pa_cons (pe_tup (pa_cons (pe_bltn (v := .ty "list") (by rfl) (T.f (f := .free "list") 58) boot_list rfl) (pa_cons (pe_bltn (v := .ty "tuple") (by rfl) (T.f (f := .free "tuple") 52) boot_tuple rfl) pa_nil))) pa_nil)))))))
  (pss_one (ps_ret pe_bl)) pss_nil)
  (pss_one (ps_ret (pe_cmpR op_eq (pv 0) (pv 1) (nomark _)))))))), ?_⟩
  rintro cs rs Post ⟨rfl, xs, d, rfl, ⟨e, rfl, hs, rfl⟩, rfl⟩
  cases e with
  | none => exact absurd hs (by simp [samD])
  | str _ => exact absurd hs (by simp [samD])
  | dict _ => exact absurd hs (by simp [samD])
  | bool b =>
    · refine sd_seq (sd_if (b := false) (et_is (et_B (ec_isiT2 (T1 := "list") (T2 := "tuple") (ec_val rfl) rfl rfl)) rfl) (fun h => Bool.noConfusion h) fun _ => sd_next ?_)
      refine sd_seq (sd_if (b := false) (et_is (et_or (et_B (ec_isN (ec_val rfl))) fun _ => et_B (ec_isN (ec_val rfl))) rfl) (fun h => Bool.noConfusion h) fun _ => sd_next ?_)
      refine sd_seq (sd_if (b := false) (et_is (et_or (et_test (ec_op (ec_isi (T := "bool") (ec_val rfl) rfl) (ec_isi (T := "bool") (ec_val rfl) rfl) rv_neB)) fun _ => et_test (ec_op (ec_isi (T := "int") (ec_val rfl) rfl) (ec_isi (T := "int") (ec_val rfl) rfl) rv_neB)) (by simp)) (fun h => Bool.noConfusion h) fun _ => sd_next ?_)
      refine sd_seq (sd_if (b := false) (et_is (et_or (et_test (ec_op (ec_isi (T := "str") (ec_val rfl) rfl) (ec_isi (T := "str") (ec_val rfl) rfl) rv_neB)) fun _ => et_B (ec_isiT2 (T1 := "list") (T2 := "tuple") (ec_val rfl) rfl rfl)) rfl) (fun h => Bool.noConfusion h) fun _ => sd_next ?_)
      exact sd_ret (ec_is (ec_op (ec_val rfl) (ec_val rfl) rv_eqB) (by simp)) ⟨rfl, rfl⟩
  | int i =>
    · refine sd_seq (sd_if (b := false) (et_is (et_B (ec_isiT2 (T1 := "list") (T2 := "tuple") (ec_val rfl) rfl rfl)) rfl) (fun h => Bool.noConfusion h) fun _ => sd_next ?_)
      refine sd_seq (sd_if (b := false) (et_is (et_or (et_B (ec_isN (ec_val rfl))) fun _ => et_B (ec_isN (ec_val rfl))) rfl) (fun h => Bool.noConfusion h) fun _ => sd_next ?_)
      refine sd_seq (sd_if (b := false) (et_is (et_or (et_test (ec_op (ec_isi (T := "bool") (ec_val rfl) rfl) (ec_isi (T := "bool") (ec_val rfl) rfl) rv_neB)) fun _ => et_test (ec_op (ec_isi (T := "int") (ec_val rfl) rfl) (ec_isi (T := "int") (ec_val rfl) rfl) rv_neB)) (by simp)) (fun h => Bool.noConfusion h) fun _ => sd_next ?_)
      refine sd_seq (sd_if (b := false) (et_is (et_or (et_test (ec_op (ec_isi (T := "str") (ec_val rfl) rfl) (ec_isi (T := "str") (ec_val rfl) rfl) rv_neB)) fun _ => et_B (ec_isiT2 (T1 := "list") (T2 := "tuple") (ec_val rfl) rfl rfl)) rfl) (fun h => Bool.noConfusion h) fun _ => sd_next ?_)
      exact sd_ret (ec_is (ec_op (ec_val rfl) (ec_val rfl) rv_eqI) (by simp)) ⟨rfl, rfl⟩
  | list xs =>
    · obtain ⟨hl, hs⟩ := hs
      refine sd_seq (sd_if (b := true) (et_is (et_B (ec_isiT2 (T1 := "list") (T2 := "tuple") (ec_val rfl) rfl rfl)) rfl) (fun _ => ?_) fun h => Bool.noConfusion h)
      refine sd_seq (sd_if (b := false) (et_is (et_or (et_test (ec_op (ec_isi (T := "list") (ec_val rfl) rfl) (ec_isi (T := "list") (ec_val rfl) rfl) rv_neB)) fun _ => et_test (ec_op (ec_isi (T := "tuple") (ec_val rfl) rfl) (ec_isi (T := "tuple") (ec_val rfl) rfl) rv_neB)) (by simp)) (fun h => Bool.noConfusion h) fun _ => sd_next ?_)
      refine sd_ret (ec_is (ec_andV (ec_op (ec_cb (ea_cons (ec_val rfl) ea_nil) rc_lenL) (ec_cb (ea_cons (ec_val rfl) ea_nil) rc_lenL) rv_eqI) fun _ => ec_cb (ea_cons (ec_is (ec_lc (List.range xs.length) (fun i => .int (i : Nat)) (fun i => .bool ((fun _ => true) i)) (by rw [List.length_range]; omega) (it_is (it_range1 (ea_cons (ec_cb (ea_cons (ec_val rfl) ea_nil) rc_lenL) ea_nil) (by omega) (by omega)) (by rw [Int.toNat_natCast, range0])) fun i hi => ⟨_, gt_name, ?_⟩) (bools_true xs.length)) ea_nil) rc_all) ?_) ⟨rfl, rfl⟩
      · have hi := List.mem_range.mp hi
        have e : ∀ {r : Unit}, atI xs ((i : Nat) : Int) = some (xs[i]) := fun {_} => atI_nat (List.getElem?_eq_getElem hi)
        exact ec_call (d := .bool true) (xs := [xs[i], xs[i]]) (ea_cons (ec_op (ec_val rfl) (ec_val rfl) (rv_ixSL (e (r := ())))) (ea_cons (ec_op (ec_val rfl) (ec_val rfl) (rv_ixSL (e (r := ())))) ea_nil)) ⟨xs[i], rfl, hs _ (List.getElem_mem hi), rfl⟩
      · rw [all_true]
        simp
  | tuple xs =>
    · obtain ⟨hl, hs⟩ := hs
      refine sd_seq (sd_if (b := true) (et_is (et_B (ec_isiT2 (T1 := "list") (T2 := "tuple") (ec_val rfl) rfl rfl)) rfl) (fun _ => ?_) fun h => Bool.noConfusion h)
      refine sd_seq (sd_if (b := false) (et_is (et_or (et_test (ec_op (ec_isi (T := "list") (ec_val rfl) rfl) (ec_isi (T := "list") (ec_val rfl) rfl) rv_neB)) fun _ => et_test (ec_op (ec_isi (T := "tuple") (ec_val rfl) rfl) (ec_isi (T := "tuple") (ec_val rfl) rfl) rv_neB)) (by simp)) (fun h => Bool.noConfusion h) fun _ => sd_next ?_)
      refine sd_ret (ec_is (ec_andV (ec_op (ec_cb (ea_cons (ec_val rfl) ea_nil) rc_lenT) (ec_cb (ea_cons (ec_val rfl) ea_nil) rc_lenT) rv_eqI) fun _ => ec_cb (ea_cons (ec_is (ec_lc (List.range xs.length) (fun i => .int (i : Nat)) (fun i => .bool ((fun _ => true) i)) (by rw [List.length_range]; omega) (it_is (it_range1 (ea_cons (ec_cb (ea_cons (ec_val rfl) ea_nil) rc_lenT) ea_nil) (by omega) (by omega)) (by rw [Int.toNat_natCast, range0])) fun i hi => ⟨_, gt_name, ?_⟩) (bools_true xs.length)) ea_nil) rc_all) ?_) ⟨rfl, rfl⟩
      · have hi := List.mem_range.mp hi
        have e : ∀ {r : Unit}, atI xs ((i : Nat) : Int) = some (xs[i]) := fun {_} => atI_nat (List.getElem?_eq_getElem hi)
        exact ec_call (d := .bool true) (xs := [xs[i], xs[i]]) (ea_cons (ec_op (ec_val rfl) (ec_val rfl) (rv_ixST (e (r := ())))) (ea_cons (ec_op (ec_val rfl) (ec_val rfl) (rv_ixST (e (r := ())))) ea_nil)) ⟨xs[i], rfl, hs _ (List.getElem_mem hi), rfl⟩
      · rw [all_true]
        simp
theorem w_law_same_0 {P : Program} {w : World} {K : PySem.W.Frag} {mg : PySem.Str → Option Value} {base : Heap} (T : Tx K mg) : C8.Cal P w K mg base (0 + 1) "_law_same" (Fn K (W_same 0)) [] := by
  refine cal_of (d := df_law_same) (N := N_law_same) (ps := ["_law_found", "_law_due"]) (n := 1) (T.d 32) rfl rfl (T.f (f := .glo "_law_same") 32) sc_law_same (fun _ _ _ _ _ _ us hl => match us, hl with | [_, _], _ => rfl) ?_ rfl fun cdv A outer s H E hr => ⟨_, pss_never, ?_⟩
  · exact pu_len (fun xs d h => by obtain ⟨_, rfl, _⟩ := h; rfl)
  · rintro cs rs Post ⟨rfl, xs, d, rfl, ⟨e, rfl, hs, rfl⟩, rfl⟩
    exact absurd hs (by simp [samD])
theorem w_law_same_n {P : Program} {w : World} {K : PySem.W.Frag} {mg : PySem.Str → Option Value} {base : Heap} (T : Tx K mg) : ∀ n, C8.Cal P w K mg base (n + 1) "_law_same" (Fn K (W_same n)) []
  | 0 => w_law_same_0 T
  | n + 1 => w_law_same_S T n (w_law_same_n T n)
abbrev W_law_same : Wc := W_same 4
theorem w_law_same {P : Program} {w : World} {K : PySem.W.Frag} {mg : PySem.Str → Option Value} {base : Heap} (T : Tx K mg) : C8.Cal P w K mg base 5 "_law_same" (Fn K W_law_same) [] := w_law_same_n T 4
end FT
set_option maxHeartbeats 2000000
namespace FT
open PySem PySem.Spec PyProof.Rows L2 DL FTM
theorem at_walk {p : Int} {l : Nat} {cols : List (List Int)} {n : Nat} {i : Int} (e : i = (n : Int)) (h : n ≤ cols.length) : atI (walkD p l cols) i = some (pairW p l cols n) := by
  refine atI_at e ?_
  rw [List.getElem?_map, List.getElem?_range (by omega)]
  rfl
theorem len_walk (p : Int) (l : Nat) (cols : List (List Int)) : (walkD p l cols).length = cols.length + 1 := by rw [List.length_map, List.length_range]
theorem bools_of {α : Type} (f : α → Bool) (xs : List α) : Sc.val (.list (xs.map fun i => PyData.bool (f i))) = Sc.val (.list ((xs.map f).map PyData.bool)) := by
  rw [List.map_map]; rfl

abbrev N_law_good : List PySem.Str := ["_law_walked", "_law_p", "_law_wide", "_law_cells", "_law_n", "_law_pair", "_law_high", "_law_j"]
theorem sc_law_good : FnScope N_law_good ["_law_walked", "_law_p", "_law_wide", "_law_cells"] (defScope df_law_good.st) := ⟨rfl, rfl, rfl, by decide +kernel, rfl, by decide +kernel, by decide +kernel⟩
abbrev W_law_good : Wc := Pu fun xs d => ∃ (p : Int) (l : Nat) (cols : List (List Int)), xs = [.list (walkD p l cols), .int p, .int (l : Nat), eCs cols] ∧ p ∈ primes ∧ 1 ≤ l ∧ l ≤ 3 ∧ ColsOk p l cols ∧ cols.length ≤ 9 ∧ d = .bool true
theorem w_law_good {P : Program} {w : World} {K : PySem.W.Frag} {mg : PySem.Str → Option Value} {base : Heap} (T : Tx K mg) (c_law_same : C8.Cal P w K mg base 5 "_law_same" (Fn K W_law_same) []) (c_law_least : C8.Cal P w K mg base 3 "_law_least" (Fn K W_law_least) []) (c_law_is_number : C8.Cal P w K mg base 1 "_law_is_number" (Fn K W_law_is_number) []) : C8.Cal P w K mg base 6 "_law_good" (Fn K W_law_good) [] := by
  refine cal_of (d := df_law_good) (N := N_law_good) (ps := ["_law_walked", "_law_p", "_law_wide", "_law_cells"]) (n := 4) (T.d 43) rfl rfl (T.f (f := .glo "_law_good") 43) sc_law_good (fun _ _ _ _ _ _ us hl => match us, hl with | [_, _, _, _], _ => rfl) ?_ rfl fun cdv A outer s H E hr => ?_
  · exact pu_len (fun xs d h => by obtain ⟨_, _, _, rfl, _⟩ := h; rfl)
  have hu := hu_of hr
  have hu0 := hr.units0
  have hu64 := hr.units
  refine ⟨_, (pss_cons (ps_if (pt_cmpR op_ne (pe_callB call_len_seq (by rfl) (T.f (f := .free "len") 51) boot_len (pa_cons (pv 0) pa_nil)) (pe_op op_add (pe_callB call_len_seq (by rfl) (T.f (f := .free "len") 51) boot_len (pa_cons (pv 3) pa_nil)) pe_int) (nomark _))
  (pss_one (ps_ret pe_bl)) pss_nil)
  (pss_cons (ps_for PassesOwn.never rfl (pi_range1 (by rfl) (T.f (f := .free "range") 53) (pa_cons (pe_callB call_len_seq (by rfl) (T.f (f := .free "len") 51) boot_len (pa_cons (pv 0) pa_nil)) pa_nil)) (pg_name (i := 4) sc_law_good.nd rfl (Or.inr rfl))
  (pss_cons (ps_set (i := 5) sc_law_good.nd rfl (Or.inr rfl) (pe_ix (r := rIxL K) ix_list (pv 0) (pv 4) (fun _ _ => rfl)))
  (pss_cons (ps_if (PW.pt (pw_or (pt_not (pt_val (pe_callB call_isi (by rfl) (T.f (f := .free "isinstance") 49) boot_isinstance (pa_cons (pv 5) (pa_cons (pe_bltn (v := .ty "tuple") (by rfl) (T.f (f := .free "tuple") 52) boot_tuple rfl) pa_nil))))) (pw_or (pt_cmpR op_ne (pe_callB call_len_seq (by rfl) (T.f (f := .free "len") 51) boot_len (pa_cons (pv 5) pa_nil)) pe_int (nomark _)) (pw_or (pt_not (pt_val (pe_callB call_isi (by rfl) (T.f (f := .free "isinstance") 49) boot_isinstance (pa_cons (pe_ix (r := rIxT K) ix_tup (pv 5) pe_int (fun _ _ => rfl)) (pa_cons (pe_bltn (v := .ty "tuple") (by rfl) (T.f (f := .free "tuple") 52) boot_tuple rfl) pa_nil))))) (pw_or1 (pt_cmpR op_ne (pe_callB call_len_seq (by rfl) (T.f (f := .free "len") 51) boot_len (pa_cons (pe_ix (r := rIxT K) ix_tup (pv 5) pe_int (fun _ _ => rfl)) pa_nil)) (pe_op op_add (pv 2) pe_int) (nomark _)))))))
  (pss_one (ps_ret pe_bl)) pss_nil)
  (pss_cons (ps_if (PW.pt (pw_or (pt_not (pt_val (pe_callB (cr_all rfl) (by rfl) (T.f (f := .free "all") 50) boot_all (pa_cons (pe_lc (own := [("_law_high", 6)]) (tt := tYes) rfl sc_law_good.nd (pi_tup (pe_ix (r := rIxT K) ix_tup (pv 5) pe_int (fun _ _ => rfl))) (blkOk_by (N := N_law_good) (sc := defScope df_law_good.st) (by decide +kernel)) (fun _ _ _ _ _ => (pg_name (i := 6) sc_law_good.nd rfl (Or.inl rfl))) (fun _ _ _ _ _ => pts_nil) (fun _ _ _ _ _ => (C8.pe_c c_law_is_number hr (by decide) rfl (pa_cons (pv 6) (pa_cons pe_int (pa_cons pe_int pa_nil)))))) pa_nil)))) (pw_or1 (pt_cmpR (op_neD hu64) (pe_callTy call_list_of (by rfl) (T.f (f := .free "list") 58) boot_list (pa_cons (pe_ix (r := rIxT K) ix_tup (pv 5) pe_int (fun _ _ => rfl)) pa_nil)) (pe_callB DLX.cr_sortedT (by rfl) (T.f (f := .free "sorted") 56) boot_sorted (pa_cons (pe_ix (r := rIxT K) ix_tup (pv 5) pe_int (fun _ _ => rfl)) pa_nil)) (nomark _)))))
  (pss_one (ps_ret pe_bl)) pss_nil)
  (pss_cons (ps_if (PW.pt (pw_or (pt_not (pt_val (C8.pe_c c_law_same hr (by decide) rfl (pa_cons (pe_ix (r := rIxT K) ix_tup (pv 5) pe_int (fun _ _ => rfl)) (pa_cons (C8.pe_c c_law_least hr (by decide) rfl (pa_cons (pv 1) (pa_cons (pe_slice (r := rSlL K) sl_list (pv 3) po_none (po_some (pv 4))) pa_nil))) pa_nil))))) (pw_or (pt_cmpR op_ne (pe_callB (r := DLX.rSumT K) (DLX.cr_sumT rfl) (by rfl) (T.f (f := .free "sum") 59) boot_sum (pa_cons (pe_ix (r := rIxT K) ix_tup (pv 5) pe_int (fun _ _ => rfl)) pa_nil)) (pe_op op_mul (pv 2) (pe_op op_add (pv 4) pe_int)) (nomark _)) (pw_or1 (pt_cmpR op_notIn_seq (pe_ix (r := rIxT K) ix_tup (pv 5) pe_int (fun _ _ => rfl)) (pe_ix (r := rIxT K) ix_tup (pv 5) pe_int (fun _ _ => rfl)) (by first | exact nomark _ | rfl))))))
  (pss_one (ps_ret pe_bl)) pss_nil)
  (pss_one (ps_if (PW.pt (pw_and (pt_cmpR op_gt (pv 4) pe_int (nomark _)) (pw_and1 (PW.pt (pw_or (pt_cmpR op_gt (pe_ix (r := rIxT K) ix_tup (pe_ix (r := rIxL K) ix_list (pv 0) (pe_op op_sub (pv 4) pe_int) (fun _ _ => rfl)) pe_int (fun _ _ => rfl)) (pe_ix (r := rIxT K) ix_tup (pv 5) pe_int (fun _ _ => rfl)) (nomark _)) (pw_or1 (pt_val (pe_callB (cr_any rfl) (by rfl) (T.f (f := .free "any") 60) boot_any (pa_cons (pe_lc (own := [("_law_j", 7)]) (tt := tYes) rfl sc_law_good.nd (pi_range1 (by rfl) (T.f (f := .free "range") 53) (pa_cons (pe_op op_add (pv 2) pe_int) pa_nil)) (blkOk_by (N := N_law_good) (sc := defScope df_law_good.st) (by decide +kernel)) (fun _ _ _ _ _ => (pg_name (i := 7) sc_law_good.nd rfl (Or.inl rfl))) (fun _ _ _ _ _ => pts_nil) (fun _ _ _ _ _ => (pe_cmpR op_gt (pe_ix (r := rIxT K) ix_tup (pe_ix (r := rIxT K) ix_tup (pe_ix (r := rIxL K) ix_list (pv 0) (pe_op op_sub (pv 4) pe_int) (fun _ _ => rfl)) pe_int (fun _ _ => rfl)) (pv 7) (fun _ _ => rfl)) (pe_ix (r := rIxT K) ix_tup (pe_ix (r := rIxT K) ix_tup (pv 5) pe_int (fun _ _ => rfl)) (pv 7) (fun _ _ => rfl)) (nomark _)))) pa_nil)))))))))
  (pss_one (ps_ret pe_bl)) pss_nil)))))))
  (pss_one (ps_ret pe_bl)))), ?_⟩
  rintro cs rs Post ⟨rfl, xs, d, rfl, ⟨p, l, cols, rfl, hp, hl1, hl3, hC, hcl, rfl⟩, rfl⟩
  have hlw := len_walk p l cols
  refine sd_seq (sd_if (b := false) (et_is (et_test (ec_op (ec_cb (ea_cons (ec_val rfl) ea_nil) rc_lenL) (ec_op (ec_cb (ea_cons (ec_val rfl) ea_nil) rc_lenL) ec_int rv_I0) rv_neI)) (by rw [hlw, len_map]; simp)) (fun h => Bool.noConfusion h) fun _ => sd_next ?_)
  refine sd_seq (sd_forA (List.range (cols.length + 1)) (fun i => .int (i : Nat)) (it_is (it_range1 (n := ((cols.length + 1 : Nat) : Int)) (ea_cons (ec_is (ec_cb (ea_cons (ec_val rfl) ea_nil) rc_lenL) (by rw [hlw])) ea_nil) (by omega) (by omega)) (by rw [Int.toNat_natCast, range0]))
    (fun i ds rs => rs = [] ∧ ∃ u4 u5, ds = [.val (.list (walkD p l cols)), .val (.int p), .val (.int (l : Nat)), .val (eCs cols), u4, u5, .un, .un]) ⟨rfl, _, _, rfl⟩ ?_ ?_)
  · rintro n n' ds' rs' hn' ⟨rfl, u4, u5, rfl⟩
    obtain ⟨hn, rfl⟩ := range_at hn'
    refine ⟨_, gs_name, ?_⟩
    obtain ⟨h1, h2, h3, h4, h5, h6⟩ := heights_ok (l := l) (cols := cols) hp (n := n) (by omega)
    have hlaw := least_law hp hC (n := n) (by omega)
    have hpair : pairW p l cols n = .tuple [.int (leastOf l (baseAt p l cols n)), tupI (heightsOf l (baseAt p l cols n))] := rfl
    have hw := at_walk (p := p) (l := l) (cols := cols) (n := n) rfl (by omega)
    rw [hpair] at hw
    refine sd_seq (sd_asg (ec_op (ec_val rfl) (ec_val rfl) (rv_ixL hw)) ?_)
    generalize leastOf l (baseAt p l cols n) = o at h5 h6 hlaw ⊢
    generalize heightsOf l (baseAt p l cols n) = hs at h1 h2 h3 h4 h5 h6 ⊢
    have hb : (l : Int) * ((n : Int) + 1) ≤ 40 := by
      have e : (l : Int) * ((n : Int) + 1) = ((l * (n + 1) : Nat) : Int) := by push_cast; rfl
      rw [e]
      have : l * (n + 1) ≤ 3 * 10 := Nat.mul_le_mul hl3 (by omega)
      omega
    refine sd_seq (sd_if (b := false) (et_is (et_or (et_not (et_B (ec_isi (T := "tuple") (ec_val rfl) rfl))) fun _ => et_or (et_test (ec_op (ec_cb (ea_cons (ec_val rfl) ea_nil) rc_lenT) ec_int rv_neI)) fun _ => et_or (et_not (et_B (ec_isi (T := "tuple") (ec_op (ec_val rfl) ec_int (rv_ixT (d := tupI hs) rfl)) rfl))) fun _ => et_test (ec_op (ec_cb (ea_cons (ec_op (ec_val rfl) ec_int (rv_ixT (d := tupI hs) rfl)) ea_nil) rc_lenT) (ec_op (ec_val rfl) ec_int rv_I0) rv_neI)) (by rw [len_iL, h1]; simp [isT, tyD])) (fun h => Bool.noConfusion h) fun _ => sd_next ?_)
    refine sd_seq (sd_if (b := false) (et_is (et_or (et_not (et_B (ec_cb (ea_cons (ec_is (ec_lc hs PyData.int (fun x => .bool (decide (0 ≤ x) && decide (x ≤ 40))) (by omega) (it_tup (ec_op (ec_val rfl) ec_int (rv_ixT (d := tupI hs) rfl))) fun x hx => ⟨_, gt_name, ec_call (d := .bool (decide (0 ≤ x) && decide (x ≤ 40))) (xs := [.int x, .int 0, .int 40]) (ea_cons (ec_val rfl) (ea_cons ec_int (ea_cons ec_int ea_nil))) ⟨x, 0, 40, rfl, rfl⟩⟩) (bools_of _ hs)) ea_nil) rc_all))) fun _ => et_test (ec_op (ec_cb (ea_cons (ec_op (ec_val rfl) ec_int (rv_ixT (d := tupI hs) rfl)) ea_nil) rc_listT) (ec_cb (ea_cons (ec_op (ec_val rfl) ec_int (rv_ixT (d := tupI hs) rfl)) ea_nil) (rc_sortedT (ms := hs) (by omega) fun z hz1 hz2 => sorted_unique hz1 hz2 h2)) (rv_neD (shaped_lstI hs) (shaped_lstI hs)))) ?_) (fun h => Bool.noConfusion h) fun _ => sd_next ?_)
    · rw [eqv_lstI]
      have : (hs.map fun x => decide (0 ≤ x) && decide (x ≤ 40)).all id = true := by
        rw [List.all_eq_true]
        intro b hb2
        obtain ⟨x, hx, rfl⟩ := List.mem_map.mp hb2
        have := h3 x hx
        simp only [id, Bool.and_eq_true, decide_eq_true_eq]
        omega
      rw [this]; simp
    refine sd_seq (sd_if (b := false) (et_is (et_or (et_not (et_B (ec_call (d := .bool true) (xs := [.int o, .int o]) (ea_cons (ec_op (ec_val rfl) ec_int (rv_ixT (d := .int o) rfl)) (ea_cons (ec_is (ec_call (d := .int (lawLeast p l (cols.take n) : Nat)) (xs := [.int p, eCs (cols.take n)]) (ea_cons (ec_val rfl) (ea_cons (ec_is (ec_slL (ec_val rfl) eo_none (eo_some (ec_val rfl))) (by rw [cut_to (by rw [len_map]; omega), ← List.map_take])) ea_nil)) ⟨p, l, cols.take n, rfl, hp, hl3, hC.take n, by rw [List.length_take]; omega, rfl⟩) (by rw [hlaw])) ea_nil)) ⟨.int o, rfl, trivial, rfl⟩))) fun _ => et_or (et_test (ec_op (ec_cb (ea_cons (ec_op (ec_val rfl) ec_int (rv_ixT (d := tupI hs) rfl)) ea_nil) rc_sumT) (ec_op (ec_val rfl) (ec_op (ec_val rfl) ec_int rv_I0) (rv_I (.inl ⟨by omega, by omega⟩))) rv_neI)) fun _ => et_test (ec_op (ec_op (ec_val rfl) ec_int (rv_ixT (d := .int o) rfl)) (ec_op (ec_val rfl) ec_int (rv_ixT (d := tupI hs) rfl)) rv_notinT)) ?_) (fun h => Bool.noConfusion h) fun _ => sd_next ?_)
    · rw [h4]
      have : hs.contains o = true := List.contains_iff_mem.mpr h5
      rw [this]; simp
    refine sd_if (b := false) (et_is (et_and (a := decide ((n : Int) > 0)) (b := false) (et_test (ec_op (ec_val rfl) ec_int rv_B0)) fun h => ?_) (by simp)) (fun h => Bool.noConfusion h) fun _ => sd_next ⟨rfl, _, _, rfl⟩
    obtain ⟨m, rfl⟩ : ∃ m, n = m + 1 := ⟨n - 1, by have := of_decide_eq_true h; omega⟩
    obtain ⟨hle, hol⟩ := h6 m rfl
    have hw2 : ∀ {r : Unit}, atI (walkD p l cols) (((m + 1 : Nat) : Int) - 1) = some (.tuple [.int (leastOf l (baseAt p l cols m)), tupI (heightsOf l (baseAt p l cols m))]) := fun {_} => at_walk (n := m) (by omega) (by omega)
    generalize leastOf l (baseAt p l cols m) = o2 at hol hw2
    generalize heightsOf l (baseAt p l cols m) = hs2 at hle hw2
    have e1 : ∀ {rs : Rss} {u6 u7 : Sc}, EvC K (tOp (rIxL K) (tVar 0) (tOp (rI0 fun i j => .int (i - j)) (tVar 4) (tC (.int 1)))) [.val (.list (walkD p l cols)), .val (.int p), .val (.int (l : Nat)), .val (eCs cols), .val (.int ((m + 1 : Nat) : Int)), .val (.tuple [.int o, tupI hs]), u6, u7] rs (.val (.tuple [.int o2, tupI hs2])) := fun {_ _ _} => ec_op (ec_val rfl) (ec_op (ec_val rfl) ec_int rv_I0) (rv_ixL (hw2 (r := ())))
    refine et_is (et_or (et_test (ec_op (ec_op e1 ec_int (rv_ixT (d := .int o2) rfl)) (ec_op (ec_val rfl) ec_int (rv_ixT (d := .int o) rfl)) rv_B0)) fun _ => et_B (ec_cb (ea_cons (ec_is (ec_lc (List.range (l + 1)) (fun i => .int (i : Nat)) (fun i => .bool (decide (hs2.getD i 0 > hs.getD i 0))) (by rw [List.length_range]; omega) (it_is (it_range1 (ea_cons (ec_op (ec_val rfl) ec_int rv_I0) ea_nil) (by omega) (by omega)) (by rw [show ((l : Int) + 1).toNat = l + 1 by omega, range0])) fun i hi => ⟨_, gt_name, ec_op (ec_op (ec_op e1 ec_int (rv_ixT (d := tupI hs2) rfl)) (ec_val rfl) (rv_ixT (at_map (xs := hs2) (j := i) 0 (by rw [hle.1, h1]; exact List.mem_range.mp hi)))) (ec_op (ec_op (ec_val rfl) ec_int (rv_ixT (d := tupI hs) rfl)) (ec_val rfl) (rv_ixT (at_map (xs := hs) (j := i) 0 (by rw [h1]; exact List.mem_range.mp hi)))) rv_B0⟩) (bools_of _ _)) ea_nil) rc_any)) ?_
    have q : ((List.range (l + 1)).map fun i => decide (hs2.getD i 0 > hs.getD i 0)).any id = false := by
      rw [List.any_eq_false]
      intro b hb2
      obtain ⟨i, hi, rfl⟩ := List.mem_map.mp hb2
      have := hle.2 i (by rw [hle.1, h1]; exact List.mem_range.mp hi)
      simp only [id, decide_eq_true_eq]
      omega
    rw [q]
    simp only [Bool.or_false, decide_eq_false_iff_not]
    omega
  · rintro ds' rs' ⟨rfl, u4, u5, rfl⟩
    exact sd_ret ec_bl ⟨rfl, rfl⟩
end FT
set_option maxHeartbeats 2000000
namespace FT
open PySem PySem.Spec PyProof.Rows L2 DL FTM GN
/-! ### new rooms -/
abbrev PsI : List PySem.Str := ["self", "prime", "width", "columns", "widest"]
theorem mak_room {P : Program} {w : World} {K : PySem.W.Frag} {mg : PySem.Str → Option Value} {base : Heap} (T : Tx K mg) (h : ∃ fd, FunD K "__init__" "LetterRoom.__init__" (defArgs sr_init) (defBody sr_init) (defScope sr_init) [.ref (initDefault K)] [("widest", .int 3)] (df_room_init.at_ K) fd ∧ FnOk P w K mg base C8.CX0 9 (df_room_init.at_ K) fd PsI (Fn K (W_room_init K))) :
    C8.Mak P w K mg base 9 "LetterRoom" (CR K) (Fn K (W_room_init K)) [.int 3] := by
  obtain ⟨fd, F, G⟩ := h
  obtain ⟨ds, rd, b⟩ := F.binds (ps := PsI) 4 1 (by simp) rfl (fun TT D doc pm an cdv ct us its ks h1 h2 h3 => by
    match us, h1, its, h2, ks, h3 with
    | [_, _, _, _], _, [_], _, [_], _ => exact ⟨_, rfl, _, _, _, _, _, _, rfl, rfl, rfl⟩) (by simp)
  exact ⟨df_room_init.at_ K, fd, _, ds, T.mkR, G, T.rm, b, rd⟩
abbrev gK (α : Type) (ds mz : List α) : List α → List α → List α := fun vs zs => vs ++ zs ++ ds ++ mz
theorem kb_room {P : Program} {w : World} {K : PySem.W.Frag} {mg : PySem.Str → Option Value} {base : Heap} (T : Tx K mg) (h : ∃ fd, FunD K "__init__" "LetterRoom.__init__" (defArgs sr_init) (defBody sr_init) (defScope sr_init) [.ref (initDefault K)] [("widest", .int 3)] (df_room_init.at_ K) fd ∧ FnOk P w K mg base C8.CX0 9 (df_room_init.at_ K) fd PsI (Fn K (W_room_init0 K))) :
    ∃ fd its mv, FnOk P w K mg base C8.CX0 9 (df_room_init.at_ K) fd PsI (Fn K (W_room_init0 K)) ∧ KBn K fd PsI 1 ["prime", "width"] (gK Value its mv) (gK V [.ref (initDefault K)] [.int 3]) := by
  obtain ⟨fd, F, G⟩ := h
  obtain ⟨its, mv, b⟩ := F.kbinds (ps := PsI) 1 ["prime", "width"] [("widest", .int 3)] (fun vs ds mz zs => vs ++ zs ++ ds ++ mz) (by simp) (by simp) (by simp)
    (fun r1 r2 r3 r4 => ((r1.append r4).append r2).append r3) (fun TT D doc pm an cdv ct us its mv ws h1 h2 h3 h4 => by
    match us, h1, its, h2, mv, h3, ws, h4 with
    | [_], _, [_], _, [_], _, [_, _], _ => exact ⟨_, rfl, _, _, _, _, _, _, rfl, rfl, rfl⟩)
  exact ⟨fd, its, mv, G, b⟩
section
variable {K : PySem.W.Frag} {ds : Scs} {rs rsF : Rss} {te ta tk : TE} {to to2 : TE} {t u : TA} {a r dx dy : Addr} {p : Int} {l : Nat} {cols : List (List Int)} {E : XK} {PP : Sc → Rss → Prop}
theorem em_room (h : EaC K t ds rs [.val (.int p), .val (.int (l : Nat)), .val (eCs cols)]) (R : RoomOk p l cols) (k : ∀ x dx, PP (.raw (.ref x)) ((x, .ins (CR K) dx (rF p l cols)) :: rs)) : EvM K (tMake (CR K) (Fn K (W_room_init K)) [.int 3] E t) ds rs PP := fun M Hb0 H0 Hb σ H Q A kk =>
  h Hb H σ A.st _ fun vs Hb1 H1 g r1 => by
    have A1 := A.up g
    have r2 : ScRs K Hb1 (vs ++ [.int 3]) ([.val (.int p), .val (.int (l : Nat)), .val (eCs cols)] ++ [.val (.int 3)]) := by
      cases r1 with
      | cons a1 b1 => cases b1 with
        | cons a2 b2 => cases b2 with
          | cons a3 b3 => cases b3; exact .cons a1 (.cons a2 (.cons a3 (.cons (.int 3) .nil)))
    exact made (PP := PP) A1 r2 (fun x dx => ⟨[], rs, _, List.Perm.refl _, ⟨x, dx, p, l, cols, _, rfl, rfl, R, rfl, rfl⟩, fun c rs' ⟨e1, e2⟩ => ⟨e1, by rw [e2]; exact k x dx⟩⟩) kk
theorem em_roomK (Q : Tr K) (h : EaC K u ds rs [.val (.int p), .val (.int (l : Nat))]) (R : RoomOk p l []) (k : ∀ x dx, PP (.raw (.ref x)) ((x, .ins (CR K) dx (rF p l [])) :: rs)) : EvM K (tMakeK (CR K) 0 2 (Fn K (W_room_init0 K)) (gK V [.ref (initDefault K)] [.int 3]) E tNil u) ds rs PP := fun M Hb0 H0 Hb σ H QQ A kk =>
  h Hb H σ A.st _ fun vs Hb1 H1 g r1 => by
    have A1 := A.up g
    refine ⟨rfl, by rw [Paired.length r1]; rfl, ?_⟩
    obtain ⟨o, n, d1, d2, d3⟩ := Q.dfl
    have rd : Dr K Hb1 (.ref (initDefault K)) (.tuple []) := .tup (.inr ⟨o, #[], n, d1, d2, d3, Nat.zero_le _, .nil⟩) .nil
    have r2 : ScRs K Hb1 (vs ++ [.ref (initDefault K)] ++ [.int 3]) [.val (.int p), .val (.int (l : Nat)), .val (.tuple []), .val (.int 3)] := by
      cases r1 with
      | cons a1 b1 => cases b1 with
        | cons a2 b2 => cases b2; exact .cons a1 (.cons a2 (.cons rd (.cons (.int 3) .nil)))
    exact made (PP := PP) A1 r2 (fun x dx => ⟨[], rs, _, List.Perm.refl _, ⟨x, dx, p, l, [], _, rfl, rfl, R, ⟨rfl, rfl⟩, rfl⟩, fun c rs' ⟨e1, e2⟩ => ⟨e1, by rw [e2]; exact k x dx⟩⟩) kk
/-- == of two rooms alike -/
theorem ec_eqR (h1 : EvC K to ds rs (.raw (.ref a))) (h2 : EvC K to2 ds rs (.raw (.ref r))) (pm : rs.Perm ((a, .ins (CR K) dx (rF p l cols)) :: (r, .ins (CR K) dy (rF p l cols)) :: rsF)) : EvC K (tOp (rEqG (DIns (CR K) (REq K))) to to2) ds rs (.val (.bool true)) := fun Hb H σ S Q k =>
  h1 Hb H σ S _ fun x Hb1 H1 g1 r1 => h2 Hb1 H1 σ (S.up g1) _ fun y Hb2 H2 g2 r2 => by
    have e1 : x = .ref a := r1
    have e2 : y = .ref r := r2
    subst e1 e2
    have S2 := S.up (g1.trans g2)
    obtain ⟨ws, hw, _⟩ := ins_at S2 (pm.mem_iff.mpr List.mem_cons_self)
    obtain ⟨vs, hv, _⟩ := ins_at S2 (pm.mem_iff.mpr (List.mem_cons_of_mem _ List.mem_cons_self))
    have rr : ResR K Hb2 H2 [(a, .ins (CR K) dx (rF p l cols)), (r, .ins (CR K) dy (rF p l cols))] := resR_app (rsF := rsF) (rs := rs) pm S2.res
    refine ⟨⟨a, r, dx, dy, ws, vs, rfl, rfl, hw, hv, Hb2, dx, dy, p, l, cols, S2.sub, rr⟩, fun H' e => k _ Hb2 H' ((g1.trans g2).trans ⟨e, Same.refl _, S2.sub.trans e, fun _ _ h => h⟩) (.bl true)⟩
end
theorem sam_pair {p : Int} {l : Nat} {cols : List (List Int)} (R : RoomOk p l cols) {n : Nat} (hn : n ≤ cols.length) : samD 3 (pairW p l cols n) := by
  have h1 := (heights_ok (l := l) (cols := cols) R.hp hn).1
  have hl3 := R.hl3
  refine ⟨by show 2 ≤ 1000; decide, fun x hx => ?_⟩
  rcases List.mem_cons.mp hx with e | hx
  · subst e; exact trivial
  · rw [List.mem_singleton.mp hx]
    refine ⟨by rw [len_iL, h1]; omega, fun y hy => ?_⟩
    obtain ⟨i, _, rfl⟩ := List.mem_map.mp hy
    exact trivial
theorem sam_walk {p : Int} {l : Nat} {cols : List (List Int)} (R : RoomOk p l cols) (n : Nat) : samD 4 (.list ((walkD p l cols).take n)) := by
  refine ⟨?_, fun x hx => ?_⟩
  · have h1 := R.hc
    have h2 := len_walk p l cols
    rw [List.length_take, h2]
    omega
  · obtain ⟨i, hi, rfl⟩ := List.mem_map.mp (List.mem_of_mem_take hx)
    exact sam_pair R (by have := List.mem_range.mp hi; omega)
theorem sam_walkA {p : Int} {l : Nat} {cols : List (List Int)} (R : RoomOk p l cols) : samD 4 (.list (walkD p l cols)) := by
  have := sam_walk R (walkD p l cols).length
  rwa [List.take_length] at this
theorem take_at {α : Type} {xs : List α} {i : Nat} {d : α} (h : xs[i]? = some d) : xs.take (i + 1) = xs.take i ++ [d] := by
  rw [List.take_succ, h]; rfl

abbrev N_law_jumps : List PySem.Str := ["_law_p", "_law_cells", "_law_walked", "_law_n", "_law_old", "_law_new", "_law_sure"]
theorem sc_law_jumps : FnScope N_law_jumps ["_law_p", "_law_cells", "_law_walked"] (defScope df_law_jumps.st) := ⟨rfl, rfl, rfl, by decide +kernel, rfl, by decide +kernel, by decide +kernel⟩
abbrev W_law_jumps (K : PySem.W.Frag) : Wc := fun cs rs Post => ∃ p cols, cs = [.val (.int p), .val (eCs cols), .val (.list (walkD p 1 cols))] ∧ rs = [] ∧ (p ∈ primes ∧ ColsOk p 1 cols ∧ cols.length ≤ 60) ∧ Post = fun c rs' => c = .val (.bool true) ∧ rs' = []
theorem w_law_jumps {P : Program} {w : World} {K : PySem.W.Frag} {mg : PySem.Str → Option Value} {base : Heap} (T : Tx K mg) (c_sure_column : C8.Cal P w K mg base 6 "sure_column" (Fn K (W_sure_column K)) [])  (c_mk : C8.Mak P w K mg base 9 "LetterRoom" (CR K) (Fn K (W_room_init K)) [.int 3]) : C8.Cal P w K mg base 11 "_law_jumps" (Fn K (W_law_jumps K)) [] := by
  refine cal_of (d := df_law_jumps) (N := N_law_jumps) (ps := ["_law_p", "_law_cells", "_law_walked"]) (n := 4) (T.d 44) rfl rfl (T.f (f := .glo "_law_jumps") 44) sc_law_jumps (fun _ _ _ _ _ _ us hl => match us, hl with | [_, _, _], _ => rfl) ?_ rfl fun cdv A outer s H E hr => ?_
  · intro cs rs Post h; obtain ⟨_, _, rfl, _⟩ := h; rfl
  have hu := hu_of hr
  have hu0 := hr.units0
  have hu64 := hr.units
  refine ⟨_, (pss_cons (ps_for PassesOwn.never rfl (pi_range1 (by rfl) (T.f (f := .free "range") 53) (pa_cons (pe_callB call_len_seq (by rfl) (T.f (f := .free "len") 51) boot_len (pa_cons (pv 1) pa_nil)) pa_nil)) (pg_name (i := 3) sc_law_jumps.nd rfl (Or.inl rfl))
  (pss_cons (ps_par (i := 4) (j := 5) rfl sc_law_jumps.nd rfl rfl (by decide) rfl rfl (pa_cons (pe_ix (r := rIxT K) ix_tup (pe_ix (r := rIxL K) ix_list (pv 2) (pv 3) (fun _ _ => rfl)) pe_int (fun _ _ => rfl)) (pa_cons (pe_ix (r := rIxT K) ix_tup (pe_ix (r := rIxL K) ix_list (pv 2) (pe_op op_add (pv 3) pe_int) (fun _ _ => rfl)) pe_int (fun _ _ => rfl)) pa_nil)) rfl)
  (pss_cons (ps_if (PW.pt (pw_and (pt_cmpR op_ne (pv 5) (pv 4) (nomark _)) (pw_and1 (pt_cmpR op_ne (pv 5) (pe_op op_sub (pe_op op_add (pv 3) pe_int) (pv 4)) (nomark _)))))
  (pss_one (ps_ret pe_bl)) pss_nil)
  (pss_one (ps_if (pt_cmpR op_le (pe_op op_mul pe_int (pv 4)) (pv 3) (nomark _))
  (pss_cons (ps_set (i := 6) sc_law_jumps.nd rfl (Or.inl rfl) (C8.pe_c c_sure_column hr (by decide) rfl (pa_cons (C8.pe_mk c_mk hr (by decide) rfl (pa_cons (pv 0) (pa_cons pe_int (pa_cons (pe_slice (r := rSlL K) sl_list (pv 1) po_none (po_some (pv 3))) pa_nil)))) pa_nil)))
  (pss_one (ps_if (PW.pt (pw_or (pt_not (pt_val (pe_callB call_isi (by rfl) (T.f (f := .free "isinstance") 49) boot_isinstance (pa_cons (pv 6) (pa_cons (pe_bltn (v := .ty "tuple") (by rfl) (T.f (f := .free "tuple") 52) boot_tuple rfl) pa_nil))))) (pw_or (pt_cmpR op_ne (pe_callB call_len_seq (by rfl) (T.f (f := .free "len") 51) boot_len (pa_cons (pv 6) pa_nil)) pe_int (nomark _)) (pw_or1 (pt_cmpR op_ne (pe_cmpR (op_eqD hu64) (pv 6) (pe_ix (r := rIxL K) ix_list (pv 1) (pv 3) (fun _ _ => rfl)) (nomark _)) (pe_cmpR op_eq (pv 5) (pv 4) (nomark _)) (nomark _))))))
  (pss_one (ps_ret pe_bl)) pss_nil))) pss_nil)))))
  (pss_one (ps_ret pe_bl))), ?_⟩
  rintro cs rs Post ⟨p, cols, rfl, rfl, ⟨hp, hC, hcl⟩, rfl⟩
  have R : RoomOk p 1 cols := ⟨hp, by decide, by decide, hcl, hC⟩
  refine sd_seq (sd_forA (List.range cols.length) (fun i => .int (i : Nat)) (it_is (it_range1 (ea_cons (ec_is (ec_cb (ea_cons (ec_val rfl) ea_nil) rc_lenL) (by rw [len_map])) ea_nil) (by omega) (by omega)) (by rw [Int.toNat_natCast, range0]))
    (fun i ds rs => rs = [] ∧ ∃ u3 u4 u5 u6, ds = [.val (.int p), .val (eCs cols), .val (.list (walkD p 1 cols)), u3, u4, u5, u6]) ⟨rfl, _, _, _, _, rfl⟩ ?_ ?_)
  · rintro n n' ds' rs' hn' ⟨rfl, u3, u4, u5, u6, rfl⟩
    obtain ⟨hn, rfl⟩ := range_at hn'
    refine ⟨_, gs_name, ?_⟩
    obtain ⟨o, v, h1, h2, h3, h4, h5⟩ := jumps hp hC hn
    have w1 : atI (walkD p 1 cols) ((n : Nat) : Int) = some (.tuple [.int (o : Nat), tupI (heightsOf 1 (baseAt p 1 cols n))]) := by rw [at_walk rfl (by clear h5; omega), ← h1]
    have w2 : atI (walkD p 1 cols) (((n : Nat) : Int) + 1) = some (.tuple [.int (v : Nat), tupI (heightsOf 1 (baseAt p 1 cols (n + 1)))]) := by rw [at_walk (n := n + 1) (by clear h5; omega) (by clear h5; omega), ← h2]
    refine sd_seq (sd_par (ea_cons (ec_op (ec_op (ec_val rfl) (ec_val rfl) (rv_ixL w1)) ec_int (rv_ixT (d := .int (o : Nat)) rfl)) (ea_cons (ec_op (ec_op (ec_val rfl) (ec_op (ec_val rfl) ec_int rv_I0) (rv_ixL w2)) ec_int (rv_ixT (d := .int (v : Nat)) rfl)) ea_nil)) ?_)
    refine sd_seq (sd_if (b := false) (et_is (et_and (et_test (ec_op (ec_val rfl) (ec_val rfl) rv_neI)) fun _ => et_test (ec_op (ec_val rfl) (ec_op (ec_op (ec_val rfl) ec_int rv_I0) (ec_val rfl) rv_I0) rv_neI)) ?_) (fun h => Bool.noConfusion h) fun _ => sd_next ?_)
    · clear h5
      rcases h4 with rfl | rfl
      · simp
      · rw [show ((n : Nat) : Int) + 1 - ((o : Nat) : Int) = ((n + 1 - o : Nat) : Int) by omega]
        simp
    refine sd_if (et_test (ec_op (ec_op ec_int (ec_val rfl) (rv_I (.inl ⟨by decide, by decide⟩))) (ec_val rfl) rv_B0)) (fun h => ?_) fun _ => sd_next ⟨rfl, _, _, _, _, rfl⟩
    have h2o : 2 * o ≤ n := by
      have := of_decide_eq_true h
      clear h5
      omega
    have hln : (cols.take n).length = n := by rw [List.length_take]; clear h5; omega
    obtain ⟨A, a1, a2, a3, a4, a5, a6, a7, a8⟩ := h5 h2o
    clear h5
    have hbs : baseAt p 1 (cols.take n) (cols.take n).length = baseAt p 1 cols n := by rw [hln]; exact baseAt_take p 1 cols n n (Nat.le_refl _)
    have L : Low1 p (cols.take n) o A := ⟨R.take n, by rw [hbs]; exact h1, by rw [hbs]; exact a1, a2, a3, a4, a5.1, a6, a7, by rw [hln]; exact h3⟩
    refine sd_seq (sd_asgM (em_dropR (em_call (eam_cons (em_room (p := p) (l := 1) (cols := cols.take n) (ea_cons (ec_val rfl) (ea_cons ec_int (ea_cons (ec_is (ec_slL (ec_val rfl) eo_none (eo_some (ec_val rfl))) (by rw [cut_to (by rw [len_map]; omega), ← List.map_take])) ea_nil))) (R.take n) fun x dx => eam_nil ⟨[(x, .ins (CR K) dx (rF p 1 (cols.take n)))], [], _, List.Perm.refl _, ⟨x, dx, p, cols.take n, o, A, rfl, rfl, L, rfl⟩, ?_⟩)))))
    rintro c rs' ⟨rfl, rfl⟩
    refine ⟨_, [], rfl, ?_⟩
    have hcn : atI (cols.map tupI) ((n : Nat) : Int) = some (tupI (cols.getD n [])) := at_map (j := n) [] hn
    refine sd_if (b := false) (et_is (et_or (et_not (et_B (ec_isi (T := "tuple") (ec_val rfl) rfl))) fun _ => et_or (et_test (ec_op (ec_cb (ea_cons (ec_val rfl) ea_nil) rc_lenT) ec_int rv_neI)) fun _ => et_test (ec_op (ec_op (ec_val rfl) (ec_op (ec_val rfl) (ec_val rfl) (rv_ixL hcn)) (rv_eqD (shaped_tupI _) (shaped_tupI _))) (ec_op (ec_val rfl) (ec_val rfl) rv_eqI) rv_neB)) ?_) (fun h => Bool.noConfusion h) fun _ => sd_next ⟨rfl, _, _, _, _, rfl⟩
    rw [eqv_tupI]
    have e1 : decide (toldOf p 1 (cols.take n) (ruleOf p A o) = cols.getD n []) = decide (((v : Nat) : Int) = ((o : Nat) : Int)) := by
      rw [decide_eq_decide, a8]
      omega
    rw [e1]
    have e2 : (toldOf p 1 (cols.take n) (ruleOf p A o)).length = 1 := by
      unfold toldOf
      rw [List.length_map, List.length_range]
    rw [len_iL, e2]
    simp [isT, tyD]
  · rintro ds' rs' ⟨rfl, u3, u4, u5, u6, rfl⟩
    exact sd_ret ec_bl ⟨rfl, rfl⟩
abbrev N_law_two_walks : List PySem.Str := ["_law_hall", "_law_walked", "_law_found", "_law_pair", "_law_other"]
theorem sc_law_two_walks : FnScope N_law_two_walks ["_law_hall", "_law_walked"] (defScope df_law_two_walks.st) := ⟨rfl, rfl, rfl, by decide +kernel, rfl, by decide +kernel, by decide +kernel⟩
abbrev W_law_two_walks (K : PySem.W.Frag) : Wc := fun cs rs Post => ∃ r dx p l cols, cs = [.raw (.ref r), .val (.list (walkD p l cols))] ∧ rs = [(r, .ins (CR K) dx (rF p l cols))] ∧ (RoomOk p l cols) ∧ Post = fun c rs' => c = .val (.bool true) ∧ rs' = [(r, .ins (CR K) dx (rF p l cols))]
theorem w_law_two_walks {P : Program} {w : World} {K : PySem.W.Frag} {mg : PySem.Str → Option Value} {base : Heap} (T : Tx K mg) (c_law_same : C8.Cal P w K mg base 5 "_law_same" (Fn K W_law_same) [])  (GW : GOk P w K mg base 3 bW (df_room_walk.at_ K) (CR K) SpW) : C8.Cal P w K mg base 6 "_law_two_walks" (Fn K (W_law_two_walks K)) [] := by
  refine cal_of (d := df_law_two_walks) (N := N_law_two_walks) (ps := ["_law_hall", "_law_walked"]) (n := 3) (T.d 45) rfl rfl (T.f (f := .glo "_law_two_walks") 45) sc_law_two_walks (fun _ _ _ _ _ _ us hl => match us, hl with | [_, _], _ => rfl) ?_ rfl fun cdv A outer s H E hr => ?_
  · intro cs rs Post h; obtain ⟨_, _, _, _, _, rfl, _⟩ := h; rfl
  have hu := hu_of hr
  have hu0 := hr.units0
  have hu64 := hr.units
  obtain ⟨fdW, FW⟩ := fund_walk T
  refine ⟨_, (pss_cons (ps_set (i := 2) sc_law_two_walks.nd rfl (Or.inl rfl) (pe_lst pa_nil))
  (pss_cons (ps_forG (fun _ _ h => h) rfl GW (pv 0) T.cl T.m4 FW (hr.mono (by decide)) bind_walk (pg_name (i := 3) sc_law_two_walks.nd rfl (Or.inl rfl))
  (pss_cons (ps_expr (pe_bm PySem.F.plainAttrs_list PySem.F.slot_list_append PySem.F.type_list_append mt_append (pv 2) (pa_cons (pv 3) pa_nil)))
  (pss_one (ps_if (pt_not (pt_val (C8.pe_c c_law_same hr (by decide) rfl (pa_cons (pe_lcG (y := "_law_other") (j := 4) (fun _ _ h => h) rfl sc_law_two_walks.nd GW (pv 0) T.cl T.m4 FW (hr.mono (by decide)) bind_walk (blkOk_by (N := N_law_two_walks) (sc := defScope df_law_two_walks.st) (by decide +kernel)) (by decide +kernel) (show 4 < N_law_two_walks.length by decide) (fun _ _ _ _ _ => (pg_name (i := 4) sc_law_two_walks.nd rfl (Or.inl rfl))) (fun _ _ _ _ _ => (pv 4))) (pa_cons (pv 1) pa_nil)))))
  (pss_one (ps_ret pe_bl)) pss_nil))))
  (pss_one (ps_ret (C8.pe_c c_law_same hr (by decide) rfl (pa_cons (pv 2) (pa_cons (pv 1) pa_nil))))))), ?_⟩
  rintro cs rs Post ⟨r, dx, p, l, cols, rfl, rfl, R, rfl⟩
  have hcl := R.hc
  have hlw := len_walk p l cols
  have sp : SpW (rF p l cols) (tupI (liftsOf l)) ((List.range (cols.length + 1)).map fun n => eB (baseAt p l cols n)) (walkD p l cols) := ⟨p, l, cols, R, rfl, rfl, rfl, rfl⟩
  have hlen : ((List.range (cols.length + 1)).map fun n => eB (baseAt p l cols n)).length = (walkD p l cols).length := by rw [hlw, List.length_map, List.length_range]
  refine sd_seq (sd_asgM (em_lstF (eam_nil ⟨[], rfl, by decide, fun D => ?_⟩)))
  refine sd_seq (sd_forG (r := r) (dx := dx) (ec_raw rfl) (List.mem_cons_of_mem _ List.mem_cons_self) rfl sp hlen (by omega)
    (fun i ds rs => rs = [(D, .lst ((walkD p l cols).take i)), (r, .ins (CR K) dx (rF p l cols))] ∧ ∃ u3, ds = [.raw (.ref r), .val (.list (walkD p l cols)), .raw (.ref D), u3, .un]) ⟨rfl, _, rfl⟩ ?_ ?_ ?_)
  · rintro ds' rs' ⟨rfl, _⟩
    exact List.mem_cons_of_mem _ List.mem_cons_self
  · rintro i d ds' rs' hd ⟨rfl, u3, rfl⟩
    refine ⟨_, gs_name, ?_⟩
    refine sd_seq (sd_app (ec_raw rfl) List.mem_cons_self (eam_of (ea_cons (ec_val rfl) ea_nil) ⟨d, _, [(r, .ins (CR K) dx (rF p l cols))], rfl, List.Perm.refl _, by rw [List.length_take]; omega, ?_⟩))
    rw [← take_at hd]
    exact sd_if (b := false) (et_is (et_not (et_B (ec_call (d := .bool true) (xs := [.list (walkD p l cols), .list (walkD p l cols)]) (ea_cons (ec_lcG (r := r) (dx := dx) (ec_raw rfl) (List.mem_cons_of_mem _ List.mem_cons_self) rfl sp hlen (by omega) (by omega)) (ea_cons (ec_val rfl) ea_nil)) ⟨_, rfl, sam_walkA R, rfl⟩))) rfl) (fun h => Bool.noConfusion h) fun _ => sd_next ⟨rfl, _, rfl⟩
  · rintro ds' rs' ⟨rfl, u3, rfl⟩
    rw [List.take_length]
    refine sd_freeze (i := 2) rfl (List.Perm.refl _) ?_
    exact sd_ret (ec_call (d := .bool true) (xs := [.list (walkD p l cols), .list (walkD p l cols)]) (ea_cons (ec_val rfl) (ea_cons (ec_val rfl) ea_nil)) ⟨_, rfl, sam_walkA R, rfl⟩) ⟨rfl, rfl⟩
end FT
set_option maxHeartbeats 4000000
namespace FT
open PySem PySem.Spec PyProof.Rows L2 DL FTM GN
section
variable {K : PySem.W.Frag} {ds : Scs} {rs : Rss} {to ta tb : TE} {t : TT} {r dx : Addr} {p : Int} {l : Nat} {cols : List (List Int)}
theorem etm_not {PP : Bool → Rss → Prop} (h : EtM K t ds rs fun b rs' => PP (!b) rs') : EtM K (tNot t) ds rs PP := fun M Hb0 H0 Hb σ H Q A k => h M Hb0 H0 Hb σ H _ A fun b Hb' H' rs' A' p => k (!b) Hb' H' rs' A' p
theorem em_orV {a : Bool} {PP : Sc → Rss → Prop} (h : EvC K ta ds rs (.val (.bool a))) (h1 : a = true → PP (.val (.bool true)) rs) (h2 : a = false → EvM K tb ds rs PP) : EvM K (tOrV ta tb) ds rs PP := fun M Hb0 H0 Hb σ H Q A k => h Hb H σ A.st _ fun v Hb1 H1 g r => by
  cases r
  have A1 := A.up g
  cases a with
  | true => exact ⟨true, rfl, by rw [if_pos rfl]; exact k _ Hb1 H1 (.val (.bool true)) rs A1 (.bl true) (h1 rfl)⟩
  | false => exact ⟨false, rfl, by rw [if_neg Bool.false_ne_true]; exact h2 rfl M Hb0 H0 Hb1 σ H1 Q A1 k⟩
theorem ec_pair (ho : EvC K to ds rs (.raw (.ref r))) (hm : (r, .ins (CR K) dx (rF p l cols)) ∈ rs) (R : RoomOk p l cols) : EvC K (tTup (tCons (tProp (CR K) (FnG K (W_room_least_order K)) [] E0 to) (tCons (tProp (CR K) (FnG K (W_room_heights K)) [] E0 to) tNil))) ds rs (.val (pairW p l cols cols.length)) :=
  ec_tup (xs := [.int (leastOf l (baseAt p l cols cols.length)), tupI (heightsOf l (baseAt p l cols cols.length))]) (ea_cons (ec_propG ho hm ⟨r, dx, p, l, cols, rfl, rfl, R, rfl⟩) (ea_cons (ec_propG ho hm ⟨r, dx, p, l, cols, rfl, rfl, R, rfl⟩) ea_nil)) (by show 2 ≤ 100000; decide)
end
theorem pair_take (p : Int) (l : Nat) (cols : List (List Int)) {n k : Nat} (hn : n ≤ cols.length) (hk : k ≤ n) : pairW p l (cols.take n) k = pairW p l cols k := by
  show PyData.tuple _ = PyData.tuple _
  rw [baseAt_take p l cols n k hk]
theorem take_snoc {α : Type} {xs : List α} {n : Nat} (d : α) (h : n < xs.length) : xs.take n ++ [xs.getD n d] = xs.take (n + 1) := by
  rw [List.take_succ, List.getElem?_eq_getElem h, List.getD_eq_getElem?_getD, List.getElem?_eq_getElem h]; rfl
theorem walk_take (p : Int) (l : Nat) (cols : List (List Int)) {n : Nat} (hn : n ≤ cols.length) : walkD p l (cols.take n) = (walkD p l cols).take (n + 1) := by
  have hl : (cols.take n).length = n := by rw [List.length_take]; omega
  unfold walkD
  rw [hl, ← List.map_take, List.take_range, Nat.min_eq_left (by omega)]
  refine List.map_congr_left fun k hk => pair_take p l cols hn (by have := List.mem_range.mp hk; omega)
theorem perm3 {α : Type} (x y z : α) : [x, y, z].Perm [z, x, y] := List.perm_append_comm (l₁ := [x, y]) (l₂ := [z])
theorem sam_two {d : PyData} (h : samD 3 d) : samD 4 (.list [d, .bool true]) := ⟨by show 2 ≤ 1000; decide, fun x hx => by
  rcases List.mem_cons.mp hx with e | hx
  · rw [e]; exact h
  · rw [List.mem_singleton.mp hx]; exact trivial⟩
theorem samD_up : ∀ (n : Nat) (d : PyData), samD n d → samD (n + 1) d
  | 0, _, h => h.elim
  | n + 1, .int _, _ => trivial
  | n + 1, .bool _, _ => trivial
  | n + 1, .none, h => h
  | n + 1, .str _, h => h
  | n + 1, .dict _, h => h
  | n + 1, .list xs, h => ⟨h.1, fun x hx => samD_up n x (h.2 x hx)⟩
  | n + 1, .tuple xs, h => ⟨h.1, fun x hx => samD_up n x (h.2 x hx)⟩

theorem fnok_of {P : Program} {w : World} {K : PySem.W.Frag} {mg : PySem.Str → Option Value} {base : Heap} {d : Df} {N ps : List PySem.Str} {n k : Nat} {W : Wc} {fd : FuncData} (F : FunD K d.name d.qual (defArgs d.st) (defBody d.st) (defScope d.st) [] [] (d.at_ K) fd)
    (S : FnScope N ps (defScope d.st)) (hl : WcLen W ps.length) (hn : N.length - ps.length = n)
    (hbody : ∀ (cdv : Value) (A : Around) (outer : List Env) (s : Shared) (H : Hp) (E : XK), Room k (A.deeper (envOfC d.qual (defScope d.st) s.heap.objs.size (d.at_ K) cdv)) →
      ∃ t, PSs (cxOf CX0 P w K mg base N d.qual (defScope d.st) (d.at_ K) cdv A outer s H E).nox (defBody d.st) t ∧ ∀ cs rs Post, W cs rs Post → SdC K t (cs ++ List.replicate n .un) rs { nx := fun _ rs' => Post (.val .none) rs', rt := Post }) : FnOk P w K mg base CX0 (k + 1) (d.at_ K) fd ps (Fn K W) := by
  refine F.ok S (fn_len hl) fun cdv A outer s H vs Q E hr hsp => ?_
  obtain ⟨t, ht, hq⟩ := hbody cdv A outer s H E hr
  have hv := fn_len hl _ _ _ _ hsp
  exact ⟨t, ht.nox, fn_body hsp n (by rw [hv]; exact hn) hq⟩
abbrev N_law : List PySem.Str := ["_law_script", "_law_bag_here", "_law_p", "_law_wide", "_law_many", "_law_cells", "_law_hall", "_law_walked", "_law_grown", "_law_at", "_law_n", "_law_short", "_law_k", "_law_pair"]
theorem sc_law : FnScope N_law ["_law_script"] (defScope df_law.st) := ⟨rfl, rfl, rfl, by decide +kernel, rfl, by decide +kernel, by decide +kernel⟩
abbrev W_law : Wc := fun cs rs Post => ∃ ns, cs = [.sqi ns] ∧ rs = [] ∧ Post = fun c _ => c = .val (.bool true)
theorem w_law {P : Program} {w : World} {K : PySem.W.Frag} {mg : PySem.Str → Option Value} {base : Heap} (T : Tx K mg) {fd : FuncData} (F : FunD K df_law.name df_law.qual (defArgs df_law.st) (defBody df_law.st) (defScope df_law.st) [] [] (df_law.at_ K) fd) (Q : Tr K) (c_law_bag : C8.Cal P w K mg base 1 "_law_bag" (Fn K W_law_bag) []) (c_law_columns : C8.Cal P w K mg base 4 "_law_columns" (Fn K W_law_columns) []) (c_law_prime : C8.Cal P w K mg base 3 "_law_prime" (Fn K W_law_prime) []) (c_law_of : C8.Cal P w K mg base 2 "_law_of" (Fn K W_law_of) []) (c_law_draw : C8.Cal P w K mg base 1 "_law_draw" (Fn K W_law_draw) []) (c_law_same : C8.Cal P w K mg base 5 "_law_same" (Fn K W_law_same) []) (c_law_jumps : C8.Cal P w K mg base 11 "_law_jumps" (Fn K (W_law_jumps K)) []) (c_law_good : C8.Cal P w K mg base 6 "_law_good" (Fn K W_law_good) []) (c_law_two_walks : C8.Cal P w K mg base 6 "_law_two_walks" (Fn K (W_law_two_walks K)) []) (c_law_put : C8.Cal P w K mg base 9 "_law_put" (Fn K (W_law_put K)) []) (c_room_heights : C8.CalAt P w K mg base 4 (df_room_heights.at_ K) (FnG K (W_room_heights K))) (c_room_least_order : C8.CalAt P w K mg base 4 (df_room_least_order.at_ K) (FnG K (W_room_least_order K))) (c_room_take_back : C8.CalAt P w K mg base 1 (df_room_take_back.at_ K) (Fn K (W_room_take_back K))) (c_mk : C8.Mak P w K mg base 9 "LetterRoom" (CR K) (Fn K (W_room_init K)) [.int 3]) (c_kb : ∃ fd its mv, FnOk P w K mg base C8.CX0 9 (df_room_init.at_ K) fd PsI (Fn K (W_room_init0 K)) ∧ KBn K fd PsI 1 ["prime", "width"] (gK Value its mv) (gK V [.ref (initDefault K)] [.int 3])) (c_eq : ∃ fd, FnOk P w K mg base C8.CX0 1 (df_room_eq.at_ K) fd ["self", "other"] (spEq (REq K)) ∧ Binds K fd ["self", "other"] []) (GW : GOk P w K mg base 3 bW (df_room_walk.at_ K) (CR K) SpW) : FnOk P w K mg base C8.CX0 12 (df_law.at_ K) fd ["_law_script"] (Fn K W_law) := by
  refine fnok_of (d := df_law) (N := N_law) (ps := ["_law_script"]) (n := 13) F sc_law ?_ rfl fun cdv A outer s H E hr => ?_
  · intro cs rs Post h; obtain ⟨_, rfl, _⟩ := h; rfl
  have hu := hu_of hr
  have hu0 := hr.units0
  have hu64 := hr.units
  obtain ⟨fdW, FW⟩ := fund_walk T
  obtain ⟨fdE, Feq, beq⟩ := c_eq
  obtain ⟨fdK, itK, mvK, GK, bK⟩ := c_kb
  refine ⟨_, (pss_cons (ps_set (i := 1) sc_law.nd rfl (Or.inl rfl) (C8.pe_c c_law_bag hr (by decide) rfl (pa_cons (pv 0) pa_nil)))
  (pss_cons (ps_par (i := 2) (j := 3) rfl sc_law.nd rfl rfl (by decide) rfl rfl (pa_cons (C8.pe_c c_law_prime hr (by decide) rfl (pa_cons (pv 1) pa_nil)) (pa_cons (C8.pe_c c_law_of hr (by decide) rfl (pa_cons (pv 1) (pa_cons (pe_lst (pa_cons pe_int (pa_cons pe_int (pa_cons pe_int (pa_cons pe_int (pa_cons pe_int (pa_cons pe_int pa_nil))))))) pa_nil))) pa_nil)) rfl)
  (pss_cons (ps_set (i := 4) sc_law.nd rfl (Or.inl rfl) (pe_ifExp (pt_cmpR op_gt (C8.pe_c c_law_draw hr (by decide) rfl (pa_cons (pv 1) (pa_cons pe_int pa_nil))) pe_int (nomark _)) (pe_op op_add pe_int (C8.pe_c c_law_draw hr (by decide) rfl (pa_cons (pv 1) (pa_cons pe_int pa_nil)))) (pe_op op_add pe_int (C8.pe_c c_law_draw hr (by decide) rfl (pa_cons (pv 1) (pa_cons pe_int pa_nil))))))
  (pss_cons (ps_set (i := 5) sc_law.nd rfl (Or.inl rfl) (C8.pe_c c_law_columns hr (by decide) rfl (pa_cons (pv 1) (pa_cons (pv 2) (pa_cons (pv 3) (pa_cons (pv 4) pa_nil))))))
  (pss_cons (ps_set (i := 6) sc_law.nd rfl (Or.inl rfl) (C8.pe_mk c_mk hr (by decide) rfl (pa_cons (pv 2) (pa_cons (pv 3) (pa_cons (pv 5) pa_nil)))))
  (pss_cons (ps_setLcG (y := "_law_pair") (j := 13) (ii := 7) (fun _ _ h => h) rfl sc_law.nd rfl rfl (sw_true rfl rfl rfl (by decide +kernel)) GW (pv 6) T.cl T.m4 FW (hr.mono (by decide)) bind_walk (blkOk_by (N := N_law) (sc := defScope df_law.st) (by decide +kernel)) (by decide +kernel) (show 13 < N_law.length by decide) (fun _ _ _ _ _ => (pg_name (i := 13) sc_law.nd rfl (Or.inl rfl))) (fun _ _ _ _ _ => (pv 13)))
  (pss_cons (ps_if (PW.pt (pw_or (pt_not (pt_val (C8.pe_c c_law_good hr (by decide) rfl (pa_cons (pv 7) (pa_cons (pv 2) (pa_cons (pv 3) (pa_cons (pv 5) pa_nil))))))) (pw_or1 (pt_not (pt_val (C8.pe_c c_law_two_walks hr (by decide) rfl (pa_cons (pv 6) (pa_cons (pv 7) pa_nil))))))))
  (pss_one (ps_ret pe_bl)) pss_nil)
  (pss_cons (ps_par (i := 8) (j := 9) rfl sc_law.nd rfl rfl (by decide) rfl rfl (pa_cons (pe_makeK0 (E := E0) T.mkR GK (hr.mono (by decide)) rfl T.rm bK C8.pass0 (pk_cons (pv 2) (pk_cons (pv 3) pk_nil))) (pa_cons (C8.pe_c c_law_draw hr (by decide) rfl (pa_cons (pv 1) (pa_cons (pv 4) pa_nil))) pa_nil)) rfl)
  (pss_cons (ps_for PassesOwn.never rfl (pi_range1 (by rfl) (T.f (f := .free "range") 53) (pa_cons (pv 4) pa_nil)) (pg_name (i := 10) sc_law.nd rfl (Or.inl rfl))
  (pss_cons (ps_if (PW.pt (pw_and (pt_cmpR op_in_seq (pv 10) (pe_tup (pa_cons (pv 9) (pa_cons (pe_op op_add (pv 9) pe_int) pa_nil))) (by first | exact nomark _ | rfl)) (pw_and1 (pt_not (pt_val (C8.pe_c c_law_same hr (by decide) rfl (pa_cons (pe_tup (pa_cons (pe_propC c_room_least_order (pv 8) T.cl Q.po hr (by decide) rfl) (pa_cons (pe_propC c_room_heights (pv 8) T.cl Q.ph hr (by decide) rfl) pa_nil))) (pa_cons (pe_ix (r := rIxL K) ix_list (pv 7) (pv 10) (fun _ _ => rfl)) pa_nil))))))))
  (pss_one (ps_ret pe_bl)) pss_nil)
  (pss_one (ps_if (pt_cmp (pc_notN (C8.pe_c c_law_put hr (by decide) rfl (pa_cons (pv 8) (pa_cons (pe_ix (r := rIxL K) ix_list (pv 5) (pv 10) (fun _ _ => rfl)) pa_nil)))))
  (pss_one (ps_ret pe_bl)) pss_nil))))
  (pss_cons (ps_if (pt_not (pt_val (C8.pe_c c_law_same hr (by decide) rfl (pa_cons (pe_lst (pa_cons (pe_tup (pa_cons (pe_propC c_room_least_order (pv 8) T.cl Q.po hr (by decide) rfl) (pa_cons (pe_propC c_room_heights (pv 8) T.cl Q.ph hr (by decide) rfl) pa_nil))) (pa_cons (pe_cmpR (op_eqG (rcG_ins (E := E0) Feq Q.eqf Q.eqn beq C8.pass0) (hr.mono (by decide))) (pv 8) (pv 6) (nomark _)) pa_nil))) (pa_cons (pe_lst (pa_cons (pe_ix (r := rIxL K) ix_list (pv 7) (pv 4) (fun _ _ => rfl)) (pa_cons pe_bl pa_nil))) pa_nil)))))
  (pss_one (ps_ret pe_bl)) pss_nil)
  (pss_cons (ps_set (i := 11) sc_law.nd rfl (Or.inl rfl) (C8.pe_mk c_mk hr (by decide) rfl (pa_cons (pv 2) (pa_cons (pv 3) (pa_cons (pe_slice (r := rSlL K) sl_list (pv 5) po_none (po_some (pv 9))) pa_nil)))))
  (pss_cons (ps_if (pt_not (pt_val (C8.pe_c c_law_same hr (by decide) rfl (pa_cons (pe_tup (pa_cons (pe_propC c_room_least_order (pv 11) T.cl Q.po hr (by decide) rfl) (pa_cons (pe_propC c_room_heights (pv 11) T.cl Q.ph hr (by decide) rfl) pa_nil))) (pa_cons (pe_ix (r := rIxL K) ix_list (pv 7) (pv 9) (fun _ _ => rfl)) pa_nil)))))
  (pss_one (ps_ret pe_bl)) pss_nil)
  (pss_cons (ps_for PassesOwn.never rfl (pi_range1 (by rfl) (T.f (f := .free "range") 53) (pa_cons (pe_op op_sub (pv 4) (pv 9)) pa_nil)) (pg_name (i := 12) sc_law.nd rfl (Or.inl rfl))
  (pss_one (ps_expr (pe_metC0 c_room_take_back (pv 8) T.cl T.m2 hr (by decide)))))
  (pss_cons (ps_if (pt_not (pt_val (C8.pe_c c_law_same hr (by decide) rfl (pa_cons (pe_lst (pa_cons (pe_tup (pa_cons (pe_propC c_room_least_order (pv 8) T.cl Q.po hr (by decide) rfl) (pa_cons (pe_propC c_room_heights (pv 8) T.cl Q.ph hr (by decide) rfl) pa_nil))) (pa_cons (pe_cmpR (op_eqG (rcG_ins (E := E0) Feq Q.eqf Q.eqn beq C8.pass0) (hr.mono (by decide))) (pv 8) (pv 11) (nomark _)) pa_nil))) (pa_cons (pe_lst (pa_cons (pe_ix (r := rIxL K) ix_list (pv 7) (pv 9) (fun _ _ => rfl)) (pa_cons pe_bl pa_nil))) pa_nil)))))
  (pss_one (ps_ret pe_bl)) pss_nil)
  (pss_cons (ps_if (pt_not (pt_val (C8.pe_c c_law_same hr (by decide) rfl (pa_cons (pe_lcG (y := "_law_pair") (j := 13) (fun _ _ h => h) rfl sc_law.nd GW (pv 8) T.cl T.m4 FW (hr.mono (by decide)) bind_walk (blkOk_by (N := N_law) (sc := defScope df_law.st) (by decide +kernel)) (by decide +kernel) (show 13 < N_law.length by decide) (fun _ _ _ _ _ => (pg_name (i := 13) sc_law.nd rfl (Or.inl rfl))) (fun _ _ _ _ _ => (pv 13))) (pa_cons (pe_slice (r := rSlL K) sl_list (pv 7) po_none (po_some (pe_op op_add (pv 9) pe_int))) pa_nil)))))
  (pss_one (ps_ret pe_bl)) pss_nil)
  (pss_one (ps_ret (pe_or (pe_cmpR op_gt (pv 3) pe_int (nomark _)) (pe_one (C8.pe_c c_law_jumps hr (by decide) rfl (pa_cons (pv 2) (pa_cons (pv 5) (pa_cons (pv 7) pa_nil))))))))))))))))))))))), ?_⟩
  rintro cs rs Post ⟨ns, rfl, rfl, rfl⟩
  refine sd_seq (sd_asgM (em_call (eam_of (ea_cons (ec_sqi rfl) ea_nil) ⟨[], [], _, List.Perm.refl _, ⟨ns, rfl, rfl, rfl⟩, ?_⟩)))
  rintro c rs' ⟨a, xs, rfl, rfl, hx⟩
  refine sd_seq (sd_parM (eam_cons (em_call (eam_of (ea_cons (ec_raw rfl) ea_nil) ⟨[(a, .lst xs)], [], _, List.Perm.refl _, ⟨a, xs, rfl, rfl, hx, rfl⟩, ?_⟩))))
  rintro c rs' ⟨p, ys, rfl, hp, rfl, hy⟩
  have hp2 := prime_lt hp
  refine eam_cons (em_of_ (xs := ys) (rsF := []) (ns := [2, 3, 2, 1, 2, 3]) (ea_cons (ec_raw rfl) (ea_cons (ec_lst (xs := iL [2, 3, 2, 1, 2, 3]) (ea_cons ec_int (ea_cons ec_int (ea_cons ec_int (ea_cons ec_int (ea_cons ec_int (ea_cons ec_int ea_nil)))))) (by decide)) ea_nil)) (List.Perm.refl _) hy (by decide) (by decide) fun wd zs hwd hz => eam_nil ⟨_, _, rfl, ?_⟩)
  obtain ⟨l, rfl, hl1, hl3⟩ : ∃ l : Nat, wd = (l : Int) ∧ 1 ≤ l ∧ l ≤ 3 := by
    simp only [List.mem_cons, List.not_mem_nil, or_false] at hwd
    exact ⟨wd.toNat, by omega, by omega, by omega⟩
  refine sd_mid (fun ds rs => ∃ (m : Nat) (ys : List PyData), 1 ≤ m ∧ m ≤ 9 ∧ rs = [(a, .lst ys)] ∧ BagOk ys ∧ ds = [.sqi ns, .raw (.ref a), .val (.int p), .val (.int (l : Nat)), .val (.int (m : Nat)), .un, .un, .un, .un, .un, .un, .un, .un, .un]) ?_ ?_
  · refine sd_asgM (em_if (etm_test (em_op (em_draw (xs := zs) (rsF := []) (ea_cons (ec_raw rfl) (ea_cons ec_int ea_nil)) (List.Perm.refl _) hz (by decide) (by decide) fun d ys2 h0 h1 hy2 => em_of ec_int ⟨_, rv_B0, _, rfl, fun _ => em_op (em_of ec_int (em_draw (xs := ys2) (rsF := []) (ea_cons (ec_raw rfl) (ea_cons ec_int ea_nil)) (List.Perm.refl _) hy2 (by decide) (by decide) fun d2 ys3 h2 h3 hy3 => ⟨_, rv_I0, ?_⟩)), fun _ => em_op (em_of ec_int (em_draw (xs := ys2) (rsF := []) (ea_cons (ec_raw rfl) (ea_cons ec_int ea_nil)) (List.Perm.refl _) hy2 (by decide) (by decide) fun d2 ys3 h2 h3 hy3 => ⟨_, rv_I0, ?_⟩))⟩))))
    · obtain ⟨n, rfl⟩ := Int.eq_ofNat_of_zero_le h2
      exact ⟨1 + n, ys3, by omega, by omega, rfl, hy3, by push_cast; rfl⟩
    · obtain ⟨n, rfl⟩ := Int.eq_ofNat_of_zero_le h2
      exact ⟨8 + n, ys3, by omega, by omega, rfl, hy3, by push_cast; rfl⟩
  rintro ds' rs' ⟨m, ys, hm1, hm9, rfl, hy, rfl⟩
  refine sd_seq (sd_asgM (em_call (eam_of (ea_cons (ec_raw rfl) (ea_cons (ec_val rfl) (ea_cons (ec_val rfl) (ea_cons (ec_val rfl) ea_nil)))) ⟨[(a, .lst ys)], [], _, List.Perm.refl _, ⟨a, ys, p, l, m, rfl, rfl, ⟨hy, by omega, by omega, hl1, hl3, by omega⟩, rfl⟩, ?_⟩)))
  rintro c rs' ⟨cols, zs, rfl, hC, hcl, rfl, hz⟩
  have R : RoomOk p l cols := ⟨hp, hl1, hl3, by omega, hC⟩
  have hlw := len_walk p l cols
  refine sd_seq (sd_asgM (em_room (p := p) (l := l) (cols := cols) (ea_cons (ec_val rfl) (ea_cons (ec_val rfl) (ea_cons (ec_val rfl) ea_nil))) R fun h dh => ?_))
  have sp : SpW (rF p l cols) (tupI (liftsOf l)) ((List.range (cols.length + 1)).map fun n => eB (baseAt p l cols n)) (walkD p l cols) := ⟨p, l, cols, R, rfl, rfl, rfl, rfl⟩
  refine sd_seq (sd_asg (ec_lcG (r := h) (dx := dh) (ec_raw rfl) List.mem_cons_self rfl sp (by rw [hlw, List.length_map, List.length_range]) (by omega) (by omega)) ?_)
  refine sd_seq (sd_ifM (etm_or (etm_of (b := false) (et_is (et_not (et_B (ec_call (d := .bool true) (xs := [.list (walkD p l cols), .int p, .int (l : Nat), eCs cols]) (ea_cons (ec_val rfl) (ea_cons (ec_val rfl) (ea_cons (ec_val rfl) (ea_cons (ec_val rfl) ea_nil)))) ⟨p, l, cols, rfl, hp, hl1, hl3, hC, by omega, rfl⟩))) rfl) ⟨fun _ => etm_not (etm_B (em_call (eam_of (ea_cons (ec_raw rfl) (ea_cons (ec_val rfl) ea_nil)) ⟨[(h, .ins (CR K) dh (rF p l cols))], [(a, .lst zs)], _, List.Perm.refl _, ⟨h, dh, p, l, cols, rfl, rfl, R, rfl⟩, ?_⟩))), fun z => Bool.noConfusion z⟩)))
  rintro c rs' ⟨rfl, rfl⟩
  refine ⟨true, rfl, (fun z => Bool.noConfusion z), fun _ => sd_next ?_⟩
  refine sd_seq (sd_parM (eam_cons (em_roomK Q (p := p) (l := l) (ea_cons (ec_val rfl) (ea_cons (ec_val rfl) ea_nil)) (R.take 0) fun g dg => eam_cons (em_draw (m := (m : Nat)) (xs := zs) (rsF := [(g, .ins (CR K) dg (rF p l [])), (h, .ins (CR K) dh (rF p l cols))]) (ea_cons (ec_raw rfl) (ea_cons (ec_val rfl) ea_nil)) (perm3 _ _ _) hz (by omega) (by omega) fun at_ us h0 h1 hus => eam_nil ⟨_, _, rfl, ?_⟩))))
  obtain ⟨k, rfl⟩ := Int.eq_ofNat_of_zero_le h0
  have hk : k < m := by omega
  refine sd_perm (rs' := [(g, .ins (CR K) dg (rF p l [])), (h, .ins (CR K) dh (rF p l cols)), (a, .lst us)]) (perm3 _ _ _).symm ?_
  have hwk : ∀ {n : Nat}, n ≤ cols.length → atI (walkD p l cols) ((n : Nat) : Int) = some (pairW p l cols n) := fun {n} hn => at_walk rfl hn
  refine sd_seq (sd_forA (List.range m) (fun i => .int (i : Nat)) (it_is (it_range1 (ea_cons (ec_val rfl) ea_nil) (by omega) (by omega)) (by rw [Int.toNat_natCast, range0]))
    (fun n ds rs => rs = [(g, .ins (CR K) dg (rF p l (cols.take n))), (h, .ins (CR K) dh (rF p l cols)), (a, .lst us)] ∧ ∃ u10, ds = [.sqi ns, .raw (.ref a), .val (.int p), .val (.int (l : Nat)), .val (.int (m : Nat)), .val (eCs cols), .raw (.ref h), .val (.list (walkD p l cols)), .raw (.ref g), .val (.int (k : Nat)), u10, .un, .un, .un]) ⟨rfl, _, rfl⟩ ?_ ?_)
  · rintro n n' ds' rs' hn' ⟨rfl, u10, rfl⟩
    obtain ⟨hn, rfl⟩ := range_at hn'
    refine ⟨_, gs_name, ?_⟩
    have hnl : n < cols.length := by omega
    have hln : (cols.take n).length = n := by rw [List.length_take]; omega
    have hpr : pairW p l (cols.take n) (cols.take n).length = pairW p l cols n := by rw [hln]; exact pair_take p l cols (by omega) (Nat.le_refl _)
    refine sd_seq (sd_if (b := false) (et_is (et_and (b := false) (et_test (ec_op (ec_val rfl) (ec_tup (xs := iL [(k : Int), (k : Int) + 1]) (ea_cons (ec_val rfl) (ea_cons (ec_op (ec_val rfl) ec_int rv_I0) ea_nil)) (by show 2 ≤ 100000; decide)) rv_inT)) fun _ => et_is (et_not (et_B (ec_call (d := .bool true) (xs := [pairW p l cols n, pairW p l cols n]) (ea_cons (ec_is (ec_pair (ec_raw rfl) List.mem_cons_self (R.take n)) (by rw [hpr])) (ea_cons (ec_op (ec_val rfl) (ec_val rfl) (rv_ixL (hwk (by omega)))) ea_nil)) ⟨_, rfl, samD_up _ _ (sam_pair R (by omega)), rfl⟩))) rfl) (by simp)) (fun z => Bool.noConfusion z) fun _ => sd_next ?_)
    have hcn := hC _ (FTM.getD_mem (d := []) hnl)
    refine sd_ifM (etm_B (em_notN (em_call (eam_of (ea_cons (ec_raw rfl) (ea_cons (ec_op (ec_val rfl) (ec_val rfl) (rv_ixL (at_map (enc := tupI) (j := n) [] hnl))) ea_nil)) ⟨[(g, .ins (CR K) dg (rF p l (cols.take n)))], [(h, .ins (CR K) dh (rF p l cols)), (a, .lst us)], _, List.Perm.refl _, ⟨g, dg, p, l, cols.take n, cols.getD n [], rfl, rfl, ⟨R.take n, by omega, hcn.1, hcn.2⟩, rfl⟩, ?_⟩))))
    rintro c rs' ⟨rfl, rfl⟩
    exact .inl ⟨.none, rfl, _, rfl, (fun z => Bool.noConfusion z), fun _ => sd_next ⟨by rw [take_snoc [] hnl]; rfl, _, rfl⟩⟩
  rintro ds' rs' ⟨rfl, u10, rfl⟩
  rw [List.length_range, show cols.take m = cols by rw [← hcl]; exact List.take_length]
  have hpm : pairW p l cols cols.length = pairW p l cols m := by rw [hcl]
  refine sd_seq (sd_if (b := false) (et_is (et_not (et_B (ec_call (d := .bool true) (xs := [.list [pairW p l cols m, .bool true], .list [pairW p l cols m, .bool true]]) (ea_cons (ec_lst (xs := [pairW p l cols m, .bool true]) (ea_cons (ec_is (ec_pair (ec_raw rfl) List.mem_cons_self R) (by rw [hpm])) (ea_cons (ec_eqR (p := p) (l := l) (cols := cols) (rsF := [(a, .lst us)]) (ec_raw rfl) (ec_raw rfl) (List.Perm.refl _)) ea_nil)) (by show 2 ≤ 100000; decide)) (ea_cons (ec_lst (xs := [pairW p l cols m, .bool true]) (ea_cons (ec_op (ec_val rfl) (ec_val rfl) (rv_ixL (hwk (by omega)))) (ea_cons ec_bl ea_nil)) (by show 2 ≤ 100000; decide)) ea_nil)) ⟨_, rfl, sam_two (sam_pair R (by omega)), rfl⟩))) rfl) (fun z => Bool.noConfusion z) fun _ => sd_next ?_)
  have hlk : (cols.take k).length = k := by rw [List.length_take]; omega
  have hpk : pairW p l (cols.take k) (cols.take k).length = pairW p l cols k := by rw [hlk]; exact pair_take p l cols (by omega) (Nat.le_refl _)
  refine sd_seq (sd_asgM (em_room (p := p) (l := l) (cols := cols.take k) (ea_cons (ec_val rfl) (ea_cons (ec_val rfl) (ea_cons (ec_is (ec_slL (ec_val rfl) eo_none (eo_some (ec_val rfl))) (by rw [cut_to (by rw [len_map]; omega), ← List.map_take])) ea_nil))) (R.take k) fun s ds_ => ?_))
  refine sd_seq (sd_if (b := false) (et_is (et_not (et_B (ec_call (d := .bool true) (xs := [pairW p l cols k, pairW p l cols k]) (ea_cons (ec_is (ec_pair (ec_raw rfl) List.mem_cons_self (R.take k)) (by rw [hpk])) (ea_cons (ec_op (ec_val rfl) (ec_val rfl) (rv_ixL (hwk (by omega)))) ea_nil)) ⟨_, rfl, samD_up _ _ (sam_pair R (by omega)), rfl⟩))) rfl) (fun z => Bool.noConfusion z) fun _ => sd_next ?_)
  refine sd_perm (rs' := [(g, .ins (CR K) dg (rF p l cols)), (s, .ins (CR K) ds_ (rF p l (cols.take k))), (h, .ins (CR K) dh (rF p l cols)), (a, .lst us)]) (List.Perm.swap _ _ _) ?_
  refine sd_seq (sd_forA (List.range (m - k)) (fun i => .int (i : Nat)) (it_is (it_range1 (ea_cons (ec_op (ec_val rfl) (ec_val rfl) rv_I0) ea_nil) (by omega) (by omega)) (by rw [show ((m : Int) - (k : Int)).toNat = m - k by omega, range0]))
    (fun n ds rs => rs = [(g, .ins (CR K) dg (rF p l (cols.take (m - n)))), (s, .ins (CR K) ds_ (rF p l (cols.take k))), (h, .ins (CR K) dh (rF p l cols)), (a, .lst us)] ∧ ∃ u12, ds = [.sqi ns, .raw (.ref a), .val (.int p), .val (.int (l : Nat)), .val (.int (m : Nat)), .val (eCs cols), .raw (.ref h), .val (.list (walkD p l cols)), .raw (.ref g), .val (.int (k : Nat)), u10, .raw (.ref s), u12, .un]) ⟨by rw [Nat.sub_zero, ← hcl, List.take_length], _, rfl⟩ ?_ ?_)
  · rintro n n' ds' rs' hn' ⟨rfl, u12, rfl⟩
    obtain ⟨hn, rfl⟩ := range_at hn'
    refine ⟨_, gs_name, ?_⟩
    refine sd_dropM (em_meth (ec_raw rfl) List.mem_cons_self rfl (eam_nil ⟨[(g, .ins (CR K) dg (rF p l (cols.take (m - n))))], [(s, .ins (CR K) ds_ (rF p l (cols.take k))), (h, .ins (CR K) dh (rF p l cols)), (a, .lst us)], _, List.Perm.refl _, ⟨g, dg, p, l, cols.take (m - n), m - n - 1, rfl, rfl, by rw [List.length_take]; omega, by omega, rfl⟩, ?_⟩))
    rintro c rs' ⟨rfl, rfl⟩
    refine ⟨?_, _, rfl⟩
    rw [List.take_take, Nat.min_eq_left (by omega), Nat.sub_sub]
    rfl
  rintro ds' rs' ⟨rfl, u12, rfl⟩
  rw [List.length_range, show m - (m - k) = k by omega]
  refine sd_seq (sd_if (b := false) (et_is (et_not (et_B (ec_call (d := .bool true) (xs := [.list [pairW p l cols k, .bool true], .list [pairW p l cols k, .bool true]]) (ea_cons (ec_lst (xs := [pairW p l cols k, .bool true]) (ea_cons (ec_is (ec_pair (ec_raw rfl) List.mem_cons_self (R.take k)) (by rw [hpk])) (ea_cons (ec_eqR (p := p) (l := l) (cols := cols.take k) (rsF := [(h, .ins (CR K) dh (rF p l cols)), (a, .lst us)]) (ec_raw rfl) (ec_raw rfl) (List.Perm.refl _)) ea_nil)) (by show 2 ≤ 100000; decide)) (ea_cons (ec_lst (xs := [pairW p l cols k, .bool true]) (ea_cons (ec_op (ec_val rfl) (ec_val rfl) (rv_ixL (hwk (by omega)))) (ea_cons ec_bl ea_nil)) (by show 2 ≤ 100000; decide)) ea_nil)) ⟨_, rfl, sam_two (sam_pair R (by omega)), rfl⟩))) rfl) (fun z => Bool.noConfusion z) fun _ => sd_next ?_)
  have hlwk := len_walk p l (cols.take k)
  have spk : SpW (rF p l (cols.take k)) (tupI (liftsOf l)) ((List.range ((cols.take k).length + 1)).map fun n => eB (baseAt p l (cols.take k) n)) (walkD p l (cols.take k)) := ⟨p, l, cols.take k, R.take k, rfl, rfl, rfl, rfl⟩
  have hwt := walk_take p l cols (n := k) (by omega)
  refine sd_seq (sd_if (b := false) (et_is (et_not (et_B (ec_call (d := .bool true) (xs := [.list (walkD p l (cols.take k)), .list (walkD p l (cols.take k))]) (ea_cons (ec_lcG (r := g) (dx := dg) (ec_raw rfl) List.mem_cons_self rfl spk (by rw [hlwk, List.length_map, List.length_range]) (by omega) (by omega)) (ea_cons (ec_is (ec_slL (ec_val rfl) eo_none (eo_some (i := ((k + 1 : Nat) : Int)) (ec_op (ec_val rfl) ec_int rv_I0))) (by rw [cut_to (by omega), hwt])) ea_nil)) ⟨_, rfl, sam_walkA (R.take k), rfl⟩))) rfl) (fun z => Bool.noConfusion z) fun _ => sd_next ?_)
  refine sd_retM (em_orV (ec_op (ec_val rfl) ec_int rv_B0) (fun _ => rfl) fun z => ?_)
  obtain rfl : l = 1 := by
    have := of_decide_eq_false z
    omega
  refine em_call (eam_of (ea_cons (ec_val rfl) (ea_cons (ec_val rfl) (ea_cons (ec_val rfl) ea_nil))) ⟨[], _, _, List.Perm.refl _, ⟨p, cols, rfl, rfl, ⟨hp, hC, by omega⟩, rfl⟩, ?_⟩)
  rintro c rs' ⟨rfl, rfl⟩
  rfl
end FT
set_option maxHeartbeats 0
namespace FT
open PySem PySem.Spec PyProof.Rows L2
/-! ### the head: what stands behind the top -/
def propB (K : PySem.W.Frag) (f : Str) : Bool :=
  He.eqO (PySem.W.findIn K (.ref (He.ga K "LetterRoom")) f) (some (some (.ref (He.ma K (He.ga K "LetterRoom") f)))) &&
  (He.eqO (PySem.W.specialIn K (.ref (He.ma K (He.ga K "LetterRoom") f)) "__get__") (some (some (.builtin "property.__get__"))) &&
  (decide (PySem.W.takesIn K (.ref (He.ma K (He.ga K "LetterRoom") f)) = some true) &&
  (match PySem.W.recIn K (He.ma K (He.ga K "LetterRoom") f) "property" with
    | some (.ref _ :: _) => true
    | _ => false)))
def insB (K : PySem.W.Frag) : Bool :=
  He.eqO (PySem.W.findIn K (.ref (He.ga K "LetterRoom")) "__class__") (some (some (.builtin "object.__class__"))) &&
  (He.eqO (PySem.W.specialIn K (.builtin "object.__class__") "__get__") (some (some (.builtin "getset_descriptor.__get__"))) &&
  (decide (PySem.W.takesIn K (.builtin "object.__class__") = some true) &&
  (decide (PySem.W.mroIn K (He.ga K "LetterRoom") (.type "object") = some true) &&
  decide (PySem.W.kitOne K (.ref (He.ga K "LetterRoom")) (.ref (He.ga K "LetterRoom")) = some true))))
def eqB (K : PySem.W.Frag) : Bool :=
  He.eqO (PySem.W.findIn K (.ref (He.ga K "LetterRoom")) "__eq__") (some (some (.ref (df_room_eq.at_ K)))) && PySem.W.isFn K (.ref (df_room_eq.at_ K))
def emptyB (K : PySem.W.Frag) : Bool := match K.lookup (initDefault K) with
  | some ⟨.type c, _, .seq its _, _⟩ => decide (c = "tuple") && decide (its.size = 0)
  | _ => false
def roomB (K : PySem.W.Frag) : Bool := propB K "heights" && (propB K "least_order" && (insB K && (eqB K && emptyB K)))
abbrev Seen : Type := Bool × List He.FnW
def lookAll (K : PySem.W.Frag) : Seen := ((fas.all fun f => f.ok K) && (dfs.all (okAt K) && roomB K), dfs.map fun d => seenAt K (d.at_ K))
def dueAll : Seen := (true, dfs.map Df.due)
def addrs : List Addr := List.range 900
def theHook : PySem.W.Hook where
  α := Seen
  obs s := lookAll (He.frG s.heap.get? addrs)
  val _ := dueAll
  says _ h := ∃ K : PySem.W.Frag, K.In h ∧ lookAll K = dueAll
  of _ _ e := ⟨_, He.frG_in, e⟩
  keeps _ _ _ := fun ⟨K, i, c⟩ k => ⟨K, i.keeps k, c⟩
abbrev R : PySem.W.OpenRow := PySem.W.OpenLaw.row PySem.Challenge.rw_freetops_k63_whole_letters_one_by_one
def obT (s : PySem.W.SharedT) : Seen := lookAll (He.frG (HandSHeadRun.getT s) addrs)
theorem obT_eq (s : PySem.W.SharedT) : obT s = theHook.obs s.abs := by
  have e : HandSHeadRun.getT s = s.abs.heap.get? := funext (HandSHeadRun.getT_eq s)
  show lookAll (He.frG (HandSHeadRun.getT s) addrs) = lookAll (He.frG s.abs.heap.get? addrs)
  rw [e]
def loose : List PySem.Str := (["_wall", "__name__", "FreeError", "NotPrime", "InvalidNumber", "InvalidRow", "InvalidLifts", "InvalidColumn", "InvalidText", "Unlike", "Full", "NothingLeft", "is_integer", "is_number", "is_prime", "is_residue", "inverse", "is_form", "form_of", "add", "subtract", "multiply", "scaled", "raised", "is_row", "zero_row", "unit_row", "subtract_rows", "row_times", "level_of"] : List PySem.Str) ++ (["height_of", "lead_of", "is_column", "grown_base", "heights_of_base", "check_rows", "taken_off", "figure_of", "folded", "sorted_pairs", "base_of", "without", "highest", "collected", "reduced", "keyed", "write_form", "write_row", "is_figures", "numbers_of", "forms_in", "check_string", "read_row", "write_span", "number_in", "read_first", "read_line", "read_span", "Span", "MOST_COLUMNS"] : List PySem.Str) ++ (["lifts_of_width", "has_constant", "least_of_base", "gap_at", "next_base", "all_bases", "LetterRoom", "low_rows", "padded", "rule_and_changes", "told_by", "sure_column", "_law_bag", "_law_draw", "_law_of", "_law_same", "_law_prime", "_law_inverse", "_law_column", "_law_is_number", "_law_tells", "_law_ruled", "_law_pivots", "_law_least", "_law_put", "_law_columns", "_law_good", "_law_jumps", "_law_two_walks"] : List PySem.Str)
theorem run (w : World) : HandSHeadRun.RunEq R (PySem.W.view R.prog [101]) theHook obT 6500 loose w := by
  intro os
  kernel_rfl
end FT
set_option maxHeartbeats 0
namespace DL
open PySem PySem.Spec PyProof.Rows L2
theorem sc_sqi {K : PySem.W.Frag} {H : Hp} {a : Addr} {ns : List Int} (h : SqL K H a (ns.map V.int)) : ScRs K H [.ref a] [.sqi ns] := Paired.cons (F := ScR K H) (show ScR K H (.ref a) (.sqi ns) from ⟨a, rfl, h⟩) Paired.nil
theorem bool_val {K : PySem.W.Frag} {Hb : Hp} {v : V} (h : ScR K Hb v (.val (.bool true))) : v = .bl true := by cases h; rfl
end DL
namespace FT
open PySem PySem.Spec PyProof.Rows L2 DL FTM GN
theorem std_of {K : PySem.W.Frag} {d : Df} (e : seenAt K (d.at_ K) = d.due) (c : okAt K d = true) : Std K d := by
  obtain ⟨kp, c2⟩ := He.ba c
  unfold seenAt at e
  cases q : K.lookup (d.at_ K) with
  | none =>
    rw [q] at c2
    cases c2
  | some o =>
    obtain ⟨oc, od, dt, osl⟩ := o
    rw [q] at c2 e
    cases dt with
    | func fd =>
      obtain ⟨n1, n2, n3, n4, n5, n6, n7, n8, n9, n10, n11, n12, n13, n14, n15⟩ := fd
      have e2 : (some (n1, n2, n3, n4, n5, n6, n7, n15) : He.FnW) = some (d.name, d.qual, defArgs d.st, .stmts (defBody d.st), defScope d.st, mainGlobals, [], builtinsNs) := e
      simp only [Option.some.injEq, Prod.mk.injEq] at e2
      obtain ⟨h1, h2, h3, h4, h5, h6, h7, h8⟩ := e2
      subst h1 h2 h3 h4 h5 h6 h7 h8
      have c3 : (PySem.W.codeIn K n13 d.qual && (He.dflB K n8 (d.dfl.map (He.Dv.v K)) && He.kwdB K n9 (d.kwd.map fun q => (q.1, q.2.v K)))) = true := c2
      obtain ⟨k1, k2⟩ := He.ba c3
      obtain ⟨k3, k4⟩ := He.ba k2
      exact ⟨_, ⟨oc, od, n8, n9, n10, n11, n12, n13, n14, osl, rfl, q, k1, He.dflB_ok k3, He.kwdB_ok k4⟩, kp⟩
    | _ => cases c2
theorem fap_of {K : PySem.W.Frag} {h : Heap} {mg : PySem.Str → Option Value} (X : K.In h) (G : h.Ns mainGlobals mg) : ∀ f : He.Fa, f.ok K = true → FaP K mg f
  | .glo _, c => He.glo_ok X G c
  | .free _, c => He.free_ok X G c
  | .int _ _, c => He.int_ok X G c
  | .str _ _, _ => trivial
  | .cls _, c => He.cls_ok c
  | .noat _ _, c => He.noat_ok c
  | .meth _ _, c => He.meth_ok c
  | .mkr _, c => He.mkr_ok c
  | .exc _, _ => trivial
  | .exm _ _ _, _ => trivial
  | .keep _, _ => trivial
  | .code _ _, _ => trivial
theorem prop_of {K : PySem.W.Frag} {f : Str} (c : propB K f = true) : ∃ q, PropOf K (CR K) f q (getterAt K "LetterRoom" f) := by
  obtain ⟨c1, c⟩ := He.ba c
  obtain ⟨c2, c⟩ := He.ba c
  obtain ⟨c3, c4⟩ := He.ba c
  refine ⟨_, He.eqO_ok c1, He.eqO_ok c2, of_decide_eq_true c3, ?_⟩
  unfold getterAt
  cases q : PySem.W.recIn K (He.ma K (He.ga K "LetterRoom") f) "property" with
  | none => rw [q] at c4; cases c4
  | some vs =>
    rw [q] at c4
    cases vs with
    | nil => cases c4
    | cons v vs => cases v with
      | ref g => exact ⟨vs, rfl⟩
      | _ => cases c4
theorem tr_of {K : PySem.W.Frag} {mg : PySem.Str → Option Value} (T : Tx K mg) (c : roomB K = true) : Tr K := by
  obtain ⟨c1, c⟩ := He.ba c
  obtain ⟨c2, c⟩ := He.ba c
  obtain ⟨c3, c⟩ := He.ba c
  obtain ⟨c4, c5⟩ := He.ba c
  obtain ⟨i1, i⟩ := He.ba c3
  obtain ⟨i2, i⟩ := He.ba i
  obtain ⟨i3, i⟩ := He.ba i
  obtain ⟨i4, i5⟩ := He.ba i
  obtain ⟨e1, e2⟩ := He.ba c4
  refine ⟨prop_of c1, prop_of c2, ⟨T.cl, He.eqO_ok i1, He.eqO_ok i2, of_decide_eq_true i3, of_decide_eq_true i4, of_decide_eq_true i5⟩, He.eqO_ok e1, e2, ?_⟩
  unfold emptyB at c5
  cases q : K.lookup (initDefault K) with
  | none => rw [q] at c5; cases c5
  | some o =>
    obtain ⟨oc, od, dt, osl⟩ := o
    rw [q] at c5
    cases oc with
    | type cn =>
      cases dt with
      | seq its n =>
        obtain ⟨h1, h2⟩ := He.ba (show (decide (cn = "tuple") && decide (its.size = 0)) = true from c5)
        have h3 : its = #[] := Array.size_eq_zero_iff.mp (of_decide_eq_true h2)
        subst h3
        exact ⟨_, n, rfl, congrArg Value.type (of_decide_eq_true h1), rfl⟩
      | _ => cases c5
    | _ => cases dt <;> cases c5
theorem law_fn {P : Program} {w : World} {K : PySem.W.Frag} {mg : PySem.Str → Option Value} {base : Heap} (T : Tx K mg) (Q : Tr K) {fd : FuncData} (F : FunD K df_law.name df_law.qual (defArgs df_law.st) (defBody df_law.st) (defScope df_law.st) [] [] (df_law.at_ K) fd) : FnOk P w K mg base C8.CX0 12 (df_law.at_ K) fd ["_law_script"] (Fn K W_law) := by
  have c_is_integer := w_is_integer (P := P) (w := w) (base := base) T
  have c_is_number := w_is_number (P := P) (w := w) (base := base) T c_is_integer
  have c_is_prime := w_is_prime (P := P) (w := w) (base := base) T c_is_number
  have c_is_residue := w_is_residue (P := P) (w := w) (base := base) T c_is_number
  have c_inverse := w_inverse (P := P) (w := w) (base := base) T
  have c_form_of := w_form_of (P := P) (w := w) (base := base) T
  have c_scaled := w_scaled (P := P) (w := w) (base := base) T
  have c_add := w_add (P := P) (w := w) (base := base) T c_form_of
  have c_subtract := w_subtract (P := P) (w := w) (base := base) T c_add c_scaled
  have c_multiply := w_multiply (P := P) (w := w) (base := base) T c_form_of
  have c_unit_row := w_unit_row (P := P) (w := w) (base := base) T
  have c_subtract_rows := w_subtract_rows (P := P) (w := w) (base := base) T c_subtract
  have c_row_times := w_row_times (P := P) (w := w) (base := base) T c_multiply
  have c_level_of := w_level_of (P := P) (w := w) (base := base) T
  have c_height_of := w_height_of (P := P) (w := w) (base := base) T c_level_of
  have c_is_column := w_is_column (P := P) (w := w) (base := base) T c_is_residue
  have c_grown_base := w_grown_base (P := P) (w := w) (base := base) T c_inverse c_level_of c_row_times c_subtract_rows
  have c_heights_of_base := w_heights_of_base (P := P) (w := w) (base := base) T c_height_of
  have c_lifts_of_width := w_lifts_of_width (P := P) (w := w) (base := base) T
  have c_has_constant := w_has_constant (P := P) (w := w) (base := base) T
  have c_least_of_base := w_least_of_base (P := P) (w := w) (base := base) T c_height_of c_has_constant
  have c_gap_at := w_gap_at (P := P) (w := w) (base := base) T
  have c_next_base := w_next_base (P := P) (w := w) (base := base) T c_grown_base c_gap_at
  have c_all_bases := w_all_bases (P := P) (w := w) (base := base) T c_lifts_of_width c_unit_row c_next_base
  have c_room_heights := w_room_heights (P := P) (w := w) (base := base) T c_heights_of_base c_lifts_of_width
  have c_room_least_order := w_room_least_order (P := P) (w := w) (base := base) T c_least_of_base c_lifts_of_width
  have c_room_columns := w_room_columns (P := P) (w := w) (base := base) T
  have c_room_take_back := w_room_take_back (P := P) (w := w) (base := base) T
  have c_room_put := w_room_put (P := P) (w := w) (base := base) T c_is_column c_next_base c_lifts_of_width
  have c_all_bases0 := w_all_bases0 (P := P) (w := w) (base := base) T c_lifts_of_width c_unit_row c_next_base
  have c_eq := w_room_eq (P := P) (w := w) (base := base) T Q
  have h_init := w_room_init (P := P) (w := w) (base := base) T c_is_prime c_is_number c_is_column c_all_bases
  have h_init0 := w_room_init0 (P := P) (w := w) (base := base) T c_is_prime c_is_number c_is_column c_all_bases0
  have GW := gok_walk (P := P) (w := w) (base := base) T c_lifts_of_width c_least_of_base c_heights_of_base
  have c_padded := w_padded (P := P) (w := w) (base := base) T
  have c_low_rows := w_low_rows (P := P) (w := w) (base := base) T c_lifts_of_width c_height_of
  have c_told_by := w_told_by (P := P) (w := w) (base := base) T Q c_room_columns
  have c_rule_and_changes := w_rule_and_changes (P := P) (w := w) (base := base) T c_low_rows c_padded c_inverse c_has_constant
  have c_sure_column := w_sure_column (P := P) (w := w) (base := base) T Q c_rule_and_changes c_told_by c_room_least_order
  have c_law_bag := w_law_bag (P := P) (w := w) (base := base) T
  have c_law_draw := w_law_draw (P := P) (w := w) (base := base) T
  have c_law_of := w_law_of (P := P) (w := w) (base := base) T c_law_draw
  have c_law_prime := w_law_prime (P := P) (w := w) (base := base) T c_law_of
  have c_law_column := w_law_column (P := P) (w := w) (base := base) T c_law_draw
  have c_law_tells := w_law_tells (P := P) (w := w) (base := base) T
  have c_law_ruled := w_law_ruled (P := P) (w := w) (base := base) T c_law_column c_law_draw c_law_tells
  have c_law_columns := w_law_columns (P := P) (w := w) (base := base) T c_law_draw c_law_ruled c_law_column
  have c_law_is_number := w_law_is_number (P := P) (w := w) (base := base) T
  have c_law_inverse := w_law_inverse (P := P) (w := w) (base := base) T
  have c_law_pivots := w_law_pivots (P := P) (w := w) (base := base) T c_law_inverse
  have c_law_least := w_law_least (P := P) (w := w) (base := base) T c_law_pivots
  have c_law_put := w_law_put (P := P) (w := w) (base := base) T Q c_room_put
  have c_law_same := w_law_same (P := P) (w := w) (base := base) T
  have c_law_good := w_law_good (P := P) (w := w) (base := base) T c_law_same c_law_least c_law_is_number
  have c_mk := mak_room (P := P) (w := w) (base := base) T h_init
  have c_kb := kb_room (P := P) (w := w) (base := base) T h_init0
  have c_law_jumps := w_law_jumps (P := P) (w := w) (base := base) T c_sure_column c_mk
  have c_law_two_walks := w_law_two_walks (P := P) (w := w) (base := base) T c_law_same GW
  exact w_law (P := P) (w := w) (base := base) T F Q c_law_bag c_law_columns c_law_prime c_law_of c_law_draw c_law_same c_law_jumps c_law_good c_law_two_walks c_law_put c_room_heights c_room_least_order c_room_take_back c_mk c_kb c_eq GW
theorem law_std {K : PySem.W.Frag} {mg : PySem.Str → Option Value} (T : Tx K mg) : ∃ fd, FunD K df_law.name df_law.qual (defArgs df_law.st) (defBody df_law.st) (defScope df_law.st) [] [] (df_law.at_ K) fd := T.d 46
theorem law_binds {K : PySem.W.Frag} {fd : FuncData} (F : FunD K df_law.name df_law.qual (defArgs df_law.st) (defBody df_law.st) (defScope df_law.st) [] [] (df_law.at_ K) fd) (s : Shared) (v : Value) : BindsTo s fd ⟨[v], []⟩ [("_law_script", v)] :=
  FunD.bindsA (ps := ["_law_script"]) F (fun _ _ _ _ _ _ us hl => match us, hl with | [_], _ => rfl) s [v] rfl
theorem says_of {K : PySem.W.Frag} {h : Heap} {mg : PySem.Str → Option Value} (X : K.In h) (G : h.Ns mainGlobals mg) (e : lookAll K = dueAll) : Tx K mg ∧ Tr K := by
  have e1 : ((fas.all fun f => f.ok K) && (dfs.all (okAt K) && roomB K)) = true := congrArg (fun z : Seen => z.1) e
  have e2 : dfs.map (fun d => seenAt K (d.at_ K)) = dfs.map Df.due := congrArg (fun z : Seen => z.2) e
  obtain ⟨a1, a2⟩ := He.ba e1
  obtain ⟨a3, a4⟩ := He.ba a2
  have T : Tx K mg := ⟨fun f hf => fap_of X G f (List.all_eq_true.mp a1 f hf), fun d hd => std_of (List.map_inj_left.mp e2 d hd) (List.all_eq_true.mp a3 d hd)⟩
  exact ⟨T, tr_of T a4⟩
end FT
open PySem PySem.W PySem.Calls PyProof.Rows
theorem PySem.Challenge.cw_freetops_k63_whole_letters_one_by_one_holds : PySem.Challenge.rw_freetops_k63_whole_letters_one_by_one.Holds := by
  w_on; o_law
  refine HandSHeadRun.head_any (r := FT.R) (q := view FT.R.prog [101]) (H := FT.theHook) (ob := FT.obT) (M := 6500) (loose := FT.loose) (d := HandSHeadRun.topDef FT.R.prog 101) (kwd := []) FT.obT_eq
    (by kernel_rfl) (fun s => by kernel_rfl) FT.run (by kernel_rfl) (by kernel_rfl) (by kernel_rfl) (by rfl) (by first | assumption | decide +kernel) (by decide +kernel) ⟨rfl, rfl, rfl, rfl, rfl, by decide +kernel⟩ ?hw ?hc
  case hw => w_witness2
  case hc =>
    refine L2.walk_ofE (l := PySem.Challenge.rw_freetops_k63_whole_letters_one_by_one) (n := 63) (k := 12) (x := "_law_script") (CX := L2.CX0) rfl (by decide) (by kernel_rfl) ⟨rfl, by decide, by decide⟩ ?F (fun _ _ _ _ z => z)
    intro w mg fa h Y G hmg0
    obtain ⟨K, KX, c⟩ := Y
    have hmg : mg ("law" : PySem.Str) = some (.ref fa) := by
      have e : (HandSHeadRun.topDef FT.R.prog 101).name = ("law" : PySem.Str) := by kernel_rfl
      rw [← e]
      exact hmg0
    obtain ⟨T, Q⟩ := FT.says_of KX G c
    obtain ⟨fd, F⟩ := FT.law_std T
    have hfa : fa = FT.df_law.at_ K := by
      have := hmg.symm.trans (T.f (f := .glo "law") 46)
      cases this
      rfl
    subst hfa
    refine ⟨K, fd, DL.Fn K FT.W_law, KX, FT.law_binds F, fun H a ns hl _ hS => ?_, fun base _ _ => FT.law_fn T Q F⟩
    exact ⟨H, [.sqi ns], [], _, L2.Same.refl H, DL.sc_sqi hS, .nil, ⟨ns, rfl, rfl, rfl⟩, fun v c rs' Hb2 H2 _ rv _ _ e => DL.bool_val (e ▸ rv)⟩
