import PyProof.Rows.All
import Wide.All
import OpenK.AllK
import Wide.FinOn
import PyProof.ReprRoads
import PyProof.EnumStmt
import PyProof.Rows.SortShellAny
import KE.GoesMore
import KE.GoesEnum
import PyProof.Draws
import HandS.ForMost
import HandS.SetFor
import HandS.TupMul
import HandS.TupAny
import HandS.Walk
import HandS.Defaults
import HandS.Lambda
import HandS.EndTab
import PySem.Challenge.RW_tellerhabits_k26_whole_chances_behind_sa
import HandS.Property
import HandS.IsInst
import HandS.Wide
import HandS.ForExc
import HandS.ExcBuiltin
import HandS.HeadHook1
import KE.KStateDown
import KE.KNestM
import HandS.Head0
import HandS.Head1
import HandS.Head2
import HandS.HeadEnd
import HandS.HeadHook2
import HandS.HeadHook3
import HandS.HeadHook4
import HandS.HeadWalk
set_option Elab.async false
set_option linter.all false
set_option maxRecDepth 100000
/-! plain mathematics: reduced fractions, Euclid, sums of weights, subsets -/
namespace Tk
/-! ### reduced fractions -/
def red (a b : Int) : Int × Int := (a / (Int.gcd a b : Int), b / (Int.gcd a b : Int))
theorem gcd_pos {a b : Int} (hb : 0 < b) : 0 < (Int.gcd a b : Int) := by
  have : 0 < Int.gcd a b := Int.gcd_pos_of_ne_zero_right a (by omega)
  omega
theorem red_fst {a b : Int} : (red a b).1 * (Int.gcd a b : Int) = a := Int.ediv_mul_cancel (Int.gcd_dvd_left a b)
theorem red_snd {a b : Int} : (red a b).2 * (Int.gcd a b : Int) = b := Int.ediv_mul_cancel (Int.gcd_dvd_right a b)
theorem red_cross (a b : Int) : (red a b).1 * b = a * (red a b).2 := by
  have h1 := @red_fst a b
  have h2 := @red_snd a b
  generalize (Int.gcd a b : Int) = g at h1 h2
  grind
theorem red_snd_pos {a b : Int} (hb : 0 < b) : 0 < (red a b).2 := by
  have h2 := @red_snd a b
  have hg := gcd_pos (a := a) hb
  rcases Int.lt_trichotomy (red a b).2 0 with h | h | h
  · have := Int.mul_neg_of_neg_of_pos h hg
    omega
  · rw [h] at h2; omega
  · exact h
theorem red_fst_nn {a b : Int} (ha : 0 ≤ a) (hb : 0 < b) : 0 ≤ (red a b).1 := Int.ediv_nonneg ha (Int.le_of_lt (gcd_pos hb))
theorem red_fst_le {a b : Int} (ha : 0 ≤ a) (hb : 0 < b) : (red a b).1 ≤ a := by
  have h1 := @red_fst a b
  have hg := gcd_pos (a := a) hb
  have h0 := red_fst_nn ha hb
  have : (red a b).1 * 1 ≤ (red a b).1 * (Int.gcd a b : Int) := Int.mul_le_mul_of_nonneg_left (by omega) h0
  omega
theorem red_snd_le {a b : Int} (hb : 0 < b) : (red a b).2 ≤ b := by
  have h1 := @red_snd a b
  have hg := gcd_pos (a := a) hb
  have h0 := red_snd_pos (a := a) hb
  have : (red a b).2 * 1 ≤ (red a b).2 * (Int.gcd a b : Int) := Int.mul_le_mul_of_nonneg_left (by omega) (by omega)
  omega
/-- two of the same value are the same pair -/
theorem red_same {a b c d : Int} (hb : 0 < b) (hd : 0 < d) (h : a * d = c * b) : red a b = red c d := by
  have key : ∀ x y k : Int, 0 < y → 0 < k → red (x * k) (y * k) = red x y := by
    intro x y k hy hk
    have e : (Int.gcd (x * k) (y * k) : Int) = (Int.gcd x y : Int) * k := by
      rw [Int.gcd_mul_right]
      have : ((k.natAbs : Nat) : Int) = k := by omega
      rw [Int.natCast_mul, this]
    unfold red
    rw [e, Int.mul_ediv_mul_of_pos_left _ _ hk, Int.mul_ediv_mul_of_pos_left _ _ hk]
  rw [← key a b d hb hd, ← key c d b hd hb, h, Int.mul_comm b d]
theorem red_one {a : Int} (h : 0 < a) : red a a = (1, 1) := by
  have e : (Int.gcd a a : Int) = a := by rw [Int.gcd_self]; omega
  unfold red
  rw [e, Int.ediv_self (by omega)]
theorem red_zero {b : Int} (h : 0 < b) : red 0 b = (0, 1) := by
  have e : (Int.gcd 0 b : Int) = b := by rw [Int.gcd_zero_left]; omega
  unfold red
  rw [e, Int.ediv_self (by omega), Int.zero_ediv]
/-- working on with reduced parts -/
theorem red_add {a b c d : Int} (hb : 0 < b) (hd : 0 < d) :
    red ((red a b).1 * (red c d).2 + (red c d).1 * (red a b).2) ((red a b).2 * (red c d).2) = red (a * d + c * b) (b * d) := by
  have p1 := red_snd_pos (a := a) hb
  have p2 := red_snd_pos (a := c) hd
  have e1 := red_cross a b
  have e2 := red_cross c d
  refine red_same (Int.mul_pos p1 p2) (Int.mul_pos hb hd) ?_
  generalize (red a b).1 = x at *
  generalize (red a b).2 = y at *
  generalize (red c d).1 = z at *
  generalize (red c d).2 = t at *
  grind
theorem red_mul {a b c d : Int} (hb : 0 < b) (hd : 0 < d) : red ((red a b).1 * (red c d).1) ((red a b).2 * (red c d).2) = red (a * c) (b * d) := by
  have p1 := red_snd_pos (a := a) hb
  have p2 := red_snd_pos (a := c) hd
  have e1 := red_cross a b
  have e2 := red_cross c d
  refine red_same (Int.mul_pos p1 p2) (Int.mul_pos hb hd) ?_
  generalize (red a b).1 = x at *
  generalize (red a b).2 = y at *
  generalize (red c d).1 = z at *
  generalize (red c d).2 = t at *
  grind
theorem red_one_right (a : Int) : red a 1 = (a, 1) := by
  have e : (Int.gcd a 1 : Int) = 1 := by rw [Int.gcd_one_right]; rfl
  unfold red
  rw [e, Int.ediv_one, Int.ediv_one]
/-! ### Euclid -/
theorem gcd_turn {a b : Int} (_ : 0 < b) (ha : 0 ≤ a) : Int.gcd b (a % b) = Int.gcd a b := by
  have e1 : (a % b).natAbs = a.natAbs % b.natAbs := by
    have := Int.natAbs_emod_of_nonneg ha b
    exact this
  show Nat.gcd b.natAbs (a % b).natAbs = Nat.gcd a.natAbs b.natAbs
  rw [e1, Nat.gcd_comm b.natAbs, ← Nat.gcd_rec, Nat.gcd_comm]
theorem gcd_end {a : Int} (ha : 0 ≤ a) : (Int.gcd a 0 : Int) = a := by
  rw [Int.gcd_zero_right]; omega
/-- the bounded Euclid: behind i turns -/
def Eu (M : Int) (g : Nat) (i : Nat) (f s : Int) : Prop := 0 ≤ f ∧ 0 ≤ s ∧ Int.gcd f s = g ∧ (i = 0 → f * s ≤ M) ∧ (1 ≤ i → s < f ∧ f * s * 2 ^ (i - 1) ≤ M)
theorem Eu.turn {M : Int} {g i : Nat} {f s : Int} (h : Eu M g i f s) (hs : s ≠ 0) : Eu M g (i + 1) s (f % s) := by
  obtain ⟨h0, h1, h2, h3, h4⟩ := h
  have hp : 0 < s := by omega
  have r0 := Int.emod_nonneg f hs
  have r1 := Int.emod_lt_of_pos f hp
  refine ⟨h1, r0, by rw [gcd_turn hp h0, h2], fun z => by omega, fun _ => ⟨r1, ?_⟩⟩
  show s * (f % s) * 2 ^ i ≤ M
  cases i with
  | zero =>
    have q := h3 rfl
    have rle : f % s ≤ f := by
      have e := Int.emod_add_mul_ediv f s
      have : 0 ≤ s * (f / s) := Int.mul_nonneg h1 (Int.ediv_nonneg h0 h1)
      omega
    have : s * (f % s) ≤ s * f := Int.mul_le_mul_of_nonneg_left rle h1
    rw [Int.mul_comm s f] at this
    simpa using Int.le_trans this q
  | succ i =>
    obtain ⟨q1, q2⟩ := h4 (by omega)
    have q2 : f * s * 2 ^ i ≤ M := q2
    -- f ≥ s + f % s ≥ 2 (f % s)
    have dv : s + f % s ≤ f := by
      have e := Int.emod_add_mul_ediv f s
      have k1 : 1 ≤ f / s := by
        have := Int.ediv_le_ediv hp (Int.le_of_lt q1)
        rw [Int.ediv_self hs] at this
        exact this
      have : s * 1 ≤ s * (f / s) := Int.mul_le_mul_of_nonneg_left k1 h1
      omega
    have two : 2 * (f % s) ≤ f := by omega
    have pw : (0 : Int) ≤ 2 ^ i := Int.pow_nonneg (by decide)
    have m1 : s * (2 * (f % s)) ≤ s * f := Int.mul_le_mul_of_nonneg_left two h1
    have m2 : s * (2 * (f % s)) * 2 ^ i ≤ s * f * 2 ^ i := Int.mul_le_mul_of_nonneg_right m1 pw
    rw [Int.pow_succ]
    have e1 : s * (f % s) * (2 ^ i * 2) = s * (2 * (f % s)) * 2 ^ i := by grind
    rw [e1]
    refine Int.le_trans m2 ?_
    rw [Int.mul_comm s f]
    exact q2
theorem Eu.small {M : Int} {g i : Nat} {f s : Int} (h : Eu M g i f s) (hM : M < 2 ^ 100) (hi : 4000 ≤ i) : s = 0 := by
  obtain ⟨h0, h1, h2, h3, h4⟩ := h
  obtain ⟨q1, q2⟩ := h4 (by omega)
  rcases Int.lt_or_eq_of_le h1 with hp | hp
  · exfalso
    have a1 : (1 : Int) ≤ f * s := by
      have := Int.mul_pos (show 0 < f by omega) hp
      omega
    have a2 : (2 : Int) ^ 100 ≤ 2 ^ (i - 1) := by
      have z : 2 ^ 100 ≤ 2 ^ (i - 1) := Nat.pow_le_pow_right (by decide : 0 < 2) (by omega)
      have z2 : ((2 ^ 100 : Nat) : Int) ≤ ((2 ^ (i - 1) : Nat) : Int) := Int.ofNat_le.mpr z
      rw [Int.natCast_pow, Int.natCast_pow] at z2
      exact z2
    have a3 : 1 * 2 ^ (i - 1) ≤ f * s * 2 ^ (i - 1) := Int.mul_le_mul_of_nonneg_right a1 (Int.pow_nonneg (by decide))
    rw [Int.one_mul] at a3
    exact absurd (Int.lt_of_le_of_lt (Int.le_trans a2 (Int.le_trans a3 q2)) hM) (Int.lt_irrefl _)
  · exact hp.symm
/-! ### the law's own words -/
def upTo (n : Nat) : List Int := (List.range n).map fun (i : Nat) => (i : Int)
def inB (k : Int) (l : List Int) : Bool := decide (k ∈ l)
def rowAt (rows : List (List Int)) (s : Int) : List Int := rows.getD s.toNat []
def wt (loads : List Int) (k : Int) : Int := loads.getD k.toNat 0
def isOpen (rows : List (List Int)) (heard : List Int) (k : Int) : Bool := heard.all fun s => inB k (rowAt rows s)
def openC (n : Nat) (rows : List (List Int)) (heard : List Int) : List Int := (upTo n).filter (isOpen rows heard)
def said (rows : List (List Int)) (k : Int) : List Int := (upTo rows.length).filter fun a => inB k (rowAt rows a)
def isBound (rows : List (List Int)) (k : Int) : Bool := (said rows k).length == 1
def cnt (heard : List Int) (s : Int) : Int := ((heard.countP fun x => x == s : Nat) : Int)
def prodT (heard : List Int) : Int := heard.foldl (fun t s => t * cnt heard s) 1
def prodB (heard : List Int) : Int := heard.foldl (fun b _ => b * (heard.length : Int)) 1
def sumW (loads ks : List Int) : Int := (ks.map (wt loads)).sum
def outC (n : Nat) (rows : List (List Int)) (heard lot : List Int) : List Int := (openC n rows heard).filter fun k => !inB k lot
def innC (n : Nat) (rows : List (List Int)) (heard lot : List Int) : List Int := (openC n rows heard).filter fun k => inB k lot
def lowV (loads : List Int) (rows : List (List Int)) (heard lot : List Int) : Int × Int :=
  if outC loads.length rows heard lot = [] then (1, 1) else
    red (sumW loads ((innC loads.length rows heard lot).filter (isBound rows)) * prodB heard)
      (sumW loads ((innC loads.length rows heard lot).filter (isBound rows)) * prodB heard + sumW loads (outC loads.length rows heard lot) * prodT heard)
def highV (loads : List Int) (rows : List (List Int)) (heard lot : List Int) : Int × Int :=
  if innC loads.length rows heard lot = [] then (0, 1) else
    red (sumW loads (innC loads.length rows heard lot) * prodT heard)
      (sumW loads (innC loads.length rows heard lot) * prodT heard + sumW loads ((outC loads.length rows heard lot).filter (isBound rows)) * prodB heard)
def lots : Nat → List (List Int)
  | 0 => [[]]
  | n + 1 => lots n ++ (lots n).map fun l => l ++ [(n : Int)]
theorem lots_in : ∀ (n : Nat) (s : List Int), s ∈ lots n → ∀ x ∈ s, 0 ≤ x ∧ x < n
  | 0, s, h, x, hx => by
    simp only [lots, List.mem_cons, List.not_mem_nil, or_false] at h
    subst h
    cases hx
  | n + 1, s, h, x, hx => by
    simp only [lots, List.mem_append, List.mem_map] at h
    rcases h with h | ⟨l, h, rfl⟩
    · have := lots_in n s h x hx
      omega
    · rcases List.mem_append.mp hx with q | q
      · have := lots_in n l h x q
        omega
      · simp only [List.mem_cons, List.not_mem_nil, or_false] at q
        omega
theorem lots_all (ch : Nat → Bool) : ∀ n : Nat, ∃ s ∈ lots n, ∀ i : Nat, i < n → inB (i : Int) s = ch i
  | 0 => ⟨[], by simp [lots], fun i h => by omega⟩
  | n + 1 => by
    obtain ⟨s, hs, h⟩ := lots_all ch n
    cases e : ch n with
    | false =>
      refine ⟨s, by simp only [lots, List.mem_append]; exact .inl hs, fun i hi => ?_⟩
      by_cases q : i = n
      · subst q
        rw [e]
        unfold inB
        exact decide_eq_false fun z => by have := lots_in _ s hs _ z; omega
      · exact h i (by omega)
    | true =>
      refine ⟨s ++ [(n : Int)], by simp only [lots, List.mem_append, List.mem_map]; exact .inr ⟨s, hs, rfl⟩, fun i hi => ?_⟩
      by_cases q : i = n
      · subst q
        rw [e]
        unfold inB
        exact decide_eq_true (by simp)
      · rw [← h i (by omega)]
        unfold inB
        have : ¬ ((i : Int) = (n : Int)) := by omega
        simp [this]
/-! ### a choice's parts -/
def vl (rows : List (List Int)) (T B : Int) (c : Bool) (k : Int) : Int := if isBound rows k then B else if c then T else 0
def b2n (b : Bool) : Int := if b then 1 else 0
def insW (loads : List Int) (rows : List (List Int)) (part : List Int) (T B : Int) (ch : Nat → Bool) : List Int → Nat → Int
  | [], _ => 0
  | k :: r, i => wt loads k * vl rows T B (ch i) k * b2n (inB k part) + insW loads rows part T B ch r (i + 1)
def whlW (loads : List Int) (rows : List (List Int)) (T B : Int) (ch : Nat → Bool) : List Int → Nat → Int
  | [], _ => 0
  | k :: r, i => wt loads k * vl rows T B (ch i) k + whlW loads rows T B ch r (i + 1)
section
variable {loads : List Int} {rows : List (List Int)} {part : List Int} {T B : Int} {ch : Nat → Bool}
theorem insW_app : ∀ (l : List Int) (i : Nat) (k : Int), insW loads rows part T B ch (l ++ [k]) i = insW loads rows part T B ch l i + wt loads k * vl rows T B (ch (i + l.length)) k * b2n (inB k part)
  | [], i, k => by simp [insW]
  | a :: r, i, k => by
    have e := insW_app r (i + 1) k
    have z : i + 1 + r.length = i + (a :: r).length := by simp; omega
    rw [z] at e
    simp only [List.cons_append, insW, e]
    omega
theorem whlW_app : ∀ (l : List Int) (i : Nat) (k : Int), whlW loads rows T B ch (l ++ [k]) i = whlW loads rows T B ch l i + wt loads k * vl rows T B (ch (i + l.length)) k
  | [], i, k => by simp [whlW]
  | a :: r, i, k => by
    have e := whlW_app r (i + 1) k
    have z : i + 1 + r.length = i + (a :: r).length := by simp; omega
    rw [z] at e
    simp only [List.cons_append, whlW, e]
    omega
theorem sumW_cons (k : Int) (l : List Int) : sumW loads (k :: l) = wt loads k + sumW loads l := by simp [sumW]
theorem sumW_nil : sumW loads [] = 0 := rfl
theorem b2n_t : b2n true = 1 := rfl
theorem b2n_f : b2n false = 0 := rfl
/-- what every choice keeps to -/
theorem parts_bound (hT : 0 ≤ T) (hTB : T ≤ B) : ∀ (l : List Int) (i : Nat), (∀ k ∈ l, 0 ≤ wt loads k) → (∀ k ∈ l, isBound rows k = true → T = B) →
    sumW loads ((l.filter fun k => inB k part).filter (isBound rows)) * B ≤ insW loads rows part T B ch l i ∧
    insW loads rows part T B ch l i ≤ sumW loads (l.filter fun k => inB k part) * T ∧
    sumW loads ((l.filter fun k => !inB k part).filter (isBound rows)) * B ≤ whlW loads rows T B ch l i - insW loads rows part T B ch l i ∧
    whlW loads rows T B ch l i - insW loads rows part T B ch l i ≤ sumW loads (l.filter fun k => !inB k part) * T
  | [], i, _, _ => by simp [insW, whlW, sumW]
  | k :: r, i, hw, hb => by
    obtain ⟨h1, h2, h3, h4⟩ := parts_bound hT hTB r (i + 1) (fun x hx => hw x (List.mem_cons_of_mem _ hx)) (fun x hx => hb x (List.mem_cons_of_mem _ hx))
    have wk := hw k List.mem_cons_self
    have hB : 0 ≤ B := by omega
    have wT := Int.mul_nonneg wk hT
    have wB := Int.mul_nonneg wk hB
    have tb := hb k List.mem_cons_self
    cases e1 : inB k part <;> cases e2 : isBound rows k <;> cases e3 : ch i <;>
      (first | (have e := tb e2; subst e) | skip) <;>
      simp only [insW, whlW, List.filter_cons, e1, e2, e3, vl, b2n, sumW_cons, Int.add_mul, Bool.not_false, Bool.not_true, if_true, Bool.false_eq_true, if_false, Int.mul_zero, Int.mul_one, Int.zero_add, ite_true, ite_false] <;>
      omega
/-- the choice of all outside -/
theorem parts_low : ∀ (l : List Int) (i : Nat), (∀ k ∈ l, isBound rows k = true → T = B) → (∀ (j : Nat) (k : Int), l[j]? = some k → ch (i + j) = !inB k part) →
    insW loads rows part T B ch l i = sumW loads ((l.filter fun k => inB k part).filter (isBound rows)) * B ∧
    whlW loads rows T B ch l i - insW loads rows part T B ch l i = sumW loads (l.filter fun k => !inB k part) * T
  | [], i, _, _ => by simp [insW, whlW, sumW]
  | k :: r, i, hb, hc => by
    obtain ⟨h1, h2⟩ := parts_low r (i + 1) (fun x hx => hb x (List.mem_cons_of_mem _ hx)) (fun j x hx => by have := hc (j + 1) x hx; rw [← this]; congr 1; omega)
    have c0 : ch i = !inB k part := hc 0 k rfl
    have tb := hb k List.mem_cons_self
    cases e1 : inB k part <;> cases e2 : isBound rows k <;> rw [e1] at c0 <;>
      (first | (have e := tb e2; subst e) | skip) <;>
      simp only [insW, whlW, List.filter_cons, e1, e2, c0, vl, b2n, sumW_cons, Int.add_mul, Bool.not_false, Bool.not_true, if_true, Bool.false_eq_true, if_false, Int.mul_zero, Int.mul_one, Int.zero_add, ite_true, ite_false] <;>
      omega
/-- the choice of all inside -/
theorem parts_high : ∀ (l : List Int) (i : Nat), (∀ k ∈ l, isBound rows k = true → T = B) → (∀ (j : Nat) (k : Int), l[j]? = some k → ch (i + j) = inB k part) →
    insW loads rows part T B ch l i = sumW loads (l.filter fun k => inB k part) * T ∧
    whlW loads rows T B ch l i - insW loads rows part T B ch l i = sumW loads ((l.filter fun k => !inB k part).filter (isBound rows)) * B
  | [], i, _, _ => by simp [insW, whlW, sumW]
  | k :: r, i, hb, hc => by
    obtain ⟨h1, h2⟩ := parts_high r (i + 1) (fun x hx => hb x (List.mem_cons_of_mem _ hx)) (fun j x hx => by have := hc (j + 1) x hx; rw [← this]; congr 1; omega)
    have c0 : ch i = inB k part := hc 0 k rfl
    have tb := hb k List.mem_cons_self
    cases e1 : inB k part <;> cases e2 : isBound rows k <;> rw [e1] at c0 <;>
      (first | (have e := tb e2; subst e) | skip) <;>
      simp only [insW, whlW, List.filter_cons, e1, e2, c0, vl, b2n, sumW_cons, Int.add_mul, Bool.not_false, Bool.not_true, if_true, Bool.false_eq_true, if_false, Int.mul_zero, Int.mul_one, Int.zero_add, ite_true, ite_false] <;>
      omega
end
/-! ### counts -/
theorem cnt_pos {heard : List Int} {s : Int} (h : s ∈ heard) : 1 ≤ cnt heard s := by
  have : 0 < heard.countP fun x => x == s := List.countP_pos_iff.mpr ⟨s, h, by simp⟩
  unfold cnt
  omega
theorem cnt_le (heard : List Int) (s : Int) : cnt heard s ≤ (heard.length : Int) := by
  have : heard.countP (fun x => x == s) ≤ heard.length := List.countP_le_length
  unfold cnt
  omega
theorem prod_fold (heard : List Int) : ∀ (l : List Int) (x y : Int), (∀ s ∈ l, s ∈ heard) → 0 < x → x ≤ y →
    0 < l.foldl (fun t s => t * cnt heard s) x ∧ l.foldl (fun t s => t * cnt heard s) x ≤ l.foldl (fun b _ => b * (heard.length : Int)) y
  | [], x, y, _, h1, h2 => ⟨h1, h2⟩
  | s :: r, x, y, hs, h1, h2 => by
    have c1 := cnt_pos (hs s List.mem_cons_self)
    have c2 := cnt_le heard s
    have p1 : 0 < x * cnt heard s := Int.mul_pos h1 (by omega)
    have p2 : x * cnt heard s ≤ y * (heard.length : Int) := Int.mul_le_mul h2 c2 (by omega) (by omega)
    exact prod_fold heard r _ _ (fun z hz => hs z (List.mem_cons_of_mem _ hz)) p1 p2
theorem prodT_pos (heard : List Int) : 0 < prodT heard := (prod_fold heard heard 1 1 (fun _ h => h) (by decide) (by decide)).1
theorem prodT_le (heard : List Int) : prodT heard ≤ prodB heard := (prod_fold heard heard 1 1 (fun _ h => h) (by decide) (by decide)).2
theorem prodB_pos (heard : List Int) : 0 < prodB heard := Int.lt_of_lt_of_le (prodT_pos heard) (prodT_le heard)
theorem fold_pow (n : Int) : ∀ (l : List Int) (b : Int), l.foldl (fun b _ => b * n) b = b * n ^ l.length
  | [], b => by simp
  | _ :: r, b => by
    rw [List.foldl_cons, fold_pow n r (b * n), List.length_cons, Int.pow_succ]
    grind
theorem prodB_le {heard : List Int} (h : heard.length ≤ 6) : prodB heard ≤ 46656 := by
  unfold prodB
  rw [fold_pow]
  generalize heard.length = n at h
  have : n = 0 ∨ n = 1 ∨ n = 2 ∨ n = 3 ∨ n = 4 ∨ n = 5 ∨ n = 6 := by omega
  rcases this with q | q | q | q | q | q | q <;> subst q <;> decide
theorem prod_all {heard : List Int} {n : Int} : ∀ (l : List Int) (x : Int), (∀ s ∈ l, cnt heard s = n) → l.foldl (fun t s => t * cnt heard s) x = l.foldl (fun b _ => b * n) x
  | [], _, _ => rfl
  | s :: r, x, h => by
    rw [List.foldl_cons, List.foldl_cons, h s List.mem_cons_self]
    exact prod_all r _ fun z hz => h z (List.mem_cons_of_mem _ hz)
theorem mem_upTo {n : Nat} {k : Int} : k ∈ upTo n ↔ 0 ≤ k ∧ k < n := by
  unfold upTo
  rw [List.mem_map]
  constructor
  · rintro ⟨i, hi, rfl⟩
    have := List.mem_range.mp hi
    omega
  · rintro ⟨h1, h2⟩
    exact ⟨k.toNat, List.mem_range.mpr (by omega), by omega⟩
theorem upTo_nodup (n : Nat) : (upTo n).Nodup := by
  unfold upTo List.Nodup
  rw [List.pairwise_map]
  exact List.Pairwise.imp (fun h z => h (by omega)) (List.nodup_range (n := n))
/-- a bound case that is open: all heard alike -/
theorem bound_same {rows : List (List Int)} {heard : List Int} {k : Int} (hh : ∀ s ∈ heard, 0 ≤ s ∧ s < rows.length) (ho : isOpen rows heard k = true) (hb : isBound rows k = true) : prodT heard = prodB heard := by
  have l1 : (said rows k).length = 1 := by simpa [isBound] using hb
  obtain ⟨a, ea⟩ := List.length_eq_one_iff.mp l1
  have all : ∀ s ∈ heard, s = a := fun s hs => by
    have o := (List.all_eq_true.mp ho) s hs
    have m : s ∈ said rows k := List.mem_filter.mpr ⟨mem_upTo.mpr (hh s hs), o⟩
    rw [ea] at m
    simpa using m
  have c : ∀ s ∈ heard, cnt heard s = (heard.length : Int) := fun s hs => by
    unfold cnt
    have e : heard.countP (fun x => x == s) = heard.length := List.countP_eq_length.mpr fun x hx => by rw [all x hx, all s hs]; simp
    rw [e]
  exact prod_all heard 1 c
/-! ### the least and the greatest of a list of fractions -/
def below (x y : Int × Int) : Bool := decide (x.1 * y.2 < y.1 * x.2)
def le (x y : Int × Int) : Prop := x.1 * y.2 ≤ y.1 * x.2
theorem le_trans {x y z : Int × Int} (hy : 0 < y.2) (hx : 0 < x.2) (hz : 0 < z.2) (h1 : le x y) (h2 : le y z) : le x z := by
  unfold le at *
  have a1 : x.1 * y.2 * z.2 ≤ y.1 * x.2 * z.2 := Int.mul_le_mul_of_nonneg_right h1 (by omega)
  have a2 : y.1 * z.2 * x.2 ≤ z.1 * y.2 * x.2 := Int.mul_le_mul_of_nonneg_right h2 (by omega)
  have a3 : (x.1 * z.2) * y.2 ≤ (z.1 * x.2) * y.2 := by grind
  exact Int.le_of_mul_le_mul_right a3 hy
def lowF (l : List (Int × Int)) : Int × Int := l.foldl (fun lo x => if below x lo then x else lo) (l.headD (0, 1))
def highF (l : List (Int × Int)) : Int × Int := l.foldl (fun hi x => if below hi x then x else hi) (l.headD (0, 1))
theorem fold_low : ∀ (l : List (Int × Int)) (a : Int × Int), 0 < a.2 → (∀ x ∈ l, 0 < x.2) →
    ∃ r, l.foldl (fun lo x => if below x lo then x else lo) a = r ∧ (r = a ∨ r ∈ l) ∧ le r a ∧ ∀ x ∈ l, le r x
  | [], a, _, _ => ⟨a, rfl, .inl rfl, Int.le_refl _, fun _ h => nomatch h⟩
  | y :: l, a, ha, hl => by
    have hy := hl y List.mem_cons_self
    have hl' : ∀ x ∈ l, 0 < x.2 := fun x hx => hl x (List.mem_cons_of_mem _ hx)
    by_cases c : y.1 * a.2 < a.1 * y.2
    · obtain ⟨r, e, m, l1, l2⟩ := fold_low l y hy hl'
      have hr : 0 < r.2 := by rcases m with z | z; (rw [z]; exact hy); exact hl' _ z
      refine ⟨r, ?_, ?_, le_trans hy hr ha l1 (Int.le_of_lt c), fun x hx => ?_⟩
      · rw [List.foldl_cons, ← e]; simp [below, c]
      · rcases m with z | z; exact .inr (z ▸ List.mem_cons_self); exact .inr (List.mem_cons_of_mem _ z)
      · rcases List.mem_cons.mp hx with z | z; (rw [z]; exact l1); exact l2 x z
    · obtain ⟨r, e, m, l1, l2⟩ := fold_low l a ha hl'
      have hr : 0 < r.2 := by rcases m with z | z; (rw [z]; exact ha); exact hl' _ z
      refine ⟨r, ?_, ?_, l1, fun x hx => ?_⟩
      · rw [List.foldl_cons, ← e]; simp [below, c]
      · rcases m with z | z; exact .inl z; exact .inr (List.mem_cons_of_mem _ z)
      · rcases List.mem_cons.mp hx with z | z
        · rw [z]; exact le_trans ha hr hy l1 (by unfold le; omega)
        · exact l2 x z
theorem fold_high : ∀ (l : List (Int × Int)) (a : Int × Int), 0 < a.2 → (∀ x ∈ l, 0 < x.2) →
    ∃ r, l.foldl (fun hi x => if below hi x then x else hi) a = r ∧ (r = a ∨ r ∈ l) ∧ le a r ∧ ∀ x ∈ l, le x r
  | [], a, _, _ => ⟨a, rfl, .inl rfl, Int.le_refl _, fun _ h => nomatch h⟩
  | y :: l, a, ha, hl => by
    have hy := hl y List.mem_cons_self
    have hl' : ∀ x ∈ l, 0 < x.2 := fun x hx => hl x (List.mem_cons_of_mem _ hx)
    by_cases c : a.1 * y.2 < y.1 * a.2
    · obtain ⟨r, e, m, l1, l2⟩ := fold_high l y hy hl'
      have hr : 0 < r.2 := by rcases m with z | z; (rw [z]; exact hy); exact hl' _ z
      refine ⟨r, ?_, ?_, le_trans hy ha hr (Int.le_of_lt c) l1, fun x hx => ?_⟩
      · rw [List.foldl_cons, ← e]; simp [below, c]
      · rcases m with z | z; exact .inr (z ▸ List.mem_cons_self); exact .inr (List.mem_cons_of_mem _ z)
      · rcases List.mem_cons.mp hx with z | z; (rw [z]; exact l1); exact l2 x z
    · obtain ⟨r, e, m, l1, l2⟩ := fold_high l a ha hl'
      have hr : 0 < r.2 := by rcases m with z | z; (rw [z]; exact ha); exact hl' _ z
      refine ⟨r, ?_, ?_, l1, fun x hx => ?_⟩
      · rw [List.foldl_cons, ← e]; simp [below, c]
      · rcases m with z | z; exact .inl z; exact .inr (List.mem_cons_of_mem _ z)
      · rcases List.mem_cons.mp hx with z | z
        · rw [z]; exact le_trans ha hy hr (by unfold le; omega) l1
        · exact l2 x z
/-- a reduced fraction -/
def IsRed (x : Int × Int) : Prop := ∃ a b, 0 < b ∧ x = red a b
theorem IsRed.pos {x : Int × Int} (h : IsRed x) : 0 < x.2 := by
  obtain ⟨a, b, hb, rfl⟩ := h
  exact red_snd_pos hb
theorem IsRed.eq {x y : Int × Int} (hx : IsRed x) (hy : IsRed y) (h1 : le x y) (h2 : le y x) : x = y := by
  have px := hx.pos
  have py := hy.pos
  have self : ∀ z, IsRed z → red z.1 z.2 = z := fun z hz => by
    have pz := hz.pos
    obtain ⟨a, b, hb, e⟩ := hz
    have c := red_cross a b
    rw [← e] at c
    rw [red_same pz hb c, ← e]
  rw [← self x hx, ← self y hy]
  exact red_same px py (Int.le_antisymm h1 h2)
theorem lowF_is {l : List (Int × Int)} {m : Int × Int} (hl : ∀ x ∈ l, IsRed x) (hm : m ∈ l) (h : ∀ x ∈ l, le m x) : lowF l = m := by
  cases l with
  | nil => cases hm
  | cons a r =>
    obtain ⟨x, e, mm, _, l2⟩ := fold_low (a :: r) a (hl a List.mem_cons_self).pos fun x hx => (hl x hx).pos
    have mx : x ∈ a :: r := by rcases mm with z | z; exact z ▸ List.mem_cons_self; exact z
    show List.foldl (fun lo x => if below x lo then x else lo) a (a :: r) = m
    rw [e]
    exact (hl x mx).eq (hl m hm) (l2 m hm) (h x mx)
theorem highF_is {l : List (Int × Int)} {m : Int × Int} (hl : ∀ x ∈ l, IsRed x) (hm : m ∈ l) (h : ∀ x ∈ l, le x m) : highF l = m := by
  cases l with
  | nil => cases hm
  | cons a r =>
    obtain ⟨x, e, mm, _, l2⟩ := fold_high (a :: r) a (hl a List.mem_cons_self).pos fun x hx => (hl x hx).pos
    have mx : x ∈ a :: r := by rcases mm with z | z; exact z ▸ List.mem_cons_self; exact z
    show List.foldl (fun hi x => if below hi x then x else hi) a (a :: r) = m
    rw [e]
    exact (hl x mx).eq (hl m hm) (h x mx) (l2 m hm)
/-! ### all choices tried -/
def tryS (loads : List Int) (rows : List (List Int)) (part : List Int) (T B : Int) (op s : List Int) : Option (Int × Int) :=
  if 0 < whlW loads rows T B (fun i => inB (i : Int) s) op 0 then some (red (insW loads rows part T B (fun i => inB (i : Int) s) op 0) (whlW loads rows T B (fun i => inB (i : Int) s) op 0)) else none
def foundL (loads : List Int) (rows : List (List Int)) (part : List Int) (T B : Int) (op : List Int) : List (Int × Int) := (lots op.length).filterMap (tryS loads rows part T B op)
theorem found_nil {loads : List Int} {rows : List (List Int)} {part : List Int} {T B : Int} : foundL loads rows part T B [] = [] := by
  simp [foundL, lots, tryS, whlW]
theorem sumW_nn {loads : List Int} : ∀ {l : List Int}, (∀ k ∈ l, 0 ≤ wt loads k) → 0 ≤ sumW loads l
  | [], _ => Int.le_refl 0
  | k :: r, h => by
    rw [sumW_cons]
    have := h k List.mem_cons_self
    have := sumW_nn (l := r) fun x hx => h x (List.mem_cons_of_mem _ hx)
    omega
theorem sumW_pos {loads : List Int} : ∀ {l : List Int}, (∀ k ∈ l, 1 ≤ wt loads k) → l ≠ [] → 0 < sumW loads l
  | [], _, h => absurd rfl h
  | k :: r, h, _ => by
    rw [sumW_cons]
    have := h k List.mem_cons_self
    have := sumW_nn (l := r) (loads := loads) fun x hx => by have := h x (List.mem_cons_of_mem _ hx); omega
    omega
theorem sumW_le {loads : List Int} {c : Int} : ∀ {l : List Int}, (∀ k ∈ l, wt loads k ≤ c) → sumW loads l ≤ c * (l.length : Int)
  | [], _ => by simp [sumW]
  | k :: r, h => by
    rw [sumW_cons]
    have := h k List.mem_cons_self
    have := sumW_le (l := r) fun x hx => h x (List.mem_cons_of_mem _ hx)
    have : ((k :: r).length : Int) = (r.length : Int) + 1 := by simp
    rw [this, Int.mul_add]
    omega
section
variable {loads : List Int} {rows : List (List Int)} {part : List Int} {T B : Int} {op : List Int}
theorem found_of {x : Int × Int} (h : x ∈ foundL loads rows part T B op) : ∃ ch : Nat → Bool, 0 < whlW loads rows T B ch op 0 ∧ x = red (insW loads rows part T B ch op 0) (whlW loads rows T B ch op 0) := by
  obtain ⟨s, hs, e⟩ := List.mem_filterMap.mp h
  unfold tryS at e
  split at e
  · rename_i q
    exact ⟨_, q, (Option.some.inj e).symm⟩
  · cases e
theorem insW_congr {ch ch' : Nat → Bool} : ∀ (l : List Int) (i : Nat), (∀ j, j < l.length → ch (i + j) = ch' (i + j)) → insW loads rows part T B ch l i = insW loads rows part T B ch' l i ∧ whlW loads rows T B ch l i = whlW loads rows T B ch' l i
  | [], _, _ => ⟨rfl, rfl⟩
  | k :: r, i, h => by
    have h0 : ch i = ch' i := h 0 (by simp)
    obtain ⟨e1, e2⟩ := insW_congr (ch := ch) (ch' := ch') r (i + 1) (fun j hj => by
      have q := h (j + 1) (by simpa using hj)
      rw [show i + 1 + j = i + (j + 1) by omega]
      exact q)
    constructor
    · simp only [insW, h0, e1]
    · simp only [whlW, h0, e2]
theorem found_in (ch : Nat → Bool) (h : 0 < whlW loads rows T B ch op 0) : red (insW loads rows part T B ch op 0) (whlW loads rows T B ch op 0) ∈ foundL loads rows part T B op := by
  obtain ⟨s, hs, q⟩ := lots_all ch op.length
  obtain ⟨e1, e2⟩ := insW_congr (loads := loads) (rows := rows) (part := part) (T := T) (B := B) (ch := fun i => inB (i : Int) s) (ch' := ch) op 0 (fun j hj => by rw [Nat.zero_add]; exact q j hj)
  refine List.mem_filterMap.mpr ⟨s, hs, ?_⟩
  unfold tryS
  rw [e1, e2, if_pos h]
theorem found_red {x : Int × Int} (h : x ∈ foundL loads rows part T B op) : IsRed x := by
  obtain ⟨ch, h1, h2⟩ := found_of h
  exact ⟨_, _, h1, h2⟩
theorem le_red {a b c d : Int} (hb : 0 < b) (hd : 0 < d) (h : a * d ≤ c * b) : le (red a b) (red c d) := by
  have p1 := red_snd_pos (a := a) hb
  have p2 := red_snd_pos (a := c) hd
  have e1 := red_cross a b
  have e2 := red_cross c d
  unfold le
  generalize (red a b).1 = x at *
  generalize (red a b).2 = y at *
  generalize (red c d).1 = z at *
  generalize (red c d).2 = t at *
  -- x/y = a/b, z/t = c/d
  have m : a * d * (y * t) ≤ c * b * (y * t) := Int.mul_le_mul_of_nonneg_right h (Int.le_of_lt (Int.mul_pos p1 p2))
  have m2 : (x * t) * (b * d) ≤ (z * y) * (b * d) := by
    have q1 : (x * t) * (b * d) = a * d * (y * t) := by grind
    have q2 : (z * y) * (b * d) = c * b * (y * t) := by grind
    rw [q1, q2]; exact m
  exact Int.le_of_mul_le_mul_right m2 (Int.mul_pos hb hd)
end
/-- filtered both ways -/
theorem none_out {l : List Int} {p : Int → Bool} (h : l.filter p = []) : l.filter (fun k => !p k) = l := by
  apply List.filter_eq_self.mpr
  intro x hx
  cases e : p x with
  | false => rfl
  | true =>
    have : x ∈ l.filter p := List.mem_filter.mpr ⟨hx, e⟩
    rw [h] at this
    cases this
theorem none_inn {l : List Int} {p : Int → Bool} (h : l.filter (fun k => !p k) = []) : l.filter p = l := by
  apply List.filter_eq_self.mpr
  intro x hx
  cases e : p x with
  | true => rfl
  | false =>
    have : x ∈ l.filter (fun k => !p k) := List.mem_filter.mpr ⟨hx, by simp [e]⟩
    rw [h] at this
    cases this
section
variable {loads : List Int} {rows : List (List Int)} {heard part : List Int}
/-- what is asked of the data -/
structure Good (loads : List Int) (rows : List (List Int)) (heard : List Int) : Prop where
  w1 : ∀ k : Int, 0 ≤ k → k < loads.length → 1 ≤ wt loads k
  hs : ∀ s ∈ heard, 0 ≤ s ∧ s < rows.length
theorem Good.low (G : Good loads rows heard) (hne : openC loads.length rows heard ≠ []) :
    lowF (foundL loads rows part (prodT heard) (prodB heard) (openC loads.length rows heard)) = lowV loads rows heard part := by
  have ho : ∀ k ∈ openC loads.length rows heard, isOpen rows heard k = true ∧ 0 ≤ k ∧ k < loads.length := fun k hk => by
    obtain ⟨h1, h2⟩ := List.mem_filter.mp hk
    exact ⟨h2, mem_upTo.mp h1⟩
  have hw : ∀ k ∈ openC loads.length rows heard, 1 ≤ wt loads k := fun k hk => G.w1 k (ho k hk).2.1 (ho k hk).2.2
  have hb : ∀ k ∈ openC loads.length rows heard, isBound rows k = true → prodT heard = prodB heard := fun k hk z => bound_same G.hs (ho k hk).1 z
  have pT := prodT_pos heard
  have pB := prodB_pos heard
  have TB := prodT_le heard
  unfold lowV outC innC
  generalize openC loads.length rows heard = op at *
  generalize prodT heard = T at *
  generalize prodB heard = B at *
  have hw0 : ∀ k ∈ op, 0 ≤ wt loads k := fun k hk => by have := hw k hk; omega
  by_cases hout : op.filter (fun k => !inB k part) = []
  · rw [if_pos hout]
    obtain ⟨e1, e2⟩ := parts_high (loads := loads) (part := part) (ch := fun j => inB (op.getD j 0) part) op 0 hb (fun j k hj => by rw [Nat.zero_add]; simp [List.getD, hj])
    rw [hout, show sumW loads (List.filter (isBound rows) []) = 0 from rfl, Int.zero_mul] at e2
    rw [none_inn hout] at e1
    have pos : 0 < sumW loads op * T := Int.mul_pos (sumW_pos hw hne) pT
    refine lowF_is (fun x hx => found_red hx) ?_ fun x hx => ?_
    · have := found_in (loads := loads) (rows := rows) (part := part) (T := T) (B := B) (op := op) (fun j => inB (op.getD j 0) part) (by omega)
      rw [show whlW loads rows T B (fun j => inB (op.getD j 0) part) op 0 = insW loads rows part T B (fun j => inB (op.getD j 0) part) op 0 by omega, red_one (by omega)] at this
      exact this
    · obtain ⟨ch, h1, rfl⟩ := found_of hx
      obtain ⟨_, _, b3, b4⟩ := parts_bound (loads := loads) (rows := rows) (part := part) (ch := ch) (Int.le_of_lt pT) TB op 0 hw0 hb
      rw [hout, show sumW loads [] = 0 from rfl, Int.zero_mul] at b4
      rw [hout, show sumW loads (List.filter (isBound rows) []) = 0 from rfl, Int.zero_mul] at b3
      rw [show insW loads rows part T B ch op 0 = whlW loads rows T B ch op 0 by omega, red_one h1]
      exact Int.le_refl _
  · rw [if_neg hout]
    obtain ⟨e1, e2⟩ := parts_low (loads := loads) (part := part) (ch := fun j => !inB (op.getD j 0) part) op 0 hb (fun j k hj => by rw [Nat.zero_add]; simp [List.getD, hj])
    have s0 : 0 ≤ sumW loads ((op.filter fun k => inB k part).filter (isBound rows)) * B := Int.mul_nonneg (sumW_nn fun k hk => hw0 k (List.mem_filter.mp (List.mem_filter.mp hk).1).1) (Int.le_of_lt pB)
    have o0 : 0 < sumW loads (op.filter fun k => !inB k part) * T := Int.mul_pos (sumW_pos (fun k hk => hw k (List.mem_filter.mp hk).1) hout) pT
    refine lowF_is (fun x hx => found_red hx) ?_ fun x hx => ?_
    · have := found_in (loads := loads) (rows := rows) (part := part) (T := T) (B := B) (op := op) (fun j => !inB (op.getD j 0) part) (by omega)
      rw [show whlW loads rows T B (fun j => !inB (op.getD j 0) part) op 0 = sumW loads ((op.filter fun k => inB k part).filter (isBound rows)) * B + sumW loads (op.filter fun k => !inB k part) * T by omega, e1] at this
      exact this
    · obtain ⟨ch, h1, rfl⟩ := found_of hx
      obtain ⟨b1, b2, b3, b4⟩ := parts_bound (loads := loads) (rows := rows) (part := part) (ch := ch) (Int.le_of_lt pT) TB op 0 hw0 hb
      refine le_red (by omega) h1 ?_
      generalize sumW loads ((op.filter fun k => inB k part).filter (isBound rows)) * B = S at *
      generalize sumW loads (op.filter fun k => !inB k part) * T = O at *
      generalize insW loads rows part T B ch op 0 = x at *
      generalize whlW loads rows T B ch op 0 = y at *
      have a1 : S * (y - x) ≤ S * O := Int.mul_le_mul_of_nonneg_left b4 s0
      have a2 : S * O ≤ x * O := Int.mul_le_mul_of_nonneg_right b1 (by omega)
      have a3 : S * (y - x) ≤ x * O := Int.le_trans a1 a2
      rw [Int.mul_sub] at a3
      rw [Int.mul_add, Int.mul_comm x S]
      omega
theorem Good.high (G : Good loads rows heard) (hne : openC loads.length rows heard ≠ []) :
    highF (foundL loads rows part (prodT heard) (prodB heard) (openC loads.length rows heard)) = highV loads rows heard part := by
  have ho : ∀ k ∈ openC loads.length rows heard, isOpen rows heard k = true ∧ 0 ≤ k ∧ k < loads.length := fun k hk => by
    obtain ⟨h1, h2⟩ := List.mem_filter.mp hk
    exact ⟨h2, mem_upTo.mp h1⟩
  have hw : ∀ k ∈ openC loads.length rows heard, 1 ≤ wt loads k := fun k hk => G.w1 k (ho k hk).2.1 (ho k hk).2.2
  have hb : ∀ k ∈ openC loads.length rows heard, isBound rows k = true → prodT heard = prodB heard := fun k hk z => bound_same G.hs (ho k hk).1 z
  have pT := prodT_pos heard
  have pB := prodB_pos heard
  have TB := prodT_le heard
  unfold highV outC innC
  generalize openC loads.length rows heard = op at *
  generalize prodT heard = T at *
  generalize prodB heard = B at *
  have hw0 : ∀ k ∈ op, 0 ≤ wt loads k := fun k hk => by have := hw k hk; omega
  by_cases hinn : op.filter (fun k => inB k part) = []
  · rw [if_pos hinn]
    obtain ⟨e1, e2⟩ := parts_low (loads := loads) (part := part) (ch := fun j => !inB (op.getD j 0) part) op 0 hb (fun j k hj => by rw [Nat.zero_add]; simp [List.getD, hj])
    rw [hinn, show sumW loads (List.filter (isBound rows) []) = 0 from rfl, Int.zero_mul] at e1
    rw [none_out hinn] at e2
    have pos : 0 < sumW loads op * T := Int.mul_pos (sumW_pos hw hne) pT
    refine highF_is (fun x hx => found_red hx) ?_ fun x hx => ?_
    · have := found_in (loads := loads) (rows := rows) (part := part) (T := T) (B := B) (op := op) (fun j => !inB (op.getD j 0) part) (by omega)
      rw [e1, red_zero (by omega)] at this
      exact this
    · obtain ⟨ch, h1, rfl⟩ := found_of hx
      obtain ⟨b1, b2, _, _⟩ := parts_bound (loads := loads) (rows := rows) (part := part) (ch := ch) (Int.le_of_lt pT) TB op 0 hw0 hb
      rw [hinn, show sumW loads [] = 0 from rfl, Int.zero_mul] at b2
      rw [hinn, show sumW loads (List.filter (isBound rows) []) = 0 from rfl, Int.zero_mul] at b1
      rw [show insW loads rows part T B ch op 0 = 0 by omega, red_zero h1]
      exact Int.le_refl _
  · rw [if_neg hinn]
    obtain ⟨e1, e2⟩ := parts_high (loads := loads) (part := part) (ch := fun j => inB (op.getD j 0) part) op 0 hb (fun j k hj => by rw [Nat.zero_add]; simp [List.getD, hj])
    have s0 : 0 ≤ sumW loads ((op.filter fun k => !inB k part).filter (isBound rows)) * B := Int.mul_nonneg (sumW_nn fun k hk => hw0 k (List.mem_filter.mp (List.mem_filter.mp hk).1).1) (Int.le_of_lt pB)
    have o0 : 0 < sumW loads (op.filter fun k => inB k part) * T := Int.mul_pos (sumW_pos (fun k hk => hw k (List.mem_filter.mp hk).1) hinn) pT
    refine highF_is (fun x hx => found_red hx) ?_ fun x hx => ?_
    · have := found_in (loads := loads) (rows := rows) (part := part) (T := T) (B := B) (op := op) (fun j => inB (op.getD j 0) part) (by omega)
      rw [show whlW loads rows T B (fun j => inB (op.getD j 0) part) op 0 = sumW loads (op.filter fun k => inB k part) * T + sumW loads ((op.filter fun k => !inB k part).filter (isBound rows)) * B by omega, e1] at this
      exact this
    · obtain ⟨ch, h1, rfl⟩ := found_of hx
      obtain ⟨b1, b2, b3, b4⟩ := parts_bound (loads := loads) (rows := rows) (part := part) (ch := ch) (Int.le_of_lt pT) TB op 0 hw0 hb
      refine le_red h1 (by omega) ?_
      generalize sumW loads ((op.filter fun k => !inB k part).filter (isBound rows)) * B = S at *
      generalize sumW loads (op.filter fun k => inB k part) * T = O at *
      generalize insW loads rows part T B ch op 0 = x at *
      generalize whlW loads rows T B ch op 0 = y at *
      have a1 : x * S ≤ O * S := Int.mul_le_mul_of_nonneg_right b2 s0
      have a2 : O * S ≤ O * (y - x) := Int.mul_le_mul_of_nonneg_left b3 (by omega)
      have a3 : x * S ≤ O * (y - x) := Int.le_trans a1 a2
      rw [Int.mul_sub] at a3
      rw [Int.mul_add, Int.mul_comm x O]
      omega
theorem Good.found_ne (G : Good loads rows heard) (hne : openC loads.length rows heard ≠ []) :
    foundL loads rows part (prodT heard) (prodB heard) (openC loads.length rows heard) ≠ [] := by
  have ho : ∀ k ∈ openC loads.length rows heard, isOpen rows heard k = true ∧ 0 ≤ k ∧ k < loads.length := fun k hk => by
    obtain ⟨h1, h2⟩ := List.mem_filter.mp hk
    exact ⟨h2, mem_upTo.mp h1⟩
  have hw : ∀ k ∈ openC loads.length rows heard, 1 ≤ wt loads k := fun k hk => G.w1 k (ho k hk).2.1 (ho k hk).2.2
  have pT := prodT_pos heard
  have TB := prodT_le heard
  generalize openC loads.length rows heard = op at *
  generalize prodT heard = T at *
  generalize prodB heard = B at *
  have pos : ∀ (l : List Int) (i : Nat), (∀ k ∈ l, 1 ≤ wt loads k) → 0 ≤ whlW loads rows T B (fun _ => true) l i ∧ (l ≠ [] → 0 < whlW loads rows T B (fun _ => true) l i) := by
    intro l
    induction l with
    | nil => exact fun i _ => ⟨Int.le_refl _, fun z => absurd rfl z⟩
    | cons k r ih =>
      intro i h
      have hk := h k List.mem_cons_self
      obtain ⟨q, _⟩ := ih (i + 1) fun x hx => h x (List.mem_cons_of_mem _ hx)
      have v : 0 < vl rows T B true k := by
        unfold vl
        split; omega; (rw [if_pos rfl]; exact pT)
      have := Int.mul_pos (show 0 < wt loads k by omega) v
      simp only [whlW]
      constructor
      · omega
      · intro _; omega
  intro z
  have := found_in (loads := loads) (rows := rows) (part := part) (T := T) (B := B) (op := op) (fun _ => true) ((pos op 0 hw).2 hne)
  rw [z] at this
  cases this
end
end Tk
set_option maxHeartbeats 4000000
/-! own rules over the layer: repr of data, sorted of a tuple, count of a tuple, tuple times one, enumerate of a tuple, keywords alone -/
namespace Tk
open PySem PySem.Spec PyProof.Rows L2
section
variable {X : Cx}
/-! ### repr(data) -/
theorem call_reprD (hg : X.A.guards = some []) (hu : X.A.units + 64 < cLine) : CallR X (.builtin "repr") (fun xs H Q => ∃ (a : Addr) (d : PyData), xs = [.ref a] ∧ Dp X.K H (.ref a) d ∧ d.showable = true ∧ d.hasDict = false ∧ d.depth ≤ 50 ∧ d.shown.length ≤ sizeLine ∧ Q (.str d.shown) H) := by
  intro pins s σ H xs us Q I r h
  obtain ⟨a, d, rfl, hd, h1, h2, h3, h4, q⟩ := h
  obtain ⟨u, rfl, ru⟩ := vals1 r
  obtain ⟨as, rd⟩ := Dp.reads I d (.ref a) u hd ru
  cases (show u = Value.ref a from ru)
  refine repr_of_reads' rd h1 (fun z => by rw [h2] at z; cases z) hg (by omega) (fun _ _ e => e) (fun h' tu tk hk => ?_) h4
  exact ⟨.str d.shown, H, I.kept (t' := tk) hk, ⟨tu, rfl⟩, q⟩
/-! ### t.count(k), ints -/
theorem mt_tcountI : MtR X "tuple.count" (fun x xs H Q => ∃ (p : Addr) (ns : List Int) (k : Int), x = .ref p ∧ xs = [.int k] ∧ SqT X.K H p (ns.map V.int) ∧ Q (.int (ns.count k : Nat)) H) := by
  intro pins s σ H x xs v us Q I rx rxs h
  obtain ⟨p, ns, k, rfl, rfl, hs, q⟩ := h
  obtain ⟨u, rfl, t, rfl⟩ := rxs.one
  cases (show v = Value.ref p from rx)
  obtain ⟨its, rv, ht, hlen⟩ := I.tuple hs
  obtain ⟨⟨cls, dd, data, sl⟩, ho, hc, n, hd⟩ := id ht
  simp only at hc hd
  subst hc hd
  have hi := ints_of_vals rv
  have ec : its.toArray.toList.countP (eqk k) = ns.count k := eqk_count hi
  refine call_meets PySem.F.slot_tuple_count ⟨_, ho, rfl⟩ PySem.F.entry_tuple_count (PySem.F.args_tuple_count_2 _ _) (SeqAt.tuple_countAt p its.toArray n dd sl (.int k t) (eqk k)) ⟨ho, fun y hy => (eqk_gives hi y (by simpa using hy)).at _ _, ?_⟩
  rw [ec]
  exact ⟨.int (ns.count k : Nat), H, I.tok _, ⟨s.toks, rfl⟩, q⟩
end
/-! ### sorted(t), t a tuple of ints -/
section
variable {prog : Program} {w : World} {A : Around} {E : Value → Shared → Prop} {s : Shared}
/-- what is drawn out of a tuple at once -/
theorem drawn_of_tuple {t : Addr} {vs : List Value} {Q : List Value → Shared → Prop} (ht : IsTup s.heap t vs.toArray) (hz : vs.length ≤ sizeLine)
    (h : Q vs { s with heap := (s.heap.push (seqObj "list" #[] 0)).update s.heap.objs.size (Obj.mapSeq (· ++ vs.toArray)) }) : wpAny (model prog w) A (collect (.ref t)) Q E s := by
  obtain ⟨ob, hob, hcl, k, hdt⟩ := ht
  have old : (s.heap.push (seqObj "list" #[] 0)).get? t = some ob := Heap.get?_push_of_some _ hob
  have new : (s.heap.push (seqObj "list" #[] 0)).get? s.heap.objs.size = some (seqObj "list" #[] 0) := Heap.get?_push_size _ rfl
  unfold collect
  refine wpAny_bind (wpAny_runValue (codeAny_builtin entry_proto_collect' ?_))
  refine wpAny_bind (wpAny_newList (wpAny_pure ⟨Code.quiet_builtin _ (by decide +kernel), codeAny_builtin entry_list_iadd' ?_⟩))
  change wpAny _ _ (Builtin.List.listExtendWith (.ref s.heap.objs.size) (.ref t) (.ref s.heap.objs.size)) _ _ { s with heap := s.heap.push (seqObj "list" #[] 0) }
  unfold Builtin.List.listExtendWith
  have isT : (Builtin.List.listSameRef (.ref s.heap.objs.size) (.ref t) || Value.type "tuple" == Value.type "list" || Value.type "tuple" == Value.type "tuple") = true := by
    rw [show (Value.type "tuple" == Value.type "tuple") = true from rfl, Bool.or_true]
  refine wpAny_bind (wpAny_typeOf (T := "tuple") ⟨ob, old, hcl⟩ ?_)
  rw [if_pos isT]
  refine wpAny_bind (listItems_at old hdt (wpAny_bind (listItems_at new rfl ?_)))
  have none_ : (!(#[] : Array Value).isEmpty && Builtin.List.listTooLong ((#[] : Array Value).size + vs.toArray.size)) = false := rfl
  rw [none_, if_neg Bool.false_ne_true]
  refine wpAny_bind (listUpdate_at new rfl ?_ (Nat.zero_le _) (by simp; omega))
  refine wpAny_pure ?_
  refine wpAny_bind (wpAny_load (get?_update_seq (Heap.get?_push_size _ rfl) _) ?_)
  have e : ((#[] : Array Value) ++ vs.toArray).toList = vs := by simp
  show wpAny _ _ (pure ((#[] : Array Value) ++ vs.toArray).toList) Q E _
  rw [e]
  exact wpAny_pure h
theorem sorted_of_tuple {t : Addr} {vs : List Value} {ns : List Int} {Q : Value → Shared → Prop} (ht : IsTup s.heap t vs.toArray) (hI : IntsAre vs ns) (hz : vs.length ≤ sizeLine)
    (h : ∀ (out : Array Value) (ms : List Int), IntsAre out.toList ms → ms.Perm ns → ms.Pairwise (· ≤ ·) → Q (.ref (s.heap.objs.size + 1)) { s with heap := sortedAll s.heap vs out }) :
    wpAny (model prog w) A (call (.builtin "sorted") [.ref t]) Q E s := by
  refine Calls.call_function_entry kind_sorted plain_sorted entry_sorted (args_sorted1 _) ?_
  unfold Builtin.«sorted»
  refine wpAny_bind (m := checkCount "sorted" 1 1 _) (wpAny_pure (wpAny_bind (drawn_of_tuple ht hz (wpAny_bind (wpAny_newList ?_)))))
  have n1 : ((s.heap.push (seqObj "list" #[] 0)).update s.heap.objs.size (Obj.mapSeq (· ++ vs.toArray))).objs.size = s.heap.objs.size + 1 := by rw [Heap.size_update, size_push']
  have at1 : (((s.heap.push (seqObj "list" #[] 0)).update s.heap.objs.size (Obj.mapSeq (· ++ vs.toArray))).push (seqObj "list" vs.toArray 0)).get? (s.heap.objs.size + 1) = some (seqObj "list" vs.toArray 0) := n1 ▸ Heap.get?_push_size _ rfl
  change wpAny _ _ _ _ _ { s with heap := ((s.heap.push (seqObj "list" #[] 0)).update s.heap.objs.size (Obj.mapSeq (· ++ vs.toArray))).push (seqObj "list" vs.toArray 0) }
  rw [n1]
  refine wpAny_bind (wpAny_holding (wpAny_call_entry slot_list_sort ⟨_, at1, rfl⟩ entry_list_sort (list_sort_treeAny at1 hI hz fun out ms a b c => ⟨_, rfl, wpAny_pure ⟨_, rfl, h out ms a b c⟩⟩) (args_list_sort _)))
end
section
variable {X : Cx}
theorem cr_sortedTup : CallR X (.builtin "sorted") (fun vs H Q => ∃ (a : Addr) (ns : List Int), vs = [V.ref a] ∧ SqT X.K H a (ns.map V.int) ∧ ∀ (ms : List Int) (p : Addr), ms.Perm ns → ms.Pairwise (· ≤ ·) → H p = none → Q (.ref p) (upd H p (.lst (ms.map V.int)))) := by
  intro pins s σ H vs us Q I r h
  obtain ⟨a, ns, rfl, hs, q⟩ := h
  obtain ⟨its, rv, ht, hz⟩ := I.tuple hs
  rw [Vals.ref1 r]
  refine sorted_of_tuple ht rv.ints (by rw [← rv.length]; exact hz) fun out ms h1 h2 h3 => ?_
  obtain ⟨ep, at_⟩ := PyProof.Rows.sortedAll_at s.heap its out
  have hl : (ms.map V.int).length ≤ sizeLine := by
    rw [List.length_map] at hz ⊢
    rw [h2.length_eq]
    exact hz
  exact ⟨.ref _, upd H (s.heap.objs.size + 1) (.lst (ms.map V.int)), I.laid (t' := s.toks) (fun _ _ => PyProof.Rows.sortedAll_old) (Nat.le_succ _) ⟨hl, out.toList, ep, vals_of_ints h1, by simpa using at_⟩, rfl, q _ _ h2 h3 (I.hok.fresh (Nat.le_succ _))⟩
end
/-! ### tuple * 1: the tuple itself -/
theorem tuple_mul_one (l : Addr) (items : Array Value) (n : Nat) (dd : Option Addr) (sl : Array (Option Value)) (u : Tok) :
    Meets (Builtin.«tuple.__mul__» ⟨[.ref l, .int 1 u], []⟩) (fun _ R s => s.heap.get? l = some { cls := .type "tuple", dict := dd, data := .seq items n, slots := sl } ∧ R (.ok (.ret (.ref l))) s) :=
  .of_wp fun prog w A R s h => by
    obtain ⟨hp, g, d, tk, os⟩ := s
    obtain ⟨hl, h⟩ := h
    have f1 := AutoSeq1.idx_int
    have one : (items.isEmpty || (1 : Int) == 1) = true := by rw [show ((1 : Int) == 1) = true from rfl, Bool.or_true]
    wp_walk using wpAny_loadPart' hl
    repeat (first
      | (refine wpAny_ite_true (decide_eq_true (by rw [one])) ?_; wp_walk using wpAny_loadPart' hl)
      | (refine wpAny_ite_false (decide_eq_false (by decide)) ?_; wp_walk using wpAny_loadPart' hl))
    exact ⟨_, rfl, h⟩
/-! ### tuples whose object is known to have no dict of its own -/
def TupO (H : Hp) (a : Addr) (xs : List V) : Prop := ∃ o : Obj, H a = some (.frz o (.tup xs)) ∧ o.dict = none
theorem TupO.seq {K : PySem.W.Frag} {H : Hp} {a : Addr} {xs : List V} (h : TupO H a xs) : SqT K H a xs := by
  obtain ⟨o, h, _⟩ := h
  exact .inl (.inr ⟨o, h⟩)
section
variable {X : Cx}
def rTupF (K : PySem.W.Frag) : List V → Hp → VK → Prop := fun xs H Q => ∃ (p : Addr) (ys : List V), xs = [.ref p] ∧ SqL K H p ys ∧ ∀ (l : Addr) (o : Obj), H l = none → o.dict = none → Q (.ref l) (upd H l (.frz o (.tup ys)))
/-- tuple(xs) of a list -/
theorem call_tupF (K : PySem.W.Frag) (hK : X.K = K := by rfl) : CallR X (.type "tuple") (rTupF K) := by
  subst hK
  intro pins s σ H xs us Q I r h
  obtain ⟨p, ys, rfl, hq, q⟩ := h
  rw [Vals.ref1 r]
  obtain ⟨its, rv, pl, hz⟩ := I.list hq
  refine call_tuple_list pl.isList (fun h' kp => ?_) (by rw [List.size_toArray, ← rv.length]; exact hz)
  have I1 : Inv X pins σ H { s with heap := h' } := I.kept (t' := s.toks) kp
  have new := Heap.get?_push_size h' (o := { cls := .type "tuple", data := .seq its.toArray }) rfl
  refine ⟨.ref h'.objs.size, upd H h'.objs.size (.frz { cls := .type "tuple", data := .seq its.toArray } (.tup ys)), ?_, rfl, q _ _ (I1.hok.fresh (Nat.le_refl _)) rfl⟩
  exact I1.laid (t' := s.toks) (fun b o e => Heap.get?_push_of_some _ e) (Nat.le_refl _) ⟨new, hz, its, rv, ⟨_, new, rfl, _, rfl⟩⟩
theorem op_mulT : OpR X (binaryOp .Mult) (fun x y H Q => ∃ (l : Addr) (k : Int) (xs : List V), x = .ref l ∧ y = .int k ∧ SqT X.K H l xs ∧ xs ≠ [] ∧ 1 ≤ k ∧ k ≤ 1000 ∧ xs.length ≤ 1000 ∧ (k = 1 → Q (.ref l) H) ∧
    (2 ≤ k → ∀ (p : Addr) (o : Obj), H p = none → o.dict = none → Q (.ref p) (upd H p (.frz o (.tup (List.replicate k.toNat xs).flatten))))) := by
  intro pins s σ H x y v u Q I rx ry h
  obtain ⟨l, k, xs, rfl, rfl, hT, hne, h1, h2, hz, q1, q2⟩ := h
  cases (show v = Value.ref l from rx)
  obtain ⟨t, rfl⟩ := (show ∃ t, u = Value.int k t from ry)
  obtain ⟨its, r, ⟨⟨cls, dd, data, sl⟩, ho, hc, n, hd⟩, hs⟩ := I.tuple hT
  simp only at hc hd
  subst hc hd
  by_cases hk : k = 1
  · subst hk
    refine wpAny_binaryOp_repeat_ref (T := "tuple") (U := "int") (by decide) ⟨_, ho, rfl⟩ (fun s' => typeIs_int s' 1 t) noFill_tuple_mul F.fills_int_mul F.slot_int_rmul repeat_tuple F.slot_int_index.lookup ?_
    refine call_meets F.slot_int_rmul (typeIs_int s 1 t) F.entry_int_rmul (F.args_int_rmul_2 _ _) (int_rmul_tuple 1 t l its.toArray n dd sl) ⟨ho, rfl, ⟨_, ho, rfl⟩, ?_⟩
    exact call_meets F.slot_tuple_mul ⟨_, ho, rfl⟩ F.entry_tuple_mul (F.args_tuple_mul_2 _ _) (tuple_mul_one l its.toArray n dd sl t) ⟨ho, ⟨.ref l, H, I, rfl, q1 rfl⟩⟩
  · have hle := r.length
    have sz : its.toArray.size = xs.length := by rw [List.size_toArray, hle]
    have some_ : its.toArray.isEmpty = false := by
      cases its with
      | nil => exact absurd (List.eq_nil_of_length_eq_zero hle) hne
      | cons a b => rfl
    have most : ((its.toArray.size : Nat) : Int) * k ≤ 1000000 := by
      have a1 : ((xs.length : Nat) : Int) * k ≤ 1000 * k := Int.mul_le_mul_of_nonneg_right (by omega) (by omega)
      rw [sz]
      omega
    have flat : (List.replicate k.toNat xs).flatten.length ≤ sizeLine := by
      have a1 : k.toNat * xs.length ≤ 1000 * 1000 := Nat.mul_le_mul (by omega) hz
      rw [PyProof.Rows.lm_len_rep_flat, sizeLine_eq]
      omega
    have flat2 : (List.replicate k.toNat its).flatten.length ≤ sizeLine := by
      rw [PyProof.Rows.lm_len_rep_flat] at flat ⊢
      rw [← hle]
      exact flat
    have b0 : (decide (k < -(2 ^ 63)) || decide (k ≥ 2 ^ 63)) = false := by simp; omega
    have b1 : (its.toArray.isEmpty || k == 1) = false := by simp [some_, hk]
    have b2 : (decide (k ≤ 0) || its.toArray.isEmpty) = false := by simp [some_]; omega
    have b3 : Builtin.Tuple.tupleTooMany (((its.toArray.size : Nat) : Int) * k) = false := by
      unfold Builtin.Tuple.tupleTooMany
      exact decide_eq_false (by rw [sizeLine_eq]; omega)
    have er := size_rep its k.toNat
    refine wpAny_binaryOp_repeat_ref (T := "tuple") (U := "int") (by decide) ⟨_, ho, rfl⟩ (fun s' => typeIs_int s' k t) noFill_tuple_mul F.fills_int_mul F.slot_int_rmul repeat_tuple F.slot_int_index.lookup ?_
    refine call_meets F.slot_int_rmul (typeIs_int s k t) F.entry_int_rmul (F.args_int_rmul_2 _ _) (int_rmul_tuple k t l its.toArray n dd sl) ⟨ho, rfl, ⟨_, ho, rfl⟩, ?_⟩
    refine call_meets F.slot_tuple_mul ⟨_, ho, rfl⟩ F.entry_tuple_mul (F.args_tuple_mul_2 _ _) (tuple_mulW l its.toArray n dd sl k t b0 b1 b2 (by omega) b3 (by rw [er, List.size_toArray]; exact flat2)) ⟨ho, ?_⟩
    rw [er]
    have new := Heap.get?_push_size s.heap (o := { cls := Value.type "tuple", data := Data.seq (List.replicate k.toNat its).flatten.toArray }) rfl
    refine ⟨.ref s.heap.objs.size, upd H s.heap.objs.size (.frz { cls := Value.type "tuple", data := Data.seq (List.replicate k.toNat its).flatten.toArray } (.tup (List.replicate k.toNat xs).flatten)), ?_, rfl, q2 (by omega) _ _ (I.hok.fresh (Nat.le_refl _)) rfl⟩
    exact I.laid (t' := s.toks) (fun b ob q => Heap.get?_push_of_some _ q) (Nat.le_refl _) ⟨new, flat, _, r.rep k.toNat, ⟨_, new, rfl, _, rfl⟩⟩
/-- t.count(k), t a tuple without a dict, of ints -/
theorem pe_tcount {o e : Expr} {to te : TE} {apos cpos : Pos} (K : PySem.W.Frag) (ho : PE X o to) (he : PE X e te) (hK : X.K = K := by rfl) (hbase : attributeBase o "count" X.env (eval o X.env) = eval o X.env := by rfl)
    (hfew : ((backTo cpos (starEach [e] X.env)).all (fun x => !x.1) && (backToKw cpos (keywordEach [] X.env)).all (fun x => x.1.isSome) && decide ([e].length + ([] : List Keyword).length + (if ([] : List Keyword).isEmpty then 0 else 1) < 30)) = true := by rfl)
    (hline : (apos.endLine == cpos.line) = true := by rfl) (hs : starEach [e] X.env = (false, eval e X.env) :: starEach [] X.env := by rfl) (hplain : (backTo cpos (starEach [] X.env)).any (·.1) = false := by rfl) :
    PE X (.Call (.Attribute o "count" apos) [e] [] cpos) (fun σ H Q => to σ H fun x H1 => ∃ (p : Addr) (ns : List Int), x = .ref p ∧ TupO H1 p (ns.map V.int) ∧ te σ H1 fun y H2 => ∃ k, y = .int k ∧ SqT K H2 p (ns.map V.int) ∧ Q (.int (ns.count k : Nat)) H2) := by
  subst hK
  refine ⟨fun pins s σ H Q I h => ?_⟩
  refine wpAny_Call_method_late hbase hfew hline rfl (thn (ho.run pins s σ H _ I h) fun v s1 ⟨x, H1, I1, r1, p, ns, ex, hT, q1⟩ => ?_)
  subst ex
  obtain rfl : v = Value.ref p := r1
  obtain ⟨oo, ho1, hod⟩ := hT
  obtain ⟨hg, _, its, rv, ob, e1, e2, _⟩ := (show ObjOk X.prog X.w H1 s1.heap p (.frz oo (.tup (ns.map V.int))) from I1.hok p _ ho1)
  have eo : ob = oo := Option.some.inj (e1.symm.trans hg)
  refine ⟨"tuple", "tuple.count", PySem.F.plainAttrs_tuple, PySem.F.slot_tuple_count, PySem.F.type_tuple_count, ⟨ob, e1, e2⟩, fun a z => ?_, ?_⟩
  · cases z
    exact ⟨oo, hg, hod⟩
  · have hA := (pa_cons he pa_nil hs).run cpos pins s1 σ H1 (fun xs H2 => ∃ k, xs = [.int k] ∧ SqT X.K H2 p (ns.map V.int) ∧ Q (.int (ns.count k : Nat)) H2) I1 ?_
    · rw [hs] at hA ⊢
      refine Calls.callWith_builtin (by show (false || (backTo cpos (starEach [] X.env)).any (·.1)) = false; rw [hplain] <;> rfl) (Calls.evalArgs_plain (thn hA fun us s2 ⟨vs, H2, I2, r2, k, ek, hk, q2⟩ => ?_))
      exact mt_tcountI pins s2 σ H2 (.ref p) vs (.ref p) us Q I2 rfl r2 ⟨p, ns, k, rfl, ek, hk, q2⟩
    · refine (?_ : te σ H1 fun y H2 => ∃ k, [y] = [V.int k] ∧ SqT X.K H2 p (ns.map V.int) ∧ Q (.int (ns.count k : Nat)) H2)
      have eq : (fun y H2 => ∃ k, [y] = [V.int k] ∧ SqT X.K H2 p (ns.map V.int) ∧ Q (.int (ns.count k : Nat)) H2) = fun y H2 => ∃ k, y = V.int k ∧ SqT X.K H2 p (ns.map V.int) ∧ Q (.int (ns.count k : Nat)) H2 := by
        funext y H2
        simp
      rw [eq]
      exact q1
end
/-! ### enumerate(t), t a tuple -/
theorem enumerate_made {v : Value} {o : Obj} {Hv : Heap → Prop} (B : Begins v o Hv) :
    Meets (Builtin.«enumerate.__new__» ⟨[.type "enumerate", v], []⟩) (fun _ R s => Hv s.heap ∧
      R (.ok (.ret (.ref (s.heap.push o).objs.size))) { s with heap := (s.heap.push o).push { cls := .type "enumerate", data := .fields #[.none, .bool false, .ref s.heap.objs.size, rawInt 0, .none, .none] } }) :=
  .of_wp fun prog w A R s h => by
    obtain ⟨hp, g, d, tk, os⟩ := s
    obtain ⟨h1, h⟩ := h
    have hsub := sub_enumerate
    have it_ : ∀ {A' : Around} {E Q : Value → Shared → Prop}, Q (.ref hp.objs.size) ⟨hp.push o, g, d, tk, os⟩ → wpAny (model prog w) A' (pyIter v) Q E ⟨hp, g, d, tk, os⟩ := fun q => B.iter _ _ _ _ _ _ h1 q
    wp_walk using it_
    refine wpAny_stack_any fun st => wpAny_pure ?_
    split
    · rename_i c _ _ _ _ _
      cases (c == Value.type "enumerate") <;> (wp_walk using it_; exact ⟨_, rfl, h⟩)
    · wp_walk using it_
      exact ⟨_, rfl, h⟩
section
variable {prog : Program} {w : World} {A : Around} {E : Value → Shared → Prop} {s : Shared}
theorem enumerate_tuple {t : Addr} {items : Array Value} {Q : Value → Shared → Prop} (ht : s.heap.IsTuple t items)
    (h : ∀ h', IsEnum h' (s.heap.objs.size + 1) s.heap.objs.size 0 .none → h'.IsTupleIter s.heap.objs.size t 0 → (∀ b o, s.heap.get? b = some o → h'.get? b = some o) → Q (.ref (s.heap.objs.size + 1)) { s with heap := h' }) :
    wpAny (model prog w) A (call (.type "enumerate") [.ref t]) Q E s := by
  refine callType_new F.called_enumerate (by decide) (F.typeCall_enumerate_1 _) (F.newCall_enumerate_1 _) (fun obj => F.args_object_init_2 obj _) F.entry_enumerate_new (enumerate_made (begins_tuple t items)) ⟨ht, ?_⟩
  have n1 : (s.heap.push { cls := .type "tuple_iterator", data := .fields #[.ref t, .int 0 0] }).objs.size = s.heap.objs.size + 1 := Heap.size_push ..
  have at1 := Heap.get?_push_size (s.heap.push { cls := .type "tuple_iterator", data := .fields #[.ref t, .int 0 0] }) (o := { cls := .type "enumerate", data := .fields #[.none, .bool false, .ref s.heap.objs.size, rawInt 0, .none, .none] }) rfl
  rw [n1] at at1
  change _ ∧ _
  rw [n1]
  exact ⟨⟨_, at1, rfl⟩, h _ at1 ⟨_, Heap.get?_push_of_some _ (Heap.get?_push_size _ rfl), rfl, rfl⟩ fun b o x => Heap.get?_push_of_some _ (Heap.get?_push_of_some _ x)⟩
end
/-- the tuple at a, each item in a new pair with its place -/
def Itu (K : PySem.W.Frag) (a : Addr) : It where
  go := fun i H => ∃ (xs : List V) (x : V), SqT K H a xs ∧ xs[i]? = some x
  yld := fun i H v H' => ∃ T x, v = .ref T ∧ H T = none ∧ H' = upd H T (.tup [.int (i : Nat), x]) ∧ ∀ xs, SqT K H a xs → xs[i]? = some x
  stop := fun i H => ∃ xs : List V, SqT K H a xs ∧ xs.length ≤ i
theorem turn_enumT {P : Program} {w : World} {K : PySem.W.Frag} {elts : List Expr} {kk : Nat} {tpos : Pos} (a e it : Addr) :
    Turn P w K (.Tuple elts kk tpos) (Itu K a) [e, it] e (fun i h => (∃ old, IsEnum h e it ((i : Nat) : Int) old) ∧ h.IsTupleIter it a i ∧ e ≠ it) where
  mem := List.mem_cons_self
  obj := fun i h st b hb => by
    obtain ⟨⟨old, he⟩, ⟨o, ho, _, hd⟩, _⟩ := st
    rcases List.mem_cons.mp hb with rfl | hb
    · exact ⟨_, he, nofun⟩
    · obtain rfl : b = it := by simpa using hb
      exact ⟨o, ho, fun v q => by rw [hd] at q; cases q⟩
  keep := fun i h h' st k => by
    obtain ⟨⟨old, he⟩, hi, hne⟩ := st
    exact ⟨⟨old, k e (by simp) _ he⟩, hi.at fun o q => k it (by simp) o q, hne⟩
  item := by
    rintro X rfl rfl rfl hc i pins s σ H E I hf ⟨⟨old, he⟩, hit, hne⟩ ⟨xs, x, hq, hx⟩
    obtain ⟨its, rv, p, hz⟩ := I.tuple hq
    obtain ⟨u, hu, ru⟩ := rv.get hx
    have tup : s.heap.IsTuple a its.toArray := p
    have hil : it < s.heap.objs.size := let ⟨_, q, _⟩ := hit; Heap.lt_size q
    have hai : a ≠ it := fun z => by
      obtain ⟨o, e1, c1, _⟩ := tup
      obtain ⟨o', e2, c2, _⟩ := hit
      rw [z, e2] at e1
      cases e1
      rw [c2] at c1
      exact absurd (Value.type.inj c1) (by decide)
    have hea : e ≠ a := fun z => by
      obtain ⟨o, e1, c1, _⟩ := tup
      have e2 := he
      unfold IsEnum at e2
      rw [z, e1] at e2
      cases e2
      exact absurd (Value.type.inj c1) (by decide)
    have D := Draws.tuple (prog := X.prog) (w := X.w) (A := X.A.in1) (I.ok.hd hc) it a hai its.toArray
    have hlt : i < its.toArray.size := by
      have z := (List.getElem?_eq_some_iff.mp hu).1
      simpa using z
    refine wpAny_pyNext_enum_itemD D he ⟨hit, tup⟩ hlt hne (by simp [hne, hea]) fun y h' tk hy ho st' hT hsz hk => ?_
    have ey : y = u := by
      have z : its.toArray[i]? = some y := hy
      rw [List.getElem?_toArray, hu] at z
      exact (Option.some.inj z).symm
    subst ey
    refine ⟨_, rfl, wpAny_letOwnedTupleGo_enum (s := { s with heap := h', toks := tk + 1 }) ho fun h'' he' sb => ?_⟩
    have hel : e < s.heap.objs.size := Heap.lt_size he
    have hT2 : h''.get? s.heap.objs.size = some { cls := .type "tuple", data := .seq #[.int i tk, y] } := (sb.2 _ (Nat.ne_of_gt hel)).trans hT
    have new : ObjOk X.prog X.w (upd H s.heap.objs.size (.tup [.int (i : Nat), x])) h'' s.heap.objs.size (.tup [.int (i : Nat), x]) := ⟨by change 2 ≤ sizeLine; decide, [.int i tk, y], .cons ⟨_, rfl⟩ (.cons ru .nil), ⟨_, hT2, rfl, _, rfl⟩⟩
    have I1 : Inv X pins σ (upd H s.heap.objs.size (.tup [.int (i : Nat), x])) { s with heap := h'', toks := tk + 1 } := by
      refine I.turnedNew (ch := [e, it]) (fun b ob hb q => ?_) hf (Nat.le_refl _) new
      have n1 : b ≠ e := fun z => hb (by simp [z])
      have n2 : b ≠ it := fun z => hb (by simp [z])
      exact (sb.2 b n1).trans (hk b ob n1 n2 q)
    refine ⟨.ref s.heap.objs.size, _, I1, rfl, ⟨_, x, rfl, I.hok.fresh (Nat.le_refl _), rfl, fun ys hy => by rw [I.tuple_inj hy hq]; exact hx⟩, ⟨⟨y, ?_⟩, st'.1.at fun o q => (sb.2 it (Ne.symm hne)).trans q, hne⟩, fun b hb => ?_⟩
    · rw [show ((i + 1 : Nat) : Int) = (i : Int) + 1 by omega]
      exact he'
    · have hb' : b < s.heap.objs.size := by
        rcases List.mem_cons.mp hb with z | z
        · exact z ▸ hel
        · obtain rfl : b = it := by simpa using z
          exact hil
      rw [upd_ne (Nat.ne_of_lt hb')]
      exact (hf b hb).1
  done := by
    rintro X rfl rfl rfl hc i pins s σ H E I hf ⟨⟨old, he⟩, hit, hne⟩ ⟨xs, hq, hx⟩
    obtain ⟨its, rv, p, hz⟩ := I.tuple hq
    have tup : s.heap.IsTuple a its.toArray := p
    have hai : a ≠ it := fun z => by
      obtain ⟨o, e1, c1, _⟩ := tup
      obtain ⟨o', e2, c2, _⟩ := hit
      rw [z, e2] at e1
      cases e1
      rw [c2] at c1
      exact absurd (Value.type.inj c1) (by decide)
    obtain ⟨f0, f1, f2, f3, f4, f5⟩ := hf it (by simp)
    have hl := rv.length
    have hT : s.TypeIs (.ref e) "enumerate" := ⟨_, he, rfl⟩
    unfold pyNext
    refine wpAny_bind (wpAny_attempt (wpAny_callSpecial?_slot (name := Str.ofString "__next__") hT F.slot_enumerate_next (wpAny_call_entry F.slot_enumerate_next hT F.entry_enumerate_next ?_ (F.args_enumerate_next_1 _))))
    change wpAny _ _ (field (.ref e) 2 >>= _) _ _ _
    refine wpAny_bind (wpAny_field he rfl (x := .ref it) rfl (wpAny_bind (wpAny_nextOf_tuple_end (I.ok.hd hc) hit tup (by simp; omega) fun h' x he' hx' => ?_)))
    obtain ⟨o, ho, hcl⟩ := hx'
    refine wpAny_bind (wpAny_isInstance (T := "StopIteration") (b := true) ⟨o, ho, hcl⟩ isSubtype_stop (wpAny_pure ?_))
    exact ⟨rfl, I.turned (t' := s.toks) (fun b o hb q => he' b o hb q) f0 f1 f3 f4 f5⟩
  self := fun A i s Q E st h => by
    obtain ⟨⟨old, he⟩, _⟩ := st
    exact wpAny_pyIter_enum he h
theorem pi_enumT {X : Cx} {e : Expr} {ta : TA} {p pos tpos : Pos} {elts : List Expr} {kk : Nat} (hg : Gl X "enumerate") (hm : X.mg "enumerate" = none) (ha : PA X [e] ta) (hs : starEach [e] X.env = [(false, eval e X.env)] := by rfl) :
    PI X (.Tuple elts kk tpos) (.Call (.Name "enumerate" p) [e] [] pos) (fun σ H R => ta σ H fun vs H1 => ∃ a xs, vs = [.ref a] ∧ SqT X.K H1 a xs ∧ R (Itu X.K a) H1) := by
  refine ⟨fun pins s σ H R I h => ?_⟩
  refine Call_ (ld_blt I hg hm boot_enumerate (PyProof.Rows.callWith_type1 (thn (ha.run pos pins s σ H _ I h) fun us s1 ⟨vs, H1, I1, r1, q1⟩ => ?_) hs rfl))
  obtain ⟨a, xs, rfl, hq, q⟩ := q1
  rw [Vals.ref1 r1]
  obtain ⟨its, rv, p', hz⟩ := I1.tuple hq
  refine enumerate_tuple (items := its.toArray) p' fun h' he hit hk => wpAny_pyIter_enum he ?_
  refine ⟨s1.heap.objs.size + 1, [s1.heap.objs.size + 1, s1.heap.objs.size], _, _, H1, rfl, I1.kept (t' := s1.toks) hk, turn_enumT a _ _, ⟨⟨.none, he⟩, hit, Nat.succ_ne_self _⟩, fun b hb => ?_, q⟩
  have hle : s1.heap.objs.size ≤ b := by
    rcases List.mem_cons.mp hb with z | z
    · exact z ▸ Nat.le_succ _
    · obtain rfl : b = s1.heap.objs.size := by simpa using z
      exact Nat.le_refl _
  exact I1.fpOk hle (I1.hok.fresh hle)
theorem walk_enumT {K : PySem.W.Frag} {a : Addr} {xs : List V} : Walk (Itu K a) xs.length (fun H => SqT K H a xs) (YPair (fun i => some (.int (i : Nat))) (fun i => xs[i]?)) where
  goes := fun i _ hi q => ⟨xs, xs[i], q, by simp [hi]⟩
  stops := fun _ q => ⟨xs, q, Nat.le_refl _⟩
  yields := by
    rintro i H v H' _ q ⟨T, x, h1, h2, h3, h4⟩
    exact ⟨T, .int (i : Nat), x, h1, h2, h3, rfl, h4 xs q⟩
/-! ### f(k = v, ..), keywords alone -/
def tCallKs (m : Nat) (sp : Sp) (gV : List V → List V → List V) (E : XK) (tk : TA) : TE := fun σ H Q => tk σ H fun zs H2 => zs.length = m ∧ sp (gV [] zs) H2 Q E
theorem pe_callKs {X : Cx} {CX : CXT} {k : Nat} {f : Addr} {fd : FuncData} {ps ks : List Str} {sp : Sp} {E : XK} {x : Str} {p pos : Pos} {kws : List Keyword} {tk : TA} {g : List Value → List Value → List Value} {gV : List V → List V → List V}
    (F : FnOk X.prog X.w X.K X.mg X.base CX k f fd ps sp) (hr : Room k X.A) (hg : Gl X x) (hm : X.mg x = some (.ref f)) (hk : PySem.W.keepIn X.K (.ref f) = true) (hb : KBn X.K fd ps 0 ks g gV) (hx : Passes CX X E) (hkw : PK X kws tk)
    (hall : (backToKw pos (keywordEach kws X.env)).all (·.1.isSome) = true := by rfl) (hks : (backToKw pos (keywordEach kws X.env)).filterMap (·.1) = ks := by rfl) (hdb : (x == ("__debug__" : Str)) = false := by decide)
    (hpl : ((backTo pos (starEach [] X.env)).any (·.1) || (backToKw pos (keywordEach kws X.env)).any (·.1.isNone)) = false := by rfl) :
    PE X (.Call (.Name x p) [] kws pos) (tCallKs ks.length sp gV E tk) := by
  refine ⟨fun pins s σ H Q I h => wpAny_Call_Name_kw (ld_glob I hg hm ?_ hdb)⟩
  refine PySem.W.callWith_KW0 (h₀ := X.base) I.ok.mod.kin hk hall (thn (hkw.run pos pins s σ H _ I h) fun ws s2 ⟨zs, H2, I2, rz, l2, q2⟩ => ⟨I2.kIn, ?_⟩) hpl
  rw [hks]
  exact run_fnN (us := []) F hr hb hx I2 .nil rz rfl l2 q2
end Tk
set_option maxHeartbeats 4000000
namespace Tk
open PySem PySem.Spec PyProof.Rows L2
def top (i : Nat) : Stmt := PySem.Challenge.pw_tellerhabits_k26_whole_chances_behind_sa.main.body.getD i (.Pass ⟨0, 0, 0, 0⟩)
abbrev FnP (K : PySem.W.Frag) (x qual : Str) (st : Stmt) (f : Addr) (fd : FuncData) : Prop := FunD K x qual (defArgs st) (defBody st) (defScope st) [] [] f fd
/-- the module's name x is the def st -/
def DefAt (K : PySem.W.Frag) (mg : Str → Option Value) (x : Str) (st : Stmt) : Prop := ∃ f fd, mg x = some (.ref f) ∧ FnP K x x st f fd
/-- the module's name x keeps the promise sp -/
def Has (P : Program) (w : World) (K : PySem.W.Frag) (mg : Str → Option Value) (base : Heap) (CX : CXT) (x : Str) (k : Nat) (ps : List Str) (sp : Sp) : Prop :=
  ∃ f fd, mg x = some (.ref f) ∧ PySem.W.keepIn K (.ref f) = true ∧ FnOk P w K mg base CX k f fd ps sp ∧ Binds K fd ps []
section
variable {P : Program} {w : World} {K : PySem.W.Frag} {mg : Str → Option Value} {base : Heap} {x : Str} {st : Stmt} {N ps : List Str} {k : Nat} {sp : Sp}
theorem has_mk (h : DefAt K mg x st) (S : FnScope N ps (defScope st)) (len : ∀ vs H Q E, sp vs H Q E → vs.length = ps.length)
    (hb : ∀ (kV doc pm : Value) (an : Option Addr) (cdv ct : Value) (us : List Value), us.length = ps.length → bindArgs (PySem.W.fnOf x x (defArgs st) (defBody st) (defScope st) .none kV doc pm an cdv ct) ⟨us, []⟩ = pure (ps.zip us))
    (body : ∀ (f : Addr) (cdv : Value) (A : Around) (outer : List Env) (s : Shared) (H : Hp) (vs : List V) (Q : VK) (E : XK), Room k (A.deeper (envOfC x (defScope st) s.heap.objs.size f cdv)) → sp vs H Q E →
      ∃ t, PSs (cxOf CX0 P w K mg base N x (defScope st) f cdv A outer s H E).nox (defBody st) t ∧ t { nx := fun _ H' => Q .non H', rt := Q } (start N vs) H) : Has P w K mg base CX0 x (k + 1) ps sp := by
  obtain ⟨f, fd, hm, F⟩ := h
  refine ⟨f, fd, hm, F.kp, F.ok S len fun cdv A outer s H vs Q E hr hsp => ?_, F.bindsN hb⟩
  obtain ⟨t, h1, h2⟩ := body f cdv A outer s H vs Q E hr hsp
  exact ⟨t, h1.nox, h2⟩
theorem has_mkX (h : DefAt K mg x st) (S : FnScope N ps (defScope st)) (len : ∀ vs H Q E, sp vs H Q E → vs.length = ps.length)
    (hb : ∀ (kV doc pm : Value) (an : Option Addr) (cdv ct : Value) (us : List Value), us.length = ps.length → bindArgs (PySem.W.fnOf x x (defArgs st) (defBody st) (defScope st) .none kV doc pm an cdv ct) ⟨us, []⟩ = pure (ps.zip us))
    (body : ∀ (f : Addr) (cdv : Value) (A : Around) (outer : List Env) (s : Shared) (H : Hp) (vs : List V) (Q : VK) (E : XK), Room k (A.deeper (envOfC x (defScope st) s.heap.objs.size f cdv)) → sp vs H Q E →
      ∃ t, PSs (cxOf (L2.CX P w) P w K mg base N x (defScope st) f cdv A outer s H E) (defBody st) t ∧ t { nx := fun _ H' => Q .non H', rt := Q } (start N vs) H) : Has P w K mg base (L2.CX P w) x (k + 1) ps sp := by
  obtain ⟨f, fd, hm, F⟩ := h
  exact ⟨f, fd, hm, F.kp, F.ok S len fun cdv A outer s H vs Q E hr hsp => body f cdv A outer s H vs Q E hr hsp, F.bindsN hb⟩
end
/-- a call of such a name -/
theorem pe_f {X : Cx} {x : Str} {k : Nat} {ps : List Str} {sp : Sp} {e : Expr} {es : List Expr} {t : TA} {p pos : Pos} (h : Has X.prog X.w X.K X.mg X.base CX0 x k ps sp) (hr : Room k X.A) (hg : Gl X x) (ha : PA X (e :: es) t)
    (hdb : (x == ("__debug__" : Str)) = false := by decide) (he : starEach (e :: es) X.env = (false, eval e X.env) :: starEach es X.env := by rfl) (hpl : (backTo pos (starEach es X.env)).any (·.1) = false := by rfl) :
    PE X (.Call (.Name x p) (e :: es) [] pos) (tCall sp [] E0 t) := by
  obtain ⟨f, fd, hm, hk, F, hb⟩ := h
  exact pe_call F hr hg hm hk hb .nil pass0 ha hdb he hpl
/-! ### what is said of heaps -/
abbrev IT (K : PySem.W.Frag) (H : Hp) (a : Addr) (ns : List Int) : Prop := SqT K H a (ns.map V.int)
abbrev IL (K : PySem.W.Frag) (H : Hp) (a : Addr) (ns : List Int) : Prop := SqL K H a (ns.map V.int)
def prV (p : Int × Int) : List V := [.int p.1, .int p.2]
/-- rows: tuples of ints at the addresses rs -/
inductive RowsIn (K : PySem.W.Frag) (H : Hp) : List Addr → List (List Int) → Prop where
  | nil : RowsIn K H [] []
  | cons {r : Addr} {row : List Int} {rs : List Addr} {rows : List (List Int)} : IT K H r row → RowsIn K H rs rows → RowsIn K H (r :: rs) (row :: rows)
theorem RowsIn.len {K : PySem.W.Frag} {H : Hp} : ∀ {rs : List Addr} {rows : List (List Int)}, RowsIn K H rs rows → rs.length = rows.length
  | _, _, .nil => rfl
  | _, _, .cons _ t => congrArg Nat.succ t.len
theorem RowsIn.get {K : PySem.W.Frag} {H : Hp} : ∀ {rs : List Addr} {rows : List (List Int)}, RowsIn K H rs rows → ∀ {i : Nat} {row : List Int}, rows[i]? = some row → ∃ r, rs[i]? = some r ∧ IT K H r row
  | _, _, .nil, i, row, e => by simp at e
  | _, _, .cons h t, 0, row, e => by
    simp at e
    subst e
    exact ⟨_, rfl, h⟩
  | _, _, .cons h t, i + 1, row, e => by
    obtain ⟨r, h1, h2⟩ := t.get (i := i) (row := row) (by simpa using e)
    exact ⟨r, by simpa using h1, h2⟩
theorem RowsIn.snoc {K : PySem.W.Frag} {H : Hp} : ∀ {rs : List Addr} {rows : List (List Int)} {r : Addr} {row : List Int}, RowsIn K H rs rows → IT K H r row → RowsIn K H (rs ++ [r]) (rows ++ [row])
  | _, _, _, _, .nil, h => .cons h .nil
  | _, _, _, _, .cons h t, h' => .cons h (t.snoc h')
theorem RowsIn.app {K : PySem.W.Frag} {H : Hp} : ∀ {rs rs' : List Addr} {rows rows' : List (List Int)}, RowsIn K H rs rows → RowsIn K H rs' rows' → RowsIn K H (rs ++ rs') (rows ++ rows')
  | _, _, _, _, .nil, h => h
  | _, _, _, _, .cons h t, h' => .cons h (t.app h')
theorem RowsIn.imp {K : PySem.W.Frag} {H H' : Hp} (f : ∀ a ns, IT K H a ns → IT K H' a ns) : ∀ {rs : List Addr} {rows : List (List Int)}, RowsIn K H rs rows → RowsIn K H' rs rows
  | _, _, .nil => .nil
  | _, _, .cons h t => .cons (f _ _ h) (t.imp f)
/-- a tuple of rows -/
def RowsT (K : PySem.W.Frag) (H : Hp) (a : Addr) (rows : List (List Int)) : Prop := ∃ rs : List Addr, SqT K H a (rs.map V.ref) ∧ RowsIn K H rs rows
/-- all but v stay -/
def But (v : Addr) (H H' : Hp) : Prop := ∀ b o, b ≠ v → H b = some o → H' b = some o
theorem But.refl (v : Addr) (H : Hp) : But v H H := fun _ _ _ h => h
theorem But.trans {v : Addr} {H H1 H2 : Hp} (a : But v H H1) (b : But v H1 H2) : But v H H2 := fun c o n h => b c o n (a c o n h)
theorem But.of {v : Addr} {H H' : Hp} (a : Same H H') : But v H H' := fun c o _ h => a c o h
theorem But.free {v : Addr} {H H' : Hp} (a : But v H H') {p : Addr} (hv : p ≠ v) (h : H' p = none) : H p = none := by
  cases q : H p with
  | none => rfl
  | some o =>
    rw [a p o hv q] at h
    cases h
theorem Same.seqT {K : PySem.W.Frag} {H H' : Hp} {a : Addr} {xs : List V} (e : Same H H') (h : SqT K H a xs) : SqT K H' a xs := by
  rcases h with (h | ⟨o, h⟩) | h
  · exact .inl (.inl (e _ _ h))
  · exact .inl (.inr ⟨o, e _ _ h⟩)
  · exact .inr h
theorem But.seqT {K : PySem.W.Frag} {v : Addr} {H H' : Hp} {l : List V} {a : Addr} {xs : List V} (hv : H v = some (.lst l)) (e : But v H H') (h : SqT K H a xs) : SqT K H' a xs := by
  rcases h with (h | ⟨o, h⟩) | h
  · exact .inl (.inl (e _ _ (fun z => by rw [z, hv] at h; cases h) h))
  · exact .inl (.inr ⟨o, e _ _ (fun z => by rw [z, hv] at h; cases h) h⟩)
  · exact .inr h
theorem Same.rows {K : PySem.W.Frag} {H H' : Hp} {a : Addr} {rows : List (List Int)} (e : Same H H') (h : RowsT K H a rows) : RowsT K H' a rows := by
  obtain ⟨rs, h1, h2⟩ := h
  exact ⟨rs, Same.seqT e h1, h2.imp fun _ _ => Same.seqT e⟩
theorem But.rows {K : PySem.W.Frag} {v : Addr} {H H' : Hp} {l : List V} {a : Addr} {rows : List (List Int)} (hv : H v = some (.lst l)) (e : But v H H') (h : RowsT K H a rows) : RowsT K H' a rows := by
  obtain ⟨rs, h1, h2⟩ := h
  exact ⟨rs, But.seqT hv e h1, h2.imp fun _ _ => But.seqT hv e⟩
theorem same_upd {H : Hp} {p : Addr} {o : HO} (h : H p = none) : Same H (upd H p o) := fun b u e => by
  rw [upd_ne (ne_of_none e h)]
  exact e
/-- a tuple comes back, all else stays -/
def RetT (K : PySem.W.Frag) (H : Hp) (xs : List V) (Q : VK) : Prop := ∀ p H', Same H H' → SqT K H' p xs → Q (.ref p) H'
theorem RetT.new {K : PySem.W.Frag} {H : Hp} {xs : List V} {Q : VK} (h : RetT K H xs Q) {H1 : Hp} (e : Same H H1) : ∀ p, H1 p = none → Q (.ref p) (upd H1 p (.tup xs)) :=
  fun p hp => h p _ (e.trans (same_upd hp)) (SqT.of upd_same)
theorem RetT.from {K : PySem.W.Frag} {H : Hp} {xs : List V} {Q : VK} (h : RetT K H xs Q) {H1 : Hp} (e : Same H H1) : RetT K H1 xs Q := fun p H' s t => h p H' (e.trans s) t
/-! ### the rules with the written part named -/
section
variable {X : Cx} {tg e : Expr} {te : TE}
theorem ixT (K : PySem.W.Frag) (h : X.K = K := by rfl) : IxR X (rIxT K) := h ▸ ix_tup
theorem ixL (K : PySem.W.Frag) (h : X.K = K := by rfl) : IxR X (rIxL K) := h ▸ ix_list
theorem inK (K : PySem.W.Frag) (h : X.K = K := by rfl) : OpR X (compareOp .In) (rIn K false) := h ▸ op_in_seq
theorem ninK (K : PySem.W.Frag) (h : X.K = K := by rfl) : OpR X (compareOp .NotIn) (rIn K true) := h ▸ op_notIn_seq
theorem eqK (K : PySem.W.Frag) (hu : X.A.units + 64 < cLine) (h : X.K = K := by rfl) : OpR X (compareOp .Eq) (rEqD K) := h ▸ op_eqD hu
theorem neK (K : PySem.W.Frag) (hu : X.A.units + 64 < cLine) (h : X.K = K := by rfl) : OpR X (compareOp .NotEq) (rNeD K) := h ▸ op_neD hu
theorem allK (K : PySem.W.Frag) (hc : X.calm = true) (h : X.K = K := by rfl) : CallR X (.builtin "all") (rAll K) := h ▸ cr_all hc
theorem anyK (K : PySem.W.Frag) (hc : X.calm = true) (h : X.K = K := by rfl) : CallR X (.builtin "any") (rAny K) := h ▸ cr_any hc
theorem sumK (K : PySem.W.Frag) (hc : X.calm = true) (h : X.K = K := by rfl) : CallR X (.builtin "sum") (rSum K) := h ▸ cr_sum hc
theorem isiK (K : PySem.W.Frag) (h : X.K = K := by rfl) : CallR X (.builtin "isinstance") (rIsi K) := h ▸ call_isi
theorem piL (K : PySem.W.Frag) (hl : PE X e te) (h : X.K = K := by rfl) : PI X tg e (iList K te) := h ▸ pi_list hl
theorem piT (K : PySem.W.Frag) (hl : PE X e te) (h : X.K = K := by rfl) : PI X tg e (iTup K te) := h ▸ pi_tup hl
def rLenK (K : PySem.W.Frag) : List V → Hp → VK → Prop := fun xs H Q => ∃ (x : V) (n : Nat), xs = [x] ∧ LenV K x H n ∧ Q (.int n) H
theorem lenK (K : PySem.W.Frag) (h : X.K = K := by rfl) : CallR X (.builtin "len") (rLenK K) := h ▸ call_len
def rTupK (K : PySem.W.Frag) : List V → Hp → VK → Prop := fun xs H Q => ∃ (p : Addr) (ys : List V), xs = [.ref p] ∧ ((SqL K H p ys ∧ ∀ l, H l = none → Q (.ref l) (upd H l (.tup ys))) ∨ (SqT K H p ys ∧ Q (.ref p) H))
theorem pgT {es : List Expr} {k : Nat} {t : TGs} {n : Nat} {pos : Pos} (K : PySem.W.Frag) (hc : X.calm = true) (h : PGs X es t) (hn : (assignEach es X.env).length = n := by rfl) (hst : (assignEach es X.env).findIdx? (·.1) = none := by rfl) (hK : X.K = K := by rfl) :
    PG X (.Tuple es k pos) (gTup K n t) := hK ▸ pg_tup hc h hn hst
theorem tupK (K : PySem.W.Frag) (h : X.K = K := by rfl) : CallR X (.type "tuple") (rTupK K) := h ▸ call_tuple_of
end
/-! ### what the program's names stand for -/
abbrev telC (K : PySem.W.Frag) : Addr := He.ga K "Teller"
abbrev nvC (K : PySem.W.Frag) : Addr := He.ga K "NeverHeard"
abbrev FnM (K : PySem.W.Frag) (x qual : Str) (i : Nat) (f : Addr) (fd : FuncData) : Prop := FnP K x qual (inClass (top 35) i) f fd
/-- the class Teller -/
structure TelF (K : PySem.W.Frag) (mg : Str → Option Value) : Prop where
  gC : mg "Teller" = some (.ref (telC K))
  cl : Cls K (telC K)
  noH : NoAttr K (telC K) "held"
  mkr : ∃ f fd, Mk K (telC K) f ∧ FnM K "__init__" "Teller.__init__" 0 f fd
  wts : ∃ p f fd, PropOf K (telC K) "weights" p f ∧ FnM K "weights" "Teller.weights" 2 f fd
  sys : ∃ p f fd, PropOf K (telC K) "sayings" p f ∧ FnM K "sayings" "Teller.sayings" 3 f fd
  sid : ∃ f fd, Meth K (telC K) "said_in" f ∧ FnM K "said_in" "Teller.said_in" 4 f fd
  ha : PySem.W.findIn K (.ref (telC K)) "__class__" = some (some (.builtin "object.__class__"))
  hn : PySem.W.specialIn K (.builtin "object.__class__") "__get__" = some (some (.builtin "getset_descriptor.__get__"))
  htk : PySem.W.takesIn K (.builtin "object.__class__") = some true
  hm : PySem.W.mroIn K (telC K) (.type "object") = some true
  isi : PySem.W.kitOne K (.ref (telC K)) (.ref (telC K)) = some true
def aeBase : List Value := [.type "ArithmeticError", .type "Exception", .type "BaseException", .type "object"]
/-- the class NeverHeard -/
structure NvF (K : PySem.W.Frag) (mg : Str → Option Value) : Prop where
  gC : mg "NeverHeard" = some (.ref (nvC K))
  ex : PySem.W.excIn K (nvC K) aeBase "ArithmeticError.__new__" = true
  kp : PySem.W.keepIn K (.ref (nvC K)) = true
  sb : PySem.W.subIn K (.ref (nvC K)) (.type "BaseException") = some true
  ty : PySem.W.typeIn K (.ref (nvC K)) = some (.type "type")
  em : PySem.W.exmOne K (.ref (nvC K)) (.ref (nvC K)) = some true
structure Dat (K : PySem.W.Frag) (mg : Str → Option Value) : Prop where
  len : mg "len" = none
  tuple : mg "tuple" = none
  isinstance : mg "isinstance" = none
  int : mg "int" = none
  bool : mg "bool" = none
  all : mg "all" = none
  any : mg "any" = none
  range : mg "range" = none
  enumerate : mg "enumerate" = none
  sum : mg "sum" = none
  abs : mg "abs" = none
  max : mg "max" = none
  min : mg "min" = none
  divmod : mg "divmod" = none
  sorted : mg "sorted" = none
  repr : mg "repr" = none
  MOST_CASES : ∃ t, mg "MOST_CASES" = some (.int 8 t)
  MOST_WEIGHT : ∃ t, mg "MOST_WEIGHT" = some (.int 1000000 t)
  MOST_SAYINGS : ∃ t, mg "MOST_SAYINGS" = some (.int 16 t)
  MOST_HEARD : ∃ t, mg "MOST_HEARD" = some (.int 20 t)
  LEAST_CASES : ∃ t, mg "LEAST_CASES" = some (.int 2 t)
  NONE : ∃ a, mg "NONE" = some (.ref a) ∧ ∀ H, SqT K H a (prV (0, 1))
  WHOLE : ∃ a, mg "WHOLE" = some (.ref a) ∧ ∀ H, SqT K H a (prV (1, 1))
  tel : TelF K mg
  nv : NvF K mg
  is_integer : DefAt K mg "is_integer" (top 15)
  is_between : DefAt K mg "is_between" (top 16)
  common_divisor : DefAt K mg "common_divisor" (top 18)
  fraction : DefAt K mg "fraction" (top 19)
  plus : DefAt K mg "plus" (top 20)
  times : DefAt K mg "times" (top 21)
  over : DefAt K mg "over" (top 22)
  total : DefAt K mg "total" (top 23)
  is_ascending : DefAt K mg "is_ascending" (top 24)
  check_weights : DefAt K mg "check_weights" (top 31)
  is_lot : DefAt K mg "is_lot" (top 32)
  check_sayings : DefAt K mg "check_sayings" (top 33)
  check_teller : DefAt K mg "check_teller" (top 36)
  check_lot : DefAt K mg "check_lot" (top 39)
  check_heard : DefAt K mg "check_heard" (top 43)
  left_for : DefAt K mg "left_for" (top 44)
  greatest_product : DefAt K mg "greatest_product" (top 45)
  most_of : DefAt K mg "most_of" (top 46)
  bound_of : DefAt K mg "bound_of" (top 47)
  check_repeats : DefAt K mg "check_repeats" (top 48)
  least_after : DefAt K mg "least_after" (top 49)
  greatest_after : DefAt K mg "greatest_after" (top 50)
  law_vat : DefAt K mg "_law_vat" (top 52)
  law_tap : DefAt K mg "_law_tap" (top 53)
  law_one : DefAt K mg "_law_one" (top 54)
  law_cut : DefAt K mg "_law_cut" (top 55)
  law_below : DefAt K mg "_law_below" (top 56)
  law_weights : DefAt K mg "_law_weights" (top 57)
  law_lots : DefAt K mg "_law_lots" (top 58)
  law_lot : DefAt K mg "_law_lot" (top 59)
  law_sayings : DefAt K mg "_law_sayings" (top 60)
  law_said : DefAt K mg "_law_said" (top 61)
  law_told : DefAt K mg "_law_told" (top 62)
  law_product : DefAt K mg "_law_product" (top 63)
  law_dues : DefAt K mg "_law_dues" (top 64)
  law_right : DefAt K mg "_law_right" (top 65)
  law : DefAt K mg "law" (top 66)
section
variable {P : Program} {w : World} {K : PySem.W.Frag} {mg : Str → Option Value} {base : Heap}
/-! ### kinds -/
def spIsInteger : Sp := fun vs H Q _ => ∃ i, vs = [.int i] ∧ Q (.bl true) H
theorem sc_is_integer : FnScope ["value"] ["value"] (defScope (top 15)) := ⟨rfl, rfl, rfl, by decide +kernel, rfl, by decide +kernel, by decide +kernel⟩
theorem has_is_integer (D : Dat K mg) : Has P w K mg base CX0 "is_integer" 1 ["value"] spIsInteger := by
  refine has_mk D.is_integer sc_is_integer (fun vs H Q E h => ?_) (fun _ _ _ _ _ _ us hl => match us, hl with | [_], _ => rfl) (fun f cdv A outer s H vs Q E hr h => ?_)
  · obtain ⟨i, rfl, _⟩ := h
    rfl
  · obtain ⟨i, rfl, k⟩ := h
    refine ⟨_, pss_one (ps_ret (pe_and (pe_callB call_isi (by rfl) D.isinstance boot_isinstance (pa_cons (pv 0) (pa_cons (pe_bltn (v := .ty "int") (by rfl) D.int boot_int rfl) pa_nil)))
      (pe_one (pe_not (pe_callB call_isi (by rfl) D.isinstance boot_isinstance (pa_cons (pv 0) (pa_cons (pe_bltn (v := .ty "bool") (by rfl) D.bool boot_bool rfl) pa_nil))))))), ?_⟩
    refine ⟨_, rfl, .int i, .ty "int", _, _, true, rfl, .ty _, .base (.int i), kit_ty (by decide +kernel), true, rfl, ?_⟩
    refine iteT ⟨_, rfl, .int i, .ty "bool", _, _, false, rfl, .ty _, .base (.int i), kit_ty (by decide +kernel), false, rfl, ?_⟩
    exact k
end
end Tk
set_option maxHeartbeats 4000000
namespace Tk
open PySem PySem.Spec PyProof.Rows L2
theorem iteNN {c A B : Prop} [Decidable c] (hc : ¬ c) (h : A) : if (!decide c) = true then A else B := by
  rw [decide_eq_false hc]
  exact iteT h
theorem iteDT {c A B : Prop} [Decidable c] (hc : c) (h : A) : if decide c = true then A else B := by
  rw [decide_eq_true hc]
  exact iteT h
theorem iteDF {c A B : Prop} [Decidable c] (hc : ¬ c) (h : B) : if decide c = true then A else B := by
  rw [decide_eq_false hc]
  exact iteF h
theorem bl_t {c : Prop} [Decidable c] (hc : c) : V.bl (decide c) = V.bl true := by rw [decide_eq_true hc]
section
variable {P : Program} {w : World} {K : PySem.W.Frag} {mg : Str → Option Value} {base : Heap}
def spIsBetween : Sp := fun vs H Q _ => ∃ i lo hi, vs = [.int i, .int lo, .int hi] ∧ lo ≤ i ∧ i ≤ hi ∧ Q (.bl true) H
theorem sc_is_between : FnScope ["value", "low", "high"] ["value", "low", "high"] (defScope (top 16)) := ⟨rfl, rfl, rfl, by decide +kernel, rfl, by decide +kernel, by decide +kernel⟩
theorem has_is_between (D : Dat K mg) : Has P w K mg base CX0 "is_between" 2 ["value", "low", "high"] spIsBetween := by
  refine has_mk D.is_between sc_is_between (fun vs H Q E h => ?_) (fun _ _ _ _ _ _ us hl => match us, hl with | [_, _, _], _ => rfl) (fun f cdv A outer s H vs Q E hr h => ?_)
  · obtain ⟨i, lo, hi, rfl, _⟩ := h
    rfl
  · obtain ⟨i, lo, hi, rfl, h1, h2, k⟩ := h
    refine ⟨_, pss_one (ps_ret (pe_and (pe_f (has_is_integer D) hr rfl (pa_cons (pv 0) pa_nil)) (pe_one (pe_chain op_le op_le (pv 1) (pv 0) (pv 2))))), ?_⟩
    refine ⟨_, rfl, i, rfl, true, rfl, iteT ⟨_, rfl, _, rfl, _, _, rfl, rfl, _, rfl, ?_⟩⟩
    refine iteDT h1 ⟨_, rfl, _, _, rfl, rfl, ?_⟩
    show Q (.bl (decide (i ≤ hi))) H
    rw [bl_t h2]
    exact k
def spGcd : Sp := fun vs H Q _ => ∃ a b : Int, vs = [.int a, .int b] ∧ 0 ≤ a ∧ 0 ≤ b ∧ Q (.int (Int.gcd a b : Nat)) H
theorem sc_common_divisor : FnScope ["one", "other"] ["one", "other"] (defScope (top 18)) := ⟨rfl, rfl, rfl, by decide +kernel, rfl, by decide +kernel, by decide +kernel⟩
theorem has_common_divisor (D : Dat K mg) : Has P w K mg base CX0 "common_divisor" 1 ["one", "other"] spGcd := by
  refine has_mk D.common_divisor sc_common_divisor (fun vs H Q E h => ?_) (fun _ _ _ _ _ _ us hl => match us, hl with | [_, _], _ => rfl) (fun f cdv A outer s H vs Q E hr h => ?_)
  · obtain ⟨a, b, rfl, _⟩ := h
    rfl
  · obtain ⟨a, b, rfl, h1, h2, k⟩ := h
    refine ⟨_, pss_cons (ps_while PassesOwn.never (pt_cmpR op_ne (pv 1) pe_int (nomark _))
      (pss_one (ps_par (i := 0) (j := 1) rfl sc_common_divisor.nd rfl rfl (by decide) rfl rfl (pa_cons (pv 1) (pa_cons (pe_op op_modN (pv 0) (pv 1)) pa_nil)) (by rfl)))) (pss_one (ps_ret (pv 0))), ?_⟩
    refine while_by (fun σ H' => ∃ x y : Int, σ = [some (.int x), some (.int y)] ∧ H' = H ∧ 0 ≤ x ∧ 0 ≤ y ∧ Int.gcd x y = Int.gcd a b) (fun σ _ => match σ with | [_, some (.int y)] => y.toNat | _ => 0) ⟨a, b, rfl, rfl, h1, h2, rfl⟩ ?_
      (fun σ H Q Q' hm q => ?_)
    · rintro σ H' ⟨x, y, rfl, rfl, hx, hy, hg⟩
      refine ⟨_, rfl, rfl, _, rfl, ?_⟩
      by_cases hy0 : y = 0
      · subst hy0
        refine iteNS rfl ⟨_, rfl, ?_⟩
        rw [← hg, gcd_end hx] at k
        exact k
      · refine iteNN (fun z => hy0 (by injection z)) ⟨_, rfl, _, rfl, _, rfl, _, _, rfl, rfl, hy0, _, _, rfl, ⟨y, x % y, ?_, rfl, hy, Int.emod_nonneg _ hy0, ?_⟩, ?_⟩
        · rw [← Int.fmod_eq_emod_of_nonneg x hy] <;> rfl
        · rw [gcd_turn (by omega) hx, hg]
        · show (x.fmod y).toNat < y.toNat
          rw [Int.fmod_eq_emod_of_nonneg x hy]
          have := Int.emod_lt_of_pos x (show 0 < y by omega)
          omega
    · obtain ⟨v, e, f, c, hc, q⟩ := q
      exact ⟨v, e, f, c, hc, hm _ _ q⟩
def spFraction (K : PySem.W.Frag) : Sp := fun vs H Q _ => ∃ a b : Int, vs = [.int a, .int b] ∧ 0 ≤ a ∧ 0 < b ∧ b < 2 ^ 200 ∧ RetT K H (prV (red a b)) Q
theorem sc_fraction : FnScope ["top", "bottom", "common"] ["top", "bottom"] (defScope (top 19)) := ⟨rfl, rfl, rfl, by decide +kernel, rfl, by decide +kernel, by decide +kernel⟩
theorem has_fraction (D : Dat K mg) : Has P w K mg base CX0 "fraction" 2 ["top", "bottom"] (spFraction K) := by
  refine has_mk D.fraction sc_fraction (fun vs H Q E h => ?_) (fun _ _ _ _ _ _ us hl => match us, hl with | [_, _], _ => rfl) (fun f cdv A outer s H vs Q E hr h => ?_)
  · obtain ⟨a, b, rfl, _⟩ := h
    rfl
  · obtain ⟨a, b, rfl, h1, h2, h3, k⟩ := h
    refine ⟨_, pss_cons (ps_set (i := 2) sc_fraction.nd rfl (Or.inl rfl) (pe_f (has_common_divisor D) hr rfl (pa_cons (pe_callB call_abs (by rfl) D.abs boot_abs (pa_cons (pv 0) pa_nil)) (pa_cons (pe_callB call_abs (by rfl) D.abs boot_abs (pa_cons (pv 1) pa_nil)) pa_nil))))
      (pss_cons (ps_set (i := 2) sc_fraction.nd rfl (Or.inl rfl) (pe_ifExp (pt_cmpR op_gt (pv 1) pe_int (nomark _)) (pv 2) (pe_un un_neg (pv 2))))
      (pss_one (ps_ret (pe_tup (pa_cons (pe_op op_fdivW (pv 0) (pv 2)) (pa_cons (pe_op op_fdivW (pv 1) (pv 2)) pa_nil)))))), ?_⟩
    have e1 : (if a < 0 then -a else a) = a := if_neg (by omega)
    have e2 : (if b < 0 then -b else b) = b := if_neg (by omega)
    have hg := gcd_pos (a := a) h2
    have gb : (Int.gcd a b : Int) ≤ b := Int.le_of_dvd h2 (Int.gcd_dvd_right a b)
    have hw : CDivW 0 (Int.gcd a b : Int) := wide_div hg (wide_le (Int.le_of_lt hg) gb (a := 200) (by omega)) (by decide) (by decide)
    refine ⟨_, rfl, a, rfl, _, rfl, b, rfl, (if a < 0 then -a else a), (if b < 0 then -b else b), rfl, by omega, by omega, ?_⟩
    rw [e1, e2]
    refine ⟨_, rfl, _, _, rfl, rfl, _, rfl, iteDT (by omega) ⟨_, rfl, ?_⟩⟩
    refine ⟨_, rfl, _, rfl, _, _, rfl, rfl, hw, _, rfl, _, rfl, _, _, rfl, rfl, hw, (by show 2 ≤ sizeLine; decide), ?_⟩
    exact k.new (Same.refl H)
def Ok64 (x : Int × Int) : Prop := 0 ≤ x.1 ∧ x.1 < 2 ^ 64 ∧ 0 < x.2 ∧ x.2 < 2 ^ 64
theorem mul128 {a b : Int} (ha : 0 < a) (ha' : a < 2 ^ 64) (hb : 0 < b) (hb' : b < 2 ^ 64) : 0 < a * b ∧ a * b < 2 ^ 200 := by
  have h1 := Int.mul_pos ha hb
  have h2 : a * b ≤ 2 ^ 64 * 2 ^ 64 := Int.mul_le_mul (Int.le_of_lt ha') (Int.le_of_lt hb') (by omega) (by decide)
  exact ⟨h1, Int.lt_of_le_of_lt h2 (by decide)⟩
def sp2 (K : PySem.W.Frag) (f : Int × Int → Int × Int → Int × Int) (C : Int × Int → Int × Int → Prop) : Sp := fun vs H Q _ => ∃ (a b : Addr) (x y : Int × Int), vs = [.ref a, .ref b] ∧ SqT K H a (prV x) ∧ SqT K H b (prV y) ∧ Ok64 x ∧ Ok64 y ∧ C x y ∧ RetT K H (prV (f x y)) Q
def plusP (x y : Int × Int) : Int × Int := red (x.1 * y.2 + y.1 * x.2) (x.2 * y.2)
def timesP (x y : Int × Int) : Int × Int := red (x.1 * y.1) (x.2 * y.2)
def overP (x y : Int × Int) : Int × Int := red (x.1 * y.2) (x.2 * y.1)
theorem sc_plus : FnScope ["one", "other"] ["one", "other"] (defScope (top 20)) := ⟨rfl, rfl, rfl, by decide +kernel, rfl, by decide +kernel, by decide +kernel⟩
theorem sc_times : FnScope ["one", "other"] ["one", "other"] (defScope (top 21)) := ⟨rfl, rfl, rfl, by decide +kernel, rfl, by decide +kernel, by decide +kernel⟩
theorem sc_over : FnScope ["one", "other"] ["one", "other"] (defScope (top 22)) := ⟨rfl, rfl, rfl, by decide +kernel, rfl, by decide +kernel, by decide +kernel⟩
theorem has_plus (D : Dat K mg) : Has P w K mg base CX0 "plus" 3 ["one", "other"] (sp2 K plusP fun _ _ => True) := by
  refine has_mk D.plus sc_plus (fun vs H Q E h => ?_) (fun _ _ _ _ _ _ us hl => match us, hl with | [_, _], _ => rfl) (fun f cdv A outer s H vs Q E hr h => ?_)
  · obtain ⟨a, b, x, y, rfl, _⟩ := h
    rfl
  · obtain ⟨a, b, x, y, rfl, ha, hb, ⟨x1, x2, x3, x4⟩, ⟨y1, y2, y3, y4⟩, _, k⟩ := h
    refine ⟨_, pss_one (ps_ret (pe_f (has_fraction D) hr rfl
      (pa_cons (pe_op op_add (pe_op op_mul (pe_ix ix_tup (pv 0) pe_int (fun _ _ => rfl)) (pe_ix ix_tup (pv 1) pe_int (fun _ _ => rfl))) (pe_op op_mul (pe_ix ix_tup (pv 1) pe_int (fun _ _ => rfl)) (pe_ix ix_tup (pv 0) pe_int (fun _ _ => rfl))))
      (pa_cons (pe_op op_mul (pe_ix ix_tup (pv 0) pe_int (fun _ _ => rfl)) (pe_ix ix_tup (pv 1) pe_int (fun _ _ => rfl))) pa_nil)))), ?_⟩
    obtain ⟨m1, m2⟩ := mul128 x3 x4 y3 y4
    have n1 := Int.mul_nonneg x1 (Int.le_of_lt y3)
    have n2 := Int.mul_nonneg y1 (Int.le_of_lt x3)
    refine ⟨_, rfl, _, _, _, .int x.1, rfl, rfl, ha, rfl, _, rfl, _, _, _, .int y.2, rfl, rfl, hb, rfl, _, _, rfl, rfl, .inr ⟨by omega, by omega⟩, ?_⟩
    refine ⟨_, rfl, _, _, _, .int y.1, rfl, rfl, hb, rfl, _, rfl, _, _, _, .int x.2, rfl, rfl, ha, rfl, _, _, rfl, rfl, .inr ⟨by omega, by omega⟩, _, _, rfl, rfl, ?_⟩
    refine ⟨_, rfl, _, _, _, .int x.2, rfl, rfl, ha, rfl, _, rfl, _, _, _, .int y.2, rfl, rfl, hb, rfl, _, _, rfl, rfl, .inr ⟨by omega, by omega⟩, _, _, rfl, by omega, m1, m2, k⟩
theorem has_times (D : Dat K mg) : Has P w K mg base CX0 "times" 3 ["one", "other"] (sp2 K timesP fun _ _ => True) := by
  refine has_mk D.times sc_times (fun vs H Q E h => ?_) (fun _ _ _ _ _ _ us hl => match us, hl with | [_, _], _ => rfl) (fun f cdv A outer s H vs Q E hr h => ?_)
  · obtain ⟨a, b, x, y, rfl, _⟩ := h
    rfl
  · obtain ⟨a, b, x, y, rfl, ha, hb, ⟨x1, x2, x3, x4⟩, ⟨y1, y2, y3, y4⟩, _, k⟩ := h
    refine ⟨_, pss_one (ps_ret (pe_f (has_fraction D) hr rfl
      (pa_cons (pe_op op_mul (pe_ix ix_tup (pv 0) pe_int (fun _ _ => rfl)) (pe_ix ix_tup (pv 1) pe_int (fun _ _ => rfl)))
      (pa_cons (pe_op op_mul (pe_ix ix_tup (pv 0) pe_int (fun _ _ => rfl)) (pe_ix ix_tup (pv 1) pe_int (fun _ _ => rfl))) pa_nil)))), ?_⟩
    obtain ⟨m1, m2⟩ := mul128 x3 x4 y3 y4
    have n1 := Int.mul_nonneg x1 y1
    refine ⟨_, rfl, _, _, _, .int x.1, rfl, rfl, ha, rfl, _, rfl, _, _, _, .int y.1, rfl, rfl, hb, rfl, _, _, rfl, rfl, .inr ⟨by omega, by omega⟩, ?_⟩
    refine ⟨_, rfl, _, _, _, .int x.2, rfl, rfl, ha, rfl, _, rfl, _, _, _, .int y.2, rfl, rfl, hb, rfl, _, _, rfl, rfl, .inr ⟨by omega, by omega⟩, _, _, rfl, n1, m1, m2, k⟩
theorem has_over (D : Dat K mg) : Has P w K mg base CX0 "over" 3 ["one", "other"] (sp2 K overP fun _ y => 0 < y.1) := by
  refine has_mk D.over sc_over (fun vs H Q E h => ?_) (fun _ _ _ _ _ _ us hl => match us, hl with | [_, _], _ => rfl) (fun f cdv A outer s H vs Q E hr h => ?_)
  · obtain ⟨a, b, x, y, rfl, _⟩ := h
    rfl
  · obtain ⟨a, b, x, y, rfl, ha, hb, ⟨x1, x2, x3, x4⟩, ⟨y1, y2, y3, y4⟩, y5, k⟩ := h
    refine ⟨_, pss_one (ps_ret (pe_f (has_fraction D) hr rfl
      (pa_cons (pe_op op_mul (pe_ix ix_tup (pv 0) pe_int (fun _ _ => rfl)) (pe_ix ix_tup (pv 1) pe_int (fun _ _ => rfl)))
      (pa_cons (pe_op op_mul (pe_ix ix_tup (pv 0) pe_int (fun _ _ => rfl)) (pe_ix ix_tup (pv 1) pe_int (fun _ _ => rfl))) pa_nil)))), ?_⟩
    obtain ⟨m1, m2⟩ := mul128 x3 x4 y5 y2
    have n1 := Int.mul_nonneg x1 (Int.le_of_lt y3)
    refine ⟨_, rfl, _, _, _, .int x.1, rfl, rfl, ha, rfl, _, rfl, _, _, _, .int y.2, rfl, rfl, hb, rfl, _, _, rfl, rfl, .inr ⟨by omega, by omega⟩, ?_⟩
    refine ⟨_, rfl, _, _, _, .int x.2, rfl, rfl, ha, rfl, _, rfl, _, _, _, .int y.1, rfl, rfl, hb, rfl, _, _, rfl, rfl, .inr ⟨by omega, by omega⟩, _, _, rfl, n1, m1, m2, k⟩
end
end Tk
set_option maxHeartbeats 4000000
namespace Tk
open PySem PySem.Spec PyProof.Rows L2
/-- two lists side by side -/
inductive Side {α β : Type} (F : α → β → Prop) : List α → List β → Prop where
  | nil : Side F [] []
  | cons {a : α} {b : β} {l : List α} {m : List β} : F a b → Side F l m → Side F (a :: l) (b :: m)
theorem Side.imp {α β : Type} {F G : α → β → Prop} (f : ∀ a b, F a b → G a b) : ∀ {l : List α} {m : List β}, Side F l m → Side G l m
  | _, _, .nil => .nil
  | _, _, .cons h t => .cons (f _ _ h) (t.imp f)
theorem Side.snoc {α β : Type} {F : α → β → Prop} : ∀ {l : List α} {m : List β} {a : α} {b : β}, Side F l m → F a b → Side F (l ++ [a]) (m ++ [b])
  | _, _, _, _, .nil, h => .cons h .nil
  | _, _, _, _, .cons h t, h' => .cons h (t.snoc h')
theorem Side.len {α β : Type} {F : α → β → Prop} : ∀ {l : List α} {m : List β}, Side F l m → l.length = m.length
  | _, _, .nil => rfl
  | _, _, .cons _ t => congrArg Nat.succ t.len
theorem Side.get {α β : Type} {F : α → β → Prop} : ∀ {l : List α} {m : List β}, Side F l m → ∀ {i : Nat} {a : α}, l[i]? = some a → ∃ b, m[i]? = some b ∧ F a b
  | _, _, .nil, i, a, e => by simp at e
  | _, _, .cons h t, 0, a, e => by
    simp at e
    subst e
    exact ⟨_, rfl, h⟩
  | _, _, .cons h t, i + 1, a, e => by
    obtain ⟨b, h1, h2⟩ := t.get (i := i) (a := a) (by simpa using e)
    exact ⟨b, by simpa using h1, h2⟩
theorem map_get {α β : Type} {f : α → β} {l : List α} {i : Nat} {y : β} (h : (l.map f)[i]? = some y) : ∃ x, l[i]? = some x ∧ y = f x := by
  rw [List.getElem?_map] at h
  cases e : l[i]? with
  | none =>
    rw [e] at h
    cases h
  | some x =>
    rw [e] at h
    exact ⟨x, rfl, (Option.some.inj h).symm⟩
theorem take_snoc {α : Type} {l : List α} {i : Nat} {x : α} (h : l[i]? = some x) : l.take (i + 1) = l.take i ++ [x] := by
  rw [List.take_succ, h] <;> rfl
theorem take_all {α : Type} {l : List α} {n : Nat} (h : n = l.length) : l.take n = l := by
  rw [h]
  exact List.take_length
theorem sum_app1 {l : List Int} {z : Int} : (l ++ [z]).sum = l.sum + z := by simp
theorem sum_range {c : Int} (hc : 0 ≤ c) : ∀ {l : List Int}, (∀ z ∈ l, 0 ≤ z ∧ z ≤ c) → 0 ≤ l.sum ∧ l.sum ≤ c * (l.length : Int)
  | [], _ => by simp
  | z :: r, h => by
    have h1 := h z List.mem_cons_self
    have h2 := sum_range hc (l := r) fun y hy => h y (List.mem_cons_of_mem _ hy)
    have e : c * (((z :: r).length : Nat) : Int) = c * (r.length : Int) + c := by
      rw [List.length_cons, show ((r.length + 1 : Nat) : Int) = (r.length : Int) + 1 by omega, Int.mul_add, Int.mul_one]
    rw [List.sum_cons, e]
    omega
theorem ok64_red {a b : Int} (ha : 0 ≤ a) (ha' : a < 2 ^ 64) (hb : 0 < b) (hb' : b < 2 ^ 64) : Ok64 (red a b) :=
  ⟨red_fst_nn ha hb, Int.lt_of_le_of_lt (red_fst_le ha hb) ha', red_snd_pos hb, Int.lt_of_le_of_lt (red_snd_le hb) hb'⟩
theorem plus_red {S w T B : Int} (hB : 0 < B) : plusP (red (S * T) B) (red (w * T) B) = red ((S + w) * T) B := by
  unfold plusP
  rw [red_add hB hB]
  refine red_same (Int.mul_pos hB hB) hB ?_
  grind
section
variable {P : Program} {w : World} {K : PySem.W.Frag} {mg : Str → Option Value} {base : Heap}
/-! ### total -/
def spTotal (K : PySem.W.Frag) : Sp := fun vs H Q _ => ∃ (a : Addr) (rs : List Addr) (ws : List Int) (T B : Int), vs = [.ref a] ∧ SqL K H a (rs.map V.ref) ∧ Side (fun r w => SqT K H r (prV (red (w * T) B))) rs ws ∧
  0 < T ∧ T ≤ 46656 ∧ 0 < B ∧ B ≤ 46656 ∧ (∀ w ∈ ws, 0 ≤ w ∧ w ≤ 1000000) ∧ ws.length ≤ 8 ∧ RetT K H (prV (red (ws.sum * T) B)) Q
theorem sc_total : FnScope ["values", "found", "value"] ["values"] (defScope (top 23)) := ⟨rfl, rfl, rfl, by decide +kernel, rfl, by decide +kernel, by decide +kernel⟩
theorem has_total (D : Dat K mg) : Has P w K mg base CX0 "total" 4 ["values"] (spTotal K) := by
  refine has_mk D.total sc_total (fun vs H Q E h => ?_) (fun _ _ _ _ _ _ us hl => match us, hl with | [_], _ => rfl) (fun f cdv A outer s H vs Q E hr h => ?_)
  · obtain ⟨a, rs, ws, T, B, rfl, _⟩ := h
    rfl
  · obtain ⟨a, rs, ws, T, B, rfl, hL, hS, T0, T1, B0, B1, hw, hl, k⟩ := h
    refine ⟨_, pss_cons (ps_set (i := 1) sc_total.nd rfl (Or.inl rfl) (pe_tup (pa_cons pe_int (pa_cons pe_int pa_nil))))
      (pss_cons (ps_for PassesOwn.never rfl (pi_list (pv 0)) (pg_name (i := 2) sc_total.nd rfl (Or.inl rfl))
        (pss_one (ps_set (i := 1) sc_total.nd rfl (Or.inl rfl) (pe_f (has_plus D) hr rfl (pa_cons (pv 1) (pa_cons (pv 2) pa_nil))))))
      (pss_one (ps_ret (pv 1)))), ?_⟩
    have bnd : ∀ i, 0 ≤ (ws.take i).sum ∧ (ws.take i).sum ≤ 8000000 := fun i => by
      have q := sum_range (c := 1000000) (by decide) (l := ws.take i) fun z hz => hw z (List.mem_of_mem_take hz)
      have l1 : (ws.take i).length ≤ 8 := by rw [List.length_take]; omega
      have : (1000000 : Int) * ((ws.take i).length : Int) ≤ 1000000 * 8 := Int.mul_le_mul_of_nonneg_left (by omega) (by decide)
      omega
    have okS : ∀ z : Int, 0 ≤ z → z ≤ 8000000 → Ok64 (red (z * T) B) := fun z z0 z1 => by
      have a1 : z * T ≤ 8000000 * 46656 := Int.mul_le_mul z1 T1 (by omega) (by decide)
      exact ok64_red (Int.mul_nonneg z0 (by omega)) (by omega) B0 (by omega)
    refine ⟨by show 2 ≤ sizeLine; decide, fun p0 n0 => ?_⟩
    have e0 : Same H (upd H p0 (.tup [.int 0, .int 1])) := same_upd n0
    refine ⟨_, rfl, a, rfl, ⟨_, e0.seq hL⟩, for_list (K := K) (a := a) (xs := rs.map V.ref) (fun i σ H' => ∃ (p : Addr) (v : Option V), σ = [some (.ref a), some (.ref p), v] ∧ Same H H' ∧ SqT K H' p (prV (red ((ws.take i).sum * T) B)))
      ⟨p0, none, rfl, e0, ?_⟩ (fun i σ H' _ ⟨_, _, _, s1, _⟩ => s1.seq hL) ?_ ?_⟩
    · have : prV (red ((ws.take 0).sum * T) B) = [.int 0, .int 1] := by
        rw [show (ws.take 0).sum = 0 from rfl, Int.zero_mul, red_zero B0] <;> rfl
      rw [this]
      exact SqT.of upd_same
    · rintro i x σ H' hi ⟨p, v, rfl, s1, hp⟩
      obtain ⟨r, hr1, rfl⟩ := map_get hi
      obtain ⟨z, hz, hq⟩ := hS.get hr1
      have zm := hw z (List.mem_of_getElem? hz)
      refine ⟨_, rfl, _, rfl, p, r, red ((ws.take i).sum * T) B, red (z * T) B, rfl, hp, Same.seqT s1 hq, okS _ (bnd i).1 (bnd i).2, okS _ zm.1 (by omega), trivial, fun p' H2 s2 h2 => ?_⟩
      refine ⟨p', some (.ref r), rfl, s1.trans s2, ?_⟩
      rw [plus_red B0] at h2
      rw [take_snoc hz, sum_app1]
      exact h2
    · rintro σ H' ⟨p, v, rfl, s1, hp⟩
      rw [take_all (by rw [List.length_map, hS.len])] at hp
      exact ⟨_, rfl, k p H' s1 hp⟩
/-! ### is_ascending -/
def Asc (ns : List Int) : Prop := ns.Pairwise (· < ·)
def spAscending (K : PySem.W.Frag) : Sp := fun vs H Q _ => ∃ (a : Addr) (ns : List Int), vs = [.ref a] ∧ IT K H a ns ∧ ns.length ≤ 1000 ∧ Asc ns ∧ ∀ H', Same H H' → Q (.bl true) H'
theorem sc_is_ascending : FnScope ["values", "index"] ["values"] (defScope (top 24)) := ⟨rfl, rfl, rfl, by decide +kernel, rfl, by decide +kernel, by decide +kernel⟩
theorem asc_at {ns : List Int} (h : Asc ns) {i : Nat} {x y : Int} (hx : ns[i]? = some x) (hy : ns[i + 1]? = some y) : x < y := by
  obtain ⟨h1, e1⟩ := List.getElem?_eq_some_iff.mp hx
  obtain ⟨h2, e2⟩ := List.getElem?_eq_some_iff.mp hy
  have := (List.pairwise_iff_getElem.mp h) i (i + 1) h1 h2 (by omega)
  rw [e1, e2] at this
  exact this
theorem trues_all (n : Nat) : (List.replicate n true).all id = true := by
  induction n with
  | zero => rfl
  | succ n ih => rw [List.replicate_succ, List.all_cons, ih] <;> rfl
theorem rep_snoc {α : Type} (n : Nat) (x : α) : List.replicate (n + 1) x = List.replicate n x ++ [x] := List.replicate_succ'
theorem atI_of {ns : List Int} {z : Int} {i : Nat} {x : Int} (e : z = (i : Int)) (h : ns[i]? = some x) : atI (ns.map V.int) z = some (.int x) := by
  rw [e]
  exact atI_nat (by rw [List.getElem?_map, h] <;> rfl)
theorem has_is_ascending (D : Dat K mg) : Has P w K mg base CX0 "is_ascending" 1 ["values"] (spAscending K) := by
  refine has_mk D.is_ascending sc_is_ascending (fun vs H Q E h => ?_) (fun _ _ _ _ _ _ us hl => match us, hl with | [_], _ => rfl) (fun f cdv A outer s H vs Q E hr h => ?_)
  · obtain ⟨a, ns, rfl, _⟩ := h
    rfl
  · obtain ⟨a, ns, rfl, hT, hl, hA, k⟩ := h
    refine ⟨_, pss_one (ps_ret (pe_callB (cr_all rfl) (by rfl) D.all boot_all (pa_cons
      (pe_lc (own := [("index", 1)]) (g := gName 1) (tt := tYes) rfl sc_is_ascending.nd (pi_range2 (by rfl) D.range (pa_cons pe_int (pa_cons (pe_callB call_len (by rfl) D.len boot_len (pa_cons (pv 0) pa_nil)) pa_nil)))
        (blkOk_by (own := [("index", 1)]) (N := ["values", "index"]) (sc := defScope (top 24)) (by decide +kernel)) (fun _ _ _ _ _ => pg_name (i := 1) sc_is_ascending.nd rfl (Or.inl rfl)) (fun _ _ _ _ _ => pts_nil)
        (fun _ _ _ _ _ => pe_cmpR op_lt (pe_ix (ixT K) (pv 0) (pe_op op_sub (pv 1) pe_int) (fun _ _ => rfl)) (pe_ix (ixT K) (pv 0) (pv 1) (fun _ _ => rfl)) (nomark _))) pa_nil))), ?_⟩
    refine ⟨_, rfl, _, ns.length, rfl, .inr ⟨_, hT, (List.length_map _).symm⟩, 1, ns.length, rfl, ⟨by decide, by decide, by omega, by omega⟩, fun D0 n0 => ?_⟩
    refine lc_range (lo := 1) (n := ((ns.length : Int) - 1).toNat) (fun i H' => Same H H' ∧ H' D0 = some (.lst ((List.replicate i true).map V.bl))) ⟨same_upd n0, upd_same⟩ ?_ ?_
    · rintro i H' hi ⟨s1, h1⟩
      obtain ⟨x, hx⟩ : ∃ x, ns[i]? = some x := ⟨_, List.getElem?_eq_getElem (by omega)⟩
      obtain ⟨y, hy⟩ : ∃ y, ns[i + 1]? = some y := ⟨_, List.getElem?_eq_getElem (by omega)⟩
      refine ⟨rfl, _, rfl, _, rfl, _, _, rfl, rfl, _, _, _, .int x, rfl, rfl, Same.seqT s1 hT, atI_of (i := i) (by omega) hx, ?_⟩
      refine ⟨_, rfl, _, rfl, _, _, _, .int y, rfl, rfl, Same.seqT s1 hT, atI_of (i := i + 1) (by omega) hy, _, _, rfl, rfl, ?_⟩
      refine ⟨_, h1, by rw [List.length_map, List.length_replicate]; exact small1000 (by omega), fun b o e => ?_, ?_⟩
      · rw [upd_ne (ne_of_none e n0)]
        exact s1 b o e
      · rw [upd_same, rep_snoc, List.map_append]
        show some (HO.lst (_ ++ [V.bl (decide (x < y))])) = _
        rw [bl_t (asc_at hA hx hy)]
        rfl
    · rintro H' ⟨s1, h1⟩
      refine ⟨D0, List.replicate ((ns.length : Int) - 1).toNat true, rfl, SqL.of h1, ?_⟩
      rw [trues_all]
      exact k H' s1
end
end Tk
set_option maxHeartbeats 4000000
namespace Tk
open PySem PySem.Spec PyProof.Rows L2
/-! ### data -/
def dI (ns : List Int) : List PyData := ns.map PyData.int
def dR (rows : List (List Int)) : List PyData := rows.map fun r => PyData.tuple (dI r)
theorem dI_lay : ∀ ns : List Int, PyData.canLayAll0 (dI ns) = true ∧ PyData.depthAll (dI ns) = 0
  | [] => by simp [dI, PyData.canLayAll0, PyData.depthAll]
  | n :: r => by
    obtain ⟨h1, h2⟩ := dI_lay r
    unfold dI at h1 h2 ⊢
    simp [PyData.canLayAll0, PyData.depthAll, PyData.canLay0, PyData.depth, h1, h2]
theorem dR_lay : ∀ rows : List (List Int), PyData.canLayAll0 (dR rows) = true ∧ PyData.depthAll (dR rows) ≤ 1
  | [] => by simp [dR, PyData.canLayAll0, PyData.depthAll]
  | n :: r => by
    obtain ⟨h1, h2⟩ := dR_lay r
    obtain ⟨h3, h4⟩ := dI_lay n
    unfold dR at h1 h2 ⊢
    simp only [List.map_cons, PyData.canLayAll0, PyData.depthAll, PyData.canLay0, PyData.depth, h1, h3, h4]
    refine ⟨by simp, ?_⟩
    omega
theorem sh_tI (ns : List Int) : SeqAt.shaped (.tuple (dI ns)) = true := by
  obtain ⟨h1, h2⟩ := dI_lay ns
  simp [SeqAt.shaped, PyData.canLay0, PyData.depth, h1, h2]
theorem sh_lI (ns : List Int) : SeqAt.shaped (.list (dI ns)) = true := by
  obtain ⟨h1, h2⟩ := dI_lay ns
  simp [SeqAt.shaped, PyData.canLay0, PyData.depth, h1, h2]
theorem sh_tR (rows : List (List Int)) : SeqAt.shaped (.tuple (dR rows)) = true := by
  obtain ⟨h1, h2⟩ := dR_lay rows
  simp [SeqAt.shaped, PyData.canLay0, PyData.depth, h1]
  omega
theorem sh_lR (rows : List (List Int)) : SeqAt.shaped (.list (dR rows)) = true := by
  obtain ⟨h1, h2⟩ := dR_lay rows
  simp [SeqAt.shaped, PyData.canLay0, PyData.depth, h1]
  omega
theorem eqv_t0 (ds : List PyData) : PyData.eqv (.tuple ds) (.tuple []) = ds.isEmpty := by
  cases ds <;> simp [PyData.eqv, PyData.eqvAll]
theorem eqv_l0 (ds : List PyData) : PyData.eqv (.list ds) (.list []) = ds.isEmpty := by
  cases ds <;> simp [PyData.eqv, PyData.eqvAll]
section
variable {K : PySem.W.Frag} {H : Hp}
theorem dpI : ∀ ns : List Int, DpAll K H (ns.map V.int) (dI ns)
  | [] => .nil
  | n :: r => .cons (.int n) (dpI r)
theorem dpR : ∀ {rs : List Addr} {rows : List (List Int)}, RowsIn K H rs rows → DpAll K H (rs.map V.ref) (dR rows)
  | _, _, .nil => .nil
  | _, _, .cons h t => .cons (.tup h (dpI _)) (dpR t)
theorem dp_tI {a : Addr} {ns : List Int} (h : IT K H a ns) : Dp K H (.ref a) (.tuple (dI ns)) := .tup h (dpI ns)
theorem dp_lI {a : Addr} {ns : List Int} (h : IL K H a ns) : Dp K H (.ref a) (.list (dI ns)) := .lst h (dpI ns)
theorem dp_t0 {p : Addr} (h : SqT K H p []) : Dp K H (.ref p) (.tuple []) := .tup h .nil
theorem dp_l0 {p : Addr} (h : SqL K H p []) : Dp K H (.ref p) (.list []) := .lst h .nil
theorem tyx_tup {a : Addr} {xs : List V} (h : SqT K H a xs) : TyX K H (.ref a) (.type "tuple") := by
  rcases h with (h | ⟨o, h⟩) | ⟨o, its, n, h, hc, _⟩
  · exact .base (.tup h)
  · exact .fTuple h
  · exact .kTuple h hc
end
theorem sh_t0 : SeqAt.shaped (.tuple []) = true := by decide +kernel
theorem sh_l0 : SeqAt.shaped (.list []) = true := by decide +kernel
section
variable {P : Program} {w : World} {K : PySem.W.Frag} {mg : Str → Option Value} {base : Heap}
/-! ### check_weights -/
def spWeights (K : PySem.W.Frag) : Sp := fun vs H Q _ => ∃ (a : Addr) (ws : List Int), vs = [.ref a] ∧ IT K H a ws ∧ 2 ≤ ws.length ∧ ws.length ≤ 8 ∧ (∀ z ∈ ws, 1 ≤ z ∧ z ≤ 1000000) ∧ ∀ H', Same H H' → Q .non H'
theorem sc_check_weights : FnScope ["values", "index", "value"] ["values"] (defScope (top 31)) := ⟨rfl, rfl, rfl, by decide +kernel, rfl, by decide +kernel, by decide +kernel⟩
theorem has_check_weights (D : Dat K mg) : Has P w K mg base CX0 "check_weights" 3 ["values"] (spWeights K) := by
  refine has_mk D.check_weights sc_check_weights (fun vs H Q E h => ?_) (fun _ _ _ _ _ _ us hl => match us, hl with | [_], _ => rfl) (fun f cdv A outer s H vs Q E hr h => ?_)
  · obtain ⟨a, ws, rfl, _⟩ := h
    rfl
  · obtain ⟨a, ws, rfl, hT, l2, l8, hw, k⟩ := h
    obtain ⟨t1, g1⟩ := D.LEAST_CASES
    obtain ⟨t2, g2⟩ := D.MOST_CASES
    obtain ⟨t3, g3⟩ := D.MOST_WEIGHT
    refine ⟨_, pss_cons (ps_if (PW.pt (pw_or (pt_not (pt_val (pe_callB (isiK K) (by rfl) D.isinstance boot_isinstance (pa_cons (pv 0) (pa_cons (pe_bltn (v := .ty "tuple") (by rfl) D.tuple boot_tuple rfl) pa_nil)))))
        (pw_or1 (pt_cmpR op_lt (pe_callB (lenK K) (by rfl) D.len boot_len (pa_cons (pv 0) pa_nil)) (pe_glob (v := .int 2) rfl g1 ⟨_, rfl⟩) (nomark _))))) pss_never pss_nil)
      (pss_one (ps_for PassesOwn.never rfl (pi_enumT (by rfl) D.enumerate (pa_cons (pv 0) pa_nil)) (pg_tup rfl (pgs_cons (pg_name (i := 1) sc_check_weights.nd rfl (.inl rfl)) (pgs_cons (pg_name (i := 2) sc_check_weights.nd rfl (.inl rfl)) pgs_nil)))
        (pss_one (ps_if (PW.pt (pw_or (pt_cmpR op_eq (pv 1) (pe_glob (v := .int 8) rfl g2 ⟨_, rfl⟩) (nomark _))
          (pw_or1 (pt_not (pt_val (pe_f (has_is_between D) hr rfl (pa_cons (pv 2) (pa_cons pe_int (pa_cons (pe_glob (v := .int 1000000) rfl g3 ⟨_, rfl⟩) pa_nil))))))))) pss_never pss_nil)))), ?_⟩
    refine ⟨_, rfl, .ref a, .ty "tuple", _, _, true, rfl, .ty _, tyx_tup hT, kit_ty (by decide +kernel), true, rfl, iteF ?_⟩
    refine ⟨_, rfl, _, ws.length, rfl, .inr ⟨_, hT, (List.length_map _).symm⟩, _, _, rfl, rfl, _, rfl, iteDF (by omega) ?_⟩
    refine ⟨_, rfl, a, _, rfl, hT, for_it walk_enumT (fun i σ H' => ∃ v1 v2, σ = [some (.ref a), v1, v2] ∧ Same H H') ⟨none, none, rfl, Same.refl H⟩ (fun i σ H' _ ⟨_, _, _, s1⟩ => Same.seqT s1 hT) ?_ ?_⟩
    · rintro i y σ H1 H2 hi ⟨v1, v2, rfl, s1⟩ ⟨T, x, z, rfl, nT, rfl, hx, hz⟩
      cases hx
      obtain ⟨n, hn, rfl⟩ := map_get hz
      have wn := hw n (List.mem_of_getElem? hn)
      rw [List.length_map] at hi
      refine ⟨T, _, rfl, SqT.of upd_same, rfl, _, _, rfl, _, _, rfl, rfl, ?_⟩
      refine ⟨_, rfl, rfl, _, rfl, iteDF (fun z => by injection z with z; omega) ?_⟩
      refine ⟨_, rfl, n, 1, 1000000, rfl, wn.1, wn.2, true, rfl, iteF ?_⟩
      exact ⟨_, _, rfl, s1.trans (same_upd nT)⟩
    · rintro σ H1 ⟨v1, v2, rfl, s1⟩
      exact k H1 s1
/-! ### is_lot -/
/-- ascending, all of 0 .. m - 1 -/
def AscIn (m : Int) (ns : List Int) : Prop := Asc ns ∧ ∀ z ∈ ns, 0 ≤ z ∧ z < m
def spIsLot (K : PySem.W.Frag) : Sp := fun vs H Q _ => ∃ (a : Addr) (m : Int) (ns : List Int), vs = [.ref a, .int m] ∧ IT K H a ns ∧ ns.length ≤ 1000 ∧ AscIn m ns ∧ ∀ H', Same H H' → Q (.bl true) H'
theorem sc_is_lot : FnScope ["value", "many", "case"] ["value", "many"] (defScope (top 32)) := ⟨rfl, rfl, rfl, by decide +kernel, rfl, by decide +kernel, by decide +kernel⟩
theorem has_is_lot (D : Dat K mg) : Has P w K mg base CX0 "is_lot" 3 ["value", "many"] (spIsLot K) := by
  refine has_mk D.is_lot sc_is_lot (fun vs H Q E h => ?_) (fun _ _ _ _ _ _ us hl => match us, hl with | [_, _], _ => rfl) (fun f cdv A outer s H vs Q E hr h => ?_)
  · obtain ⟨a, m, ns, rfl, _⟩ := h
    rfl
  · obtain ⟨a, m, ns, rfl, hT, hl, hA, k⟩ := h
    refine ⟨_, pss_cons (ps_if (PW.pt (pw_or (pt_not (pt_val (pe_callB (isiK K) (by rfl) D.isinstance boot_isinstance (pa_cons (pv 0) (pa_cons (pe_bltn (v := .ty "tuple") (by rfl) D.tuple boot_tuple rfl) pa_nil)))))
        (pw_or1 (pt_not (pt_val (pe_callB (allK K rfl) (by rfl) D.all boot_all (pa_cons
          (pe_lc (own := [("case", 2)]) (g := gName 2) (tt := tYes) rfl sc_is_lot.nd (piT K (pv 0))
            (blkOk_by (own := [("case", 2)]) (N := ["value", "many", "case"]) (sc := defScope (top 32)) (by decide +kernel)) (fun _ _ _ _ _ => pg_name (i := 2) sc_is_lot.nd rfl (Or.inl rfl)) (fun _ _ _ _ _ => pts_nil)
            (fun _ _ _ _ _ => pe_f (has_is_between D) hr rfl (pa_cons (pv 2) (pa_cons pe_int (pa_cons (pe_op op_sub (pv 1) pe_int) pa_nil))))) pa_nil))))))) (pss_one (ps_ret pe_bl)) pss_nil)
      (pss_one (ps_ret (pe_f (has_is_ascending D) (hr.mono (by decide)) rfl (pa_cons (pv 0) pa_nil)))), ?_⟩
    refine ⟨_, rfl, .ref a, .ty "tuple", _, _, true, rfl, .ty _, tyx_tup hT, kit_ty (by decide +kernel), true, rfl, iteF ?_⟩
    refine ⟨_, rfl, a, rfl, ⟨_, hT⟩, fun D0 n0 => ?_⟩
    refine lc_tup (K := K) (a := a) (xs := ns.map V.int) (fun i H' => Same H H' ∧ H' D0 = some (.lst ((List.replicate i true).map V.bl))) ⟨same_upd n0, upd_same⟩ (fun i H' _ q => Same.seqT q.1 hT) ?_ ?_
    · rintro i y H' hy ⟨s1, h1⟩
      obtain ⟨n, hn, rfl⟩ := map_get hy
      have wn := hA.2 n (List.mem_of_getElem? hn)
      have hi : i < ns.length := (List.getElem?_eq_some_iff.mp hn).1
      refine ⟨rfl, _, rfl, _, rfl, _, _, rfl, rfl, n, 0, m - 1, rfl, wn.1, by omega, ?_⟩
      refine ⟨_, h1, by rw [List.length_map, List.length_replicate]; exact small1000 (by omega), fun b o e => ?_, ?_⟩
      · rw [upd_ne (ne_of_none e n0)]
        exact s1 b o e
      · rw [upd_same, rep_snoc, List.map_append]
        rfl
    · rintro H' ⟨s1, h1⟩
      refine ⟨D0, List.replicate (ns.map V.int).length true, rfl, SqL.of h1, true, by rw [trues_all], iteF ?_⟩
      exact ⟨_, rfl, a, ns, rfl, Same.seqT s1 hT, hl, hA.1, fun H2 s2 => k H2 (s1.trans s2)⟩
end
end Tk
set_option maxHeartbeats 4000000
namespace Tk
open PySem PySem.Spec PyProof.Rows L2
theorem ifF_of {b : Bool} {A B : Prop} (h : b = false) (q : B) : if b = true then A else B := by
  rw [h]
  exact iteF q
theorem ifT_of {b : Bool} {A B : Prop} (h : b = true) (q : A) : if b = true then A else B := by
  rw [h]
  exact iteT q
theorem asc_len {m : Int} : ∀ {ns : List Int} {lo : Int}, Asc ns → (∀ z ∈ ns, lo ≤ z ∧ z < m) → ns.length ≤ (m - lo).toNat
  | [], _, _, _ => Nat.zero_le _
  | x :: r, lo, h, hb => by
    obtain ⟨h1, h2⟩ := List.pairwise_cons.mp h
    have hx := hb x List.mem_cons_self
    have ih := asc_len (ns := r) (lo := x + 1) h2 fun z hz => ⟨by have := h1 z hz; omega, (hb z (List.mem_cons_of_mem _ hz)).2⟩
    rw [List.length_cons]
    omega
theorem AscIn.len {m : Int} {ns : List Int} (h : AscIn m ns) : ns.length ≤ m.toNat := by
  have := asc_len (lo := 0) h.1 h.2
  omega
theorem flat_ints (ns : List Int) : (ns.map V.int).all flatV = true := by
  rw [List.all_map]
  exact List.all_eq_true.mpr fun _ _ => rfl
theorem inV_int (k : Int) : ∀ ns : List Int, inV (.int k) (ns.map V.int) = inB k ns
  | [] => rfl
  | n :: r => by
    have ih := inV_int k r
    unfold inV inB at ih ⊢
    rw [List.map_cons, List.any_cons, ih]
    show (decide (n = k) || decide (k ∈ r)) = decide (k ∈ n :: r)
    by_cases h1 : n = k
    · subst h1
      simp
    · have h2 : ¬ k = n := fun z => h1 z.symm
      simp [h1, h2]
section
variable {P : Program} {w : World} {K : PySem.W.Frag} {mg : Str → Option Value} {base : Heap}
/-! ### check_sayings -/
def spSayings (K : PySem.W.Frag) : Sp := fun vs H Q _ => ∃ (a : Addr) (m : Int) (rows : List (List Int)), vs = [.ref a, .int m] ∧ RowsT K H a rows ∧ 0 ≤ m ∧ m ≤ 8 ∧ rows ≠ [] ∧ rows.length ≤ 16 ∧ (∀ r ∈ rows, AscIn m r ∧ r ≠ []) ∧
  (∀ k, 0 ≤ k → k < m → ∃ r ∈ rows, k ∈ r) ∧ ∀ H', Same H H' → Q .non H'
abbrev nmSay : List Str := ["values", "many", "index", "value", "case"]
theorem sc_check_sayings : FnScope nmSay ["values", "many"] (defScope (top 33)) := ⟨rfl, rfl, rfl, by decide +kernel, rfl, by decide +kernel, by decide +kernel⟩
theorem has_check_sayings (D : Dat K mg) : Has P w K mg base CX0 "check_sayings" 4 ["values", "many"] (spSayings K) := by
  refine has_mk D.check_sayings sc_check_sayings (fun vs H Q E h => ?_) (fun _ _ _ _ _ _ us hl => match us, hl with | [_, _], _ => rfl) (fun f cdv A outer s H vs Q E hr h => ?_)
  · obtain ⟨a, m, rows, rfl, _⟩ := h
    rfl
  · obtain ⟨a, m, rows, rfl, hR, m0, m8, hne, l16, hrow, hcov, k⟩ := h
    obtain ⟨t2, g2⟩ := D.MOST_SAYINGS
    have hu := hr.units
    refine ⟨_, pss_cons (ps_if (PW.pt (pw_or (pt_not (pt_val (pe_callB (isiK K) (by rfl) D.isinstance boot_isinstance (pa_cons (pv 0) (pa_cons (pe_bltn (v := .ty "tuple") (by rfl) D.tuple boot_tuple rfl) pa_nil)))))
        (pw_or1 (pt_cmpR (eqK K hu) (pv 0) (pe_tup pa_nil) (nomark _))))) pss_never pss_nil)
      (pss_cons (ps_for PassesOwn.never rfl (pi_enumT (by rfl) D.enumerate (pa_cons (pv 0) pa_nil)) (pg_tup rfl (pgs_cons (pg_name (i := 2) sc_check_sayings.nd rfl (.inl rfl)) (pgs_cons (pg_name (i := 3) sc_check_sayings.nd rfl (.inl rfl)) pgs_nil)))
        (pss_one (ps_if (PW.pt (pw_or (pt_cmpR op_eq (pv 2) (pe_glob (v := .int 16) rfl g2 ⟨_, rfl⟩) (nomark _))
          (pw_or (pt_not (pt_val (pe_f (has_is_lot D) hr rfl (pa_cons (pv 3) (pa_cons (pv 1) pa_nil)))))
          (pw_or1 (pt_cmpR (eqK K hu) (pv 3) (pe_tup pa_nil) (nomark _)))))) pss_never pss_nil)))
      (pss_one (ps_if (pt_not (pt_val (pe_callB (allK K rfl) (by rfl) D.all boot_all (pa_cons
        (pe_lc (own := [("case", 4)]) (g := gName 4) (tt := tYes) rfl sc_check_sayings.nd (pi_range1 (by rfl) D.range (pa_cons (pv 1) pa_nil))
          (blkOk_by (own := [("case", 4)]) (N := nmSay) (sc := defScope (top 33)) (by decide +kernel)) (fun _ _ _ _ _ => pg_name (i := 4) sc_check_sayings.nd rfl (Or.inr rfl)) (fun _ _ _ _ _ => pts_nil)
          (fun _ _ _ _ _ => pe_callB (anyK K rfl) (by rfl) D.any boot_any (pa_cons
            (pe_lc (own := [("value", 3)]) (g := gName 3) (tt := tYes) rfl sc_check_sayings.nd (piT K (pv 0)) (blkOk_by (own := [("value", 3)]) (N := nmSay) (by kernel_rfl))
              (fun _ _ _ _ _ => pg_name (i := 3) sc_check_sayings.nd rfl (Or.inl rfl)) (fun _ _ _ _ _ => pts_nil) (fun _ _ _ _ _ => pe_cmpR (inK K) (pv 4) (pv 3) (by rfl))) pa_nil))) pa_nil)))) pss_never pss_nil))), ?_⟩
    obtain ⟨rs, hT, hI⟩ := id hR
    have hlen := hI.len
    refine ⟨_, rfl, .ref a, .ty "tuple", _, _, true, rfl, .ty _, tyx_tup hT, kit_ty (by decide +kernel), true, rfl, iteF ?_⟩
    refine ⟨_, rfl, Nat.zero_le _, fun p0 n0 => ⟨_, _, .tup (Same.seqT (same_upd n0) hT) (dpR (hI.imp fun _ _ => Same.seqT (same_upd n0))), dp_t0 (SqT.of upd_same), sh_tR rows, sh_t0, _, rfl, ifF_of ?_ ?_⟩⟩
    · rw [eqv_t0]
      cases rows with
      | nil => exact absurd rfl hne
      | cons r t => rfl
    have s0 : Same H (upd H p0 (.tup [])) := same_upd n0
    refine ⟨_, rfl, a, _, rfl, Same.seqT s0 hT, for_it walk_enumT (fun i σ H' => ∃ v1 v2, σ = [some (.ref a), some (.int m), v1, v2, none] ∧ Same H H') ⟨none, none, rfl, s0⟩ (fun i σ H' _ ⟨_, _, _, s1⟩ => Same.seqT s1 hT) ?_ ?_⟩
    · rintro i y σ H1 H2 hi ⟨v1, v2, rfl, s1⟩ ⟨T, x, z, rfl, nT, rfl, hx, hz⟩
      cases hx
      rw [List.length_map] at hi
      obtain ⟨r, hr1, rfl⟩ := map_get hz
      obtain ⟨row, hrow1⟩ : ∃ row, rows[i]? = some row := ⟨_, List.getElem?_eq_getElem (by omega)⟩
      obtain ⟨r', hr2, hq⟩ := hI.get hrow1
      rw [hr1] at hr2
      cases hr2
      have ok := hrow row (List.mem_of_getElem? hrow1)
      have s2 : Same H (upd H1 T (.tup [.int (i : Nat), .ref r])) := s1.trans (same_upd nT)
      refine ⟨T, _, rfl, SqT.of upd_same, rfl, _, _, rfl, _, _, rfl, rfl, ?_⟩
      refine ⟨_, rfl, rfl, _, rfl, iteDF (fun z => by injection z with z; omega) ?_⟩
      refine ⟨_, rfl, _, rfl, r, m, row, rfl, Same.seqT s2 hq, by have := ok.1.len; omega, ok.1, fun H3 s3 => ⟨true, rfl, iteF ?_⟩⟩
      refine ⟨_, rfl, Nat.zero_le _, fun p1 n1 => ⟨_, _, dp_tI (Same.seqT ((s2.trans s3).trans (same_upd n1)) hq), dp_t0 (SqT.of upd_same), sh_tI row, sh_t0, _, rfl, ifF_of ?_ ?_⟩⟩
      · rw [eqv_t0]
        cases row with
        | nil => exact absurd rfl ok.2
        | cons r t => rfl
      · exact ⟨_, _, rfl, (s2.trans s3).trans (same_upd n1)⟩
    · rintro σ H1 ⟨v1, v2, rfl, s1⟩
      refine ⟨_, rfl, m, rfl, by omega, by omega, fun D0 n0' => ?_⟩
      refine lc_range (lo := 0) (n := m.toNat) (fun i H' => Same H1 H' ∧ H' D0 = some (.lst ((List.replicate i true).map V.bl))) ⟨same_upd n0', upd_same⟩ ?_ ?_
      · rintro i H' hi ⟨s2, h2⟩
        refine ⟨rfl, _, rfl, a, rfl, ⟨_, Same.seqT (s1.trans s2) hT⟩, fun D1 n1 => ?_⟩
        refine lc_tup (K := K) (a := a) (xs := rs.map V.ref) (fun j H'' => Same H' H'' ∧ H'' D1 = some (.lst (((rows.take j).map fun r => inB (0 + (i : Int)) r).map V.bl))) ⟨same_upd n1, upd_same⟩ (fun j H'' _ q => Same.seqT ((s1.trans s2).trans q.1) hT) ?_ ?_
        · rintro j x H'' hx ⟨s3, h3⟩
          obtain ⟨r, hr1, rfl⟩ := map_get hx
          have hj := (List.getElem?_eq_some_iff.mp hr1).1
          obtain ⟨row, hrow1⟩ : ∃ row, rows[j]? = some row := ⟨_, List.getElem?_eq_getElem (by omega)⟩
          obtain ⟨r', hr2, hq⟩ := hI.get hrow1
          rw [hr1] at hr2
          cases hr2
          refine ⟨rfl, _, rfl, _, rfl, r, _, rfl, .inr (Same.seqT ((s1.trans s2).trans s3) hq), rfl, flat_ints _, ?_⟩
          refine ⟨_, h3, by rw [List.length_map, List.length_map, List.length_take]; exact small1000 (by omega), fun b o e => ?_, ?_⟩
          · rw [upd_ne (ne_of_none e n1)]
            exact s3 b o e
          · rw [upd_same, take_snoc hrow1, List.map_append, List.map_append]
            show some (HO.lst (_ ++ [V.bl (inV (V.int (0 + (i : Int))) (row.map V.int))])) = _
            rw [inV_int]
            rfl
        · rintro H'' ⟨s3, h3⟩
          rw [take_all (by rw [List.length_map, hlen])] at h3
          refine ⟨D1, _, rfl, SqL.of h3, ?_⟩
          have tr : ((rows.map fun r => inB (0 + (i : Int)) r).any id) = true := by
            obtain ⟨r, hr1, hr2⟩ := hcov (0 + (i : Int)) (by omega) (by omega)
            exact List.any_eq_true.mpr ⟨true, List.mem_map.mpr ⟨r, hr1, decide_eq_true hr2⟩, rfl⟩
          rw [tr]
          refine ⟨_, s3 _ _ h2, by rw [List.length_map, List.length_replicate]; exact small1000 (by omega), fun b o e => ?_, ?_⟩
          · rw [upd_ne (ne_of_none e n0')]
            exact s3 b o (s2 b o e)
          · rw [upd_same, rep_snoc, List.map_append]
            rfl
      · rintro H' ⟨s2, h2⟩
        refine ⟨D0, List.replicate m.toNat true, rfl, SqL.of h2, true, by rw [trues_all], iteF ?_⟩
        exact k H' (s1.trans s2)
end
end Tk
set_option maxHeartbeats 4000000
namespace Tk
open PySem PySem.Spec PyProof.Rows L2
theorem upTo_succ (n : Nat) : upTo (n + 1) = upTo n ++ [(n : Int)] := by
  unfold upTo
  rw [List.range_succ, List.map_append]
  rfl
theorem upTo_len (n : Nat) : (upTo n).length = n := by
  unfold upTo
  rw [List.length_map, List.length_range]
theorem rowAt_of {rows : List (List Int)} {i : Nat} {row : List Int} (h : rows[i]? = some row) : rowAt rows (i : Int) = row := by
  unfold rowAt
  rw [show ((i : Int)).toNat = i by omega]
  simp [List.getD, h]
section
variable {P : Program} {w : World} {K : PySem.W.Frag} {mg : Str → Option Value} {base : Heap}
/-- a Teller of these weights and sayings stands at t -/
def TelAt (K : PySem.W.Frag) (H : Hp) (t : Addr) (ws : List Int) (rows : List (List Int)) : Prop :=
  ∃ dx p a b, H t = some (.ins (telC K) dx [("held", .ref p)]) ∧ SqT K H p [.ref a, .ref b] ∧ IT K H a ws ∧ RowsT K H b rows
theorem Same.tel {H H' : Hp} {t : Addr} {ws : List Int} {rows : List (List Int)} (e : Same H H') (h : TelAt K H t ws rows) : TelAt K H' t ws rows := by
  obtain ⟨dx, p, a, b, h1, h2, h3, h4⟩ := h
  exact ⟨dx, p, a, b, e _ _ h1, Same.seqT e h2, Same.seqT e h3, Same.rows e h4⟩
theorem But.tel {v : Addr} {l : List V} {H H' : Hp} {t : Addr} {ws : List Int} {rows : List (List Int)} (hv : H v = some (.lst l)) (e : But v H H') (h : TelAt K H t ws rows) : TelAt K H' t ws rows := by
  obtain ⟨dx, p, a, b, h1, h2, h3, h4⟩ := h
  exact ⟨dx, p, a, b, e _ _ (fun z => by rw [z, hv] at h1; cases h1) h1, But.seqT hv e h2, But.seqT hv e h3, But.rows hv e h4⟩
/-! ### Teller.__init__ -/
def OkW (ws : List Int) : Prop := 2 ≤ ws.length ∧ ws.length ≤ 8 ∧ ∀ z ∈ ws, 1 ≤ z ∧ z ≤ 1000000
def OkR (m : Int) (rows : List (List Int)) : Prop := rows ≠ [] ∧ rows.length ≤ 16 ∧ (∀ r ∈ rows, AscIn m r ∧ r ≠ []) ∧ ∀ k, 0 ≤ k → k < m → ∃ r ∈ rows, k ∈ r
def spInit (K : PySem.W.Frag) : Sp := fun vs H Q _ => ∃ (t dx a b : Addr) (ws : List Int) (rows : List (List Int)), vs = [.ref t, .ref a, .ref b] ∧ H t = some (.ins (telC K) dx []) ∧ IT K H a ws ∧ RowsT K H b rows ∧ OkW ws ∧ OkR ws.length rows ∧
  ∀ H', But t H H' → TelAt K H' t ws rows → Q .non H'
theorem sc_init : FnScope ["self", "weights", "sayings"] ["self", "weights", "sayings"] (defScope (inClass (top 35) 0)) := ⟨rfl, rfl, rfl, by decide +kernel, rfl, by decide +kernel, by decide +kernel⟩
theorem ok_init (D : Dat K mg) {f : Addr} {fd : FuncData} (F : FnM K "__init__" "Teller.__init__" 0 f fd) : FnOk P w K mg base CX0 5 f fd ["self", "weights", "sayings"] (spInit K) := by
  refine F.ok sc_init (fun vs H Q E h => ?_) (fun cdv A outer s H vs Q E hr h => ?_)
  · obtain ⟨t, dx, a, b, ws, rows, rfl, _⟩ := h
    rfl
  · obtain ⟨t, dx, a, b, ws, rows, rfl, ht, hW, hR, oW, oR, k⟩ := h
    refine ⟨_, PSs.nox (pss_cons (ps_expr (pe_f (has_check_weights D) (hr.mono (by decide)) rfl (pa_cons (pv 1) pa_nil)))
      (pss_cons (ps_expr (pe_f (has_check_sayings D) hr rfl (pa_cons (pv 2) (pa_cons (pe_callB (lenK K) (by rfl) D.len boot_len (pa_cons (pv 1) pa_nil)) pa_nil))))
      (pss_one (ps_fld (pv 0) (pe_tup (pa_cons (pv 1) (pa_cons (pv 2) pa_nil))) rfl)))), ?_⟩
    refine ⟨_, rfl, a, ws, rfl, hW, oW.1, oW.2.1, oW.2.2, fun H1 s1 => ?_⟩
    refine ⟨_, rfl, _, rfl, _, ws.length, rfl, .inr ⟨_, Same.seqT s1 hW, (List.length_map _).symm⟩, b, ws.length, rows, rfl, Same.rows s1 hR, by omega, by have := oW.2.1; omega, oR.1, oR.2.1, oR.2.2.1, oR.2.2.2, fun H2 s2 => ?_⟩
    refine ⟨_, rfl, _, rfl, (by show 2 ≤ sizeLine; decide), fun p0 n0 => ?_⟩
    have s3 : Same H (upd H2 p0 (.tup [.ref a, .ref b])) := (s1.trans s2).trans (same_upd n0)
    refine ⟨_, rfl, t, telC K, dx, _, rfl, s3 _ _ ht, D.tel.cl, D.tel.noH, (by show 0 < 1000; decide), ?_⟩
    have b4 : But t H (upd (upd H2 p0 (.tup [.ref a, .ref b])) t (.ins (telC K) dx (putF "held" (.ref p0) []))) := fun c o n e => by
      rw [upd_ne n]
      exact s3 c o e
    have nt : p0 ≠ t := fun z => by
      rw [z] at n0
      rw [(s1.trans s2) _ _ ht] at n0
      cases n0
    have keep : ∀ c xs, SqT K H c xs → SqT K (upd (upd H2 p0 (.tup [.ref a, .ref b])) t (.ins (telC K) dx (putF "held" (.ref p0) []))) c xs := fun c xs h => by
      have h3 := Same.seqT s3 h
      have ne : ∀ o, (upd H2 p0 (.tup [.ref a, .ref b])) c = some o → (∀ q1 q2 q3, o ≠ .ins q1 q2 q3) → c ≠ t := fun o e q z => by
        rw [z, s3 _ _ ht] at e
        exact q _ _ _ (Option.some.inj e).symm
      rcases h3 with (h3 | ⟨o, h3⟩) | h3
      · exact .inl (.inl (by rw [upd_ne (ne _ h3 (fun _ _ _ z => by cases z))]; exact h3))
      · exact .inl (.inr ⟨o, by rw [upd_ne (ne _ h3 (fun _ _ _ z => by cases z))]; exact h3⟩)
      · exact .inr h3
    refine k _ b4 ⟨dx, p0, a, b, upd_same, SqT.of (by rw [upd_ne nt, upd_same]), keep _ _ hW, ?_⟩
    obtain ⟨rs, h1, h2⟩ := hR
    exact ⟨rs, keep _ _ h1, h2.imp fun _ _ => keep _ _⟩
/-! ### the properties -/
def spWts (K : PySem.W.Frag) : Sp := fun vs H Q _ => ∃ (t : Addr) (ws : List Int) (rows : List (List Int)), vs = [.ref t] ∧ TelAt K H t ws rows ∧ ∀ a, IT K H a ws → Q (.ref a) H
def spSys (K : PySem.W.Frag) : Sp := fun vs H Q _ => ∃ (t : Addr) (ws : List Int) (rows : List (List Int)), vs = [.ref t] ∧ TelAt K H t ws rows ∧ ∀ a, RowsT K H a rows → Q (.ref a) H
theorem sc_wts : FnScope ["self"] ["self"] (defScope (inClass (top 35) 2)) := ⟨rfl, rfl, rfl, by decide +kernel, rfl, by decide +kernel, by decide +kernel⟩
theorem sc_sys : FnScope ["self"] ["self"] (defScope (inClass (top 35) 3)) := ⟨rfl, rfl, rfl, by decide +kernel, rfl, by decide +kernel, by decide +kernel⟩
theorem ok_wts (D : Dat K mg) {f : Addr} {fd : FuncData} (F : FnM K "weights" "Teller.weights" 2 f fd) : FnOk P w K mg base CX0 1 f fd ["self"] (spWts K) := by
  refine F.ok sc_wts (fun vs H Q E h => ?_) (fun cdv A outer s H vs Q E hr h => ?_)
  · obtain ⟨t, ws, rows, rfl, _⟩ := h
    rfl
  · obtain ⟨t, ws, rows, rfl, ⟨dx, p, a, b, h1, h2, h3, h4⟩, k⟩ := h
    refine ⟨_, PSs.nox (pss_one (ps_ret (pe_ix (ixT K) (pe_fld (pv 0) rfl) pe_int (fun _ _ => rfl)))), ?_⟩
    exact ⟨_, rfl, t, _, dx, _, .ref p, rfl, h1, D.tel.cl, D.tel.noH, (by simp [List.lookup]), p, _, _, _, rfl, rfl, h2, rfl, k a h3⟩
theorem ok_sys (D : Dat K mg) {f : Addr} {fd : FuncData} (F : FnM K "sayings" "Teller.sayings" 3 f fd) : FnOk P w K mg base CX0 1 f fd ["self"] (spSys K) := by
  refine F.ok sc_sys (fun vs H Q E h => ?_) (fun cdv A outer s H vs Q E hr h => ?_)
  · obtain ⟨t, ws, rows, rfl, _⟩ := h
    rfl
  · obtain ⟨t, ws, rows, rfl, ⟨dx, p, a, b, h1, h2, h3, h4⟩, k⟩ := h
    refine ⟨_, PSs.nox (pss_one (ps_ret (pe_ix (ixT K) (pe_fld (pv 0) rfl) pe_int (fun _ _ => rfl)))), ?_⟩
    exact ⟨_, rfl, t, _, dx, _, .ref p, rfl, h1, D.tel.cl, D.tel.noH, (by simp [List.lookup]), p, _, _, _, rfl, rfl, h2, rfl, k b h4⟩
/-- e.weights, e.sayings -/
def tWts (K : PySem.W.Frag) (ta : TE) : TE := tProp (telC K) (spWts K) [] E0 ta
def tSys (K : PySem.W.Frag) (ta : TE) : TE := tProp (telC K) (spSys K) [] E0 ta
theorem pe_wts {X : Cx} {e : Expr} {ta : TE} {pos : Pos} (D : Dat X.K X.mg) (he : PE X e ta) (hr : Room 2 X.A) (hab : attributeBase e "weights" X.env (eval e X.env) = eval e X.env := by rfl) : PE X (.Attribute e "weights" pos) (tWts X.K ta) := by
  obtain ⟨p, f, fd, hp, F⟩ := D.tel.wts
  exact pe_prop he D.tel.cl hp (ok_wts D F) hr (F.bindsN fun _ _ _ _ _ _ us hl => match us, hl with | [_], _ => rfl) .nil pass0 hab
theorem pe_sys {X : Cx} {e : Expr} {ta : TE} {pos : Pos} (D : Dat X.K X.mg) (he : PE X e ta) (hr : Room 2 X.A) (hab : attributeBase e "sayings" X.env (eval e X.env) = eval e X.env := by rfl) : PE X (.Attribute e "sayings" pos) (tSys X.K ta) := by
  obtain ⟨p, f, fd, hp, F⟩ := D.tel.sys
  exact pe_prop he D.tel.cl hp (ok_sys D F) hr (F.bindsN fun _ _ _ _ _ _ us hl => match us, hl with | [_], _ => rfl) .nil pass0 hab
theorem wtsK {X : Cx} {e : Expr} {ta : TE} {pos : Pos} (K : PySem.W.Frag) (D : Dat K X.mg) (he : PE X e ta) (hr : Room 2 X.A) (hab : attributeBase e "weights" X.env (eval e X.env) = eval e X.env := by rfl) (h : X.K = K := by rfl) : PE X (.Attribute e "weights" pos) (tWts K ta) := by
  subst h
  exact pe_wts D he hr hab
theorem sysK {X : Cx} {e : Expr} {ta : TE} {pos : Pos} (K : PySem.W.Frag) (D : Dat K X.mg) (he : PE X e ta) (hr : Room 2 X.A) (hab : attributeBase e "sayings" X.env (eval e X.env) = eval e X.env := by rfl) (h : X.K = K := by rfl) : PE X (.Attribute e "sayings" pos) (tSys K ta) := by
  subst h
  exact pe_sys D he hr hab
theorem tWts_of {σ : L2.St} {H H1 : Hp} {Q : VK} {t : Addr} {ws : List Int} {rows : List (List Int)} {ta : TE} (ht : TelAt K H1 t ws rows) (ha : ∀ R : VK, R (.ref t) H1 → ta σ H R) (k : ∀ a, IT K H1 a ws → Q (.ref a) H1) : tWts K ta σ H Q := by
  obtain ⟨dx, p, a, b, h1, h2, h3, h4⟩ := id ht
  exact ha _ ⟨t, dx, _, rfl, h1, t, ws, rows, rfl, ht, k⟩
theorem tSys_of {σ : L2.St} {H H1 : Hp} {Q : VK} {t : Addr} {ws : List Int} {rows : List (List Int)} {ta : TE} (ht : TelAt K H1 t ws rows) (ha : ∀ R : VK, R (.ref t) H1 → ta σ H R) (k : ∀ a, RowsT K H1 a rows → Q (.ref a) H1) : tSys K ta σ H Q := by
  obtain ⟨dx, p, a, b, h1, h2, h3, h4⟩ := id ht
  exact ha _ ⟨t, dx, _, rfl, h1, t, ws, rows, rfl, ht, k⟩
/-! ### said_in -/
def spSaid (K : PySem.W.Frag) : Sp := fun vs H Q _ => ∃ (t : Addr) (k : Int) (ws : List Int) (rows : List (List Int)), vs = [.ref t, .int k] ∧ TelAt K H t ws rows ∧ rows.length ≤ 16 ∧ RetT K H ((said rows k).map V.int) Q
theorem sc_said_in : FnScope ["self", "case", "index", "cases"] ["self", "case"] (defScope (inClass (top 35) 4)) := ⟨rfl, rfl, rfl, by decide +kernel, rfl, by decide +kernel, by decide +kernel⟩
theorem ok_said_in (D : Dat K mg) {f : Addr} {fd : FuncData} (F : FnM K "said_in" "Teller.said_in" 4 f fd) : FnOk P w K mg base CX0 1 f fd ["self", "case"] (spSaid K) := by
  refine F.ok sc_said_in (fun vs H Q E h => ?_) (fun cdv A outer s H vs Q E hr h => ?_)
  · obtain ⟨t, k, ws, rows, rfl, _⟩ := h
    rfl
  · obtain ⟨t, k, ws, rows, rfl, ⟨dx, p, a, b, h1, h2, h3, ⟨rs, hT, hI⟩⟩, l16, ret⟩ := h
    have hlen := hI.len
    refine ⟨_, PSs.nox (pss_one (ps_ret (pe_callTy (tupK K) (by rfl) D.tuple boot_tuple (pa_cons
      (pe_lc (own := [("index", 2), ("cases", 3)]) (g := gTup K 2 (gCons (gName 2) (gCons (gName 3) gNil))) (tt := tTest (tOp (rIn K false) (tVar 1) (tVar 3))) rfl sc_said_in.nd
        (pi_enumT (by rfl) D.enumerate (pa_cons (pe_ix (ixT K) (pe_fld (pv 0) rfl) pe_int (fun _ _ => rfl)) pa_nil))
        (blkOk_by (own := [("index", 2), ("cases", 3)]) (N := ["self", "case", "index", "cases"]) (sc := defScope (inClass (top 35) 4)) (by decide +kernel))
        (fun _ _ _ _ _ => pgT K rfl (pgs_cons (pg_name (i := 2) sc_said_in.nd rfl (Or.inl rfl)) (pgs_cons (pg_name (i := 3) sc_said_in.nd rfl (Or.inl rfl)) pgs_nil)))
        (fun _ _ _ _ _ => pts_one (pt_cmpR (inK K) (pv 1) (pv 3) (by rfl))) (fun _ _ _ _ _ => pv 2)) pa_nil)))), ?_⟩
    refine ⟨_, rfl, t, _, dx, _, .ref p, rfl, h1, D.tel.cl, D.tel.noH, (by simp [List.lookup]), p, _, _, .ref b, rfl, rfl, h2, rfl, b, _, rfl, hT, fun D0 n0 => ?_⟩
    refine lc_it walk_enumT (fun i H' => Same H H' ∧ H' D0 = some (.lst (((upTo i).filter fun z => inB k (rowAt rows z)).map V.int))) ⟨same_upd n0, upd_same⟩ (fun i H' _ q => Same.seqT q.1 hT) ?_ ?_
    · rintro i x H1 H2 hi ⟨s1, e1⟩ ⟨T, y, z, rfl, nT, rfl, hx, hz⟩
      cases hx
      rw [List.length_map] at hi
      obtain ⟨r, hr1, rfl⟩ := map_get hz
      obtain ⟨row, hrow1⟩ : ∃ row, rows[i]? = some row := ⟨_, List.getElem?_eq_getElem (by omega)⟩
      obtain ⟨r', hr2, hq⟩ := hI.get hrow1
      rw [hr1] at hr2
      cases hr2
      have s2 : Same H (upd H1 T (.tup [.int (i : Nat), .ref r])) := s1.trans (same_upd nT)
      have nTD : D0 ≠ T := ne_of_none e1 nT
      refine ⟨T, _, rfl, SqT.of upd_same, rfl, _, _, rfl, _, _, rfl, rfl, rfl, ?_⟩
      refine ⟨_, rfl, _, rfl, r, _, rfl, .inr (Same.seqT s2 hq), rfl, flat_ints _, _, rfl, ?_⟩
      have e2 : inV (.int k) (row.map V.int) = inB k (rowAt rows (i : Int)) := by rw [inV_int, rowAt_of hrow1]
      show if inV (.int k) (row.map V.int) = true then _ else _
      rw [e2]
      cases c : inB k (rowAt rows (i : Int)) with
      | true =>
        refine iteT ⟨_, rfl, _, (upd_ne nTD).trans e1, ?_, fun b o e => ?_, ?_⟩
        · rw [List.length_map]
          have := List.length_filter_le (fun z => inB k (rowAt rows z)) (upTo i)
          rw [upTo_len] at this
          exact small1000 (by omega)
        · rw [upd_ne (ne_of_none e n0)]
          exact s2 b o e
        · rw [upd_same, upTo_succ, List.filter_append, List.filter_cons_of_pos (p := fun z => inB k (rowAt rows z)) c, List.map_append]
          rfl
      | false =>
        refine iteF ⟨s2, ?_⟩
        rw [upd_ne nTD, e1, upTo_succ, List.filter_append, List.filter_cons_of_neg (p := fun z => inB k (rowAt rows z)) (by rw [c]; exact Bool.false_ne_true), List.filter_nil, List.append_nil]
    · rintro H' ⟨s1, e1⟩
      rw [List.length_map, hlen] at e1
      exact ⟨D0, _, rfl, .inl ⟨SqL.of e1, ret.new s1⟩⟩
end
end Tk
set_option maxHeartbeats 4000000
namespace Tk
open PySem PySem.Spec PyProof.Rows L2
section
variable {P : Program} {w : World} {K : PySem.W.Frag} {mg : Str → Option Value} {base : Heap}
/-! ### check_teller -/
def spChT (K : PySem.W.Frag) : Sp := fun vs H Q _ => ∃ (t : Addr) (ws : List Int) (rows : List (List Int)), vs = [.ref t] ∧ TelAt K H t ws rows ∧ Q .non H
theorem sc_check_teller : FnScope ["value"] ["value"] (defScope (top 36)) := ⟨rfl, rfl, rfl, by decide +kernel, rfl, by decide +kernel, by decide +kernel⟩
theorem has_check_teller (D : Dat K mg) : Has P w K mg base CX0 "check_teller" 1 ["value"] (spChT K) := by
  refine has_mk D.check_teller sc_check_teller (fun vs H Q E h => ?_) (fun _ _ _ _ _ _ us hl => match us, hl with | [_], _ => rfl) (fun f cdv A outer s H vs Q E hr h => ?_)
  · obtain ⟨t, ws, rows, rfl, _⟩ := h
    rfl
  · obtain ⟨t, ws, rows, rfl, ⟨dx, p, a, b, h1, _⟩, k⟩ := h
    refine ⟨_, pss_one (ps_if (pt_not (pt_val (pe_callB (isiK K) (by rfl) D.isinstance boot_isinstance (pa_cons (pv 0) (pa_cons (pe_glob (v := .ref (telC K)) rfl D.tel.gC rfl) pa_nil))))) pss_never pss_nil), ?_⟩
    exact ⟨_, rfl, .ref t, .ref (telC K), _, _, true, rfl, .own _, .base (.ins h1 D.tel.cl D.tel.ha D.tel.hn D.tel.htk D.tel.hm), D.tel.isi, true, rfl, iteF k⟩
/-! ### check_lot -/
def spChL (K : PySem.W.Frag) : Sp := fun vs H Q _ => ∃ (t l : Addr) (ws lot : List Int) (rows : List (List Int)), vs = [.ref t, .ref l] ∧ TelAt K H t ws rows ∧ IT K H l lot ∧ AscIn ws.length lot ∧ ws.length ≤ 8 ∧ ∀ H', Same H H' → Q .non H'
theorem sc_check_lot : FnScope ["teller", "value", "index", "case"] ["teller", "value"] (defScope (top 39)) := ⟨rfl, rfl, rfl, by decide +kernel, rfl, by decide +kernel, by decide +kernel⟩
theorem has_check_lot (D : Dat K mg) : Has P w K mg base CX0 "check_lot" 3 ["teller", "value"] (spChL K) := by
  refine has_mk D.check_lot sc_check_lot (fun vs H Q E h => ?_) (fun _ _ _ _ _ _ us hl => match us, hl with | [_, _], _ => rfl) (fun f cdv A outer s H vs Q E hr h => ?_)
  · obtain ⟨t, l, ws, lot, rows, rfl, _⟩ := h
    rfl
  · obtain ⟨t, l, ws, lot, rows, rfl, hte, hL, hA, l8, k⟩ := h
    refine ⟨_, pss_cons (ps_if (pt_not (pt_val (pe_callB (isiK K) (by rfl) D.isinstance boot_isinstance (pa_cons (pv 1) (pa_cons (pe_bltn (v := .ty "tuple") (by rfl) D.tuple boot_tuple rfl) pa_nil))))) pss_never pss_nil)
      (pss_one (ps_for PassesOwn.never rfl (pi_enumT (by rfl) D.enumerate (pa_cons (pv 1) pa_nil)) (pg_tup rfl (pgs_cons (pg_name (i := 2) sc_check_lot.nd rfl (.inl rfl)) (pgs_cons (pg_name (i := 3) sc_check_lot.nd rfl (.inl rfl)) pgs_nil)))
        (pss_one (ps_if (PW.pt (pw_or (pt_not (pt_val (pe_f (has_is_between D) hr rfl (pa_cons (pv 3) (pa_cons pe_int (pa_cons (pe_op op_sub (pe_callB (lenK K) (by rfl) D.len boot_len (pa_cons (wtsK K D (pv 0) hr) pa_nil)) pe_int) pa_nil))))))
          (pw_or1 (PW.pt (pw_and (pt_cmpR op_gt (pv 2) pe_int (nomark _)) (pw_and1 (pt_cmpR op_le (pv 3) (pe_ix (ixT K) (pv 1) (pe_op op_sub (pv 2) pe_int) (fun _ _ => rfl)) (nomark _)))))))) pss_never pss_nil)))), ?_⟩
    refine ⟨_, rfl, .ref l, .ty "tuple", _, _, true, rfl, .ty _, tyx_tup hL, kit_ty (by decide +kernel), true, rfl, iteF ?_⟩
    refine ⟨_, rfl, l, _, rfl, hL, for_it walk_enumT (fun i σ H' => ∃ v1 v2, σ = [some (.ref t), some (.ref l), v1, v2] ∧ Same H H') ⟨none, none, rfl, Same.refl H⟩ (fun i σ H' _ ⟨_, _, _, s1⟩ => Same.seqT s1 hL) ?_ ?_⟩
    · rintro i y σ H1 H2 hi ⟨v1, v2, rfl, s1⟩ ⟨T, x, z, rfl, nT, rfl, hx, hz⟩
      cases hx
      obtain ⟨n, hn, rfl⟩ := map_get hz
      have wn := hA.2 n (List.mem_of_getElem? hn)
      have s2 : Same H (upd H1 T (.tup [.int (i : Nat), .int n])) := s1.trans (same_upd nT)
      refine ⟨T, _, rfl, SqT.of upd_same, rfl, _, _, rfl, _, _, rfl, rfl, ?_⟩
      refine ⟨_, rfl, tWts_of (Same.tel s2 hte) (fun R q => ⟨_, rfl, q⟩) fun a hW => ⟨_, ws.length, rfl, .inr ⟨_, hW, (List.length_map _).symm⟩, _, _, rfl, rfl, n, 0, _, rfl, wn.1, by omega, true, rfl, iteF ?_⟩⟩
      refine ⟨_, rfl, _, _, rfl, rfl, _, rfl, ?_⟩
      cases i with
      | zero =>
        refine iteDF (by decide) (iteF ?_)
        exact ⟨_, _, rfl, s2⟩
      | succ j =>
        obtain ⟨x, hx⟩ : ∃ x, lot[j]? = some x := ⟨_, List.getElem?_eq_getElem (by have := (List.getElem?_eq_some_iff.mp hn).1; omega)⟩
        have lt := asc_at hA.1 hx hn
        refine iteDT (by omega) ⟨_, rfl, _, rfl, _, rfl, _, _, rfl, rfl, l, _, _, .int x, rfl, rfl, Same.seqT s2 hL, atI_of (i := j) (by omega) hx, _, _, rfl, rfl, _, rfl, iteDF (by omega) ?_⟩
        exact ⟨_, _, rfl, s2⟩
    · rintro σ H1 ⟨v1, v2, rfl, s1⟩
      exact k H1 s1
/-! ### check_heard -/
def spChH (K : PySem.W.Frag) : Sp := fun vs H Q _ => ∃ (t h : Addr) (ws heard : List Int) (rows : List (List Int)), vs = [.ref t, .ref h] ∧ TelAt K H t ws rows ∧ IT K H h heard ∧ heard ≠ [] ∧ heard.length ≤ 20 ∧ rows.length ≤ 16 ∧ (∀ s ∈ heard, 0 ≤ s ∧ s < rows.length) ∧ ∀ H', Same H H' → Q .non H'
theorem sc_check_heard : FnScope ["teller", "values", "index", "value"] ["teller", "values"] (defScope (top 43)) := ⟨rfl, rfl, rfl, by decide +kernel, rfl, by decide +kernel, by decide +kernel⟩
theorem has_check_heard (D : Dat K mg) : Has P w K mg base CX0 "check_heard" 3 ["teller", "values"] (spChH K) := by
  refine has_mk D.check_heard sc_check_heard (fun vs H Q E h => ?_) (fun _ _ _ _ _ _ us hl => match us, hl with | [_, _], _ => rfl) (fun f cdv A outer s H vs Q E hr h => ?_)
  · obtain ⟨t, l, ws, heard, rows, rfl, _⟩ := h
    rfl
  · obtain ⟨t, l, ws, heard, rows, rfl, hte, hL, hne, l20, l16, hh, k⟩ := h
    obtain ⟨t2, g2⟩ := D.MOST_HEARD
    have hu := hr.units
    refine ⟨_, pss_cons (ps_if (PW.pt (pw_or (pt_not (pt_val (pe_callB (isiK K) (by rfl) D.isinstance boot_isinstance (pa_cons (pv 1) (pa_cons (pe_bltn (v := .ty "tuple") (by rfl) D.tuple boot_tuple rfl) pa_nil)))))
        (pw_or1 (pt_cmpR (eqK K hu) (pv 1) (pe_tup pa_nil) (nomark _))))) pss_never pss_nil)
      (pss_one (ps_for PassesOwn.never rfl (pi_enumT (by rfl) D.enumerate (pa_cons (pv 1) pa_nil)) (pg_tup rfl (pgs_cons (pg_name (i := 2) sc_check_heard.nd rfl (.inl rfl)) (pgs_cons (pg_name (i := 3) sc_check_heard.nd rfl (.inl rfl)) pgs_nil)))
        (pss_one (ps_if (PW.pt (pw_or (pt_cmpR op_eq (pv 2) (pe_glob (v := .int 20) rfl g2 ⟨_, rfl⟩) (nomark _))
          (pw_or1 (pt_not (pt_val (pe_f (has_is_between D) hr rfl (pa_cons (pv 3) (pa_cons pe_int (pa_cons (pe_op op_sub (pe_callB (lenK K) (by rfl) D.len boot_len (pa_cons (sysK K D (pv 0) hr) pa_nil)) pe_int) pa_nil))))))))) pss_never pss_nil)))), ?_⟩
    refine ⟨_, rfl, .ref l, .ty "tuple", _, _, true, rfl, .ty _, tyx_tup hL, kit_ty (by decide +kernel), true, rfl, iteF ?_⟩
    refine ⟨_, rfl, Nat.zero_le _, fun p0 n0 => ⟨_, _, dp_tI (Same.seqT (same_upd n0) hL), dp_t0 (SqT.of upd_same), sh_tI heard, sh_t0, _, rfl, ifF_of ?_ ?_⟩⟩
    · rw [eqv_t0]
      cases heard with
      | nil => exact absurd rfl hne
      | cons r t => rfl
    have s0 : Same H (upd H p0 (.tup [])) := same_upd n0
    refine ⟨_, rfl, l, _, rfl, Same.seqT s0 hL, for_it walk_enumT (fun i σ H' => ∃ v1 v2, σ = [some (.ref t), some (.ref l), v1, v2] ∧ Same H H') ⟨none, none, rfl, s0⟩ (fun i σ H' _ ⟨_, _, _, s1⟩ => Same.seqT s1 hL) ?_ ?_⟩
    · rintro i y σ H1 H2 hi ⟨v1, v2, rfl, s1⟩ ⟨T, x, z, rfl, nT, rfl, hx, hz⟩
      cases hx
      obtain ⟨n, hn, rfl⟩ := map_get hz
      rw [List.length_map] at hi
      have wn := hh n (List.mem_of_getElem? hn)
      have s2 : Same H (upd H1 T (.tup [.int (i : Nat), .int n])) := s1.trans (same_upd nT)
      refine ⟨T, _, rfl, SqT.of upd_same, rfl, _, _, rfl, _, _, rfl, rfl, ?_⟩
      refine ⟨_, rfl, rfl, _, rfl, iteDF (fun z => by injection z with z; omega) ?_⟩
      refine ⟨_, rfl, tSys_of (Same.tel s2 hte) (fun R q => ⟨_, rfl, q⟩) fun a ⟨rs, hR, hI⟩ => ⟨_, rs.length, rfl, .inr ⟨_, hR, (List.length_map _).symm⟩, _, _, rfl, rfl, n, 0, _, rfl, wn.1, by have := hI.len; omega, true, rfl, iteF ?_⟩⟩
      exact ⟨_, _, rfl, s2⟩
    · rintro σ H1 ⟨v1, v2, rfl, s1⟩
      exact k H1 s1
/-! ### left_for -/
def OkH (n : Nat) (heard : List Int) : Prop := heard ≠ [] ∧ heard.length ≤ 6 ∧ ∀ s ∈ heard, 0 ≤ s ∧ s < n
def spLeft (K : PySem.W.Frag) : Sp := fun vs H Q _ => ∃ (t h : Addr) (ws heard : List Int) (rows : List (List Int)), vs = [.ref t, .ref h] ∧ TelAt K H t ws rows ∧ IT K H h heard ∧ OkH rows.length heard ∧ ws.length ≤ 8 ∧
  RetT K H ((openC ws.length rows heard).map V.int) Q
abbrev nmLeft : List Str := ["teller", "heard", "found", "case", "saying"]
theorem sc_left_for : FnScope nmLeft ["teller", "heard"] (defScope (top 44)) := ⟨rfl, rfl, rfl, by decide +kernel, rfl, by decide +kernel, by decide +kernel⟩
theorem row_at {K : PySem.W.Frag} {H : Hp} {rs : List Addr} {rows : List (List Int)} (hI : RowsIn K H rs rows) {s : Int} (h0 : 0 ≤ s) (h1 : s < rows.length) : ∃ r, rs[s.toNat]? = some r ∧ IT K H r (rowAt rows s) := by
  have hlt : s.toNat < rows.length := by omega
  obtain ⟨r, e1, e2⟩ := hI.get (List.getElem?_eq_getElem hlt)
  refine ⟨r, e1, ?_⟩
  have e : rowAt rows s = rows[s.toNat] := by
    unfold rowAt
    simp [List.getD, hlt]
  rw [e]
  exact e2
theorem has_left_for (D : Dat K mg) : Has P w K mg base CX0 "left_for" 3 ["teller", "heard"] (spLeft K) := by
  refine has_mk D.left_for sc_left_for (fun vs H Q E h => ?_) (fun _ _ _ _ _ _ us hl => match us, hl with | [_, _], _ => rfl) (fun f cdv A outer s H vs Q E hr h => ?_)
  · obtain ⟨t, l, ws, heard, rows, rfl, _⟩ := h
    rfl
  · obtain ⟨t, l, ws, heard, rows, rfl, hte, hL, oH, l8, k⟩ := h
    refine ⟨_, pss_cons (ps_set (i := 2) sc_left_for.nd rfl (Or.inl rfl) (pe_lst pa_nil))
      (pss_cons (ps_for PassesOwn.never rfl (pi_range1 rfl D.range (pa_cons (pe_callB (lenK K) (by rfl) D.len boot_len (pa_cons (wtsK K D (pv 0) hr) pa_nil)) pa_nil)) (pg_name (i := 3) sc_left_for.nd rfl (Or.inr rfl))
        (pss_one (ps_if (pt_val (pe_callB (allK K rfl) (by rfl) D.all boot_all (pa_cons
          (pe_lc (own := [("saying", 4)]) (g := gName 4) (tt := tYes) rfl sc_left_for.nd (piT K (pv 1)) (blkOk_by (own := [("saying", 4)]) (N := nmLeft) (sc := defScope (top 44)) (by decide +kernel))
            (fun _ _ _ _ _ => pg_name (i := 4) sc_left_for.nd rfl (Or.inl rfl)) (fun _ _ _ _ _ => pts_nil)
            (fun _ _ _ _ _ => pe_cmpR (inK K) (pv 3) (pe_ix (ixT K) (sysK K D (pv 0) hr) (pv 4) (fun _ _ => rfl)) (by rfl))) pa_nil)))
          (pss_one (ps_expr (pe_bm PySem.F.plainAttrs_list PySem.F.slot_list_append PySem.F.type_list_append mt_append (pv 2) (pa_cons (pv 3) pa_nil)))) pss_nil)))
      (pss_one (ps_ret (pe_callTy (tupK K) (by rfl) D.tuple boot_tuple (pa_cons (pv 2) pa_nil))))), ?_⟩
    refine ⟨Nat.zero_le _, fun fo nf => ?_⟩
    have s0 : Same H (upd H fo (.lst [])) := same_upd nf
    change tWts K (tVar 0) _ _ _
    refine tWts_of (Same.tel s0 hte) (fun R q => ⟨_, rfl, q⟩) fun a hW => ⟨_, ws.length, rfl, .inr ⟨_, hW, (List.length_map _).symm⟩, ws.length, rfl, by omega, by omega, ?_⟩
    refine for_range (lo := 0) (n := ((ws.length : Nat) : Int).toNat) (fun i σ H' => ∃ v, σ = [some (.ref t), some (.ref l), some (.ref fo), v, none] ∧ Same H H' ∧ H' fo = some (.lst (((upTo i).filter (isOpen rows heard)).map V.int)))
      ⟨none, rfl, s0, upd_same⟩ ?_ ?_
    · rintro i σ H' hi ⟨v, rfl, s1, h1⟩
      refine ⟨_, rfl, l, rfl, ⟨_, Same.seqT s1 hL⟩, fun D0 n0 => ?_⟩
      refine lc_tup (K := K) (a := l) (xs := heard.map V.int) (fun j H'' => Same H' H'' ∧ H'' D0 = some (.lst (((heard.take j).map fun z => inB (0 + (i : Int)) (rowAt rows z)).map V.bl))) ⟨same_upd n0, upd_same⟩ (fun j H'' _ q => Same.seqT (s1.trans q.1) hL) ?_ ?_
      · rintro j x H'' hx ⟨s2, h2⟩
        obtain ⟨n, hn, rfl⟩ := map_get hx
        have wn := oH.2.2 n (List.mem_of_getElem? hn)
        refine ⟨rfl, _, rfl, tSys_of (Same.tel (s1.trans s2) hte) (fun R q => ⟨_, rfl, q⟩) fun b ⟨rs, hR, hI⟩ => ?_⟩
        obtain ⟨r, hr1, hr2⟩ := row_at hI wn.1 wn.2
        refine ⟨_, rfl, b, _, _, .ref r, rfl, rfl, hR, at_of (j := n.toNat) (by omega) (by rw [List.getElem?_map, hr1] <;> rfl), r, _, rfl, .inr hr2, rfl, flat_ints _, ?_⟩
        refine ⟨_, h2, by rw [List.length_map, List.length_map, List.length_take]; exact small1000 (by have := oH.2.1; omega), fun b o e => ?_, ?_⟩
        · rw [upd_ne (ne_of_none e n0)]
          exact s2 b o e
        · rw [upd_same, take_snoc hn, List.map_append, List.map_append]
          show some (HO.lst (_ ++ [V.bl (inV (V.int (0 + (i : Int))) ((rowAt rows n).map V.int))])) = _
          rw [inV_int]
          rfl
      · rintro H'' ⟨s2, h2⟩
        rw [take_all (by rw [List.length_map])] at h2
        refine ⟨D0, _, rfl, SqL.of h2, _, rfl, ?_⟩
        have e : ((heard.map fun z => inB (0 + (i : Int)) (rowAt rows z)).all id) = isOpen rows heard (i : Int) := by
          rw [Int.zero_add]
          unfold isOpen
          rw [List.all_map]
          rfl
        rw [e]
        cases c : isOpen rows heard (i : Int) with
        | true =>
          refine iteT ⟨_, rfl, .inl ⟨rfl, _, SqL.of (s2 _ _ h1)⟩, _, rfl, fo, _, _, rfl, rfl, s2 _ _ h1, ?_, ?_⟩
          · rw [List.length_map]
            have := List.length_filter_le (isOpen rows heard) (upTo i)
            rw [upTo_len] at this
            exact small1000 (by omega)
          · refine ⟨_, rfl, fun b o e => ?_, ?_⟩
            · rw [upd_ne (ne_of_none e nf)]
              exact s2 b o (s1 b o e)
            · rw [upd_same, upTo_succ, List.filter_append, List.filter_cons_of_pos (p := isOpen rows heard) c, List.map_append, Int.zero_add]
              rfl
        | false =>
          refine iteF ⟨_, rfl, s1.trans s2, ?_⟩
          rw [s2 _ _ h1, upTo_succ, List.filter_append, List.filter_cons_of_neg (p := isOpen rows heard) (by rw [c]; exact Bool.false_ne_true), List.filter_nil, List.append_nil]
    · rintro σ H' ⟨v, rfl, s1, h1⟩
      refine ⟨_, rfl, fo, _, rfl, .inl ⟨SqL.of h1, ?_⟩⟩
      exact k.new s1
end
end Tk
set_option maxHeartbeats 4000000
namespace Tk
open PySem PySem.Spec PyProof.Rows L2
/-! ### fractions put together -/
theorem plus_low {S X B : Int} (hB : 0 < B) : plusP (S, 1) (red X B) = red (S * B + X) B := by
  have h := red_add (a := S) (b := 1) (c := X) (d := B) (by decide) hB
  rw [red_one_right] at h
  unfold plusP
  rw [h, Int.mul_one, Int.one_mul]
theorem over_low {S Z B : Int} (hB : 0 < B) (hZ : 0 < Z) : overP (S, 1) (red Z B) = red (S * B) Z := by
  have c := red_cross Z B
  have p2 := red_snd_pos (a := Z) hB
  have p1 : 0 < (red Z B).1 := by
    have q : 0 < (red Z B).1 * B := by rw [c]; exact Int.mul_pos hZ p2
    exact Int.pos_of_mul_pos_left q hB |> fun z => z
  unfold overP
  refine red_same (by simpa using p1) hZ ?_
  generalize (red Z B).1 = x at *
  generalize (red Z B).2 = y at *
  grind
theorem plus_high {X U B : Int} (hB : 0 < B) : plusP (red X B) (U, 1) = red (X + U * B) B := by
  have h := red_add (a := X) (b := B) (c := U) (d := 1) hB (by decide)
  rw [red_one_right] at h
  unfold plusP
  rw [h, Int.mul_one, Int.mul_one]
theorem over_high {X Z B : Int} (hB : 0 < B) (hZ : 0 < Z) : overP (red X B) (red Z B) = red X Z := by
  have c := red_cross Z B
  have d := red_cross X B
  have p2 := red_snd_pos (a := Z) hB
  have q2 := red_snd_pos (a := X) hB
  have p1 : 0 < (red Z B).1 := by
    have q : 0 < (red Z B).1 * B := by rw [c]; exact Int.mul_pos hZ p2
    exact Int.pos_of_mul_pos_left q hB |> fun z => z
  unfold overP
  refine red_same (Int.mul_pos q2 p1) hZ ?_
  generalize (red Z B).1 = x at *
  generalize (red Z B).2 = y at *
  generalize (red X B).1 = u at *
  generalize (red X B).2 = v at *
  have hB0 : B ≠ 0 := by omega
  have key : u * y * Z * B = X * (v * x) * B := by grind
  exact Int.eq_of_mul_eq_mul_right hB0 key
theorem red_pos_fst {Z B : Int} (hB : 0 < B) (hZ : 0 < Z) : 0 < (red Z B).1 := by
  have c := red_cross Z B
  have p2 := red_snd_pos (a := Z) hB
  have q : 0 < (red Z B).1 * B := by rw [c]; exact Int.mul_pos hZ p2
  exact Int.pos_of_mul_pos_left q hB |> fun z => z
/-! ### the product's parts -/
def partT (heard : List Int) (i : Nat) : Int := (heard.take i).foldl (fun t s => t * cnt heard s) 1
def partB (heard : List Int) (i : Nat) : Int := (heard.take i).foldl (fun b _ => b * (heard.length : Int)) 1
theorem partT_succ {heard : List Int} {i : Nat} {s : Int} (h : heard[i]? = some s) : partT heard (i + 1) = partT heard i * cnt heard s := by
  unfold partT
  rw [take_snoc h, List.foldl_append]
  rfl
theorem partB_succ {heard : List Int} {i : Nat} {s : Int} (h : heard[i]? = some s) : partB heard (i + 1) = partB heard i * (heard.length : Int) := by
  unfold partB
  rw [take_snoc h, List.foldl_append]
  rfl
theorem part_le {heard : List Int} (hl : heard.length ≤ 6) (i : Nat) : 0 < partT heard i ∧ partT heard i ≤ partB heard i ∧ partB heard i ≤ 46656 := by
  obtain ⟨h1, h2⟩ := prod_fold heard (heard.take i) 1 1 (fun s hs => List.mem_of_mem_take hs) (by decide) (by decide)
  refine ⟨h1, h2, ?_⟩
  unfold partB
  rw [fold_pow, Int.one_mul]
  have l1 : (heard.take i).length ≤ 6 := by rw [List.length_take]; omega
  have q : heard.length ^ (heard.take i).length ≤ 6 ^ 6 := Nat.le_trans (Nat.pow_le_pow_left hl _) (Nat.pow_le_pow_right (by decide) l1)
  have e : ((heard.length : Int)) ^ (heard.take i).length = ((heard.length ^ (heard.take i).length : Nat) : Int) := by rw [Int.natCast_pow]
  rw [e]
  have : ((6 ^ 6 : Nat) : Int) = 46656 := by decide
  omega
section
variable {P : Program} {w : World} {K : PySem.W.Frag} {mg : Str → Option Value} {base : Heap}
/-! ### greatest_product -/
def spProd (K : PySem.W.Frag) : Sp := fun vs H Q _ => ∃ (h : Addr) (heard : List Int), vs = [.ref h] ∧ IT K H h heard ∧ heard ≠ [] ∧ heard.length ≤ 6 ∧ RetT K H (prV (red (prodT heard) (prodB heard))) Q
abbrev nmProd : List Str := ["heard", "found", "saying", "other"]
theorem sc_greatest_product : FnScope nmProd ["heard"] (defScope (top 45)) := ⟨rfl, rfl, rfl, by decide +kernel, rfl, by decide +kernel, by decide +kernel⟩
theorem has_greatest_product (D : Dat K mg) : Has P w K mg base CX0 "greatest_product" 4 ["heard"] (spProd K) := by
  refine has_mk D.greatest_product sc_greatest_product (fun vs H Q E h => ?_) (fun _ _ _ _ _ _ us hl => match us, hl with | [_], _ => rfl) (fun f cdv A outer s H vs Q E hr h => ?_)
  · obtain ⟨l, heard, rfl, _⟩ := h
    rfl
  · obtain ⟨l, heard, rfl, hL, hne, l6, k⟩ := h
    obtain ⟨aw, gw, hw⟩ := D.WHOLE
    refine ⟨_, pss_cons (ps_set (i := 1) sc_greatest_product.nd rfl (Or.inl rfl) (pe_glob (v := .ref aw) rfl gw rfl))
      (pss_cons (ps_for PassesOwn.never rfl (piT K (pv 0)) (pg_name (i := 2) sc_greatest_product.nd rfl (Or.inr rfl))
        (pss_one (ps_set (i := 1) sc_greatest_product.nd rfl (Or.inl rfl) (pe_f (has_times D) hr rfl (pa_cons (pv 1) (pa_cons
          (pe_f (has_fraction D) (hr.mono (by decide)) rfl (pa_cons (pe_callB (lenK K) (by rfl) D.len boot_len (pa_cons
            (pe_lc (own := [("other", 3)]) (g := gName 3) (tt := tTest (tOp rEq (tVar 3) (tVar 2))) rfl sc_greatest_product.nd (piT K (pv 0)) (blkOk_by (own := [("other", 3)]) (N := nmProd) (sc := defScope (top 45)) (by decide +kernel))
              (fun _ _ _ _ _ => pg_name (i := 3) sc_greatest_product.nd rfl (Or.inl rfl)) (fun _ _ _ _ _ => pts_one (pt_cmpR op_eq (pv 3) (pv 2) (nomark _))) (fun _ _ _ _ _ => pv 3)) pa_nil))
            (pa_cons (pe_callB (lenK K) (by rfl) D.len boot_len (pa_cons (pv 0) pa_nil)) pa_nil))) pa_nil))))))
      (pss_one (ps_ret (pv 1)))), ?_⟩
    have hn : 0 < heard.length := List.length_pos_iff.mpr hne
    refine ⟨_, rfl, l, rfl, ⟨_, hL⟩, for_tup (K := K) (a := l) (xs := heard.map V.int) (fun i σ H' => ∃ p v, σ = [some (.ref l), some (.ref p), v, none] ∧ Same H H' ∧ SqT K H' p (prV (red (partT heard i) (partB heard i))))
      ⟨aw, none, rfl, Same.refl H, ?_⟩ (fun i σ H' _ ⟨_, _, _, s1, _⟩ => Same.seqT s1 hL) ?_ ?_⟩
    · have : red (partT heard 0) (partB heard 0) = (1, 1) := (show red 1 1 = (1, 1) from red_one (by decide))
      rw [this]
      exact hw H
    · rintro i x σ H' hi ⟨p, v, rfl, s1, hp⟩
      obtain ⟨z, hz, rfl⟩ := map_get hi
      refine ⟨_, rfl, _, rfl, l, rfl, ⟨_, Same.seqT s1 hL⟩, fun D0 n0 => ?_⟩
      refine lc_tup (K := K) (a := l) (xs := heard.map V.int) (fun j H'' => Same H' H'' ∧ H'' D0 = some (.lst (((heard.take j).filter fun x => x == z).map V.int))) ⟨same_upd n0, upd_same⟩ (fun j H'' _ q => Same.seqT (s1.trans q.1) hL) ?_ ?_
      · rintro j x H'' hx ⟨s2, h2⟩
        obtain ⟨y, hy, rfl⟩ := map_get hx
        refine ⟨rfl, _, rfl, _, rfl, rfl, _, rfl, ?_⟩
        by_cases c : y = z
        · subst c
          refine iteDT rfl ⟨_, rfl, _, h2, ?_, fun b o e => ?_, ?_⟩
          · rw [List.length_map]
            have q1 := List.length_filter_le (fun x => x == y) (heard.take j)
            rw [List.length_take] at q1
            exact small1000 (by omega)
          · rw [upd_ne (ne_of_none e n0)]
            exact s2 b o e
          · rw [upd_same, take_snoc hy, List.filter_append, List.filter_cons_of_pos (p := fun x => x == y) (by simp), List.map_append]
            rfl
        · refine iteDF (fun e => c (by injection e)) ⟨s2, ?_⟩
          rw [h2, take_snoc hy, List.filter_append, List.filter_cons_of_neg (p := fun x => x == z) (by simp [c]), List.filter_nil, List.append_nil]
      · rintro H'' ⟨s2, h2⟩
        rw [take_all (by rw [List.length_map])] at h2
        have s3 := s1.trans s2
        have ec : ((((heard.filter fun x => x == z).map V.int).length : Nat) : Int) = cnt heard z := by
          rw [List.length_map, ← List.countP_eq_length_filter]
          rfl
        refine ⟨_, _, rfl, .inl ⟨_, SqL.of h2, rfl⟩, ?_⟩
        rw [ec]
        have c1 := cnt_pos (List.mem_of_getElem? hz)
        have c2 := cnt_le heard z
        refine ⟨_, rfl, _, heard.length, rfl, .inr ⟨_, Same.seqT s3 hL, (List.length_map _).symm⟩, cnt heard z, heard.length, rfl, by omega, by omega, by omega, fun p2 H3 s4 h4 => ?_⟩
        obtain ⟨b1, b2, b3⟩ := part_le l6 i
        refine ⟨p, p2, red (partT heard i) (partB heard i), red (cnt heard z) heard.length, rfl, Same.seqT (s2.trans s4) hp, h4, ok64_red (by omega) (by omega) (by omega) (by omega), ok64_red (by omega) (by omega) (by omega) (by omega), trivial, fun p3 H4 s5 h5 => ?_⟩
        refine ⟨p3, _, rfl, (s3.trans s4).trans s5, ?_⟩
        rw [partT_succ hz, partB_succ hz, ← red_mul (by omega) (by omega)]
        exact h5
    · rintro σ H' ⟨p, v, rfl, s1, hp⟩
      refine ⟨_, rfl, k p H' s1 ?_⟩
      have e1 : partT heard (heard.map V.int).length = prodT heard := by unfold partT prodT; rw [take_all (by rw [List.length_map])]
      have e2 : partB heard (heard.map V.int).length = prodB heard := by unfold partB prodB; rw [take_all (by rw [List.length_map])]
      rw [e1, e2] at hp
      exact hp
/-! ### most_of -/
def spMost (K : PySem.W.Frag) : Sp := fun vs H Q _ => ∃ (t h c : Addr) (ws heard cs : List Int) (rows : List (List Int)), vs = [.ref t, .ref h, .ref c] ∧ TelAt K H t ws rows ∧ OkW ws ∧ IT K H h heard ∧ heard ≠ [] ∧ heard.length ≤ 6 ∧ IL K H c cs ∧ cs.length ≤ 8 ∧
  (∀ z ∈ cs, 0 ≤ z ∧ z < ws.length) ∧ RetT K H (prV (red (sumW ws cs * prodT heard) (prodB heard))) Q
abbrev nmMost : List Str := ["teller", "heard", "cases", "top", "case"]
theorem sc_most_of : FnScope nmMost ["teller", "heard", "cases"] (defScope (top 46)) := ⟨rfl, rfl, rfl, by decide +kernel, rfl, by decide +kernel, by decide +kernel⟩
theorem wt_at {ws : List Int} {z : Int} (h0 : 0 ≤ z) (h1 : z < ws.length) : ws[z.toNat]? = some (wt ws z) := by
  have hlt : z.toNat < ws.length := by omega
  unfold wt
  simp [List.getD, hlt]
theorem wt_ok {ws : List Int} (o : OkW ws) {z : Int} (h0 : 0 ≤ z) (h1 : z < ws.length) : 1 ≤ wt ws z ∧ wt ws z ≤ 1000000 := o.2.2 _ (List.mem_of_getElem? (wt_at h0 h1))
theorem has_most_of (D : Dat K mg) : Has P w K mg base CX0 "most_of" 5 ["teller", "heard", "cases"] (spMost K) := by
  refine has_mk D.most_of sc_most_of (fun vs H Q E h => ?_) (fun _ _ _ _ _ _ us hl => match us, hl with | [_, _, _], _ => rfl) (fun f cdv A outer s H vs Q E hr h => ?_)
  · obtain ⟨t, l, c, ws, heard, cs, rows, rfl, _⟩ := h
    rfl
  · obtain ⟨t, l, c, ws, heard, cs, rows, rfl, hte, oW, hL, hne, l6, hC, c8, hcs, k⟩ := h
    refine ⟨_, pss_cons (ps_set (i := 3) sc_most_of.nd rfl (Or.inr rfl) (pe_f (has_greatest_product D) hr rfl (pa_cons (pv 1) pa_nil)))
      (pss_one (ps_ret (pe_f (has_total D) hr rfl (pa_cons
        (pe_lc (own := [("case", 4)]) (g := gName 4) (tt := tYes) rfl sc_most_of.nd (piL K (pv 2)) (blkOk_by (own := [("case", 4)]) (N := nmMost) (sc := defScope (top 46)) (by decide +kernel))
          (fun _ _ _ _ _ => pg_name (i := 4) sc_most_of.nd rfl (Or.inl rfl)) (fun _ _ _ _ _ => pts_nil)
          (fun _ _ _ _ _ => pe_f (has_times D) (hr.mono (by decide)) rfl (pa_cons (pe_tup (pa_cons (pe_ix (ixT K) (wtsK K D (pv 0) (hr.mono (by decide))) (pv 4) (fun _ _ => rfl)) (pa_cons pe_int pa_nil))) (pa_cons (pv 3) pa_nil)))) pa_nil)))), ?_⟩
    have pT := prodT_pos heard
    have TB := prodT_le heard
    have B1 := prodB_le l6
    refine ⟨_, rfl, l, heard, rfl, hL, hne, l6, fun p1 H1 s1 h1 => ?_⟩
    refine ⟨_, rfl, c, rfl, ⟨_, s1.seq hC⟩, fun D0 n0 => ?_⟩
    refine lc_list (K := K) (a := c) (xs := cs.map V.int) (fun i H' => Same H1 H' ∧ ∃ rs, H' D0 = some (.lst (rs.map V.ref)) ∧ Side (fun r z => SqT K H' r (prV (red (z * prodT heard) (prodB heard)))) rs ((cs.take i).map (wt ws)))
      ⟨same_upd n0, [], upd_same, .nil⟩ (fun i H' _ q => (s1.trans q.1).seq hC) ?_ ?_
    · rintro i x H' hx ⟨s2, rs, h2, hS⟩
      obtain ⟨z, hz, rfl⟩ := map_get hx
      have zc := hcs z (List.mem_of_getElem? hz)
      obtain ⟨w1, w2⟩ := wt_ok oW zc.1 zc.2
      have hi := (List.getElem?_eq_some_iff.mp hz).1
      refine ⟨rfl, ?_⟩
      change tWts K (tVar 0) _ _ _
      refine tWts_of (Same.tel (s1.trans s2) hte) (fun R q => ⟨_, rfl, q⟩) fun a hW => ⟨_, rfl, a, _, _, .int (wt ws z), rfl, rfl, hW, at_of (j := z.toNat) (by omega) (by rw [List.getElem?_map, wt_at zc.1 zc.2] <;> rfl), (by show 2 ≤ sizeLine; decide), fun p2 n2 => ?_⟩
      have s3 : Same H' (upd H' p2 (.tup [.int (wt ws z), .int 1])) := same_upd n2
      refine ⟨_, rfl, p2, p1, (wt ws z, 1), red (prodT heard) (prodB heard), rfl, SqT.of upd_same, Same.seqT (s2.trans s3) h1, ⟨by show 0 ≤ wt ws z; omega, by show wt ws z < 2 ^ 64; omega, by show (0 : Int) < 1; decide, by show (1 : Int) < 2 ^ 64; decide⟩,
        ok64_red (by omega) (by omega) (by omega) (by omega), trivial, fun p3 H3 s4 h3 => ?_⟩
      have s5 := s3.trans s4
      have e3 : timesP (wt ws z, 1) (red (prodT heard) (prodB heard)) = red (wt ws z * prodT heard) (prodB heard) := by
        have q := red_mul (a := wt ws z) (b := 1) (c := prodT heard) (d := prodB heard) (by decide) (by omega)
        rw [red_one_right] at q
        unfold timesP
        rw [q, Int.one_mul]
      rw [e3] at h3
      have lenr : rs.length = i := by rw [hS.len, List.length_map, List.length_take]; omega
      have n3 : ∀ q xs, SqT K H3 q xs → SqT K (upd H3 D0 (.lst (rs.map V.ref ++ [.ref p3]))) q xs := fun q xs h => by
        have hD : H3 D0 = some (.lst (rs.map V.ref)) := s5 _ _ h2
        exact But.seqT hD (fun b o nb e => by rw [upd_ne nb]; exact e) h
      refine ⟨_, s5 _ _ h2, by rw [List.length_map]; exact small1000 (by omega), fun b o e => ?_, rs ++ [p3], ?_, ?_⟩
      · rw [upd_ne (ne_of_none e n0)]
        exact s5 b o (s2 b o e)
      · rw [upd_same, List.map_append]
        rfl
      · rw [take_snoc hz, List.map_append]
        exact (hS.imp fun r y q => n3 _ _ (Same.seqT s5 q)).snoc (n3 _ _ h3)
    · rintro H' ⟨s2, rs, h2, hS⟩
      rw [take_all (by rw [List.length_map])] at hS
      refine ⟨D0, rs, cs.map (wt ws), prodT heard, prodB heard, rfl, SqL.of h2, hS, pT, by omega, by omega, B1, fun y hy => ?_, by rw [List.length_map]; exact c8, k.from (s1.trans s2)⟩
      obtain ⟨z, hz, rfl⟩ := List.mem_map.mp hy
      have q := wt_ok oW (hcs z hz).1 (hcs z hz).2
      omega
end
end Tk
set_option maxHeartbeats 4000000
namespace Tk
open PySem PySem.Spec PyProof.Rows L2
section
variable {P : Program} {w : World} {K : PySem.W.Frag} {mg : Str → Option Value} {base : Heap}
/-! ### e.said_in(k) -/
def tSaidK (K : PySem.W.Frag) (ta tb : TE) : TE := tMeth (telC K) "said_in" (spSaid K) [] E0 ta (tCons tb tNil)
theorem saidK {X : Cx} {e b : Expr} {ta tb : TE} {apos pos : Pos} {pl : Sem Bool} (K : PySem.W.Frag) (D : Dat K X.mg) (he : PE X e ta) (hb : PE X b tb) (hr : Room 1 X.A) (h : X.K = K := by rfl)
    (hst : starEach [b] X.env = (false, eval b X.env) :: starEach [] X.env := by rfl) (hpl : (backTo pos (starEach [] X.env)).any (·.1) = false := by rfl)
    (ht : eval (.Call (.Attribute e "said_in" apos) [b] [] pos) X.env = (do
      let ov ← eval e X.env
      standAt apos.atName
      let (f, first) ← holding [ov] (getMethod ov "said_in" pl)
      callWith pos f first (backTo pos (starEach [b] X.env)) (backToKw pos (keywordEach [] X.env))) := by rfl) : PE X (.Call (.Attribute e "said_in" apos) [b] [] pos) (tSaidK K ta tb) := by
  subst h
  obtain ⟨f, fd, hm, F⟩ := D.tel.sid
  exact pe_meth he D.tel.cl hm (ok_said_in D F) hr (F.bindsN fun _ _ _ _ _ _ us hl => match us, hl with | [_, _], _ => rfl) .nil pass0 (pa_cons hb pa_nil hst) hst hpl ht
theorem tSaid_of {σ : L2.St} {H H1 : Hp} {Q : VK} {t : Addr} {k : Int} {ws : List Int} {rows : List (List Int)} {ta tb : TE} (hte : TelAt K H1 t ws rows) (l16 : rows.length ≤ 16) (ha : ∀ R : VK, R (.ref t) H1 → ta σ H R) (hb : ∀ R : VK, R (.int k) H1 → tb σ H1 R)
    (q : RetT K H1 ((said rows k).map V.int) Q) : tSaidK K ta tb σ H Q := by
  obtain ⟨dx, p, a, b, h1, h2, h3, h4⟩ := id hte
  refine ha _ ⟨t, dx, _, rfl, h1, ?_, hb _ ⟨t, k, ws, rows, rfl, hte, l16, q⟩⟩
  have e : (("said_in" : Str) == "held") = false := by decide +kernel
  simp [List.lookup, e]
/-! ### bound_of -/
def spBound (K : PySem.W.Frag) : Sp := fun vs H Q _ => ∃ (t c : Addr) (ws cs : List Int) (rows : List (List Int)), vs = [.ref t, .ref c] ∧ TelAt K H t ws rows ∧ rows.length ≤ 16 ∧ IL K H c cs ∧ cs.length ≤ 8 ∧
  (∀ z ∈ cs, 0 ≤ z ∧ z < ws.length) ∧ RetT K H (prV (sumW ws (cs.filter (isBound rows)), 1)) Q
abbrev nmBound : List Str := ["teller", "cases", "case"]
theorem sc_bound_of : FnScope nmBound ["teller", "cases"] (defScope (top 47)) := ⟨rfl, rfl, rfl, by decide +kernel, rfl, by decide +kernel, by decide +kernel⟩
theorem has_bound_of (D : Dat K mg) : Has P w K mg base CX0 "bound_of" 3 ["teller", "cases"] (spBound K) := by
  refine has_mk D.bound_of sc_bound_of (fun vs H Q E h => ?_) (fun _ _ _ _ _ _ us hl => match us, hl with | [_, _], _ => rfl) (fun f cdv A outer s H vs Q E hr h => ?_)
  · obtain ⟨t, c, ws, cs, rows, rfl, _⟩ := h
    rfl
  · obtain ⟨t, c, ws, cs, rows, rfl, hte, l16, hC, c8, hcs, k⟩ := h
    have hr1 : Room 1 _ := hr.mono (by decide)
    refine ⟨_, pss_one (ps_ret (pe_tup (pa_cons (pe_callB (sumK K rfl) (by rfl) D.sum boot_sum (pa_cons
        (pe_lc (own := [("case", 2)]) (g := gName 2) (tt := tTest (tOp rEq (tCB (rLenK K) (tCons (tSaidK K (tVar 0) (tVar 2)) tNil)) (tC (.int 1)))) rfl sc_bound_of.nd (piL K (pv 1)) (blkOk_by (own := [("case", 2)]) (N := nmBound) (sc := defScope (top 47)) (by decide +kernel))
          (fun _ _ _ _ _ => pg_name (i := 2) sc_bound_of.nd rfl (Or.inl rfl)) (fun _ _ _ _ _ => pts_one (pt_cmpR op_eq (pe_callB (lenK K) (by rfl) D.len boot_len (pa_cons (saidK K D (pv 0) (pv 2) hr1) pa_nil)) pe_int (nomark _)))
          (fun _ _ _ _ _ => pe_ix (ixT K) (wtsK K D (pv 0) hr) (pv 2) (fun _ _ => rfl))) pa_nil)) (pa_cons pe_int pa_nil)))), ?_⟩
    refine ⟨_, rfl, c, rfl, ⟨_, hC⟩, fun D0 n0 => ?_⟩
    refine lc_list (K := K) (a := c) (xs := cs.map V.int) (fun i H' => Same H H' ∧ H' D0 = some (.lst ((((cs.take i).filter (isBound rows)).map (wt ws)).map V.int))) ⟨same_upd n0, upd_same⟩ (fun i H' _ q => q.1.seq hC) ?_ ?_
    · rintro i x H' hx ⟨s1, h1⟩
      obtain ⟨z, hz, rfl⟩ := map_get hx
      have zc := hcs z (List.mem_of_getElem? hz)
      refine ⟨rfl, ?_⟩
      change tSaidK K (tVar 0) (tVar 2) _ _ _
      refine tSaid_of (Same.tel s1 hte) l16 (fun R q => ⟨_, rfl, q⟩) (fun R q => ⟨_, rfl, q⟩) fun p H2 s2 h2 => ?_
      refine ⟨_, _, rfl, .inr ⟨_, h2, rfl⟩, rfl, _, rfl, ?_⟩
      have s3 := s1.trans s2
      have hb : decide (V.int ((((said rows z).map V.int).length : Nat) : Int) = V.int 1) = isBound rows z := by
        rw [List.length_map]
        unfold isBound
        by_cases c : (said rows z).length = 1
        · rw [c]; rfl
        · rw [decide_eq_false (fun e => c (by injection e with e; omega))]
          exact (beq_eq_false_iff_ne.mpr c).symm
      refine (?_ : if decide (V.int ((((said rows z).map V.int).length : Nat) : Int) = V.int 1) = true then _ else _)
      rw [hb]
      cases cb : isBound rows z with
      | true =>
        refine iteT ?_
        change tWts K (tVar 0) _ _ _
        refine tWts_of (Same.tel s3 hte) (fun R q => ⟨_, rfl, q⟩) fun a hW => ⟨_, rfl, a, _, _, .int (wt ws z), rfl, rfl, hW, at_of (j := z.toNat) (by omega) (by rw [List.getElem?_map, wt_at zc.1 zc.2] <;> rfl), _, s2 _ _ h1, ?_, fun b o e => ?_, ?_⟩
        · rw [List.length_map, List.length_map]
          have q1 := List.length_filter_le (isBound rows) (cs.take i)
          rw [List.length_take] at q1
          exact small1000 (by omega)
        · rw [upd_ne (ne_of_none e n0)]
          exact s3 b o e
        · rw [upd_same, take_snoc hz, List.filter_append, List.filter_cons_of_pos (p := isBound rows) cb, List.map_append, List.map_append]
          rfl
      | false =>
        refine iteF ⟨s3, ?_⟩
        rw [s2 _ _ h1, take_snoc hz, List.filter_append, List.filter_cons_of_neg (p := isBound rows) (by rw [cb]; exact Bool.false_ne_true), List.filter_nil, List.append_nil]
    · rintro H' ⟨s1, h1⟩
      rw [take_all (by rw [List.length_map])] at h1
      refine ⟨D0, _, rfl, SqL.of h1, (by show 2 ≤ sizeLine; decide), ?_⟩
      exact k.new s1
/-! ### raise NeverHeard() -/
theorem pmk_bare {X : Cx} {C : Addr} {bmB : List Value} {B newId initId : String} {x : Str} {p pos : Pos} (F : ExcBaseFacts B newId initId bmB) (q : PySem.W.excIn X.K C bmB newId = true) (gC : X.mg x = some (.ref C)) (kC : PySem.W.keepIn X.K (.ref C) = true) (r : Raises X (.ref C)) (hg : Gl X x)
    (hdb : (x == ("__debug__" : Str)) = false := by decide) : PMk X (.Call (.Name x p) [] [] pos) (fun _ H Q => Q (.ref C) none H) := by
  intro pins s σ H Q I h
  refine wpAny_Call_Name_kw (ld_glob I hg gC (PySem.W.callWith_K0 I.kIn kC ?_) hdb)
  obtain ⟨bm, N, nm, qn, bs, hdct, sn, sub, ab, col, dd, k0, k1, k2, k3, k5, mN, hC, hN, hni, T⟩ := exc_obj I.kIn q
  exact wpAny_call_exc_subT F T hC hN hni (fun h' e hm => mk_of I hm r h (I.hok.gone hm.new)) (Nat.zero_le _)
/-! ### check_repeats -/
def spRep (K : PySem.W.Frag) : Sp := fun vs H Q E => ∃ (t h l : Addr) (ws heard lot : List Int) (rows : List (List Int)), vs = [.ref t, .ref h, .ref l] ∧ TelAt K H t ws rows ∧ OkW ws ∧ rows.length ≤ 16 ∧ IT K H h heard ∧ OkH rows.length heard ∧ IT K H l lot ∧ AscIn ws.length lot ∧
  (openC ws.length rows heard ≠ [] → ∀ H', Same H H' → Q .non H') ∧ (openC ws.length rows heard = [] → ∀ H', Same H H' → E (.ref (nvC K)) none H')
theorem sc_check_repeats : FnScope ["teller", "heard", "lot"] ["teller", "heard", "lot"] (defScope (top 48)) := ⟨rfl, rfl, rfl, by decide +kernel, rfl, by decide +kernel, by decide +kernel⟩
theorem has_check_repeats (D : Dat K mg) : Has P w K mg base (L2.CX P w) "check_repeats" 4 ["teller", "heard", "lot"] (spRep K) := by
  refine has_mkX D.check_repeats sc_check_repeats (fun vs H Q E h => ?_) (fun _ _ _ _ _ _ us hl => match us, hl with | [_, _, _], _ => rfl) (fun f cdv A outer s H vs Q E hr h => ?_)
  · obtain ⟨t, h, l, ws, heard, lot, rows, rfl, _⟩ := h
    rfl
  · obtain ⟨t, h, l, ws, heard, lot, rows, rfl, hte, oW, l16, hH, oH, hL, hA, k1, k2⟩ := h
    have hu := hr.units
    refine ⟨_, pss_cons (ps_expr (pe_f (has_check_teller D) (hr.mono (by decide)) rfl (pa_cons (pv 0) pa_nil)))
      (pss_cons (ps_expr (pe_f (has_check_heard D) hr rfl (pa_cons (pv 0) (pa_cons (pv 1) pa_nil))))
      (pss_cons (ps_expr (pe_f (has_check_lot D) hr rfl (pa_cons (pv 0) (pa_cons (pv 2) pa_nil))))
      (pss_one (ps_if (pt_cmpR (eqK K hu) (pe_f (has_left_for D) hr rfl (pa_cons (pv 0) (pa_cons (pv 1) pa_nil))) (pe_tup pa_nil) (nomark _))
        (pss_one (ps_raise rfl (takes_of rfl rfl rfl rfl) (pmk_bare PySem.F.excBase_ArithmeticError D.nv.ex D.nv.gC D.nv.kp (raises_own D.nv.sb D.nv.ty) (by rfl)))) pss_nil)))), ?_⟩
    refine ⟨_, rfl, t, ws, rows, rfl, hte, ?_⟩
    refine ⟨_, rfl, _, rfl, t, h, ws, heard, rows, rfl, hte, hH, oH.1, by have := oH.2.1; omega, l16, oH.2.2, fun H1 s1 => ?_⟩
    refine ⟨_, rfl, _, rfl, t, l, ws, lot, rows, rfl, Same.tel s1 hte, Same.seqT s1 hL, hA, oW.2.1, fun H2 s2 => ?_⟩
    have s3 := s1.trans s2
    refine ⟨_, rfl, _, rfl, t, h, ws, heard, rows, rfl, Same.tel s3 hte, Same.seqT s3 hH, oH, oW.2.1, fun p H3 s4 h4 => ?_⟩
    have s5 := s3.trans s4
    refine ⟨Nat.zero_le _, fun p0 n0 => ⟨_, _, dp_tI (Same.seqT (same_upd n0) h4), dp_t0 (SqT.of upd_same), sh_tI _, sh_t0, _, rfl, ?_⟩⟩
    rw [eqv_t0]
    have s6 : Same H (upd H3 p0 (.tup [])) := s5.trans (same_upd n0)
    cases e : openC ws.length rows heard with
    | nil => exact iteT (k2 e _ s6)
    | cons z r => exact iteF (k1 (by rw [e]; exact nofun) _ s6)
end
end Tk
set_option maxHeartbeats 4000000
namespace Tk
open PySem PySem.Spec PyProof.Rows L2
theorem open_mem {n : Nat} {rows : List (List Int)} {heard : List Int} {k : Int} (h : k ∈ openC n rows heard) : 0 ≤ k ∧ k < n := mem_upTo.mp (List.mem_filter.mp h).1
theorem open_len (n : Nat) (rows : List (List Int)) (heard : List Int) : (openC n rows heard).length ≤ n := by
  have := List.length_filter_le (isOpen rows heard) (upTo n)
  rw [upTo_len] at this
  exact this
theorem sumW_bnd {ws l : List Int} (o : OkW ws) (hl : l.length ≤ 8) (hm : ∀ z ∈ l, 0 ≤ z ∧ z < ws.length) : 0 ≤ sumW ws l ∧ sumW ws l ≤ 8000000 := by
  have h1 := sumW_nn (loads := ws) (l := l) fun k hk => by have := wt_ok o (hm k hk).1 (hm k hk).2; omega
  have h2 := sumW_le (loads := ws) (c := 1000000) (l := l) fun k hk => (wt_ok o (hm k hk).1 (hm k hk).2).2
  omega
theorem mulT_bnd {S T : Int} (h0 : 0 ≤ S) (h1 : S ≤ 8000000) (t0 : 0 ≤ T) (t1 : T ≤ 46656) : 0 ≤ S * T ∧ S * T ≤ 373248000000 := by
  have a := Int.mul_nonneg h0 t0
  have b : S * T ≤ 8000000 * 46656 := Int.mul_le_mul h1 t1 t0 (by decide)
  omega
def keepB (neg : Bool) (lot : List Int) (k : Int) : Bool := if neg = true then !inB k lot else inB k lot
section
variable {P : Program} {w : World} {K : PySem.W.Frag} {mg : Str → Option Value} {base : Heap}
/-- [case for case in left if case in lot], not in -/
theorem lcF {neg : Bool} {H : Hp} {t h l lf : Addr} {v4 v5 v6 : Option V} {ls lot : List Int} {Q : VK} (hf : IT K H lf ls) (hl : IT K H l lot) (l8 : ls.length ≤ 8)
    (q : ∀ D H', Same H H' → H' D = some (.lst ((ls.filter (keepB neg lot)).map V.int)) → Q (.ref D) H') :
    tLc (iTup K (tVar 3)) (gName 6) (tTest (tOp (rIn K neg) (tVar 6) (tVar 2))) (tVar 6) [6] [some (.ref t), some (.ref h), some (.ref l), some (.ref lf), v4, v5, v6] H Q := by
  refine ⟨_, rfl, lf, rfl, ⟨_, hf⟩, fun D0 n0 => ?_⟩
  refine lc_tup (K := K) (a := lf) (xs := ls.map V.int) (fun i H' => Same H H' ∧ H' D0 = some (.lst (((ls.take i).filter (keepB neg lot)).map V.int))) ⟨same_upd n0, upd_same⟩ (fun i H' _ q => Same.seqT q.1 hf) ?_ ?_
  · rintro i x H' hx ⟨s1, h1⟩
    obtain ⟨z, hz, rfl⟩ := map_get hx
    refine ⟨rfl, _, rfl, _, rfl, l, _, rfl, .inr (Same.seqT s1 hl), rfl, flat_ints _, _, rfl, ?_⟩
    refine (?_ : if (if neg = true then !inV (V.int z) (lot.map V.int) else inV (V.int z) (lot.map V.int)) = true then _ else _)
    rw [inV_int]
    have e : (if neg = true then !inB z lot else inB z lot) = keepB neg lot z := rfl
    rw [e]
    cases c : keepB neg lot z with
    | true =>
      refine iteT ⟨_, rfl, _, h1, ?_, fun b o e => ?_, ?_⟩
      · rw [List.length_map]
        have q1 := List.length_filter_le (keepB neg lot) (ls.take i)
        rw [List.length_take] at q1
        exact small1000 (by omega)
      · rw [upd_ne (ne_of_none e n0)]
        exact s1 b o e
      · rw [upd_same, take_snoc hz, List.filter_append, List.filter_cons_of_pos (p := keepB neg lot) c, List.map_append]
        rfl
    | false =>
      refine iteF ⟨s1, ?_⟩
      rw [h1, take_snoc hz, List.filter_append, List.filter_cons_of_neg (p := keepB neg lot) (by rw [c]; exact Bool.false_ne_true), List.filter_nil, List.append_nil]
  · rintro H' ⟨s1, h1⟩
    rw [take_all (by rw [List.length_map])] at h1
    exact q D0 H' s1 h1
def spAfter (K : PySem.W.Frag) (val : List Int → List (List Int) → List Int → List Int → Int × Int) : Sp := fun vs H Q E => ∃ (t h l : Addr) (ws heard lot : List Int) (rows : List (List Int)), vs = [.ref t, .ref h, .ref l] ∧ TelAt K H t ws rows ∧ OkW ws ∧ rows.length ≤ 16 ∧ IT K H h heard ∧ OkH rows.length heard ∧ IT K H l lot ∧ AscIn ws.length lot ∧
  (openC ws.length rows heard ≠ [] → RetT K H (prV (val ws rows heard lot)) Q) ∧ (openC ws.length rows heard = [] → ∀ H', Same H H' → E (.ref (nvC K)) none H')
abbrev nmLeast : List Str := ["teller", "heard", "lot", "left", "outside", "sure", "case"]
abbrev nmGreat : List Str := ["teller", "heard", "lot", "left", "inside", "most", "case"]
theorem sc_least_after : FnScope nmLeast ["teller", "heard", "lot"] (defScope (top 49)) := ⟨rfl, rfl, rfl, by decide +kernel, rfl, by decide +kernel, by decide +kernel⟩
theorem sc_greatest_after : FnScope nmGreat ["teller", "heard", "lot"] (defScope (top 50)) := ⟨rfl, rfl, rfl, by decide +kernel, rfl, by decide +kernel, by decide +kernel⟩
theorem ok_pair1 {S : Int} (h0 : 0 ≤ S) (h1 : S ≤ 8000000) : Ok64 (S, 1) := ⟨h0, by show S < 2 ^ 64; omega, by show (0 : Int) < 1; decide, by show (1 : Int) < 2 ^ 64; decide⟩
/-- Has, with the def's own data told -/
def HasD (P : Program) (w : World) (K : PySem.W.Frag) (mg : Str → Option Value) (base : Heap) (CX : CXT) (x : Str) (k : Nat) (ps : List Str) (sp : Sp) (st : Stmt) : Prop :=
  ∃ f fd, mg x = some (.ref f) ∧ PySem.W.keepIn K (.ref f) = true ∧ FnOk P w K mg base CX k f fd ps sp ∧ Binds K fd ps [] ∧ FnP K x x st f fd
theorem HasD.has {CX : CXT} {x : Str} {k : Nat} {ps : List Str} {sp : Sp} {st : Stmt} (h : HasD P w K mg base CX x k ps sp st) : Has P w K mg base CX x k ps sp := by
  obtain ⟨f, fd, a, b, c, d, _⟩ := h
  exact ⟨f, fd, a, b, c, d⟩
theorem has_mkD {x : Str} {st : Stmt} {N ps : List Str} {k : Nat} {sp : Sp} (h : DefAt K mg x st) (S : FnScope N ps (defScope st)) (len : ∀ vs H Q E, sp vs H Q E → vs.length = ps.length)
    (hb : ∀ (kV doc pm : Value) (an : Option Addr) (cdv ct : Value) (us : List Value), us.length = ps.length → bindArgs (PySem.W.fnOf x x (defArgs st) (defBody st) (defScope st) .none kV doc pm an cdv ct) ⟨us, []⟩ = pure (ps.zip us))
    (body : ∀ (f : Addr) (cdv : Value) (A : Around) (outer : List Env) (s : Shared) (H : Hp) (vs : List V) (Q : VK) (E : XK), Room k (A.deeper (envOfC x (defScope st) s.heap.objs.size f cdv)) → sp vs H Q E →
      ∃ t, PSs (cxOf (L2.CX P w) P w K mg base N x (defScope st) f cdv A outer s H E) (defBody st) t ∧ t { nx := fun _ H' => Q .non H', rt := Q } (start N vs) H) : HasD P w K mg base (L2.CX P w) x (k + 1) ps sp st := by
  obtain ⟨f, fd, hm, F⟩ := h
  exact ⟨f, fd, hm, F.kp, F.ok S len fun cdv A outer s H vs Q E hr hsp => body f cdv A outer s H vs Q E hr hsp, F.bindsN hb, F⟩
theorem has_least_after (D : Dat K mg) : HasD P w K mg base (L2.CX P w) "least_after" 6 ["teller", "heard", "lot"] (spAfter K lowV) (top 49) := by
  refine has_mkD D.least_after sc_least_after (fun vs H Q E h => ?_) (fun _ _ _ _ _ _ us hl => match us, hl with | [_, _, _], _ => rfl) (fun f cdv A outer s H vs Q E hr h => ?_)
  · obtain ⟨t, h, l, ws, heard, lot, rows, rfl, _⟩ := h
    rfl
  · obtain ⟨t, h, l, ws, heard, lot, rows, rfl, hte, oW, l16, hH, oH, hL, hA, k1, k2⟩ := h
    have hu := hr.units
    obtain ⟨fR, fdR, hmR, hkR, FR, hbR⟩ := has_check_repeats (P := P) (w := w) (base := base) D
    obtain ⟨aw, gw, hw⟩ := D.WHOLE
    refine ⟨_, pss_cons (ps_expr (pe_callS FR (hr.mono (by decide)) rfl hmR hkR hbR (fun σ => passAt (takes_of (E := E) rfl rfl rfl rfl) σ) (pa_cons (pv 0) (pa_cons (pv 1) (pa_cons (pv 2) pa_nil)))))
      (pss_cons (ps_set (i := 3) sc_least_after.nd rfl (Or.inl rfl) (pe_f (has_left_for D) (hr.mono (by decide)) rfl (pa_cons (pv 0) (pa_cons (pv 1) pa_nil))))
      (pss_cons (ps_setLc (i := 4) (own := [("case", 6)]) (g := gName 6) (tt := tTest (tOp (rIn K true) (tVar 6) (tVar 2))) rfl sc_least_after.nd rfl rfl (sw_true rfl rfl rfl (by decide +kernel)) (piT K (pv 3))
        (blkOk_by (own := [("case", 6)]) (N := nmLeast) (sc := defScope (top 49)) (by decide +kernel)) (fun _ _ _ _ _ => pg_name (i := 6) sc_least_after.nd rfl (Or.inl rfl)) (fun _ _ _ _ _ => pts_one (pt_cmpR (ninK K) (pv 6) (pv 2) (by rfl))) (fun _ _ _ _ _ => pv 6))
      (pss_cons (ps_if (pt_cmpR (eqK K hu) (pv 4) (pe_lst pa_nil) (nomark _)) (pss_one (ps_ret (pe_glob (v := .ref aw) rfl gw rfl))) pss_nil)
      (pss_cons (ps_set (i := 5) sc_least_after.nd rfl (Or.inl rfl) (pe_f (has_bound_of D) (hr.mono (by decide)) rfl (pa_cons (pv 0) (pa_cons
        (pe_lc (own := [("case", 6)]) (g := gName 6) (tt := tTest (tOp (rIn K false) (tVar 6) (tVar 2))) rfl sc_least_after.nd (piT K (pv 3))
          (blkOk_by (own := [("case", 6)]) (N := nmLeast) (sc := defScope (top 49)) (by decide +kernel)) (fun _ _ _ _ _ => pg_name (i := 6) sc_least_after.nd rfl (Or.inl rfl)) (fun _ _ _ _ _ => pts_one (pt_cmpR (inK K) (pv 6) (pv 2) (by rfl))) (fun _ _ _ _ _ => pv 6)) pa_nil))))
      (pss_one (ps_ret (pe_f (has_over D) (hr.mono (by decide)) rfl (pa_cons (pv 5) (pa_cons (pe_f (has_plus D) (hr.mono (by decide)) rfl (pa_cons (pv 5) (pa_cons
        (pe_f (has_most_of D) (hr.mono (by decide)) rfl (pa_cons (pv 0) (pa_cons (pv 1) (pa_cons (pv 4) pa_nil)))) pa_nil))) pa_nil))))))))), ?_⟩
    refine ⟨_, rfl, _, rfl, _, rfl, t, h, l, ws, heard, lot, rows, rfl, hte, oW, l16, hH, oH, hL, hA, fun hne H1 s1 => ?_, k2⟩
    have ret := k1 hne
    have pT := prodT_pos heard
    have TB := prodT_le heard
    have B1 := prodB_le oH.2.1
    have olen := open_len ws.length rows heard
    refine ⟨_, rfl, _, rfl, t, h, ws, heard, rows, rfl, Same.tel s1 hte, Same.seqT s1 hH, oH, oW.2.1, fun lf H2 s2 h2 => ?_⟩
    have e2 := s1.trans s2
    try dsimp only [gName, tSeq, tAsg, tCall, tCons, tNil]
    change tLc (iTup K (tVar 3)) (gName 6) (tTest (tOp (rIn K true) (tVar 6) (tVar 2))) (tVar 6) [6] [some (.ref t), some (.ref h), some (.ref l), some (.ref lf), none, none, none] H2 _
    refine lcF h2 (Same.seqT e2 hL) (by have := oW.2.1; omega) fun Do H3 s3 h3 => ?_
    have e3 := e2.trans s3
    have eO : (openC ws.length rows heard).filter (keepB true lot) = outC ws.length rows heard lot := rfl
    rw [eO] at h3
    have hO : ∀ z ∈ outC ws.length rows heard lot, 0 ≤ z ∧ z < ws.length := fun z hz => open_mem (List.mem_filter.mp hz).1
    have lO : (outC ws.length rows heard lot).length ≤ 8 := by
      have q := List.length_filter_le (fun k => !inB k lot) (openC ws.length rows heard)
      have := oW.2.1
      unfold outC
      omega
    refine ⟨_, rfl, Nat.zero_le _, fun p0 n0 => ⟨_, _, dp_lI (SqL.of ((upd_ne (ne_of_none h3 n0)).trans h3)), dp_l0 (SqL.of upd_same), sh_lI _, sh_l0, _, rfl, ?_⟩⟩
    rw [eqv_l0]
    have s4 : Same H3 (upd H3 p0 (.lst [])) := same_upd n0
    have e4 := e3.trans s4
    by_cases c : outC ws.length rows heard lot = []
    · have el : lowV ws rows heard lot = (1, 1) := if_pos c
      rw [el] at ret
      rw [c]
      exact iteT (ret aw _ e4 (hw _))
    · have emp : (dI (outC ws.length rows heard lot)).isEmpty = false := by
        cases q : outC ws.length rows heard lot with
        | nil => exact absurd q c
        | cons a b => rfl
      refine ifF_of emp ?_
      have el : lowV ws rows heard lot = red (sumW ws ((innC ws.length rows heard lot).filter (isBound rows)) * prodB heard) (sumW ws ((innC ws.length rows heard lot).filter (isBound rows)) * prodB heard + sumW ws (outC ws.length rows heard lot) * prodT heard) := if_neg c
      rw [el] at ret
      refine ⟨_, rfl, ?_⟩
      try dsimp only [gName, tSeq, tAsg, tCall, tCons, tNil]
      change tLc (iTup K (tVar 3)) (gName 6) (tTest (tOp (rIn K false) (tVar 6) (tVar 2))) (tVar 6) [6] [some (.ref t), some (.ref h), some (.ref l), some (.ref lf), some (.ref Do), none, none] _ _
      refine lcF (Same.seqT (s3.trans s4) h2) (Same.seqT e4 hL) (by have := oW.2.1; omega) fun Di H5 s5 h5 => ?_
      have e5 := e4.trans s5
      have eI : (openC ws.length rows heard).filter (keepB false lot) = innC ws.length rows heard lot := rfl
      rw [eI] at h5
      have hI : ∀ z ∈ innC ws.length rows heard lot, 0 ≤ z ∧ z < ws.length := fun z hz => open_mem (List.mem_filter.mp hz).1
      have lI : (innC ws.length rows heard lot).length ≤ 8 := by
        have q := List.length_filter_le (fun k => inB k lot) (openC ws.length rows heard)
        have := oW.2.1
        unfold innC
        omega
      refine ⟨t, Di, ws, _, rows, rfl, Same.tel e5 hte, l16, SqL.of h5, lI, hI, fun ps H6 s6 h6 => ?_⟩
      have e6 := e5.trans s6
      have h3' := s6 _ _ (s5 _ _ (s4 _ _ h3))
      have bS := sumW_bnd (l := (innC ws.length rows heard lot).filter (isBound rows)) oW (Nat.le_trans (List.length_filter_le _ _) lI) fun z hz => hI z (List.mem_filter.mp hz).1
      have bO := sumW_bnd oW lO hO
      have pO : 0 < sumW ws (outC ws.length rows heard lot) := sumW_pos (fun z hz => (wt_ok oW (hO z hz).1 (hO z hz).2).1) c
      generalize sumW ws ((innC ws.length rows heard lot).filter (isBound rows)) = S at *
      refine ⟨_, rfl, _, rfl, _, rfl, _, rfl, _, rfl, t, h, Do, ws, heard, _, rows, rfl, Same.tel e6 hte, oW, Same.seqT e6 hH, oH.1, oH.2.1, SqL.of h3', lO, hO, fun p7 H7 s7 h7 => ?_⟩
      generalize sumW ws (outC ws.length rows heard lot) = O at *
      have mO := mulT_bnd bO.1 bO.2 (Int.le_of_lt pT) (by omega)
      have mS := mulT_bnd bS.1 bS.2 (T := prodB heard) (by omega) B1
      have pOT : 0 < O * prodT heard := Int.mul_pos pO pT
      refine ⟨ps, p7, (S, 1), _, rfl, Same.seqT s7 h6, h7, ok_pair1 bS.1 bS.2, ok64_red mO.1 (by omega) (by omega) (by omega), trivial, fun p8 H8 s8 h8 => ?_⟩
      rw [plus_low (by omega)] at h8
      refine ⟨ps, p8, (S, 1), _, rfl, Same.seqT (s7.trans s8) h6, h8, ok_pair1 bS.1 bS.2, ok64_red (by omega) (by omega) (by omega) (by omega), red_pos_fst (by omega) (by omega), fun p9 H9 s9 h9 => ?_⟩
      rw [over_low (by omega) (by omega)] at h9
      exact ret p9 H9 (((e6.trans s7).trans s8).trans s9) h9
theorem has_greatest_after (D : Dat K mg) : HasD P w K mg base (L2.CX P w) "greatest_after" 6 ["teller", "heard", "lot"] (spAfter K highV) (top 50) := by
  refine has_mkD D.greatest_after sc_greatest_after (fun vs H Q E h => ?_) (fun _ _ _ _ _ _ us hl => match us, hl with | [_, _, _], _ => rfl) (fun f cdv A outer s H vs Q E hr h => ?_)
  · obtain ⟨t, h, l, ws, heard, lot, rows, rfl, _⟩ := h
    rfl
  · obtain ⟨t, h, l, ws, heard, lot, rows, rfl, hte, oW, l16, hH, oH, hL, hA, k1, k2⟩ := h
    have hu := hr.units
    obtain ⟨fR, fdR, hmR, hkR, FR, hbR⟩ := has_check_repeats (P := P) (w := w) (base := base) D
    obtain ⟨aw, gw, hw⟩ := D.NONE
    refine ⟨_, pss_cons (ps_expr (pe_callS FR (hr.mono (by decide)) rfl hmR hkR hbR (fun σ => passAt (takes_of (E := E) rfl rfl rfl rfl) σ) (pa_cons (pv 0) (pa_cons (pv 1) (pa_cons (pv 2) pa_nil)))))
      (pss_cons (ps_set (i := 3) sc_greatest_after.nd rfl (Or.inl rfl) (pe_f (has_left_for D) (hr.mono (by decide)) rfl (pa_cons (pv 0) (pa_cons (pv 1) pa_nil))))
      (pss_cons (ps_setLc (i := 4) (own := [("case", 6)]) (g := gName 6) (tt := tTest (tOp (rIn K false) (tVar 6) (tVar 2))) rfl sc_greatest_after.nd rfl rfl (sw_true rfl rfl rfl (by decide +kernel)) (piT K (pv 3))
        (blkOk_by (own := [("case", 6)]) (N := nmGreat) (sc := defScope (top 50)) (by decide +kernel)) (fun _ _ _ _ _ => pg_name (i := 6) sc_greatest_after.nd rfl (Or.inl rfl)) (fun _ _ _ _ _ => pts_one (pt_cmpR (inK K) (pv 6) (pv 2) (by rfl))) (fun _ _ _ _ _ => pv 6))
      (pss_cons (ps_if (pt_cmpR (eqK K hu) (pv 4) (pe_lst pa_nil) (nomark _)) (pss_one (ps_ret (pe_glob (v := .ref aw) rfl gw rfl))) pss_nil)
      (pss_cons (ps_set (i := 5) sc_greatest_after.nd rfl (Or.inl rfl) (pe_f (has_most_of D) (hr.mono (by decide)) rfl (pa_cons (pv 0) (pa_cons (pv 1) (pa_cons (pv 4) pa_nil)))))
      (pss_one (ps_ret (pe_f (has_over D) (hr.mono (by decide)) rfl (pa_cons (pv 5) (pa_cons (pe_f (has_plus D) (hr.mono (by decide)) rfl (pa_cons (pv 5) (pa_cons
        (pe_f (has_bound_of D) (hr.mono (by decide)) rfl (pa_cons (pv 0) (pa_cons
          (pe_lc (own := [("case", 6)]) (g := gName 6) (tt := tTest (tOp (rIn K true) (tVar 6) (tVar 2))) rfl sc_greatest_after.nd (piT K (pv 3))
            (blkOk_by (own := [("case", 6)]) (N := nmGreat) (sc := defScope (top 50)) (by decide +kernel)) (fun _ _ _ _ _ => pg_name (i := 6) sc_greatest_after.nd rfl (Or.inl rfl)) (fun _ _ _ _ _ => pts_one (pt_cmpR (ninK K) (pv 6) (pv 2) (by rfl))) (fun _ _ _ _ _ => pv 6)) pa_nil))) pa_nil))) pa_nil))))))))), ?_⟩
    refine ⟨_, rfl, _, rfl, _, rfl, t, h, l, ws, heard, lot, rows, rfl, hte, oW, l16, hH, oH, hL, hA, fun hne H1 s1 => ?_, k2⟩
    have ret := k1 hne
    have pT := prodT_pos heard
    have TB := prodT_le heard
    have B1 := prodB_le oH.2.1
    have olen := open_len ws.length rows heard
    refine ⟨_, rfl, _, rfl, t, h, ws, heard, rows, rfl, Same.tel s1 hte, Same.seqT s1 hH, oH, oW.2.1, fun lf H2 s2 h2 => ?_⟩
    have e2 := s1.trans s2
    try dsimp only [gName, tSeq, tAsg, tCall, tCons, tNil]
    change tLc (iTup K (tVar 3)) (gName 6) (tTest (tOp (rIn K false) (tVar 6) (tVar 2))) (tVar 6) [6] [some (.ref t), some (.ref h), some (.ref l), some (.ref lf), none, none, none] H2 _
    refine lcF h2 (Same.seqT e2 hL) (by have := oW.2.1; omega) fun Di H3 s3 h3 => ?_
    have e3 := e2.trans s3
    have eI : (openC ws.length rows heard).filter (keepB false lot) = innC ws.length rows heard lot := rfl
    rw [eI] at h3
    have hI : ∀ z ∈ innC ws.length rows heard lot, 0 ≤ z ∧ z < ws.length := fun z hz => open_mem (List.mem_filter.mp hz).1
    have lI : (innC ws.length rows heard lot).length ≤ 8 := by
      have q := List.length_filter_le (fun k => inB k lot) (openC ws.length rows heard)
      have := oW.2.1
      unfold innC
      omega
    refine ⟨_, rfl, Nat.zero_le _, fun p0 n0 => ⟨_, _, dp_lI (SqL.of ((upd_ne (ne_of_none h3 n0)).trans h3)), dp_l0 (SqL.of upd_same), sh_lI _, sh_l0, _, rfl, ?_⟩⟩
    rw [eqv_l0]
    have s4 : Same H3 (upd H3 p0 (.lst [])) := same_upd n0
    have e4 := e3.trans s4
    by_cases c : innC ws.length rows heard lot = []
    · have el : highV ws rows heard lot = (0, 1) := if_pos c
      rw [el] at ret
      rw [c]
      exact iteT (ret aw _ e4 (hw _))
    · have emp : (dI (innC ws.length rows heard lot)).isEmpty = false := by
        cases q : innC ws.length rows heard lot with
        | nil => exact absurd q c
        | cons a b => rfl
      refine ifF_of emp ?_
      have el : highV ws rows heard lot = red (sumW ws (innC ws.length rows heard lot) * prodT heard) (sumW ws (innC ws.length rows heard lot) * prodT heard + sumW ws ((outC ws.length rows heard lot).filter (isBound rows)) * prodB heard) := if_neg c
      rw [el] at ret
      refine ⟨_, rfl, _, rfl, _, rfl, t, h, Di, ws, heard, _, rows, rfl, Same.tel e4 hte, oW, Same.seqT e4 hH, oH.1, oH.2.1, SqL.of (s4 _ _ h3), lI, hI, fun pm H5 s5 h5 => ?_⟩
      have e5 := e4.trans s5
      refine ⟨_, rfl, _, rfl, _, rfl, ?_⟩
      try dsimp only [gName, tSeq, tAsg, tCall, tCons, tNil]
      change tLc (iTup K (tVar 3)) (gName 6) (tTest (tOp (rIn K true) (tVar 6) (tVar 2))) (tVar 6) [6] [some (.ref t), some (.ref h), some (.ref l), some (.ref lf), some (.ref Di), some (.ref pm), none] _ _
      refine lcF (Same.seqT ((s3.trans s4).trans s5) h2) (Same.seqT e5 hL) (by have := oW.2.1; omega) fun Do H6 s6 h6 => ?_
      have e6 := e5.trans s6
      have eO : (openC ws.length rows heard).filter (keepB true lot) = outC ws.length rows heard lot := rfl
      rw [eO] at h6
      have hO : ∀ z ∈ outC ws.length rows heard lot, 0 ≤ z ∧ z < ws.length := fun z hz => open_mem (List.mem_filter.mp hz).1
      have lO : (outC ws.length rows heard lot).length ≤ 8 := by
        have q := List.length_filter_le (fun k => !inB k lot) (openC ws.length rows heard)
        have := oW.2.1
        unfold outC
        omega
      have bU := sumW_bnd (l := (outC ws.length rows heard lot).filter (isBound rows)) oW (Nat.le_trans (List.length_filter_le _ _) lO) fun z hz => hO z (List.mem_filter.mp hz).1
      have bI := sumW_bnd oW lI hI
      have pI : 0 < sumW ws (innC ws.length rows heard lot) := sumW_pos (fun z hz => (wt_ok oW (hI z hz).1 (hI z hz).2).1) c
      refine ⟨t, Do, ws, _, rows, rfl, Same.tel e6 hte, l16, SqL.of h6, lO, hO, fun p7 H7 s7 h7 => ?_⟩
      generalize sumW ws ((outC ws.length rows heard lot).filter (isBound rows)) = U at *
      generalize sumW ws (innC ws.length rows heard lot) = I at *
      have mI := mulT_bnd bI.1 bI.2 (Int.le_of_lt pT) (by omega)
      have mU := mulT_bnd bU.1 bU.2 (T := prodB heard) (by omega) B1
      have pIT : 0 < I * prodT heard := Int.mul_pos pI pT
      have okm : Ok64 (red (I * prodT heard) (prodB heard)) := ok64_red mI.1 (by omega) (by omega) (by omega)
      refine ⟨pm, p7, _, (U, 1), rfl, Same.seqT (s6.trans s7) h5, h7, okm, ok_pair1 bU.1 bU.2, trivial, fun p8 H8 s8 h8 => ?_⟩
      rw [plus_high (by omega)] at h8
      refine ⟨pm, p8, _, _, rfl, Same.seqT ((s6.trans s7).trans s8) h5, h8, okm, ok64_red (by omega) (by omega) (by omega) (by omega), red_pos_fst (by omega) (by omega), fun p9 H9 s9 h9 => ?_⟩
      rw [over_high (by omega) (by omega)] at h9
      exact ret p9 H9 (((e6.trans s7).trans s8).trans s9) h9
end
end Tk
set_option maxHeartbeats 4000000
namespace Tk
open PySem PySem.Spec PyProof.Rows L2
section
variable {P : Program} {w : World} {K : PySem.W.Frag} {mg : Str → Option Value} {base : Heap}
/-- a vat stands at v -/
def VatAt (H : Hp) (v : Addr) : Prop := ∃ x y z : Int, H v = some (.lst [.int x, .int y, .int z]) ∧ 0 ≤ x ∧ 0 ≤ y ∧ y < 2147483423
theorem VatAt.same {H H' : Hp} {v : Addr} (s : Same H H') (h : VatAt H v) : VatAt H' v := by
  obtain ⟨x, y, z, h, r⟩ := h
  exact ⟨x, y, z, s _ _ h, r⟩
theorem VatAt.upd {H : Hp} {v p : Addr} {o : HO} (n : v ≠ p) (h : VatAt H v) : VatAt (L2.upd H p o) v := by
  obtain ⟨x, y, z, h, r⟩ := h
  exact ⟨x, y, z, by rw [upd_ne n]; exact h, r⟩
/-! ### _law_tap -/
def spTap : Sp := fun vs H Q _ => ∃ (v : Addr) (t : Int), vs = [.ref v, .int t] ∧ VatAt H v ∧ 1 ≤ t ∧ t ≤ 1000000 ∧ ∀ d H', 0 ≤ d → d < t → But v H H' → VatAt H' v → Q (.int d) H'
abbrev nmTap : List Str := ["_law_vat_here", "_law_top", "_law_digit"]
theorem sc_tap : FnScope nmTap ["_law_vat_here", "_law_top"] (defScope (top 53)) := ⟨rfl, rfl, rfl, by decide +kernel, rfl, by decide +kernel, by decide +kernel⟩
theorem has_tap (D : Dat K mg) : Has P w K mg base CX0 "_law_tap" 1 ["_law_vat_here", "_law_top"] spTap := by
  refine has_mk D.law_tap sc_tap (fun vs H Q E h => ?_) (fun _ _ _ _ _ _ us hl => match us, hl with | [_, _], _ => rfl) (fun f cdv A outer s H vs Q E hr h => ?_)
  · obtain ⟨v, t, rfl, _⟩ := h
    rfl
  · obtain ⟨v, t, rfl, ⟨x, y, z, h, x0, y0, y1⟩, t0, t1, k⟩ := h
    refine ⟨_, pss_cons (ps_asg (pe_op op_add (pe_ix (ixL K) (pv 0) pe_int (fun _ _ => rfl)) pe_int) (pg_sub (pv 0) pe_int set_list))
      (pss_cons (ps_if (pt_cmpR op_gt (pe_ix (ixL K) (pv 0) pe_int (fun _ _ => rfl)) pe_int (nomark _))
        (pss_cons (ps_asg (pe_callB call_divmod (by rfl) D.divmod boot_divmod (pa_cons (pe_ix (ixL K) (pv 0) pe_int (fun _ _ => rfl)) (pa_cons (pv 1) pa_nil))) (pg_tup rfl (pgs_cons (pg_sub (pv 0) pe_int set_list) (pgs_cons (pg_name (i := 2) sc_tap.nd rfl (.inl rfl)) pgs_nil))))
        (pss_one (ps_ret (pv 2)))) pss_nil)
      (pss_cons (ps_asg (pe_op op_mod (pe_callTy call_int1 (by rfl) D.int boot_int (pa_cons (pe_op op_add (pe_op op_mul (pe_ix (ixL K) (pv 0) pe_int (fun _ _ => rfl)) pe_int) (pe_op op_mul pe_int (pe_ix (ixL K) (pv 0) pe_int (fun _ _ => rfl)))) pa_nil)) pe_int) (pg_sub (pv 0) pe_int set_list))
      (pss_one (ps_ret (pe_op op_mod (pe_callTy call_int1 (by rfl) D.int boot_int (pa_cons (pe_op op_fdiv (pe_op op_mul (pe_ix (ixL K) (pv 0) pe_int (fun _ _ => rfl)) (pe_ix (ixL K) (pv 0) pe_int (fun _ _ => rfl))) pe_int) pa_nil)) (pv 1)))))), ?_⟩
    have b1 : ∀ o, But v H (upd H v o) := fun o b u n e => by rw [upd_ne n]; exact e
    refine ⟨_, rfl, v, _, 2, .int z, rfl, rfl, SqL.of h, rfl, _, _, rfl, rfl, _, rfl, v, _, 2, 2, rfl, rfl, h, rfl, ?_⟩
    refine ⟨_, rfl, v, _, 0, .int x, rfl, rfl, SqL.of upd_same, rfl, _, _, rfl, rfl, _, rfl, ?_⟩
    by_cases hx : 0 < x
    · refine iteDT hx ⟨_, rfl, v, _, 0, .int x, rfl, rfl, SqL.of upd_same, rfl, _, rfl, x, t, rfl, ⟨by omega, by omega⟩, fun p np => ?_⟩
      have nvp : v ≠ p := ne_of_none upd_same np
      refine ⟨p, _, rfl, SqT.of upd_same, rfl, _, _, rfl, _, rfl, v, _, 0, 0, rfl, rfl, (upd_ne nvp).trans upd_same, rfl, _, _, rfl, rfl, _, rfl, ?_⟩
      refine k (x % t) _ (Int.emod_nonneg _ (by omega)) (Int.emod_lt_of_pos _ (by omega)) (fun b u n e => ?_) ⟨x / t, y, z + 1, ?_, Int.ediv_nonneg x0 (by omega), y0, y1⟩
      · have nb : b ≠ p := ne_of_none (((upd_ne n).trans e : (upd H v (.lst ([V.int x, V.int y, V.int z].set 2 (.int (z + 1))))) b = some u)) np
        rw [upd_ne n, upd_ne nb, upd_ne n]
        exact e
      · exact upd_same
    · refine iteDF hx ?_
      refine ⟨_, rfl, v, _, 1, .int y, rfl, rfl, SqL.of upd_same, rfl, _, _, rfl, rfl, .inl ⟨by omega, by omega⟩, _, rfl, v, _, 2, .int (z + 1), rfl, rfl, SqL.of upd_same, rfl, _, _, rfl, rfl, .inl ⟨by decide, by decide⟩, _, _, rfl, rfl, .inl ⟨_, rfl, ?_⟩⟩
      refine ⟨_, _, rfl, rfl, (by show (0 : Int) < 2147483423; decide), _, rfl, v, _, 1, 1, rfl, rfl, upd_same, rfl, ?_⟩
      have m0 := Int.emod_nonneg (y * 27011 + 30011 * (z + 1)) (show (2147483423 : Int) ≠ 0 by decide)
      have m1 := Int.emod_lt_of_pos (y * 27011 + 30011 * (z + 1)) (show (0 : Int) < 2147483423 by decide)
      refine ⟨_, rfl, v, _, 1, .int ((y * 27011 + 30011 * (z + 1)) % 2147483423), rfl, rfl, SqL.of upd_same, rfl, _, rfl, v, _, 1, .int ((y * 27011 + 30011 * (z + 1)) % 2147483423), rfl, rfl, SqL.of upd_same, rfl, _, _, rfl, rfl, .inl ⟨by omega, by omega⟩, _, _, rfl, rfl, ⟨by decide, by decide⟩, .inl ⟨_, rfl, ?_⟩⟩
      refine ⟨_, rfl, _, _, rfl, rfl, (by show 0 < t; omega), ?_⟩
      refine k _ _ (Int.emod_nonneg _ (by omega)) (Int.emod_lt_of_pos _ (by omega)) (fun b u n e => ?_) ⟨x, _, z + 1, upd_same, x0, m0, m1⟩
      rw [upd_ne n, upd_ne n]
      exact e
end
end Tk
set_option maxHeartbeats 4000000
namespace Tk
open PySem PySem.Spec PyProof.Rows L2
section
variable {P : Program} {w : World} {K : PySem.W.Frag} {mg : Str → Option Value} {base : Heap}
/-! ### _law_vat -/
def spVat (K : PySem.W.Frag) : Sp := fun vs H Q _ => ∃ (s : Addr) (t : Int) (ns : List Int), vs = [.ref s, .int t] ∧ IL K H s ns ∧ ns.length ≤ 63 ∧ 0 ≤ t ∧ t < 5 ∧ ∀ p H', Same H H' → H p = none → VatAt H' p → Q (.ref p) H'
abbrev nmVat : List Str := ["_law_script", "_law_turn", "_law_own", "_law_mixed", "_law_each"]
theorem sc_vat : FnScope nmVat ["_law_script", "_law_turn"] (defScope (top 52)) := ⟨rfl, rfl, rfl, by decide +kernel, rfl, by decide +kernel, by decide +kernel⟩
theorem cut_int {ns : List Int} {lo hi : Option Int} {x : V} (h : x ∈ cutV (ns.map V.int) lo hi) : ∃ z, x = V.int z := by
  unfold cutV at h
  obtain ⟨z, _, e⟩ := List.mem_map.mp (List.mem_of_mem_drop (List.mem_of_mem_take h))
  exact ⟨z, e.symm⟩
theorem has_vat (D : Dat K mg) : Has P w K mg base CX0 "_law_vat" 1 ["_law_script", "_law_turn"] (spVat K) := by
  refine has_mk D.law_vat sc_vat (fun vs H Q E h => ?_) (fun _ _ _ _ _ _ us hl => match us, hl with | [_, _], _ => rfl) (fun f cdv A outer s H vs Q E hr h => ?_)
  · obtain ⟨a, t, ns, rfl, _⟩ := h
    rfl
  · obtain ⟨a, t, ns, rfl, hS, l63, t0, t1, k⟩ := h
    refine ⟨_, pss_cons (ps_set (i := 2) sc_vat.nd rfl (Or.inl rfl) (pe_ifExp (pt_cmpR op_lt (pv 1) (pe_callB (lenK K) (by rfl) D.len boot_len (pa_cons (pv 0) pa_nil)) (nomark _)) (pe_ix (ixL K) (pv 0) (pv 1) (fun _ _ => rfl)) (pe_op op_add (pe_op op_mul pe_int (pv 1)) pe_int)))
      (pss_cons (ps_set (i := 3) sc_vat.nd rfl (Or.inl rfl) (pe_op op_add pe_int (pe_op op_mul pe_int (pv 1))))
      (pss_cons (ps_for PassesOwn.never rfl (piL K (pe_op op_cat (pe_slice sl_list (pv 0) po_none (po_some pe_int)) (pe_lst (pa_cons (pv 2) pa_nil)))) (pg_name (i := 4) sc_vat.nd rfl (Or.inl rfl))
        (pss_one (ps_set (i := 3) sc_vat.nd rfl (Or.inl rfl) (pe_op op_mod (pe_callTy call_int1 (by rfl) D.int boot_int (pa_cons (pe_op op_add (pe_op op_add (pe_op op_mul (pv 3) pe_int) (pe_callTy call_int1 (by rfl) D.int boot_int (pa_cons (pv 4) pa_nil))) pe_int) pa_nil)) pe_int))))
      (pss_one (ps_ret (pe_lst (pa_cons (pe_ifExp (PW.pt (pw_or (pt_cmpR op_lt (pv 2) pe_int (nomark _)) (pw_or1 (pt_cmpR op_ge (pv 2) (pe_op op_pow pe_int pe_int) (nomark _)))))
        (pe_callB call_abs (by rfl) D.abs boot_abs (pa_cons (pv 2) pa_nil)) pe_int) (pa_cons (pv 3) (pa_cons pe_int pa_nil)))))))), ?_⟩
    -- behind own
    have rest : ∀ own m : Int, 0 ≤ m → m < 2147483423 →
      tSeq (tFor (iList K (tOp rCat (tSl (rSlL K) (tVar 0) tNoPart (tPart (tC (.int 6)))) (tLst (tCons (tVar 2) tNil)))) (gName 4)
        (tAsg (tOp (rI (fun _ j => 0 < j) fun i j => .int (i % j)) (tCB (fun xs H Q => (∃ i, xs = [.int i] ∧ Q (.int i) H) ∨ ∃ k, xs = [.bl k] ∧ Q (.int (if k then 1 else 0)) H) (tCons (tOp (rI0 fun i j => .int (i + j)) (tOp (rI0 fun i j => .int (i + j)) (tOp (rI CMul fun i j => .int (i * j)) (tVar 3) (tC (.int 27011)))
          (tCB (fun xs H Q => (∃ i, xs = [.int i] ∧ Q (.int i) H) ∨ ∃ k, xs = [.bl k] ∧ Q (.int (if k then 1 else 0)) H) (tCons (tVar 4) tNil))) (tC (.int 19))) tNil)) (tC (.int 2147483423))) (gName 3)))
        (tRet (tLst (tCons (tIf (tOr (tTest (tOp (rI0 fun i j => .bl (decide (i < j))) (tVar 2) (tC (.int 0)))) (tTest (tOp (rI0 fun i j => .bl (decide (j ≤ i))) (tVar 2) (tOp (rI CPow fun i j => .int (i ^ j.toNat)) (tC (.int 10)) (tC (.int 18))))))
          (tCB (fun xs H Q => ∃ i, xs = [.int i] ∧ Q (.int (if i < 0 then -i else i)) H) (tCons (tVar 2) tNil)) (tC (.int 0))) (tCons (tVar 3) (tCons (tC (.int 0)) tNil)))))
        { nx := fun x H' => Q V.non H', rt := Q } [some (.ref a), some (.int t), some (.int own), some (.int m), none] H := fun own m m0 m1 => by
      refine ⟨_, rfl, 6, rfl, a, _, rfl, hS, fun p1 n1 => ?_⟩
      refine ⟨_, rfl, (by show 1 ≤ sizeLine; decide), fun p2 n2 => ?_⟩
      have h12 : p1 ≠ p2 := ne_of_none upd_same n2
      have lc := cutV_length (ns.map V.int) none (some 6)
      rw [List.length_map] at lc
      refine ⟨p1, p2, _, _, rfl, rfl, (upd_ne h12).trans upd_same, upd_same, (by rw [sizeLine_eq]; show _ + 1 ≤ _; omega), fun p3 n3 => ?_⟩
      have s1 : Same H (upd H p1 (.lst (cutV (ns.map V.int) none (some 6)))) := same_upd n1
      have s2 := s1.trans (same_upd (o := .lst [V.int own]) n2)
      have s3 := s2.trans (same_upd (o := .lst (cutV (ns.map V.int) none (some 6) ++ [V.int own])) n3)
      refine ⟨p3, rfl, ⟨_, SqL.of upd_same⟩, for_list (K := K) (a := p3) (xs := cutV (ns.map V.int) none (some 6) ++ [V.int own]) (fun i σ H' => ∃ (m : Int) (v : Option V), σ = [some (.ref a), some (.int t), some (.int own), some (.int m), v] ∧ 0 ≤ m ∧ m < 2147483423 ∧ H' = upd (upd (upd H p1 (.lst (cutV (ns.map V.int) none (some 6)))) p2 (.lst [V.int own])) p3 (.lst (cutV (ns.map V.int) none (some 6) ++ [V.int own])))
        ⟨m, none, rfl, m0, m1, rfl⟩ (fun i σ H' _ ⟨_, _, _, _, _, e⟩ => by rw [e]; exact SqL.of upd_same) ?_ ?_⟩
      · rintro i x σ H' hi ⟨m, v, rfl, m0, m1, rfl⟩
        obtain ⟨z, rfl⟩ : ∃ z, x = V.int z := by
          rcases List.mem_append.mp (List.mem_of_getElem? hi) with q | q
          · exact cut_int q
          · exact ⟨own, by simpa using q⟩
        refine ⟨_, rfl, _, _, rfl, rfl, .inl ⟨by omega, by omega⟩, _, rfl, .inl ⟨_, rfl, _, _, rfl, rfl, _, _, rfl, rfl, .inl ⟨_, rfl, _, _, rfl, rfl, (by show (0 : Int) < 2147483423; decide), ?_⟩⟩⟩
        exact ⟨_, _, rfl, Int.emod_nonneg _ (by decide), Int.emod_lt_of_pos _ (by decide), rfl⟩
      · rintro σ H' ⟨m, v, rfl, m0, m1, rfl⟩
        have fin : ∀ z : Int, 0 ≤ z → ∀ p, (upd (upd (upd H p1 (.lst (cutV (ns.map V.int) none (some 6)))) p2 (.lst [V.int own])) p3 (.lst (cutV (ns.map V.int) none (some 6) ++ [V.int own]))) p = none →
            Q (.ref p) (upd (upd (upd (upd H p1 (.lst (cutV (ns.map V.int) none (some 6)))) p2 (.lst [V.int own])) p3 (.lst (cutV (ns.map V.int) none (some 6) ++ [V.int own]))) p (.lst [.int z, .int m, .int 0])) := fun z z0 p np =>
          k p _ (s3.trans (same_upd np)) (Same.free s3 np) ⟨z, m, 0, upd_same, z0, m0, m1⟩
        have ab : 0 ≤ (if own < 0 then -own else own) := by split <;> omega
        refine ⟨_, rfl, _, _, rfl, rfl, _, rfl, ?_⟩
        by_cases c : own < 0
        · refine iteDT c (iteT ⟨_, rfl, _, rfl, _, rfl, (by show 3 ≤ sizeLine; decide), fin _ ab⟩)
        · refine iteDF c ⟨_, rfl, _, _, rfl, rfl, ⟨by decide, by decide, by decide⟩, _, _, rfl, rfl, _, rfl, ?_⟩
          by_cases c2 : ((10 : Int) ^ (18 : Int).toNat) ≤ own
          · exact iteDT c2 ⟨_, rfl, _, rfl, _, rfl, (by show 3 ≤ sizeLine; decide), fin _ ab⟩
          · exact iteDF c2 ⟨_, rfl, (by show 3 ≤ sizeLine; decide), fin 0 (Int.le_refl _)⟩
    have both : ∀ own : Int, tSeq (tAsg (tOp (rI0 fun i j => .int (i + j)) (tC (.int 60013)) (tOp (rI CMul fun i j => .int (i * j)) (tC (.int 8009)) (tVar 1))) (gName 3)) (tSeq (tFor (iList K (tOp rCat (tSl (rSlL K) (tVar 0) tNoPart (tPart (tC (.int 6)))) (tLst (tCons (tVar 2) tNil)))) (gName 4)
        (tAsg (tOp (rI (fun _ j => 0 < j) fun i j => .int (i % j)) (tCB (fun xs H Q => (∃ i, xs = [.int i] ∧ Q (.int i) H) ∨ ∃ k, xs = [.bl k] ∧ Q (.int (if k then 1 else 0)) H) (tCons (tOp (rI0 fun i j => .int (i + j)) (tOp (rI0 fun i j => .int (i + j)) (tOp (rI CMul fun i j => .int (i * j)) (tVar 3) (tC (.int 27011)))
          (tCB (fun xs H Q => (∃ i, xs = [.int i] ∧ Q (.int i) H) ∨ ∃ k, xs = [.bl k] ∧ Q (.int (if k then 1 else 0)) H) (tCons (tVar 4) tNil))) (tC (.int 19))) tNil)) (tC (.int 2147483423))) (gName 3)))
        (tRet (tLst (tCons (tIf (tOr (tTest (tOp (rI0 fun i j => .bl (decide (i < j))) (tVar 2) (tC (.int 0)))) (tTest (tOp (rI0 fun i j => .bl (decide (j ≤ i))) (tVar 2) (tOp (rI CPow fun i j => .int (i ^ j.toNat)) (tC (.int 10)) (tC (.int 18))))))
          (tCB (fun xs H Q => ∃ i, xs = [.int i] ∧ Q (.int (if i < 0 then -i else i)) H) (tCons (tVar 2) tNil)) (tC (.int 0))) (tCons (tVar 3) (tCons (tC (.int 0)) tNil))))))
        { nx := fun x H' => Q V.non H', rt := Q } [some (.ref a), some (.int t), some (.int own), none, none] H := fun own =>
      ⟨_, rfl, _, _, rfl, rfl, .inl ⟨by decide, by decide⟩, _, _, rfl, rfl, rest own (60013 + 8009 * t) (by omega) (by omega)⟩
    refine ⟨_, rfl, _, rfl, _, ns.length, rfl, .inl ⟨_, hS, (List.length_map _).symm⟩, _, _, rfl, rfl, _, rfl, ?_⟩
    by_cases c : t < (ns.length : Int)
    · obtain ⟨z, hz⟩ : ∃ z, ns[t.toNat]? = some z := ⟨_, List.getElem?_eq_getElem (by omega)⟩
      exact iteDT c ⟨_, rfl, _, rfl, a, _, _, .int z, rfl, rfl, hS, atI_of (i := t.toNat) (by omega) hz, both z⟩
    · exact iteDF c ⟨_, rfl, _, _, rfl, rfl, .inl ⟨by decide, by decide⟩, _, _, rfl, rfl, both _⟩
end
end Tk
set_option maxHeartbeats 4000000
namespace Tk
open PySem PySem.Spec PyProof.Rows L2
section
variable {P : Program} {w : World} {K : PySem.W.Frag} {mg : Str → Option Value} {base : Heap}
/-! ### _law_one -/
def spOne (K : PySem.W.Frag) : Sp := fun vs H Q _ => ∃ (v l : Addr) (ns : List Int), vs = [.ref v, .ref l] ∧ VatAt H v ∧ v ≠ l ∧ H l = some (.lst (ns.map V.int)) ∧ ns ≠ [] ∧ ns.length ≤ 1000 ∧
  ∀ x ∈ ns, ∀ H', But v H H' → VatAt H' v → Q (.int x) H'
theorem sc_one : FnScope ["_law_vat_here", "_law_things"] ["_law_vat_here", "_law_things"] (defScope (top 54)) := ⟨rfl, rfl, rfl, by decide +kernel, rfl, by decide +kernel, by decide +kernel⟩
theorem has_one (D : Dat K mg) : Has P w K mg base CX0 "_law_one" 2 ["_law_vat_here", "_law_things"] (spOne K) := by
  refine has_mk D.law_one sc_one (fun vs H Q E h => ?_) (fun _ _ _ _ _ _ us hl => match us, hl with | [_, _], _ => rfl) (fun f cdv A outer s H vs Q E hr h => ?_)
  · obtain ⟨v, l, ns, rfl, _⟩ := h
    rfl
  · obtain ⟨v, l, ns, rfl, hv, hn, hl, hne, h1000, k⟩ := h
    refine ⟨_, pss_one (ps_ret (pe_ix (ixL K) (pv 1) (pe_f (has_tap D) hr rfl (pa_cons (pv 0) (pa_cons (pe_callB (lenK K) (by rfl) D.len boot_len (pa_cons (pv 1) pa_nil)) pa_nil))) (fun _ _ => rfl))), ?_⟩
    have hp : 0 < ns.length := List.length_pos_iff.mpr hne
    refine ⟨_, rfl, _, rfl, _, rfl, _, ns.length, rfl, .inl ⟨_, SqL.of hl, (List.length_map _).symm⟩, v, ns.length, rfl, hv, by omega, by omega, fun d H' d0 d1 b hv' => ?_⟩
    obtain ⟨z, hz⟩ : ∃ z, ns[d.toNat]? = some z := ⟨_, List.getElem?_eq_getElem (by omega)⟩
    exact ⟨l, _, _, .int z, rfl, rfl, SqL.of (b l _ (Ne.symm hn) hl), atI_of (i := d.toNat) (by omega) hz, k z (List.mem_of_getElem? hz) H' b hv'⟩
/-! ### _law_cut -/
def spCut (K : PySem.W.Frag) : Sp := fun vs H Q _ => ∃ a b : Int, vs = [.int a, .int b] ∧ 0 ≤ a ∧ 0 < b ∧ a * b < 2 ^ 100 ∧ b < 2 ^ 200 ∧ RetT K H (prV (red a b)) Q
theorem sc_cut : FnScope ["_law_top", "_law_bottom", "_law_first", "_law_second", "_law_turn"] ["_law_top", "_law_bottom"] (defScope (top 55)) := ⟨rfl, rfl, rfl, by decide +kernel, rfl, by decide +kernel, by decide +kernel⟩
theorem has_cut (D : Dat K mg) : Has P w K mg base CX0 "_law_cut" 1 ["_law_top", "_law_bottom"] (spCut K) := by
  refine has_mk D.law_cut sc_cut (fun vs H Q E h => ?_) (fun _ _ _ _ _ _ us hl => match us, hl with | [_, _], _ => rfl) (fun f cdv A outer s H vs Q E hr h => ?_)
  · obtain ⟨a, b, rfl, _⟩ := h
    rfl
  · obtain ⟨a, b, rfl, h1, h2, h3, h4, k⟩ := h
    refine ⟨_, pss_cons (ps_par (i := 2) (j := 3) rfl sc_cut.nd rfl rfl (by decide) rfl rfl (pa_cons (pe_callB call_abs (by rfl) D.abs boot_abs (pa_cons (pv 0) pa_nil)) (pa_cons (pv 1) pa_nil)) (by rfl))
      (pss_cons (ps_for PassesOwn.never rfl (pi_range1 (by rfl) D.range (pa_cons pe_int pa_nil)) (pg_name (i := 4) sc_cut.nd rfl (Or.inl rfl))
        (pss_cons (ps_if (pt_cmpR op_eq (pv 3) pe_int (nomark _)) (pss_one ps_break) pss_nil)
        (pss_one (ps_par (i := 2) (j := 3) rfl sc_cut.nd rfl rfl (by decide) rfl rfl (pa_cons (pv 3) (pa_cons (pe_op op_mod (pe_callTy call_int1 (by rfl) D.int boot_int (pa_cons (pv 2) pa_nil)) (pv 3)) pa_nil)) (by rfl)))))
      (pss_one (ps_ret (pe_tup (pa_cons (pe_op op_fdivW (pv 0) (pv 2)) (pa_cons (pe_op op_fdivW (pv 1) (pv 2)) pa_nil)))))), ?_⟩
    have hg := gcd_pos (a := a) h2
    have gb : (Int.gcd a b : Int) ≤ b := Int.le_of_dvd h2 (Int.gcd_dvd_right a b)
    have hw : CDivW 0 (Int.gcd a b : Int) := wide_div hg (wide_le (Int.le_of_lt hg) gb (a := 200) (by omega)) (by decide) (by decide)
    have e1 : (if a < 0 then -a else a) = a := if_neg (by omega)
    refine ⟨_, rfl, a, rfl, _, rfl, _, _, rfl, ?_⟩
    rw [e1]
    refine ⟨4000, rfl, by decide, by decide, for_range (lo := 0) (n := (4000 : Int).toNat) (fun i σ H' => H' = H ∧ ∃ (f s : Int) (v : Option V), σ = [some (.int a), some (.int b), some (.int f), some (.int s), v] ∧ Eu (a * b) (Int.gcd a b) i f s)
      ⟨rfl, a, b, none, rfl, h1, Int.le_of_lt h2, rfl, fun _ => Int.le_refl _, fun z => by omega⟩ ?_ ?_⟩
    · rintro i σ H' hi ⟨rfl, f, s, v, rfl, eu⟩
      refine ⟨_, rfl, rfl, _, rfl, ?_⟩
      by_cases c : s = 0
      · subst c
        have ef : f = (Int.gcd a b : Int) := by rw [← eu.2.2.1, gcd_end eu.1]
        subst ef
        refine iteDT rfl ?_
        refine ⟨_, rfl, _, rfl, _, _, rfl, rfl, hw, _, rfl, _, rfl, _, _, rfl, rfl, hw, (by show 2 ≤ sizeLine; decide), ?_⟩
        exact k.new (Same.refl _)
      · refine iteDF (fun e => c (by injection e)) ?_
        have s0 : 0 ≤ s := eu.2.1
        exact ⟨_, rfl, _, rfl, .inl ⟨_, rfl, _, rfl, _, _, rfl, rfl, by omega, _, _, rfl, rfl, s, f % s, _, rfl, eu.turn c⟩⟩
    · rintro σ H' ⟨rfl, f, s, v, rfl, eu⟩
      have c : s = 0 := eu.small h3 (by decide)
      subst c
      have ef : f = (Int.gcd a b : Int) := by rw [← eu.2.2.1, gcd_end eu.1]
      subst ef
      refine ⟨_, rfl, _, rfl, _, _, rfl, rfl, hw, _, rfl, _, rfl, _, _, rfl, rfl, hw, (by show 2 ≤ sizeLine; decide), ?_⟩
      exact k.new (Same.refl _)
/-! ### _law_below -/
def spBelow (K : PySem.W.Frag) : Sp := fun vs H Q _ => ∃ (a b : Addr) (x y : Int × Int), vs = [.ref a, .ref b] ∧ SqT K H a (prV x) ∧ SqT K H b (prV y) ∧ 0 < x.2 ∧ x.2 < 2 ^ 64 ∧ 0 < y.2 ∧ y.2 < 2 ^ 64 ∧ Q (.bl (below x y)) H
theorem sc_below : FnScope ["_law_here", "_law_there"] ["_law_here", "_law_there"] (defScope (top 56)) := ⟨rfl, rfl, rfl, by decide +kernel, rfl, by decide +kernel, by decide +kernel⟩
theorem has_below (D : Dat K mg) : Has P w K mg base CX0 "_law_below" 1 ["_law_here", "_law_there"] (spBelow K) := by
  refine has_mk D.law_below sc_below (fun vs H Q E h => ?_) (fun _ _ _ _ _ _ us hl => match us, hl with | [_, _], _ => rfl) (fun f cdv A outer s H vs Q E hr h => ?_)
  · obtain ⟨a, b, x, y, rfl, _⟩ := h
    rfl
  · obtain ⟨a, b, x, y, rfl, ha, hb, x1, x2, y1, y2, k⟩ := h
    refine ⟨_, pss_one (ps_ret (pe_cmpR op_lt (pe_op op_mul (pe_ix (ixT K) (pv 0) pe_int (fun _ _ => rfl)) (pe_ix (ixT K) (pv 1) pe_int (fun _ _ => rfl))) (pe_op op_mul (pe_ix (ixT K) (pv 1) pe_int (fun _ _ => rfl)) (pe_ix (ixT K) (pv 0) pe_int (fun _ _ => rfl))) (nomark _))), ?_⟩
    refine ⟨_, rfl, _, _, _, .int x.1, rfl, rfl, ha, rfl, _, rfl, _, _, _, .int y.2, rfl, rfl, hb, rfl, _, _, rfl, rfl, .inr ⟨by omega, by omega⟩, ?_⟩
    exact ⟨_, rfl, _, _, _, .int y.1, rfl, rfl, hb, rfl, _, rfl, _, _, _, .int x.2, rfl, rfl, ha, rfl, _, _, rfl, rfl, .inr ⟨by omega, by omega⟩, _, _, rfl, rfl, k⟩
end
end Tk
set_option maxHeartbeats 4000000
namespace Tk
open PySem PySem.Spec PyProof.Rows L2
section
variable {P : Program} {w : World} {K : PySem.W.Frag} {mg : Str → Option Value} {base : Heap}
/-! ### _law_weights -/
def spLWts (K : PySem.W.Frag) : Sp := fun vs H Q _ => ∃ (v : Addr) (m : Int), vs = [.ref v, .int m] ∧ VatAt H v ∧ 2 ≤ m ∧ m ≤ 5 ∧
  ∀ (ws : List Int) (p : Addr) (H' : Hp), But v H H' → VatAt H' v → ws.length = m.toNat → (∀ x ∈ ws, 1 ≤ x ∧ x ≤ 1000000) → IT K H' p ws → Q (.ref p) H'
abbrev nmLWts : List Str := ["_law_vat_here", "_law_many", "_law_top", "_law_k"]
theorem sc_weights : FnScope nmLWts ["_law_vat_here", "_law_many"] (defScope (top 57)) := ⟨rfl, rfl, rfl, by decide +kernel, rfl, by decide +kernel, by decide +kernel⟩
theorem has_weights (D : Dat K mg) : Has P w K mg base CX0 "_law_weights" 3 ["_law_vat_here", "_law_many"] (spLWts K) := by
  refine has_mk D.law_weights sc_weights (fun vs H Q E h => ?_) (fun _ _ _ _ _ _ us hl => match us, hl with | [_, _], _ => rfl) (fun f cdv A outer s H vs Q E hr h => ?_)
  · obtain ⟨v, m, rfl, _⟩ := h
    rfl
  · obtain ⟨v, m, rfl, hv, m2, m5, k⟩ := h
    refine ⟨_, pss_cons (ps_set (i := 2) sc_weights.nd rfl (Or.inr rfl) (pe_f (has_one D) hr rfl (pa_cons (pv 0) (pa_cons (pe_lst (pa_cons pe_int (pa_cons pe_int (pa_cons pe_int (pa_cons pe_int (pa_cons pe_int (pa_cons (pe_op op_pow pe_int pe_int) pa_nil))))))) pa_nil))))
      (pss_one (ps_ret (pe_callTy (tupK K) (by rfl) D.tuple boot_tuple (pa_cons
        (pe_lc (own := [("_law_k", 3)]) (g := gName 3) (tt := tYes) rfl sc_weights.nd (pi_range1 (by rfl) D.range (pa_cons (pv 1) pa_nil)) (blkOk_by (own := [("_law_k", 3)]) (N := nmLWts) (sc := defScope (top 57)) (by decide +kernel))
          (fun _ _ _ _ _ => pg_name (i := 3) sc_weights.nd rfl (Or.inl rfl)) (fun _ _ _ _ _ => pts_nil)
          (fun _ _ _ _ _ => pe_op op_add pe_int (pe_f (has_tap D) (hr.mono (by decide)) rfl (pa_cons (pv 0) (pa_cons (pv 2) pa_nil))))) pa_nil)))), ?_⟩
    refine ⟨_, rfl, ⟨_, _, rfl, rfl, ⟨by decide, by decide, by decide⟩, (by show 6 ≤ sizeLine; decide), fun l nl => ?_⟩⟩
    have vl : v ≠ l := by
      obtain ⟨x, y, z, h, _⟩ := hv
      exact ne_of_none h nl
    refine ⟨v, l, [1, 2, 4, 9, 100, 1000000], rfl, hv.upd vl, vl, upd_same, nofun, by decide, fun tp htp H1 b1 hv1 => ?_⟩
    have b2 : But v H H1 := (But.of (same_upd nl)).trans b1
    have tp1 : 1 ≤ tp ∧ tp ≤ 1000000 := by
      simp only [List.mem_cons, List.not_mem_nil, or_false] at htp
      omega
    refine ⟨_, rfl, m, rfl, by omega, by omega, fun D0 n0 => ?_⟩
    have vD : v ≠ D0 := by
      obtain ⟨x, y, z, h, _⟩ := hv1
      exact ne_of_none h n0
    refine lc_range (lo := 0) (n := m.toNat) (fun i H' => But v H H' ∧ VatAt H' v ∧ ∃ ws : List Int, ws.length = i ∧ (∀ x ∈ ws, 1 ≤ x ∧ x ≤ 1000000) ∧ H' D0 = some (.lst (ws.map V.int)))
      ⟨b2.trans (But.of (same_upd n0)), hv1.upd vD, [], rfl, nofun, upd_same⟩ ?_ ?_
    · rintro i H' hi ⟨b3, hv3, ws, hl, hw, hD⟩
      refine ⟨rfl, _, rfl, _, rfl, v, tp, rfl, hv3, tp1.1, tp1.2, fun d H4 d0 d1 b4 hv4 => ?_⟩
      have hD4 := b4 _ _ (Ne.symm vD) hD
      refine ⟨_, _, rfl, rfl, _, hD4, ?_, fun b o nb e => ?_, hv4.upd vD, ws ++ [1 + d], ?_, ?_, ?_⟩
      · rw [List.length_map]
        exact small1000 (by omega)
      · have nbD : b ≠ D0 := by
          intro z
          subst z
          have q := b2 _ _ nb e
          rw [n0] at q
          cases q
        rw [upd_ne nbD]
        exact b4 _ _ nb (b3 _ _ nb e)
      · rw [List.length_append, hl]
        rfl
      · intro x hx
        rcases List.mem_append.mp hx with q | q
        · exact hw x q
        · have : x = 1 + d := by simpa using q
          omega
      · rw [upd_same, List.map_append]
        rfl
    · rintro H' ⟨b3, hv3, ws, hl, hw, hD⟩
      refine ⟨D0, _, rfl, .inl ⟨SqL.of hD, fun p np => ?_⟩⟩
      have vp : v ≠ p := by
        obtain ⟨x, y, z, h, _⟩ := hv3
        exact ne_of_none h np
      exact k ws p _ (b3.trans (But.of (same_upd np))) (hv3.upd vp) hl hw (SqT.of upd_same)
end
end Tk
set_option maxHeartbeats 4000000
namespace Tk
open PySem PySem.Spec PyProof.Rows L2
theorem catA {X : Cx} (K : PySem.W.Frag) (h : X.K = K := by rfl) : OpR X (binaryOp .Add) (rCatA K) := h ▸ op_catA
theorem lots_len : ∀ n : Nat, (lots n).length = 2 ^ n
  | 0 => rfl
  | n + 1 => by
    rw [lots, List.length_append, List.length_map, lots_len n, Nat.pow_succ]
    omega
theorem lots_le {n : Nat} (h : n ≤ 5) : (lots n).length ≤ 32 := by
  rw [lots_len]
  exact Nat.le_trans (Nat.pow_le_pow_right (by decide) h) (by decide)
theorem lots_row : ∀ (n : Nat) (s : List Int), s ∈ lots n → s.length ≤ n
  | 0, s, h => by
    simp only [lots, List.mem_cons, List.not_mem_nil, or_false] at h
    subst h
    exact Nat.le_refl _
  | n + 1, s, h => by
    simp only [lots, List.mem_append, List.mem_map] at h
    rcases h with h | ⟨l, h, rfl⟩
    · have := lots_row n s h
      omega
    · have := lots_row n l h
      rw [List.length_append]
      show l.length + 1 ≤ n + 1
      omega
section
variable {P : Program} {w : World} {K : PySem.W.Frag} {mg : Str → Option Value} {base : Heap}
/-! ### _law_lots -/
def spLots (K : PySem.W.Frag) : Sp := fun vs H Q _ => ∃ (m : Nat), vs = [.int m] ∧ m ≤ 5 ∧
  ∀ (rs : List Addr) (p : Addr) (H' : Hp), Same H H' → H p = none → H' p = some (.lst (rs.map V.ref)) → RowsIn K H' rs (lots m) → Q (.ref p) H'
abbrev nmLots : List Str := ["_law_many", "_law_found", "_law_k", "_law_part"]
theorem sc_lots : FnScope nmLots ["_law_many"] (defScope (top 58)) := ⟨rfl, rfl, rfl, by decide +kernel, rfl, by decide +kernel, by decide +kernel⟩
theorem has_lots (D : Dat K mg) : Has P w K mg base CX0 "_law_lots" 1 ["_law_many"] (spLots K) := by
  refine has_mk D.law_lots sc_lots (fun vs H Q E h => ?_) (fun _ _ _ _ _ _ us hl => match us, hl with | [_], _ => rfl) (fun f cdv A outer s H vs Q E hr h => ?_)
  · obtain ⟨m, rfl, _⟩ := h
    rfl
  · obtain ⟨m, rfl, m5, k⟩ := h
    refine ⟨_, pss_cons (ps_set (i := 1) sc_lots.nd rfl (Or.inl rfl) (pe_lst (pa_cons (pe_tup pa_nil) pa_nil)))
      (pss_cons (ps_for PassesOwn.never rfl (pi_range1 (by rfl) D.range (pa_cons (pv 0) pa_nil)) (pg_name (i := 2) sc_lots.nd rfl (Or.inr rfl))
        (pss_one (ps_set (i := 1) sc_lots.nd rfl (Or.inl rfl) (pe_op op_cat (pv 1)
          (pe_lc (own := [("_law_part", 3)]) (g := gName 3) (tt := tYes) rfl sc_lots.nd (piL K (pv 1)) (blkOk_by (own := [("_law_part", 3)]) (N := nmLots) (sc := defScope (top 58)) (by decide +kernel))
            (fun _ _ _ _ _ => pg_name (i := 3) sc_lots.nd rfl (Or.inl rfl)) (fun _ _ _ _ _ => pts_nil)
            (fun _ _ _ _ _ => pe_op (catA K) (pv 3) (pe_tup (pa_cons (pv 2) pa_nil))))))))
      (pss_one (ps_ret (pv 1)))), ?_⟩
    refine ⟨Nat.zero_le _, fun p0 n0 => ⟨(by show 1 ≤ sizeLine; decide), fun l nl => ?_⟩⟩
    have s0 : Same H (upd H p0 (.tup [])) := same_upd n0
    have sl : Same (upd H p0 (.tup [])) (upd (upd H p0 (.tup [])) l (.lst [.ref p0])) := same_upd nl
    have pl : p0 ≠ l := ne_of_none upd_same nl
    have nlH : H l = none := by
      rw [upd_ne (Ne.symm pl)] at nl
      exact nl
    refine ⟨_, rfl, m, rfl, by omega, by omega, for_range (lo := 0) (n := (m : Int).toNat) (fun i σ H' => Same H H' ∧ ∃ (p : Addr) (rs : List Addr) (kk : Option V), σ = [some (.int m), some (.ref p), kk, none] ∧ H p = none ∧ H' p = some (.lst (rs.map V.ref)) ∧ RowsIn K H' rs (lots i))
      ⟨s0.trans sl, l, [p0], none, rfl, nlH, upd_same, .cons (SqT.of ((upd_ne pl).trans upd_same)) .nil⟩ ?_ ?_⟩
    · rintro i σ H1 hi ⟨s1, p, rs, kk, rfl, np, hp, hR⟩
      have hlen := hR.len
      have l32 : (lots i).length ≤ 32 := lots_le (by omega)
      refine ⟨_, rfl, _, rfl, p, rfl, ⟨_, SqL.of hp⟩, fun D0 nD => ?_⟩
      have pD : p ≠ D0 := ne_of_none hp nD
      refine lc_list (K := K) (a := p) (xs := rs.map V.ref) (fun j H2 => Same H1 H2 ∧ ∃ ts : List Addr, H2 D0 = some (.lst (ts.map V.ref)) ∧ RowsIn K H2 ts (((lots i).take j).map fun s => s ++ [(i : Int)]))
        ⟨same_upd nD, [], upd_same, .nil⟩ (fun j H2 _ q => SqL.of (q.1 _ _ hp)) ?_ ?_
      · rintro j x H2 hx ⟨s2, ts, hD, hT⟩
        obtain ⟨r, hr1, rfl⟩ := map_get hx
        have hj := (List.getElem?_eq_some_iff.mp hr1).1
        obtain ⟨row, hrow⟩ : ∃ row, (lots i)[j]? = some row := ⟨_, List.getElem?_eq_getElem (by omega)⟩
        obtain ⟨r', e1, hq⟩ := hR.get hrow
        rw [hr1] at e1
        cases e1
        have lt : ts.length = j := by
          have q := hT.len
          rw [List.length_map, List.length_take] at q
          omega
        have in32 : ∀ z ∈ row, 0 ≤ z ∧ z < i := fun z hz => lots_in i row (List.mem_of_getElem? hrow) z hz
        have rl : row.length ≤ 32 := Nat.le_trans (lots_row i row (List.mem_of_getElem? hrow)) (by omega)
        refine ⟨rfl, _, rfl, _, rfl, (by show 1 ≤ sizeLine; decide), fun b nb => ?_⟩
        have zi : (0 : Int) + (i : Int) = (i : Int) := Int.zero_add _
        have s3 : Same H2 (upd H2 b (.tup [.int (0 + (i : Int))])) := same_upd nb
        have fin : ∀ q H3, Same H2 H3 → IT K H3 q (row ++ [(i : Int)]) → ∃ acc, H3 D0 = some (.lst acc) ∧ acc.length < sizeLine ∧ Same H1 (upd H3 D0 (.lst (acc ++ [.ref q]))) ∧ ∃ ts : List Addr, (upd H3 D0 (.lst (acc ++ [.ref q]))) D0 = some (.lst (ts.map V.ref)) ∧ RowsIn K (upd H3 D0 (.lst (acc ++ [.ref q]))) ts (((lots i).take (j + 1)).map fun s => s ++ [(i : Int)]) := by
          intro q H3 s4 hq3
          have hD3 := s4 _ _ hD
          have keep : ∀ a ns, IT K H3 a ns → IT K (upd H3 D0 (.lst (ts.map V.ref ++ [.ref q]))) a ns := fun a ns h => But.seqT hD3 (fun b o nb e => by rw [upd_ne nb]; exact e) h
          refine ⟨_, hD3, by rw [List.length_map]; exact small1000 (by omega), fun b o e => ?_, ts ++ [q], ?_, ?_⟩
          · rw [upd_ne (ne_of_none e nD)]
            exact s4 b o (s2 b o e)
          · rw [upd_same, List.map_append]
            rfl
          · rw [take_snoc hrow, List.map_append]
            exact (hT.imp fun a ns h => keep a ns (Same.seqT s4 h)).snoc (keep _ _ hq3)
        refine ⟨r, b, _, _, rfl, rfl, Same.seqT (s2.trans s3) hq, SqT.of upd_same, ?_, fun e => ?_, (fun _ e => nomatch e), fun hne _ c nc => ?_⟩
        · rw [List.length_map]
          exact Nat.le_of_lt (small1000 (by show row.length + 1 ≤ 1000; omega))
        · have : row = [] := List.map_eq_nil_iff.mp e
          subst this
          refine fin b _ s3 ?_
          show SqT K _ b [.int (i : Int)]
          rw [zi]
          exact SqT.of upd_same
        · refine fin c _ (s3.trans (same_upd nc)) ?_
          have : (row ++ [(i : Int)]).map V.int = row.map V.int ++ [.int (0 + (i : Int))] := by rw [List.map_append, zi]; rfl
          show SqT K _ c ((row ++ [(i : Int)]).map V.int)
          rw [this]
          exact SqT.of upd_same
      · rintro H2 ⟨s2, ts, hD, hT⟩
        rw [take_all (by rw [List.length_map]; exact hlen)] at hT
        have lt := hT.len
        rw [List.length_map] at lt
        refine ⟨p, D0, _, _, rfl, rfl, s2 _ _ hp, hD, ?_, fun c nc => ?_⟩
        · rw [List.length_map, List.length_map]
          exact Nat.le_of_lt (small1000 (by omega))
        · have s3 := s2.trans (same_upd (o := .lst (rs.map V.ref ++ ts.map V.ref)) nc)
          have s4 : Same H2 _ := same_upd (o := .lst (rs.map V.ref ++ ts.map V.ref)) nc
          refine ⟨s1.trans s3, c, rs ++ ts, _, rfl, Same.free (s1.trans s2) nc, ?_, ?_⟩
          · rw [upd_same, List.map_append]
          · exact (hR.imp fun a ns h => Same.seqT s3 h).app (hT.imp fun a ns h => Same.seqT s4 h)
    · rintro σ H1 ⟨s1, p, rs, kk, rfl, np, hp, hR⟩
      exact ⟨_, rfl, k rs p H1 s1 np hp hR⟩
end
end Tk
set_option maxHeartbeats 4000000
namespace Tk
open PySem PySem.Spec PyProof.Rows L2
theorem TupO.same {H H' : Hp} {a : Addr} {xs : List V} (s : Same H H') (h : TupO H a xs) : TupO H' a xs := by
  obtain ⟨o, h, d⟩ := h
  exact ⟨o, s _ _ h, d⟩
theorem VatAt.ne {H : Hp} {v p : Addr} (h : VatAt H v) (n : H p = none) : v ≠ p := by
  obtain ⟨x, y, z, h, _⟩ := h
  exact ne_of_none h n
theorem But.upd {v : Addr} {H H1 H' : Hp} {D : Addr} {o : HO} (b : But v H H') (b1 : But v H H1) (nD : H1 D = none) : But v H (L2.upd H' D o) := fun c u nc e => by
  rw [upd_ne (fun z => by subst z; have q := b1 _ _ nc e; rw [nD] at q; cases q)]
  exact b c u nc e
section
variable {P : Program} {w : World} {K : PySem.W.Frag} {mg : Str → Option Value} {base : Heap}
/-! ### _law_lot -/
def spLot (K : PySem.W.Frag) : Sp := fun vs H Q _ => ∃ (v : Addr) (m : Nat), vs = [.ref v, .int m] ∧ VatAt H v ∧ m ≤ 8 ∧
  ∀ (ns : List Int) (p : Addr) (H' : Hp), But v H H' → VatAt H' v → AscIn m ns → IT K H' p ns → Q (.ref p) H'
abbrev nmLot : List Str := ["_law_vat_here", "_law_many", "_law_k"]
theorem sc_lot : FnScope nmLot ["_law_vat_here", "_law_many"] (defScope (top 59)) := ⟨rfl, rfl, rfl, by decide +kernel, rfl, by decide +kernel, by decide +kernel⟩
theorem has_lot (D : Dat K mg) : Has P w K mg base CX0 "_law_lot" 2 ["_law_vat_here", "_law_many"] (spLot K) := by
  refine has_mk D.law_lot sc_lot (fun vs H Q E h => ?_) (fun _ _ _ _ _ _ us hl => match us, hl with | [_, _], _ => rfl) (fun f cdv A outer s H vs Q E hr h => ?_)
  · obtain ⟨v, m, rfl, _⟩ := h
    rfl
  · obtain ⟨v, m, rfl, hv, m8, k⟩ := h
    refine ⟨_, pss_one (ps_ret (pe_callTy (tupK K) (by rfl) D.tuple boot_tuple (pa_cons
        (pe_lc (own := [("_law_k", 2)]) (g := gName 2) (tt := tTest (tOp rEq (tCall spTap [] E0 (tCons (tVar 0) (tCons (tC (.int 2)) tNil))) (tC (.int 0)))) rfl sc_lot.nd (pi_range1 (by rfl) D.range (pa_cons (pv 1) pa_nil)) (blkOk_by (own := [("_law_k", 2)]) (N := nmLot) (sc := defScope (top 59)) (by decide +kernel))
          (fun _ _ _ _ _ => pg_name (i := 2) sc_lot.nd rfl (Or.inl rfl)) (fun _ _ _ _ _ => pts_one (pt_cmpR op_eq (pe_f (has_tap D) hr rfl (pa_cons (pv 0) (pa_cons pe_int pa_nil))) pe_int (nomark _)))
          (fun _ _ _ _ _ => pv 2)) pa_nil))), ?_⟩
    refine ⟨_, rfl, m, rfl, by omega, by omega, fun D0 n0 => ?_⟩
    have vD := hv.ne n0
    refine lc_range (lo := 0) (n := (m : Int).toNat) (fun i H' => But v H H' ∧ VatAt H' v ∧ ∃ ns : List Int, Asc ns ∧ (∀ z ∈ ns, 0 ≤ z ∧ z < i) ∧ H' D0 = some (.lst (ns.map V.int)))
      ⟨But.of (same_upd n0), hv.upd vD, [], List.Pairwise.nil, nofun, upd_same⟩ ?_ ?_
    · rintro i H' hi ⟨b3, hv3, ns, ha, hn, hD⟩
      have zi : (0 : Int) + (i : Int) = (i : Int) := Int.zero_add _
      refine ⟨rfl, _, rfl, v, 2, rfl, hv3, by decide, by decide, fun d H4 d0 d1 b4 hv4 => ?_⟩
      have hD4 := b4 _ _ (Ne.symm vD) hD
      refine ⟨rfl, _, rfl, ?_⟩
      have la : ns.length ≤ 8 := by
        have q := (show AscIn i ns from ⟨ha, hn⟩).len
        omega
      by_cases c : d = 0
      · subst c
        refine iteDT rfl ⟨_, rfl, _, hD4, ?_, (b3.trans b4).upd (But.refl v H) n0, hv4.upd vD, ns ++ [(i : Int)], ?_, ?_, ?_⟩
        · rw [List.length_map]
          exact small1000 (by omega)
        · refine List.pairwise_append.mpr ⟨ha, List.pairwise_singleton _ _, fun x hx y hy => ?_⟩
          have : y = (i : Int) := by simpa using hy
          have := hn x hx
          omega
        · intro z hz
          rcases List.mem_append.mp hz with q | q
          · have := hn z q
            omega
          · have : z = (i : Int) := by simpa using q
            omega
        · rw [upd_same, List.map_append, zi]
          rfl
      · refine iteDF (fun e => c (by injection e)) ⟨b3.trans b4, hv4, ns, ha, fun z hz => ?_, hD4⟩
        have := hn z hz
        omega
    · rintro H' ⟨b3, hv3, ns, ha, hn, hD⟩
      refine ⟨D0, _, rfl, .inl ⟨SqL.of hD, fun p np => ?_⟩⟩
      exact k ns p _ (b3.trans (But.of (same_upd np))) (hv3.upd (hv3.ne np)) ⟨ha, fun z hz => by have := hn z hz; omega⟩ (SqT.of upd_same)
/-! ### _law_said -/
def spLSaid (K : PySem.W.Frag) : Sp := fun vs H Q _ => ∃ (r : Addr) (k : Int) (rows : List (List Int)), vs = [.ref r, .int k] ∧ RowsT K H r rows ∧ rows.length ≤ 16 ∧
  ∀ (p : Addr) (H' : Hp), Same H H' → H p = none → H' p = some (.lst ((said rows k).map V.int)) → Q (.ref p) H'
abbrev nmLSaid : List Str := ["_law_rows", "_law_k", "_law_at"]
theorem sc_said : FnScope nmLSaid ["_law_rows", "_law_k"] (defScope (top 61)) := ⟨rfl, rfl, rfl, by decide +kernel, rfl, by decide +kernel, by decide +kernel⟩
theorem has_said (D : Dat K mg) : Has P w K mg base CX0 "_law_said" 1 ["_law_rows", "_law_k"] (spLSaid K) := by
  refine has_mk D.law_said sc_said (fun vs H Q E h => ?_) (fun _ _ _ _ _ _ us hl => match us, hl with | [_, _], _ => rfl) (fun f cdv A outer s H vs Q E hr h => ?_)
  · obtain ⟨v, m, rows, rfl, _⟩ := h
    rfl
  · obtain ⟨r, k, rows, rfl, ⟨rs, hT, hI⟩, l16, ret⟩ := h
    have hlen := hI.len
    refine ⟨_, pss_one (ps_ret
        (pe_lc (own := [("_law_at", 2)]) (g := gName 2) (tt := tTest (tOp (rIn K false) (tVar 1) (tOp (rIxT K) (tVar 0) (tVar 2)))) rfl sc_said.nd (pi_range1 (by rfl) D.range (pa_cons (pe_callB (lenK K) (by rfl) D.len boot_len (pa_cons (pv 0) pa_nil)) pa_nil)) (blkOk_by (own := [("_law_at", 2)]) (N := nmLSaid) (sc := defScope (top 61)) (by decide +kernel))
          (fun _ _ _ _ _ => pg_name (i := 2) sc_said.nd rfl (Or.inl rfl)) (fun _ _ _ _ _ => pts_one (pt_cmpR (inK K) (pv 1) (pe_ix (ixT K) (pv 0) (pv 2) (fun _ _ => rfl)) (by rfl)))
          (fun _ _ _ _ _ => pv 2))), ?_⟩
    refine ⟨_, rfl, _, rs.length, rfl, .inr ⟨_, hT, (List.length_map _).symm⟩, rs.length, rfl, by omega, by omega, fun D0 n0 => ?_⟩
    refine lc_range (lo := 0) (n := ((rs.length : Nat) : Int).toNat) (fun i H' => Same H H' ∧ H' D0 = some (.lst (((upTo i).filter fun a => inB k (rowAt rows a)).map V.int))) ⟨same_upd n0, upd_same⟩ ?_ ?_
    · rintro i H' hi ⟨s1, e1⟩
      have zi : (0 : Int) + (i : Int) = (i : Int) := Int.zero_add _
      rw [zi]
      obtain ⟨r', hr2, hq⟩ := row_at hI (s := (i : Int)) (by omega) (by omega)
      have hr3 : rs[i]? = some r' := hr2
      refine ⟨rfl, _, rfl, _, rfl, _, rfl, r, _, _, .ref r', rfl, rfl, Same.seqT s1 hT, at_of (j := i) (by omega) (by rw [List.getElem?_map, hr3] <;> rfl), ?_⟩
      refine ⟨r', _, rfl, .inr (Same.seqT s1 hq), rfl, flat_ints _, _, rfl, ?_⟩
      have e2 : inV (.int k) ((rowAt rows (i : Int)).map V.int) = inB k (rowAt rows (i : Int)) := inV_int _ _
      show if inV (.int k) ((rowAt rows (i : Int)).map V.int) = true then _ else _
      rw [e2]
      cases c : inB k (rowAt rows (i : Int)) with
      | true =>
        refine iteT ⟨_, rfl, _, e1, ?_, fun b o e => ?_, ?_⟩
        · rw [List.length_map]
          have := List.length_filter_le (fun z => inB k (rowAt rows z)) (upTo i)
          rw [upTo_len] at this
          exact small1000 (by omega)
        · rw [upd_ne (ne_of_none e n0)]
          exact s1 b o e
        · rw [upd_same, upTo_succ, List.filter_append, List.filter_cons_of_pos (p := fun z => inB k (rowAt rows z)) c, List.map_append]
          rfl
      | false =>
        refine iteF ⟨s1, ?_⟩
        rw [e1, upTo_succ, List.filter_append, List.filter_cons_of_neg (p := fun z => inB k (rowAt rows z)) (by rw [c]; exact Bool.false_ne_true), List.filter_nil, List.append_nil]
    · rintro H' ⟨s1, e1⟩
      rw [show ((rs.length : Nat) : Int).toNat = rows.length by omega] at e1
      exact ret D0 H' s1 n0 e1
/-! ### _law_product -/
def spLProd (K : PySem.W.Frag) : Sp := fun vs H Q _ => ∃ (h : Addr) (heard : List Int), vs = [.ref h] ∧ TupO H h (heard.map V.int) ∧ heard.length ≤ 6 ∧ RetT K H (prV (prodT heard, prodB heard)) Q
abbrev nmLProd : List Str := ["_law_heard_now", "_law_top", "_law_bottom", "_law_each"]
theorem sc_product : FnScope nmLProd ["_law_heard_now"] (defScope (top 63)) := ⟨rfl, rfl, rfl, by decide +kernel, rfl, by decide +kernel, by decide +kernel⟩
theorem has_product (D : Dat K mg) : Has P w K mg base CX0 "_law_product" 1 ["_law_heard_now"] (spLProd K) := by
  refine has_mk D.law_product sc_product (fun vs H Q E h => ?_) (fun _ _ _ _ _ _ us hl => match us, hl with | [_], _ => rfl) (fun f cdv A outer s H vs Q E hr h => ?_)
  · obtain ⟨h, heard, rfl, _⟩ := h
    rfl
  · obtain ⟨h, heard, rfl, hO, l6, k⟩ := h
    have hT : SqT K H h (heard.map V.int) := hO.seq
    refine ⟨_, pss_cons (ps_asg (pe_tup (pa_cons pe_int (pa_cons pe_int pa_nil))) (pgT K rfl (pgs_cons (pg_name (i := 1) sc_product.nd rfl (Or.inl rfl)) (pgs_cons (pg_name (i := 2) sc_product.nd rfl (Or.inl rfl)) pgs_nil))))
      (pss_cons (ps_for PassesOwn.never rfl (piT K (pv 0)) (pg_name (i := 3) sc_product.nd rfl (Or.inl rfl))
        (pss_one (ps_par (i := 1) (j := 2) rfl sc_product.nd rfl rfl (by decide) rfl rfl (pa_cons (pe_op op_mul (pv 1) (pe_tcount K (pv 0) (pv 3))) (pa_cons (pe_op op_mul (pv 2) (pe_callB (lenK K) (by rfl) D.len boot_len (pa_cons (pv 0) pa_nil))) pa_nil)) (by rfl))))
      (pss_one (ps_ret (pe_tup (pa_cons (pv 1) (pa_cons (pv 2) pa_nil)))))), ?_⟩
    refine ⟨(by show 2 ≤ sizeLine; decide), fun p0 n0 => ⟨p0, _, rfl, SqT.of upd_same, rfl, _, _, rfl, _, _, rfl, rfl, ?_⟩⟩
    have s0 : Same H (upd H p0 (.tup [.int 1, .int 1])) := same_upd n0
    have hO : TupO (upd H p0 (.tup [.int 1, .int 1])) h (heard.map V.int) := hO.same s0
    have hT := Same.seqT s0 hT
    refine ⟨_, rfl, h, rfl, ⟨_, hT⟩, for_tup (K := K) (a := h) (xs := heard.map V.int) (fun i σ H' => H' = upd H p0 (.tup [.int 1, .int 1]) ∧ ∃ v, σ = [some (.ref h), some (.int (partT heard i)), some (.int (partB heard i)), v])
      ⟨rfl, none, rfl⟩ (fun i σ H' _ q => by rw [q.1]; exact hT) ?_ ?_⟩
    · rintro i x σ H' hi ⟨rfl, v, rfl⟩
      obtain ⟨z, hz, rfl⟩ := map_get hi
      have c1 := cnt_pos (List.mem_of_getElem? hz)
      have c2 := cnt_le heard z
      obtain ⟨b1, b2, b3⟩ := part_le l6 i
      refine ⟨_, rfl, _, rfl, h, heard, rfl, hO, _, rfl, z, rfl, hT, _, _, rfl, rfl, .inl ⟨by omega, by omega⟩, ?_⟩
      refine ⟨_, rfl, _, rfl, _, heard.length, rfl, .inr ⟨_, hT, (List.length_map _).symm⟩, _, _, rfl, rfl, .inl ⟨by omega, by omega⟩, _, _, rfl, rfl, some (.int z), ?_⟩
      rw [partT_succ hz, partB_succ hz]
      rfl
    · rintro σ H' ⟨rfl, v, rfl⟩
      have e1 : partT heard (heard.map V.int).length = prodT heard := by unfold partT prodT; rw [take_all (by rw [List.length_map])]
      have e2 : partB heard (heard.map V.int).length = prodB heard := by unfold partB prodB; rw [take_all (by rw [List.length_map])]
      rw [e1, e2]
      exact ⟨_, rfl, _, rfl, (by show 2 ≤ sizeLine; decide), k.new s0⟩
end
end Tk
set_option maxHeartbeats 4000000
namespace Tk
open PySem PySem.Spec PyProof.Rows L2
/-! ### plain: rows with one put in -/
theorem asc_of_sorted {ms row : List Int} {k : Int} (hp : ms.Perm (row ++ [k])) (hs : ms.Pairwise (· ≤ ·)) (ha : Asc row) (hk : k ∉ row) : Asc ms := by
  have nd : (row ++ [k]).Nodup := by
    refine List.pairwise_append.mpr ⟨ha.imp fun h => by omega, List.pairwise_singleton _ _, fun x hx y hy e => ?_⟩
    have : y = k := by simpa using hy
    exact hk (by rw [← this, ← e]; exact hx)
  have nd2 : ms.Nodup := (List.Perm.nodup_iff hp).mpr nd
  exact (List.Pairwise.and hs nd2).imp fun h => by omega
theorem cover_set {rows : List (List Int)} {j : Nat} {row ms : List Int} (hj : rows[j]? = some row) (hsub : ∀ x ∈ row, x ∈ ms) {k : Int} (h : ∃ r ∈ rows, k ∈ r) : ∃ r ∈ rows.set j ms, k ∈ r := by
  obtain ⟨r, hr, hk⟩ := h
  obtain ⟨i, hi⟩ := List.getElem?_of_mem hr
  have jl := (List.getElem?_eq_some_iff.mp hj).1
  by_cases e : i = j
  · subst e
    rw [hj] at hi
    cases hi
    exact ⟨ms, List.mem_of_getElem? (i := i) (List.getElem?_set_self jl), hsub _ hk⟩
  · exact ⟨r, List.mem_of_getElem? (i := i) ((List.getElem?_set_ne (Ne.symm e)).trans hi), hk⟩
theorem put_set {rows : List (List Int)} {j : Nat} {row ms : List Int} (hj : rows[j]? = some row) {k : Int} (h : k ∈ ms) : ∃ r ∈ rows.set j ms, k ∈ r :=
  ⟨ms, List.mem_of_getElem? (i := j) (List.getElem?_set_self (List.getElem?_eq_some_iff.mp hj).1), h⟩
theorem all_set {rows : List (List Int)} {j : Nat} {ms : List Int} {C : List Int → Prop} (h : ∀ r ∈ rows, C r) (hm : C ms) : ∀ r ∈ rows.set j ms, C r := fun r hr => by
  rcases List.mem_or_eq_of_mem_set hr with q | q
  · exact h r q
  · rw [q]; exact hm
theorem RowsIn.set {K : PySem.W.Frag} {H : Hp} : ∀ {rs : List Addr} {rows : List (List Int)} {q : Addr} {ms : List Int} (j : Nat), RowsIn K H rs rows → IT K H q ms → RowsIn K H (rs.set j q) (rows.set j ms)
  | _, _, _, _, _, .nil, _ => .nil
  | _, _, _, _, 0, .cons _ t, h => .cons h t
  | _, _, _, _, j + 1, .cons a t, h => .cons a (t.set j h)
theorem VatAt.seqT {K : PySem.W.Frag} {H H' : Hp} {v a : Addr} {xs : List V} (hv : VatAt H v) (b : But v H H') (h : SqT K H a xs) : SqT K H' a xs := by
  obtain ⟨x, y, z, e, _⟩ := hv
  exact But.seqT e b h
theorem VatAt.rows {K : PySem.W.Frag} {H H' : Hp} {v : Addr} {rs : List Addr} {rows : List (List Int)} (hv : VatAt H v) (b : But v H H') (h : RowsIn K H rs rows) : RowsIn K H' rs rows := h.imp fun _ _ q => hv.seqT b q
theorem lst_seqT {K : PySem.W.Frag} {H : Hp} {F a : Addr} {xs ys zs : List V} (hF : H F = some (.lst ys)) (h : SqT K H a xs) : SqT K (L2.upd H F (.lst zs)) a xs := But.seqT hF (fun b o nb e => by rw [upd_ne nb]; exact e) h
theorem ixNat {n j : Nat} (hj : j < n) : ixN n (j : Int) = some j := by
  unfold ixN
  rw [if_pos (by omega), if_pos (by omega)]
  rfl
section
variable {P : Program} {w : World} {K : PySem.W.Frag} {mg : Str → Option Value} {base : Heap}
/-! ### _law_sayings -/
def RowC (m : Nat) (r : List Int) : Prop := AscIn m r ∧ r ≠ []
def spLSay (K : PySem.W.Frag) : Sp := fun vs H Q _ => ∃ (v : Addr) (m : Nat), vs = [.ref v, .int m, .int 4] ∧ VatAt H v ∧ 2 ≤ m ∧ m ≤ 5 ∧
  ∀ (rows : List (List Int)) (p : Addr) (H' : Hp), But v H H' → VatAt H' v → RowsT K H' p rows → OkR m rows → rows.length ≤ 4 → Q (.ref p) H'
abbrev nmLSay : List Str := ["_law_vat_here", "_law_many", "_law_most", "_law_found", "_law_turn", "_law_part", "_law_k", "_law_at"]
theorem sc_sayings : FnScope nmLSay ["_law_vat_here", "_law_many", "_law_most"] (defScope (top 60)) := ⟨rfl, rfl, rfl, by decide +kernel, rfl, by decide +kernel, by decide +kernel⟩
theorem has_sayings (D : Dat K mg) : Has P w K mg base CX0 "_law_sayings" 3 ["_law_vat_here", "_law_many", "_law_most"] (spLSay K) := by
  refine has_mk D.law_sayings sc_sayings (fun vs H Q E h => ?_) (fun _ _ _ _ _ _ us hl => match us, hl with | [_, _, _], _ => rfl) (fun f cdv A outer s H vs Q E hr h => ?_)
  · obtain ⟨v, m, rfl, _⟩ := h
    rfl
  · obtain ⟨v, m, rfl, hv, m2, m5, k⟩ := h
    have hu := hr.units
    have hr1 : Room 1 _ := hr.mono (by decide)
    refine ⟨_, pss_cons (ps_set (i := 3) sc_sayings.nd rfl (Or.inl rfl) (pe_lst pa_nil))
      (pss_cons (ps_for PassesOwn.never rfl (pi_range1 (by rfl) D.range (pa_cons (pe_op op_add pe_int (pe_f (has_tap D) hr1 rfl (pa_cons (pv 0) (pa_cons (pv 2) pa_nil)))) pa_nil)) (pg_name (i := 4) sc_sayings.nd rfl (Or.inl rfl))
        (pss_cons (ps_set (i := 5) sc_sayings.nd rfl (Or.inl rfl) (pe_f (has_lot D) hr rfl (pa_cons (pv 0) (pa_cons (pv 1) pa_nil))))
        (pss_one (ps_expr (pe_bm PySem.F.plainAttrs_list PySem.F.slot_list_append PySem.F.type_list_append mt_append (pv 3) (pa_cons
          (pe_ifExp (pt_cmpR (neK K hu) (pv 5) (pe_tup pa_nil) (nomark _)) (pv 5) (pe_tup (pa_cons (pe_f (has_tap D) hr1 rfl (pa_cons (pv 0) (pa_cons (pv 1) pa_nil))) pa_nil))) pa_nil))))))
      (pss_cons (ps_for PassesOwn.never rfl (pi_range1 (by rfl) D.range (pa_cons (pv 1) pa_nil)) (pg_name (i := 6) sc_sayings.nd rfl (Or.inr rfl))
        (pss_one (ps_if (pt_cmpR (eqK K hu) (pe_lc (own := [("_law_part", 5)]) (g := gName 5) (tt := tTest (tOp (rIn K false) (tVar 6) (tVar 5))) rfl sc_sayings.nd (piL K (pv 3)) (blkOk_by (own := [("_law_part", 5)]) (N := nmLSay) (sc := defScope (top 60)) (by decide +kernel))
            (fun _ _ _ _ _ => pg_name (i := 5) sc_sayings.nd rfl (Or.inl rfl)) (fun _ _ _ _ _ => pts_one (pt_cmpR (inK K) (pv 6) (pv 5) (by rfl))) (fun _ _ _ _ _ => pv 5)) (pe_lst pa_nil) (nomark _))
          (pss_cons (ps_set (i := 7) sc_sayings.nd rfl (Or.inl rfl) (pe_f (has_tap D) hr1 rfl (pa_cons (pv 0) (pa_cons (pe_callB (lenK K) (by rfl) D.len boot_len (pa_cons (pv 3) pa_nil)) pa_nil))))
          (pss_one (ps_asg (pe_callTy (tupK K) (by rfl) D.tuple boot_tuple (pa_cons (pe_callB cr_sortedTup (by rfl) D.sorted boot_sorted (pa_cons (pe_op (catA K) (pe_ix (ixL K) (pv 3) (pv 7) (fun _ _ => rfl)) (pe_tup (pa_cons (pv 6) pa_nil))) pa_nil)) pa_nil)) (pg_sub (pv 3) (pv 7) set_list)))) pss_nil)))
      (pss_one (ps_ret (pe_callTy (tupK K) (by rfl) D.tuple boot_tuple (pa_cons (pv 3) pa_nil)))))), ?_⟩
    refine ⟨Nat.zero_le _, fun F nF => ?_⟩
    have vF := hv.ne nF
    refine ⟨_, rfl, _, rfl, v, 4, rfl, hv.upd vF, by decide, by decide, fun d H1 d0 d1 b1 hv1 => ?_⟩
    have B1 : But v H H1 := (But.of (same_upd nF)).trans b1
    have hF1 : H1 F = some (.lst []) := b1 _ _ (Ne.symm vF) upd_same
    refine ⟨_, _, rfl, rfl, 1 + d, rfl, by omega, by omega, for_range (lo := 0) (n := (1 + d).toNat) (fun i σ H' => But v H H' ∧ VatAt H' v ∧ ∃ (rs : List Addr) (rows : List (List Int)) (lt lp : Option V), σ = [some (.ref v), some (.int m), some (.int 4), some (.ref F), lt, lp, none, none] ∧
        H' F = some (.lst (rs.map V.ref)) ∧ RowsIn K H' rs rows ∧ rows.length = i ∧ ∀ r ∈ rows, RowC m r)
      ⟨B1, hv1, [], [], none, none, rfl, hF1, .nil, rfl, nofun⟩ ?_ ?_⟩
    · rintro i σ H2 hi ⟨B2, hv2, rs, rows, lt, lp, rfl, hF2, hR, hl, hC⟩
      have hlen := hR.len
      refine ⟨_, rfl, _, rfl, v, m, rfl, hv2, by omega, fun ns p H3 b3 hv3 hA hp => ?_⟩
      have hF3 := b3 _ _ (Ne.symm vF) hF2
      have B3 := B2.trans b3
      have hR3 := hv2.rows b3 hR
      have fin : ∀ q r H4, But v H3 H4 → VatAt H4 v → IT K H4 q r → RowC m r → ∃ l xs y, V.ref F = .ref l ∧ [V.ref q] = [y] ∧ H4 l = some (.lst xs) ∧ xs.length < sizeLine ∧ But v H (upd H4 l (.lst (xs ++ [y]))) ∧ VatAt (upd H4 l (.lst (xs ++ [y]))) v ∧ ∃ (rs : List Addr) (rows : List (List Int)) (lt' lp' : Option V), [some (V.ref v), some (.int m), some (.int 4), some (.ref F), some (.int (0 + (i : Int))), some (.ref p), none, none] = [some (.ref v), some (.int m), some (.int 4), some (.ref F), lt', lp', none, none] ∧
          (upd H4 l (.lst (xs ++ [y]))) F = some (.lst (rs.map V.ref)) ∧ RowsIn K (upd H4 l (.lst (xs ++ [y]))) rs rows ∧ rows.length = i + 1 ∧ ∀ r ∈ rows, RowC m r := by
        intro q r H4 b4 hv4 hq hr
        have hF4 := b4 _ _ (Ne.symm vF) hF3
        refine ⟨F, _, _, rfl, rfl, hF4, by rw [List.length_map]; exact small1000 (by omega), (B3.trans b4).upd (But.refl v H) nF, hv4.upd vF, rs ++ [q], rows ++ [r], _, _, rfl, ?_, ?_, ?_, fun x hx => ?_⟩
        · rw [upd_same, List.map_append]
          rfl
        · exact ((hv3.rows b4 hR3).imp fun _ _ z => lst_seqT hF4 z).snoc (lst_seqT hF4 hq)
        · rw [List.length_append, hl]
          rfl
        · rcases List.mem_append.mp hx with z | z
          · exact hC x z
          · have : x = r := by simpa using z
            rw [this]
            exact hr
      refine ⟨_, rfl, .inl ⟨rfl, _, SqL.of hF3⟩, _, rfl, Nat.zero_le _, fun p0 n0 => ⟨_, _, dp_tI (Same.seqT (same_upd n0) hp), dp_t0 (SqT.of upd_same), sh_tI _, sh_t0, _, rfl, ?_⟩⟩
      rw [eqv_t0]
      have s4 : Same H3 (upd H3 p0 (.tup [])) := same_upd n0
      cases ns with
      | nil =>
        refine ifF_of rfl ?_
        refine ⟨_, rfl, _, rfl, v, m, rfl, hv3.same s4, by omega, by omega, fun z H5 z0 z1 b5 hv5 => ⟨(by show 1 ≤ sizeLine; decide), fun q nq => ?_⟩⟩
        refine fin q [z] _ (((But.of s4).trans b5).trans (But.of (same_upd nq))) (hv5.upd (hv5.ne nq)) (SqT.of upd_same) ⟨⟨List.pairwise_singleton _ _, fun y hy => ?_⟩, nofun⟩
        have : y = z := by simpa using hy
        omega
      | cons a r =>
        refine ifT_of rfl ⟨_, rfl, ?_⟩
        exact fin p (a :: r) _ (But.of s4) (hv3.same s4) (Same.seqT s4 hp) ⟨hA, nofun⟩
    · rintro σ H2 ⟨B2, hv2, rs, rows, lt, lp, rfl, hF2, hR, hl, hC⟩
      have hn : 1 ≤ rows.length ∧ rows.length ≤ 4 := by omega
      refine ⟨_, rfl, m, rfl, by omega, by omega, for_range (lo := 0) (n := (m : Int).toNat) (fun i σ H' => But v H H' ∧ VatAt H' v ∧ ∃ (rs' : List Addr) (rows' : List (List Int)) (lk la : Option V), σ = [some (.ref v), some (.int m), some (.int 4), some (.ref F), lt, lp, lk, la] ∧
          H' F = some (.lst (rs'.map V.ref)) ∧ RowsIn K H' rs' rows' ∧ rows'.length = rows.length ∧ (∀ r ∈ rows', RowC m r) ∧ ∀ z : Int, 0 ≤ z → z < i → ∃ r ∈ rows', z ∈ r)
        ⟨B2, hv2, rs, rows, none, none, rfl, hF2, hR, rfl, hC, fun z a b => by omega⟩ ?_ ?_⟩
      · rintro i σ H3 hi ⟨B3, hv3, rs', rows', lk, la, rfl, hF3, hR3, hl3, hC3, hK3⟩
        have zi : (0 : Int) + (i : Int) = (i : Int) := Int.zero_add _
        rw [zi]
        have hlen := hR3.len
        refine ⟨_, rfl, F, rfl, ⟨_, SqL.of hF3⟩, fun D0 nD => ?_⟩
        refine lc_list (K := K) (a := F) (xs := rs'.map V.ref) (fun j H4 => Same H3 H4 ∧ ∃ ts : List Addr, H4 D0 = some (.lst (ts.map V.ref)) ∧ RowsIn K H4 ts ((rows'.take j).filter (inB (i : Int))))
          ⟨same_upd nD, [], upd_same, .nil⟩ (fun j H4 _ q => SqL.of (q.1 _ _ hF3)) ?_ ?_
        · rintro j x H4 hx ⟨s4, ts, hD, hT⟩
          obtain ⟨r, hr1, rfl⟩ := map_get hx
          have hj := (List.getElem?_eq_some_iff.mp hr1).1
          obtain ⟨row, hrow⟩ : ∃ row, rows'[j]? = some row := ⟨_, List.getElem?_eq_getElem (by omega)⟩
          obtain ⟨r', e1, hq⟩ := hR3.get hrow
          rw [hr1] at e1
          cases e1
          refine ⟨rfl, _, rfl, _, rfl, r, _, rfl, .inr (Same.seqT s4 hq), rfl, flat_ints _, _, rfl, ?_⟩
          show if inV (.int (i : Int)) (row.map V.int) = true then _ else _
          rw [inV_int]
          cases c : inB (i : Int) row with
          | true =>
            refine iteT ⟨_, rfl, _, hD, ?_, fun b o e => ?_, ts ++ [r], ?_, ?_⟩
            · have q1 := hT.len
              have q2 := List.length_filter_le (inB (i : Int)) (rows'.take j)
              rw [List.length_take] at q2
              rw [List.length_map]
              exact small1000 (by omega)
            · rw [upd_ne (ne_of_none e nD)]
              exact s4 b o e
            · rw [upd_same, List.map_append]
              rfl
            · rw [take_snoc hrow, List.filter_append, List.filter_cons_of_pos (p := inB (i : Int)) c]
              exact (hT.imp fun _ _ z => lst_seqT hD z).snoc (lst_seqT hD (Same.seqT s4 hq))
          | false =>
            refine iteF ⟨s4, ts, hD, ?_⟩
            rw [take_snoc hrow, List.filter_append, List.filter_cons_of_neg (p := inB (i : Int)) (by rw [c]; exact Bool.false_ne_true), List.filter_nil, List.append_nil]
            exact hT
        · rintro H4 ⟨s4, ts, hD, hT⟩
          rw [take_all (by rw [List.length_map]; exact hlen)] at hT
          refine ⟨Nat.zero_le _, fun p0 n0 => ?_⟩
          have s5 : Same H4 (upd H4 p0 (.lst [])) := same_upd n0
          refine ⟨_, _, .lst (SqL.of (s5 _ _ hD)) (dpR (hT.imp fun _ _ z => Same.seqT s5 z)), dp_l0 (SqL.of upd_same), sh_lR _, sh_l0, _, rfl, ?_⟩
          rw [eqv_l0]
          have s35 := s4.trans s5
          have B5 := B3.trans (But.of s35)
          have hv5 := hv3.same s35
          have hF5 := s35 _ _ hF3
          have hR5 := hR3.imp fun _ _ z => Same.seqT s35 z
          by_cases c : rows'.filter (inB (i : Int)) = []
          · rw [c]
            refine ifT_of rfl ?_
            refine ⟨_, rfl, _, rfl, _, rs'.length, rfl, .inl ⟨_, SqL.of hF5, (List.length_map _).symm⟩, v, rs'.length, rfl, hv5, by omega, by omega, fun d' H6 d0' d1' b6 hv6 => ?_⟩
            obtain ⟨dn, rfl⟩ : ∃ n : Nat, d' = n := ⟨d'.toNat, by omega⟩
            have B6 := B5.trans b6
            have hF6 := b6 _ _ (Ne.symm vF) hF5
            have hR6 := hv5.rows b6 hR5
            obtain ⟨row, hrow⟩ : ∃ row, rows'[dn]? = some row := ⟨_, List.getElem?_eq_getElem (by omega)⟩
            obtain ⟨r, hr1, hq⟩ := hR6.get hrow
            have hrc := hC3 row (List.mem_of_getElem? hrow)
            have nk : (i : Int) ∉ row := fun z => by
              have : row ∈ rows'.filter (inB (i : Int)) := List.mem_filter.mpr ⟨List.mem_of_getElem? hrow, decide_eq_true z⟩
              rw [c] at this
              cases this
            have l5 := hrc.1.len
            refine ⟨_, rfl, _, rfl, F, _, _, .ref r, rfl, rfl, SqL.of hF6, at_of (j := dn) rfl (by rw [List.getElem?_map, hr1] <;> rfl), _, rfl, (by show 1 ≤ sizeLine; decide), fun b nb => ?_⟩
            have s7 : Same H6 (upd H6 b (.tup [.int (i : Int)])) := same_upd nb
            refine ⟨r, b, _, _, rfl, rfl, Same.seqT s7 hq, SqT.of upd_same, ?_, fun e => absurd (List.map_eq_nil_iff.mp e) hrc.2, (fun _ e => nomatch e), fun _ _ q nq => ?_⟩
            · rw [List.length_map]
              exact Nat.le_of_lt (small1000 (by show row.length + 1 ≤ 1000; omega))
            have s8 := s7.trans (same_upd (o := .tup (row.map V.int ++ [.int (i : Int)])) nq)
            have eq8 : row.map V.int ++ [.int (i : Int)] = (row ++ [(i : Int)]).map V.int := by rw [List.map_append]; rfl
            refine ⟨q, row ++ [(i : Int)], rfl, (by rw [← eq8]; exact SqT.of upd_same), fun ms p pm pw np => ?_⟩
            have s9 := s8.trans (same_upd (o := .lst (ms.map V.int)) np)
            refine ⟨p, _, rfl, .inl ⟨SqL.of upd_same, fun t nt => ?_⟩⟩
            have s10 := s9.trans (same_upd (o := .tup (ms.map V.int)) nt)
            have hF10 := s10 _ _ hF6
            refine ⟨_, rfl, _, rfl, F, _, _, dn, rfl, rfl, hF10, ixNat (by rw [List.length_map]; omega), (B6.trans (But.of s10)).upd (But.refl v H) nF, (hv6.same s10).upd vF, rs'.set dn t, rows'.set dn ms, _, _, rfl, ?_, ?_, ?_, ?_, ?_⟩
            · rw [upd_same, List.map_set]
            · exact ((hR6.imp fun _ _ z => Same.seqT s10 z).imp fun _ _ z => lst_seqT hF10 z).set dn (lst_seqT hF10 (SqT.of upd_same))
            · rw [List.length_set]
              exact hl3
            · have has : ∀ x, x ∈ ms ↔ x ∈ row ∨ x = (i : Int) := fun x => by rw [pm.mem_iff]; simp
              refine all_set hC3 ⟨⟨asc_of_sorted pm pw hrc.1.1 nk, fun x hx => ?_⟩, fun e => ?_⟩
              · rcases (has x).mp hx with z | z
                · exact hrc.1.2 x z
                · omega
              · have q := (has (i : Int)).mpr (.inr rfl)
                rw [e] at q
                cases q
            · intro z z0 z1
              have has : ∀ x, x ∈ ms ↔ x ∈ row ∨ x = (i : Int) := fun x => by rw [pm.mem_iff]; simp
              by_cases e : z = (i : Int)
              · exact put_set hrow ((has z).mpr (.inr e))
              · exact cover_set hrow (fun x hx => (has x).mpr (.inl hx)) (hK3 z z0 (by omega))
          · have emp : (dR (rows'.filter (inB (i : Int)))).isEmpty = false := by
              cases q : rows'.filter (inB (i : Int)) with
              | nil => exact absurd q c
              | cons a b => rfl
            refine ifF_of emp ⟨B5, hv5, rs', rows', _, _, rfl, hF5, hR5, hl3, hC3, fun z z0 z1 => ?_⟩
            by_cases e : z = (i : Int)
            · obtain ⟨r, hr⟩ := List.exists_mem_of_ne_nil _ c
              obtain ⟨h1, h2⟩ := List.mem_filter.mp hr
              exact ⟨r, h1, by rw [e]; exact of_decide_eq_true h2⟩
            · exact hK3 z z0 (by omega)
      · rintro σ H3 ⟨B3, hv3, rs', rows', lk, la, rfl, hF3, hR3, hl3, hC3, hK3⟩
        refine ⟨_, rfl, F, _, rfl, .inl ⟨SqL.of hF3, fun p np => ?_⟩⟩
        have s4 := same_upd (o := .tup (rs'.map V.ref)) np
        refine k rows' p _ (B3.trans (But.of s4)) (hv3.same s4) ⟨rs', SqT.of upd_same, hR3.imp fun _ _ q => Same.seqT s4 q⟩ ⟨?_, by omega, hC3, fun z a b => hK3 z a (by omega)⟩ (by omega)
        intro e
        rw [e] at hl3
        simp at hl3
        omega
end
end Tk
set_option maxHeartbeats 4000000
namespace Tk
open PySem PySem.Spec PyProof.Rows L2
/-! ### plain: parts of a choice stay small -/
theorem parts_le {ws : List Int} {rows : List (List Int)} {lot : List Int} {T B : Int} {ch : Nat → Bool} (hT : 0 ≤ T) (hB : T ≤ B) (hB2 : B ≤ 46656) : ∀ (l : List Int) (i : Nat), (∀ k ∈ l, 0 ≤ wt ws k ∧ wt ws k ≤ 1000000) →
    0 ≤ insW ws rows lot T B ch l i ∧ insW ws rows lot T B ch l i ≤ whlW ws rows T B ch l i ∧ whlW ws rows T B ch l i ≤ 46656000000 * (l.length : Int)
  | [], i, _ => by simp [insW, whlW]
  | k :: r, i, h => by
    obtain ⟨a1, a2, a3⟩ := parts_le (ws := ws) (rows := rows) (lot := lot) (ch := ch) hT hB hB2 r (i + 1) fun x hx => h x (List.mem_cons_of_mem _ hx)
    obtain ⟨w0, w1⟩ := h k List.mem_cons_self
    have v0 : 0 ≤ vl rows T B (ch i) k ∧ vl rows T B (ch i) k ≤ 46656 := by
      unfold vl
      split
      · omega
      · split <;> omega
    have m0 := Int.mul_nonneg w0 v0.1
    have m1 : wt ws k * vl rows T B (ch i) k ≤ 1000000 * 46656 := Int.mul_le_mul w1 v0.2 v0.1 (by decide)
    have l1 : ((k :: r).length : Int) = (r.length : Int) + 1 := by simp
    rw [l1, Int.mul_add]
    simp only [insW, whlW]
    cases inB k lot with
    | true => rw [b2n_t, Int.mul_one]; omega
    | false => rw [b2n_f, Int.mul_zero]; omega
theorem vl_bnd {rows : List (List Int)} {T B : Int} {c : Bool} {k : Int} (hT : 0 ≤ T) (hB : T ≤ B) (hB2 : B ≤ 46656) : 0 ≤ vl rows T B c k ∧ vl rows T B c k ≤ 46656 := by
  unfold vl
  split
  · omega
  · split <;> omega
def pr2 (p : Int × Int) : List Int := [p.1, p.2]
theorem none_closed (rows : List (List Int)) (k : Int) : ∀ heard : List Int, (heard.filter fun s => !inB k (rowAt rows s)).isEmpty = isOpen rows heard k
  | [] => rfl
  | s :: r => by
    have ih := none_closed rows k r
    unfold isOpen at ih ⊢
    rw [List.all_cons]
    cases c : inB k (rowAt rows s) with
    | true =>
      rw [List.filter_cons_of_neg (by simp [c]), ih]
      rfl
    | false =>
      rw [List.filter_cons_of_pos (by simp [c])]
      rfl
section
variable {P : Program} {w : World} {K : PySem.W.Frag} {mg : Str → Option Value} {base : Heap}
abbrev sD (lo ro h pa : Addr) (v4 v5 v6 v7 v8 v9 v10 v11 v12 v13 v14 v15 v16 : Option V) : L2.St := [some (.ref lo), some (.ref ro), some (.ref h), some (.ref pa), v4, v5, v6, v7, v8, v9, v10, v11, v12, v13, v14, v15, v16, none]
/-- [k for k in range(len(loads)) if [at for at in heard if k not in rows[at]] == []] -/
theorem lcOpen {H : Hp} {lo ro h pa : Addr} {ws heard : List Int} {rows : List (List Int)} {Q : VK} (hW : IT K H lo ws) (l8 : ws.length ≤ 8) (hR : RowsT K H ro rows) (hH : IT K H h heard) (oH : OkH rows.length heard)
    (q : ∀ D H', Same H H' → H D = none → H' D = some (.lst ((openC ws.length rows heard).map V.int)) → Q (.ref D) H') :
    tLc (iRng1 (tCons (tCB (rLenK K) (tCons (tVar 0) tNil)) tNil)) (gName 12) (tTest (tOp (rEqD K) (tLc (iTup K (tVar 2)) (gName 17) (tTest (tOp (rIn K true) (tVar 12) (tOp (rIxT K) (tVar 1) (tVar 17)))) (tVar 17) [17]) (tLst tNil))) (tVar 12) [12]
      (sD lo ro h pa none none none none none none none none none none none none none) H Q := by
  obtain ⟨rs, hT, hI⟩ := hR
  refine ⟨_, rfl, _, ws.length, rfl, .inr ⟨_, hW, (List.length_map _).symm⟩, ws.length, rfl, by omega, by omega, fun D0 n0 => ?_⟩
  refine lc_range (lo := 0) (n := ((ws.length : Nat) : Int).toNat) (fun i H' => Same H H' ∧ H' D0 = some (.lst (((upTo i).filter (isOpen rows heard)).map V.int))) ⟨same_upd n0, upd_same⟩ ?_ ?_
  · rintro i H' hi ⟨s1, h1⟩
    rw [show (0 : Int) + (i : Int) = (i : Int) from Int.zero_add _]
    refine ⟨rfl, _, rfl, h, rfl, ⟨_, Same.seqT s1 hH⟩, fun D1 n1 => ?_⟩
    have nD : D0 ≠ D1 := ne_of_none h1 n1
    refine lc_tup (K := K) (a := h) (xs := heard.map V.int) (fun j H'' => Same H' H'' ∧ H'' D1 = some (.lst (((heard.take j).filter fun s => !inB (i : Int) (rowAt rows s)).map V.int))) ⟨same_upd n1, upd_same⟩ (fun j H'' _ z => Same.seqT (s1.trans z.1) hH) ?_ ?_
    · rintro j x H'' hx ⟨s2, h2⟩
      obtain ⟨z, hz, rfl⟩ := map_get hx
      have wn := oH.2.2 z (List.mem_of_getElem? hz)
      obtain ⟨r, hr1, hr2⟩ := row_at hI wn.1 wn.2
      have s3 := s1.trans s2
      refine ⟨rfl, _, rfl, _, rfl, _, rfl, ro, _, _, .ref r, rfl, rfl, Same.seqT s3 hT, at_of (j := z.toNat) (by omega) (by rw [List.getElem?_map, hr1] <;> rfl), r, _, rfl, .inr (Same.seqT s3 hr2), rfl, flat_ints _, _, rfl, ?_⟩
      refine (?_ : if (!inV (V.int (i : Int)) ((rowAt rows z).map V.int)) = true then _ else _)
      rw [inV_int]
      cases c : (!inB (i : Int) (rowAt rows z)) with
      | true =>
        refine iteT ⟨_, rfl, _, h2, ?_, fun b o e => ?_, ?_⟩
        · rw [List.length_map]
          have q1 := List.length_filter_le (fun s => !inB (i : Int) (rowAt rows s)) (heard.take j)
          rw [List.length_take] at q1
          have := oH.2.1
          exact small1000 (by omega)
        · rw [upd_ne (ne_of_none e n1)]
          exact s2 b o e
        · rw [upd_same, take_snoc hz, List.filter_append, List.filter_cons_of_pos (p := fun s => !inB (i : Int) (rowAt rows s)) c, List.map_append]
          rfl
      | false =>
        refine iteF ⟨s2, ?_⟩
        rw [h2, take_snoc hz, List.filter_append, List.filter_cons_of_neg (p := fun s => !inB (i : Int) (rowAt rows s)) (by rw [c]; exact Bool.false_ne_true), List.filter_nil, List.append_nil]
    · rintro H'' ⟨s2, h2⟩
      rw [take_all (by rw [List.length_map])] at h2
      refine ⟨Nat.zero_le _, fun p0 n0' => ?_⟩
      have s3 : Same H'' (upd H'' p0 (.lst [])) := same_upd n0'
      refine ⟨_, _, dp_lI (SqL.of (s3 _ _ h2)), dp_l0 (SqL.of upd_same), sh_lI _, sh_l0, _, rfl, ?_⟩
      rw [eqv_l0]
      have e : (dI (heard.filter fun s => !inB (i : Int) (rowAt rows s))).isEmpty = isOpen rows heard (i : Int) := by
        rw [← none_closed]
        unfold dI
        rw [List.isEmpty_map]
      rw [e]
      have s4 := s1.trans (s2.trans s3)
      have h4 := s3 _ _ (s2 _ _ h1)
      cases c : isOpen rows heard (i : Int) with
      | true =>
        refine iteT ⟨_, rfl, _, h4, ?_, fun b o e => ?_, ?_⟩
        · rw [List.length_map]
          have := List.length_filter_le (isOpen rows heard) (upTo i)
          rw [upTo_len] at this
          exact small1000 (by omega)
        · rw [upd_ne (ne_of_none e n0)]
          exact s4 b o e
        · rw [upd_same, upTo_succ, List.filter_append, List.filter_cons_of_pos (p := isOpen rows heard) c, List.map_append]
          rfl
      | false =>
        refine iteF ⟨s4, ?_⟩
        rw [h4, upTo_succ, List.filter_append, List.filter_cons_of_neg (p := isOpen rows heard) (by rw [c]; exact Bool.false_ne_true), List.filter_nil, List.append_nil]
  · rintro H' ⟨s1, h1⟩
    exact q D0 H' s1 n0 h1
end
end Tk
set_option maxHeartbeats 4000000
namespace Tk
open PySem PySem.Spec PyProof.Rows L2
def never : Str := "never"
def Lo (fl : List (Int × Int)) (i : Nat) : Int × Int := (fl.take i).foldl (fun lo x => if below x lo then x else lo) (fl.headD (0, 1))
def Hi (fl : List (Int × Int)) (i : Nat) : Int × Int := (fl.take i).foldl (fun hi x => if below hi x then x else hi) (fl.headD (0, 1))
theorem Lo_succ {fl : List (Int × Int)} {i : Nat} {x : Int × Int} (h : fl[i]? = some x) : Lo fl (i + 1) = if below x (Lo fl i) then x else Lo fl i := by
  unfold Lo
  rw [take_snoc h, List.foldl_append]
  rfl
theorem Hi_succ {fl : List (Int × Int)} {i : Nat} {x : Int × Int} (h : fl[i]? = some x) : Hi fl (i + 1) = if below (Hi fl i) x then x else Hi fl i := by
  unfold Hi
  rw [take_snoc h, List.foldl_append]
  rfl
theorem if01 (b : Bool) : -(2 : Int) ^ 64 < (if b = true then 1 else 0 : Int) ∧ (if b = true then 1 else 0 : Int) < 2 ^ 64 := by cases b <;> decide
theorem pickIf {b : Bool} {σ : L2.St} {H : Hp} {Q : VK} {i j : Nat} {r a : Addr} (hi : σ[i]? = some (some (.ref r))) (hj : σ[j]? = some (some (.ref a))) (h : Q (.ref (if b = true then r else a)) H) : if b = true then tVar i σ H Q else tVar j σ H Q := by
  cases b with
  | true => exact iteT ⟨_, hi, h⟩
  | false => exact iteF ⟨_, hj, h⟩
theorem vlIf {K : PySem.W.Frag} {σ : L2.St} {H : Hp} {Q : VK} {rows : List (List Int)} {T B k : Int} {j : Nat} {r : Addr} {sm : List Int} (h6 : σ[6]? = some (some (.int B))) (h5 : σ[5]? = some (some (.int T))) (h11 : σ[11]? = some (some (.int j))) (h8 : σ[8]? = some (some (.ref r))) (hr : IT K H r sm)
    (h : Q (.int (vl rows T B (inB (j : Int) sm) k)) H) : if isBound rows k = true then tVar 6 σ H Q else tIf (tTest (tOp (rIn K false) (tVar 11) (tVar 8))) (tVar 5) (tC (.int 0)) σ H Q := by
  unfold vl at h
  cases c : isBound rows k with
  | true =>
    rw [if_pos c] at h
    exact iteT ⟨_, h6, h⟩
  | false =>
    rw [if_neg (by rw [c]; exact Bool.false_ne_true)] at h
    refine iteF ⟨_, h11, _, h8, r, _, rfl, .inr hr, rfl, flat_ints _, _, rfl, ?_⟩
    refine (?_ : if inV (V.int (j : Int)) (sm.map V.int) = true then _ else _)
    rw [inV_int]
    cases c2 : inB (j : Int) sm with
    | true =>
      rw [c2] at h
      exact iteT ⟨_, h5, h⟩
    | false =>
      rw [c2] at h
      exact iteF h
theorem dpP {K : PySem.W.Frag} {H : Hp} {p : Addr} {ts : List Addr} {fl : List (Int × Int)} (h : SqL K H p (ts.map V.ref)) (hT : RowsIn K H ts (fl.map pr2)) : Dp K H (.ref p) (.list (dR (fl.map pr2))) := .lst h (dpR hT)
section
variable {P : Program} {w : World} {K : PySem.W.Frag} {mg : Str → Option Value} {base : Heap}
/-! ### _law_dues -/
def spDues (K : PySem.W.Frag) : Sp := fun vs H Q _ => ∃ (lo ro h pa : Addr) (ws heard lot : List Int) (rows : List (List Int)), vs = [.ref lo, .ref ro, .ref h, .ref pa] ∧ IT K H lo ws ∧ OkW ws ∧ ws.length ≤ 5 ∧ RowsT K H ro rows ∧ rows.length ≤ 16 ∧
  TupO H h (heard.map V.int) ∧ OkH rows.length heard ∧ IT K H pa lot ∧ lot.length ≤ 8 ∧
  (openC ws.length rows heard = [] → ∀ p H', Same H H' → H' p = some (.lst [.str never, .str never]) → Q (.ref p) H') ∧
  (openC ws.length rows heard ≠ [] → ∀ p a b H', Same H H' → H' p = some (.lst [.ref a, .ref b]) → SqT K H' a (prV (lowV ws rows heard lot)) → SqT K H' b (prV (highV ws rows heard lot)) → Q (.ref p) H')
abbrev nmDues : List Str := ["_law_loads", "_law_rows", "_law_heard_now", "_law_part", "_law_open_cases", "_law_top", "_law_bottom", "_law_found", "_law_some", "_law_inside", "_law_whole", "_law_i", "_law_k", "_law_value", "_law_low", "_law_high", "_law_each", "_law_at"]
theorem sc_dues : FnScope nmDues ["_law_loads", "_law_rows", "_law_heard_now", "_law_part"] (defScope (top 64)) := ⟨rfl, rfl, rfl, by decide +kernel, rfl, by decide +kernel, by decide +kernel⟩
theorem has_dues (D : Dat K mg) : Has P w K mg base CX0 "_law_dues" 2 ["_law_loads", "_law_rows", "_law_heard_now", "_law_part"] (spDues K) := by
  refine has_mk D.law_dues sc_dues (fun vs H Q E h => ?_) (fun _ _ _ _ _ _ us hl => match us, hl with | [_, _, _, _], _ => rfl) (fun f cdv A outer s H vs Q E hr h => ?_)
  · obtain ⟨lo, ro, h, pa, ws, heard, lot, rows, rfl, _⟩ := h
    rfl
  · obtain ⟨lo, ro, h, pa, ws, heard, lot, rows, rfl, hW, oW, l5, hR, l16, hO, oH, hL, lL, kN, kS⟩ := h
    have hu := hr.units
    refine ⟨_, pss_cons (ps_setLc (i := 4) (own := [("_law_k", 12)]) (g := gName 12) (tt := tTest (tOp (rEqD K) (tLc (iTup K (tVar 2)) (gName 17) (tTest (tOp (rIn K true) (tVar 12) (tOp (rIxT K) (tVar 1) (tVar 17)))) (tVar 17) [17]) (tLst tNil))) rfl sc_dues.nd rfl rfl (sw_true rfl rfl rfl (by decide +kernel))
        (pi_range1 (by rfl) D.range (pa_cons (pe_callB (lenK K) (by rfl) D.len boot_len (pa_cons (pv 0) pa_nil)) pa_nil)) (blkOk_by (own := [("_law_k", 12)]) (N := nmDues) (sc := defScope (top 64)) (by decide +kernel))
        (fun _ _ _ _ _ => pg_name (i := 12) sc_dues.nd rfl (Or.inr rfl))
        (fun _ _ _ _ _ => pts_one (pt_cmpR (eqK K hu) (pe_lc (own := [("_law_at", 17)]) (g := gName 17) (tt := tTest (tOp (rIn K true) (tVar 12) (tOp (rIxT K) (tVar 1) (tVar 17)))) rfl sc_dues.nd (piT K (pv 2)) (blkOk_by (own := [("_law_at", 17)]) (N := nmDues) (sc := relS ⟨.function, [(".0", .local), ("_law_k", .cell), ("_law_heard_now", .free), ("_law_rows", .free)], false, false, []⟩ (defScope (top 64))) (by decide +kernel))
          (fun _ _ _ _ _ => pg_name (i := 17) sc_dues.nd rfl (Or.inl rfl)) (fun _ _ _ _ _ => pts_one (pt_cmpR (ninK K) (pv 12) (pe_ix (ixT K) (pv 1) (pv 17) (fun _ _ => rfl)) (by rfl))) (fun _ _ _ _ _ => pv 17)) (pe_lst pa_nil) (nomark _)))
        (fun _ _ _ _ _ => pv 12))
      (pss_cons (ps_asg (pe_f (has_product D) (hr.mono (by decide)) rfl (pa_cons (pv 2) pa_nil)) (pgT K rfl (pgs_cons (pg_name (i := 5) sc_dues.nd rfl (Or.inl rfl)) (pgs_cons (pg_name (i := 6) sc_dues.nd rfl (Or.inl rfl)) pgs_nil))))
      (pss_cons (ps_set (i := 7) sc_dues.nd rfl (Or.inl rfl) (pe_lst pa_nil))
      (pss_cons (ps_for PassesOwn.never rfl (piL K (pe_f (has_lots D) hr rfl (pa_cons (pe_callB (lenK K) (by rfl) D.len boot_len (pa_cons (pv 4) pa_nil)) pa_nil))) (pg_name (i := 8) sc_dues.nd rfl (Or.inl rfl))
        (pss_cons (ps_asg (pe_tup (pa_cons pe_int (pa_cons pe_int pa_nil))) (pgT K rfl (pgs_cons (pg_name (i := 9) sc_dues.nd rfl (Or.inl rfl)) (pgs_cons (pg_name (i := 10) sc_dues.nd rfl (Or.inl rfl)) pgs_nil))))
        (pss_cons (ps_for PassesOwn.never rfl (pi_range1 (by rfl) D.range (pa_cons (pe_callB (lenK K) (by rfl) D.len boot_len (pa_cons (pv 4) pa_nil)) pa_nil)) (pg_name (i := 11) sc_dues.nd rfl (Or.inl rfl))
          (pss_cons (ps_set (i := 12) sc_dues.nd rfl (Or.inl rfl) (pe_ix (ixL K) (pv 4) (pv 11) (fun _ _ => rfl)))
          (pss_cons (ps_set (i := 13) sc_dues.nd rfl (Or.inl rfl) (pe_ifExp (pt_cmpR op_eq (pe_callB (lenK K) (by rfl) D.len boot_len (pa_cons (pe_f (has_said D) hr rfl (pa_cons (pv 1) (pa_cons (pv 12) pa_nil))) pa_nil)) pe_int (nomark _)) (pv 6)
            (pe_ifExp (pt_cmpR (inK K) (pv 11) (pv 8) (by rfl)) (pv 5) pe_int)))
          (pss_one (ps_par (i := 9) (j := 10) rfl sc_dues.nd rfl rfl (by decide) rfl rfl
            (pa_cons (pe_op op_add (pv 9) (pe_op op_mul (pe_op op_mul (pe_ix (ixT K) (pv 0) (pv 12) (fun _ _ => rfl)) (pv 13)) (pe_callTy call_int1 (by rfl) D.int boot_int (pa_cons (pe_cmpR (inK K) (pv 12) (pv 3) (by rfl)) pa_nil))))
            (pa_cons (pe_op op_add (pv 10) (pe_op op_mul (pe_ix (ixT K) (pv 0) (pv 12) (fun _ _ => rfl)) (pv 13))) pa_nil)) (by rfl))))))
        (pss_one (ps_if (pt_cmpR op_gt (pv 10) pe_int (nomark _)) (pss_one (ps_expr (pe_bm PySem.F.plainAttrs_list PySem.F.slot_list_append PySem.F.type_list_append mt_append (pv 7) (pa_cons (pe_f (has_cut D) hr rfl (pa_cons (pv 9) (pa_cons (pv 10) pa_nil))) pa_nil)))) pss_nil)))))
      (pss_cons (ps_if (pt_cmpR (eqK K hu) (pv 7) (pe_lst pa_nil) (nomark _)) (pss_one (ps_ret (pe_lst (pa_cons pe_str (pa_cons pe_str pa_nil))))) pss_nil)
      (pss_cons (ps_par (i := 14) (j := 15) rfl sc_dues.nd rfl rfl (by decide) rfl rfl (pa_cons (pe_ix (ixL K) (pv 7) pe_int (fun _ _ => rfl)) (pa_cons (pe_ix (ixL K) (pv 7) pe_int (fun _ _ => rfl)) pa_nil)) (by rfl))
      (pss_cons (ps_for PassesOwn.never rfl (piL K (pv 7)) (pg_name (i := 16) sc_dues.nd rfl (Or.inl rfl))
        (pss_one (ps_par (i := 14) (j := 15) rfl sc_dues.nd rfl rfl (by decide) rfl rfl
          (pa_cons (pe_ifExp (pt_val (pe_f (has_below D) hr rfl (pa_cons (pv 16) (pa_cons (pv 14) pa_nil)))) (pv 16) (pv 14))
          (pa_cons (pe_ifExp (pt_val (pe_f (has_below D) hr rfl (pa_cons (pv 15) (pa_cons (pv 16) pa_nil)))) (pv 16) (pv 15)) pa_nil)) (by rfl))))
      (pss_one (ps_ret (pe_lst (pa_cons (pv 14) (pa_cons (pv 15) pa_nil))))))))))), ?_⟩
    try dsimp only [gName, tSeq, tAsg, tCall, tCons, tNil]
    change tLc (iRng1 (tCons (tCB (rLenK K) (tCons (tVar 0) tNil)) tNil)) (gName 12) (tTest (tOp (rEqD K) (tLc (iTup K (tVar 2)) (gName 17) (tTest (tOp (rIn K true) (tVar 12) (tOp (rIxT K) (tVar 1) (tVar 17)))) (tVar 17) [17]) (tLst tNil))) (tVar 12) [12]
      (sD lo ro h pa none none none none none none none none none none none none none) H _
    refine lcOpen hW (by omega) hR hO.seq oH fun Oa H1 s1 nO h1 => ?_
    have g : Good ws rows heard := ⟨fun k k0 k1 => (wt_ok oW k0 k1).1, oH.2.2⟩
    have lop := open_len ws.length rows heard
    have wop : ∀ k ∈ openC ws.length rows heard, 0 ≤ k ∧ k < ws.length := fun k hk => open_mem hk
    have Glow := @Good.low ws rows heard lot g
    have Ghigh := @Good.high ws rows heard lot g
    have Gne := @Good.found_ne ws rows heard lot g
    have T0 := prodT_pos heard
    have TB := prodT_le heard
    have B1 := prodB_le oH.2.1
    refine ⟨_, rfl, h, heard, rfl, hO.same s1, oH.2.1, fun p2 H2 s2 h2 => ⟨p2, _, rfl, h2, rfl, _, _, rfl, _, _, rfl, rfl, ?_⟩⟩
    generalize prodT heard = T at *
    generalize prodB heard = B at *
    generalize hop : openC ws.length rows heard = op at *
    refine ⟨Nat.zero_le _, fun F nF => ?_⟩
    have s3 : Same H2 (upd H2 F (.lst [])) := same_upd nF
    have hO3 := s3 _ _ (s2 _ _ h1)
    refine ⟨_, rfl, _, op.length, rfl, .inl ⟨_, SqL.of hO3, (List.length_map _).symm⟩, op.length, rfl, by omega, fun rs q H4 s4 nq hq hRs => ?_⟩
    have Fq : F ≠ q := ne_of_none upd_same nq
    have hF4 := s4 _ _ (show (upd H2 F (.lst [])) F = some (.lst []) from upd_same)
    have s14 : Same H H4 := ((s1.trans s2).trans s3).trans s4
    have FH : H F = none := Same.free (s1.trans s2) nF
    have OF : Oa ≠ F := ne_of_none (s2 _ _ h1) nF
    have hO4 := s4 _ _ hO3
    have hlen := hRs.len
    have l32 := lots_le (n := op.length) (by omega)
    have toS : ∀ H', But F H4 H' → Same H H' := fun H' b c o e => b c o (fun z => by rw [z, FH] at e; cases e) (s14 c o e)
    refine ⟨q, rfl, ⟨_, SqL.of hq⟩, for_list (K := K) (a := q) (xs := rs.map V.ref) (fun i σ H' => But F H4 H' ∧ ∃ (ts : List Addr) (fl : List (Int × Int)) (v8 v9 v10 v11 v12 v13 : Option V), σ = sD lo ro h pa (some (.ref Oa)) (some (.int T)) (some (.int B)) (some (.ref F)) v8 v9 v10 v11 v12 v13 none none none ∧
        H' F = some (.lst (ts.map V.ref)) ∧ RowsIn K H' ts (fl.map pr2) ∧ fl = ((lots op.length).take i).filterMap (tryS ws rows lot T B op))
      ⟨But.refl F H4, [], [], none, none, none, none, none, none, rfl, hF4, .nil, rfl⟩ (fun i σ H' _ ⟨b, _⟩ => SqL.of (b q _ (Ne.symm Fq) hq)) ?_ ?_⟩
    · rintro i x σ H5 hi ⟨b5, ts, fl, v8, v9, v10, v11, v12, v13, rfl, hF5, hTs, hfl⟩
      obtain ⟨r, hr1, rfl⟩ := map_get hi
      have hi' := (List.getElem?_eq_some_iff.mp hr1).1
      obtain ⟨sm, hsm⟩ : ∃ sm, (lots op.length)[i]? = some sm := ⟨_, List.getElem?_eq_getElem (by omega)⟩
      obtain ⟨r', e1, hq4⟩ := hRs.get hsm
      rw [hr1] at e1
      cases e1
      have hq5 : IT K H5 r sm := But.seqT hF4 b5 hq4
      have lfl : fl.length ≤ i := by
        rw [hfl]
        refine Nat.le_trans (List.length_filterMap_le _ _) ?_
        rw [List.length_take]
        omega
      have lts : ts.length = fl.length := by rw [hTs.len, List.length_map]
      refine ⟨(by show 2 ≤ sizeLine; decide), fun p0 n0 => ⟨p0, _, rfl, SqT.of upd_same, rfl, _, _, rfl, _, _, rfl, rfl, ?_⟩⟩
      have s6 : Same H5 (upd H5 p0 (.tup [.int 0, .int 0])) := same_upd n0
      have hO5 := b5 _ _ OF hO4
      have sT5 : Same H H5 := toS H5 b5
      refine ⟨_, rfl, _, op.length, rfl, .inl ⟨_, SqL.of (s6 _ _ hO5), (List.length_map _).symm⟩, op.length, rfl, by omega, by omega, for_range (lo := 0) (n := ((op.length : Nat) : Int).toNat) (fun j σ H' => Same H5 H' ∧ ∃ v11 v12 v13 : Option V, σ = sD lo ro h pa (some (.ref Oa)) (some (.int T)) (some (.int B)) (some (.ref F)) (some (.ref r))
          (some (.int (insW ws rows lot T B (fun i => inB (i : Int) sm) (op.take j) 0))) (some (.int (whlW ws rows T B (fun i => inB (i : Int) sm) (op.take j) 0))) v11 v12 v13 none none none)
        ⟨s6, _, _, _, rfl⟩ ?_ ?_⟩
      · rintro j σ H7 hj ⟨s7, v11, v12, v13, rfl⟩
        rw [show (0 : Int) + (j : Int) = (j : Int) from Int.zero_add _]
        obtain ⟨k, hk⟩ : ∃ k, op[j]? = some k := ⟨_, List.getElem?_eq_getElem (by omega)⟩
        have kb := wop k (List.mem_of_getElem? hk)
        have wk := wt_ok oW kb.1 kb.2
        have sT7 := sT5.trans s7
        refine ⟨_, rfl, _, rfl, Oa, _, _, .int k, rfl, rfl, SqL.of (s7 _ _ hO5), atI_of (i := j) rfl hk, ?_⟩
        refine ⟨_, rfl, _, rfl, ro, k, rows, rfl, Same.rows sT7 hR, l16, fun p8 H8 s8 n8 h8 => ?_⟩
        refine ⟨_, _, rfl, .inl ⟨_, SqL.of h8, rfl⟩, rfl, _, rfl, ?_⟩
        have hb : decide (V.int ((((said rows k).map V.int).length : Nat) : Int) = V.int 1) = isBound rows k := by
          rw [List.length_map]
          unfold isBound
          by_cases c : (said rows k).length = 1
          · rw [c]; rfl
          · rw [decide_eq_false (fun e => c (by injection e with e; omega))]
            exact (beq_eq_false_iff_ne.mpr c).symm
        refine (?_ : if decide (V.int ((((said rows k).map V.int).length : Nat) : Int) = V.int 1) = true then _ else _)
        rw [hb]
        have sT8 := sT7.trans s8
        refine vlIf (K := K) (rows := rows) (T := T) (B := B) (k := k) (j := j) (r := r) (sm := sm) rfl rfl rfl rfl (Same.seqT (s7.trans s8) hq5) ?_
        have vb := vl_bnd (rows := rows) (c := inB (j : Int) sm) (k := k) (Int.le_of_lt T0) TB B1
        have wat := at_of (xs := ws.map V.int) (z := k) (j := k.toNat) (v := .int (wt ws k)) (by omega) (by rw [List.getElem?_map, wt_at kb.1 kb.2] <;> rfl)
        refine ⟨_, rfl, _, rfl, _, rfl, lo, _, _, .int (wt ws k), rfl, rfl, Same.seqT sT8 hW, wat, _, rfl, _, _, rfl, rfl, .inl ⟨by omega, by omega⟩, ?_⟩
        refine ⟨_, rfl, _, rfl, pa, _, rfl, .inr (Same.seqT sT8 hL), rfl, flat_ints _, .inr ⟨_, rfl, _, _, rfl, rfl, .inr (if01 _), _, _, rfl, rfl, ?_⟩⟩
        refine ⟨_, rfl, _, rfl, _, rfl, lo, _, _, .int (wt ws k), rfl, rfl, Same.seqT sT8 hW, wat, _, rfl, _, _, rfl, rfl, .inl ⟨by omega, by omega⟩, _, _, rfl, rfl, _, _, rfl, ?_⟩
        refine ⟨s7.trans s8, some (.int (j : Int)), some (.int k), some (.int (vl rows T B (inB (j : Int) sm) k)), ?_⟩
        have lj : (op.take j).length = j := by
          have := (List.getElem?_eq_some_iff.mp hk).1
          rw [List.length_take]
          omega
        have e1 : insW ws rows lot T B (fun i => inB (i : Int) sm) (op.take (j + 1)) 0 = insW ws rows lot T B (fun i => inB (i : Int) sm) (op.take j) 0 + wt ws k * vl rows T B (inB (j : Int) sm) k * (if inV (.int k) (lot.map V.int) = true then 1 else 0) := by
          rw [take_snoc hk, insW_app, lj, Nat.zero_add, inV_int]
          rfl
        have e2 : whlW ws rows T B (fun i => inB (i : Int) sm) (op.take (j + 1)) 0 = whlW ws rows T B (fun i => inB (i : Int) sm) (op.take j) 0 + wt ws k * vl rows T B (inB (j : Int) sm) k := by
          rw [take_snoc hk, whlW_app, lj, Nat.zero_add]
        rw [e1, e2]
        rfl
      · rintro σ H7 ⟨s7, v11, v12, v13, rfl⟩
        rw [show ((op.length : Nat) : Int).toNat = op.length by omega, List.take_length]
        have pl := parts_le (ws := ws) (rows := rows) (lot := lot) (ch := fun i => inB (i : Int) sm) (Int.le_of_lt T0) TB B1 op 0 fun k hk => by
          have := wt_ok oW (wop k hk).1 (wop k hk).2
          omega
        have lop5 : 46656000000 * (op.length : Int) ≤ 46656000000 * 5 := Int.mul_le_mul_of_nonneg_left (by omega) (by decide)
        have et : tryS ws rows lot T B op sm = if 0 < whlW ws rows T B (fun i => inB (i : Int) sm) op 0 then some (red (insW ws rows lot T B (fun i => inB (i : Int) sm) op 0) (whlW ws rows T B (fun i => inB (i : Int) sm) op 0)) else none := rfl
        generalize insW ws rows lot T B (fun i => inB (i : Int) sm) op 0 = X at *
        generalize whlW ws rows T B (fun i => inB (i : Int) sm) op 0 = Y at *
        refine ⟨_, rfl, _, _, rfl, rfl, _, rfl, ?_⟩
        have hF7 := s7 _ _ hF5
        by_cases c : 0 < Y
        · have XY : X * Y < 2 ^ 100 := by
            have q1 : X * Y ≤ 233280000000 * 233280000000 := Int.mul_le_mul (by omega) (by omega) (by omega) (by decide)
            exact Int.lt_of_le_of_lt q1 (by decide)
          have Y200 : Y < 2 ^ 200 := Int.lt_of_le_of_lt (show Y ≤ 233280000000 by omega) (by decide)
          refine iteDT c ⟨_, rfl, .inl ⟨rfl, _, SqL.of hF7⟩, _, rfl, _, rfl, X, Y, rfl, pl.1, c, XY, Y200, fun p9 H9 s9 h9 => ?_⟩
          have hF9 := s9 _ _ hF7
          refine ⟨F, _, _, rfl, rfl, hF9, by rw [List.length_map]; exact small1000 (by omega), fun b o nb e => ?_, ts ++ [p9], fl ++ [red X Y], _, _, _, _, _, _, rfl, ?_, ?_, ?_⟩
          · rw [upd_ne nb]
            exact s9 _ _ (s7 _ _ (b5 _ _ nb e))
          · rw [upd_same, List.map_append]
            rfl
          · rw [List.map_append]
            exact ((hTs.imp fun _ _ z => Same.seqT (s7.trans s9) z).imp fun _ _ z => lst_seqT hF9 z).snoc (lst_seqT hF9 h9)
          · rw [take_snoc hsm, List.filterMap_append, ← hfl, List.filterMap_cons, et, if_pos c]
            rfl
        · refine iteDF c ⟨fun b o nb e => s7 _ _ (b5 _ _ nb e), ts, fl, _, _, _, _, _, _, rfl, hF7, hTs.imp fun _ _ z => Same.seqT s7 z, ?_⟩
          rw [take_snoc hsm, List.filterMap_append, ← hfl, List.filterMap_cons, et, if_neg c, List.filterMap_nil, List.append_nil]
    · rintro σ H5 ⟨b5, ts, fl, v8, v9, v10, v11, v12, v13, rfl, hF5, hTs, hfl⟩
      rw [take_all (by rw [List.length_map]; exact hlen)] at hfl
      have efl : fl = foundL ws rows lot T B op := hfl
      have s15 := toS H5 b5
      refine ⟨_, rfl, Nat.zero_le _, fun p0 n0 => ?_⟩
      have s6 : Same H5 (upd H5 p0 (.lst [])) := same_upd n0
      have s16 := s15.trans s6
      have hF6 := s6 _ _ hF5
      have hT6 := hTs.imp fun _ _ z => Same.seqT s6 z
      refine ⟨_, _, dpP (SqL.of hF6) hT6, dp_l0 (SqL.of upd_same), sh_lR _, sh_l0, _, rfl, ?_⟩
      rw [eqv_l0]
      by_cases hne : op = []
      · have e0 : fl = [] := by
          rw [efl, hne]
          exact found_nil
        subst e0
        refine ifT_of rfl ⟨(by show 2 ≤ sizeLine; decide), fun p np => ?_⟩
        exact kN hne p _ (s16.trans (same_upd np)) upd_same
      · have fne : fl ≠ [] := by
          rw [efl]
          exact Gne hne
        obtain ⟨x0, fr, e0⟩ := List.exists_cons_of_ne_nil fne
        have emp : (dR (fl.map pr2)).isEmpty = false := by rw [e0]; rfl
        refine ifF_of emp ?_
        obtain ⟨a0, ha0, ia0⟩ := hT6.get (i := 0) (row := pr2 x0) (by rw [e0]; rfl)
        have aa := at_of (xs := ts.map V.ref) (z := 0) (j := 0) (v := .ref a0) rfl (by rw [List.getElem?_map, ha0] <;> rfl)
        refine ⟨_, rfl, F, _, _, .ref a0, rfl, rfl, SqL.of hF6, aa, _, rfl, F, _, _, .ref a0, rfl, rfl, SqL.of hF6, aa, _, _, rfl, ?_⟩
        have lts : ts.length = fl.length := by rw [hTs.len, List.length_map]
        have mem0 : x0 ∈ fl := by rw [e0]; exact List.mem_cons_self
        have small : ∀ x ∈ fl, 0 < x.2 ∧ x.2 < 2 ^ 64 := fun x hx => by
          rw [efl] at hx
          obtain ⟨ch, c1, c2⟩ := found_of hx
          have pl := parts_le (ws := ws) (rows := rows) (lot := lot) (ch := ch) (Int.le_of_lt T0) TB B1 op 0 fun k hk => by
            have := wt_ok oW (wop k hk).1 (wop k hk).2
            omega
          have lop5 : 46656000000 * (op.length : Int) ≤ 46656000000 * 5 := Int.mul_le_mul_of_nonneg_left (by omega) (by decide)
          rw [c2]
          have r1 := red_snd_pos (a := insW ws rows lot T B ch op 0) c1
          have r2 := red_snd_le (a := insW ws rows lot T B ch op 0) c1
          exact ⟨r1, by omega⟩
        refine ⟨_, rfl, F, rfl, ⟨_, SqL.of hF6⟩, for_list (K := K) (a := F) (xs := ts.map V.ref) (fun i σ H' => H' = upd H5 p0 (.lst []) ∧ ∃ (a b : Addr) (x y : Int × Int) (v16 : Option V), σ = sD lo ro h pa (some (.ref Oa)) (some (.int T)) (some (.int B)) (some (.ref F)) v8 v9 v10 v11 v12 v13 (some (.ref a)) (some (.ref b)) v16 ∧
            SqT K (upd H5 p0 (.lst [])) a (prV x) ∧ SqT K (upd H5 p0 (.lst [])) b (prV y) ∧ x ∈ fl ∧ y ∈ fl ∧ x = Lo fl i ∧ y = Hi fl i)
          ⟨rfl, a0, a0, x0, x0, none, rfl, ia0, ia0, mem0, mem0, by rw [e0]; rfl, by rw [e0]; rfl⟩ (fun i σ H' _ q => by rw [q.1]; exact SqL.of hF6) ?_ ?_⟩
        · rintro i x σ H' hi ⟨rfl, a, b, x, y, v16, rfl, ha, hb, mx, my, ex, ey⟩
          obtain ⟨r, hr1, rfl⟩ := map_get hi
          have hi' := (List.getElem?_eq_some_iff.mp hr1).1
          obtain ⟨z, hz⟩ : ∃ z, fl[i]? = some z := ⟨_, List.getElem?_eq_getElem (by omega)⟩
          obtain ⟨r', e1, hrz⟩ := hT6.get (i := i) (row := pr2 z) (by rw [List.getElem?_map, hz] <;> rfl)
          rw [hr1] at e1
          cases e1
          have mz := List.mem_of_getElem? hz
          refine ⟨_, rfl, _, rfl, r, a, z, x, rfl, hrz, ha, (small z mz).1, (small z mz).2, (small x mx).1, (small x mx).2, _, rfl, pickIf rfl rfl ?_⟩
          refine ⟨_, rfl, _, rfl, b, r, y, z, rfl, hb, hrz, (small y my).1, (small y my).2, (small z mz).1, (small z mz).2, _, rfl, pickIf rfl rfl ⟨_, _, rfl, ?_⟩⟩
          refine ⟨rfl, (if below z x = true then r else a), (if below y z = true then r else b), (if below z x = true then z else x), (if below y z = true then z else y), some (.ref r), rfl, ?_, ?_, ?_, ?_, ?_, ?_⟩
          · cases below z x with
            | true => exact hrz
            | false => exact ha
          · cases below y z with
            | true => exact hrz
            | false => exact hb
          · cases below z x with
            | true => exact mz
            | false => exact mx
          · cases below y z with
            | true => exact mz
            | false => exact my
          · rw [Lo_succ hz, ← ex]
          · rw [Hi_succ hz, ← ey]
        · rintro σ H' ⟨rfl, a, b, x, y, v16, rfl, ha, hb, mx, my, ex, ey⟩
          refine ⟨_, rfl, _, rfl, (by show 2 ≤ sizeLine; decide), fun p np => ?_⟩
          have s7 : Same (upd H5 p0 (.lst [])) _ := same_upd (o := .lst [.ref a, .ref b]) np
          have el : Lo fl (ts.map V.ref).length = lowF fl := by
            unfold Lo lowF
            rw [take_all (by rw [List.length_map]; exact lts)]
          have eh : Hi fl (ts.map V.ref).length = highF fl := by
            unfold Hi highF
            rw [take_all (by rw [List.length_map]; exact lts)]
          rw [el, efl, Glow hne] at ex
          rw [eh, efl, Ghigh hne] at ey
          subst ex ey
          exact kS hne p a b _ (s16.trans s7) upd_same (Same.seqT s7 ha) (Same.seqT s7 hb)
end
end Tk
set_option maxHeartbeats 4000000
namespace Tk
open PySem PySem.Spec PyProof.Rows L2
/-! ### what stays: all but the vat and the tables -/
def Kp (v : Addr) (H H' : Hp) : Prop := ∀ b o, b ≠ v → H b = some o → (∀ ps, o ≠ .tbl ps) → H' b = some o
theorem Kp.refl (v : Addr) (H : Hp) : Kp v H H := fun _ _ _ h _ => h
theorem Kp.trans {v : Addr} {H H1 H2 : Hp} (a : Kp v H H1) (b : Kp v H1 H2) : Kp v H H2 := fun c o n h t => b c o n (a c o n h t) t
theorem Kp.of {v : Addr} {H H' : Hp} (a : Same H H') : Kp v H H' := fun b o _ h _ => a b o h
theorem Kp.ofB {v : Addr} {H H' : Hp} (a : But v H H') : Kp v H H' := fun b o n h _ => a b o n h
theorem Kp.ofE {v : Addr} {H H' : Hp} (a : LamX.ExtN H H') : Kp v H H' := fun b o _ h t => a b o h t
theorem VatAt.ext {H H' : Hp} {v : Addr} (h : VatAt H v) (e : LamX.ExtN H H') : VatAt H' v := by
  obtain ⟨x, y, z, h, r⟩ := h
  exact ⟨x, y, z, e _ _ h (by intro _ z; cases z), r⟩
section
variable {K : PySem.W.Frag} {H H' : Hp} {v : Addr}
theorem VatAt.not {o : HO} (hv : VatAt H v) (n : ∀ xs, o ≠ .lst xs) {b : Addr} (h : H b = some o) : b ≠ v := fun e => by
  obtain ⟨x, y, z, h', _⟩ := hv
  rw [e, h'] at h
  exact n _ (Option.some.inj h).symm
theorem Kp.seqT (k : Kp v H H') (hv : VatAt H v) {a : Addr} {xs : List V} (h : SqT K H a xs) : SqT K H' a xs := by
  rcases h with (h | ⟨o, h⟩) | h
  · exact .inl (.inl (k _ _ (hv.not (by intro _ z; cases z) h) h (by intro _ z; cases z)))
  · exact .inl (.inr ⟨o, k _ _ (hv.not (by intro _ z; cases z) h) h (by intro _ z; cases z)⟩)
  · exact .inr h
theorem Kp.rowsT (k : Kp v H H') (hv : VatAt H v) {a : Addr} {rows : List (List Int)} (h : RowsT K H a rows) : RowsT K H' a rows := by
  obtain ⟨rs, h1, h2⟩ := h
  exact ⟨rs, k.seqT hv h1, h2.imp fun _ _ => k.seqT hv⟩
theorem Kp.tel (k : Kp v H H') (hv : VatAt H v) {t : Addr} {ws : List Int} {rows : List (List Int)} (h : TelAt K H t ws rows) : TelAt K H' t ws rows := by
  obtain ⟨dx, p, a, b, h1, h2, h3, h4⟩ := h
  exact ⟨dx, p, a, b, k _ _ (hv.not (by intro _ z; cases z) h1) h1 (by intro _ z; cases z), k.seqT hv h2, k.seqT hv h3, k.rowsT hv h4⟩
theorem Kp.tupO (k : Kp v H H') (hv : VatAt H v) {a : Addr} {xs : List V} (h : TupO H a xs) : TupO H' a xs := by
  obtain ⟨o, h, d⟩ := h
  exact ⟨o, k _ _ (hv.not (by intro _ z; cases z) h) h (by intro _ z; cases z), d⟩
theorem Kp.lst (k : Kp v H H') {a : Addr} {xs : List V} (n : a ≠ v) (h : H a = some (.lst xs)) : H' a = some (.lst xs) := k _ _ n h (by intro _ z; cases z)
theorem Kp.upd {H1 : Hp} {D : Addr} {o : HO} (b : Kp v H H') (nD : H D = none) : Kp v H (L2.upd H' D o) := fun c u nc e t => by
  rw [upd_ne (fun z => by subst z; rw [nD] at e; cases e)]
  exact b c u nc e t
end
theorem tabs_same {T : List (Addr × Str)} {H H' : Hp} (t : LamX.Tabs T H) (e : Same H H') : LamX.Tabs T H' := t.ext e
theorem tabs_but {T : List (Addr × Str)} {H H' : Hp} {v : Addr} (hv : VatAt H v) (t : LamX.Tabs T H) (e : But v H H') : LamX.Tabs T H' := fun p hp => by
  obtain ⟨ps, h1, h2, h3⟩ := t p hp
  refine ⟨ps, e _ _ (hv.not (by intro _ z; cases z) h1) h1, h2, fun pos cv hc => ?_⟩
  obtain ⟨c, e1, e2⟩ := h3 pos cv hc
  exact ⟨c, e1, e _ _ (hv.not (fun _ z => by unfold LamX.CodeO at z; cases z) e2) e2⟩
/-! ### what a told call gives -/
def TV (K : PySem.W.Frag) (H : Hp) (x : V) : Option (Int × Int) → Prop
  | none => x = .str never
  | some pr => ∃ p, x = .ref p ∧ SqT K H p (prV pr)
def oV (val : List Int → List (List Int) → List Int → List Int → Int × Int) (ws : List Int) (rows : List (List Int)) (heard lot : List Int) : Option (Int × Int) :=
  if openC ws.length rows heard = [] then none else some (val ws rows heard lot)
theorem Kp.tv {K : PySem.W.Frag} {H H' : Hp} {v : Addr} (k : Kp v H H') (hv : VatAt H v) {x : V} : ∀ {o : Option (Int × Int)}, TV K H x o → TV K H' x o
  | none, h => h
  | some _, ⟨p, e, h⟩ => ⟨p, e, k.seqT hv h⟩
section
variable {P : Program} {w : World} {K : PySem.W.Frag} {mg : Str → Option Value} {base : Heap}
/-- what the lambda is to do once called -/
def AfterAt (K : PySem.W.Frag) (H : Hp) (t h l : Addr) (ws heard lot : List Int) (rows : List (List Int)) : Prop :=
  TelAt K H t ws rows ∧ OkW ws ∧ rows.length ≤ 16 ∧ IT K H h heard ∧ OkH rows.length heard ∧ IT K H l lot ∧ AscIn ws.length lot
theorem Kp.after {H H' : Hp} {v : Addr} (k : Kp v H H') (hv : VatAt H v) {t h l : Addr} {ws heard lot : List Int} {rows : List (List Int)} (a : AfterAt K H t h l ws heard lot rows) : AfterAt K H' t h l ws heard lot rows :=
  ⟨k.tel hv a.1, a.2.1, a.2.2.1, k.seqT hv a.2.2.2.1, a.2.2.2.2.1, k.seqT hv a.2.2.2.2.2.1, a.2.2.2.2.2.2⟩
theorem told_core (D : Dat K mg) {val : List Int → List (List Int) → List Int → List Int → Int × Int} {H1 : Hp} {Q : VK} {t h l : Addr} {ws heard lot : List Int} {rows : List (List Int)} (a : AfterAt K H1 t h l ws heard lot rows)
    (q : ∀ x H', Same H1 H' → TV K H' x (oV val ws rows heard lot) → Q x H') :
    spAfter K val [.ref t, .ref h, .ref l] H1 Q (fun cls _ H' => ∃ b, PySem.W.exmOne K cls (.ref (nvC K)) = some b ∧ (b = true → Q (.str never) H') ∧ (b = false → False)) := by
  refine ⟨t, h, l, ws, heard, lot, rows, rfl, a.1, a.2.1, a.2.2.1, a.2.2.2.1, a.2.2.2.2.1, a.2.2.2.2.2.1, a.2.2.2.2.2.2, fun hne p H' s hp => q _ H' s ?_, fun he H' s => ⟨true, D.nv.em, fun _ => q _ H' s ?_, nofun⟩⟩
  · unfold oV
    rw [if_neg hne]
    exact ⟨p, rfl, hp⟩
  · unfold oV
    rw [if_pos he]
    rfl
/-- told(lambda: f(mine, heard, part)) -/
theorem told_pos (D : Dat K mg) {val : List Int → List (List Int) → List Int → List Int → Int × Int} {σ : L2.St} {H : Hp} {Q : VK} {T : List (Addr × Str)} {v t h l : Addr} {ws heard lot : List Int} {rows : List (List Int)}
    (h5 : σ[5]? = some (some (.ref t))) (h7 : σ[7]? = some (some (.ref h))) (h8 : σ[8]? = some (some (.ref l))) (hT : LamX.Tabs T H) (hv : VatAt H v) (a : AfterAt K H t h l ws heard lot rows)
    (q : ∀ x H', LamX.ExtN H H' → LamX.Tabs T H' → TV K H' x (oV val ws rows heard lot) → Q x H') :
    LamX.tLam T (LamX.TTold K (nvC K) never) (fun E => tCall (spAfter K val) [] E (tCons (tVar 5) (tCons (tVar 7) (tCons (tVar 8) tNil)))) σ H Q := by
  refine ⟨hT, fun H1 e1 T1 => ?_⟩
  exact ⟨_, h5, _, h7, _, h8, told_core D ((Kp.ofE e1).after hv a) fun x H' s tv => q x H' (e1.trans (LamX.ExtN.of s)) (tabs_same T1 s) tv⟩
/-- told(lambda: f(lot=part, heard=heard, teller=mine)) -/
theorem told_kw (D : Dat K mg) {val : List Int → List (List Int) → List Int → List Int → Int × Int} {σ : L2.St} {H : Hp} {Q : VK} {T : List (Addr × Str)} {v t h l : Addr} {ws heard lot : List Int} {rows : List (List Int)}
    (h5 : σ[5]? = some (some (.ref t))) (h7 : σ[7]? = some (some (.ref h))) (h8 : σ[8]? = some (some (.ref l))) (hT : LamX.Tabs T H) (hv : VatAt H v) (a : AfterAt K H t h l ws heard lot rows)
    (q : ∀ x H', LamX.ExtN H H' → LamX.Tabs T H' → TV K H' x (oV val ws rows heard lot) → Q x H') :
    LamX.tLam T (LamX.TTold K (nvC K) never) (fun E => tCallKs 3 (spAfter K val) (fun _ zs => zs.reverse) E (tCons (tVar 8) (tCons (tVar 7) (tCons (tVar 5) tNil)))) σ H Q := by
  refine ⟨hT, fun H1 e1 T1 => ?_⟩
  exact ⟨_, h8, _, h7, _, h5, rfl, told_core D ((Kp.ofE e1).after hv a) fun x H' s tv => q x H' (e1.trans (LamX.ExtN.of s)) (tabs_same T1 s) tv⟩
/-! ### the call of _law_told -/
theorem sc_told : FnScope ["_law_act"] ["_law_act"] (defScope (top 62)) := ⟨rfl, rfl, rfl, by decide +kernel, rfl, by decide +kernel, by decide +kernel⟩
theorem pe_told {X : Cx} (D : Dat X.K X.mg) {c T : Addr} {params : Arguments} {body : Expr} {scope : Scope} {t : XK → TE} {p lpos pos : Pos} (hg : Gl X "_law_told") (TB : LamX.TabB X.base X.mg c T) (hcode : X.env.code = .ref c) {k : Nat} (hr : Room (k + 2) X.A) (L : LamX.LamS X.env.scope scope) (hdef : defaultsOf params X.env = ([], []))
    (hbind : ∀ (q : Str) (cl : List (Str × Addr)) (pm cv ctv : Value), bindArgs (PySem.W.kla_fn "<lambda>" q params body scope cl pm cv ctv) ⟨[], []⟩ = pure [])
    (hbody : ∀ (A : Around) (outer : List Env) (s : Shared) (H : Hp) (E : XK) (f c' : Addr), Room k (A.deeper (LamX.lamEnv X scope s.heap.objs.size f c')) → PE (LamX.lamCx X A outer s H E scope f c') body (t E)) :
    PE X (.Call (.Name "_law_told" p) [.Lambda params body scope lpos] [] pos) (LamX.tLam [(T, X.env.qual ++ "<lambda>")] (LamX.TTold X.K (nvC X.K) never) t) := by
  obtain ⟨g, fd, hm, F⟩ := D.law_told
  obtain ⟨oc, od, dV, kV, doc, pm, an, cdv, ct, osl, rfl, lk, hcd, hD, hK⟩ := F.ex
  have hb := F.bindsN (ps := ["_law_act"]) fun _ _ _ _ _ _ us hl => match us, hl with | [_], _ => rfl
  refine LamX.pe_lamcall hg hm F.kp lk hcd hb sc_told rfl (.inl rfl) (LamX.told_gives (X := X) (e := "NeverHeard") rfl D.nv.gC (by decide) fun _ => rfl) TB hcode (List.mem_singleton.mpr rfl) (fun p hp _ => by rw [List.mem_singleton.mp hp]) hr L hdef hbind hbody
end
end Tk
set_option maxHeartbeats 4000000
namespace Tk
open PySem PySem.Spec PyProof.Rows L2
/-! ### the told values as data, and their text -/
def dO : Option (Int × Int) → PyData
  | none => .str never
  | some p => .tuple [.int p.1, .int p.2]
def Sm : Option (Int × Int) → Prop
  | none => True
  | some p => (0 ≤ p.1 ∧ p.1 < 2 ^ 64) ∧ (0 ≤ p.2 ∧ p.2 < 2 ^ 64)
def dL (x y : Option (Int × Int)) : PyData := .list [dO x, dO y]
theorem log_small {i : Int} (h : 0 ≤ i ∧ i < 2 ^ 64) : i.natAbs.log2 < 64 := by
  have hn : i.natAbs < 2 ^ 64 := by omega
  by_cases h0 : i.natAbs = 0
  · rw [h0]; decide
  · exact (Nat.log2_lt h0).mpr hn
theorem int_short {i : Int} (h : 0 ≤ i ∧ i < 2 ^ 64) : (PyData.shown (.int i)).length ≤ 21 := by
  have e : PyData.shown (.int i) = Str.ofString (toString i) := rfl
  rw [e]
  have := toString_length_le (v := i) h.1 (k := 20) (by decide) (by
    have : (2 : Int) ^ 64 < 10 ^ 20 := by decide
    omega)
  omega
theorem int_weight {i : Int} (h : 0 ≤ i ∧ i < 2 ^ 64) : (PyData.int i).weight ≤ 64 := by
  have := log_small h
  unfold PyData.weight
  split
  · omega
  · omega
theorem dO_ok : ∀ {o : Option (Int × Int)}, Sm o → (dO o).showable = true ∧ (dO o).hasDict = false ∧ (dO o).depth ≤ 1 ∧ (dO o).leavesShort 21 = true ∧ (dO o).weight ≤ 200
  | none, _ => ⟨by decide +kernel, by decide +kernel, by decide +kernel, by decide +kernel, by decide +kernel⟩
  | some p, h => by
    have l1 := log_small h.1
    have l2 := log_small h.2
    have s1 := int_short h.1
    have s2 := int_short h.2
    have w1 := int_weight h.1
    have w2 := int_weight h.2
    refine ⟨?_, ?_, ?_, ?_, ?_⟩
    · have a1 : decide (p.1.natAbs.log2 < 1920) = true := decide_eq_true (by omega)
      have a2 : decide (p.2.natAbs.log2 < 1920) = true := decide_eq_true (by omega)
      simp only [dO, PyData.showable, PyData.showableAll, a1, a2, Bool.and_self]
    · simp only [dO, PyData.hasDict, PyData.hasDictAll, Bool.or_self]
    · simp [dO, PyData.depth, PyData.depthAll]
    · have a1 : decide ((PyData.shown (.int p.1)).length ≤ 21) = true := decide_eq_true s1
      have a2 : decide ((PyData.shown (.int p.2)).length ≤ 21) = true := decide_eq_true s2
      simp only [dO, PyData.leavesShort, PyData.leavesShortAll, a1, a2, Bool.and_self]
    · have e : (dO (some p)).weight = (PyData.int p.1).weight + 1 + ((PyData.int p.2).weight + 1 + 0) := by simp only [dO, PyData.weight, PyData.weightAll]
      omega
theorem dL_ok {x y : Option (Int × Int)} (hx : Sm x) (hy : Sm y) : (dL x y).showable = true ∧ (dL x y).hasDict = false ∧ (dL x y).depth ≤ 50 ∧ (dL x y).shown.length ≤ sizeLine := by
  obtain ⟨a1, a2, a3, a4, a5⟩ := dO_ok hx
  obtain ⟨b1, b2, b3, b4, b5⟩ := dO_ok hy
  refine ⟨?_, ?_, ?_, ?_⟩
  · simp only [dL, PyData.showable, PyData.showableAll, a1, b1, Bool.and_self]
  · simp only [dL, PyData.hasDict, PyData.hasDictAll, a2, b2, Bool.or_self]
  · have e : (dL x y).depth = max (dO x).depth (max (dO y).depth 0) + 1 := by simp only [dL, PyData.depth, PyData.depthAll]
    omega
  · have l : (dL x y).leavesShort 21 = true := by simp only [dL, PyData.leavesShort, PyData.leavesShortAll, a4, b4, Bool.and_self]
    have q := PyData.shown_le 21 (by decide) (dL x y) l
    have e : (dL x y).weight = (dO x).weight + 1 + ((dO y).weight + 1 + 0) := by simp only [dL, PyData.weight, PyData.weightAll]
    rw [sizeLine_eq]
    omega
theorem tv_dp {K : PySem.W.Frag} {H : Hp} {x : V} : ∀ {o : Option (Int × Int)}, TV K H x o → Dp K H x (dO o)
  | none, h => by
    have e : x = .str never := h
    rw [e]
    exact .str never
  | some p, ⟨a, e, h⟩ => by
    rw [e]
    exact .tup h (.cons (.int p.1) (.cons (.int p.2) .nil))
theorem tvL_dp {K : PySem.W.Frag} {H : Hp} {a : Addr} {x y : V} {o1 o2 : Option (Int × Int)} (h : H a = some (.lst [x, y])) (h1 : TV K H x o1) (h2 : TV K H y o2) : Dp K H (.ref a) (dL o1 o2) :=
  .lst (SqL.of h) (.cons (tv_dp h1) (.cons (tv_dp h2) .nil))
/-! ### the values are small -/
theorem red_sm {a b : Int} (h0 : 0 ≤ a) (h1 : a ≤ b) (h2 : 0 < b) (h3 : b < 2 ^ 64) : Sm (some (red a b)) := by
  have q1 := red_fst_nn h0 h2
  have q2 := red_fst_le h0 h2
  have q3 := red_snd_pos (a := a) h2
  have q4 := red_snd_le (a := a) h2
  exact ⟨⟨q1, by omega⟩, ⟨by omega, by omega⟩⟩
theorem low_sm {ws heard lot : List Int} {rows : List (List Int)} (oW : OkW ws) (oH : OkH rows.length heard) : Sm (some (lowV ws rows heard lot)) := by
  have pT := prodT_pos heard
  have TB := prodT_le heard
  have B1 := prodB_le oH.2.1
  have olen := open_len ws.length rows heard
  have w8 := oW.2.1
  unfold lowV
  split
  · exact ⟨⟨by decide, by decide⟩, ⟨by decide, by decide⟩⟩
  · rename_i c
    have hO : ∀ z ∈ outC ws.length rows heard lot, 0 ≤ z ∧ z < ws.length := fun z hz => open_mem (List.mem_filter.mp hz).1
    have hI : ∀ z ∈ innC ws.length rows heard lot, 0 ≤ z ∧ z < ws.length := fun z hz => open_mem (List.mem_filter.mp hz).1
    have lO : (outC ws.length rows heard lot).length ≤ 8 := by
      have q := List.length_filter_le (fun k => !inB k lot) (openC ws.length rows heard)
      unfold outC
      omega
    have lI : (innC ws.length rows heard lot).length ≤ 8 := by
      have q := List.length_filter_le (fun k => inB k lot) (openC ws.length rows heard)
      unfold innC
      omega
    have bS := sumW_bnd (l := (innC ws.length rows heard lot).filter (isBound rows)) oW (Nat.le_trans (List.length_filter_le _ _) lI) fun z hz => hI z (List.mem_filter.mp hz).1
    have bO := sumW_bnd oW lO hO
    have pO : 0 < sumW ws (outC ws.length rows heard lot) := sumW_pos (fun z hz => (wt_ok oW (hO z hz).1 (hO z hz).2).1) c
    have mO := mulT_bnd bO.1 bO.2 (Int.le_of_lt pT) (by omega)
    have mS := mulT_bnd bS.1 bS.2 (T := prodB heard) (by omega) B1
    have pOT := Int.mul_pos pO pT
    exact red_sm mS.1 (by omega) (by omega) (by omega)
theorem high_sm {ws heard lot : List Int} {rows : List (List Int)} (oW : OkW ws) (oH : OkH rows.length heard) : Sm (some (highV ws rows heard lot)) := by
  have pT := prodT_pos heard
  have TB := prodT_le heard
  have B1 := prodB_le oH.2.1
  have olen := open_len ws.length rows heard
  have w8 := oW.2.1
  unfold highV
  split
  · exact ⟨⟨by decide, by decide⟩, ⟨by decide, by decide⟩⟩
  · rename_i c
    have hO : ∀ z ∈ outC ws.length rows heard lot, 0 ≤ z ∧ z < ws.length := fun z hz => open_mem (List.mem_filter.mp hz).1
    have hI : ∀ z ∈ innC ws.length rows heard lot, 0 ≤ z ∧ z < ws.length := fun z hz => open_mem (List.mem_filter.mp hz).1
    have lO : (outC ws.length rows heard lot).length ≤ 8 := by
      have q := List.length_filter_le (fun k => !inB k lot) (openC ws.length rows heard)
      unfold outC
      omega
    have lI : (innC ws.length rows heard lot).length ≤ 8 := by
      have q := List.length_filter_le (fun k => inB k lot) (openC ws.length rows heard)
      unfold innC
      omega
    have bU := sumW_bnd (l := (outC ws.length rows heard lot).filter (isBound rows)) oW (Nat.le_trans (List.length_filter_le _ _) lO) fun z hz => hO z (List.mem_filter.mp hz).1
    have bI := sumW_bnd oW lI hI
    have pI : 0 < sumW ws (innC ws.length rows heard lot) := sumW_pos (fun z hz => (wt_ok oW (hI z hz).1 (hI z hz).2).1) c
    have mI := mulT_bnd bI.1 bI.2 (Int.le_of_lt pT) (by omega)
    have mU := mulT_bnd bU.1 bU.2 (T := prodB heard) (by omega) B1
    have pIT := Int.mul_pos pI pT
    exact red_sm mI.1 (by omega) (by omega) (by omega)
theorem oV_sm {val : List Int → List (List Int) → List Int → List Int → Int × Int} {ws heard lot : List Int} {rows : List (List Int)} (h : Sm (some (val ws rows heard lot))) : Sm (oV val ws rows heard lot) := by
  unfold oV
  split
  · trivial
  · exact h
end Tk
set_option maxHeartbeats 4000000
namespace Tk
open PySem PySem.Spec PyProof.Rows L2
def qL : Str := ("_law_right" : Str) ++ ".<locals>." ++ "<lambda>"
abbrev sR (v : Addr) (v1 v2 v3 v4 v5 v6 v7 v8 v9 v10 : Option V) : L2.St := [some (.ref v), v1, v2, v3, v4, v5, v6, v7, v8, v9, v10, none]
abbrev nmRight : List Str := ["_law_vat_here", "_law_turn", "_law_many", "_law_loads", "_law_rows", "_law_mine", "_law_again", "_law_heard_now", "_law_part", "_law_due", "_law_told_here", "_law_k"]
theorem sc_right : FnScope nmRight ["_law_vat_here"] (defScope (top 65)) := ⟨rfl, rfl, rfl, by decide +kernel, rfl, by decide +kernel, by decide +kernel⟩
def rMulT (K : PySem.W.Frag) : R2 := fun x y H Q => ∃ (l : Addr) (k : Int) (xs : List V), x = .ref l ∧ y = .int k ∧ SqT K H l xs ∧ xs ≠ [] ∧ 1 ≤ k ∧ k ≤ 1000 ∧ xs.length ≤ 1000 ∧ (k = 1 → Q (.ref l) H) ∧
    (2 ≤ k → ∀ (p : Addr) (o : Obj), H p = none → o.dict = none → Q (.ref p) (upd H p (.frz o (.tup (List.replicate k.toNat xs).flatten))))
theorem mulT {X : Cx} (K : PySem.W.Frag) (h : X.K = K := by rfl) : OpR X (binaryOp .Mult) (rMulT K) := h ▸ op_mulT
theorem slA {X : Cx} (K : PySem.W.Frag) (h : X.K = K := by rfl) : SlR X (rSlA K) := h ▸ sl_tupA
theorem cut1 (a : Int) (r : List Int) : cutV ((a :: r).map V.int) none (some 1) = [V.int a] := by
  simp [cutV, HT.sIx]
theorem whole1 (ns : List Int) : (HT.sIx (ns.map V.int).length 0 none = 0 ∧ HT.sIx (ns.map V.int).length (ns.map V.int).length (some 1) = (ns.map V.int).length) ↔ ns.length ≤ 1 := by
  have e1 : HT.sIx (ns.map V.int).length 0 none = 0 := rfl
  have e2 : HT.sIx (ns.map V.int).length (ns.map V.int).length (some 1) = min 1 (ns.map V.int).length := HT.sIx_nat _ _ 1
  rw [e1, e2, List.length_map]
  omega
theorem rep_flat (a : Int) : ∀ n : Nat, (List.replicate n [V.int a]).flatten = (List.replicate n a).map V.int
  | 0 => rfl
  | n + 1 => by
    rw [List.replicate_succ, List.flatten_cons, rep_flat a n]
    rfl
theorem Same.vat {H H' : Hp} {v : Addr} (h : VatAt H v) (s : Same H H') : VatAt H' v := h.same s
theorem Kp.upd2 {v : Addr} {H Ha H' : Hp} {L : Addr} {o : HO} (a : Kp v H Ha) (n : Ha L = none) (b : Kp v H H') : Kp v H (L2.upd H' L o) := fun c u nc e t => by
  rw [upd_ne (fun z => by subst z; have q := a _ _ nc e t; rw [n] at q; cases q)]
  exact b c u nc e t
theorem tabs_lst {T : List (Addr × Str)} {H : Hp} {L : Addr} {xs ys : List V} (hL : H L = some (.lst xs)) (t : LamX.Tabs T H) : LamX.Tabs T (L2.upd H L (.lst ys)) := fun p hp => by
  obtain ⟨ps, h1, h2, h3⟩ := t p hp
  refine ⟨ps, ?_, h2, fun pos cv hc => ?_⟩
  · rw [upd_ne (fun z => by rw [z, hL] at h1; cases h1)]
    exact h1
  · obtain ⟨c, e1, e2⟩ := h3 pos cv hc
    refine ⟨c, e1, ?_⟩
    rw [upd_ne (fun z => by rw [z, hL] at e2; unfold LamX.CodeO at e2; cases e2)]
    exact e2
theorem tv_lst {K : PySem.W.Frag} {H : Hp} {L : Addr} {xs ys : List V} (hL : H L = some (.lst xs)) {y : V} : ∀ {o : Option (Int × Int)}, TV K H y o → TV K (L2.upd H L (.lst ys)) y o
  | none, h => h
  | some _, ⟨p, e, h⟩ => ⟨p, e, lst_seqT hL h⟩
section
variable {K : PySem.W.Frag}
/-- heard if tap > 0 else heard[:1] * len(heard) -/
theorem heardIf {σ : L2.St} {H : Hp} {Q : VK} {v h : Addr} {heard : List Int} {n : Nat} (h0 : σ[0]? = some (some (.ref v))) (h7 : σ[7]? = some (some (.ref h))) (hv : VatAt H v) (hO : TupO H h (heard.map V.int)) (oH : OkH n heard)
    (q : ∀ h' hd H', But v H H' → VatAt H' v → TupO H' h' (hd.map V.int) → OkH n hd → Q (.ref h') H') :
    tIf (tTest (tOp (rI0 fun i j => .bl (decide (j < i))) (tCall spTap [] E0 (tCons (tVar 0) (tCons (tC (.int 3)) tNil))) (tC (.int 0)))) (tVar 7) (tOp (rMulT K) (tSl (rSlA K) (tVar 7) tNoPart (tPart (tC (.int 1)))) (tCB (rLenK K) (tCons (tVar 7) tNil))) σ H Q := by
  refine ⟨_, h0, v, 3, rfl, hv, by decide, by decide, fun d H1 d0 d1 b1 hv1 => ⟨_, _, rfl, rfl, _, rfl, ?_⟩⟩
  have hO1 : TupO H1 h (heard.map V.int) := (Kp.ofB b1).tupO hv hO
  have hne := oH.1
  have l6 := oH.2.1
  by_cases c : 0 < d
  · exact iteDT c ⟨_, h7, q h heard H1 b1 hv1 hO1 oH⟩
  · refine iteDF c ⟨_, h7, 1, rfl, h, _, rfl, hO1.seq, fun w1 => ?_, fun w1 => fun p np => ?_⟩
    · have l1 := (whole1 heard).mp w1
      have e1 : heard.length = 1 := by
        have : 0 < heard.length := List.length_pos_iff.mpr hne
        omega
      refine ⟨_, h7, _, heard.length, rfl, .inr ⟨_, hO1.seq, (List.length_map _).symm⟩, h, heard.length, _, rfl, rfl, hO1.seq, fun z => hne (List.map_eq_nil_iff.mp z), by omega, by omega, by rw [List.length_map]; omega, fun _ => q h heard H1 b1 hv1 hO1 oH, fun z => by omega⟩
    · have l2 : 2 ≤ heard.length := by
        rcases Nat.lt_or_ge 1 heard.length with z | z
        · exact z
        · exact absurd ((whole1 heard).mpr z) w1
      cases heard with
      | nil => exact absurd rfl hne
      | cons a r =>
        rw [cut1]
        have s2 : Same H1 (upd H1 p (.tup [V.int a])) := same_upd np
        refine ⟨_, h7, _, (a :: r).length, rfl, .inr ⟨_, Same.seqT s2 hO1.seq, (List.length_map _).symm⟩, p, (a :: r).length, _, rfl, rfl, SqT.of upd_same, nofun, by omega, by omega, by show 1 ≤ 1000; decide, fun z => by omega, fun _ p2 o np2 od => ?_⟩
        refine q p2 (List.replicate (a :: r).length a) _ ((b1.trans (But.of s2)).trans (But.of (same_upd np2))) ((hv1.same s2).same (same_upd np2)) ⟨o, ?_, od⟩ ⟨?_, ?_, fun z hz => ?_⟩
        · rw [upd_same, show (((a :: r).length : Nat) : Int).toNat = (a :: r).length by omega, rep_flat]
        · intro z
          have := congrArg List.length z
          rw [List.length_replicate] at this
          simp at this
        · rw [List.length_replicate]
          exact l6
        · rw [(List.mem_replicate.mp hz).2]
          exact oH.2.2 a List.mem_cons_self
/-- the dues, both cases at once -/
theorem dues_core {H : Hp} {Q : VK} {lo ro h pa : Addr} {ws heard lot : List Int} {rows : List (List Int)} (hW : IT K H lo ws) (oW : OkW ws) (l5 : ws.length ≤ 5) (hR : RowsT K H ro rows) (l16 : rows.length ≤ 16) (hO : TupO H h (heard.map V.int)) (oH : OkH rows.length heard) (hL : IT K H pa lot) (lL : lot.length ≤ 8)
    (q : ∀ p x y H', Same H H' → H' p = some (.lst [x, y]) → TV K H' x (oV lowV ws rows heard lot) → TV K H' y (oV highV ws rows heard lot) → Q (.ref p) H') : spDues K [.ref lo, .ref ro, .ref h, .ref pa] H Q E0 := by
  refine ⟨lo, ro, h, pa, ws, heard, lot, rows, rfl, hW, oW, l5, hR, l16, hO, oH, hL, lL, fun he p H' s hp => q p _ _ H' s hp ?_ ?_, fun hne p a b H' s hp ha hb => q p _ _ H' s hp ?_ ?_⟩
  · unfold oV
    rw [if_pos he]
    rfl
  · unfold oV
    rw [if_pos he]
    rfl
  · unfold oV
    rw [if_neg hne]
    exact ⟨a, rfl, ha⟩
  · unfold oV
    rw [if_neg hne]
    exact ⟨b, rfl, hb⟩
end
section
variable {P : Program} {w : World} {K : PySem.W.Frag} {mg : Str → Option Value} {base : Heap}
def spRight (tb : Addr) : Sp := fun vs H Q _ => ∃ v : Addr, vs = [.ref v] ∧ VatAt H v ∧ LamX.Tabs [(tb, qL)] H ∧ ∀ H', Kp v H H' → VatAt H' v → LamX.Tabs [(tb, qL)] H' → Q (.bl true) H'
theorem kb_after {x : Str} {st : Stmt} {f : Addr} {fd : FuncData} (F : FnP K x x st f fd)
    (hb : ∀ (kV doc pm : Value) (an : Option Addr) (cdv ct a b d : Value), bindArgs (PySem.W.fnOf x x (defArgs st) (defBody st) (defScope st) .none kV doc pm an cdv ct) ⟨[], [("lot", a), ("heard", b), ("teller", d)]⟩ = pure ([("teller", d), ("heard", b), ("lot", a)] : List (Str × Value))) :
    KBn K fd ["teller", "heard", "lot"] 0 ["lot", "heard", "teller"] (fun _ ws => ws.reverse) (fun _ zs => zs.reverse) := by
  obtain ⟨oc, od, dV, kV, doc, pm, an, cdv, ct, osl, rfl, lk, hcd, hD, hK⟩ := F.ex
  rcases hD with ⟨_, rfl⟩ | ⟨e, _⟩
  · refine ⟨fun s us ws _ l1 l2 => .of_eq ?_, fun r1 r2 => r2.reverse⟩
    match us, ws, l1, l2 with
    | [], [a, b, d], _, _ => exact hb _ _ _ _ _ _ a b d
  · exact absurd rfl e
theorem right_body (D : Dat K mg) {c tb : Addr} (TB : LamX.TabB base mg c tb) {f : Addr} {A : Around} {outer : List Env} {s : Shared} {H : Hp} {vs : List V} {Q : VK} {E : XK}
    (hr : Room 8 (A.deeper (envOfC "_law_right" (defScope (top 65)) s.heap.objs.size f (.ref c)))) (hg : (A.deeper (envOfC "_law_right" (defScope (top 65)) s.heap.objs.size f (.ref c))).guards = some []) (h : spRight tb vs H Q E) :
    ∃ t, PSs (cxOf CX0 P w K mg base nmRight "_law_right" (defScope (top 65)) f (.ref c) A outer s H E).nox (defBody (top 65)) t ∧ t { nx := fun _ H' => Q .non H', rt := Q } (L2.start nmRight vs) H := by
  obtain ⟨v, rfl, hv, hT, k⟩ := h
  have hu := hr.units
  have hr1 : Room 1 _ := hr.mono (by decide)
  obtain ⟨fi, fdi, MK, FI⟩ := D.tel.mkr
  have OI := ok_init (P := P) (w := w) (base := base) D FI
  have BI := FI.bindsN (ps := ["self", "weights", "sayings"]) fun _ _ _ _ _ _ us hl => match us, hl with | [_, _, _], _ => rfl
  obtain ⟨fl, fdl, hml, hkl, OL, BL, FL⟩ := has_least_after (P := P) (w := w) (base := base) D
  obtain ⟨fg, fdg, hmg, hkg, OG, BG, FG⟩ := has_greatest_after (P := P) (w := w) (base := base) D
  have KL := kb_after FL fun _ _ _ _ _ _ _ _ _ => rfl
  have KG := kb_after FG fun _ _ _ _ _ _ _ _ _ => rfl
  refine ⟨_, pss_cons (ps_for PassesOwn.never rfl (pi_range1 (by rfl) D.range (pa_cons pe_int pa_nil)) (pg_name (i := 1) sc_right.nd rfl (Or.inl rfl))
      (pss_cons (ps_set (i := 2) sc_right.nd rfl (Or.inl rfl) (pe_op op_add pe_int (pe_f (has_tap D) hr1 rfl (pa_cons (pv 0) (pa_cons pe_int pa_nil)))))
      (pss_cons (ps_asg (pe_tup (pa_cons (pe_f (has_weights D) (hr.mono (by decide)) rfl (pa_cons (pv 0) (pa_cons (pv 2) pa_nil))) (pa_cons (pe_f (has_sayings D) (hr.mono (by decide)) rfl (pa_cons (pv 0) (pa_cons (pv 2) (pa_cons pe_int pa_nil)))) pa_nil)))
          (pgT K rfl (pgs_cons (pg_name (i := 3) sc_right.nd rfl (Or.inl rfl)) (pgs_cons (pg_name (i := 4) sc_right.nd rfl (Or.inr rfl)) pgs_nil))))
      (pss_cons (ps_set (i := 5) sc_right.nd rfl (Or.inr rfl) (pe_make MK OI (hr.mono (by decide)) (by rfl) D.tel.gC BI .nil pass0 (pa_cons (pv 3) (pa_cons (pv 4) pa_nil))))
      (pss_one (ps_for PassesOwn.never rfl (pi_range1 (by rfl) D.range (pa_cons pe_int pa_nil)) (pg_name (i := 6) sc_right.nd rfl (Or.inl rfl))
        (pss_cons (ps_set (i := 7) sc_right.nd rfl (Or.inr rfl) (pe_callTy (call_tupF K) (by rfl) D.tuple boot_tuple (pa_cons
          (pe_lc (own := [("_law_k", 11)]) (g := gName 11) (tt := tYes) rfl sc_right.nd (pi_range1 (by rfl) D.range (pa_cons (pe_op op_add pe_int (pe_f (has_tap D) hr1 rfl (pa_cons (pv 0) (pa_cons pe_int pa_nil)))) pa_nil)) (blkOk_by (own := [("_law_k", 11)]) (N := nmRight) (sc := defScope (top 65)) (by decide +kernel))
            (fun _ _ _ _ _ => pg_name (i := 11) sc_right.nd rfl (Or.inl rfl)) (fun _ _ _ _ _ => pts_nil)
            (fun _ _ _ _ _ => pe_f (has_tap D) hr1 rfl (pa_cons (pv 0) (pa_cons (pe_callB (lenK K) (by rfl) D.len boot_len (pa_cons (pv 4) pa_nil)) pa_nil)))) pa_nil)))
        (pss_cons (ps_set (i := 7) sc_right.nd rfl (Or.inr rfl) (pe_ifExp (pt_cmpR op_gt (pe_f (has_tap D) hr1 rfl (pa_cons (pv 0) (pa_cons pe_int pa_nil))) pe_int (nomark _)) (pv 7)
          (pe_op (mulT K) (pe_slice (slA K) (pv 7) po_none (po_some pe_int)) (pe_callB (lenK K) (by rfl) D.len boot_len (pa_cons (pv 7) pa_nil)))))
        (pss_cons (ps_set (i := 8) sc_right.nd rfl (Or.inr rfl) (pe_f (has_lot D) (hr.mono (by decide)) rfl (pa_cons (pv 0) (pa_cons (pv 2) pa_nil))))
        (pss_cons (ps_set (i := 9) sc_right.nd rfl (Or.inl rfl) (pe_f (has_dues D) (hr.mono (by decide)) rfl (pa_cons (pv 3) (pa_cons (pv 4) (pa_cons (pv 7) (pa_cons (pv 8) pa_nil))))))
        (pss_cons (ps_set (i := 10) sc_right.nd rfl (Or.inl rfl) (pe_lst (pa_cons (pe_told D (by rfl) TB rfl hr (LamX.lamS_by (sc := defScope (top 65)) (by decide +kernel)) rfl (fun _ _ _ _ _ => rfl) (t := fun E => tCall (spAfter K lowV) [] E (tCons (tVar 5) (tCons (tVar 7) (tCons (tVar 8) tNil)))) (fun A outer s H E f c' hr' => pe_call OL hr' (by rfl) hml hkl BL .nil (passes_call (takes_of (E := E) rfl rfl rfl rfl) (fun _ _ _ _ h => h)) (pa_cons (pv 5) (pa_cons (pv 7) (pa_cons (pv 8) pa_nil))))) pa_nil)))
        (pss_cons (ps_expr (pe_bm PySem.F.plainAttrs_list PySem.F.slot_list_append PySem.F.type_list_append mt_append (pv 10) (pa_cons (pe_told D (by rfl) TB rfl hr (LamX.lamS_by (sc := defScope (top 65)) (by decide +kernel)) rfl (fun _ _ _ _ _ => rfl) (t := fun E => tCall (spAfter K highV) [] E (tCons (tVar 5) (tCons (tVar 7) (tCons (tVar 8) tNil)))) (fun A outer s H E f c' hr' => pe_call OG hr' (by rfl) hmg hkg BG .nil (passes_call (takes_of (E := E) rfl rfl rfl rfl) (fun _ _ _ _ h => h)) (pa_cons (pv 5) (pa_cons (pv 7) (pa_cons (pv 8) pa_nil))))) pa_nil)))
        (pss_cons (ps_if (pt_cmpR op_ne (pe_callB (call_reprD hg hu) (by rfl) D.repr boot_repr (pa_cons (pv 10) pa_nil)) (pe_callB (call_reprD hg hu) (by rfl) D.repr boot_repr (pa_cons (pv 9) pa_nil)) (nomark _)) (pss_one (ps_ret pe_bl)) pss_nil)
        (pss_cons (ps_set (i := 10) sc_right.nd rfl (Or.inl rfl) (pe_lst (pa_cons (pe_told D (by rfl) TB rfl hr (LamX.lamS_by (sc := defScope (top 65)) (by decide +kernel)) rfl (fun _ _ _ _ _ => rfl) (t := fun E => tCallKs 3 (spAfter K lowV) (fun _ zs => zs.reverse) E (tCons (tVar 8) (tCons (tVar 7) (tCons (tVar 5) tNil)))) (fun A outer s H E f c' hr' => pe_callKs (ks := ["lot", "heard", "teller"]) OL hr' (by rfl) hml hkl KL (passes_call (takes_of (E := E) rfl rfl rfl rfl) (fun _ _ _ _ h => h)) (pk_cons (pv 8) (pk_cons (pv 7) (pk_cons (pv 5) pk_nil))))) pa_nil)))
        (pss_cons (ps_expr (pe_bm PySem.F.plainAttrs_list PySem.F.slot_list_append PySem.F.type_list_append mt_append (pv 10) (pa_cons (pe_told D (by rfl) TB rfl hr (LamX.lamS_by (sc := defScope (top 65)) (by decide +kernel)) rfl (fun _ _ _ _ _ => rfl) (t := fun E => tCallKs 3 (spAfter K highV) (fun _ zs => zs.reverse) E (tCons (tVar 8) (tCons (tVar 7) (tCons (tVar 5) tNil)))) (fun A outer s H E f c' hr' => pe_callKs (ks := ["lot", "heard", "teller"]) OG hr' (by rfl) hmg hkg KG (passes_call (takes_of (E := E) rfl rfl rfl rfl) (fun _ _ _ _ h => h)) (pk_cons (pv 8) (pk_cons (pv 7) (pk_cons (pv 5) pk_nil))))) pa_nil)))
        (pss_one (ps_if (pt_cmpR op_ne (pe_callB (call_reprD hg hu) (by rfl) D.repr boot_repr (pa_cons (pv 10) pa_nil)) (pe_callB (call_reprD hg hu) (by rfl) D.repr boot_repr (pa_cons (pv 9) pa_nil)) (nomark _)) (pss_one (ps_ret pe_bl)) pss_nil)))))))))))))))))
    (pss_one (ps_ret pe_bl)), ?_⟩
  refine ⟨2, rfl, by decide, by decide, for_range (lo := 0) (n := (2 : Int).toNat) (fun i σ H' => Kp v H H' ∧ VatAt H' v ∧ LamX.Tabs [(tb, qL)] H' ∧ ∃ v1 v2 v3 v4 v5 v6 v7 v8 v9 v10, σ = sR v v1 v2 v3 v4 v5 v6 v7 v8 v9 v10)
    ⟨Kp.refl v H, hv, hT, none, none, none, none, none, none, none, none, none, none, rfl⟩ ?_ ?_⟩
  · rintro i σ H1 hi ⟨k1, hv1, T1, v1, v2, v3, v4, v5, v6, v7, v8, v9, v10, rfl⟩
    refine ⟨_, rfl, v, 4, rfl, hv1, by decide, by decide, fun d H2 d0 d1 b2 hv2 => ⟨_, _, rfl, rfl, ?_⟩⟩
    have T2 := tabs_but hv1 T1 b2
    obtain ⟨m, hm⟩ : ∃ m : Nat, 2 + d = (m : Int) := ⟨(2 + d).toNat, by omega⟩
    refine ⟨_, rfl, _, rfl, v, 2 + d, rfl, hv2, by omega, by omega, fun ws p1 H3 b3 hv3 lw okw iw => ?_⟩
    have T3 := tabs_but hv2 T2 b3
    refine ⟨_, rfl, _, rfl, v, m, congrArg (fun z => [V.ref v, V.int z, V.int 4]) hm, hv3, by omega, by omega, fun rows p2 H4 b4 hv4 rT oR l4 => ?_⟩
    have T4 := tabs_but hv3 T3 b4
    refine ⟨(by show 2 ≤ sizeLine; decide), fun p0 n0 => ⟨p0, _, rfl, SqT.of upd_same, rfl, _, _, rfl, _, _, rfl, rfl, ?_⟩⟩
    have s5 : Same H4 (upd H4 p0 (.tup [.ref p1, .ref p2])) := same_upd n0
    have iw4 := (Kp.ofB b4).seqT hv3 iw
    have oW : OkW ws := ⟨by omega, by omega, okw⟩
    have ew : ((ws.length : Nat) : Int) = (m : Int) := by omega
    have oR' : OkR ws.length rows := by rw [ew]; exact oR
    refine ⟨_, rfl, _, rfl, fun x dx nx ndx nex => ?_⟩
    have sdx : Same (upd H4 p0 (.tup [.ref p1, .ref p2])) (upd (upd H4 p0 (.tup [.ref p1, .ref p2])) dx (.own x)) := same_upd ndx
    have nx2 : (upd (upd H4 p0 (.tup [.ref p1, .ref p2])) dx (.own x)) x = none := by rw [upd_ne (Ne.symm nex)]; exact nx
    have sx := sdx.trans (same_upd (o := .ins (telC K) dx []) nx2)
    refine ⟨x, dx, p1, p2, ws, rows, rfl, upd_same, Same.seqT (s5.trans sx) iw4, Same.rows (s5.trans sx) rT, oW, oR', fun H6 b6 te => ⟨rfl, ?_⟩⟩
    have s6 : Same H4 H6 := fun b o e => b6 b o (ne_of_none (s5 _ _ e) nx) (sx _ _ (s5 _ _ e))
    have hv6 := hv4.same s6
    have T6 := tabs_same T4 s6
    have k6 : Kp v H H6 := (((k1.trans (Kp.ofB b2)).trans (Kp.ofB b3)).trans (Kp.ofB b4)).trans (Kp.of s6)
    have iw6 := Same.seqT s6 iw4
    have rT6 := Same.rows s6 rT
    refine ⟨4, rfl, by decide, by decide, for_range (lo := 0) (n := (4 : Int).toNat) (fun j σ H' => Kp v H6 H' ∧ VatAt H' v ∧ LamX.Tabs [(tb, qL)] H' ∧ ∃ v6 v7 v8 v9 v10, σ = sR v (some (.int (0 + (i : Int)))) (some (.int (2 + d))) (some (.ref p1)) (some (.ref p2)) (some (.ref x)) v6 v7 v8 v9 v10)
      ⟨Kp.refl v H6, hv6, T6, v6, v7, v8, v9, v10, rfl⟩ ?_ ?_⟩
    · rintro j σ H7 hj ⟨k7, hv7, T7, v6, v7, v8, v9, v10, rfl⟩
      refine ⟨_, rfl, v, 6, rfl, hv7, by decide, by decide, fun d8 H8 d80 d81 b8 hv8 => ⟨_, _, rfl, rfl, 1 + d8, rfl, by omega, by omega, fun D0 n0 => ?_⟩⟩
      have T8 := tabs_but hv7 T7 b8
      have k8 := k7.trans (Kp.ofB b8)
      have vD := hv8.ne n0
      obtain ⟨rs, hrs, hri⟩ := k8.rowsT hv6 rT6
      have hrl := hri.len
      have rpos : 0 < rows.length := List.length_pos_iff.mpr oR.1
      refine lc_range (lo := 0) (n := (1 + d8).toNat) (fun a H' => But v H8 H' ∧ VatAt H' v ∧ ∃ ns : List Int, ns.length = a ∧ (∀ z ∈ ns, 0 ≤ z ∧ z < rows.length) ∧ H' D0 = some (.lst (ns.map V.int)))
        ⟨But.of (same_upd n0), hv8.upd vD, [], rfl, nofun, upd_same⟩ ?_ ?_
      · rintro a H9 ha ⟨b9, hv9, ns, la, hns, hD⟩
        refine ⟨rfl, _, rfl, _, rfl, _, rs.length, rfl, .inr ⟨_, hv8.seqT b9 hrs, (List.length_map _).symm⟩, v, rs.length, rfl, hv9, by omega, by omega, fun d' H10 d0' d1' b10 hv10 => ?_⟩
        have hD10 := b10 _ _ (Ne.symm vD) hD
        refine ⟨_, hD10, by rw [List.length_map]; exact small1000 (by omega), (b9.trans b10).upd (But.refl v H8) n0, hv10.upd vD, ns ++ [d'], by rw [List.length_append, la]; rfl, fun z hz => ?_, ?_⟩
        · rcases List.mem_append.mp hz with q | q
          · exact hns z q
          · have : z = d' := by simpa using q
            omega
        · rw [upd_same, List.map_append]
          rfl
      rintro H9 ⟨b9, hv9, heard, la, hns, hD⟩
      refine ⟨D0, _, rfl, SqL.of hD, fun h o nh od => ?_⟩
      have s10 : Same H9 (upd H9 h (.frz o (.tup (heard.map V.int)))) := same_upd nh
      have oH : OkH rows.length heard := ⟨fun z => by rw [z] at la; simp at la; omega, by omega, hns⟩
      have T10 := tabs_same (tabs_but hv8 T8 b9) s10
      have k10 := (k8.trans (Kp.ofB b9)).trans (Kp.of s10)
      have hv10 := hv9.same s10
      try dsimp only [gName, tSeq, tAsg]
      change tIf (tTest (tOp (rI0 fun i j => .bl (decide (j < i))) (tCall spTap [] E0 (tCons (tVar 0) (tCons (tC (.int 3)) tNil))) (tC (.int 0)))) (tVar 7) (tOp (rMulT K) (tSl (rSlA K) (tVar 7) tNoPart (tPart (tC (.int 1)))) (tCB (rLenK K) (tCons (tVar 7) tNil)))
        (sR v (some (.int (0 + (i : Int)))) (some (.int (2 + d))) (some (.ref p1)) (some (.ref p2)) (some (.ref x)) (some (.int (0 + (j : Int)))) (some (.ref h)) v8 v9 v10) (upd H9 h (.frz o (.tup (heard.map V.int)))) _
      refine heardIf (n := rows.length) rfl rfl hv10 ⟨o, upd_same, od⟩ oH fun h' hd H11 b11 hv11 hO11 oH11 => ?_
      have T11 := tabs_but hv10 T10 b11
      refine ⟨_, rfl, _, rfl, v, m, congrArg (fun z => [V.ref v, V.int z]) hm, hv11, by omega, fun lot pl H12 b12 hv12 aL iL => ?_⟩
      have T12 := tabs_but hv11 T11 b12
      have k12 := (k10.trans (Kp.ofB b11)).trans (Kp.ofB b12)
      have hO12 := (Kp.ofB b12).tupO hv11 hO11
      have iw12 := k12.seqT hv6 iw6
      have rT12 := k12.rowsT hv6 rT6
      have te12 := k12.tel hv6 te
      have aL' : AscIn ws.length lot := by rw [ew]; exact aL
      have lL := aL'.len
      refine ⟨_, rfl, _, rfl, _, rfl, _, rfl, ?_⟩
      dsimp only [tNil, tCons, List.append_nil]
      refine dues_core iw12 oW (by omega) rT12 (by omega) hO12 oH11 iL (by omega) fun U x0 y0 H13 s13 hU tv0 tvh0 => ?_
      have k13 := k12.trans (Kp.of s13)
      have Tp0 := tabs_same T12 s13
      have hvp0 := hv12.same s13
      have UV : U ≠ v := fun z => by
        obtain ⟨a, b, c, hh, _⟩ := hvp0
        rw [z, hh] at hU
        have q := congrArg List.length (HO.lst.inj (Option.some.inj hU))
        exact absurd q (show (3 : Nat) ≠ 2 by decide)
      have Ap0 : AfterAt K H13 x h' pl ws hd lot rows := (Kp.of s13).after hv12 ⟨te12, oW, by omega, hO12.seq, oH11, iL, aL'⟩
      have okd := dL_ok (oV_sm (low_sm (lot := lot) oW oH11)) (oV_sm (high_sm (lot := lot) oW oH11))
      have hUp := hU
      have tvlp := tv0
      have tvhp := tvh0

      dsimp only [tLst, tCons, tNil]
      change LamX.tLam [(tb, qL)] (LamX.TTold K (nvC K) never) (fun E => tCall (spAfter K lowV) [] E (tCons (tVar 5) (tCons (tVar 7) (tCons (tVar 8) tNil)))) (sR v (some (.int (0 + (i : Int)))) (some (.int (2 + d))) (some (.ref p1)) (some (.ref p2)) (some (.ref x)) (some (.int (0 + (j : Int)))) (some (.ref h')) (some (.ref pl)) (some (.ref U)) v10) H13 _
      refine told_pos D (v := v) (t := x) (h := h') (l := pl) (ws := ws) (heard := hd) (lot := lot) (rows := rows) rfl rfl rfl Tp0 hvp0 Ap0 fun xpa Hpa epa Tpa tvpa => ?_
      have hvpa := hvp0.ext epa
      refine ⟨(by show 1 ≤ sizeLine; decide), fun Lp nLp => ?_⟩
      have spa : Same Hpa (upd Hpa Lp (.lst [xpa])) := same_upd nLp
      have vLp := hvpa.ne nLp
      refine ⟨_, rfl, .inl ⟨rfl, _, SqL.of upd_same⟩, ?_⟩
      change LamX.tLam [(tb, qL)] (LamX.TTold K (nvC K) never) (fun E => tCall (spAfter K highV) [] E (tCons (tVar 5) (tCons (tVar 7) (tCons (tVar 8) tNil)))) (sR v (some (.int (0 + (i : Int)))) (some (.int (2 + d))) (some (.ref p1)) (some (.ref p2)) (some (.ref x)) (some (.int (0 + (j : Int)))) (some (.ref h')) (some (.ref pl)) (some (.ref U)) (some (.ref Lp))) (upd Hpa Lp (.lst [xpa])) _
      refine told_pos D (v := v) (t := x) (h := h') (l := pl) (ws := ws) (heard := hd) (lot := lot) (rows := rows) rfl rfl rfl (tabs_same Tpa spa) (hvpa.same spa) (((Kp.ofE epa).trans (Kp.of spa)).after hvp0 Ap0) fun xpb Hpb epb Tpb tvpb => ?_
      have hvpb := (hvpa.same spa).ext epb
      have hLpb : Hpb Lp = some (.lst [xpa]) := epb _ _ upd_same (by intro _ z; cases z)
      refine ⟨Lp, _, _, rfl, rfl, hLpb, by show 1 < sizeLine; decide, ?_⟩
      have tvapb := (Kp.ofE (v := v) epb).tv (hvpa.same spa) ((Kp.of (v := v) spa).tv hvpa tvpa)
      have kkp : Kp v H13 (upd Hpb Lp (.lst ([xpa] ++ [xpb]))) := Kp.upd2 (Kp.ofE epa) nLp (((Kp.ofE epa).trans (Kp.of spa)).trans (Kp.ofE epb))
      have Txp := tabs_lst (ys := [xpa] ++ [xpb]) hLpb Tpb
      have hvxp : VatAt (upd Hpb Lp (.lst ([xpa] ++ [xpb]))) v := hvpb.upd vLp
      refine ⟨_, rfl, Lp, dL (oV lowV ws rows hd lot) (oV highV ws rows hd lot), rfl, tvL_dp upd_same (tv_lst hLpb tvapb) (tv_lst hLpb tvpb), okd.1, okd.2.1, okd.2.2.1, okd.2.2.2, _, rfl, U, dL (oV lowV ws rows hd lot) (oV highV ws rows hd lot), rfl, tvL_dp (kkp.lst UV hUp) (kkp.tv hvp0 tvlp) (kkp.tv hvp0 tvhp), okd.1, okd.2.1, okd.2.2.1, okd.2.2.2, rfl, _, rfl, iteNS rfl ?_⟩

      have Aq0 := kkp.after hvp0 Ap0
      have hUq := kkp.lst UV hU
      have tvlq := kkp.tv hvp0 tv0
      have tvhq := kkp.tv hvp0 tvh0
      have Tq0 := Txp
      have hvq0 := hvxp

      dsimp only [tLst, tCons, tNil]
      change LamX.tLam [(tb, qL)] (LamX.TTold K (nvC K) never) (fun E => tCallKs 3 (spAfter K lowV) (fun _ zs => zs.reverse) E (tCons (tVar 8) (tCons (tVar 7) (tCons (tVar 5) tNil)))) (sR v (some (.int (0 + (i : Int)))) (some (.int (2 + d))) (some (.ref p1)) (some (.ref p2)) (some (.ref x)) (some (.int (0 + (j : Int)))) (some (.ref h')) (some (.ref pl)) (some (.ref U)) (some (.ref Lp))) (upd Hpb Lp (.lst ([xpa] ++ [xpb]))) _
      refine told_kw D (v := v) (t := x) (h := h') (l := pl) (ws := ws) (heard := hd) (lot := lot) (rows := rows) rfl rfl rfl Tq0 hvq0 Aq0 fun xqa Hqa eqa Tqa tvqa => ?_
      have hvqa := hvq0.ext eqa
      refine ⟨(by show 1 ≤ sizeLine; decide), fun Lq nLq => ?_⟩
      have sqa : Same Hqa (upd Hqa Lq (.lst [xqa])) := same_upd nLq
      have vLq := hvqa.ne nLq
      refine ⟨_, rfl, .inl ⟨rfl, _, SqL.of upd_same⟩, ?_⟩
      change LamX.tLam [(tb, qL)] (LamX.TTold K (nvC K) never) (fun E => tCallKs 3 (spAfter K highV) (fun _ zs => zs.reverse) E (tCons (tVar 8) (tCons (tVar 7) (tCons (tVar 5) tNil)))) (sR v (some (.int (0 + (i : Int)))) (some (.int (2 + d))) (some (.ref p1)) (some (.ref p2)) (some (.ref x)) (some (.int (0 + (j : Int)))) (some (.ref h')) (some (.ref pl)) (some (.ref U)) (some (.ref Lq))) (upd Hqa Lq (.lst [xqa])) _
      refine told_kw D (v := v) (t := x) (h := h') (l := pl) (ws := ws) (heard := hd) (lot := lot) (rows := rows) rfl rfl rfl (tabs_same Tqa sqa) (hvqa.same sqa) (((Kp.ofE eqa).trans (Kp.of sqa)).after hvq0 Aq0) fun xqb Hqb eqb Tqb tvqb => ?_
      have hvqb := (hvqa.same sqa).ext eqb
      have hLqb : Hqb Lq = some (.lst [xqa]) := eqb _ _ upd_same (by intro _ z; cases z)
      refine ⟨Lq, _, _, rfl, rfl, hLqb, by show 1 < sizeLine; decide, ?_⟩
      have tvaqb := (Kp.ofE (v := v) eqb).tv (hvqa.same sqa) ((Kp.of (v := v) sqa).tv hvqa tvqa)
      have kkq : Kp v (upd Hpb Lp (.lst ([xpa] ++ [xpb]))) (upd Hqb Lq (.lst ([xqa] ++ [xqb]))) := Kp.upd2 (Kp.ofE eqa) nLq (((Kp.ofE eqa).trans (Kp.of sqa)).trans (Kp.ofE eqb))
      have Txq := tabs_lst (ys := [xqa] ++ [xqb]) hLqb Tqb
      have hvxq : VatAt (upd Hqb Lq (.lst ([xqa] ++ [xqb]))) v := hvqb.upd vLq
      refine ⟨_, rfl, Lq, dL (oV lowV ws rows hd lot) (oV highV ws rows hd lot), rfl, tvL_dp upd_same (tv_lst hLqb tvaqb) (tv_lst hLqb tvqb), okd.1, okd.2.1, okd.2.2.1, okd.2.2.2, _, rfl, U, dL (oV lowV ws rows hd lot) (oV highV ws rows hd lot), rfl, tvL_dp (kkq.lst UV hUq) (kkq.tv hvq0 tvlq) (kkq.tv hvq0 tvhq), okd.1, okd.2.1, okd.2.2.1, okd.2.2.2, rfl, _, rfl, iteNS rfl ?_⟩

      exact ⟨(k13.trans kkp).trans kkq, hvxq, Txq, _, _, _, _, _, rfl⟩
    · rintro σ H7 ⟨k7, hv7, T7, v6, v7, v8, v9, v10, rfl⟩
      exact ⟨k6.trans k7, hv7, T7, _, _, _, _, _, _, _, _, _, _, rfl⟩
  · rintro σ H1 ⟨k1, hv1, T1, v1, v2, v3, v4, v5, v6, v7, v8, v9, v10, rfl⟩
    exact k H1 k1 hv1 T1
end
end Tk
 
set_option maxHeartbeats 4000000
namespace Tk
open PySem PySem.Spec PyProof.Rows L2
/-! ### runs that want no guard on the stack -/
def RunG (P : Program) (w : World) (K : PySem.W.Frag) (mg : Str → Option Value) (base : Heap) (k : Nat) (f : Addr) (fd : FuncData) (ps : List Str) (sp : Sp) : Prop :=
  ∀ (A : Around) (outer : List Env) (s : Shared) (H : Hp) (args : Args) (us : List Value) (vs : List V) (Q : VK), Room k A → A.guards = some [] → Env0 P w K mg base A outer s H → BindsTo s fd args (ps.zip us) → Vals vs us → sp vs H Q E0 →
    codeAny (model P w) A (.call (.ref f) args) (CR CX0 outer P w H s Q E0) s
theorem pe_callG {X : Cx} {k : Nat} {f : Addr} {fd : FuncData} {ps : List Str} {sp : Sp} {x : Str} {p pos : Pos} {e : Expr} {es : List Expr} {t : TA} (F : RunG X.prog X.w X.K X.mg X.base k f fd ps sp) (len : ∀ vs H Q E, sp vs H Q E → vs.length = ps.length) (hG : X.A.guards = some []) (hr : Room k X.A) (hg : Gl X x)
    (hm : X.mg x = some (.ref f)) (hk : PySem.W.keepIn X.K (.ref f) = true) (hb : Binds X.K fd ps []) (ha : PA X (e :: es) t)
    (hdb : (x == ("__debug__" : Str)) = false := by decide) (he : starEach (e :: es) X.env = (false, eval e X.env) :: starEach es X.env := by rfl) (hpl : (backTo pos (starEach es X.env)).any (·.1) = false := by rfl) :
    PE X (.Call (.Name x p) (e :: es) [] pos) (tCall sp [] E0 t) := by
  refine ⟨fun pins s σ H Q I h => wpAny_Call_Name_kw (ld_glob I hg hm ?_ hdb)⟩
  refine PySem.W.callWith_K (h₀ := X.base) I.ok.mod.kin hk (thn (ha.run pos pins s σ H _ I h) fun us s1 ⟨vs, H1, I1, r, q⟩ => ⟨I1.kIn, ?_⟩) he hpl
  have q : sp vs H1 Q E0 := by
    have q' : sp (vs ++ []) H1 Q E0 := q
    rw [List.append_nil] at q'
    exact q'
  have hl : us.length = ps.length := by rw [← r.length]; exact len _ _ _ _ q
  have hb' := hb s1 us I1.kIn (by rw [List.append_nil]; exact hl)
  rw [List.append_nil] at hb'
  refine wpAny_call (codeAny_mono (F X.A X.stack s1 H1 ⟨us, []⟩ us vs Q hr hG I1.env0 hb' r q) fun res s' hq => ?_)
  cases res with
  | error e => exact (show False from hq).elim
  | ok fl =>
    cases fl with
    | ret u => exact I1.after hq
    | next => exact False.elim hq
    | brk => exact False.elim hq
    | cont => exact False.elim hq
/-- _law_right's code object is c -/
def RC (K : PySem.W.Frag) (mg : Str → Option Value) (c : Addr) : Prop := ∀ f fd, mg "_law_right" = some (.ref f) → FnP K "_law_right" "_law_right" (top 65) f fd → fd.code = .ref c
section
variable {P : Program} {w : World} {K : PySem.W.Frag} {mg : Str → Option Value} {base : Heap}
theorem run_right (D : Dat K mg) {c tb : Addr} (TB : LamX.TabB base mg c tb) (hc : RC K mg c) : ∃ f fd, mg "_law_right" = some (.ref f) ∧ PySem.W.keepIn K (.ref f) = true ∧ RunG P w K mg base 9 f fd ["_law_vat_here"] (spRight tb) ∧ Binds K fd ["_law_vat_here"] [] := by
  obtain ⟨f, fd, hm, F⟩ := D.law_right
  have e := hc f fd hm F
  obtain ⟨oc, od, dV, kV, doc, pm, an, cdv, ct, osl, efd, lk, hcd, _, _⟩ := F.ex
  refine ⟨f, fd, hm, F.kp, fun A outer s H args us vs Q hr hg e0 hb r hsp => ?_, F.bindsN fun _ _ _ _ _ _ us hl => match us, hl with | [_], _ => rfl⟩
  subst efd
  obtain rfl : cdv = .ref c := e
  have hl : vs.length = 1 := by
    obtain ⟨v, rfl, _⟩ := hsp
    rfl
  refine LamX.run_ofS lk hcd sc_right hr e0 hb r hl fun hr' => ?_
  obtain ⟨t, h1, h2⟩ := right_body (P := P) (w := w) (E := E0) D TB hr' hg hsp
  exact ⟨t, h1.nox, h2⟩
/-! ### law -/
theorem Kp.seqL {D : Addr} {H H' : Hp} (k : Kp D H H') (nD : H D = none) {a : Addr} {xs : List V} (h : SqL K H a xs) : SqL K H' a xs := by
  rcases h with (h | ⟨o, h⟩) | h
  · exact .inl (.inl (k _ _ (ne_of_none h nD) h (by intro _ z; cases z)))
  · exact .inl (.inr ⟨o, k _ _ (ne_of_none h nD) h (by intro _ z; cases z)⟩)
  · exact .inr h
def spLaw (K : PySem.W.Frag) (tb : Addr) : Sp := fun vs H Q _ => ∃ (a : Addr) (ns : List Int), vs = [.ref a] ∧ IL K H a ns ∧ ns.length ≤ 63 ∧ LamX.Tabs [(tb, qL)] H ∧ ∀ H', Q (.bl true) H'
abbrev nmLaw : List Str := ["_law_script", "_law_turn"]
theorem sc_law : FnScope nmLaw ["_law_script"] (defScope (top 66)) := ⟨rfl, rfl, rfl, by decide +kernel, rfl, by decide +kernel, by decide +kernel⟩
theorem law_body (D : Dat K mg) {c tb : Addr} (TB : LamX.TabB base mg c tb) (hc : RC K mg c) {f : Addr} {cdv : Value} {A : Around} {outer : List Env} {s : Shared} {H : Hp} {vs : List V} {Q : VK} {E : XK}
    (hr : Room 9 (A.deeper (envOfC "law" (defScope (top 66)) s.heap.objs.size f cdv))) (hg : (A.deeper (envOfC "law" (defScope (top 66)) s.heap.objs.size f cdv)).guards = some []) (h : spLaw K tb vs H Q E) :
    ∃ t, PSs (cxOf CX0 P w K mg base nmLaw "law" (defScope (top 66)) f cdv A outer s H E).nox (defBody (top 66)) t ∧ t { nx := fun _ H' => Q .non H', rt := Q } (L2.start nmLaw vs) H := by
  obtain ⟨a, ns, rfl, ha, l63, hT, k⟩ := h
  obtain ⟨fr, fdr, hm, hk, FR, BR⟩ := run_right (P := P) (w := w) (base := base) D TB hc
  refine ⟨_, pss_one (ps_ret (pe_callB (allK K rfl) (by rfl) D.all boot_all (pa_cons
      (pe_lc (own := [("_law_turn", 1)]) (g := gName 1) (tt := tYes) rfl sc_law.nd (pi_range1 (by rfl) D.range (pa_cons (pe_callB (call_max2 rfl) (by rfl) D.max boot_max (pa_cons pe_int (pa_cons (pe_callB (call_min2 rfl) (by rfl) D.min boot_min (pa_cons (pe_callB (lenK K) (by rfl) D.len boot_len (pa_cons (pv 0) pa_nil)) (pa_cons pe_int pa_nil))) pa_nil))) pa_nil))
        (blkOk_by (own := [("_law_turn", 1)]) (N := nmLaw) (sc := defScope (top 66)) (by decide +kernel))
        (fun _ _ _ _ _ => pg_name (i := 1) sc_law.nd rfl (Or.inl rfl)) (fun _ _ _ _ _ => pts_nil)
        (fun _ _ _ _ _ => pe_callG FR (fun vs H Q E h => by obtain ⟨v, rfl, _⟩ := h; rfl) hg hr (by rfl) hm hk BR (pa_cons (pe_f (has_vat D) (hr.mono (by decide)) rfl (pa_cons (pv 0) (pa_cons (pv 1) pa_nil))) pa_nil))) pa_nil))), ?_⟩
  refine ⟨_, rfl, _, ns.length, rfl, .inl ⟨_, ha, (List.length_map _).symm⟩, _, _, rfl, _, _, rfl, ?_⟩
  have hn : ∀ z : Int, (if z > 2 then z else 2) ≤ 5 ∨ 5 < z := fun z => by split <;> omega
  have b1 : (if (5 : Int) < (ns.length : Int) then 5 else (ns.length : Int)) ≤ 5 := by split <;> omega
  generalize (if (5 : Int) < ((ns.length : Nat) : Int) then 5 else ((ns.length : Nat) : Int)) = y at *
  have b2 : (if y > 2 then y else 2) ≤ 5 ∧ 0 ≤ (if y > 2 then y else 2) := by split <;> omega
  refine ⟨_, rfl, by omega, by omega, fun D0 n0 => ?_⟩
  generalize (if y > 2 then y else 2) = u at *
  refine lc_range (lo := 0) (n := u.toNat) (fun i H' => Kp D0 H H' ∧ LamX.Tabs [(tb, qL)] H' ∧ H' D0 = some (.lst ((List.replicate i true).map V.bl))) ⟨Kp.of (same_upd n0), tabs_same hT (same_upd n0), upd_same⟩ ?_ ?_
  · rintro i H1 hi ⟨k1, T1, hD⟩
    refine ⟨rfl, _, rfl, _, rfl, a, 0 + (i : Int), ns, rfl, k1.seqL n0 ha, l63, by omega, by omega, fun p H2 s2 np hv => ?_⟩
    have hD2 := s2 _ _ hD
    have pD : D0 ≠ p := ne_of_none hD np
    refine ⟨p, rfl, hv, tabs_same T1 s2, fun H3 k3 hv3 T3 => ?_⟩
    have hD3 := k3.lst pD hD2
    refine ⟨_, hD3, by rw [List.length_map, List.length_replicate]; exact small1000 (by omega), fun b o nb e t => ?_, tabs_lst hD3 T3, ?_⟩
    · rw [upd_ne nb]
      have e1 := k1 b o nb e t
      exact k3 b o (ne_of_none e1 np) (s2 _ _ e1) t
    · rw [upd_same, rep_snoc, List.map_append]
      rfl
  · rintro H1 ⟨k1, T1, hD⟩
    refine ⟨D0, _, rfl, SqL.of hD, ?_⟩
    have e : (List.replicate u.toNat true).all id = true := by simp
    rw [e]
    exact k H1
theorem run_law (D : Dat K mg) {c tb : Addr} (TB : LamX.TabB base mg c tb) (hc : RC K mg c) {f : Addr} {fd : FuncData} (F : FnP K "law" "law" (top 66) f fd) : RunG P w K mg base 10 f fd ["_law_script"] (spLaw K tb) := by
  obtain ⟨oc, od, dV, kV, doc, pm, an, cdv, ct, osl, efd, lk, hcd, _, _⟩ := F.ex
  intro A outer s H args us vs Q hr hg e0 hb r hsp
  subst efd
  have hl : vs.length = 1 := by
    obtain ⟨v, _, rfl, _⟩ := hsp
    rfl
  refine LamX.run_ofS lk hcd sc_law hr e0 hb r hl fun hr' => ?_
  obtain ⟨t, h1, h2⟩ := law_body (P := P) (w := w) (E := E0) D TB hc hr' hg hsp
  exact ⟨t, h1.nox, h2⟩
end
end Tk
set_option maxHeartbeats 0
namespace Tk
open PySem PySem.Spec PyProof.Rows L2
/-! ### what the head is asked -/
def dTop (x : Str) (i : Nat) : He.DefD := ⟨(x, none), x, x, defArgs (top i), defBody (top i), defScope (top i), [], []⟩
def dMeth (m q : Str) (i : Nat) : He.DefD := ⟨("Teller", some m), m, q, defArgs (inClass (top 35) i), defBody (inClass (top 35) i), defScope (inClass (top 35) i), [], []⟩
def fn0 : List He.DefD := [dTop "is_integer" 15, dTop "is_between" 16, dTop "common_divisor" 18, dTop "fraction" 19, dTop "plus" 20, dTop "times" 21, dTop "over" 22, dTop "total" 23, dTop "is_ascending" 24, dTop "check_weights" 31, dTop "is_lot" 32, dTop "check_sayings" 33, dTop "check_teller" 36, dTop "check_lot" 39, dTop "check_heard" 43, dTop "left_for" 44, dTop "greatest_product" 45, dTop "most_of" 46, dTop "bound_of" 47, dTop "check_repeats" 48, dTop "least_after" 49, dTop "greatest_after" 50, dTop "_law_vat" 52, dTop "_law_tap" 53, dTop "_law_one" 54, dTop "_law_cut" 55, dTop "_law_below" 56, dTop "_law_weights" 57, dTop "_law_lots" 58, dTop "_law_lot" 59]
def fn1 : List He.DefD := [dTop "_law_sayings" 60, dTop "_law_said" 61, dTop "_law_told" 62, dTop "_law_product" 63, dTop "_law_dues" 64, dTop "_law_right" 65, dTop "law" 66, dMeth "__init__" "Teller.__init__" 0, dMeth "said_in" "Teller.said_in" 4]
def fn : List He.DefD := fn0 ++ fn1
def fa0 : List He.Fa := [.glo "is_integer", .glo "is_between", .glo "common_divisor", .glo "fraction", .glo "plus", .glo "times", .glo "over", .glo "total", .glo "is_ascending", .glo "check_weights", .glo "is_lot", .glo "check_sayings", .glo "check_teller", .glo "check_lot", .glo "check_heard", .glo "left_for", .glo "greatest_product", .glo "most_of", .glo "bound_of", .glo "check_repeats", .glo "least_after", .glo "greatest_after", .glo "_law_vat", .glo "_law_tap", .glo "_law_one", .glo "_law_cut", .glo "_law_below", .glo "_law_weights", .glo "_law_lots", .glo "_law_lot"]
def fa1 : List He.Fa := [.glo "_law_sayings", .glo "_law_said", .glo "_law_told", .glo "_law_product", .glo "_law_dues", .glo "_law_right", .glo "law", .free "len", .free "tuple", .free "isinstance", .free "int", .free "bool", .free "all", .free "any", .free "range", .free "enumerate", .free "sum", .free "abs", .free "max", .free "min", .free "divmod", .free "sorted", .free "repr", .int "MOST_CASES" 8, .int "MOST_WEIGHT" 1000000, .int "MOST_SAYINGS" 16, .int "MOST_HEARD" 20, .int "LEAST_CASES" 2, .glo "NONE", .glo "WHOLE"]
def fa2 : List He.Fa := [.glo "Teller", .glo "NeverHeard", .cls "Teller", .noat "Teller" "held", .mkr "Teller", .meth "Teller" "said_in", .exm "NeverHeard" "NeverHeard" true, .keep "NeverHeard"]
def fa : List He.Fa := fa0 ++ fa1 ++ fa2
def loose0 : List Str := ["_wall", "WrongValue", "InvalidText", "InvalidSaying", "InvalidCase", "NotATeller", "InvalidWeights", "InvalidSayings", "InvalidLot", "InvalidHeard", "NoAnswer", "NeverHeard", "DIGITS", "is_integer", "is_between", "number_in", "common_divisor", "fraction", "plus", "times", "over", "total", "is_ascending", "MOST_CASES", "MOST_WEIGHT", "MOST_SAYINGS", "MOST_HEARD", "LEAST_CASES", "check_weights", "is_lot"]
def loose1 : List Str := ["check_sayings", "cases_in", "Teller", "check_teller", "check_case", "check_saying", "check_lot", "NONE", "WHOLE", "check_heard", "left_for", "greatest_product", "most_of", "bound_of", "check_repeats", "least_after", "greatest_after", "_law_vat", "_law_tap", "_law_one", "_law_cut", "_law_below", "_law_weights", "_law_lots", "_law_lot", "_law_sayings", "_law_said", "_law_told", "_law_product", "_law_dues"]
def loose2 : List Str := ["_law_right"]
def loose : List Str := loose0 ++ loose1 ++ loose2
def tf : List He.Defn := [("_law_right", none)]
/-- the function behind a property -/
def getterAt (K : PySem.W.Frag) (x : Str) : Addr := match PySem.W.recIn K (He.ma K (telC K) x) "property" with
  | some (.ref g :: _) => g
  | _ => 0
def propB (K : PySem.W.Frag) (x : Str) : Bool := He.eqO (PySem.W.findIn K (.ref (telC K)) x) (some (some (.ref (He.ma K (telC K) x)))) && (He.eqO (PySem.W.specialIn K (.ref (He.ma K (telC K) x)) "__get__") (some (some (.builtin "property.__get__"))) &&
  (decide (PySem.W.takesIn K (.ref (He.ma K (telC K) x)) = some true) && (match PySem.W.recIn K (He.ma K (telC K) x) "property" with
    | some (.ref _ :: _) => true
    | _ => false)))
theorem propB_ok {K : PySem.W.Frag} {x : Str} (h : propB K x = true) : PropOf K (telC K) x (He.ma K (telC K) x) (getterAt K x) := by
  obtain ⟨h1, h2⟩ := He.ba h
  obtain ⟨h3, h4⟩ := He.ba h2
  obtain ⟨h5, h6⟩ := He.ba h4
  refine ⟨He.eqO_ok h1, He.eqO_ok h3, of_decide_eq_true h5, ?_⟩
  unfold getterAt
  split at h6
  · rename_i g rest e
    exact ⟨rest, by rw [e]⟩
  · cases h6
/-- a def at an address -/
def fnA (K : PySem.W.Frag) (a : Addr) : He.FnW := match K.lookup a with
  | some ⟨_, _, .func fd, _⟩ => some (fd.name, fd.qualname, fd.params, fd.body, fd.scope, fd.globals, fd.closure, fd.builtins)
  | _ => none
def fnAB (K : PySem.W.Frag) (a : Addr) (q : Str) : Bool := PySem.W.keepIn K (.ref a) && (match K.lookup a with
  | some ⟨_, _, .func fd, _⟩ => PySem.W.codeIn K fd.code q && He.dflB K fd.defaults []
  | _ => false)
theorem fnA_ok {K : PySem.W.Frag} {a : Addr} {x q : Str} {st : Stmt} (e : fnA K a = some (x, q, defArgs st, .stmts (defBody st), defScope st, mainGlobals, [], builtinsNs)) (c : fnAB K a q = true) : ∃ fd, FnP K x q st a fd := by
  obtain ⟨kp, c2⟩ := He.ba c
  unfold fnA at e
  split at e
  · rename_i oc od fd osl lk
    rw [lk] at c2
    obtain ⟨c3, c4⟩ := He.ba (show (PySem.W.codeIn K fd.code q && He.dflB K fd.defaults []) = true from c2)
    refine ⟨fd, ⟨oc, od, fd.defaults, fd.kwdefaults, fd.doc, fd.pyModule, fd.annotations, fd.code, fd.closureTuple, osl, ?_, lk, c3, He.dflB_ok c4, .inl rfl⟩, kp⟩
    obtain ⟨n1, n2, n3, n4, n5, n6, n7, n8, n9, n10, n11, n12, n13, n14, n15⟩ := fd
    simp only [Option.some.injEq, Prod.mk.injEq] at e
    obtain ⟨rfl, rfl, rfl, rfl, rfl, rfl, rfl, rfl⟩ := e
    rfl
  · cases e
def gets (K : PySem.W.Frag) : List He.FnW := [fnA K (getterAt K "weights"), fnA K (getterAt K "sayings")]
def getV (m : Str) (q : Str) (i : Nat) : He.FnW := some (m, q, defArgs (inClass (top 35) i), .stmts (defBody (inClass (top 35) i)), defScope (inClass (top 35) i), mainGlobals, [], builtinsNs)
def getsV : List He.FnW := [getV "weights" "Teller.weights" 2, getV "sayings" "Teller.sayings" 3]
def exB (K : PySem.W.Frag) : Bool := He.tupB K "NONE" [.int 0, .int 1] && (He.tupB K "WHOLE" [.int 1, .int 1] && (propB K "weights" && (propB K "sayings" && (fnAB K (getterAt K "weights") "Teller.weights" && (fnAB K (getterAt K "sayings") "Teller.sayings" &&
  (He.eqO (PySem.W.findIn K (.ref (telC K)) "__class__") (some (some (.builtin "object.__class__"))) && (He.eqO (PySem.W.specialIn K (.builtin "object.__class__") "__get__") (some (some (.builtin "getset_descriptor.__get__"))) &&
  (decide (PySem.W.takesIn K (.builtin "object.__class__") = some true) && (decide (PySem.W.mroIn K (telC K) (.type "object") = some true) && (decide (PySem.W.kitOne K (.ref (telC K)) (.ref (telC K)) = some true) &&
  (PySem.W.excIn K (nvC K) aeBase "ArithmeticError.__new__" && (decide (PySem.W.subIn K (.ref (nvC K)) (.type "BaseException") = some true) && decide (PySem.W.typeIn K (.ref (nvC K)) = some (.type "type"))))))))))))))
/-! ### the hook -/
/-- what an object leads on to: a dict's values, a function's code, a class's own names, a property's functions -/
def refsS (o : Obj) : List Addr := match o.data with
  | .dict es _ => es.toList.flatMap fun e => He.refV e.val
  | .func fd => He.refV fd.code
  | .cls cd => [cd.ns]
  | .fields vs => (match o.cls with
    | .type c => (match decide (c = "property") with
      | true => vs.toList.flatMap He.refV
      | false => [])
    | _ => [])
  | _ => []
def nextS (g : Addr → Option Obj) (as : List Addr) : List Addr := as.flatMap fun a => match g a with
  | some o => refsS o
  | none => []
def reachS (g : Addr → Option Obj) : Nat → List Addr → List Addr
  | 0, as => as
  | n + 1, as => as ++ reachS g n (nextS g as)
def KS (g : Addr → Option Obj) : PySem.W.Frag := He.frT g (reachS g 5 [mainGlobals])
abbrev AlP : Type := (He.AlT × Bool) × List He.FnW
def obK (g : Addr → Option Obj) (K : PySem.W.Frag) : AlP := ((He.obsT fa fn [] K, exB K && He.tabsB g tf K), gets K)
def obP (g : Addr → Option Obj) : AlP := obK g (KS g)
theorem says_of {as : List Addr} {w : World} {h : Heap} (e : obK h.get? (He.frT h.get? as) = ((He.valT fn [] w, true), getsV)) : He.SaysX fa fn [] tf exB w h (He.frT h.get? as) ∧ gets (He.frT h.get? as) = getsV := by
  have e1 := congrArg (fun z : AlP => z.1.1) e
  have e2 : (exB (He.frT h.get? as) && He.tabsB h.get? tf (He.frT h.get? as)) = true := congrArg (fun z : AlP => z.1.2) e
  obtain ⟨h1, h2⟩ := He.ba e2
  have each : ∀ p ∈ tf, PySem.W.codeHdIn (He.frT h.get? as) (He.cT (He.frT h.get? as) p).1 (He.cT (He.frT h.get? as) p).2 = true ∧ ∃ o, h.get? (He.cT (He.frT h.get? as) p).2 = some o ∧ He.emptyTab o = true := fun p hp => by
    obtain ⟨q1, q2⟩ := He.ba (List.all_eq_true.mp h2 p hp)
    refine ⟨q1, ?_⟩
    split at q2
    · rename_i o eo
      exact ⟨o, eo, q2⟩
    · cases q2
  refine ⟨⟨e1, h1, fun p hp => (each p hp).1, fun p hp => ?_, fun p hp => ?_⟩, congrArg (fun z : AlP => z.2) e⟩
  · obtain ⟨_, o, eo, z⟩ := each p hp
    exact He.frT_none eo z
  · obtain ⟨_, o, eo, z⟩ := each p hp
    rw [eo, He.emptyTab_eq z]
def hookP : PySem.W.Hook where
  α := AlP
  obs := fun s => obP s.heap.get?
  val := fun w => ((He.valT fn [] w, true), getsV)
  says := fun w h => ∃ K : PySem.W.Frag, K.In h ∧ He.SaysX fa fn [] tf exB w h K ∧ gets K = getsV
  of := fun _ _ e => ⟨_, He.frT_in, says_of e⟩
  keeps := fun _ _ _ ⟨K, hK, c, g⟩ k => ⟨K, PySem.W.Frag.In.keeps hK k, ⟨c.t, c.more, c.hd, c.out, fun p hp => k _ _ (c.empty p hp)⟩, g⟩
theorem obP_eq {g : Addr → Option Obj} {s : Shared} (h : ∀ a, g a = s.heap.get? a) : obP g = hookP.obs s := by
  have e : g = s.heap.get? := funext h
  rw [e] <;> rfl
section
variable {K : PySem.W.Frag} {mg : Str → Option Value} {h : Heap} {w : World}
theorem defAt_of {x : Str} {j : Nat} (X : K.In h) (G : h.Ns mainGlobals mg) (c : He.SaysD fa fn K) (i i2 : Nat) (hi : fn[i]? = some (dTop x j)) (hg : fa[i2]? = some (.glo x)) : DefAt K mg x (top j) := by
  obtain ⟨fd, F⟩ := c.def_ i hi
  exact ⟨_, fd, He.glo_ok X G (c.fact i2 hg), F⟩
theorem dat_of (X : K.In h) (G : h.Ns mainGlobals mg) (C : He.SaysX fa fn [] tf exB w h K) (hgs : gets K = getsV) : Dat K mg := by
  have c := C.t.d
  obtain ⟨e1, m⟩ := He.ba C.more
  obtain ⟨e2, m⟩ := He.ba m
  obtain ⟨e3, m⟩ := He.ba m
  obtain ⟨e4, m⟩ := He.ba m
  obtain ⟨e5, m⟩ := He.ba m
  obtain ⟨e6, m⟩ := He.ba m
  obtain ⟨e7, m⟩ := He.ba m
  obtain ⟨e8, m⟩ := He.ba m
  obtain ⟨e9, m⟩ := He.ba m
  obtain ⟨e10, m⟩ := He.ba m
  obtain ⟨e11, m⟩ := He.ba m
  obtain ⟨e12, m⟩ := He.ba m
  obtain ⟨e13, e14⟩ := He.ba m
  have g1 : fnA K (getterAt K "weights") = getV "weights" "Teller.weights" 2 := congrArg (fun z : List He.FnW => z.getD 0 none) hgs
  have g2 : fnA K (getterAt K "sayings") = getV "sayings" "Teller.sayings" 3 := congrArg (fun z : List He.FnW => z.getD 1 none) hgs
  obtain ⟨fd1, F1⟩ := fnA_ok (st := inClass (top 35) 2) g1 e5
  obtain ⟨fd2, F2⟩ := fnA_ok (st := inClass (top 35) 3) g2 e6
  obtain ⟨fdI, FI⟩ := c.def_ 37 (d := dMeth "__init__" "Teller.__init__" 0) rfl
  obtain ⟨fdS, FS⟩ := c.def_ 38 (d := dMeth "said_in" "Teller.said_in" 4) rfl
  have gt := He.glo_ok X G (c.fact 60 (f := .glo "Teller") rfl)
  have gn := He.glo_ok X G (c.fact 61 (f := .glo "NeverHeard") rfl)
  have tel : TelF K mg := ⟨gt, He.cls_ok (c.fact 62 (f := .cls "Teller") rfl), He.noat_ok (c.fact 63 (f := .noat "Teller" "held") rfl), ⟨_, fdI, He.mkr_ok (c.fact 64 (f := .mkr "Teller") rfl), FI⟩, ⟨_, _, fd1, propB_ok e3, F1⟩, ⟨_, _, fd2, propB_ok e4, F2⟩,
    ⟨_, fdS, He.meth_ok (c.fact 65 (f := .meth "Teller" "said_in") rfl), FS⟩, He.eqO_ok e7, He.eqO_ok e8, of_decide_eq_true e9, of_decide_eq_true e10, of_decide_eq_true e11⟩
  have nv : NvF K mg := ⟨gn, e12, He.keep_ok (c.fact 67 (f := .keep "NeverHeard") rfl), of_decide_eq_true e13, of_decide_eq_true e14, He.exm_ok (c.fact 66 (f := .exm "NeverHeard" "NeverHeard" true) rfl)⟩
  exact ⟨He.free_ok X G (c.fact 37 (f := .free "len") rfl),
    He.free_ok X G (c.fact 38 (f := .free "tuple") rfl),
    He.free_ok X G (c.fact 39 (f := .free "isinstance") rfl),
    He.free_ok X G (c.fact 40 (f := .free "int") rfl),
    He.free_ok X G (c.fact 41 (f := .free "bool") rfl),
    He.free_ok X G (c.fact 42 (f := .free "all") rfl),
    He.free_ok X G (c.fact 43 (f := .free "any") rfl),
    He.free_ok X G (c.fact 44 (f := .free "range") rfl),
    He.free_ok X G (c.fact 45 (f := .free "enumerate") rfl),
    He.free_ok X G (c.fact 46 (f := .free "sum") rfl),
    He.free_ok X G (c.fact 47 (f := .free "abs") rfl),
    He.free_ok X G (c.fact 48 (f := .free "max") rfl),
    He.free_ok X G (c.fact 49 (f := .free "min") rfl),
    He.free_ok X G (c.fact 50 (f := .free "divmod") rfl),
    He.free_ok X G (c.fact 51 (f := .free "sorted") rfl),
    He.free_ok X G (c.fact 52 (f := .free "repr") rfl),
    He.int_ok X G (c.fact 53 (f := .int "MOST_CASES" 8) rfl),
    He.int_ok X G (c.fact 54 (f := .int "MOST_WEIGHT" 1000000) rfl),
    He.int_ok X G (c.fact 55 (f := .int "MOST_SAYINGS" 16) rfl),
    He.int_ok X G (c.fact 56 (f := .int "MOST_HEARD" 20) rfl),
    He.int_ok X G (c.fact 57 (f := .int "LEAST_CASES" 2) rfl),
    ⟨_, He.glo_ok X G (c.fact 58 (f := .glo "NONE") rfl), fun H => He.tupB_ok e1 H⟩,
    ⟨_, He.glo_ok X G (c.fact 59 (f := .glo "WHOLE") rfl), fun H => He.tupB_ok e2 H⟩,
    tel,
    nv,
    defAt_of X G c 0 0 rfl rfl,
    defAt_of X G c 1 1 rfl rfl,
    defAt_of X G c 2 2 rfl rfl,
    defAt_of X G c 3 3 rfl rfl,
    defAt_of X G c 4 4 rfl rfl,
    defAt_of X G c 5 5 rfl rfl,
    defAt_of X G c 6 6 rfl rfl,
    defAt_of X G c 7 7 rfl rfl,
    defAt_of X G c 8 8 rfl rfl,
    defAt_of X G c 9 9 rfl rfl,
    defAt_of X G c 10 10 rfl rfl,
    defAt_of X G c 11 11 rfl rfl,
    defAt_of X G c 12 12 rfl rfl,
    defAt_of X G c 13 13 rfl rfl,
    defAt_of X G c 14 14 rfl rfl,
    defAt_of X G c 15 15 rfl rfl,
    defAt_of X G c 16 16 rfl rfl,
    defAt_of X G c 17 17 rfl rfl,
    defAt_of X G c 18 18 rfl rfl,
    defAt_of X G c 19 19 rfl rfl,
    defAt_of X G c 20 20 rfl rfl,
    defAt_of X G c 21 21 rfl rfl,
    defAt_of X G c 22 22 rfl rfl,
    defAt_of X G c 23 23 rfl rfl,
    defAt_of X G c 24 24 rfl rfl,
    defAt_of X G c 25 25 rfl rfl,
    defAt_of X G c 26 26 rfl rfl,
    defAt_of X G c 27 27 rfl rfl,
    defAt_of X G c 28 28 rfl rfl,
    defAt_of X G c 29 29 rfl rfl,
    defAt_of X G c 30 30 rfl rfl,
    defAt_of X G c 31 31 rfl rfl,
    defAt_of X G c 32 32 rfl rfl,
    defAt_of X G c 33 33 rfl rfl,
    defAt_of X G c 34 34 rfl rfl,
    defAt_of X G c 35 35 rfl rfl,
    defAt_of X G c 36 36 rfl rfl⟩
end
end Tk
set_option maxHeartbeats 0
namespace Tk
open PySem PySem.Spec PyProof.Rows L2
abbrev RR : PySem.W.OpenRow := PySem.W.OpenLaw.row PySem.Challenge.rw_tellerhabits_k26_whole_chances_behind_sa
def ob (s : PySem.W.SharedT) : AlP := obP (HandSHeadRun.getT s)
theorem ob_eq (s : PySem.W.SharedT) : ob s = (hookP).obs s.abs := obP_eq (HandSHeadRun.getT_eq s)
theorem run (w : World) : HandSHeadRun.RunEq RR (PySem.W.view RR.prog [66]) (hookP) ob 7000 loose w := by
  intro os
  kernel_rfl
end Tk
 
set_option maxHeartbeats 4000000
namespace Tk
open PySem PySem.Spec PyProof.Rows L2
/-! ### the law called at the top, one table, no guard on the stack -/
/-- what is tracked when the law is called: the table, and the script unless it is written in K -/
def H0 (K : PySem.W.Frag) (tb a : Addr) (vs : List Value) (ns : List Int) : Hp := fun b =>
  if b = tb then some (.tbl #[]) else if b = a then (match K.lookup a with
    | some _ => none
    | none => some (.frz { cls := .type "list", data := .seq vs.toArray } (.lst (ns.map V.int)))) else none
section
variable {P : Program} {w : World} {K : PySem.W.Frag} {mg mb : Str → Option Value} {fa a c tb : Addr} {fd : FuncData} {s₁ : Shared} {vs : List Value} {ns : List Int}
theorem h0_tb : H0 K tb a vs ns tb = some (.tbl #[]) := if_pos rfl
theorem h0_ne (h1 : tb ≠ a) : ∀ b, H0 K tb a vs ns b ≠ none → b = tb ∨ (b = a ∧ K.lookup a = none ∧ H0 K tb a vs ns b = some (.frz { cls := .type "list", data := .seq vs.toArray } (.lst (ns.map V.int)))) := fun b h => by
  by_cases e : b = tb
  · exact .inl e
  · by_cases e2 : b = a
    · subst e2
      unfold H0 at h ⊢
      rw [if_neg e, if_pos rfl] at h ⊢
      cases q : K.lookup b with
      | none => exact .inr ⟨rfl, rfl, rfl⟩
      | some o =>
        rw [q] at h
        exact absurd rfl h
    · unfold H0 at h
      rw [if_neg e, if_neg e2] at h
      exact absurd rfl h
theorem law_end (KX : K.In s₁.heap) (hns : s₁.heap.Ns mainGlobals mg) (hb : s₁.heap.Ns builtinsNs mb) (hbb : ∀ x : Str, x ≠ "__name__" → mb x = bootBuiltins x) (hlim : s₁.heap.NoLimit) (hg : s₁.gens = #[])
    (hT : s₁.heap.get? tb = some { cls := .none, data := .fields #[] }) (nT : K.lookup tb = none) (C : PySem.W.CodeHd s₁.heap c tb)
    (hbm : ∃ (bm : Addr) (ob : Obj), mg "__builtins__" = some (.ref bm) ∧ bm ≠ builtinsNs ∧ s₁.heap.get? bm = some ob ∧ ob.cls = .type "module" ∧ ob.dict = some builtinsNs ∧ ob.data = .plain)
    (ha : s₁.heap.get? a = some { cls := .type "list", data := .seq vs.toArray }) (hi : IntsAre vs ns) (h63 : ns.length ≤ 63) (hr : Room 10 callerA)
    (F : ∀ base : Heap, K.In base → base.Ns mainGlobals mg → LamX.TabB base mg c tb → RunG P w K mg base 10 fa fd ["_law_script"] (spLaw K tb)) (hbind : ∀ (s : Shared) (u : Value), BindsTo s fd ⟨[u], []⟩ [("_law_script", u)]) :
    codeAny (model P w) callerA (.call (.ref fa) ⟨[.ref a], []⟩) (fun r s' => r = .ok (.ret (.bool true)) ∧ OldK s₁.heap s'.heap ∧ s'.os = s₁.os ∧ AllBare s'.gens) s₁ := by
  have rv := vals_ints hi
  have lv := hi.length
  have l1 : ns.length ≤ sizeLine := Nat.le_trans h63 (by decide)
  have ta : tb ≠ a := fun z => by
    rw [z, ha] at hT
    have q : Data.seq vs.toArray _ = Data.fields #[] := congrArg Obj.data (Option.some.inj hT)
    cases q
  obtain ⟨H, hH⟩ : ∃ H, H = H0 K tb a vs ns := ⟨_, rfl⟩
  have eT : H tb = some (.tbl #[]) := by rw [hH]; exact h0_tb
  have cases_ : ∀ b, H b ≠ none → b = tb ∨ (b = a ∧ K.lookup a = none ∧ H b = some (.frz { cls := .type "list", data := .seq vs.toArray } (.lst (ns.map V.int)))) := by rw [hH]; exact h0_ne ta
  -- what is neither a list nor an empty table is not tracked
  have free_ : ∀ {b : Addr} {o : Obj}, s₁.heap.get? b = some o → (∀ x n, o.data ≠ .seq x n) → o.data ≠ .fields #[] → H b = none := fun {b o} e n1 n2 => Classical.byContradiction fun q => by
    rcases cases_ b q with z | ⟨z, _, _⟩
    · rw [z, hT] at e
      exact n2 (by rw [← Option.some.inj e])
    · rw [z, ha] at e
      exact n1 _ _ (by rw [← Option.some.inj e])
  have Kfree : ∀ {b : Addr} {o : Obj}, K.lookup b = some o → H b = none := fun {b o} e => Classical.byContradiction fun q => by
    rcases cases_ b q with z | ⟨z, k, _⟩
    · rw [z, nT] at e
      cases e
    · rw [z, k] at e
      cases e
  have toB : ∀ {b : Addr} {o : Obj}, s₁.heap.get? b = some o → H b = none → (hidT s₁.heap H).get? b = some o := fun e n => hidT_get e n
  have nsB : ∀ {b : Addr} {m : Str → Option Value}, s₁.heap.Ns b m → (hidT s₁.heap H).Ns b m := fun {b m} ⟨o, es, ep, e, d, r⟩ =>
    ⟨o, es, ep, toB e (free_ e (fun x n z => by rw [d] at z; cases z) (fun z => by rw [d] at z; cases z)), d, r⟩
  have KB : K.In (hidT s₁.heap H) := fun b o e => toB (KX b o e) (Kfree e)
  have hM : L2.Mod K mg (hidT s₁.heap H) := ⟨KB, nsB hns, ⟨mb, nsB hb, hbb⟩, by
    obtain ⟨mc, h1, h2⟩ := hlim
    exact ⟨mc, nsB h1, h2⟩⟩
  have gT : mainGlobals ≠ tb := fun z => by
    obtain ⟨o, es, ep, e, d, _⟩ := hns
    rw [z, hT] at e
    rw [← Option.some.inj e] at d
    cases d
  have TB : LamX.TabB (hidT s₁.heap H) mg c tb := by
    refine ⟨?_, ?_, gT⟩
    · obtain ⟨o, us, file, tf, flags, tg, inF, text, tt, e1, e2, e3, e4, r⟩ := C
      refine ⟨o, us, file, tf, flags, tg, inF, text, tt, toB e1 (free_ e1 (fun x n z => by rw [e3] at z; cases z) fun z => ?_), e2, e3, e4, r⟩
      rw [e3] at z
      cases z
      simp at e4
    · obtain ⟨bm, ob, b1, b2, b3, b4, b5, b6⟩ := hbm
      refine ⟨bm, ob, b1, b2, fun z => ?_, fun z => ?_, toB b3 (free_ b3 (fun x n z => by rw [b6] at z; cases z) (fun z => by rw [b6] at z; cases z)), b4, b5, b6⟩
      · obtain ⟨o, es, ep, e, d, _⟩ := hns
        rw [z, e] at b3
        rw [← Option.some.inj b3, d] at b6
        cases b6
      · rw [z, hT] at b3
        rw [← Option.some.inj b3] at b6
        cases b6
  have hok : HOk P w H s₁.heap := fun b u e => by
    rcases cases_ b (by rw [e]; exact nofun) with z | ⟨z, _, z2⟩
    · rw [z, eT] at e
      rw [z, ← Option.some.inj e]
      exact hT
    · rw [z2] at e
      rw [← Option.some.inj e, z]
      exact ⟨ha, by rw [List.length_map]; exact l1, vs, _, rv, ha⟩
  have hS : IL K H a ns := by
    cases k : K.lookup a with
    | some o =>
      have e := KX a o k
      rw [ha] at e
      rw [← Option.some.inj e] at k
      exact .inr ⟨_, vs.toArray, _, k, rfl, rfl, rfl, by rw [List.size_toArray, lv]; exact l1, by simpa using rv⟩
    | none =>
      refine .inl (.inr ⟨{ cls := .type "list", data := .seq vs.toArray }, ?_⟩)
      rw [hH]
      unfold H0
      rw [if_neg (Ne.symm ta), if_pos rfl, k]
  have hTabs : LamX.Tabs [(tb, qL)] H := fun p hp => by
    rw [List.mem_singleton.mp hp]
    exact LamX.TabS.nil eT
  have e0 : Env0 P w K mg (hidT s₁.heap H) callerA [] s₁ H := ⟨rfl, hM, fun b o e => of_hidT e, Nat.le_of_eq (hidT_size _ _), trivial, fun b z => (nomatch (show b ∈ ([] : List Addr) from z)), hok, .of_eq hg⟩
  refine codeAny_mono (F _ KB (nsB hns) TB callerA [] s₁ H ⟨[.ref a], []⟩ [.ref a] [.ref a] (fun v _ => v = .bl true) hr rfl e0 (hbind s₁ (.ref a)) (.cons rfl .nil) ⟨a, ns, rfl, hS, h63, hTabs, fun _ => rfl⟩) fun r s' q => ?_
  cases r with
  | error e => exact (show False from q).elim
  | ok fl =>
    cases fl with
    | next => exact False.elim q
    | brk => exact False.elim q
    | cont => exact False.elim q
    | ret u =>
      obtain ⟨v, H', os, bare, un, hok', r', rfl⟩ := q
      obtain rfl : u = Value.bool true := r'
      have kept : ∀ b o, b ≠ tb → s₁.heap.get? b = some o → s'.heap.get? b = some o := fun b o n e => by
        by_cases z : H b = none
        · exact un.keep b o e z (fun q => (nomatch (show b ∈ ([] : List Addr) from q))) (fun q => (nomatch q))
        · rcases cases_ b z with z1 | ⟨_, _, z3⟩
          · exact absurd z1 n
          · have f1 := (show ObjOk P w H s₁.heap b (.frz _ _) from hok b _ z3).1
            have f2 := (show ObjOk P w H' s'.heap b (.frz _ _) from hok' b _ (un.frzs b _ _ z3)).1
            rw [e] at f1
            rw [f2, ← Option.some.inj f1]
      obtain ⟨more, hm⟩ := un.tbls tb #[] eT
      have grown : s'.heap.get? tb = some { cls := .none, data := .fields (#[] ++ more) } := hok' tb _ hm
      refine ⟨rfl, ⟨fun b o e => ?_, fun b o e => ?_⟩, os, bare⟩
      · by_cases n : b = tb
        · subst n
          rw [hT] at e
          cases e
          exact .inr (.inl ⟨(C.tab hT).isCodeTable, rfl, #[], more, rfl, grown⟩)
        · exact .inl (kept b o n e)
      · by_cases n : b = tb
        · rw [n]
          exact ⟨_, grown⟩
        · exact ⟨o, kept b o n e⟩
end
end Tk
set_option maxHeartbeats 4000000
namespace Tk
open PySem PySem.Spec PyProof.Rows L2
theorem rc_of {K : PySem.W.Frag} {mg : Str → Option Value} {h : Heap} {w : World} (X : K.In h) (G : h.Ns mainGlobals mg) (c : He.SaysD fa fn K) : RC K mg (He.cT K ("_law_right", none)).1 := by
  intro f fd hm F
  have e := hm.symm.trans (He.glo_ok X G (c.fact 35 (f := .glo "_law_right") rfl))
  obtain rfl : f = He.ga K "_law_right" := Value.ref.inj (Option.some.inj e)
  obtain ⟨oc, od, dV, kV, doc, pm, an, cdv, ct, osl, rfl, lk, hcd, _, _⟩ := F.ex
  obtain ⟨c0, rfl⟩ := He.codeIn_ref hcd
  have q := He.codeOf_eq (K := K) (p := ("_law_right", none)) (c := c0) lk rfl
  show Value.ref c0 = Value.ref (He.codeOf K ("_law_right", none))
  rw [q]
abbrev RW : PySem.W.OpenLaw := PySem.Challenge.rw_tellerhabits_k26_whole_chances_behind_sa
theorem walk {q : Program} {lo : List Str} {XP : (Str → Option Value) → Heap → Prop} {d : DefRec} (hd : d.params.defaults = []) (hn : d.name = ("law" : Str)) : PySem.W.WalkO q lo XP (hookP).says RW.row.toRowW d [] (fun f vs => PySem.call f vs) := by
  refine Att.attach_callB (l := RW) (n := 63) rfl hd fun w s₀ s₁ mg mb fa o pm cd doc a vs ns G Y ho hd hcd hmg hobj hints hlen hbits hg => ?_
  obtain ⟨K, KX, C, hgs⟩ := Y
  have D := dat_of KX G.T.g C hgs
  have rc := rc_of (w := w) KX G.T.g C.t.d
  obtain ⟨f, fd, hm, F⟩ := D.law
  rw [hn] at hmg
  obtain rfl : f = fa := Value.ref.inj (Option.some.inj (hm.symm.trans hmg))
  have hp : (("_law_right", none) : He.Defn) ∈ tf := List.mem_singleton.mpr rfl
  exact law_end KX G.T.g G.T.b G.T.builtins G.T.nolimit hg (C.empty _ hp) (C.out _ hp) (PySem.W.codeHd_of_K KX (C.hd _ hp)) G.T.bmain hobj hints hlen ⟨rfl, by decide, by decide⟩
    (fun base _ _ TB => run_law (base := base) D TB rc F) (fun s u => FunD.bindsA (ps := ["_law_script"]) F (fun _ _ _ _ _ _ us hl => match us, hl with | [_], _ => rfl) s [u] rfl)
end Tk
set_option maxHeartbeats 0
open PySem PySem.W PySem.Calls PyProof.Rows
theorem PySem.Challenge.cw_tellerhabits_k26_whole_chances_behind_sa_holds : PySem.Challenge.rw_tellerhabits_k26_whole_chances_behind_sa.Holds := by
  w_on; o_law
  refine HandSHeadRun.head_any (r := OpenLaw.row PySem.Challenge.rw_tellerhabits_k26_whole_chances_behind_sa) (q := view (OpenLaw.row PySem.Challenge.rw_tellerhabits_k26_whole_chances_behind_sa).prog [66]) (H := Tk.hookP) (ob := Tk.ob) (M := 7000) (loose := Tk.loose)
    (d := HandSHeadRun.topDef (OpenLaw.row PySem.Challenge.rw_tellerhabits_k26_whole_chances_behind_sa).prog 66) (kwd := []) Tk.ob_eq
    (by kernel_rfl) (fun s => by kernel_rfl) Tk.run (by kernel_rfl) (by kernel_rfl) (by kernel_rfl) (by rfl) (by first | assumption | decide +kernel) (by decide +kernel) ⟨rfl, rfl, rfl, rfl, rfl, by decide +kernel⟩ ?hw ?hc
  case hw => w_witness2
  case hc => exact Tk.walk (by kernel_rfl) (by kernel_rfl)
 
