import PyProof.Rows.All
import Sd23Spec
import Wide.All
import OpenK.AllK
import Wide.FinOn
import PyProof.EqAt
import PyProof.EqKinds
import PyProof.TupleCall
import Open.SpecLaws
import KE.OsGo
import HandS.ForSpec
import HandS.Dict
import HandS.DictTup
import HandS.Comp
import HandS.Iter
import HandS.More
import HandS.TupLe
import HandS.TupAny
import HandS.SortOrd
import HandS.SortRule
import HandS.Wide
import PySem.Challenge.RW_askeddevice_s01_answers
import HandS.ExcField
import HandS.ExcSuper
import HandS.ExcInit
import KE.KEqDeep
import KE.KSortTupAny
import HandS.WordsDict
import PySd23
/-! ## AdA -/
set_option Elab.async false
namespace Ad
open Sd23
/-! ### whole numbers -/
def isWhole : List Nat → Bool
  | [] => false
  | [_] => true
  | x :: y :: _ => !((x == 0 && decide (y < 128)) || (x == 255 && decide (128 ≤ y)))
def natOf (b : List Nat) : Nat := b.foldl (fun n c => 256 * n + c) 0
def wholeOf (b : List Nat) : Int := if 128 ≤ b.headD 0 then (natOf b : Int) - 256 ^ b.length else (natOf b : Int)
theorem foldl_cast : ∀ (b : List Nat) (n : Nat), b.foldl (fun (n : Int) (c : Nat) => 256 * n + (c : Int)) (n : Int) = ((b.foldl (fun n c => 256 * n + c) n : Nat) : Int)
  | [], _ => rfl
  | c :: r, n => by
    have e : (256 * (n : Int) + (c : Int)) = ((256 * n + c : Nat) : Int) := by omega
    rw [List.foldl_cons, List.foldl_cons, e]
    exact foldl_cast r _
theorem intOf_eq (most : Nat) (b : List Nat) : intOf most b = if isWhole b = true ∧ b.length ≤ most then some (wholeOf b) else none := by
  have hf : b.foldl (fun (n : Int) (c : Nat) => 256 * n + (c : Int)) 0 = (natOf b : Int) := foldl_cast b 0
  unfold intOf
  rw [hf]
  match b with
  | [] => simp [isWhole]
  | [x] =>
    by_cases h : 1 ≤ most
    · have h' : ¬ most < 1 := by omega
      simp [isWhole, wholeOf, h, h']
    · have h' : most < 1 := by omega
      simp [isWhole, h, h']
  | x :: y :: r =>
    by_cases h : (x :: y :: r).length ≤ most
    · have h' : ¬ most < (x :: y :: r).length := by omega
      by_cases g : (x = 0 ∧ y < 128) ∨ (x = 255 ∧ 128 ≤ y)
      · have g' : isWhole (x :: y :: r) = false := by
          rcases g with ⟨g1, g2⟩ | ⟨g1, g2⟩ <;> simp [isWhole, g1, g2]
        rw [if_pos (Or.inr (Or.inr ⟨by simp, by simpa using g⟩)), if_neg (by rw [g']; simp)]
      · have g' : isWhole (x :: y :: r) = true := by
          simp only [isWhole, Bool.not_eq_true', Bool.or_eq_false_iff, Bool.and_eq_false_iff, beq_eq_false_iff_ne, decide_eq_false_iff_not]
          omega
        have hn : ¬ (x :: y :: r = [] ∨ most < (x :: y :: r).length ∨ (1 < (x :: y :: r).length ∧ (((x :: y :: r).headD 0 = 0 ∧ (x :: y :: r).getD 1 0 < 128) ∨ ((x :: y :: r).headD 0 = 255 ∧ 128 ≤ (x :: y :: r).getD 1 0)))) := by
          rintro (q | q | ⟨_, q⟩)
          · cases q
          · exact h' q
          · exact g (by simpa using q)
        rw [if_neg hn, if_pos (show isWhole (x :: y :: r) = true ∧ (x :: y :: r).length ≤ most from ⟨g', h⟩)]
        rfl
    · have h' : most < (x :: y :: r).length := by omega
      rw [if_pos (Or.inr (Or.inl h')), if_neg (fun q => h q.2)]
/-! ### bounds of whole numbers -/
def AllB (b : List Nat) : Prop := ∀ x ∈ b, x < 256
theorem natOf_snocAux : ∀ (b : List Nat) (n : Nat), b.foldl (fun n c => 256 * n + c) n = 256 ^ b.length * n + natOf b
  | [], n => by simp [natOf]
  | c :: r, n => by
    have h1 := natOf_snocAux r (256 * n + c)
    have h2 := natOf_snocAux r c
    have e : natOf (c :: r) = 256 ^ r.length * c + natOf r := by
      show r.foldl _ (256 * 0 + c) = _
      rw [Nat.mul_zero, Nat.zero_add, h2]
    rw [List.foldl_cons, h1, e, List.length_cons, Nat.pow_succ, Nat.mul_add]
    have : 256 ^ r.length * (256 * n) = 256 ^ r.length * 256 * n := by rw [Nat.mul_assoc]
    omega
theorem natOf_cons (c : Nat) (r : List Nat) : natOf (c :: r) = 256 ^ r.length * c + natOf r := by
  show r.foldl _ (256 * 0 + c) = _
  rw [Nat.mul_zero, Nat.zero_add, natOf_snocAux]
theorem natOf_lt : ∀ {b : List Nat}, AllB b → natOf b < 256 ^ b.length
  | [], _ => by simp [natOf]
  | c :: r, h => by
    have h1 := natOf_lt (b := r) fun x m => h x (List.mem_cons_of_mem _ m)
    have h2 := h c List.mem_cons_self
    rw [natOf_cons, List.length_cons, Nat.pow_succ]
    have : 256 ^ r.length * c ≤ 256 ^ r.length * 255 := Nat.mul_le_mul_left _ (by omega)
    omega
/-- a whole number of ten bytes or more, in as few bytes as can be, is not from 0 to 2^64 -/
theorem whole_long {b : List Nat} (hb : AllB b) (hw : isWhole b = true) (hl : 9 < b.length) : ¬ (0 ≤ wholeOf b ∧ wholeOf b < 2 ^ 64) := by
  match b with
  | [] => simp at hl
  | [_] => simp at hl
  | x :: y :: r =>
    have hx := hb x (by simp)
    have hy := hb y (by simp)
    have hr : natOf r < 256 ^ r.length := natOf_lt fun z m => hb z (by simp [m])
    have hn : natOf (x :: y :: r) = 256 ^ (r.length + 1) * x + (256 ^ r.length * y + natOf r) := by rw [natOf_cons, natOf_cons]; rfl
    have h8 : 8 ≤ r.length := by simp at hl; omega
    have hp : 2 ^ 64 ≤ 256 ^ r.length := by
      have : (256 : Nat) ^ 8 ≤ 256 ^ r.length := Nat.pow_le_pow_right (by decide) h8
      exact Nat.le_trans (by decide) this
    have hs : 256 ^ (r.length + 1) = 256 ^ r.length * 256 := Nat.pow_succ ..
    have hlen : (x :: y :: r).length = r.length + 2 := rfl
    simp only [isWhole, Bool.not_eq_true', Bool.or_eq_false_iff, Bool.and_eq_false_iff, beq_eq_false_iff_ne, decide_eq_false_iff_not] at hw
    unfold wholeOf
    rw [List.headD_cons]
    rintro ⟨h0, h1⟩
    by_cases c : 128 ≤ x
    · rw [if_pos c] at h0
      have hlt : natOf (x :: y :: r) < 256 ^ (x :: y :: r).length := natOf_lt hb
      have : (natOf (x :: y :: r) : Int) < ((256 ^ (x :: y :: r).length : Nat) : Int) := by exact_mod_cast hlt
      rw [Int.natCast_pow] at this
      have e : ((256 : Nat) : Int) = 256 := rfl
      rw [e] at this
      omega
    · rw [if_neg c] at h1
      have h1' : natOf (x :: y :: r) < 2 ^ 64 := by exact_mod_cast h1
      rw [hn, hs] at h1'
      by_cases x0 : x = 0
      · have hy' : 128 ≤ y := by
          rcases hw.1 with q | q <;> omega
        have : 256 ^ r.length * 128 ≤ 256 ^ r.length * y := Nat.mul_le_mul_left _ hy'
        omega
      · have : 256 ^ r.length * 256 * 1 ≤ 256 ^ r.length * 256 * x := Nat.mul_le_mul_left _ (by omega)
        omega
/-! ### values -/
def isWord (k : Int) : Bool := k == 65 || (k == 66 || k == 67)
def isValue (k : Int) (b : List Nat) : Bool :=
  if k = 2 then decide (b.length ≤ 4) && isWhole b
  else if k = 4 then true
  else if k = 6 then (nameOf b).isSome
  else if k = 64 then b.length == 4
  else if k = 65 ∨ k = 66 ∨ k = 67 then isWhole b && (decide (0 ≤ wholeOf b) && decide (wholeOf b < 4294967296))
  else if k = 70 then isWhole b && (decide (0 ≤ wholeOf b) && decide (wholeOf b < 18446744073709551616))
  else k == 5 && b.length == 0
theorem unsigned_eq {bits : Nat} (hbits : bits ≤ 64) {b : List Nat} (hb : AllB b) : unsigned bits b = (isWhole b && (decide (0 ≤ wholeOf b) && decide (wholeOf b < 2 ^ bits))) := by
  unfold unsigned
  rw [intOf_eq]
  by_cases hw : isWhole b = true
  · by_cases hl : b.length ≤ 9
    · rw [if_pos ⟨hw, hl⟩, hw]
      simp [Bool.decide_and]
    · rw [if_neg (fun q => hl q.2), hw]
      have h := whole_long hb hw (by omega)
      have hp : (2 : Int) ^ bits ≤ 2 ^ 64 := by
        have : (2 : Nat) ^ bits ≤ 2 ^ 64 := Nat.pow_le_pow_right (by decide) hbits
        exact_mod_cast this
      have : ¬ (0 ≤ wholeOf b ∧ wholeOf b < 2 ^ bits) := fun q => h ⟨q.1, Int.lt_of_lt_of_le q.2 hp⟩
      symm
      rw [Bool.true_and, Bool.and_eq_false_iff]
      by_cases h0 : 0 ≤ wholeOf b
      · exact .inr (decide_eq_false fun q => this ⟨h0, q⟩)
      · exact .inl (decide_eq_false h0)
  · have hw' : isWhole b = false := by simpa using hw
    rw [if_neg (fun q => hw q.1), hw']
    rfl
theorem isValue_fits {k : Nat} {b : List Nat} (hb : AllB b) : isValue (k : Int) b = fits ⟨k, b⟩ := by
  have c : ∀ n : Nat, ((k : Int) = (n : Int)) = (k = n) := fun n => propext (by omega)
  have c2 : ((k : Int) = 2) = (k = 2) := c 2
  have c4 : ((k : Int) = 4) = (k = 4) := c 4
  have c6 : ((k : Int) = 6) = (k = 6) := c 6
  have c64 : ((k : Int) = 64) = (k = 64) := c 64
  have c65 : ((k : Int) = 65) = (k = 65) := c 65
  have c66 : ((k : Int) = 66) = (k = 66) := c 66
  have c67 : ((k : Int) = 67) = (k = 67) := c 67
  have c70 : ((k : Int) = 70) = (k = 70) := c 70
  have c5 : ((k : Int) = 5) = (k = 5) := c 5
  have u32 := unsigned_eq (bits := 32) (by decide) hb
  have u64 := unsigned_eq (bits := 64) (by decide) hb
  have e32 : (2 : Int) ^ 32 = 4294967296 := by decide
  have e64 : (2 : Int) ^ 64 = 18446744073709551616 := by decide
  rw [e32] at u32
  rw [e64] at u64
  unfold isValue fits
  dsimp only
  rw [← u32, ← u64]
  by_cases h2 : k = 2
  · rw [if_pos (c2.mpr h2), if_pos h2, intOf_eq]
    by_cases h : isWhole b = true ∧ b.length ≤ 4
    · rw [if_pos h]; simp [h]
    · rw [if_neg h]
      by_cases hl : b.length ≤ 4
      · have : isWhole b = false := by
          cases e : isWhole b
          · rfl
          · exact absurd ⟨e, hl⟩ h
        simp [this]
      · simp [hl]
  rw [if_neg (fun q => h2 (c2.mp q)), if_neg h2]
  by_cases h4 : k = 4
  · rw [if_pos (c4.mpr h4), if_pos h4]
  rw [if_neg (fun q => h4 (c4.mp q)), if_neg h4]
  by_cases h6 : k = 6
  · subst h6
    rfl
  rw [if_neg (fun q => h6 (c6.mp q))]
  by_cases h64 : k = 64
  · subst h64
    rfl
  rw [if_neg (fun q => h64 (c64.mp q))]
  by_cases h5 : k = 5
  · subst h5
    show ((5 : Int) == 5 && b.length == 0) = b.isEmpty
    cases b <;> rfl
  rw [if_neg h5, if_neg h6, if_neg h64]
  by_cases hw : k = 65 ∨ k = 66 ∨ k = 67
  · rw [if_pos (show (k : Int) = 65 ∨ (k : Int) = 66 ∨ (k : Int) = 67 by omega), if_pos hw]
  rw [if_neg (show ¬ ((k : Int) = 65 ∨ (k : Int) = 66 ∨ (k : Int) = 67) by omega), if_neg hw]
  by_cases h70 : k = 70
  · rw [if_pos (c70.mpr h70), if_pos h70]
  rw [if_neg (fun q => h70 (c70.mp q)), if_neg h70]
  have : ((k : Int) == 5) = false := beq_eq_false_iff_ne.mpr fun q => h5 (c5.mp q)
  rw [this]
  rfl
theorem isValue_neg {k : Int} {b : List Nat} (h : k < 0) : isValue k b = false := by
  unfold isValue
  rw [if_neg (show ¬ k = 2 by omega), if_neg (show ¬ k = 4 by omega), if_neg (show ¬ k = 6 by omega), if_neg (show ¬ k = 64 by omega), if_neg (show ¬ (k = 65 ∨ k = 66 ∨ k = 67) by omega), if_neg (show ¬ k = 70 by omega)]
  have : (k == 5) = false := by simp; omega
  rw [this]
  rfl
/-- of a kind: as add asks it -/
theorem addable {k : Int} {b : List Nat} (hb : AllB b) : (!(k == 5) && isValue k b) = (kinds.contains (if k < 0 then 0 else k.toNat) && fits ⟨if k < 0 then 0 else k.toNat, b⟩) := by
  by_cases hk : k < 0
  · rw [if_pos hk, isValue_neg hk]
    simp [kinds]
  · rw [if_neg hk]
    obtain ⟨n, rfl⟩ : ∃ n : Nat, k = (n : Int) := ⟨k.toNat, by omega⟩
    rw [isValue_fits hb, Int.toNat_natCast]
    by_cases h5 : n = 5
    · subst h5; simp [kinds]
    · have e : ((n : Int) == 5) = false := by simp; omega
      rw [e]
      cases hf : fits ⟨n, b⟩ with
      | false => simp
      | true =>
        have : kinds.contains n = true := by
          unfold fits at hf
          dsimp only at hf
          simp only [kinds]
          by_cases h2 : n = 2
          · simp [h2]
          by_cases h4 : n = 4
          · simp [h4]
          by_cases h6 : n = 6
          · simp [h6]
          by_cases h64 : n = 64
          · simp [h64]
          by_cases h65 : n = 65
          · simp [h65]
          by_cases h66 : n = 66
          · simp [h66]
          by_cases h67 : n = 67
          · simp [h67]
          by_cases h70 : n = 70
          · simp [h70]
          rw [if_neg h2, if_neg h4, if_neg h5, if_neg h6, if_neg h64, if_neg (by omega), if_neg h70] at hf
          cases hf
        rw [this]
        rfl
end Ad

/-! ## AdB -/
set_option Elab.async false
namespace Ad
open Sd23
/-! ### names: the numbers that bytes tell -/
/-- what is still told: the number so far, whether it is begun -/
def ps : List Nat → Nat → Bool → Option (List Nat)
  | [], _, g => if g = true then none else some []
  | c :: r, n, g => if g = false ∧ c = 128 then none else if 128 ≤ c then ps r (128 * n + c % 128) true else (ps r 0 false).map fun l => (128 * n + c % 128) :: l
def partsOf (b : List Nat) : Option (List Nat) := match ps b 0 false with
  | some (x :: l) => some (x :: l)
  | _ => none
def nameFrom (x : Nat) (l : List Nat) : List Nat := min (x / 40) 2 :: (x - 40 * min (x / 40) 2) :: l
def nameOf' (b : List Nat) : Option (List Nat) := match partsOf b with
  | some (x :: l) => if good (nameFrom x l) = true then some (nameFrom x l) else none
  | _ => none
theorem ps_begun : ∀ {b : List Nat} {n : Nat} {l : List Nat}, ps b n true = some l → ∃ x r, l = x :: r ∧ n ≤ x
  | [], n, l, h => by simp [ps] at h
  | c :: r, n, l, h => by
    unfold ps at h
    rw [if_neg (show ¬ (true = false ∧ c = 128) from fun q => Bool.noConfusion q.1)] at h
    by_cases hc : 128 ≤ c
    · rw [if_pos hc] at h
      obtain ⟨x, t, e, hx⟩ := ps_begun h
      exact ⟨x, t, e, by omega⟩
    · rw [if_neg hc] at h
      cases e : ps r 0 false with
      | none => rw [e] at h; cases h
      | some t =>
        rw [e] at h
        have : l = (128 * n + c % 128) :: t := (Option.some.inj h).symm
        exact ⟨_, t, this, by omega⟩
theorem subs_cons (n k c : Nat) (r : List Nat) : subs n (k + 1) (c :: r) = if n = 0 ∧ c = 128 then none else
    if 2 ^ 32 + 80 ≤ 128 * n + c % 128 then none else if 128 ≤ c then (if 128 * n + c % 128 = 0 then none else subs (128 * n + c % 128) k r) else (subs 0 k r).map fun l => (128 * n + c % 128) :: l := by
  cases n <;> rfl
theorem ps_cons (c : Nat) (r : List Nat) (n : Nat) (g : Bool) : ps (c :: r) n g = if g = false ∧ c = 128 then none else if 128 ≤ c then ps r (128 * n + c % 128) true else (ps r 0 false).map fun l => (128 * n + c % 128) :: l := rfl
/-- the specification's reading is this one with a bound -/
theorem subs_ps : ∀ (b : List Nat) (n k : Nat) (g : Bool), (∀ x ∈ b, x < 256) → b.length < k → (g = true ↔ n ≠ 0) → n < 2 ^ 32 + 80 →
    subs n k b = (ps b n g).bind fun l => if l.all (fun v => decide (v < 2 ^ 32 + 80)) = true then some l else none
  | [], n, k + 1, g, _, _, hg, _ => by
    cases g with
    | true =>
      obtain ⟨m, rfl⟩ : ∃ m, n = m + 1 := ⟨n - 1, by have := hg.mp rfl; omega⟩
      simp [subs, ps]
    | false =>
      have : n = 0 := by
        apply Classical.byContradiction
        intro q
        have := hg.mpr q
        cases this
      subst this
      simp [subs, ps]
  | c :: r, n, k + 1, g, hb, hl, hg, hn => by
    have hc256 := hb c List.mem_cons_self
    have hbr : ∀ x ∈ r, x < 256 := fun x m => hb x (List.mem_cons_of_mem _ m)
    have hl' : r.length < k := by simp at hl; omega
    have hg0 : (g = false ∧ c = 128) ↔ (n = 0 ∧ c = 128) := by
      cases g with
      | true => have := hg.mp rfl; simp [this]
      | false =>
        have : n = 0 := by
          apply Classical.byContradiction
          intro q
          have := hg.mpr q
          cases this
        simp [this]
    rw [subs_cons, ps_cons]
    by_cases h1 : n = 0 ∧ c = 128
    · rw [if_pos h1, if_pos (hg0.mpr h1)]
      rfl
    rw [if_neg h1, if_neg (fun q => h1 (hg0.mp q))]
    by_cases h2 : 2 ^ 32 + 80 ≤ 128 * n + c % 128
    · rw [if_pos h2]
      by_cases hc : 128 ≤ c
      · rw [if_pos hc]
        cases e : ps r (128 * n + c % 128) true with
        | none => rfl
        | some l =>
          obtain ⟨x, t, rfl, hx⟩ := ps_begun e
          have : decide (x < 2 ^ 32 + 80) = false := decide_eq_false (by omega)
          simp only [Option.bind_some, List.all_cons, this, Bool.false_and, Bool.false_eq_true, if_false]
      · rw [if_neg hc]
        cases e : ps r 0 false with
        | none => rfl
        | some l =>
          have : decide (128 * n + c % 128 < 2 ^ 32 + 80) = false := decide_eq_false (by omega)
          simp only [Option.map_some, Option.bind_some, List.all_cons, this, Bool.false_and, Bool.false_eq_true, if_false]
    rw [if_neg h2]
    by_cases hc : 128 ≤ c
    · rw [if_pos hc, if_pos hc]
      have hne : 128 * n + c % 128 ≠ 0 := by
        intro q
        have hn0 : n = 0 := by omega
        have hc0 : c % 128 = 0 := by omega
        exact h1 ⟨hn0, by omega⟩
      rw [if_neg hne]
      exact subs_ps r _ k true hbr hl' ⟨fun _ => hne, fun _ => rfl⟩ (by omega)
    · rw [if_neg hc, if_neg hc]
      have ih := subs_ps r 0 k false hbr hl' (by simp) (by decide)
      rw [ih]
      cases e : ps r 0 false with
      | none => rfl
      | some l =>
        have : decide (128 * n + c % 128 < 2 ^ 32 + 80) = true := decide_eq_true (by omega)
        simp only [Option.map_some, Option.bind_some, List.all_cons, this, Bool.true_and]
        by_cases ha : (l.all fun v => decide (v < 2 ^ 32 + 80)) = true
        · rw [if_pos ha, if_pos ha]
          rfl
        · rw [if_neg ha, if_neg ha]
          rfl

theorem good_cons (x y : Nat) (l : List Nat) : good (x :: y :: l) = (decide (l.length ≤ 30) && ((decide (x < 2 ^ 32) && (decide (y < 2 ^ 32) && l.all fun v => decide (v < 2 ^ 32))) && (decide (x ≤ 2) && (decide (x = 2) || decide (y < 40))))) := by
  unfold good SUBS
  have e1 : decide (2 ≤ (x :: y :: l).length ∧ (x :: y :: l).length ≤ 32) = decide (l.length ≤ 30) := by
    apply decide_eq_decide.mpr
    simp only [List.length_cons]
    omega
  rw [e1]
  rfl
theorem nameOf_eq {b : List Nat} (hb : ∀ x ∈ b, x < 256) : nameOf b = nameOf' b := by
  unfold nameOf nameOf' partsOf
  have h := subs_ps b 0 (b.length + 1) false hb (by omega) (by simp) (by decide)
  rw [h]
  cases e : ps b 0 false with
  | none => rfl
  | some l =>
    match l with
    | [] => rfl
    | x :: r =>
      show (if ((x :: r).all fun v => decide (v < 2 ^ 32 + 80)) = true then some (x :: r) else none).bind _ = _
      have hmin : nameFrom x r = if x < 40 then 0 :: x :: r else if x < 80 then 1 :: (x - 40) :: r else 2 :: (x - 80) :: r := by
        unfold nameFrom
        by_cases h1 : x < 40
        · rw [if_pos h1, show x / 40 = 0 by omega]; rfl
        · rw [if_neg h1]
          by_cases h2 : x < 80
          · rw [if_pos h2, show x / 40 = 1 by omega]; rfl
          · rw [if_neg h2, show min (x / 40) 2 = 2 by omega]
      obtain ⟨f, y, ef, hf, hxy⟩ : ∃ f y, nameFrom x r = f :: y :: r ∧ (f ≤ 2 ∧ (f = 2 ∨ y < 40)) ∧ y ≤ x ∧ x ≤ y + 80 := by
        refine ⟨_, _, rfl, ⟨by omega, by omega⟩, by omega, by omega⟩
      have hg : (good (nameFrom x r) = true) ↔ ¬ (SUBS < (nameFrom x r).length ∨ ((nameFrom x r).any fun v => decide (2 ^ 32 ≤ v)) = true) := by
        rw [ef, good_cons]
        have : (decide (f ≤ 2) && (decide (f = 2) || decide (y < 40))) = true := by
          rcases hf with ⟨h1, h2⟩
          rw [decide_eq_true h1, Bool.true_and]
          rcases h2 with h2 | h2
          · rw [decide_eq_true h2]; rfl
          · rw [decide_eq_true h2, Bool.or_true]
        rw [this, Bool.and_true]
        simp only [Bool.and_eq_true, decide_eq_true_eq, List.all_eq_true, List.any_cons, Bool.or_eq_true, List.any_eq_true, SUBS, List.length_cons, not_or, not_exists, not_and]
        constructor
        · rintro ⟨h1, h2, h3, h4⟩
          exact ⟨by omega, by omega, by omega, fun v hv => by have := h4 v hv; omega⟩
        · rintro ⟨h1, h2, h3, h4⟩
          exact ⟨by omega, by omega, by omega, fun v hv => by have := h4 v hv; omega⟩
      show _ = (if good (nameFrom x r) = true then some (nameFrom x r) else none)
      by_cases ha : ((x :: r).all fun v => decide (v < 2 ^ 32 + 80)) = true
      · rw [if_pos ha]
        show (if SUBS < (if x < 40 then 0 :: x :: r else if x < 80 then 1 :: (x - 40) :: r else 2 :: (x - 80) :: r).length ∨ ((if x < 40 then 0 :: x :: r else if x < 80 then 1 :: (x - 40) :: r else 2 :: (x - 80) :: r).any fun v => decide (2 ^ 32 ≤ v)) = true then none else some (if x < 40 then 0 :: x :: r else if x < 80 then 1 :: (x - 40) :: r else 2 :: (x - 80) :: r)) = _
        rw [← hmin]
        by_cases hgd : good (nameFrom x r) = true
        · rw [if_pos hgd, if_neg (hg.mp hgd)]
        · rw [if_neg hgd, if_pos (Classical.byContradiction fun q => hgd (hg.mpr q))]
      · rw [if_neg ha]
        have : ¬ good (nameFrom x r) = true := by
          intro q
          apply ha
          rw [ef, good_cons] at q
          simp only [Bool.and_eq_true, decide_eq_true_eq, List.all_eq_true] at q
          obtain ⟨_, ⟨q2, q3, q4⟩, _⟩ := q
          simp only [List.all_cons, Bool.and_eq_true, decide_eq_true_eq, List.all_eq_true]
          exact ⟨by omega, fun v hv => by have := q4 v hv; omega⟩
        rw [if_neg this]
        rfl
theorem nameOf_good {b n : List Nat} (hb : ∀ x ∈ b, x < 256) (h : nameOf b = some n) : good n = true := by
  rw [nameOf_eq hb] at h
  unfold nameOf' at h
  split at h
  · split at h
    · rename_i hg
      rw [← Option.some.inj h]
      exact hg
    · cases h
  · cases h
/-! ### names as they are sent -/
def pbF (d h : Nat) : Nat → List Nat → List Nat
  | n, acc => if _h : n = 0 ∨ d ≤ 1 then acc else pbF d h (n / d) ((h + n % d) :: acc)
termination_by n => n
decreasing_by exact Nat.div_lt_self (by omega) (by omega)
theorem pbF_zero (d h : Nat) (acc : List Nat) : pbF d h 0 acc = acc := by rw [pbF, dif_pos (Or.inl rfl)]
theorem pbF_pos {d h n : Nat} (hd : 1 < d) (hn : 0 < n) (acc : List Nat) : pbF d h n acc = pbF d h (n / d) ((h + n % d) :: acc) := by
  rw [pbF, dif_neg (by omega)]
def partBytes (n : Nat) : List Nat := pbF 128 128 (n / 128) [n % 128]
theorem pbF_seven : ∀ (k m : Nat) (acc : List Nat), m < 128 ^ k → pbF 128 128 m acc = (if m = 0 then [] else (seven k m).map fun c => c % 128 + 128) ++ acc
  | 0, m, acc, h => by
    have : m = 0 := by simpa using h
    subst this
    rw [pbF_zero, if_pos rfl]
    rfl
  | k + 1, m, acc, h => by
    by_cases hm : m = 0
    · subst hm
      rw [pbF_zero, if_pos rfl]
      rfl
    · rw [if_neg hm, pbF_pos (by decide) (by omega)]
      have hk : m / 128 < 128 ^ k := by
        rw [Nat.div_lt_iff_lt_mul (by decide)]
        rw [Nat.pow_succ] at h
        exact h
      rw [pbF_seven k (m / 128) _ hk]
      have e : seven (k + 1) m = (if m / 128 = 0 then [] else (seven k (m / 128)).map fun c => c % 128 + 128) ++ [m % 128] := rfl
      rw [e, List.map_append, List.append_assoc]
      have e2 : ([m % 128].map fun c => c % 128 + 128) ++ acc = (128 + m % 128) :: acc := by
        show (m % 128 % 128 + 128) :: acc = _
        rw [Nat.mod_mod, Nat.add_comm]
      rw [e2]
      congr 1
      split
      · rfl
      · rw [List.map_map]
        refine List.map_congr_left fun c _ => ?_
        show c % 128 + 128 = (c % 128 + 128) % 128 + 128
        omega
theorem partBytes_eq {n : Nat} (h : n < 128 ^ 6) : partBytes n = seven 6 n := by
  unfold partBytes
  rw [pbF_seven 5 (n / 128) _ (by rw [Nat.div_lt_iff_lt_mul (by decide)]; exact h)]
  rfl
theorem nameBytes_eq {a b : Nat} {r : List Nat} (h : good (a :: b :: r) = true) : nameBytes (a :: b :: r) = partBytes (40 * a + b) ++ r.flatMap partBytes := by
  rw [good_cons] at h
  simp only [Bool.and_eq_true, decide_eq_true_eq, List.all_eq_true] at h
  obtain ⟨_, ⟨_, h3, h4⟩, h5, _⟩ := h
  show ((40 * a + b) :: r).flatMap (seven 6) = _
  rw [List.flatMap_cons, partBytes_eq (show 40 * a + b < 128 ^ 6 by omega)]
  congr 1
  have : ∀ l : List Nat, (∀ x ∈ l, x < 2 ^ 32) → l.flatMap (seven 6) = l.flatMap partBytes := by
    intro l
    induction l with
    | nil => intro _; rfl
    | cons x t ih =>
      intro hx
      rw [List.flatMap_cons, List.flatMap_cons, ih fun y m => hx y (List.mem_cons_of_mem _ m), partBytes_eq (show x < 128 ^ 6 by have := hx x List.mem_cons_self; omega)]
  exact this r h4
/-! ### whole numbers from 0 on, as they are sent -/
def wholeBytes (n : Nat) : List Nat := let c := pbF 256 0 (n / 256) [n % 256]
  if 128 ≤ c.headD 0 then 0 :: c else c
def wholeSmall (n : Nat) : List Nat := if n < 128 then [n] else [0, n]
theorem intBytes_small : ∀ n : Nat, n < 256 → intBytes (n : Int) = wholeSmall n := by decide +kernel
theorem wholeBytes_small {n : Nat} (h : n < 256) : wholeBytes n = intBytes (n : Int) := by
  rw [intBytes_small n h]
  unfold wholeBytes wholeSmall
  rw [show n / 256 = 0 by omega, pbF_zero, show n % 256 = n by omega]
  show (if 128 ≤ n then 0 :: [n] else [n]) = _
  by_cases c : n < 128
  · rw [if_pos c, if_neg (by omega)]
  · rw [if_neg c, if_pos (by omega)]
end Ad

/-! ## AdC -/
set_option Elab.async false
namespace Ad
open Sd23
/-! ### things -/
def cut (t n : Nat) (r : List Nat) : Option (Nat × List Nat × List Nat) := if r.length < n then none else some (t, r.take n, r.drop n)
theorem split_nil : split [] = none := rfl
theorem split_one (t : Nat) : split [t] = none := rfl
theorem split_short {t l : Nat} {r : List Nat} (h : l < 128) : split (t :: l :: r) = cut t l r := by
  show (if l < 128 then cut t l r else _) = _
  rw [if_pos h]
theorem split_81 {t : Nat} {r : List Nat} : split (t :: 129 :: r) = match r with
    | a :: q => if a < 128 then none else cut t a q
    | [] => none := by
  cases r <;> rfl
theorem split_82 {t : Nat} {r : List Nat} : split (t :: 130 :: r) = match r with
    | a :: c :: q => if a = 0 then none else cut t (256 * a + c) q
    | _ => none := by
  match r with
  | [] => rfl
  | [_] => rfl
  | _ :: _ :: _ => rfl
theorem split_other {t l : Nat} {r : List Nat} (h : ¬ l < 128) (h1 : l ≠ 129) (h2 : l ≠ 130) : split (t :: l :: r) = none := by
  show (if l < 128 then cut t l r else if l = 129 then _ else if l = 130 then _ else none) = _
  rw [if_neg h, if_neg h1, if_neg h2]
/-- what a thing and the rest are of -/
structure Piece (b v r : List Nat) : Prop where
  shorter : r.length + 2 ≤ b.length
  inner : v.length + 2 ≤ b.length
  vin : ∀ x ∈ v, x ∈ b
  rin : ∀ x ∈ r, x ∈ b
theorem cut_piece {t t' n : Nat} {r v q : List Nat} (h : cut t n r = some (t', v, q)) : t' = t ∧ v = r.take n ∧ q = r.drop n ∧ n ≤ r.length := by
  unfold cut at h
  split at h
  · cases h
  · cases h
    exact ⟨rfl, rfl, rfl, by omega⟩
theorem piece_of_cut {t t' n : Nat} {a : List Nat} {r v q b : List Nat} (h : cut t n r = some (t', v, q)) (hb : b = a ++ r) (ha : 2 ≤ a.length) : Piece b v q := by
  obtain ⟨_, rfl, rfl, hn⟩ := cut_piece h
  subst hb
  refine ⟨?_, ?_, fun x m => List.mem_append_right _ (List.mem_of_mem_take m), fun x m => List.mem_append_right _ (List.mem_of_mem_drop m)⟩
  · simp; omega
  · simp; omega
theorem split_piece {b v r : List Nat} {t : Nat} (h : split b = some (t, v, r)) : Piece b v r ∧ t ∈ b := by
  match b with
  | [] => cases h
  | [_] => cases h
  | t0 :: l :: q =>
    by_cases h1 : l < 128
    · rw [split_short h1] at h
      refine ⟨piece_of_cut (a := [t0, l]) h rfl (by simp), ?_⟩
      rw [(cut_piece h).1]; simp
    · by_cases h2 : l = 129
      · subst h2
        rw [split_81] at h
        match q with
        | [] => cases h
        | a :: q =>
          dsimp only at h
          split at h
          · cases h
          · refine ⟨piece_of_cut (a := [t0, 129, a]) h rfl (by simp), ?_⟩
            rw [(cut_piece h).1]; simp
      · by_cases h3 : l = 130
        · subst h3
          rw [split_82] at h
          match q with
          | [] => cases h
          | [_] => cases h
          | a :: c :: q =>
            dsimp only at h
            split at h
            · cases h
            · refine ⟨piece_of_cut (a := [t0, 130, a, c]) h rfl (by simp), ?_⟩
              rw [(cut_piece h).1]; simp
        · rw [split_other h1 h2 h3] at h
          cases h
theorem want_eq (t : Nat) (b : List Nat) : want t b = match split b with
    | some (u, x) => if u = t then some x else none
    | none => none := by
  unfold want
  cases split b with
  | none => rfl
  | some x => rfl
theorem want_some {t : Nat} {b : List Nat} {x : List Nat × List Nat} (h : want t b = some x) : split b = some (t, x) := by
  rw [want_eq] at h
  cases e : split b with
  | none => rw [e] at h; cases h
  | some y =>
    rw [e] at h
    dsimp only at h
    split at h
    · rename_i he
      cases h
      rw [← he]
    · cases h
/-! ### rows -/
def rowOf (x : List Nat) : Option Bind := match want 6 x with
  | none => none
  | some (n, y) => match split y with
    | none => none
    | some (t, v, z) => match nameOf n with
      | none => none
      | some m => if z ≠ [] ∨ fits ⟨t, v⟩ = false then none else some (m, ⟨t, v⟩)
theorem binds_succ (k : Nat) (b : List Nat) : binds (k + 1) b = if b = [] then some [] else match want 48 b with
    | none => none
    | some (x, r) => match rowOf x with
      | none => none
      | some w => (binds k r).map fun l => w :: l := by
  rw [binds]
  by_cases hb : b = []
  · rw [if_pos hb, if_pos hb]
  rw [if_neg hb, if_neg hb]
  rcases e1 : want 48 b with _ | ⟨x, r⟩
  · rfl
  show (do
      let (n, y) ← want 6 x
      let (t, v, z) ← split y
      let name ← nameOf n
      if z ≠ [] ∨ fits ⟨t, v⟩ = false then none else do
        let l ← binds k r
        return (name, ⟨t, v⟩) :: l) = match rowOf x with
      | none => none
      | some w => (binds k r).map fun l => w :: l
  unfold rowOf
  rcases e2 : want 6 x with _ | ⟨n, y⟩
  · rfl
  rcases e3 : split y with _ | ⟨t, v, z⟩
  · simp [e3]
  rcases e4 : nameOf n with _ | m
  · simp [e3, e4]
  simp only [Option.bind_eq_bind, Option.bind_some, e3, e4]
  show (if z ≠ [] ∨ fits ⟨t, v⟩ = false then none else (binds k r).bind fun l => some ((m, ⟨t, v⟩) :: l)) = _
  by_cases hz : z ≠ [] ∨ fits ⟨t, v⟩ = false
  · rw [if_pos hz, if_pos hz]
  · rw [if_neg hz, if_neg hz]
    cases binds k r <;> rfl
theorem binds_fuel : ∀ (n k : Nat) (b : List Nat), b.length ≤ n → b.length < k → binds k b = binds (b.length + 1) b
  | n, 0, b, _, h => absurd h (Nat.not_lt_zero _)
  | 0, k + 1, b, hn, _ => by
    have : b = [] := List.eq_nil_of_length_eq_zero (by omega)
    subst this
    rw [binds_succ, binds_succ, if_pos rfl, if_pos rfl]
  | n + 1, k + 1, b, hn, hk => by
    rw [binds_succ, binds_succ]
    by_cases hb : b = []
    · rw [if_pos hb, if_pos hb]
    · rw [if_neg hb, if_neg hb]
      cases e : want 48 b with
      | none => rfl
      | some x =>
        obtain ⟨x, r⟩ := x
        have p := (split_piece (want_some e)).1
        have hr := p.shorter
        dsimp only
        rw [binds_fuel n k r (by omega) (by omega), binds_fuel n b.length r (by omega) (by omega)]
/-- the rows that bytes are -/
def rowsOf (b : List Nat) : Option (List Bind) := binds (b.length + 1) b
theorem rowsOf_nil : rowsOf [] = some [] := rfl
theorem rowsOf_ne {b : List Nat} (h : b ≠ []) : rowsOf b = match want 48 b with
    | none => none
    | some (x, r) => match rowOf x with
      | none => none
      | some w => (rowsOf r).map fun l => w :: l := by
  unfold rowsOf
  rw [binds_succ, if_neg h]
  cases e : want 48 b with
  | none => rfl
  | some x =>
    obtain ⟨x, r⟩ := x
    have p := (split_piece (want_some e)).1
    have hr := p.shorter
    dsimp only
    rw [binds_fuel b.length b.length r (by omega) (by omega)]
/-! ### a message, in the program's order -/
def okWhole (b : List Nat) : Bool := decide (b.length ≤ 4) && isWhole b
theorem intOf4 (b : List Nat) : intOf 4 b = if okWhole b = true then some (wholeOf b) else none := by
  rw [intOf_eq]
  unfold okWhole
  simp only [Bool.and_eq_true, decide_eq_true_eq]
  by_cases h : isWhole b = true ∧ b.length ≤ 4
  · rw [if_pos h, if_pos h.symm]
  · rw [if_neg h, if_neg fun q => h q.symm]
def isReq (t : Nat) : Bool := [0xA0, 0xA1, 0xA3, 0xA5].contains t
/-- a whole number read of what is left -/
def readWhole (p : List Nat) : Option (List Nat × List Nat) := match want 2 p with
  | none => none
  | some (i, q) => if okWhole i = true then some (i, q) else none
/-- the request's inside: number, a, b, rows -/
def readInner (p : List Nat) : Option (List Nat × Int × Int × List Bind) := match readWhole p with
  | none => none
  | some (i, p1) => match readWhole p1 with
    | none => none
    | some (x, p2) => match readWhole p2 with
      | none => none
      | some (y, p3) => match want 48 p3 with
        | none => none
        | some (l, q) => if q ≠ [] then none else match rowsOf l with
          | none => none
          | some ls => some (i, wholeOf x, wholeOf y, ls)
def readP (b : List Nat) : Option Message := if MOST < b.length then none else match want 48 b with
  | none => none
  | some (m, r) => if r ≠ [] then none else match want 2 m with
    | none => none
    | some (v, m1) => if v ≠ [1] then none else match want 4 m1 with
      | none => none
      | some (w, m2) => if 32 < w.length then none else match split m2 with
        | none => none
        | some (t, p, z) => if isReq t = false ∨ z ≠ [] then none else match readInner p with
          | none => none
          | some (i, x, y, ls) => some ⟨w, t, i, x, y, ls⟩
theorem readWhole_none {p : List Nat} (h : want 2 p = none) : readWhole p = none := by unfold readWhole; rw [h]
theorem readWhole_some {p i q : List Nat} (h : want 2 p = some (i, q)) : readWhole p = if okWhole i = true then some (i, q) else none := by unfold readWhole; rw [h]
theorem inner_eq (p : List Nat) (f : List Nat → Int → Int → List Bind → List Nat → Option Message) (hf : ∀ i x y ls q, q ≠ [] → f i x y ls q = none) :
    (do
      let (i, p) ← want 2 p
      let (x, p) ← want 2 p
      let (y, p) ← want 2 p
      let (l, q) ← want 48 p
      let x ← intOf 4 x
      let y ← intOf 4 y
      let _ ← intOf 4 i
      let ls ← binds (l.length + 1) l
      f i x y ls q) = match readInner p with
    | none => none
    | some (i, x, y, ls) => f i x y ls [] := by
  unfold readInner readWhole
  rcases e1 : want 2 p with _ | ⟨i, p1⟩
  · rfl
  rcases e2 : want 2 p1 with _ | ⟨x, p2⟩
  · by_cases h : okWhole i = true <;> simp [h, e2]
  rcases e3 : want 2 p2 with _ | ⟨y, p3⟩
  · by_cases h : okWhole i = true <;> by_cases h' : okWhole x = true <;> simp [h, h', e2, e3]
  rcases e4 : want 48 p3 with _ | ⟨l, q⟩
  · by_cases h : okWhole i = true <;> by_cases h' : okWhole x = true <;> by_cases h'' : okWhole y = true <;> simp [h, h', h'', e2, e3, e4]
  simp only [Option.bind_eq_bind, Option.bind_some, e2, e3, e4, intOf4, rowsOf]
  by_cases h : okWhole i = true <;> by_cases h' : okWhole x = true <;> by_cases h'' : okWhole y = true <;> by_cases hq : q = [] <;> rcases e5 : binds (l.length + 1) l with _ | ls <;> simp [h, h', h'', hq, e2, e3, e4, e5, hf]
theorem read_eq (b : List Nat) : Sd23.read b = readP b := by
  unfold Sd23.read readP
  by_cases h0 : MOST < b.length
  · rw [if_pos h0, if_pos h0]
  rw [if_neg h0, if_neg h0]
  rcases e1 : want 48 b with _ | ⟨m, r⟩
  · rfl
  rcases e2 : want 2 m with _ | ⟨v, m1⟩
  · by_cases h : r = [] <;> simp [h, e2]
  rcases e3 : want 4 m1 with _ | ⟨w, m2⟩
  · by_cases h : r = [] <;> by_cases h' : v = [1] <;> simp [h, h', e2, e3]
  rcases e4 : split m2 with _ | ⟨t, p, z⟩
  · by_cases h : r = [] <;> by_cases h' : v = [1] <;> by_cases h'' : 32 < w.length <;> simp [h, h', h'', e2, e3, e4]
  simp only [Option.bind_eq_bind, Option.bind_some, e2, e3, e4]
  have H := inner_eq p (fun i x y ls q => if r ≠ [] ∨ z ≠ [] ∨ q ≠ [] ∨ v ≠ [1] ∨ 32 < w.length ∨ [0xA0, 0xA1, 0xA3, 0xA5].contains t = false then none else some ⟨w, t, i, x, y, ls⟩)
    (fun i x y ls q hq => if_pos (Or.inr (Or.inr (Or.inl hq))))
  simp only [Option.bind_eq_bind] at H
  refine Eq.trans H ?_
  by_cases h : r = []
  case neg => rcases readInner p with _ | ⟨i, x, y, ls⟩ <;> simp [h]
  by_cases h' : v = [1]
  case neg => rcases readInner p with _ | ⟨i, x, y, ls⟩ <;> simp [h, h']
  by_cases h'' : 32 < w.length
  · rcases readInner p with _ | ⟨i, x, y, ls⟩ <;> simp [h, h', h'']
  rcases e5 : readInner p with _ | ⟨i, x, y, ls⟩
  · simp [h, h', h'']
  unfold isReq
  show (if r ≠ [] ∨ z ≠ [] ∨ ([] : List Nat) ≠ [] ∨ v ≠ [1] ∨ 32 < w.length ∨ [0xA0, 0xA1, 0xA3, 0xA5].contains t = false then none else some (⟨w, t, i, x, y, ls⟩ : Message)) =
    (if r ≠ [] then none else if v ≠ [1] then none else if 32 < w.length then none else if [0xA0, 0xA1, 0xA3, 0xA5].contains t = false ∨ z ≠ [] then none else some ⟨w, t, i, x, y, ls⟩)
  by_cases hc : [0xA0, 0xA1, 0xA3, 0xA5].contains t = false ∨ z ≠ []
  · have hL : r ≠ [] ∨ z ≠ [] ∨ ([] : List Nat) ≠ [] ∨ v ≠ [1] ∨ 32 < w.length ∨ [0xA0, 0xA1, 0xA3, 0xA5].contains t = false := by
      rcases hc with q | q
      · exact Or.inr (Or.inr (Or.inr (Or.inr (Or.inr q))))
      · exact Or.inr (Or.inl q)
    rw [if_pos hL, if_neg (fun q : r ≠ [] => q h), if_neg (fun q : v ≠ [1] => q h'), if_neg h'', if_pos hc]
  · have hL : ¬ (r ≠ [] ∨ z ≠ [] ∨ ([] : List Nat) ≠ [] ∨ v ≠ [1] ∨ 32 < w.length ∨ [0xA0, 0xA1, 0xA3, 0xA5].contains t = false) := by
      intro q
      rcases q with q | q | q | q | q | q
      · exact q h
      · exact hc (Or.inr q)
      · exact q rfl
      · exact q h'
      · exact h'' q
      · exact hc (Or.inl q)
    rw [if_neg hL, if_neg (fun q : r ≠ [] => q h), if_neg (fun q : v ≠ [1] => q h'), if_neg h'', if_neg hc]
end Ad

/-! ## AdD -/
set_option Elab.async false
namespace Ad
open Sd23
/-! ### reading, step by step -/
def riD (i : List Nat) (x y : Int) (l : List Nat) : Option (List Nat × Int × Int × List Bind) := match rowsOf l with
  | none => none
  | some ls => some (i, x, y, ls)
def riC (i : List Nat) (x y : Int) (p3 : List Nat) : Option (List Nat × Int × Int × List Bind) := match want 48 p3 with
  | none => none
  | some (l, q) => if q ≠ [] then none else riD i x y l
def riB (i : List Nat) (x : Int) (p2 : List Nat) : Option (List Nat × Int × Int × List Bind) := match readWhole p2 with
  | none => none
  | some (y, p3) => riC i x (wholeOf y) p3
def riA (i : List Nat) (p1 : List Nat) : Option (List Nat × Int × Int × List Bind) := match readWhole p1 with
  | none => none
  | some (x, p2) => riB i (wholeOf x) p2
theorem readInner_eq (p : List Nat) : readInner p = match readWhole p with
  | none => none
  | some (i, p1) => riA i p1 := rfl
def rpE (w : List Nat) (t : Nat) (p : List Nat) : Option Message := match readInner p with
  | none => none
  | some (i, x, y, ls) => some ⟨w, t, i, x, y, ls⟩
def rpD (w m2 : List Nat) : Option Message := match split m2 with
  | none => none
  | some (t, p, z) => if isReq t = false ∨ z ≠ [] then none else rpE w t p
def rpC (m1 : List Nat) : Option Message := match want 4 m1 with
  | none => none
  | some (w, m2) => if 32 < w.length then none else rpD w m2
def rpB (m : List Nat) : Option Message := match want 2 m with
  | none => none
  | some (v, m1) => if v ≠ [1] then none else rpC m1
def rpA (b : List Nat) : Option Message := match want 48 b with
  | none => none
  | some (m, r) => if r ≠ [] then none else rpB m
theorem read_step (b : List Nat) : Sd23.read b = if 1472 < b.length then none else rpA b := (read_eq b).trans rfl
theorem ri_some {i : List Nat} {x y : Int} {l : List Nat} {ls : List Bind} (h : rowsOf l = some ls) : riD i x y l = some (i, x, y, ls) := by
  unfold riD
  rw [h]
theorem ri_none {i : List Nat} {x y : Int} {l : List Nat} (h : rowsOf l = none) : riD i x y l = none := by
  unfold riD
  rw [h]
/-! ### what a message that is right has -/
structure OkRow (x : Bind) : Prop where
  good : good x.1 = true
  bytes : AllB x.2.body
  small : x.2.body.length ≤ 1472
  fits : fits x.2 = true
structure OkMsg (m : Message) : Prop where
  word : m.word.length ≤ 32
  id : m.id.length ≤ 4
  kind : isReq m.kind = true
  rows : ∀ x ∈ m.binds, OkRow x
  few : m.binds.length ≤ 1472
theorem rowOf_ok {b : List Nat} {w : Bind} (hb : AllB b) (hl : b.length ≤ 1472) (h : rowOf b = some w) : OkRow w := by
  unfold rowOf at h
  rcases e1 : want 6 b with _ | ⟨n, y⟩
  · rw [e1] at h
    cases h
  rw [e1] at h
  dsimp only at h
  rcases e2 : split y with _ | ⟨t, v, z⟩
  · rw [e2] at h
    cases h
  rw [e2] at h
  dsimp only at h
  rcases e3 : nameOf n with _ | m
  · rw [e3] at h
    cases h
  rw [e3] at h
  dsimp only at h
  split at h
  · cases h
  · rename_i hc
    have e := Option.some.inj h
    subst e
    have p1 := (split_piece (want_some e1)).1
    have p2 := (split_piece e2).1
    have hn : AllB n := fun x hx => hb x (p1.vin x hx)
    have hv : AllB v := fun x hx => hb x (p1.rin x (p2.vin x hx))
    refine ⟨nameOf_good hn e3, hv, ?_, ?_⟩
    · have := p1.shorter
      have := p2.inner
      show v.length ≤ 1472
      omega
    · cases hf : fits ⟨t, v⟩ with
      | true => rfl
      | false => exact absurd (Or.inr hf) hc
theorem rows_ok : ∀ (n : Nat) (b : List Nat) (ls : List Bind), b.length ≤ n → AllB b → b.length ≤ 1472 → rowsOf b = some ls → (∀ x ∈ ls, OkRow x) ∧ ls.length ≤ b.length
  | 0, b, ls, hn, _, _, h => by
    have : b = [] := List.eq_nil_of_length_eq_zero (by omega)
    subst this
    rw [rowsOf_nil] at h
    cases h
    exact ⟨fun x hx => (by cases hx), Nat.le_refl _⟩
  | n + 1, b, ls, hn, hb, hl, h => by
    by_cases hne : b = []
    · subst hne
      rw [rowsOf_nil] at h
      cases h
      exact ⟨fun x hx => (by cases hx), Nat.le_refl _⟩
    rw [rowsOf_ne hne] at h
    rcases e1 : want 48 b with _ | ⟨x, r⟩
    · rw [e1] at h
      cases h
    rw [e1] at h
    dsimp only at h
    have p := (split_piece (want_some e1)).1
    have p1 := p.shorter
    have p2 := p.inner
    rcases e2 : rowOf x with _ | w
    · rw [e2] at h
      cases h
    rw [e2] at h
    dsimp only at h
    rcases e3 : rowsOf r with _ | l
    · rw [e3] at h
      cases h
    rw [e3] at h
    have e := Option.some.inj h
    subst e
    obtain ⟨i1, i2⟩ := rows_ok n r l (by omega) (fun y hy => hb y (p.rin y hy)) (by omega) e3
    have ok := rowOf_ok (fun y hy => hb y (p.vin y hy)) (by omega) e2
    refine ⟨fun y hy => ?_, ?_⟩
    · rcases List.mem_cons.mp hy with rfl | hy
      · exact ok
      · exact i1 y hy
    · rw [List.length_cons]
      omega
theorem readWhole_ok {p i r : List Nat} (h : readWhole p = some (i, r)) : want 2 p = some (i, r) ∧ okWhole i = true := by
  unfold readWhole at h
  rcases e1 : want 2 p with _ | ⟨j, q⟩
  · rw [e1] at h
    cases h
  rw [e1] at h
  dsimp only at h
  split at h
  · rename_i hw
    cases h
    exact ⟨rfl, hw⟩
  · cases h
theorem read_ok {b : List Nat} {m : Message} (hb : AllB b) (h : Sd23.read b = some m) : OkMsg m := by
  rw [read_step] at h
  split at h
  · cases h
  rename_i hlen
  unfold rpA at h
  rcases e1 : want 48 b with _ | ⟨m0, r⟩
  · rw [e1] at h; cases h
  rw [e1] at h
  dsimp only at h
  split at h
  · cases h
  unfold rpB at h
  rcases e2 : want 2 m0 with _ | ⟨v, m1⟩
  · rw [e2] at h; cases h
  rw [e2] at h
  dsimp only at h
  split at h
  · cases h
  unfold rpC at h
  rcases e3 : want 4 m1 with _ | ⟨w, m2⟩
  · rw [e3] at h; cases h
  rw [e3] at h
  dsimp only at h
  split at h
  · cases h
  rename_i hw
  unfold rpD at h
  rcases e4 : split m2 with _ | ⟨t, p, z⟩
  · rw [e4] at h; cases h
  rw [e4] at h
  dsimp only at h
  split at h
  · cases h
  rename_i ht
  unfold rpE at h
  rcases e5 : readInner p with _ | ⟨i, x, y, ls⟩
  · rw [e5] at h; cases h
  rw [e5] at h
  have e := Option.some.inj h
  subst e
  have p1 := (split_piece (want_some e1)).1
  have p2 := (split_piece (want_some e2)).1
  have p3 := (split_piece (want_some e3)).1
  have p4 := (split_piece e4).1
  have l1 := p1.inner
  have l2 := p2.shorter
  have l3 := p3.shorter
  have l4 := p4.inner
  rw [readInner_eq] at e5
  rcases f1 : readWhole p with _ | ⟨i', q1⟩
  · rw [f1] at e5; cases e5
  rw [f1] at e5
  dsimp only at e5
  unfold riA at e5
  rcases f2 : readWhole q1 with _ | ⟨x', q2⟩
  · rw [f2] at e5; cases e5
  rw [f2] at e5
  dsimp only at e5
  unfold riB at e5
  rcases f3 : readWhole q2 with _ | ⟨y', q3⟩
  · rw [f3] at e5; cases e5
  rw [f3] at e5
  dsimp only at e5
  unfold riC at e5
  rcases f4 : want 48 q3 with _ | ⟨l, q4⟩
  · rw [f4] at e5; cases e5
  rw [f4] at e5
  dsimp only at e5
  split at e5
  · cases e5
  unfold riD at e5
  rcases f5 : rowsOf l with _ | ls'
  · rw [f5] at e5; cases e5
  rw [f5] at e5
  have e := Option.some.inj e5
  have ei : i' = i := congrArg (fun z => z.1) e
  have el : ls' = ls := congrArg (fun z => z.2.2.2) e
  subst ei el
  obtain ⟨g1, g2⟩ := readWhole_ok f1
  obtain ⟨g3, _⟩ := readWhole_ok f2
  obtain ⟨g4, _⟩ := readWhole_ok f3
  have r1 := (split_piece (want_some g1)).1
  have r2 := (split_piece (want_some g3)).1
  have r3 := (split_piece (want_some g4)).1
  have r4 := (split_piece (want_some f4)).1
  have k1 := r1.shorter
  have k2 := r2.shorter
  have k3 := r3.shorter
  have k4 := r4.inner
  have hl : AllB l := fun z hz => hb z (p1.vin z (p2.rin z (p3.rin z (p4.vin z (r1.rin z (r2.rin z (r3.rin z (r4.vin z hz))))))))
  obtain ⟨o1, o2⟩ := rows_ok l.length l ls' (Nat.le_refl _) hl (by omega) f5
  refine ⟨?_, ?_, ?_, o1, ?_⟩
  · show w.length ≤ 32
    omega
  · unfold okWhole at g2
    simp only [Bool.and_eq_true, decide_eq_true_eq] at g2
    exact g2.1
  · show isReq t = true
    cases hq : isReq t with
    | true => rfl
    | false => exact absurd (Or.inl hq) ht
  · show ls'.length ≤ 1472
    omega
end Ad

/-! ## AdE -/
set_option Elab.async false
namespace Ad
open Sd23
/-! ### lengths -/
theorem tlv_len (t : Nat) (b : List Nat) : b.length + 2 ≤ (tlv t b).length ∧ (tlv t b).length ≤ b.length + 4 := by
  unfold tlv len
  split
  · simp
  · split
    · simp
    · simp
theorem seven_len' : ∀ (k n : Nat), (seven k n).length ≤ k
  | 0, _ => Nat.le_refl _
  | k + 1, n => by
    show ((if n / 128 = 0 then [] else (seven k (n / 128)).map fun c => c % 128 + 128) ++ [n % 128]).length ≤ k + 1
    rw [List.length_append]
    split
    · simp
    · have := seven_len' k (n / 128)
      rw [List.length_map]
      simp
      omega
theorem flat_seven : ∀ l : List Nat, (l.flatMap (seven 6)).length ≤ 6 * l.length
  | [] => Nat.le_refl _
  | x :: r => by
    rw [List.flatMap_cons, List.length_append, List.length_cons]
    have h1 := seven_len' 6 x
    have h2 := flat_seven r
    omega
theorem nameBytes_len {n : List Nat} (h : good n = true) : (nameBytes n).length ≤ 192 := by
  have hl : n.length ≤ 32 := by
    unfold good SUBS at h
    simp only [Bool.and_eq_true, decide_eq_true_eq] at h
    exact h.1.2
  unfold nameBytes
  split
  · rename_i a b r
    have := flat_seven ((40 * a + b) :: r)
    simp only [List.length_cons] at this hl
    omega
  · simp
/-- rows of a bounded size -/
structure SmallRow (x : Bind) : Prop where
  good : good x.1 = true
  small : x.2.body.length ≤ 1472
theorem OkRow.toSmall {x : Bind} (h : OkRow x) : SmallRow x := ⟨h.good, h.small⟩
theorem bind_len {x : Bind} (h : SmallRow x) : (bindBytes x).length ≤ 1700 ∧ 6 ≤ (bindBytes x).length := by
  unfold bindBytes
  have h1 := nameBytes_len h.good
  have h2 := tlv_len 6 (nameBytes x.1)
  have h3 := tlv_len x.2.mark x.2.body
  have h4 := tlv_len 0x30 (tlv 6 (nameBytes x.1) ++ tlv x.2.mark x.2.body)
  have h5 := h.small
  rw [List.length_append] at h4
  omega
theorem flat_bind : ∀ l : List Bind, (∀ x ∈ l, SmallRow x) → (l.flatMap bindBytes).length ≤ 1700 * l.length ∧ 6 * l.length ≤ (l.flatMap bindBytes).length
  | [], _ => ⟨Nat.le_refl _, Nat.le_refl _⟩
  | x :: r, h => by
    rw [List.flatMap_cons, List.length_append, List.length_cons]
    have h1 := bind_len (h x List.mem_cons_self)
    have h2 := flat_bind r fun y m => h y (List.mem_cons_of_mem _ m)
    omega
/-! ### whole numbers as they are sent -/
def wholeSmall2 (n : Nat) : List Nat := if n < 128 then [n] else if n < 256 then [0, n] else [n / 256, n % 256]
theorem intBytes_small2 : ∀ n : Nat, n < 1600 → intBytes (n : Int) = wholeSmall2 n := by decide +kernel
theorem wholeBytes_eq {n : Nat} (h : n < 1600) : wholeBytes n = intBytes (n : Int) := by
  rw [intBytes_small2 n h]
  unfold wholeBytes wholeSmall2
  by_cases h2 : n < 256
  · rw [show n / 256 = 0 by omega, pbF_zero, show n % 256 = n by omega]
    show (if 128 ≤ n then 0 :: [n] else [n]) = _
    by_cases c : n < 128
    · rw [if_pos c, if_neg (by omega)]
    · rw [if_neg c, if_pos (by omega), if_pos h2]
  · rw [pbF_pos (by decide) (by omega), show n / 256 / 256 = 0 by omega, pbF_zero, Nat.zero_add, show n / 256 % 256 = n / 256 by omega]
    show (if 128 ≤ n / 256 then 0 :: [n / 256, n % 256] else [n / 256, n % 256]) = _
    rw [if_neg (by omega), if_neg (by omega), if_neg h2]
theorem intBytes_len {n : Nat} (h : n < 1600) : (intBytes (n : Int)).length ≤ 2 := by
  rw [intBytes_small2 n h]
  unfold wholeSmall2
  split
  · simp
  · split <;> simp
/-! ### an answer put together -/
def putT (m : Message) (e p : Nat) (rb : List Nat) : List Nat := tlv 0x30 (tlv 2 [1] ++ (tlv 4 m.word ++ tlv 0xA2 (tlv 2 m.id ++ (tlv 2 (intBytes e) ++ (tlv 2 (intBytes p) ++ tlv 0x30 rb)))))
theorem write_eq (m : Message) (e p : Nat) (l : List Bind) : write m e p l = putT m e p (l.flatMap bindBytes) := rfl
/-- the size of an answer by its parts -/
def base (m : Message) (e p : Nat) : Nat := (tlv 2 m.id).length + ((tlv 2 (intBytes e)).length + (tlv 2 (intBytes p)).length)
theorem tlv_mono (t : Nat) {a b : List Nat} (h : a.length ≤ b.length) : (tlv t a).length ≤ (tlv t b).length := by
  have e : ∀ c : List Nat, (tlv t c).length = 1 + ((if c.length < 128 then 1 else if c.length < 256 then 2 else 3) + c.length) := by
    intro c
    unfold tlv len
    split
    · simp; omega
    · split
      · simp; omega
      · simp; omega
  rw [e, e]
  split <;> split <;> (try split) <;> (try split) <;> omega
theorem putT_mono (m : Message) (e p : Nat) {a b : List Nat} (h : a.length ≤ b.length) : (putT m e p a).length ≤ (putT m e p b).length := by
  unfold putT
  have h1 := tlv_mono 0x30 h
  refine tlv_mono _ ?_
  simp only [List.length_append]
  have h2 : (tlv 0xA2 (tlv 2 m.id ++ (tlv 2 (intBytes e) ++ (tlv 2 (intBytes p) ++ tlv 0x30 a)))).length ≤ (tlv 0xA2 (tlv 2 m.id ++ (tlv 2 (intBytes e) ++ (tlv 2 (intBytes p) ++ tlv 0x30 b)))).length := by
    refine tlv_mono _ ?_
    simp only [List.length_append]
    omega
  omega
theorem putT_len (m : Message) (hm : m.word.length ≤ 32) (hi : m.id.length ≤ 4) {e p : Nat} (he : e < 1600) (hp : p < 1600) (rb : List Nat) : (putT m e p rb).length ≤ rb.length + 200 ∧ rb.length ≤ (putT m e p rb).length := by
  unfold putT
  have a1 := tlv_len 0x30 rb
  have a2 := tlv_len 2 m.id
  have a3 := tlv_len 2 (intBytes e)
  have a4 := tlv_len 2 (intBytes p)
  have a5 := intBytes_len he
  have a6 := intBytes_len hp
  have a7 := tlv_len 0xA2 (tlv 2 m.id ++ (tlv 2 (intBytes e) ++ (tlv 2 (intBytes p) ++ tlv 0x30 rb)))
  have a8 := tlv_len 4 m.word
  have a9 := tlv_len 2 [1]
  have a10 := tlv_len 0x30 (tlv 2 [1] ++ (tlv 4 m.word ++ tlv 0xA2 (tlv 2 m.id ++ (tlv 2 (intBytes e) ++ (tlv 2 (intBytes p) ++ tlv 0x30 rb)))))
  simp only [List.length_append, List.length_cons, List.length_nil] at a7 a9 a10
  omega
/-! ### as many rows as fit -/
def greedy (m : Message) : List Bind → List Bind → List Bind
  | acc, [] => acc
  | acc, x :: r => if (write m 0 0 (acc ++ [x])).length ≤ MOST then greedy m (acc ++ [x]) r else acc
theorem write_mono (m : Message) (l k : List Bind) : (write m 0 0 l).length ≤ (write m 0 0 (l ++ k)).length := by
  rw [write_eq, write_eq]
  refine putT_mono m 0 0 ?_
  rw [List.flatMap_append, List.length_append]
  omega
/-- where all fit but perhaps the accumulated -/
theorem greedy_fits (m : Message) : ∀ (r acc : List Bind), (write m 0 0 (acc ++ r)).length ≤ MOST → greedy m acc r = acc ++ r
  | [], acc, _ => (List.append_nil acc).symm
  | x :: r, acc, h => by
    have e : acc ++ x :: r = (acc ++ [x]) ++ r := by simp
    rw [e] at h ⊢
    have h1 : (write m 0 0 (acc ++ [x])).length ≤ MOST := Nat.le_trans (write_mono m (acc ++ [x]) r) h
    unfold greedy
    rw [if_pos h1]
    exact greedy_fits m r (acc ++ [x]) h
theorem greedy_drop (m : Message) : ∀ (r acc : List Bind) (x : Bind), ¬ (write m 0 0 (acc ++ (r ++ [x]))).length ≤ MOST → greedy m acc (r ++ [x]) = greedy m acc r
  | [], acc, x, h => by
    show (if (write m 0 0 (acc ++ [x])).length ≤ MOST then _ else acc) = acc
    rw [if_neg (show ¬ (write m 0 0 (acc ++ [x])).length ≤ MOST from h)]
  | y :: r, acc, x, h => by
    show (if (write m 0 0 (acc ++ [y])).length ≤ MOST then greedy m (acc ++ [y]) (r ++ [x]) else acc) = (if (write m 0 0 (acc ++ [y])).length ≤ MOST then greedy m (acc ++ [y]) r else acc)
    by_cases c : (write m 0 0 (acc ++ [y])).length ≤ MOST
    · rw [if_pos c, if_pos c]
      refine greedy_drop m r (acc ++ [y]) x ?_
      have e : (acc ++ [y]) ++ (r ++ [x]) = acc ++ (y :: r ++ [x]) := by simp
      rw [e]
      exact h
    · rw [if_neg c, if_neg c]
theorem fitting_greedy (m : Message) : ∀ (n : Nat) (l : List Bind), l.length < n → fitting m n l = greedy m [] l
  | 0, l, h => absurd h (Nat.not_lt_zero _)
  | n + 1, l, h => by
    unfold fitting
    by_cases c : (write m 0 0 l).length ≤ MOST
    · rw [if_pos c, greedy_fits m l [] c]
      rfl
    · rw [if_neg c]
      rcases List.eq_nil_or_concat l with e | ⟨r, x, e⟩
      · subst e
        have : ∀ k, fitting m k [] = [] := by
          intro k
          induction k with
          | zero => rfl
          | succ k ih =>
            unfold fitting
            rw [if_neg c]
            exact ih
        rw [List.dropLast_nil, this]
        rfl
      · rw [List.concat_eq_append] at e
        subst e
        rw [List.dropLast_concat, greedy_drop m r [] x c]
        refine fitting_greedy m n r ?_
        rw [List.length_append, List.length_singleton] at h
        omega
/-- rows behind a part that is too long do not count -/
theorem greedy_prefix (m : Message) (k : List Bind) : ∀ (r acc : List Bind), ¬ (write m 0 0 (acc ++ r)).length ≤ MOST → r ≠ [] → greedy m acc (r ++ k) = greedy m acc r
  | [], acc, h, hne => absurd rfl hne
  | x :: r, acc, h, _ => by
    show (if (write m 0 0 (acc ++ [x])).length ≤ MOST then greedy m (acc ++ [x]) (r ++ k) else acc) = (if (write m 0 0 (acc ++ [x])).length ≤ MOST then greedy m (acc ++ [x]) r else acc)
    by_cases c : (write m 0 0 (acc ++ [x])).length ≤ MOST
    · rw [if_pos c, if_pos c]
      have e : acc ++ x :: r = (acc ++ [x]) ++ r := by simp
      rw [e] at h
      by_cases hr : r = []
      · subst hr
        rw [List.append_nil] at h
        exact absurd c h
      · exact greedy_prefix m k r (acc ++ [x]) h hr
    · rw [if_neg c, if_neg c]
end Ad

/-! ## AdF -/
set_option Elab.async false
namespace Ad
open Sd23
/-! ### names in order -/
theorem before_irrefl : ∀ n : List Nat, before n n = false
  | [] => rfl
  | a :: r => by
    show (decide (a < a) || (a == a && before r r)) = false
    rw [before_irrefl r]
    simp
theorem before_cons (a b : Nat) (r s : List Nat) : before (a :: r) (b :: s) = (decide (a < b) || (a == b && before r s)) := rfl
theorem before_iff {a b : Nat} {r s : List Nat} : before (a :: r) (b :: s) = true ↔ a < b ∨ (a = b ∧ before r s = true) := by
  rw [before_cons]
  simp
theorem before_trans : ∀ {l m n : List Nat}, before l m = true → before m n = true → before l n = true
  | _, _, [], _, h => by
    rename_i m _
    cases m <;> cases h
  | _, [], _ :: _, h, _ => by
    rename_i l _ _ _
    cases l <;> cases h
  | [], _ :: _, _ :: _, _, _ => rfl
  | a :: r, b :: s, c :: t, h1, h2 => by
    rw [before_iff] at h1 h2 ⊢
    rcases h1 with h1 | ⟨h1, g1⟩ <;> rcases h2 with h2 | ⟨h2, g2⟩
    · exact .inl (by omega)
    · exact .inl (by omega)
    · exact .inl (by omega)
    · exact .inr ⟨by omega, before_trans g1 g2⟩
theorem before_total : ∀ {m n : List Nat}, before m n = false → before n m = false → m = n
  | [], [], _, _ => rfl
  | [], _ :: _, h, _ => by cases h
  | _ :: _, [], _, h => by cases h
  | a :: r, b :: s, h1, h2 => by
    have k1 : ¬ (a < b ∨ (a = b ∧ before r s = true)) := fun h => by rw [before_iff.mpr h] at h1; cases h1
    have k2 : ¬ (b < a ∨ (b = a ∧ before s r = true)) := fun h => by rw [before_iff.mpr h] at h2; cases h2
    have e : a = b := by omega
    subst e
    have g1 : before r s = false := by
      cases q : before r s with
      | false => rfl
      | true => exact absurd (.inr ⟨rfl, q⟩) k1
    have g2 : before s r = false := by
      cases q : before s r with
      | false => rfl
      | true => exact absurd (.inr ⟨rfl, q⟩) k2
    rw [before_total g1 g2]
theorem before_asymm {m n : List Nat} (h : before m n = true) : before n m = false := by
  cases q : before n m with
  | false => rfl
  | true =>
    have := before_trans h q
    rw [before_irrefl] at this
    cases this
theorem before_ne {m n : List Nat} (h : before m n = true) : m ≠ n := fun e => by
  rw [e, before_irrefl] at h
  cases h
/-! ### what is kept true of a device -/
structure OkEnt (e : Sd23.Entry) : Prop where
  good : good e.name = true
  small : e.value.body.length ≤ 1472
  kind : kinds.contains e.value.mark = true
structure OkAbs (a : Abs) : Prop where
  sorted : a.entries.Pairwise fun x y => before x.name y.name = true
  ent : ∀ e ∈ a.entries, OkEnt e
  few : a.entries.length ≤ 512
  ne : a.reads ≠ a.writes
theorem OkAbs.find {a : Abs} (h : OkAbs a) {e : Sd23.Entry} (m : e ∈ a.entries) : a.find e.name = some e := by
  unfold Abs.find
  have hs := h.sorted
  revert m hs
  induction a.entries with
  | nil => intro m; cases m
  | cons x r ih =>
    intro m hs
    rw [List.pairwise_cons] at hs
    rw [List.find?_cons]
    rcases List.mem_cons.mp m with rfl | m'
    · simp
    · have hne : (x.name == e.name) = false := beq_eq_false_iff_ne.mpr (before_ne (hs.1 e m'))
      rw [hne]
      exact ih m' hs.2
theorem find_some {a : Abs} {n : List Nat} {e : Sd23.Entry} (h : a.find n = some e) : e ∈ a.entries ∧ e.name = n := by
  unfold Abs.find at h
  exact ⟨List.mem_of_find?_eq_some h, beq_iff_eq.mp (List.find?_some (p := fun e : Sd23.Entry => e.name == n) h)⟩
theorem find_none {a : Abs} {n : List Nat} (h : a.find n = none) {e : Sd23.Entry} (m : e ∈ a.entries) : e.name ≠ n := fun q => by
  unfold Abs.find at h
  rw [List.find?_eq_none] at h
  exact h e m (beq_iff_eq.mpr q)
/-- two places of one name are one -/
theorem OkAbs.place {a : Abs} (h : OkAbs a) {i j : Nat} {x y : Sd23.Entry} (hi : a.entries[i]? = some x) (hj : a.entries[j]? = some y) (e : x.name = y.name) : i = j := by
  obtain ⟨li, gi⟩ := List.getElem?_eq_some_iff.mp hi
  obtain ⟨lj, gj⟩ := List.getElem?_eq_some_iff.mp hj
  have key := List.pairwise_iff_getElem.mp h.sorted
  rcases Nat.lt_trichotomy i j with q | q | q
  · have := key i j li lj q
    rw [gi, gj] at this
    exact absurd e (before_ne this)
  · exact q
  · have := key j i lj li q
    rw [gi, gj] at this
    exact absurd e.symm (before_ne this)
/-- where a name comes next -/
def behind (a : Abs) (n : List Nat) : Nat := a.entries.findIdx fun e => before n e.name
theorem find_idx {α : Type} (p : α → Bool) : ∀ l : List α, l.find? p = l[l.findIdx p]?
  | [] => rfl
  | x :: r => by
    rw [List.find?_cons, List.findIdx_cons]
    cases q : p x with
    | true => rfl
    | false =>
      show r.find? p = (x :: r)[r.findIdx p + 1]?
      rw [find_idx p r]
      rfl
theorem next_idx (a : Abs) (n : List Nat) : a.next n = a.entries[behind a n]? := find_idx _ _
theorem OkAbs.mono {a : Abs} (h : OkAbs a) {n : List Nat} {i j : Nat} {x y : Sd23.Entry} (hij : i ≤ j) (hi : a.entries[i]? = some x) (hj : a.entries[j]? = some y) (b : before n x.name = true) : before n y.name = true := by
  rcases Nat.eq_or_lt_of_le hij with rfl | q
  · rw [hi] at hj
    cases hj
    exact b
  · obtain ⟨li, gi⟩ := List.getElem?_eq_some_iff.mp hi
    obtain ⟨lj, gj⟩ := List.getElem?_eq_some_iff.mp hj
    have := List.pairwise_iff_getElem.mp h.sorted i j li lj q
    rw [gi, gj] at this
    exact before_trans b this
theorem behind_of {a : Abs} {n : List Nat} {k : Nat} (hk : k ≤ a.entries.length) (h1 : ∀ i x, i < k → a.entries[i]? = some x → before n x.name = false) (h2 : ∀ x, a.entries[k]? = some x → before n x.name = true) : behind a n = k := by
  unfold behind
  revert k
  induction a.entries with
  | nil =>
    intro k hk _ _
    have : k = 0 := by simpa using hk
    rw [this]
    rfl
  | cons y r ih =>
    intro k hk h1 h2
    rw [List.findIdx_cons]
    cases k with
    | zero => rw [h2 y rfl]; rfl
    | succ k =>
      rw [h1 0 y (Nat.zero_lt_succ k) rfl]
      show r.findIdx _ + 1 = k + 1
      rw [ih (by simpa using hk) (fun i x hi hx => h1 (i + 1) x (by omega) hx) (fun x hx => h2 x hx)]
/-! ### rows told -/
theorem got_small {a : Abs} (h : OkAbs a) {n : List Nat} (hn : good n = true) : SmallRow (got a n) := by
  unfold got
  cases e : a.find n with
  | none => exact ⟨hn, Nat.zero_le _⟩
  | some e' => exact ⟨hn, (h.ent e' (find_some e).1).small⟩
theorem next_some {a : Abs} {n : List Nat} {e : Sd23.Entry} (h : a.next n = some e) : e ∈ a.entries := List.mem_of_find?_eq_some h
theorem following_small {a : Abs} (h : OkAbs a) {n : List Nat} (hn : good n = true) : SmallRow (following a n) := by
  unfold following
  cases e : a.next n with
  | none => exact ⟨hn, Nat.zero_le _⟩
  | some e' => exact ⟨(h.ent e' (next_some e)).good, (h.ent e' (next_some e)).small⟩
theorem got_of {a : Abs} (h : OkAbs a) {e : Sd23.Entry} (m : e ∈ a.entries) : got a e.name = (e.name, e.value) := by
  unfold got
  rw [h.find m]
end Ad

/-! ## AdG -/
set_option Elab.async false
namespace Ad
open Sd23
/-! ### a value is set -/
def setV (n : List Nat) (v : Value) (e : Sd23.Entry) : Sd23.Entry := if e.name = n then { e with value := v } else e
theorem setV_name (n : List Nat) (v : Value) (e : Sd23.Entry) : (setV n v e).name = e.name := by
  unfold setV
  split <;> rfl
theorem put_get (a : Abs) (n : List Nat) (v : Value) (i : Nat) : (a.put n v).entries[i]? = (a.entries[i]?).map (setV n v) := List.getElem?_map ..
theorem put_len (a : Abs) (n : List Nat) (v : Value) : (a.put n v).entries.length = a.entries.length := List.length_map ..
theorem find_put (a : Abs) (n k : List Nat) (v : Value) : (a.put n v).find k = (a.find k).map (setV n v) := by
  show (a.entries.map (setV n v)).find? (fun e => e.name == k) = _
  rw [List.find?_map]
  have e : ((fun e : Sd23.Entry => e.name == k) ∘ setV n v) = fun e => e.name == k := funext fun e => by
    show ((setV n v e).name == k) = (e.name == k)
    rw [setV_name]
  rw [e]
  rfl
theorem OkAbs.put {a : Abs} (h : OkAbs a) {n : List Nat} {v : Value} (hb : v.body.length ≤ 1472) (hk : kinds.contains v.mark = true) : OkAbs (a.put n v) := by
  refine ⟨?_, fun e he => ?_, by rw [put_len]; exact h.few, h.ne⟩
  · show (a.entries.map (setV n v)).Pairwise _
    rw [List.pairwise_map]
    refine h.sorted.imp fun {x y} q => ?_
    rw [setV_name, setV_name]
    exact q
  · have he' : e ∈ a.entries.map (setV n v) := he
    obtain ⟨x, hx, rfl⟩ := List.mem_map.mp he'
    have o := h.ent x hx
    refine ⟨by rw [setV_name]; exact o.good, ?_, ?_⟩
    · unfold setV
      split
      · exact hb
      · exact o.small
    · unfold setV
      split
      · exact hk
      · exact o.kind
/-- each row has an entry of its kind -/
def Sets (a : Abs) (l : List Bind) : Prop := ∀ x ∈ l, ∃ e, a.find x.1 = some e ∧ e.value.mark = x.2.mark
theorem wrong_zero {a : Abs} {x : Bind} (h : wrong a x = 0) : ∃ e, a.find x.1 = some e ∧ e.value.mark = x.2.mark := by
  unfold wrong at h
  cases e : a.find x.1 with
  | none =>
    rw [e] at h
    cases h
  | some y =>
    rw [e] at h
    refine ⟨y, rfl, ?_⟩
    dsimp only at h
    split at h
    · cases h
    · split at h
      · cases h
      · rename_i q
        exact (Classical.not_not.mp q).symm
theorem Sets.put {a : Abs} {l : List Bind} (h : Sets a l) {x : Bind} (hx : x ∈ l) : Sets (a.put x.1 x.2) l := by
  intro y hy
  obtain ⟨e, he, hm⟩ := h y hy
  obtain ⟨g, hg, hn⟩ := h x hx
  refine ⟨setV x.1 x.2 e, by rw [find_put, he]; rfl, ?_⟩
  unfold setV
  split
  · rename_i q
    have h1 : e.name = y.1 := beq_iff_eq.mp (List.find?_some (p := fun e : Sd23.Entry => e.name == y.1) he)
    rw [h1] at q
    rw [q] at he
    rw [he] at hg
    cases hg
    show x.2.mark = y.2.mark
    rw [← hm, ← hn]
  · exact hm
theorem fidx_some {α : Type} (p : α → Bool) : ∀ {l : List α} {i : Nat} {x : α}, l[i]? = some x → p x = true → (∀ j y, j < i → l[j]? = some y → p y = false) → l.findIdx? p = some i
  | [], i, x, h, _, _ => by simp at h
  | y :: r, 0, x, h, hp, _ => by
    cases h
    rw [List.findIdx?_cons, hp]
    rfl
  | y :: r, i + 1, x, h, hp, hj => by
    rw [List.findIdx?_cons, hj 0 y (Nat.zero_lt_succ _) rfl, fidx_some p (l := r) (i := i) (x := x) h hp fun j z q hz => hj (j + 1) z (by omega) hz]
    rfl
theorem fidx_none {α : Type} (p : α → Bool) : ∀ {l : List α}, (∀ (j : Nat) y, l[j]? = some y → p y = false) → l.findIdx? p = none
  | [], _ => rfl
  | y :: r, h => by
    rw [List.findIdx?_cons, h 0 y rfl, fidx_none p (l := r) fun j z hz => h (j + 1) z hz]
    rfl
/-! ### a set done -/
theorem empty_fits {m : Message} (om : OkMsg m) : (write m 0 0 []).length ≤ 1472 := by
  rw [write_eq]
  have := (putT_len m om.word om.id (e := 0) (p := 0) (by decide) (by decide) (([] : List Bind).flatMap bindBytes)).1
  have h0 : (([] : List Bind).flatMap bindBytes).length = 0 := rfl
  omega
def setK (m : Message) : Prop := m.kind ≠ 0xA0 ∧ m.kind ≠ 0xA1 ∧ m.kind ≠ 0xA5
theorem handle_reads {a : Abs} {m : Message} (om : OkMsg m) (h : m.word = a.reads) (ok : OkAbs a) (hk : setK m) :
    handle a m = (a, some (sized m m.binds (if m.binds = [] then 0 else 6) (if m.binds = [] then 0 else 1))) := by
  unfold handle
  rw [if_neg (fun q => q.1 h), if_neg hk.1, if_neg hk.2.1, if_neg hk.2.2, if_pos (by rw [h]; exact ok.ne)]
  cases e : m.binds with
  | nil =>
    have : sized m [] (if ([] : List Bind) = [] then 0 else 6) (if ([] : List Bind) = [] then 0 else 1) = write m 0 0 [] := by
      rw [if_pos rfl, if_pos rfl]
      exact if_neg (Nat.not_lt.mpr (empty_fits om))
    rw [this]
  | cons x r =>
    rw [if_neg (by simp), if_neg (by simp)]
theorem handle_bad {a : Abs} {m : Message} (h : m.word = a.writes) (hk : setK m) {i : Nat} {x : Bind} (hx : m.binds[i]? = some x) (hw : wrong a x ≠ 0) (hj : ∀ j y, j < i → m.binds[j]? = some y → wrong a y = 0) :
    handle a m = (a, some (sized m m.binds (wrong a x) (i + 1))) := by
  unfold handle
  rw [if_neg (fun q => q.2 h), if_neg hk.1, if_neg hk.2.1, if_neg hk.2.2, if_neg (by rw [h]; simp)]
  rw [fidx_some (fun x => wrong a x != 0) hx (by simpa using hw) fun j y q hy => by simpa using hj j y q hy]
  have : m.binds.getD i ([], ⟨0, []⟩) = x := by rw [List.getD_eq_getElem?_getD, hx]; rfl
  dsimp only
  rw [this]
theorem handle_good {a : Abs} {m : Message} (h : m.word = a.writes) (hk : setK m) (hj : ∀ (j : Nat) y, m.binds[j]? = some y → wrong a y = 0) :
    handle a m = ((if (write m 0 0 m.binds).length ≤ 1472 then m.binds.foldl (fun a x => a.put x.1 x.2) a else a), some (sized m m.binds 0 0)) := by
  unfold handle
  rw [if_neg (fun q => q.2 h), if_neg hk.1, if_neg hk.2.1, if_neg hk.2.2, if_neg (by rw [h]; simp)]
  rw [fidx_none (fun x => wrong a x != 0) fun j y hy => by simpa using hj j y hy]
  dsimp only
  unfold sized MOST
  by_cases q : (write m 0 0 m.binds).length ≤ 1472
  · rw [if_pos q, if_neg (by omega), if_neg (by omega)]
  · rw [if_neg q, if_pos (by omega), if_pos (by omega)]
theorem foldl_more {α β : Type} (f : β → α → β) (b : β) {l : List α} {i : Nat} {x : α} (h : l[i]? = some x) : (l.take (i + 1)).foldl f b = f ((l.take i).foldl f b) x := by
  rw [List.take_add_one, h, List.foldl_append]
  rfl
end Ad

/-! ## AdH -/
set_option Elab.async false
namespace Ad
open Sd23
theorem find_none_of {a : Abs} {n : List Nat} (h : ∀ x ∈ a.entries, x.name ≠ n) : a.find n = none := by
  unfold Abs.find
  rw [List.find?_eq_none]
  intro x hx q
  exact h x hx (beq_iff_eq.mp q)
/-! ### an entry is put in -/
theorem insert_perm (e : Sd23.Entry) : ∀ l : List Sd23.Entry, (Sd23.insert e l).Perm (e :: l)
  | [] => List.Perm.refl _
  | x :: r => by
    unfold Sd23.insert
    split
    · exact List.Perm.refl _
    · exact ((insert_perm e r).cons x).trans (List.Perm.swap e x r)
theorem mem_insert {e x : Sd23.Entry} {l : List Sd23.Entry} : x ∈ Sd23.insert e l ↔ x = e ∨ x ∈ l := by
  rw [(insert_perm e l).mem_iff, List.mem_cons]
theorem insert_len (e : Sd23.Entry) (l : List Sd23.Entry) : (Sd23.insert e l).length = l.length + 1 := (insert_perm e l).length_eq
theorem insert_sorted {e : Sd23.Entry} : ∀ {l : List Sd23.Entry}, l.Pairwise (fun x y => before x.name y.name = true) → (∀ x ∈ l, x.name ≠ e.name) → (Sd23.insert e l).Pairwise fun x y => before x.name y.name = true
  | [], _, _ => List.pairwise_singleton _ _
  | x :: r, h, hn => by
    rw [List.pairwise_cons] at h
    unfold Sd23.insert
    split
    · rename_i q
      rw [List.pairwise_cons]
      refine ⟨fun y hy => ?_, List.pairwise_cons.mpr h⟩
      rcases List.mem_cons.mp hy with rfl | hy
      · exact q
      · exact before_trans q (h.1 y hy)
    · rename_i q
      rw [List.pairwise_cons]
      refine ⟨fun y hy => ?_, insert_sorted h.2 fun y hy => hn y (List.mem_cons_of_mem _ hy)⟩
      rcases mem_insert.mp hy with rfl | hy
      · cases z : before x.name y.name with
        | true => rfl
        | false =>
          have q' : before y.name x.name = false := by simpa using q
          exact absurd (before_total z q') (hn x List.mem_cons_self)
      · exact h.1 y hy
/-- two lists in order of the same names are one -/
theorem sorted_uniq : ∀ {l m : List (List Nat)}, l.Perm m → l.Pairwise (fun x y => before y x = false) → m.Pairwise (fun x y => before y x = false) → l = m
  | [], m, h, _, _ => (List.Perm.eq_nil h.symm).symm
  | x :: l, [], h, _, _ => absurd h.length_eq (by simp)
  | x :: l, y :: m, h, hl, hm => by
    have h1 : before x y = false := by
      rcases List.mem_cons.mp (h.mem_iff.mp (List.mem_cons_self (a := x) (l := l))) with e | hx
      · rw [e]
        exact before_irrefl y
      · exact (List.pairwise_cons.mp hm).1 x hx
    have h2 : before y x = false := by
      rcases List.mem_cons.mp (h.mem_iff.mpr (List.mem_cons_self (a := y) (l := m))) with e | hy
      · rw [e]
        exact before_irrefl x
      · exact (List.pairwise_cons.mp hl).1 y hy
    have e := before_total h1 h2
    subst e
    rw [sorted_uniq h.cons_inv (List.pairwise_cons.mp hl).2 (List.pairwise_cons.mp hm).2]
def addE (a : Abs) (e : Sd23.Entry) : Abs := { a with entries := Sd23.insert e a.entries }
def repE (a : Abs) (e : Sd23.Entry) : Abs := { a with entries := a.entries.map fun x => if x.name = e.name then e else x }
def dropE (a : Abs) (n : List Nat) : Abs := { a with entries := a.entries.filter fun e => e.name != n }
theorem OkAbs.add {a : Abs} (h : OkAbs a) {e : Sd23.Entry} (oe : OkEnt e) (hf : a.find e.name = none) (hl : a.entries.length < 512) : OkAbs (addE a e) := by
  refine ⟨insert_sorted h.sorted fun x hx => find_none hf hx, fun x hx => ?_, ?_, h.ne⟩
  · rcases mem_insert.mp hx with rfl | hx
    · exact oe
    · exact h.ent x hx
  · show (Sd23.insert e a.entries).length ≤ 512
    rw [insert_len]
    omega
theorem rep_name (a : Abs) (e x : Sd23.Entry) : (if x.name = e.name then e else x).name = x.name := by
  split
  · rename_i h
    exact h.symm
  · rfl
theorem OkAbs.rep {a : Abs} (h : OkAbs a) {e : Sd23.Entry} (oe : OkEnt e) : OkAbs (repE a e) := by
  refine ⟨?_, fun x hx => ?_, by show (a.entries.map _).length ≤ 512; rw [List.length_map]; exact h.few, h.ne⟩
  · show (a.entries.map _).Pairwise _
    rw [List.pairwise_map]
    refine h.sorted.imp fun {x y} q => ?_
    rw [rep_name a, rep_name a]
    exact q
  · obtain ⟨y, hy, rfl⟩ := List.mem_map.mp (show x ∈ a.entries.map (fun x => if x.name = e.name then e else x) from hx)
    split
    · exact oe
    · exact h.ent y hy
theorem OkAbs.drop {a : Abs} (h : OkAbs a) (n : List Nat) : OkAbs (dropE a n) := by
  refine ⟨h.sorted.sublist List.filter_sublist, fun x hx => h.ent x (List.mem_filter.mp hx).1, ?_, h.ne⟩
  have := List.length_filter_le (fun e : Sd23.Entry => e.name != n) a.entries
  have := h.few
  show (a.entries.filter _).length ≤ 512
  omega
theorem drop_len {n : List Nat} : ∀ {l : List Sd23.Entry}, l.Pairwise (fun x y => before x.name y.name = true) → (∃ e ∈ l, e.name = n) → (l.filter fun e => e.name != n).length + 1 = l.length
  | [], _, h => by
    obtain ⟨_, h, _⟩ := h
    cases h
  | x :: r, hs, ⟨e, he, hn⟩ => by
    rw [List.pairwise_cons] at hs
    by_cases q : x.name = n
    · have hr : (r.filter fun e => e.name != n) = r := by
        rw [List.filter_eq_self]
        intro y hy
        have := before_ne (hs.1 y hy)
        rw [q] at this
        simpa using fun z => this z.symm
      rw [List.filter_cons_of_neg (by simp [q]), hr]
      rfl
    · rcases List.mem_cons.mp he with rfl | he
      · exact absurd hn q
      · rw [List.filter_cons_of_pos (by simpa using q), List.length_cons, List.length_cons, drop_len hs.2 ⟨e, he, hn⟩]
end Ad

/-! ## K1 -/
set_option Elab.async false
set_option linter.all false
set_option maxRecDepth 100000
set_option maxHeartbeats 4000000
namespace Ad
open PySem PySem.Spec PyProof.Rows L2
/-! ### the text by places -/
def top (i : Nat) : Stmt := PySem.Challenge.pw_askeddevice_s01_answers.main.body.getD i (.Pass ⟨0, 0, 0, 0⟩)
/-! ### numbers in lists and tuples -/
def nV (b : List Nat) : List V := b.map fun (n : Nat) => V.int (n : Int)
theorem nV_nil : nV [] = [] := rfl
theorem nV_cons (n : Nat) (b : List Nat) : nV (n :: b) = V.int (n : Int) :: nV b := rfl
theorem nV_append (a b : List Nat) : nV (a ++ b) = nV a ++ nV b := List.map_append ..
theorem nV_length (b : List Nat) : (nV b).length = b.length := List.length_map ..
theorem nV_take (b : List Nat) (k : Nat) : nV (b.take k) = (nV b).take k := List.map_take ..
theorem nV_drop (b : List Nat) (k : Nat) : nV (b.drop k) = (nV b).drop k := List.map_drop ..
theorem nV_get {b : List Nat} {i : Nat} {n : Nat} (h : b[i]? = some n) : (nV b)[i]? = some (V.int (n : Int)) := by
  unfold nV
  rw [List.getElem?_map, h]
  rfl
theorem nV_of {b : List Nat} {i : Nat} {y : V} (h : (nV b)[i]? = some y) : ∃ n, b[i]? = some n ∧ y = V.int (n : Int) := by
  unfold nV at h
  rw [List.getElem?_map] at h
  cases e : b[i]? with
  | none =>
    rw [e] at h
    cases h
  | some n =>
    rw [e] at h
    exact ⟨n, rfl, (Option.some.inj h).symm⟩
theorem nV_inj : ∀ {a b : List Nat}, nV a = nV b → a = b
  | [], [], _ => rfl
  | [], _ :: _, h => by cases h
  | _ :: _, [], h => by cases h
  | x :: a, y :: b, h => by
    have h1 := (List.cons.inj h).1
    have h2 := nV_inj (List.cons.inj h).2
    have : (x : Int) = (y : Int) := V.int.inj h1
    rw [h2, Int.ofNat.inj this]
theorem cut_nat {xs : List V} {i j : Nat} (h1 : i ≤ j) (h2 : j ≤ xs.length) : cutV xs (some (i : Int)) (some (j : Int)) = (xs.drop i).take (j - i) := by
  unfold cutV
  rw [HT.sIx_nat, HT.sIx_nat, Nat.min_eq_left h2, Nat.min_eq_left (Nat.le_trans h1 h2)]
theorem cut_to {xs : List V} {j : Nat} : cutV xs none (some (j : Int)) = xs.take j := by
  unfold cutV
  rw [HT.sIx_nat, HT.sIx_none, List.drop_zero, Nat.sub_zero, List.take_eq_take_iff]
  omega
theorem cut_from {xs : List V} {i : Nat} : cutV xs (some (i : Int)) none = xs.drop i := by
  unfold cutV
  rw [HT.sIx_nat, HT.sIx_none]
  by_cases h : i ≤ xs.length
  · rw [Nat.min_eq_left h]
    exact List.take_of_length_le (by rw [List.length_drop]; omega)
  · rw [Nat.min_eq_right (by omega), List.drop_eq_nil_of_le (Nat.le_refl _), List.drop_eq_nil_of_le (by omega)]
    exact List.take_nil
/-! ### a test whose outcome is known -/
theorem ifT {c : Bool} {A B : Prop} (hc : c = true) (h : A) : if c = true then A else B := by
  rw [if_pos hc]
  exact h
theorem ifF {c : Bool} {A B : Prop} (hc : c = false) (h : B) : if c = true then A else B := by
  rw [hc, if_neg Bool.false_ne_true]
  exact h
theorem ifB {c : Bool} {A B : Prop} (h1 : c = true → A) (h2 : c = false → B) : if c = true then A else B := by
  cases c with
  | true => exact ifT rfl (h1 rfl)
  | false => exact ifF rfl (h2 rfl)
/-! ### heaps -/
theorem Same.new {H : Hp} {p : Addr} {o : HO} (hp : H p = none) : Same H (upd H p o) := fun b u e => by
  rw [upd_ne (ne_of_none e hp)]
  exact e
theorem upd_free {H : Hp} {p q : Addr} {o : HO} (h : upd H p o q = none) : H q = none ∧ q ≠ p := by
  by_cases e : q = p
  · rw [e, upd_same] at h
    cases h
  · rw [upd_ne e] at h
    exact ⟨h, e⟩
/-! ### defs, methods, classes of the text as they are called -/
structure Def1 (K : PySem.W.Frag) (mg : Str → Option Value) (x nm : Str) (st : Stmt) : Prop where
  ex : ∃ f fd, Fun K nm nm st f fd ∧ mg x = some (.ref f)
structure Met1 (K : PySem.W.Frag) (C : Addr) (m qual : Str) (st : Stmt) : Prop where
  ex : ∃ f fd, Fun K m qual st f fd ∧ Meth K C m f
  cl : Cls K C
structure Mak1 (K : PySem.W.Frag) (mg : Str → Option Value) (x : Str) (C : Addr) (qual : Str) (st : Stmt) : Prop where
  ex : ∃ f fd, Fun K "__init__" qual st f fd ∧ Mk K C f
  mgC : mg x = some (.ref C)
  cl : Cls K C
structure CalX (P : Program) (w : World) (K : PySem.W.Frag) (mg : Str → Option Value) (base : Heap) (CX : CXT) (k : Nat) (x : Str) (sp : Sp) : Prop where
  ex : ∃ f fd ps, FnOk P w K mg base CX k f fd ps sp ∧ mg x = some (.ref f) ∧ PySem.W.keepIn K (.ref f) = true ∧ Binds K fd ps []
structure MetX (P : Program) (w : World) (K : PySem.W.Frag) (mg : Str → Option Value) (base : Heap) (CX : CXT) (k : Nat) (C : Addr) (m : Str) (sp : Sp) : Prop where
  ex : ∃ f fd ps, FnOk P w K mg base CX k f fd ps sp ∧ Meth K C m f ∧ Cls K C ∧ Binds K fd ps []
structure MakX (P : Program) (w : World) (K : PySem.W.Frag) (mg : Str → Option Value) (base : Heap) (k : Nat) (x : Str) (C : Addr) (sp : Sp) : Prop where
  ex : ∃ f fd ps, FnOk P w K mg base CX0 k f fd ps sp ∧ Mk K C f ∧ mg x = some (.ref C) ∧ Binds K fd ps []
/-- how parameters bind -/
def BindsBy (x qual : Str) (st : Stmt) (ps : List Str) : Prop := ∀ (kV doc pm : Value) (an : Option Addr) (cdv ct : Value) (us : List Value), us.length = ps.length →
  bindArgs (PySem.W.fnOf x qual (defArgs st) (defBody st) (defScope st) .none kV doc pm an cdv ct) ⟨us, []⟩ = pure (ps.zip us)
section
variable {P : Program} {w : World} {K : PySem.W.Frag} {mg : Str → Option Value} {base : Heap}
/-- a body that lets no exception out -/
def Body0 (P : Program) (w : World) (K : PySem.W.Frag) (mg : Str → Option Value) (base : Heap) (k : Nat) (N : List Str) (qual : Str) (st : Stmt) (sp : Sp) : Prop :=
  ∀ (f : Addr) (cdv : Value) (A : Around) (outer : List Env) (s : Shared) (H : Hp) (vs : List V) (Q : VK) (E : XK), Room k (A.deeper (envOfC qual (defScope st) s.heap.objs.size f cdv)) → sp vs H Q E →
      ∃ t, PSs (cxOf CX0 P w K mg base N qual (defScope st) f cdv A outer s H E).nox (defBody st) t ∧ t { nx := fun _ H' => Q .non H', rt := Q } (start N vs) H
/-- .. that may -/
def BodyX (P : Program) (w : World) (K : PySem.W.Frag) (mg : Str → Option Value) (base : Heap) (k : Nat) (N : List Str) (qual : Str) (st : Stmt) (sp : Sp) : Prop :=
  ∀ (f : Addr) (cdv : Value) (A : Around) (outer : List Env) (s : Shared) (H : Hp) (vs : List V) (Q : VK) (E : XK), Room k (A.deeper (envOfC qual (defScope st) s.heap.objs.size f cdv)) → sp vs H Q E →
      ∃ t, PSs (cxOf (L2.CX P w) P w K mg base N qual (defScope st) f cdv A outer s H E) (defBody st) t ∧ t { nx := fun _ H' => Q .non H', rt := Q } (start N vs) H
def LenOk (ps : List Str) (sp : Sp) : Prop := ∀ vs H Q E, sp vs H Q E → vs.length = ps.length
theorem cal0 {x nm : Str} {st : Stmt} {N ps : List Str} {k : Nat} {sp : Sp} (D : Def1 K mg x nm st) (S : FnScope N ps (defScope st)) (b : BindsBy nm nm st ps) (l : LenOk ps sp) (h : Body0 P w K mg base k N nm st sp) :
    CalX P w K mg base CX0 (k + 1) x sp := by
  obtain ⟨f, fd, F, hm⟩ := D.ex
  exact ⟨f, fd, ps, F.ok S l (h f), hm, F.kp, F.binds b⟩
theorem calX {x nm : Str} {st : Stmt} {N ps : List Str} {k : Nat} {sp : Sp} (D : Def1 K mg x nm st) (S : FnScope N ps (defScope st)) (b : BindsBy nm nm st ps) (l : LenOk ps sp) (h : BodyX P w K mg base k N nm st sp) :
    CalX P w K mg base (L2.CX P w) (k + 1) x sp := by
  obtain ⟨f, fd, F, hm⟩ := D.ex
  exact ⟨f, fd, ps, F.okX S l (h f), hm, F.kp, F.binds b⟩
theorem met0 {C : Addr} {m qual : Str} {st : Stmt} {N ps : List Str} {k : Nat} {sp : Sp} (D : Met1 K C m qual st) (S : FnScope N ps (defScope st)) (b : BindsBy m qual st ps) (l : LenOk ps sp) (h : Body0 P w K mg base k N qual st sp) :
    MetX P w K mg base CX0 (k + 1) C m sp := by
  obtain ⟨f, fd, F, hm⟩ := D.ex
  exact ⟨f, fd, ps, F.ok S l (h f), hm, D.cl, F.binds b⟩
theorem metX {C : Addr} {m qual : Str} {st : Stmt} {N ps : List Str} {k : Nat} {sp : Sp} (D : Met1 K C m qual st) (S : FnScope N ps (defScope st)) (b : BindsBy m qual st ps) (l : LenOk ps sp) (h : BodyX P w K mg base k N qual st sp) :
    MetX P w K mg base (L2.CX P w) (k + 1) C m sp := by
  obtain ⟨f, fd, F, hm⟩ := D.ex
  exact ⟨f, fd, ps, F.okX S l (h f), hm, D.cl, F.binds b⟩
theorem mak0 {C : Addr} {x qual : Str} {st : Stmt} {N ps : List Str} {k : Nat} {sp : Sp} (D : Mak1 K mg x C qual st) (S : FnScope N ps (defScope st)) (b : BindsBy "__init__" qual st ps) (l : LenOk ps sp) (h : Body0 P w K mg base k N qual st sp) :
    MakX P w K mg base (k + 1) x C sp := by
  obtain ⟨f, fd, F, hm⟩ := D.ex
  exact ⟨f, fd, ps, F.ok S l (h f), hm, D.mgC, F.binds b⟩
end
/-! ### calls of them -/
section
variable {X : Cx} {CX : CXT} {k j : Nat} {C : Addr} {x m : Str} {sp : Sp} {E : XK} {p pos apos : Pos} {e o : Expr} {es : List Expr} {ta : TE} {t : TA}
theorem pcall (c : CalX X.prog X.w X.K X.mg X.base CX k x sp) (hr : Room j X.A) (hk : k ≤ j) (hx : Passes CX X E) (ha : PA X (e :: es) t) (hg : Gl X x := by rfl)
    (hdb : (x == ("__debug__" : Str)) = false := by decide) (he : starEach (e :: es) X.env = (false, eval e X.env) :: starEach es X.env := by rfl) (hpl : (backTo pos (starEach es X.env)).any (·.1) = false := by rfl) :
    PE X (.Call (.Name x p) (e :: es) [] pos) (tCall sp [] E t) := by
  obtain ⟨f, fd, ps, F, hm, kp, b⟩ := c.ex
  exact pe_call F (hr.mono hk) hg hm kp b .nil hx ha hdb he hpl
theorem pcallS {E : L2.St → XK} (c : CalX X.prog X.w X.K X.mg X.base CX k x sp) (hr : Room j X.A) (hk : k ≤ j) (hx : ∀ σ, PassesAt CX X σ (E σ)) (ha : PA X (e :: es) t) (hg : Gl X x := by rfl)
    (hdb : (x == ("__debug__" : Str)) = false := by decide) (he : starEach (e :: es) X.env = (false, eval e X.env) :: starEach es X.env := by rfl) (hpl : (backTo pos (starEach es X.env)).any (·.1) = false := by rfl) :
    PE X (.Call (.Name x p) (e :: es) [] pos) (tCallS sp E t) := by
  obtain ⟨f, fd, ps, F, hm, kp, b⟩ := c.ex
  exact pe_callS F (hr.mono hk) hg hm kp b hx ha hdb he hpl
theorem pmake (c : MakX X.prog X.w X.K X.mg X.base k x C sp) (hr : Room j X.A) (hk : k + 1 ≤ j) (ha : PA X (e :: es) t) (hg : Gl X x := by rfl)
    (hdb : (x == ("__debug__" : Str)) = false := by decide) (he : starEach (e :: es) X.env = (false, eval e X.env) :: starEach es X.env := by rfl) (hpl : (backTo pos (starEach es X.env)).any (·.1) = false := by rfl) :
    PE X (.Call (.Name x p) (e :: es) [] pos) (tMake C sp [] E0 t) := by
  obtain ⟨f, fd, ps, F, M, hm, b⟩ := c.ex
  exact pe_make M F (hr.mono hk) hg hm b .nil pass0 ha hdb he hpl
theorem pmeth {pl : Sem Bool} (c : MetX X.prog X.w X.K X.mg X.base CX k C m sp) (hr : Room j X.A) (hk : k ≤ j) (hx : Passes CX X E) (he : PE X o ta) (ha : PA X (e :: es) t)
    (hst : starEach (e :: es) X.env = (false, eval e X.env) :: starEach es X.env := by rfl) (hpl : (backTo pos (starEach es X.env)).any (·.1) = false := by rfl)
    (ht : eval (.Call (.Attribute o m apos) (e :: es) [] pos) X.env = (do
      let ov ← eval o X.env
      standAt apos.atName
      let (f, first) ← holding [ov] (getMethod ov m pl)
      callWith pos f first (backTo pos (starEach (e :: es) X.env)) (backToKw pos (keywordEach [] X.env))) := by rfl) :
    PE X (.Call (.Attribute o m apos) (e :: es) [] pos) (tMeth C m sp [] E ta t) := by
  obtain ⟨f, fd, ps, F, hm, hc, b⟩ := c.ex
  exact pe_meth (pl := pl) he hc hm F (hr.mono hk) b .nil hx ha hst hpl ht
theorem pmeth0 {pl : Sem Bool} (c : MetX X.prog X.w X.K X.mg X.base CX k C m sp) (hr : Room j X.A) (hk : k ≤ j) (hx : Passes CX X E) (he : PE X o ta)
    (ht : eval (.Call (.Attribute o m apos) [] [] pos) X.env = (do
      let ov ← eval o X.env
      standAt apos.atName
      let (f, first) ← holding [ov] (getMethod ov m pl)
      callWith pos f first (backTo pos (starEach [] X.env)) (backToKw pos (keywordEach [] X.env))) := by rfl) :
    PE X (.Call (.Attribute o m apos) [] [] pos) (tMeth C m sp [] E ta tNil) := by
  obtain ⟨f, fd, ps, F, hm, hc, b⟩ := c.ex
  exact pe_meth0 (pl := pl) he hc hm F (hr.mono hk) b .nil hx ht
end
end Ad

/-! ## D1 -/
set_option Elab.async false
set_option linter.all false
set_option maxRecDepth 100000
set_option maxHeartbeats 4000000
namespace Ad
open PySem PySem.Spec PyProof.Rows L2
/-- a module's number -/
def IntC (mg : Str → Option Value) (x : Str) (n : Int) : Prop := ∃ t, mg x = some (.int n t)
theorem pcon {X : Cx} {x : Str} {n : Int} {p : Pos} (h : IntC X.mg x n) (hg : Gl X x := by rfl) (hd : (x == ("__debug__" : Str)) = false := by decide) : PE X (.Name x p) (tC (.int n)) := by
  obtain ⟨t, h⟩ := h
  exact pe_glob hg h ⟨_, rfl⟩ hd
/-- what the builtins' names are in the module: nothing of its own -/
structure Blt (mg : Str → Option Value) : Prop where
  len : mg "len" = none
  list : mg "list" = none
  tuple : mg "tuple" = none
  min : mg "min" = none
  max : mg "max" = none
  all : mg "all" = none
  any : mg "any" = none
  sum : mg "sum" = none
  range : mg "range" = none
  sorted : mg "sorted" = none
  enumerate : mg "enumerate" = none
/-- len(x), list(x), tuple(x) of a list or a tuple -/
def rLen1 (K : PySem.W.Frag) : List V → Hp → VK → Prop := fun xs H Q => ∃ p ys, xs = [.ref p] ∧ (SqL K H p ys ∨ SqT K H p ys) ∧ Q (.int ys.length) H
def rList1 (K : PySem.W.Frag) : List V → Hp → VK → Prop := fun xs H Q => ∃ p ys, xs = [.ref p] ∧ (SqL K H p ys ∨ SqT K H p ys) ∧ ∀ l, H l = none → Q (.ref l) (upd H l (.lst ys))
def rTuple1 (K : PySem.W.Frag) : List V → Hp → VK → Prop := fun xs H Q => ∃ p ys, xs = [.ref p] ∧ ((SqL K H p ys ∧ ∀ l, H l = none → Q (.ref l) (upd H l (.tup ys))) ∨ (SqT K H p ys ∧ Q (.ref p) H))
section
variable {X : Cx} {a : Expr} {ta : TE} {p pos : Pos}
theorem plen (B : Blt X.mg) (ha : PE X a ta) (hg : Gl X "len" := by rfl) (he : starEach [a] X.env = (false, eval a X.env) :: starEach [] X.env := by rfl) (hpl : (backTo pos (starEach [] X.env)).any (·.1) = false := by rfl) :
    PE X (.Call (.Name "len" p) [a] [] pos) (tCB (rLen1 X.K) (tCons ta tNil)) := pe_callB (r := rLen1 X.K) call_len_seq hg B.len PySem.boot_len (pa_cons ha pa_nil he) (by decide) (by decide) he hpl
theorem plist (B : Blt X.mg) (ha : PE X a ta) (hg : Gl X "list" := by rfl) (he : starEach [a] X.env = (false, eval a X.env) :: starEach [] X.env := by rfl) (hpl : (backTo pos (starEach [] X.env)).any (·.1) = false := by rfl) :
    PE X (.Call (.Name "list" p) [a] [] pos) (tCB (rList1 X.K) (tCons ta tNil)) := pe_callTy (r := rList1 X.K) call_list_of hg B.list (by decide +kernel) (pa_cons ha pa_nil he) (by decide) (by decide) he hpl
theorem ptuple (B : Blt X.mg) (ha : PE X a ta) (hg : Gl X "tuple" := by rfl) (he : starEach [a] X.env = (false, eval a X.env) :: starEach [] X.env := by rfl) (hpl : (backTo pos (starEach [] X.env)).any (·.1) = false := by rfl) :
    PE X (.Call (.Name "tuple" p) [a] [] pos) (tCB (rTuple1 X.K) (tCons ta tNil)) := pe_callTy (r := rTuple1 X.K) call_tuple_of hg B.tuple (by decide +kernel) (pa_cons ha pa_nil he) (by decide) (by decide) he hpl
end
/-! ### thing_bytes -/
abbrev sThing : Stmt := top 19
theorem scThing : FnScope ["mark", "content", "many"] ["mark", "content"] (defScope sThing) := ⟨rfl, rfl, rfl, by decide +kernel, rfl, by decide +kernel, by decide +kernel⟩
theorem bThing : BindsBy "thing_bytes" "thing_bytes" sThing ["mark", "content"] := fun _ _ _ _ _ _ us hl => match us, hl with | [_, _], _ => rfl
def spThing (K : PySem.W.Frag) : Sp := fun vs H Q _ => ∃ (t : Nat) (a : Addr) (b : List Nat), vs = [.int (t : Int), .ref a] ∧ SqL K H a (nV b) ∧ b.length ≤ 8000000 ∧
  ∀ H' p, Same H H' → H p = none → H' p = some (.lst (nV (Sd23.tlv t b))) → Q (.ref p) H'
theorem tlv_short {t : Nat} {b : List Nat} (h : b.length < 128) : Sd23.tlv t b = t :: b.length :: b := by
  unfold Sd23.tlv Sd23.len
  rw [if_pos h]
  rfl
theorem tlv_one {t : Nat} {b : List Nat} (h : ¬ b.length < 128) (h2 : b.length < 256) : Sd23.tlv t b = t :: 129 :: b.length :: b := by
  unfold Sd23.tlv Sd23.len
  rw [if_neg h, if_pos h2]
  rfl
theorem tlv_two {t : Nat} {b : List Nat} (h2 : ¬ b.length < 256) : Sd23.tlv t b = t :: 130 :: b.length / 256 :: b.length % 256 :: b := by
  unfold Sd23.tlv Sd23.len
  rw [if_neg (by omega), if_neg h2]
  rfl
section
variable {P : Program} {w : World} {K : PySem.W.Frag} {mg : Str → Option Value} {base : Heap}
theorem ok_thing (D : Def1 K mg "thing_bytes" "thing_bytes" sThing) (B : Blt mg) : CalX P w K mg base CX0 1 "thing_bytes" (spThing K) := by
  refine cal0 D scThing bThing (fun vs H Q E h => ?_) fun f cdv A outer s H vs Q E hr h => ?_
  · obtain ⟨t, a, b, rfl, _⟩ := h
    rfl
  · obtain ⟨t, a, b, rfl, hS, hl, k⟩ := h
    refine ⟨_, pss_cons (ps_set (i := 2) scThing.nd rfl (.inl rfl) (plen B (pv 1)))
      (pss_cons (ps_if (pt_cmpR op_lt (pv 2) pe_int (nomark _)) (pss_one (ps_ret (pe_op op_cat (pe_lst (pa_cons (pv 0) (pa_cons (pv 2) pa_nil))) (plist B (pv 1))))) pss_nil)
      (pss_cons (ps_if (pt_cmpR op_lt (pv 2) pe_int (nomark _)) (pss_one (ps_ret (pe_op op_cat (pe_lst (pa_cons (pv 0) (pa_cons pe_int (pa_cons (pv 2) pa_nil)))) (plist B (pv 1))))) pss_nil)
      (pss_one (ps_ret (pe_op op_cat (pe_lst (pa_cons (pv 0) (pa_cons pe_int (pa_cons (pe_op op_fdiv (pv 2) pe_int) (pa_cons (pe_op op_mod (pv 2) pe_int) pa_nil))))) (plist B (pv 1))))))), ?_⟩
    have e8 : sizeLine = 16777216 := sizeLine_eq
    have eL : (nV b).length = b.length := nV_length b
    refine ⟨_, rfl, a, _, rfl, .inl hS, ?_⟩
    rw [eL]
    refine ⟨_, rfl, _, _, rfl, rfl, _, rfl, ?_⟩
    refine ifB (fun c => ?_) (fun c => ?_)
    · have c1 : b.length < 128 := by have := of_decide_eq_true c; omega
      refine ⟨_, rfl, _, rfl, (by show 2 ≤ sizeLine; decide), fun l1 h1 => ⟨_, rfl, a, _, rfl, .inl ((Same.new h1).seq hS), fun l2 h2 => ?_⟩⟩
      refine ⟨l1, l2, _, _, rfl, rfl, (by rw [upd_ne (upd_free h2).2.symm, upd_same]), upd_same, (by rw [eL, e8]; show 2 + b.length ≤ 16777216; omega), fun p hp => ?_⟩
      have h2' := upd_free h2
      have h3' := upd_free hp
      refine k _ p (((Same.new h1).trans (Same.new h2)).trans (Same.new hp)) (upd_free h3'.1).1 ?_
      rw [upd_same, tlv_short c1]
      rfl
    refine ⟨_, rfl, _, _, rfl, rfl, _, rfl, ?_⟩
    refine ifB (fun c2 => ?_) (fun c2 => ?_)
    · have c1 : ¬ b.length < 128 := by intro q; have := of_decide_eq_false c; omega
      have c2' : b.length < 256 := by have := of_decide_eq_true c2; omega
      refine ⟨_, rfl, _, rfl, (by show 3 ≤ sizeLine; decide), fun l1 h1 => ⟨_, rfl, a, _, rfl, .inl ((Same.new h1).seq hS), fun l2 h2 => ?_⟩⟩
      refine ⟨l1, l2, _, _, rfl, rfl, (by rw [upd_ne (upd_free h2).2.symm, upd_same]), upd_same, (by rw [eL, e8]; show 3 + b.length ≤ 16777216; omega), fun p hp => ?_⟩
      have h2' := upd_free h2
      have h3' := upd_free hp
      refine k _ p (((Same.new h1).trans (Same.new h2)).trans (Same.new hp)) (upd_free h3'.1).1 ?_
      rw [upd_same, tlv_one c1 c2']
      rfl
    have c2' : ¬ b.length < 256 := by intro q; have := of_decide_eq_false c2; omega
    refine ⟨_, rfl, _, rfl, _, _, rfl, rfl, ⟨by decide, by decide⟩, _, rfl, _, _, rfl, rfl, (show (0 : Int) < 256 by decide), (by show 4 ≤ sizeLine; decide), fun l1 h1 => ⟨_, rfl, a, _, rfl, .inl ((Same.new h1).seq hS), fun l2 h2 => ?_⟩⟩
    refine ⟨l1, l2, _, _, rfl, rfl, (by rw [upd_ne (upd_free h2).2.symm, upd_same]), upd_same, (by rw [eL, e8]; show 4 + b.length ≤ 16777216; omega), fun p hp => ?_⟩
    have h2' := upd_free h2
    have h3' := upd_free hp
    refine k _ p (((Same.new h1).trans (Same.new h2)).trans (Same.new hp)) (upd_free h3'.1).1 ?_
    rw [upd_same, tlv_two c2']
    rfl
end
end Ad

/-! ## D2 -/
set_option Elab.async false
set_option linter.all false
set_option maxRecDepth 100000
set_option maxHeartbeats 4000000
namespace Ad
open PySem PySem.Spec PyProof.Rows L2
theorem atz {xs : List V} {v : V} {r : List V} (h : xs = v :: r) : atI xs 0 = some v := at_of (j := 0) rfl (by rw [h]; rfl)
theorem at1 {xs : List V} {u v : V} {r : List V} (h : xs = u :: v :: r) : atI xs 1 = some v := at_of (j := 1) rfl (by rw [h]; rfl)
theorem dI {m n : Nat} : decide (V.int (m : Int) = V.int (n : Int)) = decide (m = n) := decide_eq_decide.mpr ⟨fun h => Int.ofNat.inj (V.int.inj h), fun h => by rw [h]⟩
/-! ### is_whole -/
abbrev sIsWhole : Stmt := top 20
theorem scIsWhole : FnScope ["content", "spare"] ["content"] (defScope sIsWhole) := ⟨rfl, rfl, rfl, by decide +kernel, rfl, by decide +kernel, by decide +kernel⟩
theorem bIsWhole : BindsBy "is_whole" "is_whole" sIsWhole ["content"] := fun _ _ _ _ _ _ us hl => match us, hl with | [_], _ => rfl
def spIsWhole (K : PySem.W.Frag) : Sp := fun vs H Q _ => ∃ (a : Addr) (b : List Nat), vs = [.ref a] ∧ SqL K H a (nV b) ∧ Q (.bl (isWhole b)) H
section
variable {P : Program} {w : World} {K : PySem.W.Frag} {mg : Str → Option Value} {base : Heap}
theorem ok_isWhole (D : Def1 K mg "is_whole" "is_whole" sIsWhole) (B : Blt mg) : CalX P w K mg base CX0 1 "is_whole" (spIsWhole K) := by
  refine cal0 D scIsWhole bIsWhole (fun vs H Q E h => ?_) fun f cdv A outer s H vs Q E hr h => ?_
  · obtain ⟨a, b, rfl, _⟩ := h
    rfl
  · obtain ⟨a, b, rfl, hS, k⟩ := h
    refine ⟨_, pss_cons (ps_if (pt_cmpR op_eq (plen B (pv 0)) pe_int (nomark _)) (pss_one (ps_ret pe_bl)) pss_nil)
      (pss_cons (ps_if (pt_cmpR op_eq (plen B (pv 0)) pe_int (nomark _)) (pss_one (ps_ret pe_bl)) pss_nil)
      (pss_cons (ps_set (i := 1) scIsWhole.nd rfl (.inl rfl) (pe_or
          (pe_and (pe_cmpR op_eq (pe_ix ix_list (pv 0) pe_int (fun _ _ => rfl)) pe_int (nomark _)) (pe_one (pe_cmpR op_lt (pe_ix ix_list (pv 0) pe_int (fun _ _ => rfl)) pe_int (nomark _))))
          (pe_one (pe_and (pe_cmpR op_eq (pe_ix ix_list (pv 0) pe_int (fun _ _ => rfl)) pe_int (nomark _)) (pe_one (pe_cmpR op_ge (pe_ix ix_list (pv 0) pe_int (fun _ _ => rfl)) pe_int (nomark _)))))))
      (pss_one (ps_ret (pe_not (pv 1)))))), ?_⟩
    have eL : (nV b).length = b.length := nV_length b
    refine ⟨_, rfl, a, _, rfl, .inl hS, rfl, _, rfl, ?_⟩
    rw [eL]
    refine ifB (fun c => ?_) (fun c => ?_)
    · have c1 : b.length = 0 := by
        have := V.int.inj (of_decide_eq_true c)
        omega
      have : b = [] := List.eq_nil_of_length_eq_zero c1
      subst this
      exact k
    have c1 : b.length ≠ 0 := fun q => of_decide_eq_false c (by rw [q]; rfl)
    refine ⟨_, rfl, a, _, rfl, .inl hS, rfl, _, rfl, ?_⟩
    rw [eL]
    refine ifB (fun c2 => ?_) (fun c2 => ?_)
    · have c3 : b.length = 1 := by
        have := V.int.inj (of_decide_eq_true c2)
        omega
      match b, c3 with
      | [_], _ => exact k
    have c3 : b.length ≠ 1 := fun q => of_decide_eq_false c2 (by rw [q]; rfl)
    match b, c1, c3 with
    | [], c1, _ => exact absurd rfl c1
    | [_], _, c3 => exact absurd rfl c3
    | x :: y :: r, _, _ =>
      have r0 := atz (xs := nV (x :: y :: r)) rfl
      have r1 := at1 (xs := nV (x :: y :: r)) rfl
      have d0 : decide (V.int (x : Int) = V.int 0) = (x == 0) := dI (n := 0)
      have d1 : decide (V.int (x : Int) = V.int 255) = (x == 255) := dI (n := 255)
      have d2 : decide ((y : Int) < 128) = decide (y < 128) := decide_eq_decide.mpr (by omega)
      have d3 : decide (128 ≤ (y : Int)) = decide (128 ≤ y) := decide_eq_decide.mpr (by omega)
      have e : isWhole (x :: y :: r) = !((x == 0 && decide (y < 128)) || (x == 255 && decide (128 ≤ y))) := rfl
      rw [e] at k
      refine ⟨_, rfl, a, _, _, _, rfl, rfl, hS, r0, rfl, _, rfl, ?_⟩
      rw [d0]
      have fin : ∀ z : Bool, (z = ((x == 0 && decide (y < 128)) || (x == 255 && decide (128 ≤ y)))) → ∃ v, ([some (V.ref a), some (V.bl z)] : List (Option V))[1]? = some (some v) ∧ ∃ c, v = .bl c ∧ Q (.bl (!c)) H := fun z hz => ⟨_, rfl, _, rfl, by rw [hz]; exact k⟩
      have second : ∀ z1 : Bool, z1 = false → (z1 = (x == 0 && decide (y < 128))) → ∃ v, ([some (V.ref a), none] : List (Option V))[0]? = some (some v) ∧
          rIxL K v (.int 0) H fun v1 H1 => scal v1 (.int 255) = true ∧ ∃ c, V.bl (decide (v1 = .int 255)) = .bl c ∧ if c = true then
            (∃ v, ([some (V.ref a), none] : List (Option V))[0]? = some (some v) ∧ rIxL K v (.int 1) H1 fun v2 H2 => ∃ i j, v2 = .int i ∧ V.int 128 = .int j ∧ tRet (tNotV (tVar 1)) { nx := fun _ H' => Q .non H', rt := Q } [some (V.ref a), some (.bl (decide (j ≤ i)))] H2)
            else tRet (tNotV (tVar 1)) { nx := fun _ H' => Q .non H', rt := Q } [some (V.ref a), some (.bl false)] H1 := by
        intro z1 hz hz1
        refine ⟨_, rfl, a, _, _, _, rfl, rfl, hS, r0, rfl, _, rfl, ?_⟩
        rw [d1]
        refine ifB (fun q => ?_) (fun q => ?_)
        · refine ⟨_, rfl, a, _, _, _, rfl, rfl, hS, r1, _, _, rfl, rfl, ?_⟩
          refine fin _ ?_
          rw [d3, ← hz1, hz, q]
          rfl
        · refine fin _ ?_
          rw [← hz1, hz, q]
          rfl
      refine ifB (fun q => ?_) (fun q => ?_)
      · refine ⟨_, rfl, a, _, _, _, rfl, rfl, hS, r1, _, _, rfl, rfl, _, rfl, ?_⟩
        rw [d2]
        refine ifB (fun q2 => ?_) (fun q2 => ?_)
        · exact fin _ (by rw [q, q2]; rfl)
        · exact second false rfl (by rw [q, q2]; rfl)
      · refine ⟨_, rfl, ?_⟩
        exact ifF rfl (second false rfl (by rw [q]; rfl))
end
end Ad

/-! ## D3 -/
set_option Elab.async false
set_option linter.all false
set_option maxRecDepth 100000
set_option maxHeartbeats 400000
namespace Ad
open PySem PySem.Spec PyProof.Rows L2
theorem take_more {α : Type} : ∀ {l : List α} {i : Nat} {x : α}, l[i]? = some x → l.take (i + 1) = l.take i ++ [x]
  | [], i, x, h => by simp at h
  | a :: l, 0, x, h => by
    have e : a = x := Option.some.inj h
    subst e
    rfl
  | a :: l, i + 1, x, h => by
    have ih := take_more (l := l) (i := i) (x := x) h
    show a :: l.take (i + 1) = a :: l.take i ++ [x]
    rw [ih]
    rfl
theorem natOf_more {b : List Nat} {i n : Nat} (h : b[i]? = some n) : natOf (b.take (i + 1)) = 256 * natOf (b.take i) + n := by
  unfold natOf
  rw [take_more h, List.foldl_append]
  rfl
/-! ### whole_of -/
abbrev sWholeOf : Stmt := top 21
theorem scWholeOf : FnScope ["content", "n", "byte"] ["content"] (defScope sWholeOf) := ⟨rfl, rfl, rfl, by decide +kernel, rfl, by decide +kernel, by decide +kernel⟩
theorem bWholeOf : BindsBy "whole_of" "whole_of" sWholeOf ["content"] := fun _ _ _ _ _ _ us hl => match us, hl with | [_], _ => rfl
def spWholeOf (K : PySem.W.Frag) : Sp := fun vs H Q _ => ∃ (a : Addr) (b : List Nat), vs = [.ref a] ∧ SqL K H a (nV b) ∧ b ≠ [] ∧ b.length ≤ 100000 ∧ Q (.int (wholeOf b)) H
theorem pow8 (n : Nat) : (1 : Int) * 2 ^ ((8 : Int) * (n : Int)).toNat = 256 ^ n := by
  have e : ((8 : Int) * (n : Int)).toNat = 8 * n := by omega
  rw [e, Int.one_mul]
  have : (2 : Nat) ^ (8 * n) = 256 ^ n := by rw [Nat.pow_mul]
  have h := congrArg (fun z : Nat => (z : Int)) this
  simpa using h
section
variable {P : Program} {w : World} {K : PySem.W.Frag} {mg : Str → Option Value} {base : Heap}
theorem ok_wholeOf (D : Def1 K mg "whole_of" "whole_of" sWholeOf) (B : Blt mg) : CalX P w K mg base CX0 1 "whole_of" (spWholeOf K) := by
  refine cal0 D scWholeOf bWholeOf (fun vs H Q E h => ?_) fun f cdv A outer s H vs Q E hr h => ?_
  · obtain ⟨a, b, rfl, _⟩ := h
    rfl
  · obtain ⟨a, b, rfl, hS, hne, hl, k⟩ := h
    refine ⟨_, pss_cons (ps_set (i := 1) scWholeOf.nd rfl (.inl rfl) pe_int)
      (pss_cons (ps_for PassesOwn.never rfl (pi_list (pv 0)) (pg_name (i := 2) scWholeOf.nd rfl (.inl rfl))
        (pss_one (ps_set (i := 1) scWholeOf.nd rfl (.inl rfl) (pe_op op_add (pe_op op_mul pe_int (pv 1)) (pv 2)))))
      (pss_one (ps_ret (pe_ifExp (pt_cmpR op_ge (pe_ix ix_list (pv 0) pe_int (fun _ _ => rfl)) pe_int (nomark _))
        (pe_op op_sub (pv 1) (pe_op op_shl pe_int (pe_op op_mul pe_int (plen B (pv 0))))) (pv 1))))), ?_⟩
    have eL : (nV b).length = b.length := nV_length b
    refine ⟨_, rfl, a, rfl, ⟨_, hS⟩, for_list (K := K) (a := a) (xs := nV b) (fun i σ H' => H' = H ∧ ∃ v : Option V, σ = [some (.ref a), some (.int (natOf (b.take i) : Int)), v]) ⟨rfl, none, rfl⟩ (fun i σ H' _ ⟨e, _⟩ => by rw [e]; exact hS) ?_ ?_⟩
    · rintro i y σ H' hi ⟨rfl, v, rfl⟩
      obtain ⟨n, hn, rfl⟩ := nV_of hi
      refine ⟨_, rfl, _, _, rfl, rfl, .inl ⟨by decide, by decide⟩, _, rfl, _, _, rfl, rfl, rfl, some (.int (n : Int)), ?_⟩
      rw [natOf_more hn, Int.natCast_add, Int.natCast_mul]
      rfl
    · rintro σ H' ⟨rfl, v, rfl⟩
      rw [eL, List.take_length]
      obtain ⟨x, r, rfl⟩ := List.exists_cons_of_ne_nil hne
      · have d3 : decide (128 ≤ (x : Int)) = decide (128 ≤ x) := decide_eq_decide.mpr (by omega)
        refine ⟨_, rfl, a, _, _, _, rfl, rfl, hS, atz (xs := nV (x :: r)) rfl, _, _, rfl, rfl, _, rfl, ?_⟩
        rw [d3]
        unfold wholeOf at k
        rw [List.headD_cons] at k
        refine ifB (fun q => ?_) (fun q => ?_)
        · rw [if_pos (of_decide_eq_true q)] at k
          refine ⟨_, rfl, _, rfl, a, _, rfl, .inl hS, ?_⟩
          rw [eL]
          have hp : CPow 1 ((8 : Int) * ((x :: r).length : Int)) := ⟨by omega, by omega, by decide⟩
          refine ⟨_, _, rfl, rfl, .inl ⟨by decide, by decide⟩, 1, (8 : Int) * ((x :: r).length : Int), rfl, rfl, hp, ?_⟩
          generalize hz : (x :: r).length = len at *
          refine ⟨_, _, rfl, rfl, ?_⟩
          show Q (.int ((natOf (x :: r) : Int) - 1 * 2 ^ ((8 : Int) * (len : Int)).toNat)) H'
          rw [pow8]
          exact k
        · rw [if_neg (of_decide_eq_false q)] at k
          exact ⟨_, rfl, k⟩
end
/-! ### whole_bytes -/
abbrev sWholeBytes : Stmt := top 22
theorem scWholeBytes : FnScope ["n", "content"] ["n"] (defScope sWholeBytes) := ⟨rfl, rfl, rfl, by decide +kernel, rfl, by decide +kernel, by decide +kernel⟩
theorem bWholeBytes : BindsBy "whole_bytes" "whole_bytes" sWholeBytes ["n"] := fun _ _ _ _ _ _ us hl => match us, hl with | [_], _ => rfl
def spWholeBytes : Sp := fun vs H Q _ => ∃ (n : Nat), vs = [.int (n : Int)] ∧ n < 65536 ∧ ∀ H' p, Same H H' → H p = none → H' p = some (.lst (nV (wholeBytes n))) → Q (.ref p) H'
theorem idiv (n m : Nat) : ((n : Int) / (m : Int)) = ((n / m : Nat) : Int) := (Int.natCast_ediv n m).symm
theorem imod (n m : Nat) : ((n : Int) % (m : Int)) = ((n % m : Nat) : Int) := (Int.natCast_emod n m).symm
theorem pbF_head : ∀ (d h n : Nat) (acc : List Nat), acc ≠ [] → pbF d h n acc ≠ [] := by
  intro d h n
  induction n using Nat.strongRecOn with
  | _ n ih =>
    intro acc ha
    rw [pbF]
    split
    · exact ha
    · exact ih _ (Nat.div_lt_self (by omega) (by omega)) _ (by simp)
section
variable {P : Program} {w : World} {K : PySem.W.Frag} {mg : Str → Option Value} {base : Heap}
theorem ok_wholeBytes (D : Def1 K mg "whole_bytes" "whole_bytes" sWholeBytes) : CalX P w K mg base CX0 1 "whole_bytes" spWholeBytes := by
  refine cal0 D scWholeBytes bWholeBytes (fun vs H Q E h => ?_) fun f cdv A outer s H vs Q E hr h => ?_
  · obtain ⟨n, rfl, _⟩ := h
    rfl
  · obtain ⟨n, rfl, hn, k⟩ := h
    refine ⟨_, pss_cons (ps_set (i := 1) scWholeBytes.nd rfl (.inl rfl) (pe_lst (pa_cons (pe_op op_mod (pv 0) pe_int) pa_nil)))
      (pss_cons (ps_set (i := 0) scWholeBytes.nd rfl (.inl rfl) (pe_op op_fdiv (pv 0) pe_int))
      (pss_cons (ps_while PassesOwn.never (pt_cmpR op_gt (pv 0) pe_int (nomark _))
        (pss_cons (ps_expr (pe_bm PySem.F.plainAttrs_list PySem.F.slot_list_insert PySem.F.type_list_insert mt_insert (pv 1) (pa_cons pe_int (pa_cons (pe_op op_mod (pv 0) pe_int) pa_nil))))
        (pss_one (ps_set (i := 0) scWholeBytes.nd rfl (.inl rfl) (pe_op op_fdiv (pv 0) pe_int)))))
      (pss_one (ps_ret (pe_ifExp (pt_cmpR op_ge (pe_ix ix_list (pv 1) pe_int (fun _ _ => rfl)) pe_int (nomark _)) (pe_op op_cat (pe_lst (pa_cons pe_int pa_nil)) (pv 1)) (pv 1)))))), ?_⟩
    have e8 : sizeLine = 16777216 := sizeLine_eq
    refine ⟨_, rfl, _, _, rfl, rfl, (show (0 : Int) < 256 by decide), (by show 1 ≤ sizeLine; decide), fun p hp => ?_⟩
    refine ⟨_, rfl, _, _, rfl, rfl, ⟨by decide, by decide⟩, ?_⟩
    refine ⟨fun m σ H' => ∃ acc : List Nat, σ = [some (.int (m : Int)), some (.ref p)] ∧ H' = upd H p (.lst (nV acc)) ∧ pbF 256 0 m acc = pbF 256 0 (n / 256) [n % 256] ∧ acc.length + m ≤ 70000 ∧ acc ≠ [],
      ⟨n / 256, [n % 256], ?_, ?_, rfl, by simp; omega, by simp⟩, ?_⟩
    · exact congrArg (fun z : Int => [some (V.int z), some (V.ref p)]) (idiv n 256)
    · exact congrArg (fun z : Int => upd H p (.lst [V.int z])) (imod n 256)
    · rintro m σ H' ⟨acc, rfl, rfl, hacc, hlen, hne⟩
      refine ⟨_, rfl, _, _, rfl, rfl, _, rfl, ?_⟩
      refine ifB (fun q => ?_) (fun q => ?_)
      · have hm : 0 < m := by have := of_decide_eq_true q; omega
        refine ⟨fun σ' H'' => ∃ acc : List Nat, σ' = [some (.int ((m / 256 : Nat) : Int)), some (.ref p)] ∧ H'' = upd H p (.lst (nV acc)) ∧ pbF 256 0 (m / 256) acc = pbF 256 0 (n / 256) [n % 256] ∧ acc.length + m / 256 ≤ 70000 ∧ acc ≠ [],
          fun σ' H'' h => ⟨m / 256, Nat.div_lt_self hm (by decide), h⟩, ?_⟩
        refine ⟨_, rfl, .inl ⟨rfl, _, SqL.of upd_same⟩, _, rfl, _, _, rfl, rfl, (show (0 : Int) < 256 by decide), p, _, _, _, rfl, rfl, upd_same, ?_, by decide, by decide, ?_⟩
        · rw [nV_length, e8]
          omega
        refine ⟨_, rfl, _, _, rfl, rfl, ⟨by decide, by decide⟩, m % 256 :: acc, ?_, ?_, ?_, ?_, by simp⟩
        · exact congrArg (fun z : Int => [some (V.int z), some (V.ref p)]) (idiv m 256)
        · exact upd_upd.trans (congrArg (fun z : Int => upd H p (.lst (V.int z :: nV acc))) (imod m 256))
        · rw [← hacc, pbF_pos (by decide) hm]
          rw [Nat.zero_add]
        · simp
          omega
      · have hm : m = 0 := by have := of_decide_eq_false q; omega
        subst hm
        rw [pbF_zero] at hacc
        have hw : wholeBytes n = if 128 ≤ acc.headD 0 then 0 :: acc else acc := by
          unfold wholeBytes
          rw [← hacc]
        obtain ⟨x, r, rfl⟩ := List.exists_cons_of_ne_nil hne
        · have d3 : decide (128 ≤ (x : Int)) = decide (128 ≤ x) := decide_eq_decide.mpr (by omega)
          refine ⟨_, rfl, p, _, _, _, rfl, rfl, SqL.of upd_same, atz (xs := nV (x :: r)) rfl, _, _, rfl, rfl, _, rfl, ?_⟩
          rw [d3]
          rw [List.headD_cons] at hw
          refine ifB (fun q => ?_) (fun q => ?_)
          · rw [if_pos (of_decide_eq_true q)] at hw
            refine ⟨(by show 1 ≤ sizeLine; decide), fun l hl => ⟨_, rfl, l, p, _, nV (x :: r), rfl, rfl, upd_same, ?_, ?_, fun z hz => ?_⟩⟩
            · rw [upd_ne (upd_free hl).2.symm, upd_same]
            · rw [e8, nV_length]
              show 1 + (x :: r).length ≤ 16777216
              omega
            · have h3 := upd_free hz
              have h4 := upd_free h3.1
              refine k _ z (((Same.new hp).trans (Same.new hl)).trans (Same.new hz)) h4.1 ?_
              rw [upd_same, hw]
              rfl
          · rw [if_neg (of_decide_eq_false q)] at hw
            refine ⟨_, rfl, k _ p (Same.new hp) hp ?_⟩
            rw [upd_same, hw]
end
/-! ### part_bytes -/
abbrev sPart : Stmt := top 26
theorem scPart : FnScope ["n", "content"] ["n"] (defScope sPart) := ⟨rfl, rfl, rfl, by decide +kernel, rfl, by decide +kernel, by decide +kernel⟩
theorem bPart : BindsBy "part_bytes" "part_bytes" sPart ["n"] := fun _ _ _ _ _ _ us hl => match us, hl with | [_], _ => rfl
def spPart : Sp := fun vs H Q _ => ∃ (n : Nat), vs = [.int (n : Int)] ∧ n < 128 ^ 6 ∧ ∀ H' p, Same H H' → H p = none → H' p = some (.lst (nV (partBytes n))) → Q (.ref p) H'
section
variable {P : Program} {w : World} {K : PySem.W.Frag} {mg : Str → Option Value} {base : Heap}
theorem ok_part (D : Def1 K mg "part_bytes" "part_bytes" sPart) : CalX P w K mg base CX0 1 "part_bytes" spPart := by
  refine cal0 D scPart bPart (fun vs H Q E h => ?_) fun f cdv A outer s H vs Q E hr h => ?_
  · obtain ⟨n, rfl, _⟩ := h
    rfl
  · obtain ⟨n, rfl, hn, k⟩ := h
    refine ⟨_, pss_cons (ps_set (i := 1) scPart.nd rfl (.inl rfl) (pe_lst (pa_cons (pe_op op_mod (pv 0) pe_int) pa_nil)))
      (pss_cons (ps_set (i := 0) scPart.nd rfl (.inl rfl) (pe_op op_fdiv (pv 0) pe_int))
      (pss_cons (ps_while PassesOwn.never (pt_cmpR op_gt (pv 0) pe_int (nomark _))
        (pss_cons (ps_expr (pe_bm PySem.F.plainAttrs_list PySem.F.slot_list_insert PySem.F.type_list_insert mt_insert (pv 1) (pa_cons pe_int (pa_cons (pe_op op_add pe_int (pe_op op_mod (pv 0) pe_int)) pa_nil))))
        (pss_one (ps_set (i := 0) scPart.nd rfl (.inl rfl) (pe_op op_fdiv (pv 0) pe_int)))))
      (pss_one (ps_ret (pv 1))))), ?_⟩
    have e8 : sizeLine = 16777216 := sizeLine_eq
    refine ⟨_, rfl, _, _, rfl, rfl, (show (0 : Int) < 128 by decide), (by show 1 ≤ sizeLine; decide), fun p hp => ?_⟩
    refine ⟨_, rfl, _, _, rfl, rfl, ⟨by decide, by decide⟩, ?_⟩
    refine ⟨fun m σ H' => ∃ (acc : List Nat) (j : Nat), σ = [some (.int (m : Int)), some (.ref p)] ∧ H' = upd H p (.lst (nV acc)) ∧ pbF 128 128 m acc = partBytes n ∧ m < 128 ^ j ∧ acc.length + j ≤ 10,
      ⟨n / 128, [n % 128], 6, ?_, ?_, rfl, by omega, by simp⟩, ?_⟩
    · exact congrArg (fun z : Int => [some (V.int z), some (V.ref p)]) (idiv n 128)
    · exact congrArg (fun z : Int => upd H p (.lst [V.int z])) (imod n 128)
    · rintro m σ H' ⟨acc, j, rfl, rfl, hacc, hj, hlen⟩
      refine ⟨_, rfl, _, _, rfl, rfl, _, rfl, ?_⟩
      refine ifB (fun q => ?_) (fun q => ?_)
      · have hm : 0 < m := by have := of_decide_eq_true q; omega
        obtain ⟨j', rfl⟩ : ∃ j', j = j' + 1 := ⟨j - 1, by
          have : j ≠ 0 := by
            intro z
            subst z
            simp at hj
            omega
          omega⟩
        have hj' : m / 128 < 128 ^ j' := by
          rw [Nat.div_lt_iff_lt_mul (by decide)]
          rw [Nat.pow_succ] at hj
          exact hj
        refine ⟨fun σ' H'' => ∃ (acc : List Nat) (j : Nat), σ' = [some (.int ((m / 128 : Nat) : Int)), some (.ref p)] ∧ H'' = upd H p (.lst (nV acc)) ∧ pbF 128 128 (m / 128) acc = partBytes n ∧ m / 128 < 128 ^ j ∧ acc.length + j ≤ 10,
          fun σ' H'' h => ⟨m / 128, Nat.div_lt_self hm (by decide), h⟩, ?_⟩
        refine ⟨_, rfl, .inl ⟨rfl, _, SqL.of upd_same⟩, _, rfl, _, _, rfl, rfl, (show (0 : Int) < 128 by decide), _, _, rfl, rfl, p, _, _, _, rfl, rfl, upd_same, ?_, by decide, by decide, ?_⟩
        · rw [nV_length, e8]
          omega
        refine ⟨_, rfl, _, _, rfl, rfl, ⟨by decide, by decide⟩, (128 + m % 128) :: acc, j', ?_, ?_, ?_, hj', by simp; omega⟩
        · exact congrArg (fun z : Int => [some (V.int z), some (V.ref p)]) (idiv m 128)
        · exact upd_upd.trans (congrArg (fun z : Int => upd H p (.lst (V.int z :: nV acc))) ((congrArg (fun z : Int => 128 + z) (imod m 128)).trans (Int.natCast_add 128 (m % 128)).symm))
        · rw [← hacc, pbF_pos (by decide) hm]
      · have hm : m = 0 := by have := of_decide_eq_false q; omega
        subst hm
        rw [pbF_zero] at hacc
        refine ⟨_, rfl, k _ p (Same.new hp) hp ?_⟩
        rw [upd_same, hacc]
end
end Ad

/-! ## D4 -/
set_option Elab.async false
set_option linter.all false
set_option maxRecDepth 100000
set_option maxHeartbeats 1000000
namespace Ad
open PySem PySem.Spec PyProof.Rows L2
theorem drop_at {α : Type} {l : List α} {i : Nat} {x : α} (h : l[i]? = some x) : l.drop i = x :: l.drop (i + 1) := by
  obtain ⟨hi, e⟩ := List.getElem?_eq_some_iff.mp h
  rw [List.drop_eq_getElem_cons hi, e]
theorem PTimp {X : Cx} {e : Expr} {t t' : TT} (h : PT X e t) (f : ∀ σ H Q, t' σ H Q → t σ H Q) : PT X e t' := ⟨fun pins s σ H Q I q => h.run pins s σ H Q I (f σ H Q q)⟩
theorem PEimp {X : Cx} {e : Expr} {t t' : TE} (h : PE X e t) (f : ∀ σ H Q, t' σ H Q → t σ H Q) : PE X e t' := ⟨fun pins s σ H Q I q => h.run pins s σ H Q I (f σ H Q q)⟩
/-! ### parts_of_name -/
abbrev sParts : Stmt := top 23
theorem scParts : FnScope ["content", "parts", "n", "begun", "byte"] ["content"] (defScope sParts) := ⟨rfl, rfl, rfl, by decide +kernel, rfl, by decide +kernel, by decide +kernel⟩
theorem bParts : BindsBy "parts_of_name" "parts_of_name" sParts ["content"] := fun _ _ _ _ _ _ us hl => match us, hl with | [_], _ => rfl
def spParts (K : PySem.W.Frag) : Sp := fun vs H Q _ => ∃ (a : Addr) (b : List Nat), vs = [.ref a] ∧ SqL K H a (nV b) ∧ b.length ≤ 100000 ∧ (partsOf b = none → ∀ H', Same H H' → Q .non H') ∧
  (∀ l, partsOf b = some l → ∀ H' p, Same H H' → H p = none → H' p = some (.lst (nV l)) → Q (.ref p) H')
/-- not begun and byte == 128 -/
def tNB : TT := fun σ H Q => ∃ (g : Bool) (c : Nat), σ[3]? = some (some (.bl g)) ∧ σ[4]? = some (some (.int (c : Int))) ∧ Q (!g && decide (c = 128)) H
theorem tNB_of (σ : L2.St) (H : Hp) (Q : Bool → Hp → Prop) (h : tNB σ H Q) : tAnd (tNot (tB (tVar 3))) (tTest (tOp rEq (tVar 4) (tC (.int 128)))) σ H Q := by
  obtain ⟨g, c, h1, h2, q⟩ := h
  have d1 : decide (V.int (c : Int) = V.int 128) = decide (c = 128) := dI (n := 128)
  refine ⟨_, h1, _, rfl, ?_⟩
  cases g with
  | true => exact ifF rfl q
  | false =>
    refine ifT rfl ⟨_, h2, rfl, _, rfl, ?_⟩
    rw [d1]
    exact q
theorem partsOf_of {b : List Nat} {l : List Nat} (h : ps b 0 false = some l) : partsOf b = if l = [] then none else some l := by
  unfold partsOf
  rw [h]
  cases l <;> rfl
section
variable {P : Program} {w : World} {K : PySem.W.Frag} {mg : Str → Option Value} {base : Heap}
theorem ok_parts (D : Def1 K mg "parts_of_name" "parts_of_name" sParts) (B : Blt mg) : CalX P w K mg base CX0 1 "parts_of_name" (spParts K) := by
  refine cal0 D scParts bParts (fun vs H Q E h => ?_) fun f cdv A outer s H vs Q E hr h => ?_
  · obtain ⟨a, b, rfl, _⟩ := h
    rfl
  · obtain ⟨a, b, rfl, hS, hl, kN, kS⟩ := h
    refine ⟨_, pss_cons (ps_set (i := 1) scParts.nd rfl (.inl rfl) (pe_lst pa_nil))
      (pss_cons (ps_set (i := 2) scParts.nd rfl (.inl rfl) pe_int)
      (pss_cons (ps_set (i := 3) scParts.nd rfl (.inl rfl) pe_bl)
      (pss_cons (ps_for PassesOwn.never rfl (pi_list (pv 0)) (pg_name (i := 4) scParts.nd rfl (.inl rfl))
        (pss_cons (ps_if (PTimp (t' := tNB) (PW.pt (pw_and (pt_not (pt_val (pv 3))) (pw_and1 (pt_cmpR op_eq (pv 4) pe_int (nomark _))))) tNB_of) (pss_one (ps_ret pe_non)) pss_nil)
        (pss_cons (ps_set (i := 2) scParts.nd rfl (.inl rfl) (pe_op op_add (pe_op op_mul pe_int (pv 2)) (pe_op op_mod (pv 4) pe_int)))
        (pss_cons (ps_set (i := 3) scParts.nd rfl (.inl rfl) (pe_cmpR op_ge (pv 4) pe_int (nomark _)))
        (pss_one (ps_if (pt_not (pt_val (pv 3))) (pss_cons (ps_expr (pe_bm PySem.F.plainAttrs_list PySem.F.slot_list_append PySem.F.type_list_append mt_append (pv 1) (pa_cons (pv 2) pa_nil)))
          (pss_one (ps_set (i := 2) scParts.nd rfl (.inl rfl) pe_int))) pss_nil))))))
      (pss_one (ps_ret (pe_ifExp (PW.pt (pw_or (pt_val (pv 3)) (pw_or1 (pt_cmpR op_eq (plen B (pv 1)) pe_int (nomark _))))) pe_non (pv 1))))))), ?_⟩
    have e8 : sizeLine = 16777216 := sizeLine_eq
    have eL : (nV b).length = b.length := nV_length b
    refine ⟨Nat.zero_le _, fun p hp => ?_⟩
    have hS' : ∀ o, SqL K (upd H p o) a (nV b) := fun o => (Same.new hp).seq hS
    refine ⟨_, rfl, a, rfl, ⟨_, hS' _⟩, for_list (K := K) (a := a) (xs := nV b) (fun i σ H' => ∃ (acc : List Nat) (m : Nat) (g : Bool) (v : Option V), σ = [some (.ref a), some (.ref p), some (.int (m : Int)), some (.bl g), v] ∧ H' = upd H p (.lst (nV acc)) ∧
        acc.length ≤ i ∧ (g = false → m = 0) ∧ ps b 0 false = (ps (b.drop i) m g).map fun l => acc ++ l)
      ⟨[], 0, false, none, rfl, rfl, Nat.le_refl _, fun _ => rfl, ?_⟩ (fun i σ H' _ ⟨_, _, _, _, _, e, _⟩ => by rw [e]; exact hS' _) ?_ ?_⟩
    · rw [List.drop_zero]
      cases ps b 0 false <;> rfl
    · rintro i y σ H' hi ⟨acc, m, g, v, rfl, rfl, hacc, hm0, hps⟩
      obtain ⟨c, hc, rfl⟩ := nV_of hi
      have hib : i < b.length := (List.getElem?_eq_some_iff.mp hc).1
      rw [drop_at hc, ps_cons] at hps
      have d1 : decide (V.int (c : Int) = V.int 128) = decide (c = 128) := dI (n := 128)
      have d2 : decide (128 ≤ (c : Int)) = decide (128 ≤ c) := decide_eq_decide.mpr (by omega)
      have em : ((128 : Int) * (m : Int) + (c : Int) % 128) = ((128 * m + c % 128 : Nat) : Int) := by
        rw [Int.natCast_add, Int.natCast_mul, ← imod c 128]
        rfl
      refine ⟨g, c, rfl, rfl, ?_⟩
      have hcond : ((!g && decide (c = 128)) = true) ↔ (g = false ∧ c = 128) := by
        cases g <;> simp
      refine ifB (fun q => ?_) (fun q => ?_)
      · rw [if_pos (hcond.mp q)] at hps
        refine kN ?_ _ (Same.new hp)
        unfold partsOf
        rw [hps]
        rfl
      have hg : ¬ (g = false ∧ c = 128) := fun z => by
        rw [hcond.mpr z] at q
        cases q
      rw [if_neg hg] at hps
      refine ⟨_, rfl, _, _, rfl, rfl, .inl ⟨by decide, by decide⟩, _, rfl, _, _, rfl, rfl, (show (0 : Int) < 128 by decide), _, _, rfl, rfl, ?_⟩
      refine ⟨_, rfl, _, _, rfl, rfl, _, rfl, _, rfl, ?_⟩
      rw [d2]
      refine ifB (fun z => ?_) (fun z => ?_)
      · have z' : ¬ 128 ≤ c := of_decide_eq_false (by rw [← Bool.not_eq_true']; exact z)
        rw [if_neg z'] at hps
        refine ⟨_, rfl, .inl ⟨rfl, _, SqL.of upd_same⟩, _, rfl, p, _, _, rfl, rfl, upd_same, (by rw [nV_length, e8]; omega), ?_⟩
        refine ⟨acc ++ [128 * m + c % 128], 0, false, some (.int (c : Int)), ?_, ?_, (by simp; omega), (fun _ => rfl), ?_⟩
        · exact congrArg (fun z : Bool => [some (V.ref a), some (V.ref p), some (V.int 0), some (V.bl z), some (V.int (c : Int))]) (d2.trans (decide_eq_false z'))
        · rw [nV_append]
          exact upd_upd.trans (congrArg (fun z : Int => upd H p (.lst (nV acc ++ [V.int z]))) em)
        · rw [hps]
          cases ps (b.drop (i + 1)) 0 false with
          | none => rfl
          | some l => simp
      · have z' : 128 ≤ c := of_decide_eq_true (by rw [Bool.not_eq_false'] at z; exact z)
        rw [if_pos z'] at hps
        refine ⟨acc, 128 * m + c % 128, true, some (.int (c : Int)), ?_, rfl, (by omega), (fun h => Bool.noConfusion h), hps⟩
        exact (congrArg (fun z : Int => [some (V.ref a), some (V.ref p), some (V.int z), some (V.bl (decide (128 ≤ (c : Int)))), some (V.int (c : Int))]) em).trans
          (congrArg (fun z : Bool => [some (V.ref a), some (V.ref p), some (V.int ((128 * m + c % 128 : Nat) : Int)), some (V.bl z), some (V.int (c : Int))]) (d2.trans (decide_eq_true z')))
    · rintro σ H' ⟨acc, m, g, v, rfl, rfl, hacc, hm0, hps⟩
      rw [eL] at hps hacc
      rw [List.drop_length] at hps
      refine ⟨_, rfl, _, rfl, ?_⟩
      cases g with
      | true =>
        have hp0 : ps b 0 false = none := hps
        exact ifT rfl (ifT rfl (kN (by unfold partsOf; rw [hp0]) _ (Same.new hp)))
      | false =>
        have hp0 : ps b 0 false = some acc := by
          rw [hps]
          show some (acc ++ []) = _
          rw [List.append_nil]
        have hpo := partsOf_of hp0
        refine ifF rfl ⟨_, rfl, p, _, rfl, .inl (SqL.of upd_same), rfl, _, rfl, ?_⟩
        rw [nV_length]
        refine ifB (fun q => ?_) (fun q => ?_)
        · have c1 : acc.length = 0 := by
            have := V.int.inj (of_decide_eq_true q)
            omega
          rw [if_pos (List.eq_nil_of_length_eq_zero c1)] at hpo
          exact kN hpo _ (Same.new hp)
        · have c1 : acc ≠ [] := fun e => of_decide_eq_false q (by rw [e]; rfl)
          rw [if_neg c1] at hpo
          exact ⟨_, rfl, kS _ hpo _ p (Same.new hp) hp upd_same⟩
end
theorem seqT {K : PySem.W.Frag} {H H' : Hp} {a : Addr} {xs : List V} (e : Same H H') (h : SqT K H a xs) : SqT K H' a xs := by
  rcases h with (h | ⟨o, h⟩) | h
  · exact .inl (.inl (e _ _ h))
  · exact .inl (.inr ⟨o, e _ _ h⟩)
  · exact .inr h
/-! ### is_name -/
abbrev sIsName : Stmt := top 25
theorem scIsName : FnScope ["name", "n"] ["name"] (defScope sIsName) := ⟨rfl, rfl, rfl, by decide +kernel, rfl, by decide +kernel, by decide +kernel⟩
theorem bIsName : BindsBy "is_name" "is_name" sIsName ["name"] := fun _ _ _ _ _ _ us hl => match us, hl with | [_], _ => rfl
def spIsName (K : PySem.W.Frag) : Sp := fun vs H Q _ => ∃ (a : Addr) (l : List Nat), vs = [.ref a] ∧ SqT K H a (nV l) ∧ l.length ≤ 200000 ∧ ∀ H', Same H H' → Q (.bl (Sd23.good l)) H'
theorem two_of {α : Type} : ∀ {l : List α}, 2 ≤ l.length → ∃ x y r, l = x :: y :: r
  | x :: y :: r, _ => ⟨x, y, r, rfl⟩
theorem good_cases (l : List Nat) : Sd23.good l = (decide (2 ≤ l.length ∧ l.length ≤ 32) && (l.all fun v => decide (v < 2 ^ 32)) && (decide (l.headD 0 ≤ 2) && (decide (l.headD 0 = 2) || decide (l.getD 1 0 < 40)))) := by
  unfold Sd23.good Sd23.SUBS
  rw [Bool.and_assoc]
section
variable {P : Program} {w : World} {K : PySem.W.Frag} {mg : Str → Option Value} {base : Heap}
theorem ok_isName (D : Def1 K mg "is_name" "is_name" sIsName) (B : Blt mg) (c32 : IntC mg "MOST_NAME" 32) (cW : IntC mg "WORD_BOUND" 4294967296) : CalX P w K mg base CX0 1 "is_name" (spIsName K) := by
  refine cal0 D scIsName bIsName (fun vs H Q E h => ?_) fun f cdv A outer s H vs Q E hr h => ?_
  · obtain ⟨a, b, rfl, _⟩ := h
    rfl
  · obtain ⟨a, l, rfl, hS, hl, k⟩ := h
    refine ⟨_, pss_cons (ps_if (PW.pt (pw_or (pt_not (pt_chain op_le op_le pe_int (plen B (pv 0)) (pcon c32)))
        (pw_or1 (pt_not (pt_val (pe_callB (cr_all rfl) (by rfl) B.all (by decide +kernel) (pa_cons
          (pe_lc (own := [("n", 1)]) (g := gName 1) (by rfl) scIsName.nd (pi_tup (pv 0)) (blkOk_by (own := [("n", 1)]) (N := ["name", "n"]) (sc := defScope sIsName) (by decide +kernel)) (fun _ _ _ _ _ => pg_name (i := 1) scIsName.nd rfl (Or.inl rfl)) (fun _ _ _ _ _ => pts_nil)
            (fun _ _ _ _ _ => pe_cmpR op_lt (pv 1) (pcon cW) (nomark _))) pa_nil)))))))
        (pss_one (ps_ret pe_bl)) pss_nil)
      (pss_one (ps_ret (pe_and (pe_cmpR op_le (pe_ix ix_tup (pv 0) pe_int (fun _ _ => rfl)) pe_int (nomark _))
        (pe_one (pe_or (pe_cmpR op_eq (pe_ix ix_tup (pv 0) pe_int (fun _ _ => rfl)) pe_int (nomark _)) (pe_one (pe_cmpR op_lt (pe_ix ix_tup (pv 0) pe_int (fun _ _ => rfl)) pe_int (nomark _)))))))), ?_⟩
    have eL : (nV l).length = l.length := nV_length l
    have e8 : sizeLine = 16777216 := sizeLine_eq
    have hg := good_cases l
    have lenF : decide (2 ≤ l.length ∧ l.length ≤ 32) = false → Sd23.good l = false := fun h => by rw [hg, h]; rfl
    -- 2 <= len(name) <= 32
    refine ⟨_, rfl, a, _, rfl, .inr hS, _, _, rfl, rfl, _, rfl, ?_⟩
    rw [eL]
    refine ifB (fun q => ?_) (fun q => ?_)
    · refine ⟨_, _, rfl, rfl, _, rfl, ?_⟩
      refine ifB (fun z => ?_) (fun z => ?_)
      · have h32 : ¬ l.length ≤ 32 := by
          have := of_decide_eq_false (by rw [Bool.not_eq_true'] at z; exact z)
          omega
        have hgF := lenF (decide_eq_false fun h => h32 h.2)
        refine ifT rfl ?_
        have := k H (Same.refl H)
        rw [hgF] at this
        exact this
      · have h2 : 2 ≤ l.length := by have := of_decide_eq_true q; omega
        have h32 : l.length ≤ 32 := by
          have := of_decide_eq_true (by rw [Bool.not_eq_false'] at z; exact z)
          omega
        obtain ⟨x, y, r, rfl⟩ := two_of h2
        -- all(..)
        refine ⟨_, rfl, a, rfl, ⟨_, hS⟩, fun D hD => lc_tup (K := K) (a := a) (xs := nV (x :: y :: r)) (fun i H' => ∃ H1, Same H H1 ∧ H1 D = none ∧ H' = upd H1 D (.lst ((((x :: y :: r).take i).map fun v => decide (v < 2 ^ 32)).map V.bl)))
          ⟨H, Same.refl H, hD, rfl⟩ (fun i H' _ ⟨H1, s1, n1, e⟩ => ?_) ?_ ?_⟩
        · rw [e]
          exact seqT (s1.trans (Same.new n1)) hS
        · rintro i z H' hi ⟨H1, s1, n1, rfl⟩
          obtain ⟨c, hc, rfl⟩ := nV_of hi
          have hi' : i < (x :: y :: r).length := (List.getElem?_eq_some_iff.mp hc).1
          refine ⟨rfl, _, rfl, _, _, rfl, rfl, _, upd_same, ?_, H1, s1, n1, ?_⟩
          · rw [List.length_map, List.length_map, List.length_take, e8]
            omega
          · have ed : decide ((c : Int) < 4294967296) = decide (c < 2 ^ 32) := decide_eq_decide.mpr (by omega)
            rw [take_more hc, List.map_append, List.map_append, upd_upd]
            exact congrArg (fun z : Bool => upd H1 D (.lst (((((x :: y :: r).take i).map fun v => decide (v < 2 ^ 32)).map V.bl) ++ [V.bl z]))) ed
        · rintro H' ⟨H1, s1, n1, rfl⟩
          rw [eL, List.take_length]
          have hall : (((x :: y :: r).map fun v => decide (v < 2 ^ 32)).all id) = ((x :: y :: r).all fun v => decide (v < 2 ^ 32)) := by rw [List.all_map]; rfl
          refine ⟨D, _, rfl, SqL.of upd_same, _, rfl, ?_⟩
          have s2 : Same H (upd H1 D (.lst ((((x :: y :: r).map fun v => decide (v < 2 ^ 32)).map V.bl)))) := s1.trans (Same.new n1)
          have k' := k _ s2
          generalize upd H1 D (.lst ((((x :: y :: r).map fun v => decide (v < 2 ^ 32)).map V.bl))) = H2 at s2 k' ⊢
          rw [hall]
          have hd2 : decide (2 ≤ (x :: y :: r).length ∧ (x :: y :: r).length ≤ 32) = true := decide_eq_true ⟨h2, h32⟩
          rw [hd2, Bool.true_and] at hg
          refine ifB (fun u => ?_) (fun u => ?_)
          · have u' : ((x :: y :: r).all fun v => decide (v < 2 ^ 32)) = false := by rw [Bool.not_eq_true'] at u; exact u
            rw [u', Bool.false_and] at hg
            rw [hg] at k'
            exact k'
          · have u' : ((x :: y :: r).all fun v => decide (v < 2 ^ 32)) = true := by rw [Bool.not_eq_false'] at u; exact u
            rw [u', Bool.true_and] at hg
            rw [hg] at k'
            have hS2 := seqT s2 hS
            have d0 : decide ((x : Int) ≤ 2) = decide (x ≤ 2) := decide_eq_decide.mpr (by omega)
            have d1 : decide (V.int (x : Int) = V.int 2) = decide (x = 2) := dI (n := 2)
            have d2 : decide ((y : Int) < 40) = decide (y < 40) := decide_eq_decide.mpr (by omega)
            have e0 : (x :: y :: r).headD 0 = x := rfl
            have e1 : (x :: y :: r).getD 1 0 = y := rfl
            rw [e0, e1] at k'
            refine ⟨_, rfl, a, _, _, _, rfl, rfl, hS2, atz (xs := nV (x :: y :: r)) rfl, _, _, rfl, rfl, _, rfl, ?_⟩
            rw [d0]
            refine ifB (fun v => ?_) (fun v => ?_)
            · rw [v, Bool.true_and] at k'
              refine ⟨_, rfl, a, _, _, _, rfl, rfl, hS2, atz (xs := nV (x :: y :: r)) rfl, rfl, _, rfl, ?_⟩
              rw [d1]
              refine ifB (fun w => ?_) (fun w => ?_)
              · rw [w, Bool.true_or] at k'
                exact k'
              · rw [w, Bool.false_or] at k'
                refine ⟨_, rfl, a, _, _, _, rfl, rfl, hS2, at1 (xs := nV (x :: y :: r)) rfl, _, _, rfl, rfl, ?_⟩
                show Q (.bl (decide ((y : Int) < 40))) H2
                rw [d2]
                exact k'
            · rw [v, Bool.false_and] at k'
              exact k'
    · have h2 : ¬ 2 ≤ l.length := by have := of_decide_eq_false q; omega
      have hgF := lenF (decide_eq_false fun h => h2 h.1)
      refine ⟨_, rfl, ifT rfl ?_⟩
      have := k H (Same.refl H)
      rw [hgF] at this
      exact this
end
end Ad

/-! ## D5 -/
set_option Elab.async false
set_option linter.all false
set_option maxRecDepth 100000
set_option maxHeartbeats 1000000
namespace Ad
open PySem PySem.Spec PyProof.Rows L2
/-! ### name_of -/
abbrev sNameOf : Stmt := top 24
theorem scNameOf : FnScope ["content", "parts", "first", "name"] ["content"] (defScope sNameOf) := ⟨rfl, rfl, rfl, by decide +kernel, rfl, by decide +kernel, by decide +kernel⟩
theorem bNameOf : BindsBy "name_of" "name_of" sNameOf ["content"] := fun _ _ _ _ _ _ us hl => match us, hl with | [_], _ => rfl
def spNameOf (K : PySem.W.Frag) : Sp := fun vs H Q _ => ∃ (a : Addr) (b : List Nat), vs = [.ref a] ∧ SqL K H a (nV b) ∧ AllB b ∧ b.length ≤ 100000 ∧ (Sd23.nameOf b = none → ∀ H', Same H H' → Q .non H') ∧
  (∀ n, Sd23.nameOf b = some n → ∀ H' t, Same H H' → H t = none → H' t = some (.tup (nV n)) → Q (.ref t) H')
theorem partsOf_cons {b l : List Nat} (h : partsOf b = some l) : ∃ x r, l = x :: r := by
  unfold partsOf at h
  split at h
  · cases h
    exact ⟨_, _, rfl⟩
  · cases h
theorem nameOf_parts {b : List Nat} {x : Nat} {r : List Nat} (hb : AllB b) (h : partsOf b = some (x :: r)) : Sd23.nameOf b = if Sd23.good (nameFrom x r) = true then some (nameFrom x r) else none := by
  rw [nameOf_eq hb]
  unfold nameOf'
  rw [h]
theorem ps_len : ∀ (b : List Nat) (n : Nat) (g : Bool) (l : List Nat), ps b n g = some l → l.length ≤ b.length
  | [], n, g, l, h => by
    unfold ps at h
    split at h
    · cases h
    · cases h
      exact Nat.le_refl _
  | c :: r, n, g, l, h => by
    rw [ps_cons] at h
    split at h
    · cases h
    · split at h
      · exact Nat.le_succ_of_le (ps_len r _ _ l h)
      · cases e : ps r 0 false with
        | none =>
          rw [e] at h
          cases h
        | some m =>
          rw [e] at h
          cases h
          exact Nat.succ_le_succ (ps_len r _ _ m e)
theorem partsOf_len {b l : List Nat} (h : partsOf b = some l) : l.length ≤ b.length := by
  unfold partsOf at h
  split at h
  · rename_i x r e
    cases h
    exact ps_len _ _ _ _ e
  · cases h
section
variable {P : Program} {w : World} {K : PySem.W.Frag} {mg : Str → Option Value} {base : Heap}
theorem ok_nameOf (D : Def1 K mg "name_of" "name_of" sNameOf) (B : Blt mg) (cP : CalX P w K mg base CX0 1 "parts_of_name" (spParts K)) (cI : CalX P w K mg base CX0 1 "is_name" (spIsName K)) :
    CalX P w K mg base CX0 2 "name_of" (spNameOf K) := by
  refine cal0 D scNameOf bNameOf (fun vs H Q E h => ?_) fun f cdv A outer s H vs Q E hr h => ?_
  · obtain ⟨a, b, rfl, _⟩ := h
    rfl
  · obtain ⟨a, b, rfl, hS, hb, hl, kN, kS⟩ := h
    refine ⟨_, pss_cons (ps_set (i := 1) scNameOf.nd rfl (.inl rfl) (pcall cP hr (by decide) pass0 (pa_cons (pv 0) pa_nil)))
      (pss_cons (ps_if (pt_cmp (pc_isN (pv 1)) rfl) (pss_one (ps_ret pe_non)) pss_nil)
      (pss_cons (ps_set (i := 2) scNameOf.nd rfl (.inl rfl) (pe_callB (call_min2 rfl) (by rfl) B.min (by decide +kernel) (pa_cons (pe_op op_fdiv (pe_ix ix_list (pv 1) pe_int (fun _ _ => rfl)) pe_int) (pa_cons pe_int pa_nil))))
      (pss_cons (ps_set (i := 3) scNameOf.nd rfl (.inl rfl) (pe_op op_catT (pe_tup (pa_cons (pv 2) (pa_cons (pe_op op_sub (pe_ix ix_list (pv 1) pe_int (fun _ _ => rfl)) (pe_op op_mul pe_int (pv 2))) pa_nil)))
        (ptuple B (pe_slice sl_list (pv 1) (po_some pe_int) po_none))))
      (pss_one (ps_ret (pe_ifExp (pt_val (pcall cI hr (by decide) pass0 (pa_cons (pv 3) pa_nil))) (pv 3) pe_non)))))), ?_⟩
    have e8 : sizeLine = 16777216 := sizeLine_eq
    refine ⟨_, rfl, a, b, rfl, hS, hl, fun hn H' s1 => ?_, fun l hpl H' p s1 n1 hp => ?_⟩
    · refine ⟨_, rfl, _, rfl, ?_⟩
      refine kN ?_ H' s1
      rw [nameOf_eq hb]
      unfold nameOf'
      rw [hn]
    obtain ⟨x, r, rfl⟩ := partsOf_cons hpl
    have hn := nameOf_parts hb hpl
    have hrl := partsOf_len hpl
    have hrl' : r.length ≤ 100000 := by
      rw [List.length_cons] at hrl
      omega
    refine ⟨_, rfl, _, rfl, ?_⟩
    have hmin : (if (2 : Int) < (x : Int) / 40 then (2 : Int) else (x : Int) / 40) = ((min (x / 40) 2 : Nat) : Int) := by
      split <;> omega
    refine ⟨_, rfl, p, _, _, _, rfl, rfl, SqL.of hp, atz (xs := nV (x :: r)) rfl, _, _, rfl, rfl, ⟨by decide, by decide⟩, _, _, rfl, ?_⟩
    -- the two first numbers
    have hsub : ((x : Int) - 40 * ((min (x / 40) 2 : Nat) : Int)) = ((x - 40 * min (x / 40) 2 : Nat) : Int) := by omega
    show tSeq _ _ _ [some (.ref a), some (.ref p), some (.int (if (2 : Int) < (x : Int) / 40 then (2 : Int) else (x : Int) / 40)), none] H'
    rw [hmin]
    refine ⟨_, rfl, _, rfl, p, _, _, _, rfl, rfl, SqL.of hp, atz (xs := nV (x :: r)) rfl, _, rfl, _, _, rfl, rfl, .inl ⟨by decide, by decide⟩, _, _, rfl, rfl, (by show 2 ≤ sizeLine; decide), fun t ht => ?_⟩
    have npt : p ≠ t := ne_of_none hp ht
    refine ⟨_, rfl, _, rfl, p, _, rfl, SqL.of (by rw [upd_ne npt]; exact hp), fun q hq => ?_⟩
    have hq' := upd_free hq
    refine ⟨q, _, rfl, .inl ⟨SqL.of upd_same, fun u hu => ?_⟩⟩
    have hu' := upd_free hu
    have hu'' := upd_free hu'.1
    have ec : cutV (nV (x :: r)) (some (1 : Int)) none = nV r := by
      have := cut_from (xs := nV (x :: r)) (i := 1)
      rw [show ((1 : Nat) : Int) = 1 from rfl] at this
      rw [this]
      rfl
    have sA := ((Same.new ht).trans (Same.new hq)).trans (Same.new (o := HO.tup (cutV (nV (x :: r)) (some (1 : Int)) none)) hu)
    have eN : ([V.int ((min (x / 40) 2 : Nat) : Int), V.int ((x : Int) - 40 * ((min (x / 40) 2 : Nat) : Int))] ++ nV r) = nV (nameFrom x r) := by
      rw [hsub]
      rfl
    have fin : ∀ (H2 : Hp) (z : Addr), Same H' H2 → H' z = none → H2 z = some (.tup (nV (nameFrom x r))) → tRet (tIf (tB (tCall (spIsName K) [] E0 (tCons (tVar 3) tNil))) (tVar 3) (tC .non)) { nx := fun _ H' => Q .non H', rt := Q }
        [some (.ref a), some (.ref p), some (.int ((min (x / 40) 2 : Nat) : Int)), some (.ref z)] H2 := fun H2 z s2 n2 h2 => by
      refine ⟨_, rfl, z, nameFrom x r, rfl, SqT.of h2, ?_, fun H3 s3 => ⟨_, rfl, ?_⟩⟩
      · show r.length + 1 + 1 ≤ 200000
        omega
      refine ifB (fun w => ?_) (fun w => ?_)
      · rw [if_pos w] at hn
        exact ⟨_, rfl, kS _ hn H3 z (s1.trans (s2.trans s3)) (s1.free n2) (s3 _ _ h2)⟩
      · rw [if_neg (by rw [w]; exact Bool.false_ne_true)] at hn
        exact kN hn H3 (s1.trans (s2.trans s3))
    refine ⟨t, u, _, nV r, rfl, rfl, SqT.of (by rw [upd_ne hu''.2.symm, upd_ne hq'.2.symm, upd_same]), SqT.of (by rw [upd_same, ec]), (by intro z; cases z), ?_, fun hnil => ?_, fun hne v hv => ?_⟩
    · rw [nV_length, e8]
      show 2 + r.length ≤ 16777216
      omega
    · rw [hnil, List.append_nil] at eN
      refine fin _ t sA ht ?_
      rw [upd_ne hu''.2.symm, upd_ne hq'.2.symm, upd_same]
      exact congrArg (fun z => some (HO.tup z)) eN
    · have hv' := upd_free hv
      have hv2 := upd_free hv'.1
      have hv3 := upd_free hv2.1
      refine fin _ v (sA.trans (Same.new hv)) hv3.1 ?_
      rw [upd_same]
      exact congrArg (fun z => some (HO.tup z)) eN
end
/-! ### name_bytes -/
abbrev sNameBytes : Stmt := top 27
theorem scNameBytes : FnScope ["name", "content", "n"] ["name"] (defScope sNameBytes) := ⟨rfl, rfl, rfl, by decide +kernel, rfl, by decide +kernel, by decide +kernel⟩
theorem bNameBytes : BindsBy "name_bytes" "name_bytes" sNameBytes ["name"] := fun _ _ _ _ _ _ us hl => match us, hl with | [_], _ => rfl
def spNameBytes (K : PySem.W.Frag) : Sp := fun vs H Q _ => ∃ (a : Addr) (n : List Nat), vs = [.ref a] ∧ SqT K H a (nV n) ∧ Sd23.good n = true ∧ ∀ H' p, Same H H' → H p = none → H' p = some (.lst (nV (Sd23.nameBytes n))) → Q (.ref p) H'
theorem seven_len : ∀ (k n : Nat), (Sd23.seven k n).length ≤ k
  | 0, _ => Nat.le_refl _
  | k + 1, n => by
    show ((if n / 128 = 0 then [] else (Sd23.seven k (n / 128)).map fun c => c % 128 + 128) ++ [n % 128]).length ≤ k + 1
    rw [List.length_append]
    split
    · simp
    · have := seven_len k (n / 128)
      rw [List.length_map]
      simp
      omega
theorem part_len {n : Nat} (h : n < 128 ^ 6) : (partBytes n).length ≤ 6 := by
  rw [partBytes_eq h]
  exact seven_len 6 n
theorem flat_len : ∀ (l : List Nat), (∀ x ∈ l, x < 128 ^ 6) → (l.flatMap partBytes).length ≤ 6 * l.length
  | [], _ => Nat.le_refl _
  | x :: r, h => by
    rw [List.flatMap_cons, List.length_append, List.length_cons]
    have h1 := part_len (h x List.mem_cons_self)
    have h2 := flat_len r fun y m => h y (List.mem_cons_of_mem _ m)
    omega
theorem good_facts {x y : Nat} {r : List Nat} (h : Sd23.good (x :: y :: r) = true) : r.length ≤ 30 ∧ x ≤ 2 ∧ y < 2 ^ 32 ∧ (∀ v ∈ r, v < 2 ^ 32) ∧ (x = 2 ∨ y < 40) := by
  rw [good_cons] at h
  simp only [Bool.and_eq_true, decide_eq_true_eq, List.all_eq_true, Bool.or_eq_true] at h
  obtain ⟨h1, ⟨_, h3, h4⟩, h5, h6⟩ := h
  exact ⟨h1, h5, h3, h4, h6⟩
theorem good_two {n : List Nat} (h : Sd23.good n = true) : ∃ x y r, n = x :: y :: r := by
  refine two_of ?_
  rw [good_cases] at h
  simp only [Bool.and_eq_true, decide_eq_true_eq] at h
  exact h.1.1.1
theorem good_len {n : List Nat} (h : Sd23.good n = true) : 2 ≤ n.length ∧ n.length ≤ 32 := by
  rw [good_cases] at h
  simp only [Bool.and_eq_true, decide_eq_true_eq] at h
  exact h.1.1
section
variable {P : Program} {w : World} {K : PySem.W.Frag} {mg : Str → Option Value} {base : Heap}
theorem ok_nameBytes (D : Def1 K mg "name_bytes" "name_bytes" sNameBytes) (cP : CalX P w K mg base CX0 1 "part_bytes" spPart) : CalX P w K mg base CX0 2 "name_bytes" (spNameBytes K) := by
  refine cal0 D scNameBytes bNameBytes (fun vs H Q E h => ?_) fun f cdv A outer s H vs Q E hr h => ?_
  · obtain ⟨a, b, rfl, _⟩ := h
    rfl
  · obtain ⟨a, n, rfl, hS, hg, k⟩ := h
    obtain ⟨x, y, r, rfl⟩ := good_two hg
    obtain ⟨g1, g2, g3, g4, _⟩ := good_facts hg
    refine ⟨_, pss_cons (ps_set (i := 1) scNameBytes.nd rfl (.inl rfl) (pcall cP hr (by decide) pass0 (pa_cons (pe_op op_add (pe_op op_mul pe_int (pe_ix ix_tup (pv 0) pe_int (fun _ _ => rfl))) (pe_ix ix_tup (pv 0) pe_int (fun _ _ => rfl))) pa_nil)))
      (pss_cons (ps_for PassesOwn.never rfl (pi_tup (pe_slice sl_tup (pv 0) (po_some pe_int) po_none)) (pg_name (i := 2) scNameBytes.nd rfl (.inl rfl))
        (pss_one (ps_expr (pe_bm PySem.F.plainAttrs_list PySem.F.slot_list_extend PySem.F.type_list_extend mt_extend (pv 1) (pa_cons (pcall cP hr (by decide) pass0 (pa_cons (pv 2) pa_nil)) pa_nil)))))
      (pss_one (ps_ret (pv 1)))), ?_⟩
    have e8 : sizeLine = 16777216 := sizeLine_eq
    refine ⟨_, rfl, a, _, _, _, rfl, rfl, hS, atz (xs := nV (x :: y :: r)) rfl, _, _, rfl, rfl, .inl ⟨by decide, by decide⟩, _, rfl, a, _, _, _, rfl, rfl, hS, at1 (xs := nV (x :: y :: r)) rfl, _, _, rfl, rfl, ?_⟩
    have hxy : 40 * x + y < 128 ^ 6 := by omega
    refine ⟨40 * x + y, ?_, hxy, fun H1 c s1 n1 hc => ?_⟩
    · show [V.int ((40 : Int) * (x : Int) + (y : Int))] = [V.int ((40 * x + y : Nat) : Int)]
      rw [Int.natCast_add, Int.natCast_mul]
      rfl
    have hsl : cutV (nV (x :: y :: r)) (some (2 : Int)) none = nV r := by
      have := cut_from (xs := nV (x :: y :: r)) (i := 2)
      rw [show ((2 : Nat) : Int) = 2 from rfl] at this
      rw [this]
      rfl
    refine ⟨_, rfl, _, rfl, a, _, rfl, seqT s1 hS, ?_, fun t ht => ⟨t, rfl, ⟨_, SqT.of upd_same⟩, ?_⟩⟩
    · rintro ⟨z, _⟩
      have e2 := HT.sIx_nat (nV (x :: y :: r)).length 0 2
      rw [show ((2 : Nat) : Int) = 2 from rfl] at e2
      rw [e2, nV_length, List.length_cons, List.length_cons] at z
      omega
    rw [hsl]
    have nct : c ≠ t := ne_of_none hc ht
    refine for_tup (K := K) (a := t) (xs := nV r) (fun i σ H' => ∃ v : Option V, σ = [some (.ref a), some (.ref c), v] ∧ Same H H' ∧ H' t = some (.tup (nV r)) ∧ H' c = some (.lst (nV (partBytes (40 * x + y) ++ (r.take i).flatMap partBytes))))
      ⟨none, rfl, s1.trans (Same.new ht), upd_same, ?_⟩ (fun i σ H' _ ⟨_, _, _, h, _⟩ => SqT.of h) ?_ ?_
    · rw [upd_ne nct, hc]
      show some (HO.lst (nV (partBytes (40 * x + y)))) = some (HO.lst (nV (partBytes (40 * x + y) ++ [])))
      rw [List.append_nil]
    · rintro i z σ H' hi ⟨v, rfl, s2, h2, h3⟩
      obtain ⟨m, hm, rfl⟩ := nV_of hi
      have hmr : m ∈ r := List.mem_of_getElem? hm
      have hm6 : m < 128 ^ 6 := by
        have := g4 m hmr
        omega
      have hlen : ((partBytes (40 * x + y) ++ (r.take i).flatMap partBytes)).length ≤ 6 + 6 * 30 := by
        have a1 := part_len hxy
        have a2 := flat_len (r.take i) fun z hz => by
          have := g4 z (List.mem_of_mem_take hz)
          omega
        have a3 : (r.take i).length ≤ 30 := by
          rw [List.length_take]
          omega
        rw [List.length_append]
        omega
      refine ⟨_, rfl, .inl ⟨rfl, _, SqL.of h3⟩, _, rfl, m, rfl, hm6, fun H3 p s3 n3 hp => ?_⟩
      have ncp : c ≠ p := ne_of_none h3 n3
      refine ⟨c, p, _, _, rfl, rfl, s3 _ _ h3, hp, ?_, ?_⟩
      · have a1 := part_len hm6
        rw [nV_length, nV_length, e8]
        omega
      · refine ⟨_, rfl, ?_, ?_, ?_⟩
        · intro b o hb
          rw [upd_ne (ne_of_none hb n1)]
          exact s3 _ _ (s2 _ _ hb)
        · rw [upd_ne nct.symm]
          exact s3 _ _ h2
        · rw [upd_same, take_more hm, List.flatMap_append, ← List.append_assoc, nV_append (partBytes (40 * x + y) ++ _)]
          simp
    · rintro σ H' ⟨v, rfl, s2, h2, h3⟩
      refine ⟨_, rfl, k H' c s2 n1 ?_⟩
      rw [h3, nV_length, List.take_length, nameBytes_eq hg]
end
end Ad

/-! ## D6 -/
set_option Elab.async false
set_option linter.all false
set_option maxRecDepth 100000
set_option maxHeartbeats 1000000
namespace Ad
open PySem PySem.Spec PyProof.Rows L2
/-- a module's tuple of numbers -/
structure TupC (K : PySem.W.Frag) (mg : Str → Option Value) (x : Str) (t : Addr) (ns : List Int) : Prop where
  mg : mg x = some (.ref t)
  sq : ∀ H, SqT K H t (ns.map V.int)
theorem inV_ints (k : Int) : ∀ ns : List Int, inV (.int k) (ns.map V.int) = decide (k ∈ ns)
  | [] => rfl
  | n :: r => by
    have ih := inV_ints k r
    unfold inV at ih ⊢
    rw [List.map_cons, List.any_cons, ih]
    show ((n == k) || decide (k ∈ r)) = decide (k ∈ n :: r)
    by_cases h : n = k
    · subst h
      simp
    · have : ¬ k = n := fun e => h e.symm
      simp [h, this]
theorem flat_ints : ∀ ns : List Int, (ns.map V.int).all flatV = true
  | [] => rfl
  | _ :: r => flat_ints r
/-- k in T -/
def rInT (t : Addr) (ns : List Int) : R2 := fun x y H Q => y = .ref t ∧ ∃ k, x = .int k ∧ Q (.bl (decide (k ∈ ns))) H
section
variable {X : Cx} {a : Expr} {ta : TE} {x : Str} {p pos : Pos} {t : Addr} {ns : List Int}
theorem op_inT (c : TupC X.K X.mg x t ns) : OpR X (compareOp .In) (rInT t ns) := by
  intro pins s σ H x y v u Q I rx ry h
  obtain ⟨rfl, k, rfl, q⟩ := h
  refine op_in_seq pins s σ H _ _ v u Q I rx ry ⟨t, _, rfl, .inr (c.sq H), rfl, flat_ints ns, ?_⟩
  show Q (.bl (inV (.int k) (ns.map V.int))) H
  rw [inV_ints]
  exact q
theorem pinV (c : TupC X.K X.mg x t ns) (ha : PE X a ta) (hg : Gl X x := by rfl) (hd : (x == ("__debug__" : Str)) = false := by decide) (hm : behindInMarks .In (.Name x p) = false := by rfl) :
    PE X (.Compare a [.In] [.Name x p] pos) (tOp (rInT t ns) ta (tC (.ref t))) := pe_cmpR (op_inT c) ha (pe_glob (v := .ref t) hg c.mg rfl hd) hm
theorem pinP (c : TupC X.K X.mg x t ns) (ha : PE X a ta) (hg : Gl X x := by rfl) (hd : (x == ("__debug__" : Str)) = false := by decide) (hm : behindInMarks .In (.Name x p) = false := by rfl) :
    PT X (.Compare a [.In] [.Name x p] pos) (tTest (tOp (rInT t ns) ta (tC (.ref t)))) := pt_cmpR (op_inT c) ha (pe_glob (v := .ref t) hg c.mg rfl hd) hm
end
/-! ### is_value -/
abbrev sIsValue : Stmt := top 28
theorem scIsValue : FnScope ["kind", "content"] ["kind", "content"] (defScope sIsValue) := ⟨rfl, rfl, rfl, by decide +kernel, rfl, by decide +kernel, by decide +kernel⟩
theorem bIsValue : BindsBy "is_value" "is_value" sIsValue ["kind", "content"] := fun _ _ _ _ _ _ us hl => match us, hl with | [_, _], _ => rfl
def spIsValue (K : PySem.W.Frag) : Sp := fun vs H Q _ => ∃ (k : Int) (a : Addr) (b : List Nat), vs = [.int k, .ref a] ∧ SqL K H a (nV b) ∧ AllB b ∧ b.length ≤ 100000 ∧ ∀ H', Same H H' → Q (.bl (isValue k b)) H'
/-- the module's numbers and tuples of the first part -/
structure Cst1 (K : PySem.W.Frag) (mg : Str → Option Value) (aC aN : Addr) : Prop where
  whole : IntC mg "WHOLE" 2
  bytes : IntC mg "BYTES" 4
  nothing : IntC mg "NOTHING" 5
  name : IntC mg "NAME" 6
  address : IntC mg "ADDRESS" 64
  great : IntC mg "GREAT" 70
  rows : IntC mg "ROWS" 48
  mostName : IntC mg "MOST_NAME" 32
  word : IntC mg "WORD_BOUND" 4294967296
  counts : TupC K mg "COUNTS" aC [65, 66, 67]
  numbers : TupC K mg "NUMBERS" aN [2, 65, 66, 67, 70]
theorem dZ {m n : Int} : decide (V.int m = V.int n) = decide (m = n) := decide_eq_decide.mpr ⟨fun h => V.int.inj h, fun h => by rw [h]⟩
section
variable {P : Program} {w : World} {K : PySem.W.Frag} {mg : Str → Option Value} {base : Heap} {aC aN : Addr}
theorem ok_isValue (D : Def1 K mg "is_value" "is_value" sIsValue) (B : Blt mg) (c : Cst1 K mg aC aN) (cW : CalX P w K mg base CX0 1 "is_whole" (spIsWhole K)) (cO : CalX P w K mg base CX0 1 "whole_of" (spWholeOf K)) (cN : CalX P w K mg base CX0 2 "name_of" (spNameOf K)) :
    CalX P w K mg base CX0 3 "is_value" (spIsValue K) := by
  refine cal0 D scIsValue bIsValue (fun vs H Q E h => ?_) fun f cdv A outer s H vs Q E hr h => ?_
  · obtain ⟨k, a, b, rfl, _⟩ := h
    rfl
  · obtain ⟨k, a, b, rfl, hS, hb, hl, q⟩ := h
    refine ⟨_, pss_cons (ps_if (pt_cmpR op_eq (pv 0) (pcon c.whole) (nomark _)) (pss_one (ps_ret (pe_and (pe_cmpR op_le (plen B (pv 1)) pe_int (nomark _)) (pe_one (pcall cW hr (by decide) pass0 (pa_cons (pv 1) pa_nil)))))) pss_nil) <|
      pss_cons (ps_if (pt_cmpR op_eq (pv 0) (pcon c.bytes) (nomark _)) (pss_one (ps_ret pe_bl)) pss_nil) <|
      pss_cons (ps_if (pt_cmpR op_eq (pv 0) (pcon c.name) (nomark _)) (pss_one (ps_ret (pe_cmp (pc_notN (pcall cN hr (by decide) pass0 (pa_cons (pv 1) pa_nil))) rfl))) pss_nil) <|
      pss_cons (ps_if (pt_cmpR op_eq (pv 0) (pcon c.address) (nomark _)) (pss_one (ps_ret (pe_cmpR op_eq (plen B (pv 1)) pe_int (nomark _)))) pss_nil) <|
      pss_cons (ps_if (pinP c.counts (pv 0)) (pss_one (ps_ret (pe_and (pcall cW hr (by decide) pass0 (pa_cons (pv 1) pa_nil)) (pe_one (pe_chain op_le op_lt pe_int (pcall cO hr (by decide) pass0 (pa_cons (pv 1) pa_nil)) (pcon c.word)))))) pss_nil) <|
      pss_cons (ps_if (pt_cmpR op_eq (pv 0) (pcon c.great) (nomark _)) (pss_one (ps_ret (pe_and (pcall cW hr (by decide) pass0 (pa_cons (pv 1) pa_nil)) (pe_one (pe_chain op_le op_lt pe_int (pcall cO hr (by decide) pass0 (pa_cons (pv 1) pa_nil)) (pe_op op_mul (pcon c.word) (pcon c.word))))))) pss_nil) <|
      pss_one (ps_ret (pe_and (pe_cmpR op_eq (pv 0) (pcon c.nothing) (nomark _)) (pe_one (pe_cmpR op_eq (plen B (pv 1)) pe_int (nomark _))))), ?_⟩
    have eL : (nV b).length = b.length := nV_length b
    have q0 := q H (Same.refl H)
    have whole_ne : isWhole b = true → b ≠ [] := fun h e => by
      rw [e] at h
      cases h
    -- whole_of between 0 and a bound
    have big : ∀ (bound : Int) (te : TE), (∀ Q', Q' (.int bound) H → te [some (.int k), some (.ref a)] H Q') → (isValue k b = (isWhole b && (decide (0 ≤ wholeOf b) && decide (wholeOf b < bound)))) →
        tAndV (tCall (spIsWhole K) [] E0 (tCons (tVar 1) tNil)) (tChain (rI0 fun i j => .bl (decide (i ≤ j))) (rI0 fun i j => .bl (decide (i < j))) (tC (.int 0)) (tCall (spWholeOf K) [] E0 (tCons (tVar 1) tNil)) te) [some (.int k), some (.ref a)] H Q := by
      intro bound te hte hv
      rw [hv] at q0
      refine ⟨_, rfl, a, b, rfl, hS, _, rfl, ?_⟩
      refine ifB (fun z => ?_) (fun z => ?_)
      · rw [z, Bool.true_and] at q0
        refine ⟨_, rfl, a, b, rfl, hS, whole_ne z, hl, _, _, rfl, rfl, _, rfl, ?_⟩
        refine ifB (fun u => ?_) (fun u => ?_)
        · rw [u, Bool.true_and] at q0
          exact hte _ ⟨_, _, rfl, rfl, q0⟩
        · rw [u, Bool.false_and] at q0
          exact q0
      · rw [z, Bool.false_and] at q0
        exact q0
    refine ⟨_, rfl, rfl, _, rfl, ?_⟩
    rw [dZ]
    refine ifB (fun z => ?_) (fun z => ?_)
    · have hv : isValue k b = (decide (b.length ≤ 4) && isWhole b) := if_pos (of_decide_eq_true z)
      rw [hv] at q0
      refine ⟨_, rfl, a, _, rfl, .inl hS, _, _, rfl, rfl, _, rfl, ?_⟩
      rw [eL, show decide ((b.length : Int) ≤ 4) = decide (b.length ≤ 4) from decide_eq_decide.mpr (by omega)]
      refine ifB (fun u => ?_) (fun u => ?_)
      · rw [u, Bool.true_and] at q0
        exact ⟨_, rfl, a, b, rfl, hS, q0⟩
      · rw [u, Bool.false_and] at q0
        exact q0
    have n2 : ¬ k = 2 := of_decide_eq_false z
    refine ⟨_, rfl, rfl, _, rfl, ?_⟩
    rw [dZ]
    refine ifB (fun z => ?_) (fun z => ?_)
    · have hv : isValue k b = true := (if_neg n2).trans (if_pos (of_decide_eq_true z))
      rw [hv] at q0
      exact q0
    have n4 : ¬ k = 4 := of_decide_eq_false z
    refine ⟨_, rfl, rfl, _, rfl, ?_⟩
    rw [dZ]
    refine ifB (fun z => ?_) (fun z => ?_)
    · have hv : isValue k b = (Sd23.nameOf b).isSome := (if_neg n2).trans ((if_neg n4).trans (if_pos (of_decide_eq_true z)))
      rw [hv] at q
      refine ⟨_, rfl, a, b, rfl, hS, hb, hl, fun e H' s1 => ?_, fun n e H' t s1 n1 ht => ?_⟩
      · rw [e] at q
        exact q H' s1
      · rw [e] at q
        exact q H' s1
    have n6 : ¬ k = 6 := of_decide_eq_false z
    refine ⟨_, rfl, rfl, _, rfl, ?_⟩
    rw [dZ]
    refine ifB (fun z => ?_) (fun z => ?_)
    · have hv : isValue k b = (b.length == 4) := (if_neg n2).trans ((if_neg n4).trans ((if_neg n6).trans (if_pos (of_decide_eq_true z))))
      rw [hv] at q0
      refine ⟨_, rfl, a, _, rfl, .inl hS, rfl, ?_⟩
      rw [eL, show decide (V.int (b.length : Int) = V.int 4) = (b.length == 4) from (dI (n := 4)).trans (Bool.beq_eq_decide_eq _ _).symm]
      exact q0
    have n64 : ¬ k = 64 := of_decide_eq_false z
    have hmem : (k ∈ [65, 66, 67]) ↔ (k = 65 ∨ k = 66 ∨ k = 67) := by simp
    refine ⟨_, rfl, rfl, _, rfl, _, rfl, ?_⟩
    refine ifB (fun z => ?_) (fun z => ?_)
    · exact big 4294967296 _ (fun Q' h => h) ((if_neg n2).trans ((if_neg n4).trans ((if_neg n6).trans ((if_neg n64).trans (if_pos (hmem.mp (of_decide_eq_true z)))))))
    have n65 : ¬ (k = 65 ∨ k = 66 ∨ k = 67) := fun h => of_decide_eq_false z (hmem.mpr h)
    refine ⟨_, rfl, rfl, _, rfl, ?_⟩
    rw [dZ]
    refine ifB (fun z => ?_) (fun z => ?_)
    · exact big 18446744073709551616 _ (fun Q' h => ⟨_, _, rfl, rfl, .inl ⟨by decide, by decide⟩, h⟩) ((if_neg n2).trans ((if_neg n4).trans ((if_neg n6).trans ((if_neg n64).trans ((if_neg n65).trans (if_pos (of_decide_eq_true z)))))))
    have n70 : ¬ k = 70 := of_decide_eq_false z
    have hv : isValue k b = (k == 5 && b.length == 0) := (if_neg n2).trans ((if_neg n4).trans ((if_neg n6).trans ((if_neg n64).trans ((if_neg n65).trans (if_neg n70)))))
    rw [hv] at q0
    refine ⟨_, rfl, rfl, _, rfl, ?_⟩
    rw [dZ, show decide (k = 5) = (k == 5) from (Bool.beq_eq_decide_eq _ _).symm]
    refine ifB (fun u => ?_) (fun u => ?_)
    · rw [u, Bool.true_and] at q0
      refine ⟨_, rfl, a, _, rfl, .inl hS, rfl, ?_⟩
      rw [eL, show decide (V.int (b.length : Int) = V.int 0) = (b.length == 0) from (dI (n := 0)).trans (Bool.beq_eq_decide_eq _ _).symm]
      exact q0
    · rw [u, Bool.false_and] at q0
      exact q0
end
end Ad

/-! ## D7 -/
set_option Elab.async false
set_option linter.all false
set_option maxRecDepth 100000
set_option maxHeartbeats 1000000
namespace Ad
open PySem PySem.Spec PyProof.Rows L2
/-! ### NotRight() -/
theorem pmk0 {X : Cx} {C : Addr} {bmB : List Value} {B newId initId : String} {x : Str} {p pos : Pos} (F : ExcBaseFacts B newId initId bmB) (q : PySem.W.excIn X.K C bmB newId = true) (gC : X.mg x = some (.ref C))
    (kC : PySem.W.keepIn X.K (.ref C) = true) (r : Raises X (.ref C)) (hg : Gl X x) (hdb : (x == ("__debug__" : Str)) = false := by decide) : PMk X (.Call (.Name x p) [] [] pos) (fun _ H Q => Q (.ref C) none H) := by
  intro pins s σ H Q I h
  refine wpAny_Call_Name_kw (ld_glob I hg gC ?_ hdb)
  refine PySem.W.callWith_K0 I.kIn kC ?_
  obtain ⟨bm, N, nm, qn, bs, hdct, sn, sub, ab, col, dd, k0, k1, k2, k3, k5, mN, hC, hN, hni, T⟩ := exc_obj I.kIn q
  exact wpAny_call_exc_subT F T hC hN hni (fun h' e hm => mk_of I hm r h (I.hok.gone hm.new)) (Nat.zero_le _)
/-! ### an own error over Exception whose __init__ hands its argument on and keeps it -/
/-- what the written part says of the class at C -/
structure DenC (K : PySem.W.Frag) (C : Addr) : Prop where
  obj : ∃ nm q N bs sn sub ab col dd k0 k1 k2 k3 k5, K.lookup C = some (excClassObj nm q C N bs ESX.exTail true sn sub ab col dd k0 k1 k2 k3 k5 "Exception.__new__")
  set : PySem.W.findIn K (.ref C) "__setattr__" = some (some (.builtin "object.__setattr__"))
  base : PySem.W.subIn K (.ref C) (.type "BaseException") = some true
  ty : PySem.W.typeIn K (.ref C) = some (.type "type")
  kept : PySem.W.keepIn K (.ref C) = true
section
variable {X : Cx} {pins : List (Addr × Obj)} {σ : L2.St} {H : Hp} {s : Shared} {a C : Addr} {f : Str} {y : V} {u : Value} {E : Value → Shared → Prop} {A : Around}
/-- the first field of such an error: its dict is made -/
theorem den_set {Q : Unit → Shared → Prop} (T : DenC X.K C) (I : Inv X pins σ H s) (e : H a = some (exo a C none)) (hno : PySem.W.findIn X.K (.ref C) f = some none) (ry : RelV y u)
    (h : ∀ dx s', H dx = none → dx ≠ a → Inv X pins σ (upd (upd H dx (exd dx [(f, y)])) a (exo a C (some dx))) s' → Q () s') : wpAny (model X.prog X.w) A (setAttr (.ref a) f u) Q E s := by
  obtain ⟨nm, q, N, bs, sn, sub, ab, col, dd, k0, k1, k2, k3, k5, hC⟩ := T.obj
  have hcl : PySem.W.clsIn X.K C = some { name := nm, bases := bs, mro := .ref C :: ESX.exTail, ns := N, qualname := q, hasDict := true, slotNames := sn, subclasses := sub, abstract := ab, collection := col, hasDel := false } := by
    unfold PySem.W.clsIn
    rw [hC] <;> rfl
  obtain ⟨t1, ho⟩ := exo_at I.hok e
  obtain ⟨hp, g, d, t, os⟩ := s
  refine PySem.W.set_plain I.kIn (ox := PySem.HandSPX.excO C t1) (od := none) ⟨ho, rfl, rfl, trivial⟩ T.set ?_
  refine ESX.osa_new I.kIn ho hcl rfl rfl hno fun h2 tk2 dx k dn dne hx hn => ?_
  have free : H dx = none := I.hok.fresh dn
  have apart : ∀ {b : Addr} {o : Obj}, hp.get? b = some o → b ≠ dx := fun z => Nat.ne_of_lt (Nat.lt_of_lt_of_le (Heap.lt_size z) dn)
  have notA : ∀ {b : Addr}, H b = none → b ≠ a := fun n z => by
    rw [z, e] at n
    cases n
  have moved : ∀ {b : Addr} {o : HO}, H b = some o → exo a C none ≠ o → (upd (upd H dx (exd dx [(f, y)])) a (exo a C (some dx))) b = some o := fun {b o} z d => by
    rw [upd_ne (at_ne e z d), upd_ne (ne_of_none z free)]
    exact z
  have U : Un X.fs [] H (upd (upd H dx (exd dx [(f, y)])) a (exo a C (some dx))) hp h2 :=
    { keep := fun b o z n _ _ => k b o (notA n) z
      slot := fun b o z n _ _ => ⟨o.slots, k b o (notA n) z⟩
      free := fun b o z n _ => by
        rw [upd_ne (notA n), upd_ne (apart z)]
        exact n
      there := fun b o z _ => by
        by_cases hb : b = a
        · rw [hb]
          exact ⟨_, hx⟩
        · exact ⟨o, k b o hb z⟩
      tups := fun b xs z => moved z exo_tup
      frzs := fun b o v z => moved z exo_frz
      tbls := fun b ps z => ⟨#[], by
        rw [moved z exo_tbl]
        simp⟩ }
  refine h dx _ free dne (I.un (t' := tk2) U fun b o z => ?_)
  by_cases hb : b = a
  · subst hb
    rw [upd_same] at z
    cases z
    exact exo_ok hx
  rw [upd_ne hb] at z
  by_cases hd : b = dx
  · subst hd
    rw [upd_same] at z
    cases z
    exact exd_ok hn (relO_put (fs := []) ry fun _ => True.intro)
  rw [upd_ne hd] at z
  refine (I.hok b o z).stay (fun c v hc w => k c v ?_ w) (fun c hc => moved hc exo_own) fun c xs hc => moved hc exo_tup
  rcases hc with hc | hc
  · rw [hc]
    exact hb
  · exact at_ne e hc exo_own
/-- Exception.__init__(self, ..) leaves the error as it is told -/
theorem den_base {us : List Value} {Q : Value → Shared → Prop} (T : DenC X.K C) (I : Inv X pins σ H s) (e : H a = some (exo a C none)) (hl : us.length ≤ sizeLine) (h : ∀ s', Inv X pins σ H s' → Q .none s') :
    wpAny (model X.prog X.w) A (call (.builtin "Exception.__init__") (.ref a :: us)) Q E s := by
  obtain ⟨nm, q, N, bs, sn, sub, ab, col, dd, k0, k1, k2, k3, k5, hC⟩ := T.obj
  obtain ⟨t1, ho⟩ := exo_at I.hok e
  obtain ⟨hp, g, d, t, os⟩ := s
  refine wpAny_call (PySem.HandSPX.init_base PySem.F.excBase_Exception (fun _ => rfl) (I.kIn _ _ hC) ho hl fun h2 t2 k hx => ?_)
  have same : upd H a (exo a C none) = H := funext fun b => by
    by_cases hb : b = a
    · rw [hb, upd_same, e]
    · exact upd_ne hb
  have J := I.write (t' := t) (x := a) (e := a) (o := exo a C none) (by rw [e]; exact True.intro) (.inl rfl) k ⟨_, hx⟩ (exo_ok hx)
  rw [same] at J
  exact h _ J
end
theorem typ_Exc : typeOf (.type "Exception") = pure (.type "type") := by kernel_rfl
/-- Exception.__init__(self, ..) -/
def tEI (K : PySem.W.Frag) (ta : TA) : TE := fun σ H Q => ta σ H fun vs H1 => ∃ (a C : Addr) (ws : List V), vs = .ref a :: ws ∧ ws.length ≤ 1000 ∧ DenC K C ∧ H1 a = some (exo a C none) ∧ Q .non H1
/-- self.f = e -/
def sDen (K : PySem.W.Frag) (f : Str) (to te : TE) : TS := fun D σ H => te σ H fun y H1 => to σ H1 fun x H2 => ∃ a C : Addr, x = .ref a ∧ DenC K C ∧ PySem.W.findIn K (.ref C) f = some none ∧ H2 a = some (exo a C none) ∧
  ∀ dx, H2 dx = none → dx ≠ a → D.nx σ (upd (upd H2 dx (exd dx [(f, y)])) a (exo a C (some dx)))
/-- C(e, ..) -/
def tMkDen (C : Addr) (sp : Sp) (ta : TA) : L2.St → Hp → XK → Prop := fun σ H Q => ta σ H fun vs H1 => vs.length ≤ 1000 ∧ ∀ a, H1 a = none → sp (.ref a :: vs) (upd H1 a (exo a C none))
  (fun v H2 => v = .non ∧ ∃ (d : Addr) (fs : List (Str × V)), H2 a = some (exo a C (some d)) ∧ H2 d = some (exd d fs) ∧ H1 d = none ∧ Q (.ref C) (some d) (upd (del H2 a) d (.xd fs))) E0
section
variable {X : Cx} {o e : Expr} {es : List Expr} {to te : TE} {ta : TA} {f : Str} {p p' p1 p2 pos : Pos}
theorem pe_einit {pl : Sem Bool} (hm : X.mg "Exception" = none) (vE : PySem.W.findCls X.K (.type "Exception") (.type "type") "__init__" = some (.val (.builtin "Exception.__init__"))) (ha : PA X (e :: es) ta) (hg : Gl X "Exception" := by rfl)
    (hc : eval (.Call (.Attribute (.Name "Exception" p1) "__init__" p2) (e :: es) [] pos) X.env = (do
      let ov ← eval (.Name "Exception" p1) X.env
      standAt p2.atName
      let (f, first) ← holding [ov] (getMethod ov "__init__" pl)
      callWith pos f first (backTo pos (starEach (e :: es) X.env)) (backToKw pos (keywordEach [] X.env))) := by rfl)
    (he : starEach (e :: es) X.env = (false, eval e X.env) :: starEach es X.env := by rfl) (hpl : (backTo pos (starEach es X.env)).any (·.1) = false := by rfl) :
    PE X (.Call (.Attribute (.Name "Exception" p1) "__init__" p2) (e :: es) [] pos) (tEI X.K ta) := by
  refine ⟨fun pins s σ H Q I h => PySem.W.methodCall_KW (ld_blt I hg hm PyProof.Rows.Boot.«Exception» ?_ (by decide) (by decide)) hc⟩
  obtain ⟨m, fr⟩ := I.fr
  refine PySem.W.method_type fr I.ok.mod.kin typ_Exc (by decide +kernel) vE (by decide +kernel) ?_
  show wpAny _ _ (callWith pos (Value.builtin "Exception.__init__") [] (backTo pos (starEach (e :: es) X.env)) []) _ _ _
  refine PyProof.Rows.callWith_method1 (thn (ha.run pos pins _ σ H _ (I.tok _) h) fun us s1 hh => ?_) he hpl
  obtain ⟨vs, H1, I1, r1, a, C, ws, ev, hl, T, ea, q⟩ := hh
  subst ev
  cases r1 with
  | cons ra rw' =>
    cases ra
    refine den_base T I1 ea ?_ fun s' J => ⟨.non, H1, J, rfl, q⟩
    rw [← Paired.length rw', sizeLine_eq]
    omega
theorem ps_den (ho : PE X o to) (he : PE X e te) (hs : swapsWith e (some (.Attribute o f p')) pos.line X.env = pure false := by rfl) : PS X (.Assign [.Attribute o f p'] e pos) (sDen X.K f to te) := by
  refine ⟨fun pins s σ H D I h => plainObj_wpAny_Assign_Attribute (thn (he.run pins s σ H _ I h) fun v s1 hh => ?_) hs⟩
  obtain ⟨y, H1, I1, r1, q1⟩ := hh
  refine thn (ho.run pins s1 σ H1 _ I1 q1) fun u s2 hh => ?_
  obtain ⟨x, H2, I2, r2, a, C, ex, T, hno, ea, q⟩ := hh
  subst ex
  cases r2
  exact den_set T I2 ea hno r1 fun dx s' n ne J => ⟨σ, _, J, q dx n ne⟩
theorem pmk_den {CX : CXT} {x : Str} {C fI : Addr} {k : Nat} {fd : FuncData} {ps : List Str} {sp : Sp} (T : DenC X.K C) (iC : PySem.W.findIn X.K (.ref C) "__init__" = some (some (.ref fI))) (tI : PySem.W.typeIn X.K (.ref fI) = some (.type "function"))
    (F1 : FnOk X.prog X.w X.K X.mg X.base CX0 k fI fd ps sp) (hr : Room (k + 1) X.A) (hb : Binds X.K fd ps []) (hm : X.mg x = some (.ref C)) (ha : PA X (e :: es) ta) (hg : Gl X x := by rfl)
    (hdb : (x == ("__debug__" : Str)) = false := by decide) (he : starEach (e :: es) X.env = (false, eval e X.env) :: starEach es X.env := by rfl) (hpl : (backTo pos (starEach es X.env)).any (·.1) = false := by rfl) :
    PMk X (.Call (.Name x p) (e :: es) [] pos) (tMkDen C sp ta) := by
  intro pins s σ H Q I h
  obtain ⟨nm, q, N, bs, sn, sub, ab, col, dd, k0, k1, k2, k3, k5, hC⟩ := T.obj
  refine wpAny_Call_Name_kw (ld_glob I hg hm ?_ hdb)
  refine PySem.W.callWith_K (h₀ := X.base) I.ok.mod.kin T.kept (thn (ha.run pos pins s σ H _ I h) fun us s1 hh => ?_) he hpl
  obtain ⟨vs, H1, I1, r1, hz, q1⟩ := hh
  refine ⟨I1.kIn, ?_⟩
  show wpAny _ _ (call (.ref C) us) _ _ _
  obtain ⟨hp, g, dr, tk, os⟩ := s1
  -- the error lies behind the tuple of its arguments
  let h2 : Heap := (hp.push (PySem.W.kdv_tup us)).push (PySem.HandSPX.excO C hp.objs.size)
  have step : hp.objs.size ≤ hp.objs.size + 1 := Nat.le_succ _
  have free : H1 (hp.objs.size + 1) = none := I1.hok.fresh step
  have hq := q1 (hp.objs.size + 1) free
  have old : ∀ b o, hp.get? b = some o → h2.get? b = some o := fun b o z => Heap.get?_push_of_some _ (Heap.get?_push_of_some _ z)
  have here : h2.get? (hp.objs.size + 1) = some (PySem.HandSPX.excO C hp.objs.size) := by
    show ((hp.push (PySem.W.kdv_tup us)).push (PySem.HandSPX.excO C hp.objs.size)).get? (hp.objs.size + 1) = _
    heap_get
  have I2 : Inv X pins σ (upd H1 (hp.objs.size + 1) (exo (hp.objs.size + 1) C none)) ⟨h2, g, dr, tk, os⟩ := I1.laid (t' := tk) old step (exo_ok here)
  have r2 : Vals (V.ref (hp.objs.size + 1) :: vs) (Value.ref (hp.objs.size + 1) :: us) := .cons rfl r1
  have hl : (Value.ref (hp.objs.size + 1) :: us).length = ps.length := by
    rw [← r2.length]
    exact F1.len _ _ _ _ hq
  have hus : us.length ≤ sizeLine := by
    rw [← Paired.length r1, sizeLine_eq]
    omega
  have hbind := hb ⟨h2, g, dr, tk, os⟩ (Value.ref (hp.objs.size + 1) :: us) I2.kIn (by rw [List.append_nil]; exact hl)
  rw [List.append_nil] at hbind
  refine wpAny_call (PySem.HandSPX.call_own PySem.F.excBase_Exception (fun _ => rfl) (I1.kIn _ _ hC) (PySem.W.looks_findIn I1.kIn iC) (fun self => PySem.W.bind_fn I1.kIn self tI) hus
    (codeAny_mono (F1.run _ X.stack _ _ ⟨Value.ref (hp.objs.size + 1) :: us, []⟩ _ _ _ E0 (hr.make C us []) (I2.env0.make C us []) hbind r2 hq) fun r s' hq' => ?_))
  cases r with
  | error er => exact False.elim hq'
  | ok fl =>
    cases fl with
    | ret u =>
      obtain ⟨v, H2, os2, bare2, un2, hok2, rv, ev, d, fs, ea, ed, hd1, q2⟩ := hq'
      subst ev
      obtain ⟨h3, g3, d3, t3, os3⟩ := s'
      exact ⟨rv, mk_end (raises_own T.base T.ty) I1 step old un2 hok2 os2 bare2 ea ed hd1 q2⟩
    | next => exact False.elim hq'
    | brk => exact False.elim hq'
    | cont => exact False.elim hq'
end
end Ad

/-! ## D8 -/
set_option Elab.async false
set_option linter.all false
set_option maxRecDepth 100000
set_option maxHeartbeats 1000000
namespace Ad
open PySem PySem.Spec PyProof.Rows L2
/-! ### fields by name -/
theorem lk_here {k : Str} {v : V} {r : List (Str × V)} : List.lookup k ((k, v) :: r) = some v := by
  have e : (k == k) = true := beq_self_eq_true k
  simp only [List.lookup, e]
theorem lk_past {k g : Str} {v : V} {r : List (Str × V)} (h : (k == g) = false) : List.lookup k ((g, v) :: r) = List.lookup k r := by
  simp only [List.lookup, h]
theorem put_here {f : Str} {v x : V} {r : List (Str × V)} : putF f v ((f, x) :: r) = (f, v) :: r := if_pos rfl
theorem put_past {f g : Str} {v x : V} {r : List (Str × V)} (h : ¬ g = f) : putF f v ((g, x) :: r) = (g, x) :: putF f v r := if_neg h
theorem put_nil {f : Str} {v : V} : putF f v [] = [(f, v)] := rfl
/-- what a callee lets out goes on out of this def -/
theorem passE {P : Program} {w : World} {K : PySem.W.Frag} {mg : Str → Option Value} {base : Heap} {N : List Str} {qual : Str} {sc : Scope} {f : Addr} {cdv : Value} {A : Around} {outer : List Env} {s : Shared} {H : Hp} {E : XK} :
    Passes (L2.CX P w) (cxOf (L2.CX P w) P w K mg base N qual sc f cdv A outer s H E) E := passes_call (takes_of rfl rfl rfl rfl) fun _ _ _ _ h => h
/-! ### need (of things) -/
structure XN (K : PySem.W.Frag) (mg : Str → Option Value) (C : Addr) : Prop where
  exc : PySem.W.excIn K C [.type "Exception", .type "BaseException", .type "object"] "Exception.__new__" = true
  mg : mg "NotRight" = some (.ref C)
  kept : PySem.W.keepIn K (.ref C) = true
  base : PySem.W.subIn K (.ref C) (.type "BaseException") = some true
  ty : PySem.W.typeIn K (.ref C) = some (.type "type")
  own : PySem.W.exmOne K (.ref C) (.ref C) = some true
abbrev sNeedT : Stmt := top 16
theorem scNeedT : FnScope ["holds"] ["holds"] (defScope sNeedT) := ⟨rfl, rfl, rfl, by decide +kernel, rfl, by decide +kernel, by decide +kernel⟩
theorem bNeedT : BindsBy "need" "need" sNeedT ["holds"] := fun _ _ _ _ _ _ us hl => match us, hl with | [_], _ => rfl
def spNeedT (C : Addr) : Sp := fun vs H Q E => ∃ b : Bool, vs = [.bl b] ∧ (b = true → Q .non H) ∧ (b = false → E (.ref C) none H)
section
variable {P : Program} {w : World} {K : PySem.W.Frag} {mg : Str → Option Value} {base : Heap} {CN : Addr}
theorem ok_needT (D : Def1 K mg "need_things" "need" sNeedT) (T : XN K mg CN) : CalX P w K mg base (L2.CX P w) 1 "need_things" (spNeedT CN) := by
  refine calX D scNeedT bNeedT (fun vs H Q E h => ?_) fun f cdv A outer s H vs Q E hr h => ?_
  · obtain ⟨b, rfl, _⟩ := h
    rfl
  · obtain ⟨b, rfl, kT, kF⟩ := h
    refine ⟨_, pss_one (ps_if (pt_not (pt_val (pv 0))) (pss_one (ps_raise rfl (takes_of rfl rfl rfl rfl) (pmk0 PySem.F.excBase_Exception T.exc T.mg T.kept (raises_own T.base T.ty) (by exact rfl)))) pss_nil), ?_⟩
    refine ⟨_, rfl, _, rfl, ?_⟩
    cases b with
    | true => exact ifF rfl (kT rfl)
    | false => exact ifT rfl (kF rfl)
end
/-! ### Reader -/
def rF (c : Addr) (k : Int) : List (Str × V) := [("content", .ref c), ("at", .int k)]
theorem rF_content (c : Addr) (k : Int) : (rF c k).lookup ("content" : Str) = some (.ref c) := lk_here
theorem rF_at (c : Addr) (k : Int) : (rF c k).lookup ("at" : Str) = some (.int k) := (lk_past (by decide +kernel)).trans lk_here
theorem rF_no (c : Addr) (k : Int) {m : Str} (h1 : (m == ("content" : Str)) = false) (h2 : (m == ("at" : Str)) = false) : (rF c k).lookup m = none := (lk_past h1).trans ((lk_past h2).trans rfl)
theorem rF_put (c : Addr) (k j : Int) : putF "at" (.int j) (rF c k) = rF c j := (put_past (by decide +kernel)).trans (congrArg _ put_here)
theorem rF_new (c : Addr) (j : Int) : putF "at" (.int j) (putF "content" (.ref c) []) = rF c j := (put_past (by decide +kernel)).trans rfl
/-- all but what stands at a is as it was; a reader there still reads the same list -/
structure But (a : Addr) (H H' : Hp) : Prop where
  keep : ∀ b o, b ≠ a → H b = some o → H' b = some o
  rd : ∀ C dx c k, H a = some (.ins C dx (rF c k)) → ∃ k', H' a = some (.ins C dx (rF c k'))
instance {a : Addr} {H H' : Hp} : CoeFun (But a H H') (fun _ => ∀ b o, b ≠ a → H b = some o → H' b = some o) := ⟨But.keep⟩
theorem But.refl (a : Addr) (H : Hp) : But a H H := ⟨fun _ _ _ e => e, fun _ _ _ k e => ⟨k, e⟩⟩
theorem But.trans {a : Addr} {H H1 H2 : Hp} (x : But a H H1) (y : But a H1 H2) : But a H H2 := ⟨fun b o h e => y b o h (x b o h e), fun C dx c k e => let ⟨k1, e1⟩ := x.rd C dx c k e; y.rd C dx c k1 e1⟩
theorem But.same {a : Addr} {H0 H H' : Hp} (y : But a H H') (x : Same H0 H) (n : H0 a = none) : Same H0 H' := fun b o e => y b o (ne_of_none e n) (x b o e)
theorem rF_inj {c c' : Addr} {k k' : Int} (h : rF c k = rF c' k') : c = c' := by
  have h1 := (List.cons.inj h).1
  exact V.ref.inj (congrArg Prod.snd h1)
/-- a reader at a, of the class at C, with these bytes still to come -/
def Rdr (C : Addr) (H : Hp) (a : Addr) (rest : List Nat) : Prop := ∃ (dx c : Addr) (b : List Nat) (k : Nat), H a = some (.ins C dx (rF c k)) ∧ H c = some (.lst (nV b)) ∧ k ≤ b.length ∧ b.drop k = rest ∧ b.length ≤ 16000
theorem Rdr.same {C : Addr} {H H' : Hp} {a : Addr} {rest : List Nat} (r : Rdr C H a rest) (s : Same H H') : Rdr C H' a rest := by
  obtain ⟨dx, c, b, k, h1, h2, h3⟩ := r
  exact ⟨dx, c, b, k, s _ _ h1, s _ _ h2, h3⟩
theorem Rdr.len {C : Addr} {H : Hp} {a : Addr} {rest : List Nat} (r : Rdr C H a rest) : rest.length ≤ 16000 := by
  obtain ⟨dx, c, b, k, h1, h2, h3, rfl, h5⟩ := r
  rw [List.length_drop]
  omega
theorem Rdr.there {C : Addr} {H : Hp} {a : Addr} {rest : List Nat} (r : Rdr C H a rest) : ∃ dx fs, H a = some (.ins C dx fs) := by
  obtain ⟨dx, c, b, k, h1, _⟩ := r
  exact ⟨dx, _, h1⟩
structure RdT (K : PySem.W.Frag) (C : Addr) : Prop where
  cl : Cls K C
  nC : NoAttr K C "content"
  nA : NoAttr K C "at"
abbrev sRdI : Stmt := inClass (top 18) 0
abbrev sRdT : Stmt := inClass (top 18) 1
abbrev sRdTh : Stmt := inClass (top 18) 2
abbrev sRdM : Stmt := inClass (top 18) 3
abbrev sRdH : Stmt := inClass (top 18) 4
theorem scRdI : FnScope ["self", "content"] ["self", "content"] (defScope sRdI) := ⟨rfl, rfl, rfl, by decide +kernel, rfl, by decide +kernel, by decide +kernel⟩
theorem bRdI : BindsBy "__init__" "Reader.__init__" sRdI ["self", "content"] := fun _ _ _ _ _ _ us hl => match us, hl with | [_, _], _ => rfl
theorem scRdT : FnScope ["self", "many"] ["self", "many"] (defScope sRdT) := ⟨rfl, rfl, rfl, by decide +kernel, rfl, by decide +kernel, by decide +kernel⟩
theorem bRdT : BindsBy "take" "Reader.take" sRdT ["self", "many"] := fun _ _ _ _ _ _ us hl => match us, hl with | [_, _], _ => rfl
theorem scRdTh : FnScope ["self", "mark", "length", "high", "low"] ["self"] (defScope sRdTh) := ⟨rfl, rfl, rfl, by decide +kernel, rfl, by decide +kernel, by decide +kernel⟩
theorem bRdTh : BindsBy "thing" "Reader.thing" sRdTh ["self"] := fun _ _ _ _ _ _ us hl => match us, hl with | [_], _ => rfl
theorem scRdM : FnScope ["self", "mark", "found", "content"] ["self", "mark"] (defScope sRdM) := ⟨rfl, rfl, rfl, by decide +kernel, rfl, by decide +kernel, by decide +kernel⟩
theorem bRdM : BindsBy "marked" "Reader.marked" sRdM ["self", "mark"] := fun _ _ _ _ _ _ us hl => match us, hl with | [_, _], _ => rfl
theorem scRdH : FnScope ["self"] ["self"] (defScope sRdH) := ⟨rfl, rfl, rfl, by decide +kernel, rfl, by decide +kernel, by decide +kernel⟩
theorem bRdH : BindsBy "has_more" "Reader.has_more" sRdH ["self"] := fun _ _ _ _ _ _ us hl => match us, hl with | [_], _ => rfl
def spRdI (C : Addr) : Sp := fun vs H Q _ => ∃ (a dx c : Addr) (b : List Nat), vs = [.ref a, .ref c] ∧ H a = some (.ins C dx []) ∧ H c = some (.lst (nV b)) ∧ b.length ≤ 16000 ∧ ∀ H', But a H H' → Rdr C H' a b → (∃ dx k, H' a = some (.ins C dx (rF c k))) → Q .non H'
def spRdH (C : Addr) : Sp := fun vs H Q _ => ∃ (a : Addr) (rest : List Nat), vs = [.ref a] ∧ Rdr C H a rest ∧ Q (.bl (!rest.isEmpty)) H
def spRdT (C CN : Addr) : Sp := fun vs H Q E => ∃ (a : Addr) (m : Nat) (rest : List Nat), vs = [.ref a, .int (m : Int)] ∧ Rdr C H a rest ∧ (rest.length < m → E (.ref CN) none H) ∧
  (m ≤ rest.length → ∀ H' p, But a H H' → H p = none → H' p = some (.lst (nV (rest.take m))) → Rdr C H' a (rest.drop m) → Q (.ref p) H')
section
variable {P : Program} {w : World} {K : PySem.W.Frag} {mg : Str → Option Value} {base : Heap} {C CN : Addr}
theorem ok_rdI (D : Mak1 K mg "Reader" C "Reader.__init__" sRdI) (T : RdT K C) : MakX P w K mg base 1 "Reader" C (spRdI C) := by
  refine mak0 D scRdI bRdI (fun vs H Q E h => ?_) fun f cdv A outer s H vs Q E hr h => ?_
  · obtain ⟨a, dx, c, b, rfl, _⟩ := h
    rfl
  · obtain ⟨a, dx, c, b, rfl, h1, h2, hl, k⟩ := h
    have nac : c ≠ a := ne_of h2 h1 (by intro z; cases z)
    refine ⟨_, pss_cons (ps_fld (pv 0) (pv 1) rfl) (pss_one (ps_fld (pv 0) pe_int rfl)), ?_⟩
    refine ⟨_, rfl, _, rfl, a, C, dx, [], rfl, h1, T.cl, T.nC, (by show 0 < 1000; decide), ?_⟩
    refine ⟨_, rfl, a, C, dx, _, rfl, upd_same, T.cl, T.nA, (by show 1 < 1000; decide), ?_⟩
    refine k _ ⟨fun b o hb e => by rw [upd_ne hb, upd_ne hb]; exact e, fun C' dx' c' k' e => by rw [h1] at e; cases e⟩ ⟨dx, c, b, 0, ?_, ?_, Nat.zero_le _, rfl, hl⟩ ⟨dx, 0, ?_⟩
    · rw [upd_same]
      exact congrArg (fun z => some (HO.ins C dx z)) (rF_new c 0)
    · rw [upd_ne nac, upd_ne nac]
      exact h2
    · rw [upd_same]
      exact congrArg (fun z => some (HO.ins C dx z)) (rF_new c 0)
theorem ok_rdH (D : Met1 K C "has_more" "Reader.has_more" sRdH) (B : Blt mg) (T : RdT K C) : MetX P w K mg base CX0 1 C "has_more" (spRdH C) := by
  refine met0 D scRdH bRdH (fun vs H Q E h => ?_) fun f cdv A outer s H vs Q E hr h => ?_
  · obtain ⟨a, r, rfl, _⟩ := h
    rfl
  · obtain ⟨a, r, rfl, ⟨dx, c, b, k, h1, h2, h3, rfl, h5⟩, q⟩ := h
    refine ⟨_, pss_one (ps_ret (pe_cmpR op_lt (pe_fld (pv 0) rfl) (plen B (pe_fld (pv 0) rfl)) (nomark _))), ?_⟩
    refine ⟨_, rfl, a, C, dx, _, _, rfl, h1, T.cl, T.nA, rF_at _ _, _, rfl, a, C, dx, _, _, rfl, h1, T.cl, T.nC, rF_content _ _, c, _, rfl, .inl (SqL.of h2), _, _, rfl, rfl, ?_⟩
    rw [nV_length]
    have e : decide ((k : Int) < (b.length : Int)) = !(b.drop k).isEmpty := by
      have hl : (b.drop k).length = b.length - k := List.length_drop ..
      cases hd : b.drop k with
      | nil =>
        rw [hd] at hl
        exact decide_eq_false (by simp at hl; omega)
      | cons x r =>
        rw [hd] at hl
        exact decide_eq_true (by simp at hl; omega)
    show Q (.bl (decide ((k : Int) < (b.length : Int)))) H
    rw [e]
    exact q
theorem ok_rdT (D : Met1 K C "take" "Reader.take" sRdT) (B : Blt mg) (T : RdT K C) (cN : CalX P w K mg base (L2.CX P w) 1 "need_things" (spNeedT CN)) : MetX P w K mg base (L2.CX P w) 2 C "take" (spRdT C CN) := by
  refine metX D scRdT bRdT (fun vs H Q E h => ?_) fun f cdv A outer s H vs Q E hr h => ?_
  · obtain ⟨a, m, r, rfl, _⟩ := h
    rfl
  · obtain ⟨a, m, r, rfl, ⟨dx, c, b, k, h1, h2, h3, rfl, h5⟩, qF, qS⟩ := h
    refine ⟨_, pss_cons (ps_expr (pcall cN hr (by decide) passE (pa_cons (pe_cmpR op_le (pe_op op_add (pe_fld (pv 0) rfl) (pv 1)) (plen B (pe_fld (pv 0) rfl)) (nomark _)) pa_nil)))
      (pss_cons (ps_fld (pv 0) (pe_op op_add (pe_fld (pv 0) rfl) (pv 1)) rfl)
      (pss_one (ps_ret (pe_slice sl_list (pe_fld (pv 0) rfl) (po_some (pe_op op_sub (pe_fld (pv 0) rfl) (pv 1))) (po_some (pe_fld (pv 0) rfl)))))), ?_⟩
    have nca : c ≠ a := ne_of h2 h1 (by intro z; cases z)
    have hlen : (b.drop k).length = b.length - k := List.length_drop ..
    refine ⟨_, rfl, a, C, dx, _, _, rfl, h1, T.cl, T.nA, rF_at _ _, _, rfl, _, _, rfl, rfl, _, rfl, a, C, dx, _, _, rfl, h1, T.cl, T.nC, rF_content _ _, c, _, rfl, .inl (SqL.of h2), _, _, rfl, rfl, ?_⟩
    rw [nV_length]
    refine ⟨_, rfl, fun q => ?_, fun q => ?_⟩
    · have hm : k + m ≤ b.length := by have := of_decide_eq_true q; omega
      refine ⟨_, rfl, a, C, dx, _, _, rfl, h1, T.cl, T.nA, rF_at _ _, _, rfl, _, _, rfl, rfl, _, rfl, a, C, dx, _, rfl, h1, T.cl, T.nA, (by show 2 < 1000; decide), ?_⟩
      have eF : putF "at" (V.int ((k : Int) + (m : Int))) (rF c (k : Int)) = rF c ((k + m : Nat) : Int) := rF_put c k _
      dsimp only
      rw [eF]
      refine ⟨_, rfl, a, C, dx, _, _, rfl, upd_same, T.cl, T.nC, rF_content _ _, _, rfl, a, C, dx, _, _, rfl, upd_same, T.cl, T.nA, rF_at _ _, _, rfl, _, _, rfl, rfl, _, rfl, _, rfl, a, C, dx, _, _, rfl, upd_same, T.cl, T.nA, rF_at _ _, _, rfl, c, _, rfl, SqL.of (by rw [upd_ne nca]; exact h2), fun p hp => ?_⟩
      have hp' := upd_free hp
      have ncp : c ≠ p := ne_of_none h2 hp'.1
      have ecut : cutV (nV b) (some (((k + m : Nat) : Int) - (m : Int))) (some ((k + m : Nat) : Int)) = nV ((b.drop k).take m) := by
        rw [show ((k + m : Nat) : Int) - (m : Int) = (k : Int) by omega, cut_nat (by omega) (by rw [nV_length]; exact hm), nV_take, nV_drop]
        rw [show k + m - k = m by omega]
      refine qS (by omega) _ p ⟨fun b' o hb e => ?_, fun C' dx' c' k' e => ?_⟩ hp'.1 ?_ ⟨dx, c, b, k + m, ?_, ?_, hm, by rw [List.drop_drop], h5⟩
      · rw [upd_ne (ne_of_none e hp'.1), upd_ne hb]
        exact e
      · rw [h1] at e
        have e1 := HO.ins.inj (Option.some.inj e)
        refine ⟨((k + m : Nat) : Int), ?_⟩
        rw [upd_ne hp'.2.symm, upd_same, ← e1.1, ← e1.2.1, rF_inj e1.2.2]
      · rw [upd_same]
        exact congrArg (fun z => some (HO.lst z)) ecut
      · rw [upd_ne hp'.2.symm, upd_same]
      · rw [upd_ne ncp, upd_ne nca]
        exact h2
    · refine qF ?_
      have := of_decide_eq_false q
      omega
end
/-- thing: what split says; bytes below 256 -/
def spRdTh (C CN : Addr) : Sp := fun vs H Q E => ∃ (a : Addr) (rest : List Nat), vs = [.ref a] ∧ Rdr C H a rest ∧ AllB rest ∧ (Sd23.split rest = none → ∀ H', But a H H' → E (.ref CN) none H') ∧
  (∀ t v r, Sd23.split rest = some (t, v, r) → ∀ H' p q, But a H H' → H p = none → H q = none → H' p = some (.tup [.int (t : Int), .ref q]) → H' q = some (.lst (nV v)) → Rdr C H' a r → Q (.ref p) H')
def spRdM (C CN : Addr) : Sp := fun vs H Q E => ∃ (a : Addr) (m : Nat) (rest : List Nat), vs = [.ref a, .int (m : Int)] ∧ Rdr C H a rest ∧ AllB rest ∧ (Sd23.want m rest = none → ∀ H', But a H H' → E (.ref CN) none H') ∧
  (∀ v r, Sd23.want m rest = some (v, r) → ∀ H' q, But a H H' → H q = none → H' q = some (.lst (nV v)) → Rdr C H' a r → Q (.ref q) H')
theorem Rdr.no {C : Addr} {H : Hp} {a : Addr} {rest : List Nat} (r : Rdr C H a rest) {m : Str} (h1 : (m == ("content" : Str)) = false := by decide +kernel) (h2 : (m == ("at" : Str)) = false := by decide +kernel) :
    ∃ dx fs, H a = some (.ins C dx fs) ∧ fs.lookup m = none := by
  obtain ⟨dx, c, b, k, h, _⟩ := r
  exact ⟨dx, _, h, rF_no _ _ h1 h2⟩
section
variable {P : Program} {w : World} {K : PySem.W.Frag} {mg : Str → Option Value} {base : Heap} {C CN : Addr}
theorem ok_rdTh (D : Met1 K C "thing" "Reader.thing" sRdTh) (cN : CalX P w K mg base (L2.CX P w) 1 "need_things" (spNeedT CN)) (cT : MetX P w K mg base (L2.CX P w) 2 C "take" (spRdT C CN)) : MetX P w K mg base (L2.CX P w) 3 C "thing" (spRdTh C CN) := by
  refine metX D scRdTh bRdTh (fun vs H Q E h => ?_) fun f cdv A outer s H vs Q E hr h => ?_
  · obtain ⟨a, r, rfl, _⟩ := h
    rfl
  · obtain ⟨a, rest, rfl, hR, hb, qF, qS⟩ := h
    refine ⟨_, pss_cons (ps_asg (pmeth cT hr (by decide) passE (pv 0) (pa_cons pe_int pa_nil)) (pg_lst rfl (pgs_cons (pg_name (i := 1) scRdTh.nd rfl (.inl rfl)) (pgs_cons (pg_name (i := 2) scRdTh.nd rfl (.inl rfl)) pgs_nil)))) <|
      pss_cons (ps_if (pt_cmpR op_eq (pv 2) pe_int (nomark _))
        (pss_cons (ps_set (i := 2) scRdTh.nd rfl (.inl rfl) (pe_ix ix_list (pmeth cT hr (by decide) passE (pv 0) (pa_cons pe_int pa_nil)) pe_int (fun _ _ => rfl)))
          (pss_one (ps_expr (pcall cN hr (by decide) passE (pa_cons (pe_cmpR op_ge (pv 2) pe_int (nomark _)) pa_nil)))))
        (pss_one (ps_if (pt_cmpR op_eq (pv 2) pe_int (nomark _))
          (pss_cons (ps_asg (pmeth cT hr (by decide) passE (pv 0) (pa_cons pe_int pa_nil)) (pg_lst rfl (pgs_cons (pg_name (i := 3) scRdTh.nd rfl (.inl rfl)) (pgs_cons (pg_name (i := 4) scRdTh.nd rfl (.inl rfl)) pgs_nil))))
            (pss_cons (ps_set (i := 2) scRdTh.nd rfl (.inl rfl) (pe_op op_add (pe_op op_mul pe_int (pv 3)) (pv 4)))
            (pss_one (ps_expr (pcall cN hr (by decide) passE (pa_cons (pe_cmpR op_ge (pv 2) pe_int (nomark _)) pa_nil))))))
          (pss_one (ps_expr (pcall cN hr (by decide) passE (pa_cons (pe_cmpR op_lt (pv 2) pe_int (nomark _)) pa_nil))))))) <|
      pss_one (ps_ret (pe_tup (pa_cons (pv 1) (pa_cons (pmeth cT hr (by decide) passE (pv 0) (pa_cons (pv 2) pa_nil)) pa_nil)))), ?_⟩
    -- the end: so many bytes taken of what is left
    have fin : ∀ (t n : Nat) (r : List Nat) (H1 : Hp) (o3 o4 : Option V), Sd23.split rest = cut t n r → But a H H1 → H a ≠ none → Rdr C H1 a r →
        tRet (tTup (tCons (tVar 1) (tCons (tMeth C "take" (spRdT C CN) [] E (tVar 0) (tCons (tVar 2) tNil)) tNil))) { nx := fun _ H' => Q .non H', rt := Q } [some (.ref a), some (.int (t : Int)), some (.int (n : Int)), o3, o4] H1 := by
      intro t n r H1 o3 o4 hs b1 na R1
      obtain ⟨dx, fs, h1, hno⟩ := R1.no (m := "take")
      refine ⟨_, rfl, _, rfl, a, dx, fs, rfl, h1, hno, _, rfl, a, n, r, rfl, R1, fun hl => ?_, fun hl H2 q b2 n2 h2 R2 => ?_⟩
      · refine qF ?_ H1 b1
        rw [hs]
        exact if_pos hl
      · refine ⟨(by show 2 ≤ sizeLine; decide), fun p hp => ?_⟩
        have nqp : q ≠ p := ne_of_none h2 hp
        have hs' : Sd23.split rest = some (t, r.take n, r.drop n) := hs.trans (if_neg (by omega))
        have free : ∀ {z : Addr}, H1 z = none → H z = none := fun {z} hz => by
          by_cases e : z = a
          · rw [e] at hz
            rw [h1] at hz
            cases hz
          · cases q : H z with
            | none => rfl
            | some o =>
              rw [b1 z o e q] at hz
              cases hz
        have freep : H p = none := by
          by_cases e : p = a
          · obtain ⟨dx2, fs2, h3⟩ := R2.there
            rw [e, h3] at hp
            cases hp
          · cases q : H1 p with
            | none => exact free q
            | some o =>
              rw [b2 p o e q] at hp
              cases hp
        have npa : a ≠ p := fun e => by
          obtain ⟨dx2, fs2, h3⟩ := R2.there
          rw [← e, h3] at hp
          cases hp
        refine qS _ _ _ hs' _ p q ⟨fun b o hb e => ?_, fun C' dx' c' k' e => ?_⟩ freep (free n2) upd_same (by rw [upd_ne nqp]; exact h2) (R2.same (Same.new hp))
        · rw [upd_ne (fun e' => by rw [e', freep] at e; cases e)]
          exact b2 b o hb (b1 b o hb e)
        · rw [upd_ne npa]
          exact (b1.trans b2).rd C' dx' c' k' e
    obtain ⟨dx, fs, h1, hno⟩ := hR.no (m := "take")
    have na : H a ≠ none := by
      rw [h1]
      exact fun e => by cases e
    refine ⟨_, rfl, a, dx, fs, rfl, h1, hno, a, 2, rest, rfl, hR, fun hl => ?_, fun hl H1 p1 b1 n1 h1' R1 => ?_⟩
    · refine qF ?_ H (But.refl a H)
      match rest, hl with
      | [], _ => rfl
      | [_], _ => rfl
    obtain ⟨t, l, r, rfl⟩ := two_of hl
    refine ⟨p1, _, rfl, SqL.of h1', rfl, _, _, rfl, _, _, rfl, rfl, ?_⟩
    have R1' : Rdr C H1 a r := R1
    have hl256 : l < 256 := hb l (by simp)
    refine ⟨_, rfl, rfl, _, rfl, ?_⟩
    have d129 : decide (V.int (l : Int) = V.int 129) = decide (l = 129) := dI (n := 129)
    have d130 : decide (V.int (l : Int) = V.int 130) = decide (l = 130) := dI (n := 130)
    rw [d129]
    refine ifB (fun z => ?_) (fun z => ?_)
    · have e129 : l = 129 := of_decide_eq_true z
      subst e129
      obtain ⟨dx1, fs1, g1, gno⟩ := R1'.no (m := "take")
      refine ⟨_, rfl, a, dx1, fs1, rfl, g1, gno, a, 1, r, rfl, R1', fun hl1 => ?_, fun hl1 H2 p2 b2 n2 h2 R2 => ?_⟩
      · refine qF ?_ H1 b1
        match r, hl1 with
        | [], _ => rfl
      obtain ⟨x, r', rfl⟩ : ∃ x r', r = x :: r' := by
        match r, hl1 with
        | x :: r', _ => exact ⟨x, r', rfl⟩
      refine ⟨p2, _, _, _, rfl, rfl, SqL.of h2, atz (xs := nV ((x :: r').take 1)) rfl, ?_⟩
      refine ⟨_, rfl, _, _, rfl, rfl, _, rfl, fun q => ?_, fun q => ?_⟩
      · have hx : ¬ x < 128 := by have := of_decide_eq_true q; omega
        exact fin t x r' H2 none none (split_81.trans (if_neg hx)) (b1.trans b2) na R2
      · have hx : x < 128 := by have := of_decide_eq_false q; omega
        exact qF (split_81.trans (if_pos hx)) H2 (b1.trans b2)
    have n129 : ¬ l = 129 := of_decide_eq_false z
    refine ⟨_, rfl, rfl, _, rfl, ?_⟩
    rw [d130]
    refine ifB (fun z => ?_) (fun z => ?_)
    · have e130 : l = 130 := of_decide_eq_true z
      subst e130
      obtain ⟨dx1, fs1, g1, gno⟩ := R1'.no (m := "take")
      refine ⟨_, rfl, a, dx1, fs1, rfl, g1, gno, a, 2, r, rfl, R1', fun hl1 => ?_, fun hl1 H2 p2 b2 n2 h2 R2 => ?_⟩
      · refine qF ?_ H1 b1
        match r, hl1 with
        | [], _ => rfl
        | [_], _ => rfl
      obtain ⟨x, y, r', rfl⟩ := two_of hl1
      refine ⟨p2, _, rfl, SqL.of h2, rfl, _, _, rfl, _, _, rfl, rfl, ?_⟩
      refine ⟨_, rfl, _, _, rfl, rfl, .inl ⟨by decide, by decide⟩, _, rfl, _, _, rfl, rfl, ?_⟩
      have exy : ((256 : Int) * (x : Int) + (y : Int)) = ((256 * x + y : Nat) : Int) := by
        rw [Int.natCast_add, Int.natCast_mul]
        rfl
      have hy : y < 256 := hb y (by simp)
      dsimp only
      rw [exy]
      refine ⟨_, rfl, _, _, rfl, rfl, _, rfl, fun q => ?_, fun q => ?_⟩
      · have hx : ¬ x = 0 := by have := of_decide_eq_true q; omega
        exact fin t (256 * x + y) r' H2 _ _ (split_82.trans (if_neg hx)) (b1.trans b2) na R2
      · have hx : x = 0 := by have := of_decide_eq_false q; omega
        exact qF (split_82.trans (if_pos hx)) H2 (b1.trans b2)
    have n130 : ¬ l = 130 := of_decide_eq_false z
    refine ⟨_, rfl, _, _, rfl, rfl, _, rfl, fun q => ?_, fun q => ?_⟩
    · have hx : l < 128 := by have := of_decide_eq_true q; omega
      exact fin t l r H1 none none (split_short hx) b1 na R1'
    · have hx : ¬ l < 128 := by have := of_decide_eq_false q; omega
      exact qF (split_other hx n129 n130) H1 b1
theorem ok_rdM (D : Met1 K C "marked" "Reader.marked" sRdM) (cN : CalX P w K mg base (L2.CX P w) 1 "need_things" (spNeedT CN)) (cT : MetX P w K mg base (L2.CX P w) 3 C "thing" (spRdTh C CN)) : MetX P w K mg base (L2.CX P w) 4 C "marked" (spRdM C CN) := by
  refine metX D scRdM bRdM (fun vs H Q E h => ?_) fun f cdv A outer s H vs Q E hr h => ?_
  · obtain ⟨a, m, r, rfl, _⟩ := h
    rfl
  · obtain ⟨a, m, rest, rfl, hR, hb, qF, qS⟩ := h
    refine ⟨_, pss_cons (ps_asg (pmeth0 cT hr (by decide) passE (pv 0)) (pg_tup rfl (pgs_cons (pg_name (i := 2) scRdM.nd rfl (.inl rfl)) (pgs_cons (pg_name (i := 3) scRdM.nd rfl (.inl rfl)) pgs_nil)))) <|
      pss_cons (ps_expr (pcall cN hr (by decide) passE (pa_cons (pe_cmpR op_eq (pv 2) (pv 1) (nomark _)) pa_nil))) <|
      pss_one (ps_ret (pv 3)), ?_⟩
    obtain ⟨dx, fs, h1, hno⟩ := hR.no (m := "thing")
    refine ⟨_, rfl, a, dx, fs, rfl, h1, hno, a, rest, rfl, hR, hb, fun hs H1 b1 => ?_, fun t v r hs H1 p q b1 np nq hp hq R1 => ?_⟩
    · exact qF (by rw [want_eq, hs]) H1 b1
    · refine ⟨p, _, rfl, SqT.of hp, rfl, _, _, rfl, _, _, rfl, rfl, ?_⟩
      refine ⟨_, rfl, _, rfl, rfl, ?_⟩
      have hw : Sd23.want m rest = if t = m then some (v, r) else none := by rw [want_eq, hs]
      rw [dI]
      refine ⟨_, rfl, fun z => ?_, fun z => ?_⟩
      · exact ⟨_, rfl, qS v r (hw.trans (if_pos (of_decide_eq_true z))) H1 q b1 nq hq R1⟩
      · exact qF (hw.trans (if_neg (of_decide_eq_false z))) H1 b1
end
end Ad

/-! ## D9 -/
set_option Elab.async false
set_option linter.all false
set_option maxRecDepth 100000
set_option maxHeartbeats 1000000
namespace Ad
open PySem PySem.Spec PyProof.Rows L2
/-! ### == and != of two lists, of two tuples of numbers -/
def nD (l : List Nat) : List PyData := (l.map fun (n : Nat) => (n : Int)).map PyData.int
theorem nD_eq (l m : List Nat) : PyData.eqvAll (nD l) (nD m) = decide (l = m) := by
  unfold nD
  rw [PySem.W.ked_eqvAll]
  apply decide_eq_decide.mpr
  constructor
  · intro h
    have := congrArg (List.map V.int) h
    rw [List.map_map, List.map_map] at this
    exact nV_inj this
  · intro h
    rw [h]
theorem nD_dp {K : PySem.W.Frag} {H : Hp} : ∀ l : List Nat, DpAll K H (nV l) (nD l)
  | [] => .nil
  | _ :: r => .cons (.int _) (nD_dp r)
theorem nD_lay : ∀ l : List Nat, PyData.canLayAll0 (nD l) = true
  | [] => rfl
  | _ :: r => by
    have ih := nD_lay r
    show (PyData.canLay0 (PyData.int _) && PyData.canLayAll0 (nD r)) = true
    rw [ih]
    rfl
theorem nD_depth : ∀ l : List Nat, PyData.depthAll (nD l) = 0
  | [] => by simp [nD, PyData.depthAll]
  | x :: r => by
    have ih := nD_depth r
    show PyData.depthAll (PyData.int (x : Int) :: nD r) = 0
    simp only [PyData.depthAll, PyData.depth, ih]
    rfl
theorem nD_list (l : List Nat) : SeqAt.shaped (.list (nD l)) = true := by
  unfold SeqAt.shaped
  simp only [PyData.canLay0, PyData.depth, nD_lay, nD_depth]
  rfl
theorem nD_tup (l : List Nat) : SeqAt.shaped (.tuple (nD l)) = true := by
  unfold SeqAt.shaped
  simp only [PyData.canLay0, PyData.depth, nD_lay, nD_depth]
  rfl
def Both (K : PySem.W.Frag) (H : Hp) (a b : Addr) (l m : List Nat) : Prop := (SqL K H a (nV l) ∧ SqL K H b (nV m)) ∨ (SqT K H a (nV l) ∧ SqT K H b (nV m))
def rEqN (K : PySem.W.Frag) : R2 := fun x y H Q => ∃ (a b : Addr) (l m : List Nat), x = .ref a ∧ y = .ref b ∧ Both K H a b l m ∧ Q (.bl (decide (l = m))) H
def rNeN (K : PySem.W.Frag) : R2 := fun x y H Q => ∃ (a b : Addr) (l m : List Nat), x = .ref a ∧ y = .ref b ∧ Both K H a b l m ∧ Q (.bl (!decide (l = m))) H
section
variable {X : Cx}
theorem op_eqN (hu : X.A.units + 64 < cLine) : OpR X (compareOp .Eq) (rEqN X.K) := by
  intro pins s σ H x y v u Q I rx ry h
  obtain ⟨a, b, l, m, rfl, rfl, hb, q⟩ := h
  rcases hb with ⟨h1, h2⟩ | ⟨h1, h2⟩
  · refine op_eqD hu pins s σ H _ _ v u Q I rx ry ⟨_, _, .lst h1 (nD_dp l), .lst h2 (nD_dp m), nD_list l, nD_list m, ?_⟩
    rw [PyData.eqv, nD_eq]
    exact q
  · refine op_eqD hu pins s σ H _ _ v u Q I rx ry ⟨_, _, .tup h1 (nD_dp l), .tup h2 (nD_dp m), nD_tup l, nD_tup m, ?_⟩
    rw [PyData.eqv, nD_eq]
    exact q
theorem op_neN (hu : X.A.units + 64 < cLine) : OpR X (compareOp .NotEq) (rNeN X.K) := by
  intro pins s σ H x y v u Q I rx ry h
  obtain ⟨a, b, l, m, rfl, rfl, hb, q⟩ := h
  rcases hb with ⟨h1, h2⟩ | ⟨h1, h2⟩
  · refine op_neD hu pins s σ H _ _ v u Q I rx ry ⟨_, _, .lst h1 (nD_dp l), .lst h2 (nD_dp m), nD_list l, nD_list m, ?_⟩
    rw [PyData.eqv, nD_eq]
    exact q
  · refine op_neD hu pins s σ H _ _ v u Q I rx ry ⟨_, _, .tup h1 (nD_dp l), .tup h2 (nD_dp m), nD_tup l, nD_tup m, ?_⟩
    rw [PyData.eqv, nD_eq]
    exact q
end
/-! ### read_whole -/
theorem AllB.sub {b v : List Nat} (h : AllB b) (s : ∀ x ∈ v, x ∈ b) : AllB v := fun x m => h x (s x m)
abbrev sReadWhole : Stmt := top 40
theorem scReadWhole : FnScope ["reader", "content"] ["reader"] (defScope sReadWhole) := ⟨rfl, rfl, rfl, by decide +kernel, rfl, by decide +kernel, by decide +kernel⟩
theorem bReadWhole : BindsBy "read_whole" "read_whole" sReadWhole ["reader"] := fun _ _ _ _ _ _ us hl => match us, hl with | [_], _ => rfl
def spReadWhole (C CN : Addr) : Sp := fun vs H Q E => ∃ (a : Addr) (rest : List Nat), vs = [.ref a] ∧ Rdr C H a rest ∧ AllB rest ∧ (readWhole rest = none → ∀ H', But a H H' → E (.ref CN) none H') ∧
  (∀ v r, readWhole rest = some (v, r) → ∀ H' q, But a H H' → H q = none → H' q = some (.lst (nV v)) → Rdr C H' a r → Q (.ref q) H')
section
variable {P : Program} {w : World} {K : PySem.W.Frag} {mg : Str → Option Value} {base : Heap} {C CN aC aN : Addr}
theorem ok_readWhole (D : Def1 K mg "read_whole" "read_whole" sReadWhole) (B : Blt mg) (c : Cst1 K mg aC aN) (cN : CalX P w K mg base (L2.CX P w) 1 "need_things" (spNeedT CN)) (cM : MetX P w K mg base (L2.CX P w) 4 C "marked" (spRdM C CN))
    (cW : CalX P w K mg base CX0 1 "is_whole" (spIsWhole K)) : CalX P w K mg base (L2.CX P w) 5 "read_whole" (spReadWhole C CN) := by
  refine calX D scReadWhole bReadWhole (fun vs H Q E h => ?_) fun f cdv A outer s H vs Q E hr h => ?_
  · obtain ⟨a, r, rfl, _⟩ := h
    rfl
  · obtain ⟨a, rest, rfl, hR, hb, qF, qS⟩ := h
    refine ⟨_, pss_cons (ps_set (i := 1) scReadWhole.nd rfl (.inl rfl) (pmeth cM hr (by decide) passE (pv 0) (pa_cons (pcon c.whole) pa_nil))) <|
      pss_cons (ps_expr (pcall cN hr (by decide) passE (pa_cons (pe_and (pe_cmpR op_le (plen B (pv 1)) pe_int (nomark _)) (pe_one (pcall cW hr (by decide) pass0 (pa_cons (pv 1) pa_nil)))) pa_nil))) <|
      pss_one (ps_ret (pv 1)), ?_⟩
    obtain ⟨dx, fs, h1, hno⟩ := hR.no (m := "marked")
    refine ⟨_, rfl, a, dx, fs, rfl, h1, hno, a, 2, rest, rfl, hR, hb, fun hs H1 b1 => ?_, fun v r hs H1 q b1 nq hq R1 => ?_⟩
    · exact qF (readWhole_none hs) H1 b1
    · have hw := readWhole_some hs
      unfold okWhole at hw
      have fin : ∀ z : Bool, z = (decide (v.length ≤ 4) && isWhole v) → spNeedT CN [.bl z] H1 (fun _ H' => tRet (tVar 1) { nx := fun _ H' => Q .non H', rt := Q } [some (.ref a), some (.ref q)] H') E := by
        intro z hz
        rw [← hz] at hw
        refine ⟨z, rfl, fun e => ?_, fun e => ?_⟩
        · exact ⟨_, rfl, qS v r (hw.trans (if_pos e)) H1 q b1 nq hq R1⟩
        · exact qF (hw.trans (if_neg (by rw [e]; exact Bool.false_ne_true))) H1 b1
      refine ⟨_, rfl, q, _, rfl, .inl (SqL.of hq), _, _, rfl, rfl, _, rfl, ?_⟩
      rw [nV_length, show decide ((v.length : Int) ≤ 4) = decide (v.length ≤ 4) from decide_eq_decide.mpr (by omega)]
      refine ifB (fun z => ?_) (fun z => ?_)
      · exact ⟨_, rfl, q, v, rfl, SqL.of hq, fin _ (by rw [z, Bool.true_and])⟩
      · exact fin false (by rw [z, Bool.false_and])
end
/-! ### rows -/
/-- a row at p: a name, a kind, bytes that lie where N says -/
def RowAt (N : Addr → Prop) (H : Hp) (p : Addr) (x : Sd23.Bind) : Prop := ∃ nm ct : Addr, H p = some (.tup [.ref nm, .int (x.2.mark : Int), .ref ct]) ∧ H nm = some (.tup (nV x.1)) ∧ H ct = some (.lst (nV x.2.body)) ∧ N ct
theorem RowAt.same {N : Addr → Prop} {H H' : Hp} {p : Addr} {x : Sd23.Bind} (r : RowAt N H p x) (s : Same H H') : RowAt N H' p x := by
  obtain ⟨nm, ct, h1, h2, h3, h4⟩ := r
  exact ⟨nm, ct, s _ _ h1, s _ _ h2, s _ _ h3, h4⟩
theorem RowAt.imp {N N' : Addr → Prop} {H : Hp} {p : Addr} {x : Sd23.Bind} (r : RowAt N H p x) (f : ∀ c, H c ≠ none → N c → N' c) : RowAt N' H p x := by
  obtain ⟨nm, ct, h1, h2, h3, h4⟩ := r
  exact ⟨nm, ct, h1, h2, h3, f ct (by rw [h3]; exact fun e => by cases e) h4⟩
/-- new since H -/
abbrev Fresh (H : Hp) : Addr → Prop := fun c => H c = none
abbrev sReadRow : Stmt := top 41
theorem scReadRow : FnScope ["content", "reader", "name", "kind", "given"] ["content"] (defScope sReadRow) := ⟨rfl, rfl, rfl, by decide +kernel, rfl, by decide +kernel, by decide +kernel⟩
theorem bReadRow : BindsBy "read_row" "read_row" sReadRow ["content"] := fun _ _ _ _ _ _ us hl => match us, hl with | [_], _ => rfl
def spReadRow (CN : Addr) : Sp := fun vs H Q E => ∃ (a : Addr) (b : List Nat), vs = [.ref a] ∧ H a = some (.lst (nV b)) ∧ AllB b ∧ b.length ≤ 16000 ∧ (rowOf b = none → ∀ H', Same H H' → E (.ref CN) none H') ∧
  (∀ x, rowOf b = some x → ∀ H' p, Same H H' → H p = none → RowAt (Fresh H) H' p x → Q (.ref p) H')
theorem Rdr.empty {C : Addr} {H : Hp} {a : Addr} {rest : List Nat} (r : Rdr C H a rest) : (!rest.isEmpty) = false ↔ rest = [] := by
  cases rest <;> simp
section
variable {P : Program} {w : World} {K : PySem.W.Frag} {mg : Str → Option Value} {base : Heap} {C CN aC aN : Addr}
theorem ok_readRow (D : Def1 K mg "read_row" "read_row" sReadRow) (c : Cst1 K mg aC aN) (cN : CalX P w K mg base (L2.CX P w) 1 "need_things" (spNeedT CN)) (cM : MetX P w K mg base (L2.CX P w) 4 C "marked" (spRdM C CN)) (cT : MetX P w K mg base (L2.CX P w) 3 C "thing" (spRdTh C CN))
    (cH : MetX P w K mg base CX0 1 C "has_more" (spRdH C)) (cR : MakX P w K mg base 1 "Reader" C (spRdI C)) (cO : CalX P w K mg base CX0 2 "name_of" (spNameOf K)) (cV : CalX P w K mg base CX0 3 "is_value" (spIsValue K)) :
    CalX P w K mg base (L2.CX P w) 5 "read_row" (spReadRow CN) := by
  refine calX D scReadRow bReadRow (fun vs H Q E h => ?_) fun f cdv A outer s H vs Q E hr h => ?_
  · obtain ⟨a, r, rfl, _⟩ := h
    rfl
  · obtain ⟨a, b, rfl, ha, hb, hl, qF, qS⟩ := h
    refine ⟨_, pss_cons (ps_set (i := 1) scReadRow.nd rfl (.inl rfl) (pmake cR hr (by decide) (pa_cons (pv 0) pa_nil))) <|
      pss_cons (ps_set (i := 2) scReadRow.nd rfl (.inl rfl) (pcall cO hr (by decide) pass0 (pa_cons (pmeth cM hr (by decide) passE (pv 1) (pa_cons (pcon c.name) pa_nil)) pa_nil))) <|
      pss_cons (ps_asg (pmeth0 cT hr (by decide) passE (pv 1)) (pg_tup rfl (pgs_cons (pg_name (i := 3) scReadRow.nd rfl (.inl rfl)) (pgs_cons (pg_name (i := 4) scReadRow.nd rfl (.inl rfl)) pgs_nil)))) <|
      pss_cons (ps_expr (pcall cN hr (by decide) passE (pa_cons (pe_and (pe_cmp (pc_notN (pv 2)) rfl) (pe_and (pe_not (pmeth0 cH hr (by decide) pass0 (pv 1))) (pe_one (pcall cV hr (by decide) pass0 (pa_cons (pv 3) (pa_cons (pv 4) pa_nil)))))) pa_nil))) <|
      pss_one (ps_ret (pe_tup (pa_cons (pv 2) (pa_cons (pv 3) (pa_cons (pv 4) pa_nil))))), ?_⟩
    refine ⟨_, rfl, fun x dx nx ndx nex => ⟨x, dx, a, b, rfl, upd_same, ?_, hl, fun H1 b1 R1 _ => ⟨rfl, ?_⟩⟩⟩
    · rw [upd_ne (ne_of_none ha nx), upd_ne (ne_of_none ha ndx)]
      exact ha
    have s1 : Same H H1 := Same.made nx ndx fun b o e hb => b1 b o hb e
    obtain ⟨dx1, fs1, g1, gno⟩ := R1.no (m := "marked")
    refine ⟨_, rfl, x, dx1, fs1, rfl, g1, gno, x, 6, b, rfl, R1, hb, fun hs H2 b2 => ?_, fun n y hs H2 q b2 nq hq R2 => ?_⟩
    · refine qF ?_ H2 (b2.same s1 nx)
      unfold rowOf
      rw [hs]
    have pc := (split_piece (want_some hs)).1
    have hbn : AllB n := hb.sub pc.vin
    have hby : AllB y := hb.sub pc.rin
    have s2 : Same H H2 := b2.same s1 nx
    have hnl : n.length ≤ 100000 := by have := pc.inner; omega
    -- behind the name, which may be none
    have go : ∀ (vn : V) (H3 : Hp), Same H2 H3 → ((vn = .non ∧ Sd23.nameOf n = none) ∨ (∃ t m, vn = .ref t ∧ Sd23.nameOf n = some m ∧ H3 t = some (.tup (nV m)))) →
        tSeq (tAsg (tMeth C "thing" (spRdTh C CN) [] E (tVar 1) tNil) (gTup K 2 (gCons (gName 3) (gCons (gName 4) gNil))))
          (tSeq (tDrop (tCall (spNeedT CN) [] E (tCons (tAndV (tNotN (tVar 2)) (tAndV (tNotV (tMeth C "has_more" (spRdH C) [] E0 (tVar 1) tNil)) (tCall (spIsValue K) [] E0 (tCons (tVar 3) (tCons (tVar 4) tNil))))) tNil)))
            (tRet (tTup (tCons (tVar 2) (tCons (tVar 3) (tCons (tVar 4) tNil))))))
          { nx := fun _ H' => Q .non H', rt := Q } [some (.ref a), some (.ref x), some vn, none, none] H3 := by
      intro vn H3 s3 hvn
      have R3 := R2.same s3
      obtain ⟨dx3, fs3, g3, gno3⟩ := R3.no (m := "thing")
      refine ⟨_, rfl, x, dx3, fs3, rfl, g3, gno3, x, y, rfl, R3, hby, fun hs4 H4 b4 => ?_, fun t v z hs4 H4 p4 q4 b4 np nq4 hp4 hq4 R4 => ?_⟩
      · refine qF ?_ H4 (b4.same (s2.trans s3) nx)
        unfold rowOf
        rw [hs]
        dsimp only
        rw [hs4]
      have s4 : Same H H4 := b4.same (s2.trans s3) nx
      have hv : AllB v := hby.sub (split_piece hs4).1.vin
      have hvl : v.length ≤ 100000 := by
        have := (split_piece hs4).1.inner
        have := pc.shorter
        omega
      have hrow : rowOf b = match Sd23.nameOf n with
          | none => none
          | some m => if z ≠ [] ∨ Sd23.fits ⟨t, v⟩ = false then none else some (m, ⟨t, v⟩) := by
        unfold rowOf
        rw [hs]
        dsimp only
        rw [hs4] <;> rfl
      refine ⟨p4, _, rfl, SqT.of hp4, rfl, _, _, rfl, _, _, rfl, rfl, ?_⟩
      refine ⟨_, rfl, _, rfl, ?_⟩
      rcases hvn with ⟨rfl, hn⟩ | ⟨tn, m, rfl, hn, htn⟩
      · refine ifF rfl ⟨_, rfl, fun e => Bool.noConfusion e, fun _ => ?_⟩
        rw [hn] at hrow
        exact qF hrow H4 s4
      refine ifT rfl ?_
      rw [hn] at hrow
      have ntx : tn ≠ x := fun e => by
        rw [e, g3] at htn
        cases htn
      have htn4 : H4 tn = some (.tup (nV m)) := b4 _ _ ntx htn
      obtain ⟨dx4, fs4, g4, gno4⟩ := R4.no (m := "has_more")
      refine ⟨_, rfl, x, dx4, fs4, rfl, g4, gno4, x, z, rfl, R4, _, rfl, _, rfl, ?_⟩
      cases z with
      | cons z0 zr =>
        refine iteF ⟨_, rfl, fun e => Bool.noConfusion e, fun _ => ?_⟩
        refine qF (hrow.trans (if_pos (Or.inl (by intro e; cases e)))) H4 s4
      | nil =>
        refine iteT ⟨_, rfl, _, rfl, (t : Int), q4, v, rfl, SqL.of hq4, hv, hvl, fun H5 s5 => ⟨_, rfl, fun e => ?_, fun e => ?_⟩⟩
        · have hf : ¬ (([] : List Nat) ≠ [] ∨ Sd23.fits ⟨t, v⟩ = false) := by
            rintro (h | h)
            · exact h rfl
            · rw [← isValue_fits hv, e] at h
              cases h
          refine ⟨_, rfl, _, rfl, _, rfl, (by show 3 ≤ sizeLine; decide), fun p hp => ?_⟩
          have sp := Same.new (o := HO.tup [V.ref tn, V.int (t : Int), V.ref q4]) hp
          refine qS _ (hrow.trans (if_neg hf)) _ p ((s4.trans s5).trans sp) ((s4.trans s5).free hp) ⟨tn, q4, upd_same, ?_, ?_, (s2.trans s3).free nq4⟩
          · exact sp _ _ (s5 _ _ htn4)
          · exact sp _ _ (s5 _ _ hq4)
        · have hf : Sd23.fits ⟨t, v⟩ = false := by
            rw [← isValue_fits hv]
            exact e
          exact qF (hrow.trans (if_pos (Or.inr hf))) H5 (s4.trans s5)
    refine ⟨q, n, rfl, SqL.of hq, hbn, hnl, fun hn H3 s3 => ?_, fun m hn H3 t s3 nt ht => ?_⟩
    · exact go .non H3 s3 (.inl ⟨rfl, hn⟩)
    · exact go (.ref t) H3 s3 (.inr ⟨t, m, rfl, hn, ht⟩)
end
end Ad

/-! ## D10 -/
set_option Elab.async false
set_option linter.all false
set_option maxRecDepth 100000
set_option maxHeartbeats 1000000
namespace Ad
open PySem PySem.Spec PyProof.Rows L2
/-! ### Request -/
def qF (w : Addr) (t : Int) (i : Addr) (a b : Int) (rl : Addr) : List (Str × V) := [("word", .ref w), ("which", .int t), ("number", .ref i), ("a", .int a), ("b", .int b), ("rows", .ref rl)]
structure RqT (K : PySem.W.Frag) (C : Addr) : Prop where
  cl : Cls K C
  word : NoAttr K C "word"
  which : NoAttr K C "which"
  number : NoAttr K C "number"
  a : NoAttr K C "a"
  b : NoAttr K C "b"
  rows : NoAttr K C "rows"
abbrev sRqI : Stmt := inClass (top 39) 0
theorem scRqI : FnScope ["self", "word", "which", "number"] ["self", "word", "which", "number"] (defScope sRqI) := ⟨rfl, rfl, rfl, by decide +kernel, rfl, by decide +kernel, by decide +kernel⟩
theorem bRqI : BindsBy "__init__" "Request.__init__" sRqI ["self", "word", "which", "number"] := fun _ _ _ _ _ _ us hl => match us, hl with | [_, _, _, _], _ => rfl
def spRqI (C : Addr) : Sp := fun vs H Q _ => ∃ (q dx w i : Addr) (t : Int), vs = [.ref q, .ref w, .int t, .ref i] ∧ H q = some (.ins C dx []) ∧
  ∀ H' rl, But q H H' → H rl = none → H' rl = some (.lst []) → H' q = some (.ins C dx (qF w t i 0 0 rl)) → Q .non H'
section
variable {P : Program} {w : World} {K : PySem.W.Frag} {mg : Str → Option Value} {base : Heap} {C CN CQ aC aN aR : Addr}
theorem ok_rqI (D : Mak1 K mg "Request" C "Request.__init__" sRqI) (T : RqT K C) : MakX P w K mg base 1 "Request" C (spRqI C) := by
  refine mak0 D scRqI bRqI (fun vs H Q E h => ?_) fun f cdv A outer s H vs Q E hr h => ?_
  · obtain ⟨q, dx, w, i, t, rfl, _⟩ := h
    rfl
  · obtain ⟨q, dx, w, i, t, rfl, h1, k⟩ := h
    refine ⟨_, pss_cons (ps_fld (pv 0) (pv 1) rfl) <| pss_cons (ps_fld (pv 0) (pv 2) rfl) <| pss_cons (ps_fld (pv 0) (pv 3) rfl) <| pss_cons (ps_fld (pv 0) pe_int rfl) <| pss_cons (ps_fld (pv 0) pe_int rfl) <|
      pss_one (ps_fld (pv 0) (pe_lst pa_nil) rfl), ?_⟩
    refine ⟨_, rfl, _, rfl, q, C, dx, [], rfl, h1, T.cl, T.word, (by show 0 < 1000; decide), ?_⟩
    refine ⟨_, rfl, _, rfl, q, C, dx, _, rfl, upd_same, T.cl, T.which, (by show 1 < 1000; decide), ?_⟩
    refine ⟨_, rfl, _, rfl, q, C, dx, _, rfl, upd_same, T.cl, T.number, (by show 2 < 1000; decide), ?_⟩
    refine ⟨_, rfl, q, C, dx, _, rfl, upd_same, T.cl, T.a, (by show 3 < 1000; decide), ?_⟩
    refine ⟨_, rfl, q, C, dx, _, rfl, upd_same, T.cl, T.b, (by show 4 < 1000; decide), ?_⟩
    refine ⟨Nat.zero_le _, fun rl hrl => ?_⟩
    have e1 := upd_free hrl
    have e2 := upd_free e1.1
    have e3 := upd_free e2.1
    have e4 := upd_free e3.1
    have e5 := upd_free e4.1
    refine ⟨_, rfl, q, C, dx, _, rfl, (by rw [upd_ne e1.2.symm, upd_same]), T.cl, T.rows, (by show 5 < 1000; decide), ?_⟩
    refine k _ rl ⟨fun b o hb e => ?_, fun C' dx' c' k' e => ?_⟩ e5.1 ?_ ?_
    · rw [upd_ne hb, upd_ne (ne_of_none e e5.1), upd_ne hb, upd_ne hb, upd_ne hb, upd_ne hb, upd_ne hb]
      exact e
    · rw [h1] at e
      cases e
    · rw [upd_ne e1.2, upd_same]
    · rw [upd_same]
      rfl
end
/-- rows in a list -/
def RowsAt (N : Addr → Prop) (H : Hp) (ps : List Addr) (bs : List Sd23.Bind) : Prop := ps.length = bs.length ∧ ∀ (i : Nat) x, bs[i]? = some x → ∃ p, ps[i]? = some p ∧ RowAt N H p x
theorem RowsAt.same {N : Addr → Prop} {H H' : Hp} {ps : List Addr} {bs : List Sd23.Bind} (r : RowsAt N H ps bs) (s : Same H H') : RowsAt N H' ps bs := ⟨r.1, fun i x h => let ⟨p, h1, h2⟩ := r.2 i x h; ⟨p, h1, h2.same s⟩⟩
theorem RowsAt.imp {N N' : Addr → Prop} {H : Hp} {ps : List Addr} {bs : List Sd23.Bind} (r : RowsAt N H ps bs) (f : ∀ c, H c ≠ none → N c → N' c) : RowsAt N' H ps bs := ⟨r.1, fun i x h => let ⟨p, h1, h2⟩ := r.2 i x h; ⟨p, h1, h2.imp f⟩⟩
theorem RowsAt.nil {N : Addr → Prop} {H : Hp} : RowsAt N H [] [] := ⟨rfl, fun i x h => by simp at h⟩
theorem RowsAt.snoc {N : Addr → Prop} {H : Hp} {ps : List Addr} {bs : List Sd23.Bind} {p : Addr} {x : Sd23.Bind} (r : RowsAt N H ps bs) (h : RowAt N H p x) : RowsAt N H (ps ++ [p]) (bs ++ [x]) := by
  obtain ⟨hl, hr⟩ := r
  refine ⟨by rw [List.length_append, List.length_append, hl]; rfl, fun i y hy => ?_⟩
  by_cases hi : i < bs.length
  · rw [List.getElem?_append_left hi] at hy
    obtain ⟨q, h1, h2⟩ := hr i y hy
    exact ⟨q, by rw [List.getElem?_append_left (by omega)]; exact h1, h2⟩
  · have hi' : i = bs.length := by
      have := (List.getElem?_eq_some_iff.mp hy).1
      rw [List.length_append, List.length_singleton] at this
      omega
    subst hi'
    rw [List.getElem?_append_right (Nat.le_refl _), Nat.sub_self] at hy
    have e : x = y := Option.some.inj hy
    subst e
    exact ⟨p, by rw [List.getElem?_append_right (by omega), hl, Nat.sub_self]; rfl, h⟩
/-- a list that no row leans on is written -/
theorem RowAt.wr {N : Addr → Prop} {H : Hp} {p a : Addr} {x : Sd23.Bind} {xs : List V} {o : HO} (r : RowAt N H p x) (ha : H a = some (.lst xs)) (n : ∀ c, N c → c ≠ a) : RowAt N (upd H a o) p x := by
  obtain ⟨nm, ct, h1, h2, h3, h4⟩ := r
  exact ⟨nm, ct, by rw [upd_ne (ne_of h1 ha (by intro z; cases z))]; exact h1, by rw [upd_ne (ne_of h2 ha (by intro z; cases z))]; exact h2, by rw [upd_ne (n ct h4)]; exact h3, h4⟩
theorem RowsAt.wr {N : Addr → Prop} {H : Hp} {ps : List Addr} {bs : List Sd23.Bind} {a : Addr} {xs : List V} {o : HO} (r : RowsAt N H ps bs) (ha : H a = some (.lst xs)) (n : ∀ c, N c → c ≠ a) : RowsAt N (upd H a o) ps bs :=
  ⟨r.1, fun i x h => let ⟨p, h1, h2⟩ := r.2 i x h; ⟨p, h1, h2.wr ha n⟩⟩
/-- a reader has turned -/
theorem RowAt.but {N : Addr → Prop} {C : Addr} {H H' : Hp} {p a : Addr} {x : Sd23.Bind} {r : List Nat} (h : RowAt N H p x) (b : But a H H') (R : Rdr C H a r) : RowAt N H' p x := by
  obtain ⟨nm, ct, h1, h2, h3, h4⟩ := h
  obtain ⟨dx, fs, hR⟩ := R.there
  exact ⟨nm, ct, b _ _ (ne_of h1 hR (by intro z; cases z)) h1, b _ _ (ne_of h2 hR (by intro z; cases z)) h2, b _ _ (ne_of h3 hR (by intro z; cases z)) h3, h4⟩
theorem RowsAt.but {N : Addr → Prop} {C : Addr} {H H' : Hp} {ps : List Addr} {bs : List Sd23.Bind} {a : Addr} {r : List Nat} (h : RowsAt N H ps bs) (b : But a H H') (R : Rdr C H a r) : RowsAt N H' ps bs :=
  ⟨h.1, fun i x e => let ⟨p, h1, h2⟩ := h.2 i x e; ⟨p, h1, h2.but b R⟩⟩
def rV (ps : List Addr) : List V := ps.map V.ref
theorem rV_get {ps : List Addr} {i : Nat} {p : Addr} (h : ps[i]? = some p) : (rV ps)[i]? = some (.ref p) := by
  unfold rV
  rw [List.getElem?_map, h]
  rfl
theorem rV_of {ps : List Addr} {i : Nat} {y : V} (h : (rV ps)[i]? = some y) : ∃ p, ps[i]? = some p ∧ y = .ref p := by
  unfold rV at h
  rw [List.getElem?_map] at h
  cases e : ps[i]? with
  | none =>
    rw [e] at h
    cases h
  | some n =>
    rw [e] at h
    exact ⟨n, rfl, (Option.some.inj h).symm⟩
theorem rV_length (ps : List Addr) : (rV ps).length = ps.length := List.length_map ..
/-- a request at q; its word, number and rows' bytes lie where N says -/
def ReqAt (N : Addr → Prop) (C : Addr) (H : Hp) (q : Addr) (m : Sd23.Message) : Prop := ∃ (dx w i rl : Addr) (ps : List Addr), H q = some (.ins C dx (qF w (m.kind : Int) i m.a m.b rl)) ∧ H w = some (.lst (nV m.word)) ∧ H i = some (.lst (nV m.id)) ∧
  H rl = some (.lst (rV ps)) ∧ RowsAt N H ps m.binds
theorem ReqAt.same {N : Addr → Prop} {C : Addr} {H H' : Hp} {q : Addr} {m : Sd23.Message} (r : ReqAt N C H q m) (s : Same H H') : ReqAt N C H' q m := by
  obtain ⟨dx, w, i, rl, ps, h1, h2, h3, h4, h5⟩ := r
  exact ⟨dx, w, i, rl, ps, s _ _ h1, s _ _ h2, s _ _ h3, s _ _ h4, h5.same s⟩
theorem sameUpd {H H1 : Hp} {q : Addr} {o : HO} (s : Same H H1) (n : H q = none) : Same H (upd H1 q o) := fun b u e => by
  rw [upd_ne (ne_of_none e n)]
  exact s b u e
theorem Rdr.wr {C : Addr} {H : Hp} {x q D dx : Addr} {fs : List (Str × V)} {rest : List Nat} {o : HO} (r : Rdr C H x rest) (ne : x ≠ q) (hq : H q = some (.ins D dx fs)) : Rdr C (upd H q o) x rest := by
  obtain ⟨dx', c, b, k, h1, h2, h3⟩ := r
  exact ⟨dx', c, b, k, by rw [upd_ne ne]; exact h1, by rw [upd_ne (ne_of h2 hq (by intro z; cases z))]; exact h2, h3⟩
/-! ### steps that read -/
section
variable {K : PySem.W.Frag} {C CN : Addr} {H : Hp} {a : Addr} {rest : List Nat} {E : XK} {Q : VK} {σ : L2.St} {j : Nat}
theorem t_marked {m : Nat} (hσ : σ[j]? = some (some (.ref a))) (R : Rdr C H a rest) (hb : AllB rest) (hF : Sd23.want m rest = none → ∀ H', But a H H' → E (.ref CN) none H')
    (hS : ∀ v r, Sd23.want m rest = some (v, r) → AllB v → AllB r → v.length + 2 ≤ rest.length → r.length + 2 ≤ rest.length → ∀ H' q, But a H H' → H q = none → H' q = some (.lst (nV v)) → Rdr C H' a r → Q (.ref q) H') :
    tMeth C "marked" (spRdM C CN) [] E (tVar j) (tCons (tC (.int (m : Int))) tNil) σ H Q := by
  obtain ⟨dx, fs, h1, hno⟩ := R.no (m := "marked")
  refine ⟨_, hσ, a, dx, fs, rfl, h1, hno, a, m, rest, rfl, R, hb, hF, fun v r hs H1 q b1 nq hq R1 => ?_⟩
  have p := (split_piece (want_some hs)).1
  exact hS v r hs (hb.sub p.vin) (hb.sub p.rin) p.inner p.shorter H1 q b1 nq hq R1
theorem t_has (hσ : σ[j]? = some (some (.ref a))) (R : Rdr C H a rest) (h : Q (.bl (!rest.isEmpty)) H) : tMeth C "has_more" (spRdH C) [] E0 (tVar j) tNil σ H Q := by
  obtain ⟨dx, fs, h1, hno⟩ := R.no (m := "has_more")
  exact ⟨_, hσ, a, dx, fs, rfl, h1, hno, a, rest, rfl, R, h⟩
theorem t_thing (hσ : σ[j]? = some (some (.ref a))) (R : Rdr C H a rest) (hb : AllB rest) (hF : Sd23.split rest = none → ∀ H', But a H H' → E (.ref CN) none H')
    (hS : ∀ t v r, Sd23.split rest = some (t, v, r) → AllB v → AllB r → v.length + 2 ≤ rest.length → ∀ H' p q, But a H H' → H p = none → H q = none → H' p = some (.tup [.int (t : Int), .ref q]) → H' q = some (.lst (nV v)) → Rdr C H' a r → Q (.ref p) H') :
    tMeth C "thing" (spRdTh C CN) [] E (tVar j) tNil σ H Q := by
  obtain ⟨dx, fs, h1, hno⟩ := R.no (m := "thing")
  refine ⟨_, hσ, a, dx, fs, rfl, h1, hno, a, rest, rfl, R, hb, hF, fun t v r hs H1 p q b1 np nq hp hq R1 => ?_⟩
  have pc := (split_piece hs).1
  exact hS t v r hs (hb.sub pc.vin) (hb.sub pc.rin) pc.inner H1 p q b1 np nq hp hq R1
theorem t_whole (hσ : σ[j]? = some (some (.ref a))) (R : Rdr C H a rest) (hb : AllB rest) (hF : readWhole rest = none → ∀ H', But a H H' → E (.ref CN) none H')
    (hS : ∀ v r, readWhole rest = some (v, r) → v ≠ [] → v.length ≤ 4 → AllB r → r.length + 2 ≤ rest.length → ∀ H' q, But a H H' → H q = none → H' q = some (.lst (nV v)) → Rdr C H' a r → Q (.ref q) H') :
    tCall (spReadWhole C CN) [] E (tCons (tVar j) tNil) σ H Q := by
  refine ⟨_, hσ, a, rest, rfl, R, hb, hF, fun v r hs H1 q b1 nq hq R1 => ?_⟩
  obtain ⟨g1, g2⟩ := readWhole_ok hs
  have pc := (split_piece (want_some g1)).1
  unfold okWhole at g2
  simp only [Bool.and_eq_true, decide_eq_true_eq] at g2
  refine hS v r hs (fun e => ?_) g2.1 (hb.sub pc.rin) pc.shorter H1 q b1 nq hq R1
  have := g2.2
  rw [e] at this
  cases this
theorem rd_made {c : Addr} {b : List Nat} (hc : H c = some (.lst (nV b))) (hl : b.length ≤ 16000) {W : Addr → Hp → Prop} (k : ∀ H1 x, Same H H1 → H x = none → Rdr C H1 x b → (∃ dx k, H1 x = some (.ins C dx (rF c k))) → W x H1) :
    ∀ x dx, H x = none → H dx = none → dx ≠ x → spRdI C [.ref x, .ref c] (upd (upd H dx (.own x)) x (.ins C dx [])) (fun v H2 => v = .non ∧ W x H2) E0 := by
  intro x dx nx ndx nex
  refine ⟨x, dx, c, b, rfl, upd_same, ?_, hl, fun H1 b1 R1 hk => ⟨rfl, k H1 x (Same.made nx ndx fun b' o e hb => b1 b' o hb e) nx R1 hk⟩⟩
  rw [upd_ne (ne_of_none hc nx), upd_ne (ne_of_none hc ndx)]
  exact hc
end
theorem But.lst {C x q : Addr} {H H' : Hp} {r : List Nat} {l : List V} (b : But x H H') (R : Rdr C H x r) (h : H q = some (.lst l)) : H' q = some (.lst l) := by
  obtain ⟨dx, fs, h1⟩ := R.there
  exact b _ _ (ne_of h h1 (by intro z; cases z)) h
theorem But.other {C x y : Addr} {H H' : Hp} {r : List Nat} (b : But x H H') (R : Rdr C H y r) (ne : y ≠ x) (hx : ∃ dx fs, H x = some (.ins C dx fs)) : Rdr C H' y r := by
  obtain ⟨dx, c, b', k, h1, h2, h3⟩ := R
  obtain ⟨dx', fs', h4⟩ := hx
  exact ⟨dx, c, b', k, b _ _ ne h1, b _ _ (ne_of h2 h4 (by intro z; cases z)) h2, h3⟩
structure Cst2 (K : PySem.W.Frag) (mg : Str → Option Value) (aR : Addr) : Prop where
  get : IntC mg "GET" 160
  next : IntC mg "NEXT" 161
  answer : IntC mg "ANSWER" 162
  bulk : IntC mg "BULK" 165
  most : IntC mg "MOST_MESSAGE" 1472
  mostWord : IntC mg "MOST_WORD_messages" 32
  tooLong : IntC mg "TOO_LONG" 1
  requests : TupC K mg "REQUESTS" aR [160, 161, 163, 165]
abbrev sReadReq : Stmt := top 42
theorem scReadReq : FnScope ["content", "whole", "reader", "word", "which", "inner", "request", "rows"] ["content"] (defScope sReadReq) := ⟨rfl, rfl, rfl, by decide +kernel, rfl, by decide +kernel, by decide +kernel⟩
theorem bReadReq : BindsBy "read_request" "read_request" sReadReq ["content"] := fun _ _ _ _ _ _ us hl => match us, hl with | [_], _ => rfl
def spReadReq (CQ CN : Addr) : Sp := fun vs H Q E => ∃ (a : Addr) (b : List Nat), vs = [.ref a] ∧ H a = some (.lst (nV b)) ∧ AllB b ∧ b.length ≤ 16000 ∧ (Sd23.read b = none → ∀ H', Same H H' → E (.ref CN) none H') ∧
  (∀ m, Sd23.read b = some m → ∀ H' q, Same H H' → H q = none → ReqAt (Fresh H) CQ H' q m → Q (.ref q) H')
section
variable {P : Program} {w : World} {K : PySem.W.Frag} {mg : Str → Option Value} {base : Heap} {C CN CQ aC aN aR : Addr}
theorem ok_readReq (D : Def1 K mg "read_request" "read_request" sReadReq) (B : Blt mg) (c : Cst1 K mg aC aN) (c2 : Cst2 K mg aR) (T : RqT K CQ) (cN : CalX P w K mg base (L2.CX P w) 1 "need_things" (spNeedT CN)) (cM : MetX P w K mg base (L2.CX P w) 4 C "marked" (spRdM C CN))
    (cT : MetX P w K mg base (L2.CX P w) 3 C "thing" (spRdTh C CN)) (cH : MetX P w K mg base CX0 1 C "has_more" (spRdH C)) (cR : MakX P w K mg base 1 "Reader" C (spRdI C)) (cQ : MakX P w K mg base 1 "Request" CQ (spRqI CQ))
    (cO : CalX P w K mg base CX0 1 "whole_of" (spWholeOf K)) (cW : CalX P w K mg base (L2.CX P w) 5 "read_whole" (spReadWhole C CN)) (cRow : CalX P w K mg base (L2.CX P w) 5 "read_row" (spReadRow CN)) :
    CalX P w K mg base (L2.CX P w) 6 "read_request" (spReadReq CQ CN) := by
  refine calX D scReadReq bReadReq (fun vs H Q E h => ?_) fun f cdv A outer s H vs Q E hr h => ?_
  · obtain ⟨a, r, rfl, _⟩ := h
    rfl
  · obtain ⟨a, b, rfl, ha, hb, hl, qF', qS⟩ := h
    refine ⟨_, pss_cons (ps_expr (pcall cN hr (by decide) passE (pa_cons (pe_cmpR op_le (plen B (pv 0)) (pcon c2.most) (nomark _)) pa_nil))) <|
      pss_cons (ps_set (i := 1) scReadReq.nd rfl (.inl rfl) (pmake cR hr (by decide) (pa_cons (pv 0) pa_nil))) <|
      pss_cons (ps_set (i := 2) scReadReq.nd rfl (.inl rfl) (pmake cR hr (by decide) (pa_cons (pmeth cM hr (by decide) passE (pv 1) (pa_cons (pcon c.rows) pa_nil)) pa_nil))) <|
      pss_cons (ps_expr (pcall cN hr (by decide) passE (pa_cons (pe_not (pmeth0 cH hr (by decide) pass0 (pv 1))) pa_nil))) <|
      pss_cons (ps_expr (pcall cN hr (by decide) passE (pa_cons (pe_cmpR (op_eqN hr.units) (pmeth cM hr (by decide) passE (pv 2) (pa_cons (pcon c.whole) pa_nil)) (pe_lst (pa_cons pe_int pa_nil)) (nomark _)) pa_nil))) <|
      pss_cons (ps_set (i := 3) scReadReq.nd rfl (.inl rfl) (pmeth cM hr (by decide) passE (pv 2) (pa_cons (pcon c.bytes) pa_nil))) <|
      pss_cons (ps_expr (pcall cN hr (by decide) passE (pa_cons (pe_cmpR op_le (plen B (pv 3)) (pcon c2.mostWord) (nomark _)) pa_nil))) <|
      pss_cons (ps_asg (pmeth0 cT hr (by decide) passE (pv 2)) (pg_tup rfl (pgs_cons (pg_name (i := 4) scReadReq.nd rfl (.inl rfl)) (pgs_cons (pg_name (i := 5) scReadReq.nd rfl (.inl rfl)) pgs_nil)))) <|
      pss_cons (ps_expr (pcall cN hr (by decide) passE (pa_cons (pe_and (pinV c2.requests (pv 4)) (pe_one (pe_not (pmeth0 cH hr (by decide) pass0 (pv 2))))) pa_nil))) <|
      pss_cons (ps_set (i := 2) scReadReq.nd rfl (.inl rfl) (pmake cR hr (by decide) (pa_cons (pv 5) pa_nil))) <|
      pss_cons (ps_set (i := 6) scReadReq.nd rfl (.inl rfl) (pmake cQ hr (by decide) (pa_cons (pv 3) (pa_cons (pv 4) (pa_cons (pcall cW hr (by decide) passE (pa_cons (pv 2) pa_nil)) pa_nil))))) <|
      pss_cons (ps_fld (pv 6) (pcall cO hr (by decide) pass0 (pa_cons (pcall cW hr (by decide) passE (pa_cons (pv 2) pa_nil)) pa_nil)) rfl) <|
      pss_cons (ps_fld (pv 6) (pcall cO hr (by decide) pass0 (pa_cons (pcall cW hr (by decide) passE (pa_cons (pv 2) pa_nil)) pa_nil)) rfl) <|
      pss_cons (ps_set (i := 7) scReadReq.nd rfl (.inl rfl) (pmake cR hr (by decide) (pa_cons (pmeth cM hr (by decide) passE (pv 2) (pa_cons (pcon c.rows) pa_nil)) pa_nil))) <|
      pss_cons (ps_expr (pcall cN hr (by decide) passE (pa_cons (pe_not (pmeth0 cH hr (by decide) pass0 (pv 2))) pa_nil))) <|
      pss_cons (ps_while (passes_of rfl) (pt_val (pmeth0 cH hr (by decide) pass0 (pv 7)))
        (pss_one (ps_expr (pe_bm PySem.F.plainAttrs_list PySem.F.slot_list_append PySem.F.type_list_append mt_append (pe_fld (pv 6) rfl)
          (pa_cons (pcall cRow hr (by decide) passE (pa_cons (pmeth cM hr (by decide) passE (pv 7) (pa_cons (pcon c.rows) pa_nil)) pa_nil)) pa_nil))))) <|
      pss_one (ps_ret (pv 6)), ?_⟩
    have hrd := read_step b
    refine ⟨_, rfl, a, _, rfl, .inl (SqL.of ha), _, _, rfl, rfl, ?_⟩
    rw [nV_length]
    refine ⟨_, rfl, fun z => ?_, fun z => ?_⟩
    case refine_2 =>
      have : 1472 < b.length := by have := of_decide_eq_false z; omega
      rw [if_pos this] at hrd
      exact qF' hrd H (Same.refl H)
    have hlen : b.length ≤ 1472 := by have := of_decide_eq_true z; omega
    rw [if_neg (show ¬ 1472 < b.length by omega)] at hrd
    have qF : Sd23.read b = none → ∀ H', Same H H' → E (.ref CN) none H' := qF'
    have notE : ∀ (r : List Nat) (S T : Prop), (r = [] → S) → (r ≠ [] → T) → ((!(!r.isEmpty)) = true → S) ∧ ((!(!r.isEmpty)) = false → T) := fun r S T h1 h2 => by
      cases r with
      | nil => exact ⟨fun _ => h1 rfl, fun e => Bool.noConfusion e⟩
      | cons x t => exact ⟨fun e => Bool.noConfusion e, fun _ => h2 (by intro e; cases e)⟩
    -- whole = Reader(content); reader = Reader(whole.marked(ROWS))
    refine ⟨_, rfl, rd_made ha (by omega) fun H1 x1 s1 n1 R1 _ => ?_⟩
    refine t_marked (m := 48) rfl R1 hb (fun hs H2 b2 => ?_) (fun m r hs bm br lm lr H2 q2 b2 nq2 hq2 R2 => ?_)
    · refine qF ?_ H2 (b2.same s1 n1)
      rw [hrd]
      unfold rpA
      rw [hs]
    unfold rpA at hrd
    rw [hs] at hrd
    dsimp only at hrd
    have s2 : Same H H2 := b2.same s1 n1
    refine rd_made hq2 (by omega) fun H3 x2 s3' n2' R3 _ => ?_
    have s3 : Same H H3 := s2.trans s3'
    have n2 : H x2 = none := s2.free n2'
    have R1' : Rdr C H3 x1 r := R2.same s3'
    -- need(not whole.has_more())
    refine t_has rfl R1' ⟨_, rfl, _, rfl, ?_⟩
    refine notE r _ _ (fun er => ?_) (fun er => ?_)
    case refine_2 =>
      rw [if_pos er] at hrd
      exact qF hrd H3 s3
    rw [if_neg (fun h => h er)] at hrd
    -- need(reader.marked(WHOLE) == [1])
    refine t_marked (m := 2) rfl R3 bm (fun hs H4 b4 => ?_) (fun v m1 hs bv bm1 lv lm1 H4 q4 b4 nq4 hq4 R4 => ?_)
    · refine qF ?_ H4 (b4.same s3 n2)
      rw [hrd]
      unfold rpB
      rw [hs]
    unfold rpB at hrd
    rw [hs] at hrd
    dsimp only at hrd
    have s4 : Same H H4 := b4.same s3 n2
    refine ⟨(by show 1 ≤ sizeLine; decide), fun p4 hp4 => ?_⟩
    have sp4 := Same.new (o := HO.lst [V.int 1]) hp4
    refine ⟨q4, p4, v, [1], rfl, rfl, .inl ⟨SqL.of (sp4 _ _ hq4), SqL.of upd_same⟩, ?_⟩
    have s4' : Same H (upd H4 p4 (.lst [V.int 1])) := s4.trans sp4
    have R4' := R4.same sp4
    generalize upd H4 p4 (.lst [V.int 1]) = H4' at s4' R4' ⊢
    refine ⟨_, rfl, fun z => ?_, fun z => ?_⟩
    case refine_2 =>
      rw [if_pos (of_decide_eq_false z)] at hrd
      exact qF hrd H4' s4'
    rw [if_neg (fun h => h (of_decide_eq_true z))] at hrd
    -- word = reader.marked(BYTES)
    refine t_marked (m := 4) rfl R4' bm1 (fun hs H5 b5 => ?_) (fun wd m2 hs bw bm2 lw lm2 H5 qw b5 nqw hqw R5 => ?_)
    · refine qF ?_ H5 (b5.same s4' n2)
      rw [hrd]
      unfold rpC
      rw [hs]
    unfold rpC at hrd
    rw [hs] at hrd
    dsimp only at hrd
    have s5 : Same H H5 := b5.same s4' n2
    refine ⟨_, rfl, qw, _, rfl, .inl (SqL.of hqw), _, _, rfl, rfl, ?_⟩
    rw [nV_length]
    refine ⟨_, rfl, fun z => ?_, fun z => ?_⟩
    case refine_2 =>
      have : 32 < wd.length := by have := of_decide_eq_false z; omega
      rw [if_pos this] at hrd
      exact qF hrd H5 s5
    have hw32 : wd.length ≤ 32 := by have := of_decide_eq_true z; omega
    rw [if_neg (show ¬ 32 < wd.length by omega)] at hrd
    -- which, inner = reader.thing()
    refine t_thing rfl R5 bm2 (fun hs H6 b6 => ?_) (fun t p z hs bp bz lp H6 p6 q6 b6 np6 nq6 hp6 hq6 R6 => ?_)
    · refine qF ?_ H6 (b6.same s5 n2)
      rw [hrd]
      unfold rpD
      rw [hs]
    unfold rpD at hrd
    rw [hs] at hrd
    dsimp only at hrd
    have s6 : Same H H6 := b6.same s5 n2
    have hqw6 := b6.lst R5 hqw
    refine ⟨p6, _, rfl, SqT.of hp6, rfl, _, _, rfl, _, _, rfl, rfl, ?_⟩
    -- need(which in REQUESTS and not reader.has_more())
    have hin : decide ((t : Int) ∈ ([160, 161, 163, 165] : List Int)) = isReq t := by
      unfold isReq
      rw [List.contains_eq_mem]
      apply decide_eq_decide.mpr
      simp
      omega
    refine ⟨_, rfl, rfl, _, rfl, _, rfl, ?_⟩
    rw [hin]
    refine ifB (fun ht => ?_) (fun ht => ?_)
    case refine_2 =>
      rw [if_pos (Or.inl ht)] at hrd
      exact ⟨_, rfl, fun e => Bool.noConfusion e, fun _ => qF hrd H6 s6⟩
    refine t_has rfl R6 ⟨_, rfl, _, rfl, ?_⟩
    refine notE z _ _ (fun ez => ?_) (fun ez => ?_)
    case refine_2 =>
      rw [if_pos (Or.inr ez)] at hrd
      exact qF hrd H6 s6
    rw [if_neg (by rintro (h | h); · rw [ht] at h; cases h
                   · exact h ez)] at hrd
    unfold rpE at hrd
    rw [readInner_eq] at hrd
    -- reader = Reader(inner); request = Request(word, which, read_whole(reader))
    refine ⟨_, rfl, rd_made hq6 (by omega) fun H7 x7 s7' n7' R7 _ => ?_⟩
    have s7 : Same H H7 := s6.trans s7'
    have n7 : H x7 = none := s6.free n7'
    have hqw7 := s7' _ _ hqw6
    refine ⟨_, rfl, _, rfl, t_whole rfl R7 bp (fun hs H8 b8 => ?_) (fun i p1 hs hi hi4 bp1 lp1 H8 qi b8 nqi hqi R8 => ?_)⟩
    · refine qF ?_ H8 (b8.same s7 n7)
      rw [hrd, hs]
    rw [hs] at hrd
    dsimp only at hrd
    have s8 : Same H H8 := b8.same s7 n7
    have hqw8 := b8.lst R7 hqw7
    intro q dx nq ndx nqd
    refine ⟨q, dx, qw, qi, (t : Int), rfl, upd_same, fun H9 rl b9 nrl hrl hq9 => ⟨rfl, ?_⟩⟩
    have s9' : Same H8 H9 := Same.made nq ndx fun b' o e hb => b9 b' o hb e
    have s9 : Same H H9 := s8.trans s9'
    have n_q : H q = none := s8.free nq
    have hqw9 := s9' _ _ hqw8
    have hqi9 := s9' _ _ hqi
    have R9 := R8.same s9'
    have n7q : x7 ≠ q := by
      obtain ⟨_, _, h1⟩ := R8.there
      exact ne_of_none h1 nq
    have nrlq : rl ≠ q := ne_of hrl hq9 (by intro z; cases z)
    have e8 := upd_free (upd_free nrl).1
    have nrl0 : H rl = none := s8.free e8.1
    have nqwrl : qw ≠ rl := ne_of_none hqw8 e8.1
    have nqirl : qi ≠ rl := ne_of_none hqi e8.1
    -- request.a = whole_of(read_whole(reader))
    unfold riA at hrd
    refine t_whole rfl R9 bp1 (fun hs H10 b10 => ?_) (fun xx p2 hs hx hx4 bp2 lp2 H10 qx b10 nqx hqx R10 => ?_)
    · refine qF ?_ H10 (b10.same s9 n7)
      rw [hrd, hs]
    rw [hs] at hrd
    dsimp only at hrd
    have s10 : Same H H10 := b10.same s9 n7
    have hq10 := b10 _ _ n7q.symm hq9
    have hqw10 := b10.lst R9 hqw9
    have hqi10 := b10.lst R9 hqi9
    have hrl10 := b10.lst R9 hrl
    refine ⟨qx, xx, rfl, SqL.of hqx, hx, (by omega), _, rfl, q, CQ, dx, _, rfl, hq10, T.cl, T.a, (by show 6 < 1000; decide), ?_⟩
    have s11 : Same H (upd H10 q (.ins CQ dx (Ad.qF qw (t : Int) qi (wholeOf xx) 0 rl))) := sameUpd s10 n_q
    have R11 := R10.wr (o := .ins CQ dx (Ad.qF qw (t : Int) qi (wholeOf xx) 0 rl)) n7q hq10
    have lst11 : ∀ {c : Addr} {xs : List V}, H10 c = some (.lst xs) → (upd H10 q (.ins CQ dx (Ad.qF qw (t : Int) qi (wholeOf xx) 0 rl))) c = some (.lst xs) := fun {c xs} h => by
      rw [upd_ne (ne_of h hq10 (by intro z; cases z))]
      exact h
    have hq11 : (upd H10 q (.ins CQ dx (Ad.qF qw (t : Int) qi (wholeOf xx) 0 rl))) q = some (.ins CQ dx (Ad.qF qw (t : Int) qi (wholeOf xx) 0 rl)) := upd_same
    have hqw11 := lst11 hqw10
    have hqi11 := lst11 hqi10
    have hrl11 := lst11 hrl10
    show tSeq _ _ _ _ (upd H10 q (.ins CQ dx (Ad.qF qw (t : Int) qi (wholeOf xx) 0 rl)))
    clear lst11
    generalize upd H10 q (.ins CQ dx (Ad.qF qw (t : Int) qi (wholeOf xx) 0 rl)) = H11 at s11 R11 hq11 hqw11 hqi11 hrl11 ⊢
    -- request.b = whole_of(read_whole(reader))
    unfold riB at hrd
    refine t_whole rfl R11 bp2 (fun hs H12 b12 => ?_) (fun yy p3 hs hy hy4 bp3 lp3 H12 qy b12 nqy hqy R12 => ?_)
    · refine qF ?_ H12 (b12.same s11 n7)
      rw [hrd, hs]
    rw [hs] at hrd
    dsimp only at hrd
    have s12 : Same H H12 := b12.same s11 n7
    have hq12 := b12 _ _ n7q.symm hq11
    have hqw12 := b12.lst R11 hqw11
    have hqi12 := b12.lst R11 hqi11
    have hrl12 := b12.lst R11 hrl11
    refine ⟨qy, yy, rfl, SqL.of hqy, hy, (by omega), _, rfl, q, CQ, dx, _, rfl, hq12, T.cl, T.b, (by show 6 < 1000; decide), ?_⟩
    have s13 : Same H (upd H12 q (.ins CQ dx (Ad.qF qw (t : Int) qi (wholeOf xx) (wholeOf yy) rl))) := sameUpd s12 n_q
    have R13 := R12.wr (o := .ins CQ dx (Ad.qF qw (t : Int) qi (wholeOf xx) (wholeOf yy) rl)) n7q hq12
    have lst13 : ∀ {c : Addr} {xs : List V}, H12 c = some (.lst xs) → (upd H12 q (.ins CQ dx (Ad.qF qw (t : Int) qi (wholeOf xx) (wholeOf yy) rl))) c = some (.lst xs) := fun {c xs} h => by
      rw [upd_ne (ne_of h hq12 (by intro z; cases z))]
      exact h
    have hq13 : (upd H12 q (.ins CQ dx (Ad.qF qw (t : Int) qi (wholeOf xx) (wholeOf yy) rl))) q = some (.ins CQ dx (Ad.qF qw (t : Int) qi (wholeOf xx) (wholeOf yy) rl)) := upd_same
    have hqw13 := lst13 hqw12
    have hqi13 := lst13 hqi12
    have hrl13 := lst13 hrl12
    show tSeq _ _ _ _ (upd H12 q (.ins CQ dx (Ad.qF qw (t : Int) qi (wholeOf xx) (wholeOf yy) rl)))
    clear lst13
    generalize upd H12 q (.ins CQ dx (Ad.qF qw (t : Int) qi (wholeOf xx) (wholeOf yy) rl)) = H13 at s13 R13 hq13 hqw13 hqi13 hrl13 ⊢
    -- rows = Reader(reader.marked(ROWS))
    unfold riC at hrd
    refine t_marked (m := 48) rfl R13 bp3 (fun hs H14 b14 => ?_) (fun l z' hs bl bz' ll lz' H14 ql b14 nql hql R14 => ?_)
    · refine qF ?_ H14 (b14.same s13 n7)
      rw [hrd, hs]
    rw [hs] at hrd
    dsimp only at hrd
    have s14 : Same H H14 := b14.same s13 n7
    have hq14 := b14 _ _ n7q.symm hq13
    have hqw14 := b14.lst R13 hqw13
    have hqi14 := b14.lst R13 hqi13
    have hrl14 := b14.lst R13 hrl13
    refine rd_made hql (by omega) fun H15 y s15' ny' R15 hy15 => ?_
    have s15 : Same H H15 := s14.trans s15'
    have ny : H y = none := s14.free ny'
    have R7' := R14.same s15'
    refine t_has rfl R7' ⟨_, rfl, _, rfl, ?_⟩
    refine notE z' _ _ (fun ez => ?_) (fun ez => ?_)
    case refine_2 =>
      rw [if_pos ez] at hrd
      exact qF hrd H15 s15
    rw [if_neg (fun h => h ez)] at hrd
    have hnone : rowsOf l = none → Sd23.read b = none := fun h => by rw [hrd, ri_none h]
    have hsome : ∀ ls, rowsOf l = some ls → Sd23.read b = some ⟨wd, t, i, wholeOf xx, wholeOf yy, ls⟩ := fun ls h => by rw [hrd, ri_some h]
    have nqlrl : ql ≠ rl := (ne_of_none hrl13 nql).symm
    have nyq : y ≠ q := (ne_of_none hq14 ny').symm
    have hq15 := s15' _ _ hq14
    have hqw15 := s15' _ _ hqw14
    have hqi15 := s15' _ _ hqi14
    have hrl15 := s15' _ _ hrl14
    clear hrd s1 s2 s3 s4 s4' s5 s6 s7 s8 s9 s10 s11 s12 s13 s14 R1 R2 R3 R4 R4' R5 R6 R7 R8 R9 R10 R11 R12 R13 R14 R7' R1'
    -- while rows.has_more()
    refine ⟨fun mm σ' H' => ∃ (rest : List Nat) (acc : List Sd23.Bind) (ps : List Addr), mm = rest.length ∧ σ' = [some (.ref a), some (.ref x1), some (.ref x7), some (.ref qw), some (.int (t : Int)), some (.ref q6), some (.ref q), some (.ref y)] ∧ Same H H' ∧
        H' q = some (.ins CQ dx (Ad.qF qw (t : Int) qi (wholeOf xx) (wholeOf yy) rl)) ∧ H' qw = some (.lst (nV wd)) ∧ H' qi = some (.lst (nV i)) ∧ H' rl = some (.lst (rV ps)) ∧ RowsAt (fun c => H c = none ∧ c ≠ rl) H' ps acc ∧ Rdr C H' y rest ∧ (∃ dy k, H' y = some (.ins C dy (rF ql k))) ∧ AllB rest ∧
        rowsOf l = (rowsOf rest).map (fun k => acc ++ k) ∧ acc.length + rest.length ≤ 16000, ⟨l.length, l, [], [], rfl, rfl, s15, hq15, hqw15, hqi15, hrl15, RowsAt.nil, R15, hy15, bl, ?_, ?_⟩, ?_⟩
    · cases rowsOf l <;> rfl
    · show 0 + l.length ≤ 16000
      omega
    rintro mm σ' H' ⟨rest, acc, ps, rfl, rfl, sW, hq', hqw', hqi', hrl', hrows, hRd, ⟨dy, ky, hy'⟩, hbr, hro, hlen'⟩
    refine t_has rfl hRd ⟨_, rfl, ?_⟩
    by_cases hr0 : rest = []
    · subst hr0
      rw [rowsOf_nil] at hro
      refine ifF rfl ⟨_, rfl, qS _ (hsome acc (by rw [hro]; show some (acc ++ []) = _; rw [List.append_nil])) H' q sW n_q ⟨dx, qw, qi, rl, ps, hq', hqw', hqi', hrl', hrows.imp fun c _ h => h.1⟩⟩
    have hne : (!rest.isEmpty) = true := by
      cases rest with
      | nil => exact absurd rfl hr0
      | cons _ _ => rfl
    rw [rowsOf_ne hr0] at hro
    refine ifT hne ⟨fun σ'' H'' => ∃ (rest' : List Nat) (acc : List Sd23.Bind) (ps : List Addr), rest'.length < rest.length ∧ σ'' = [some (.ref a), some (.ref x1), some (.ref x7), some (.ref qw), some (.int (t : Int)), some (.ref q6), some (.ref q), some (.ref y)] ∧ Same H H'' ∧
        H'' q = some (.ins CQ dx (Ad.qF qw (t : Int) qi (wholeOf xx) (wholeOf yy) rl)) ∧ H'' qw = some (.lst (nV wd)) ∧ H'' qi = some (.lst (nV i)) ∧ H'' rl = some (.lst (rV ps)) ∧ RowsAt (fun c => H c = none ∧ c ≠ rl) H'' ps acc ∧ Rdr C H'' y rest' ∧ (∃ dy k, H'' y = some (.ins C dy (rF ql k))) ∧ AllB rest' ∧
        rowsOf l = (rowsOf rest').map (fun k => acc ++ k) ∧ acc.length + rest'.length ≤ 16000, fun σ'' H'' ⟨rest', acc', ps', h0, h1⟩ => ⟨rest'.length, h0, rest', acc', ps', rfl, h1⟩, ?_⟩
    refine ⟨_, rfl, q, CQ, dx, _, _, rfl, hq', T.cl, T.rows, rfl, .inl ⟨rfl, _, SqL.of hrl'⟩, ?_⟩
    refine t_marked (m := 48) rfl hRd hbr (fun hs H16 b16 => ?_) (fun v r' hs bv br' lv lr' H16 qv b16 nqv hqv R16 => ?_)
    · refine qF (hnone ?_) H16 (b16.same sW ny)
      rw [hro, hs]
      rfl
    rw [hs] at hro
    dsimp only at hro
    have s16 : Same H H16 := b16.same sW ny
    have hq16 := b16 _ _ nyq.symm hq'
    have hqw16 := b16.lst hRd hqw'
    have hqi16 := b16.lst hRd hqi'
    have hrl16 := b16.lst hRd hrl'
    have rows16 := hrows.but b16 hRd
    refine ⟨qv, v, rfl, hqv, bv, (by omega), fun hn H17 s17' => ?_, fun x hx' H17 p17 s17' np17 hp17 => ?_⟩
    · refine qF (hnone ?_) H17 (s16.trans s17')
      rw [hro, hn]
      rfl
    rw [hx'] at hro
    dsimp only at hro
    have s17 : Same H H17 := s16.trans s17'
    have hrl17 := s17' _ _ hrl16
    refine ⟨rl, _, _, rfl, rfl, hrl17, ?_, r', acc ++ [x], ps ++ [p17], (by omega), rfl, sameUpd s17 nrl0, ?_, ?_, ?_, ?_, ?_, ?_, ?_, br', ?_, ?_⟩
    · rw [rV_length, hrows.1, sizeLine_eq]
      omega
    · rw [upd_ne nrlq.symm]
      exact s17' _ _ hq16
    · rw [upd_ne nqwrl]
      exact s17' _ _ hqw16
    · rw [upd_ne nqirl]
      exact s17' _ _ hqi16
    · rw [upd_same]
      unfold rV
      rw [List.map_append]
      rfl
    · refine RowsAt.snoc ((rows16.same s17').wr hrl17 fun c h => h.2) ((hp17.imp fun c _ h => ⟨s16.free h, fun e => ?_⟩).wr hrl17 fun c h => h.2)
      rw [e] at h
      have h' : H16 rl = none := h
      rw [hrl16] at h'
      cases h'
    · have R17 := R16.same s17'
      obtain ⟨dx', c', b', k', g1, g2, g3⟩ := R17
      obtain ⟨ky2, hy2⟩ := b16.rd _ _ _ _ hy'
      have hy17 := s17' _ _ hy2
      have ncrl : c' ≠ rl := by
        rw [hy17] at g1
        rw [← rF_inj (HO.ins.inj (Option.some.inj g1)).2.2]
        exact nqlrl
      exact ⟨dx', c', b', k', by rw [upd_ne (ne_of g1 hrl17 (by intro z; cases z))]; exact g1, by rw [upd_ne ncrl]; exact g2, g3⟩
    · obtain ⟨ky2, hy2⟩ := b16.rd _ _ _ _ hy'
      have hy17 := s17' _ _ hy2
      exact ⟨dy, ky2, by rw [upd_ne (ne_of hy17 hrl17 (by intro z; cases z))]; exact hy17⟩
    · rw [hro]
      cases rowsOf r' with
      | none => rfl
      | some k => simp
    · rw [List.length_append, List.length_singleton]
      omega
end
end Ad

/-! ## D11 -/
set_option Elab.async false
set_option linter.all false
set_option maxRecDepth 100000
set_option maxHeartbeats 1000000
namespace Ad
open PySem PySem.Spec PyProof.Rows L2
/-! ### request_of -/
abbrev sReqOf : Stmt := top 43
theorem scReqOf : FnScope ["content"] ["content"] (defScope sReqOf) := ⟨rfl, rfl, rfl, by decide +kernel, rfl, by decide +kernel, by decide +kernel⟩
theorem bReqOf : BindsBy "request_of" "request_of" sReqOf ["content"] := fun _ _ _ _ _ _ us hl => match us, hl with | [_], _ => rfl
def spReqOf (CQ : Addr) : Sp := fun vs H Q _ => ∃ (a : Addr) (b : List Nat), vs = [.ref a] ∧ H a = some (.lst (nV b)) ∧ AllB b ∧ b.length ≤ 16000 ∧ (Sd23.read b = none → ∀ H', Same H H' → Q .non H') ∧
  (∀ m, Sd23.read b = some m → ∀ H' q, Same H H' → H q = none → ReqAt (Fresh H) CQ H' q m → Q (.ref q) H')
section
variable {P : Program} {w : World} {K : PySem.W.Frag} {mg : Str → Option Value} {base : Heap} {CN CQ : Addr}
theorem ok_reqOf (D : Def1 K mg "request_of" "request_of" sReqOf) (T : XN K mg CN) (cR : CalX P w K mg base (L2.CX P w) 6 "read_request" (spReadReq CQ CN)) : CalX P w K mg base CX0 7 "request_of" (spReqOf CQ) := by
  refine cal0 D scReqOf bReqOf (fun vs H Q E h => ?_) fun f cdv A outer s H vs Q E hr h => ?_
  · obtain ⟨a, r, rfl, _⟩ := h
    rfl
  · obtain ⟨a, b, rfl, ha, hb, hl, qN, qS⟩ := h
    refine ⟨_, pss_one (ps_try_only (tb := fun W => tRet (tCallS (spReadReq CQ CN) (WE W) (tCons (tVar 0) tNil))) (ts := fun _ _ _ => tRet (tC .non)) (Wout := fun _ _ _ _ => False) rfl rfl ⟨rfl, by decide, Or.inl T.mg⟩ takes0
      (fun W pn xe tk _ => pss_one (ps_ret (pcallS cR hr (by decide) (fun σ => passAt tk σ) (by exact pa_cons (pv 0) pa_nil) (by exact rfl))))
      (fun _ _ _ _ _ _ _ => pss_one (ps_ret pe_non))), ?_⟩
    refine ⟨_, rfl, a, b, rfl, ha, hb, hl, fun hn H1 s1 => ?_, fun m hm H1 q s1 nq hq => ?_⟩
    · exact ⟨true, T.own, fun _ a0 _ => qN hn H1 s1, fun e => Bool.noConfusion e⟩
    · exact qS m hm H1 q s1 nq hq
end
end Ad

/-! ## D12 -/
set_option Elab.async false
set_option linter.all false
set_option maxRecDepth 100000
set_option maxHeartbeats 1000000
namespace Ad
open PySem PySem.Spec PyProof.Rows L2
theorem line8 : sizeLine = 16777216 := sizeLine_eq
/-! ### row_bytes -/
abbrev sRowBytes : Stmt := top 44
theorem scRowBytes : FnScope ["row", "name", "kind", "content"] ["row"] (defScope sRowBytes) := ⟨rfl, rfl, rfl, by decide +kernel, rfl, by decide +kernel, by decide +kernel⟩
theorem bRowBytes : BindsBy "row_bytes" "row_bytes" sRowBytes ["row"] := fun _ _ _ _ _ _ us hl => match us, hl with | [_], _ => rfl
def spRowBytes : Sp := fun vs H Q _ => ∃ (p : Addr) (x : Sd23.Bind) (N : Addr → Prop), vs = [.ref p] ∧ RowAt N H p x ∧ SmallRow x ∧ ∀ H' q, Same H H' → H q = none → H' q = some (.lst (nV (Sd23.bindBytes x))) → Q (.ref q) H'
/-! ### put_together -/
abbrev sPut : Stmt := top 45
theorem scPut : FnScope ["request", "error", "place", "rows", "inner", "word"] ["request", "error", "place", "rows"] (defScope sPut) := ⟨rfl, rfl, rfl, by decide +kernel, rfl, by decide +kernel, by decide +kernel⟩
theorem bPut : BindsBy "put_together" "put_together" sPut ["request", "error", "place", "rows"] := fun _ _ _ _ _ _ us hl => match us, hl with | [_, _, _, _], _ => rfl
def spPut (CQ : Addr) : Sp := fun vs H Q _ => ∃ (q rb : Addr) (e p : Nat) (m : Sd23.Message) (b : List Nat) (N : Addr → Prop), vs = [.ref q, .int (e : Int), .int (p : Int), .ref rb] ∧ ReqAt N CQ H q m ∧ OkMsg m ∧ H rb = some (.lst (nV b)) ∧ b.length ≤ 7000000 ∧ e < 1600 ∧ p < 1600 ∧
  ∀ H' z, Same H H' → H z = none → H' z = some (.lst (nV (putT m e p b))) → Q (.ref z) H'
section
variable {P : Program} {w : World} {K : PySem.W.Frag} {mg : Str → Option Value} {base : Heap} {CQ aC aN aR : Addr}
theorem ok_rowBytes (D : Def1 K mg "row_bytes" "row_bytes" sRowBytes) (c : Cst1 K mg aC aN) (cT : CalX P w K mg base CX0 1 "thing_bytes" (spThing K)) (cN : CalX P w K mg base CX0 2 "name_bytes" (spNameBytes K)) : CalX P w K mg base CX0 3 "row_bytes" spRowBytes := by
  refine cal0 D scRowBytes bRowBytes (fun vs H Q E h => ?_) fun f cdv A outer s H vs Q E hr h => ?_
  · obtain ⟨p, x, N, rfl, _⟩ := h
    rfl
  · obtain ⟨p, x, N, rfl, ⟨nm, ct, h1, h2, h3, _⟩, hx, k⟩ := h
    refine ⟨_, pss_cons (ps_asg (pv 0) (pg_tup rfl (pgs_cons (pg_name (i := 1) scRowBytes.nd rfl (.inl rfl)) (pgs_cons (pg_name (i := 2) scRowBytes.nd rfl (.inl rfl)) (pgs_cons (pg_name (i := 3) scRowBytes.nd rfl (.inl rfl)) pgs_nil))))) <|
      pss_one (ps_ret (pcall cT hr (by decide) pass0 (pa_cons (pcon c.rows) (pa_cons (pe_op op_cat
        (pcall cT hr (by decide) pass0 (pa_cons (pcon c.name) (pa_cons (pcall cN hr (by decide) pass0 (pa_cons (pv 1) pa_nil)) pa_nil)))
        (pcall cT hr (by decide) pass0 (pa_cons (pv 2) (pa_cons (pv 3) pa_nil)))) pa_nil)))), ?_⟩
    have e8 := line8
    have l1 := nameBytes_len hx.good
    have l2 := tlv_len 6 (Sd23.nameBytes x.1)
    have l3 := tlv_len x.2.mark x.2.body
    have l4 := hx.small
    refine ⟨_, rfl, p, _, rfl, SqT.of h1, rfl, _, _, rfl, _, _, rfl, _, _, rfl, rfl, ?_⟩
    refine ⟨_, rfl, nm, x.1, rfl, SqT.of h2, hx.good, fun H1 p1 s1 n1 e1 => ?_⟩
    refine ⟨6, p1, _, rfl, SqL.of e1, (by omega), fun H2 p2 s2 n2 e2 => ?_⟩
    refine ⟨_, rfl, _, rfl, x.2.mark, ct, x.2.body, rfl, SqL.of (s2 _ _ (s1 _ _ h3)), (by omega), fun H3 p3 s3 n3 e3 => ?_⟩
    refine ⟨p2, p3, _, _, rfl, rfl, s3 _ _ e2, e3, ?_, fun p4 n4 => ?_⟩
    · rw [nV_length, nV_length, e8]
      omega
    rw [← nV_append]
    refine ⟨48, p4, _, rfl, SqL.of upd_same, ?_, fun H5 p5 s5 n5 e5 => ?_⟩
    · rw [List.length_append]
      omega
    · refine k H5 p5 ((((s1.trans s2).trans s3).trans (Same.new n4)).trans s5) ?_ e5
      exact ((s1.trans s2).trans s3).free (upd_free n5).1
theorem ok_put (D : Def1 K mg "put_together" "put_together" sPut) (c : Cst1 K mg aC aN) (c2 : Cst2 K mg aR) (T : RqT K CQ) (cT : CalX P w K mg base CX0 1 "thing_bytes" (spThing K)) (cW : CalX P w K mg base CX0 1 "whole_bytes" spWholeBytes) :
    CalX P w K mg base CX0 2 "put_together" (spPut CQ) := by
  refine cal0 D scPut bPut (fun vs H Q E h => ?_) fun f cdv A outer s H vs Q E hr h => ?_
  · obtain ⟨q, rb, e, p, m, b, N, rfl, _⟩ := h
    rfl
  · obtain ⟨q, rb, e, p, m, b, N, rfl, ⟨dx, wd, nu, rl, ps, h1, h2, h3, h4, h5⟩, om, hb, hlen, he, hp, k⟩ := h
    refine ⟨_, pss_cons (ps_set (i := 4) scPut.nd rfl (.inl rfl) (pe_op op_cat (pcall cT hr (by decide) pass0 (pa_cons (pcon c.whole) (pa_cons (pe_fld (pv 0) rfl) pa_nil)))
        (pcall cT hr (by decide) pass0 (pa_cons (pcon c.whole) (pa_cons (pcall cW hr (by decide) pass0 (pa_cons (pv 1) pa_nil)) pa_nil))))) <|
      pss_cons (ps_set (i := 4) scPut.nd rfl (.inl rfl) (pe_op op_cat (pe_op op_cat (pv 4) (pcall cT hr (by decide) pass0 (pa_cons (pcon c.whole) (pa_cons (pcall cW hr (by decide) pass0 (pa_cons (pv 2) pa_nil)) pa_nil))))
        (pcall cT hr (by decide) pass0 (pa_cons (pcon c.rows) (pa_cons (pv 3) pa_nil))))) <|
      pss_cons (ps_set (i := 5) scPut.nd rfl (.inl rfl) (pcall cT hr (by decide) pass0 (pa_cons (pcon c.bytes) (pa_cons (pe_fld (pv 0) rfl) pa_nil)))) <|
      pss_one (ps_ret (pcall cT hr (by decide) pass0 (pa_cons (pcon c.rows) (pa_cons (pe_op op_cat (pe_op op_cat (pcall cT hr (by decide) pass0 (pa_cons (pcon c.whole) (pa_cons (pe_lst (pa_cons pe_int pa_nil)) pa_nil))) (pv 5))
        (pcall cT hr (by decide) pass0 (pa_cons (pcon c2.answer) (pa_cons (pv 4) pa_nil)))) pa_nil)))), ?_⟩
    have e8 := line8
    have a1 := tlv_len 0x30 b
    have a2 := tlv_len 2 m.id
    have a3 := tlv_len 2 (Sd23.intBytes e)
    have a4 := tlv_len 2 (Sd23.intBytes p)
    have a5 := intBytes_len he
    have a6 := intBytes_len hp
    have a8 := tlv_len 4 m.word
    have a9 := tlv_len 2 [1]
    have m1 := om.word
    have m2 := om.id
    simp only [List.length_cons, List.length_nil] at a9
    -- inner = thing_bytes(WHOLE, request.number) + thing_bytes(WHOLE, whole_bytes(error))
    refine ⟨_, rfl, q, CQ, dx, _, _, rfl, h1, T.cl, T.number, rfl, 2, nu, _, rfl, SqL.of h3, (by omega), fun H1 p1 s1 n1 e1 => ?_⟩
    refine ⟨_, rfl, e, rfl, (by omega), fun H2 p2 s2 n2 e2 => ⟨2, p2, _, rfl, SqL.of e2, (by rw [wholeBytes_eq he]; omega), fun H3 p3 s3 n3 e3 => ?_⟩⟩
    rw [wholeBytes_eq he] at e3
    refine ⟨p1, p3, _, _, rfl, rfl, s3 _ _ (s2 _ _ e1), e3, (by rw [nV_length, nV_length, e8]; omega), fun p4 n4 => ?_⟩
    rw [← nV_append]
    have s4 : Same H (upd H3 p4 (.lst (nV (Sd23.tlv 2 m.id ++ Sd23.tlv 2 (Sd23.intBytes e))))) := ((s1.trans s2).trans s3).trans (Same.new n4)
    have e4 : (upd H3 p4 (.lst (nV (Sd23.tlv 2 m.id ++ Sd23.tlv 2 (Sd23.intBytes e))))) p4 = some (.lst (nV (Sd23.tlv 2 m.id ++ Sd23.tlv 2 (Sd23.intBytes e)))) := upd_same
    generalize upd H3 p4 (.lst (nV (Sd23.tlv 2 m.id ++ Sd23.tlv 2 (Sd23.intBytes e)))) = H4 at s4 e4 ⊢
    -- inner = inner + thing_bytes(WHOLE, whole_bytes(place)) + thing_bytes(ROWS, rows)
    refine ⟨_, rfl, _, rfl, p, rfl, (by omega), fun H5 p5 s5 n5 e5 => ⟨2, p5, _, rfl, SqL.of e5, (by rw [wholeBytes_eq hp]; omega), fun H6 p6 s6 n6 e6 => ?_⟩⟩
    rw [wholeBytes_eq hp] at e6
    refine ⟨p4, p6, _, _, rfl, rfl, s6 _ _ (s5 _ _ e4), e6, (by rw [nV_length, nV_length, e8, List.length_append]; omega), fun p7 n7 => ?_⟩
    rw [← nV_append]
    have s7 : Same H (upd H6 p7 (.lst (nV (Sd23.tlv 2 m.id ++ Sd23.tlv 2 (Sd23.intBytes e) ++ Sd23.tlv 2 (Sd23.intBytes p))))) := ((s4.trans s5).trans s6).trans (Same.new n7)
    have e7 : (upd H6 p7 (.lst (nV (Sd23.tlv 2 m.id ++ Sd23.tlv 2 (Sd23.intBytes e) ++ Sd23.tlv 2 (Sd23.intBytes p))))) p7 = some (.lst (nV (Sd23.tlv 2 m.id ++ Sd23.tlv 2 (Sd23.intBytes e) ++ Sd23.tlv 2 (Sd23.intBytes p)))) := upd_same
    generalize upd H6 p7 (.lst (nV (Sd23.tlv 2 m.id ++ Sd23.tlv 2 (Sd23.intBytes e) ++ Sd23.tlv 2 (Sd23.intBytes p)))) = H7 at s7 e7 ⊢
    refine ⟨_, rfl, 48, rb, _, rfl, SqL.of (s7 _ _ hb), (by omega), fun H8 p8 s8 n8 e8' => ?_⟩
    refine ⟨p7, p8, _, _, rfl, rfl, s8 _ _ e7, e8', (by rw [nV_length, nV_length, e8, List.length_append, List.length_append]; omega), fun p9 n9 => ?_⟩
    rw [← nV_append]
    have s9 : Same H (upd H8 p9 (.lst (nV (Sd23.tlv 2 m.id ++ Sd23.tlv 2 (Sd23.intBytes e) ++ Sd23.tlv 2 (Sd23.intBytes p) ++ Sd23.tlv 48 b)))) := (s7.trans s8).trans (Same.new n9)
    have e9 : (upd H8 p9 (.lst (nV (Sd23.tlv 2 m.id ++ Sd23.tlv 2 (Sd23.intBytes e) ++ Sd23.tlv 2 (Sd23.intBytes p) ++ Sd23.tlv 48 b)))) p9 = some (.lst (nV (Sd23.tlv 2 m.id ++ Sd23.tlv 2 (Sd23.intBytes e) ++ Sd23.tlv 2 (Sd23.intBytes p) ++ Sd23.tlv 48 b))) := upd_same
    generalize upd H8 p9 (.lst (nV (Sd23.tlv 2 m.id ++ Sd23.tlv 2 (Sd23.intBytes e) ++ Sd23.tlv 2 (Sd23.intBytes p) ++ Sd23.tlv 48 b))) = H9 at s9 e9 ⊢
    have hin : (Sd23.tlv 2 m.id ++ Sd23.tlv 2 (Sd23.intBytes e) ++ Sd23.tlv 2 (Sd23.intBytes p) ++ Sd23.tlv 48 b) = Sd23.tlv 2 m.id ++ (Sd23.tlv 2 (Sd23.intBytes e) ++ (Sd23.tlv 2 (Sd23.intBytes p) ++ Sd23.tlv 48 b)) := by simp only [List.append_assoc]
    rw [hin] at e9
    generalize hinn : Sd23.tlv 2 m.id ++ (Sd23.tlv 2 (Sd23.intBytes e) ++ (Sd23.tlv 2 (Sd23.intBytes p) ++ Sd23.tlv 48 b)) = inn at e9
    have li : inn.length ≤ b.length + 100 := by
      rw [← hinn]
      simp only [List.length_append]
      omega
    -- word = thing_bytes(BYTES, request.word)
    refine ⟨_, rfl, q, CQ, dx, _, _, rfl, s9 _ _ h1, T.cl, T.word, rfl, 4, wd, _, rfl, SqL.of (s9 _ _ h2), (by omega), fun H10 p10 s10 n10 e10 => ?_⟩
    -- return ..
    refine ⟨(by show 1 ≤ sizeLine; decide), fun p11 n11 => ⟨2, p11, [1], rfl, SqL.of upd_same, (by decide), fun H12 p12 s12 n12 e12 => ?_⟩⟩
    have s11 : Same H H12 := ((s9.trans s10).trans (Same.new n11)).trans s12
    have e10' := s12 _ _ ((Same.new n11) _ _ e10)
    have e9' := s12 _ _ ((Same.new n11) _ _ (s10 _ _ e9))
    refine ⟨_, rfl, p12, p10, _, _, rfl, rfl, e12, e10', (by rw [nV_length, nV_length, e8]; omega), fun p13 n13 => ?_⟩
    rw [← nV_append]
    have s13 : Same H (upd H12 p13 (.lst (nV (Sd23.tlv 2 [1] ++ Sd23.tlv 4 m.word)))) := s11.trans (Same.new n13)
    have e13 : (upd H12 p13 (.lst (nV (Sd23.tlv 2 [1] ++ Sd23.tlv 4 m.word)))) p13 = some (.lst (nV (Sd23.tlv 2 [1] ++ Sd23.tlv 4 m.word))) := upd_same
    have e9'' := (Same.new (o := .lst (nV (Sd23.tlv 2 [1] ++ Sd23.tlv 4 m.word))) n13) _ _ e9'
    generalize upd H12 p13 (.lst (nV (Sd23.tlv 2 [1] ++ Sd23.tlv 4 m.word))) = H13 at s13 e13 e9'' ⊢
    refine ⟨_, rfl, 162, p9, inn, rfl, SqL.of e9'', (by omega), fun H14 p14 s14 n14 e14 => ?_⟩
    have a7 := tlv_len 162 inn
    refine ⟨p13, p14, _, _, rfl, rfl, s14 _ _ e13, e14, (by rw [nV_length, nV_length, e8, List.length_append]; omega), fun p15 n15 => ?_⟩
    rw [← nV_append]
    refine ⟨48, p15, _, rfl, SqL.of upd_same, (by simp only [List.length_append]; omega), fun H16 p16 s16 n16 e16 => ?_⟩
    have s15 := (s13.trans s14).trans (Same.new (o := .lst (nV (Sd23.tlv 2 [1] ++ Sd23.tlv 4 m.word ++ Sd23.tlv 162 inn))) n15)
    refine k H16 p16 (s15.trans s16) (s15.free n16) ?_
    rw [e16]
    unfold putT
    rw [← hinn]
    simp only [List.append_assoc]
end
end Ad

/-! ## D13 -/
set_option Elab.async false
set_option linter.all false
set_option maxRecDepth 100000
set_option maxHeartbeats 1000000
namespace Ad
open PySem PySem.Spec PyProof.Rows L2
/-! ### all_rows -/
abbrev sAllRows : Stmt := top 46
theorem scAllRows : FnScope ["rows", "content", "row"] ["rows"] (defScope sAllRows) := ⟨rfl, rfl, rfl, by decide +kernel, rfl, by decide +kernel, by decide +kernel⟩
theorem bAllRows : BindsBy "all_rows" "all_rows" sAllRows ["rows"] := fun _ _ _ _ _ _ us hl => match us, hl with | [_], _ => rfl
def spAllRows (K : PySem.W.Frag) : Sp := fun vs H Q _ => ∃ (rl : Addr) (ps : List Addr) (bs : List Sd23.Bind) (N : Addr → Prop), vs = [.ref rl] ∧ SqL K H rl (rV ps) ∧ RowsAt N H ps bs ∧ (∀ x ∈ bs, SmallRow x) ∧ bs.length ≤ 4000 ∧
  ∀ H' q, Same H H' → H q = none → H' q = some (.lst (nV (bs.flatMap Sd23.bindBytes))) → Q (.ref q) H'
/-! ### answer_bytes, fits -/
abbrev sAnsB : Stmt := top 47
theorem scAnsB : FnScope ["request", "error", "place", "rows", "content"] ["request", "error", "place", "rows"] (defScope sAnsB) := ⟨rfl, rfl, rfl, by decide +kernel, rfl, by decide +kernel, by decide +kernel⟩
theorem bAnsB : BindsBy "answer_bytes" "answer_bytes" sAnsB ["request", "error", "place", "rows"] := fun _ _ _ _ _ _ us hl => match us, hl with | [_, _, _, _], _ => rfl
def spAnsB (K : PySem.W.Frag) (CQ : Addr) : Sp := fun vs H Q _ => ∃ (q rl : Addr) (e p : Nat) (m : Sd23.Message) (ps : List Addr) (bs : List Sd23.Bind) (N N' : Addr → Prop), vs = [.ref q, .int (e : Int), .int (p : Int), .ref rl] ∧ ReqAt N CQ H q m ∧ OkMsg m ∧
  SqL K H rl (rV ps) ∧ RowsAt N' H ps bs ∧ (∀ x ∈ bs, SmallRow x) ∧ bs.length ≤ 4000 ∧ e < 1600 ∧ p < 1600 ∧
  ∀ H' z, Same H H' → H z = none → H' z = some (.lst (nV (Sd23.sized m bs e p))) → Q (.ref z) H'
abbrev sFits : Stmt := top 48
theorem scFits : FnScope ["request", "rows"] ["request", "rows"] (defScope sFits) := ⟨rfl, rfl, rfl, by decide +kernel, rfl, by decide +kernel, by decide +kernel⟩
theorem bFits : BindsBy "fits" "fits" sFits ["request", "rows"] := fun _ _ _ _ _ _ us hl => match us, hl with | [_, _], _ => rfl
def spFits (K : PySem.W.Frag) (CQ : Addr) : Sp := fun vs H Q _ => ∃ (q rl : Addr) (m : Sd23.Message) (ps : List Addr) (bs : List Sd23.Bind) (N N' : Addr → Prop), vs = [.ref q, .ref rl] ∧ ReqAt N CQ H q m ∧ OkMsg m ∧
  SqL K H rl (rV ps) ∧ RowsAt N' H ps bs ∧ (∀ x ∈ bs, SmallRow x) ∧ bs.length ≤ 4000 ∧ ∀ H', Same H H' → Q (.bl (decide ((Sd23.write m 0 0 bs).length ≤ 1472))) H'
abbrev sFitA : Stmt := top 49
theorem scFitA : FnScope ["request", "rows", "content", "row", "longer"] ["request", "rows"] (defScope sFitA) := ⟨rfl, rfl, rfl, by decide +kernel, rfl, by decide +kernel, by decide +kernel⟩
theorem bFitA : BindsBy "fitting_answer" "fitting_answer" sFitA ["request", "rows"] := fun _ _ _ _ _ _ us hl => match us, hl with | [_, _], _ => rfl
def spFitA (K : PySem.W.Frag) (CQ : Addr) : Sp := fun vs H Q _ => ∃ (q rl : Addr) (m : Sd23.Message) (ps : List Addr) (bs : List Sd23.Bind) (N N' : Addr → Prop), vs = [.ref q, .ref rl] ∧ ReqAt N CQ H q m ∧ OkMsg m ∧
  SqL K H rl (rV ps) ∧ RowsAt N' H ps bs ∧ (∀ x ∈ bs, SmallRow x) ∧ bs.length ≤ 4000 ∧ ∀ H' z, Same H H' → H z = none → H' z = some (.lst (nV (Sd23.write m 0 0 (greedy m [] bs)))) → Q (.ref z) H'
theorem flat_take {bs : List Sd23.Bind} {i : Nat} {x : Sd23.Bind} (h : bs[i]? = some x) : (bs.take (i + 1)).flatMap Sd23.bindBytes = (bs.take i).flatMap Sd23.bindBytes ++ Sd23.bindBytes x := by
  rw [take_more h, List.flatMap_append]
  simp
theorem flat_take_len {bs : List Sd23.Bind} (h : ∀ x ∈ bs, SmallRow x) (hl : bs.length ≤ 4000) (i : Nat) : ((bs.take i).flatMap Sd23.bindBytes).length ≤ 6800000 := by
  have h1 := (flat_bind (bs.take i) fun x m => h x (List.mem_of_mem_take m)).1
  have h2 : (bs.take i).length ≤ 4000 := by
    rw [List.length_take]
    omega
  omega
section
variable {P : Program} {w : World} {K : PySem.W.Frag} {mg : Str → Option Value} {base : Heap} {CQ aC aN aR : Addr}
theorem ok_allRows (D : Def1 K mg "all_rows" "all_rows" sAllRows) (cR : CalX P w K mg base CX0 3 "row_bytes" spRowBytes) : CalX P w K mg base CX0 4 "all_rows" (spAllRows K) := by
  refine cal0 D scAllRows bAllRows (fun vs H Q E h => ?_) fun f cdv A outer s H vs Q E hr h => ?_
  · obtain ⟨rl, ps, bs, N, rfl, _⟩ := h
    rfl
  · obtain ⟨rl, ps, bs, N, rfl, hS, hR, hB, hl, k⟩ := h
    refine ⟨_, pss_cons (ps_set (i := 1) scAllRows.nd rfl (.inl rfl) (pe_lst pa_nil)) <|
      pss_cons (ps_for PassesOwn.never rfl (pi_list (pv 0)) (pg_name (i := 2) scAllRows.nd rfl (.inl rfl))
        (pss_one (ps_expr (pe_bm PySem.F.plainAttrs_list PySem.F.slot_list_extend PySem.F.type_list_extend mt_extend (pv 1) (pa_cons (pcall cR hr (by decide) pass0 (pa_cons (pv 2) pa_nil)) pa_nil))))) <|
      pss_one (ps_ret (pv 1)), ?_⟩
    have e8 := line8
    refine ⟨Nat.zero_le _, fun c hc => ?_⟩
    refine ⟨_, rfl, rl, rfl, ⟨_, (Same.new hc).seq hS⟩, for_list (K := K) (a := rl) (xs := rV ps) (fun i σ H' => ∃ v : Option V, σ = [some (.ref rl), some (.ref c), v] ∧ Same H H' ∧ H' c = some (.lst (nV ((bs.take i).flatMap Sd23.bindBytes))))
      ⟨none, rfl, Same.new hc, upd_same⟩ (fun i σ H' _ ⟨_, _, s1, _⟩ => s1.seq hS) ?_ ?_⟩
    · rintro i y σ H' hi ⟨v, rfl, s1, h1⟩
      obtain ⟨p, hp, rfl⟩ := rV_of hi
      have hib : i < bs.length := by
        have := (List.getElem?_eq_some_iff.mp hp).1
        rw [hR.1] at this
        exact this
      obtain ⟨x, hx⟩ : ∃ x, bs[i]? = some x := ⟨_, List.getElem?_eq_getElem hib⟩
      obtain ⟨p', hp', hrow⟩ := hR.2 i x hx
      rw [hp] at hp'
      cases hp'
      have hsm := hB x (List.mem_of_getElem? hx)
      refine ⟨_, rfl, .inl ⟨rfl, _, SqL.of h1⟩, _, rfl, p, x, N, rfl, hrow.same s1, hsm, fun H2 q s2 n2 h2 => ?_⟩
      have l1 := flat_take_len hB hl i
      have l2 := (bind_len hsm).1
      refine ⟨c, q, _, _, rfl, rfl, s2 _ _ h1, h2, (by rw [nV_length, nV_length, e8]; omega), _, rfl, sameUpd (s1.trans s2) hc, ?_⟩
      rw [upd_same, flat_take hx, nV_append]
    · rintro σ H' ⟨v, rfl, s1, h1⟩
      rw [rV_length, hR.1, List.take_length] at h1
      exact ⟨_, rfl, k H' c s1 hc h1⟩
theorem ok_ansB (D : Def1 K mg "answer_bytes" "answer_bytes" sAnsB) (B : Blt mg) (c2 : Cst2 K mg aR) (cP : CalX P w K mg base CX0 2 "put_together" (spPut CQ)) (cA : CalX P w K mg base CX0 4 "all_rows" (spAllRows K)) : CalX P w K mg base CX0 5 "answer_bytes" (spAnsB K CQ) := by
  refine cal0 D scAnsB bAnsB (fun vs H Q E h => ?_) fun f cdv A outer s H vs Q E hr h => ?_
  · obtain ⟨q, rl, e, p, m, ps, bs, N, N', rfl, _⟩ := h
    rfl
  · obtain ⟨q, rl, e, p, m, ps, bs, N, N', rfl, hq, om, hS, hR, hB, hl, he, hp, k⟩ := h
    refine ⟨_, pss_cons (ps_set (i := 4) scAnsB.nd rfl (.inl rfl) (pcall cP hr (by decide) pass0 (pa_cons (pv 0) (pa_cons (pv 1) (pa_cons (pv 2) (pa_cons (pcall cA hr (by decide) pass0 (pa_cons (pv 3) pa_nil)) pa_nil)))))) <|
      pss_one (ps_ret (pe_ifExp (pt_cmpR op_gt (plen B (pv 4)) (pcon c2.most) (nomark _)) (pcall cP hr (by decide) pass0 (pa_cons (pv 0) (pa_cons (pcon c2.tooLong) (pa_cons pe_int (pa_cons (pe_lst pa_nil) pa_nil))))) (pv 4))), ?_⟩
    have hfl := flat_take_len hB hl bs.length
    rw [List.take_length] at hfl
    refine ⟨_, rfl, _, rfl, _, rfl, _, rfl, rl, ps, bs, N', rfl, hS, hR, hB, hl, fun H1 r1 s1 n1 e1 => ?_⟩
    refine ⟨q, r1, e, p, m, _, N, rfl, hq.same s1, om, e1, (by omega), he, hp, fun H2 z s2 n2 e2 => ?_⟩
    refine ⟨_, rfl, z, _, rfl, .inl (SqL.of e2), _, _, rfl, rfl, _, rfl, ?_⟩
    have hsz : Sd23.sized m bs e p = if 1472 < (putT m e p (bs.flatMap Sd23.bindBytes)).length then putT m 1 0 [] else putT m e p (bs.flatMap Sd23.bindBytes) := rfl
    rw [nV_length]
    refine ifB (fun c => ?_) (fun c => ?_)
    · rw [if_pos (show 1472 < (putT m e p (bs.flatMap Sd23.bindBytes)).length by have := of_decide_eq_true c; omega)] at hsz
      refine ⟨_, rfl, Nat.zero_le _, fun r3 n3 => ?_⟩
      have s3 := Same.new (o := .lst []) n3
      refine ⟨q, r3, 1, 0, m, [], N, rfl, (hq.same (s1.trans s2)).same s3, om, upd_same, (by decide), (by decide), (by decide), fun H4 z4 s4 n4 e4 => ?_⟩
      exact k H4 z4 (((s1.trans s2).trans s3).trans s4) ((((s1.trans s2).trans s3)).free n4) (by rw [hsz]; exact e4)
    · rw [if_neg (show ¬ 1472 < (putT m e p (bs.flatMap Sd23.bindBytes)).length by have := of_decide_eq_false c; omega)] at hsz
      exact ⟨_, rfl, k H2 z (s1.trans s2) (s1.free n2) (by rw [hsz]; exact e2)⟩
theorem ok_fits (D : Def1 K mg "fits" "fits" sFits) (B : Blt mg) (c2 : Cst2 K mg aR) (cP : CalX P w K mg base CX0 2 "put_together" (spPut CQ)) (cA : CalX P w K mg base CX0 4 "all_rows" (spAllRows K)) : CalX P w K mg base CX0 5 "fits" (spFits K CQ) := by
  refine cal0 D scFits bFits (fun vs H Q E h => ?_) fun f cdv A outer s H vs Q E hr h => ?_
  · obtain ⟨q, rl, m, ps, bs, N, N', rfl, _⟩ := h
    rfl
  · obtain ⟨q, rl, m, ps, bs, N, N', rfl, hq, om, hS, hR, hB, hl, k⟩ := h
    refine ⟨_, pss_one (ps_ret (pe_cmpR op_le (plen B (pcall cP hr (by decide) pass0 (pa_cons (pv 0) (pa_cons pe_int (pa_cons pe_int (pa_cons (pcall cA hr (by decide) pass0 (pa_cons (pv 1) pa_nil)) pa_nil)))))) (pcon c2.most) (nomark _))), ?_⟩
    have hfl := flat_take_len hB hl bs.length
    rw [List.take_length] at hfl
    refine ⟨_, rfl, _, rfl, rl, ps, bs, N', rfl, hS, hR, hB, hl, fun H1 r1 s1 n1 e1 => ?_⟩
    refine ⟨q, r1, 0, 0, m, _, N, rfl, hq.same s1, om, e1, (by omega), (by decide), (by decide), fun H2 z s2 n2 e2 => ?_⟩
    refine ⟨z, _, rfl, .inl (SqL.of e2), _, _, rfl, rfl, ?_⟩
    rw [nV_length]
    have k' := k H2 (s1.trans s2)
    have ed : decide (((putT m 0 0 (bs.flatMap Sd23.bindBytes)).length : Int) ≤ 1472) = decide ((Sd23.write m 0 0 bs).length ≤ 1472) := decide_eq_decide.mpr (by rw [write_eq]; omega)
    show Q (.bl (decide (((putT m 0 0 (bs.flatMap Sd23.bindBytes)).length : Int) ≤ 1472))) H2
    rw [ed]
    exact k'
theorem ok_fitA (D : Def1 K mg "fitting_answer" "fitting_answer" sFitA) (B : Blt mg) (c2 : Cst2 K mg aR) (cP : CalX P w K mg base CX0 2 "put_together" (spPut CQ)) (cR : CalX P w K mg base CX0 3 "row_bytes" spRowBytes) : CalX P w K mg base CX0 4 "fitting_answer" (spFitA K CQ) := by
  refine cal0 D scFitA bFitA (fun vs H Q E h => ?_) fun f cdv A outer s H vs Q E hr h => ?_
  · obtain ⟨q, rl, m, ps, bs, N, N', rfl, _⟩ := h
    rfl
  · obtain ⟨q, rl, m, ps, bs, N, N', rfl, hq, om, hS, hR, hB, hl, k⟩ := h
    refine ⟨_, pss_cons (ps_set (i := 2) scFitA.nd rfl (.inl rfl) (pe_lst pa_nil)) <|
      pss_cons (ps_for PassesOwn.never rfl (pi_list (pv 1)) (pg_name (i := 3) scFitA.nd rfl (.inl rfl))
        (pss_cons (ps_set (i := 4) scFitA.nd rfl (.inl rfl) (pe_op op_cat (pv 2) (pcall cR hr (by decide) pass0 (pa_cons (pv 3) pa_nil)))) <|
         pss_cons (ps_if (pt_cmpR op_gt (plen B (pcall cP hr (by decide) pass0 (pa_cons (pv 0) (pa_cons pe_int (pa_cons pe_int (pa_cons (pv 4) pa_nil)))))) (pcon c2.most) (nomark _)) (pss_one ps_break) pss_nil) <|
         pss_one (ps_set (i := 2) scFitA.nd rfl (.inl rfl) (pv 4)))) <|
      pss_one (ps_ret (pcall cP hr (by decide) pass0 (pa_cons (pv 0) (pa_cons pe_int (pa_cons pe_int (pa_cons (pv 2) pa_nil)))))), ?_⟩
    have e8 := line8
    have fin : ∀ (l : List Sd23.Bind) (H1 : Hp) (c : Addr) (o3 o4 : Option V), Same H H1 → H1 c = some (.lst (nV (l.flatMap Sd23.bindBytes))) → (l.flatMap Sd23.bindBytes).length ≤ 1472 → l = greedy m [] bs →
        tRet (tCall (spPut CQ) [] E0 (tCons (tVar 0) (tCons (tC (.int 0)) (tCons (tC (.int 0)) (tCons (tVar 2) tNil))))) { nx := fun _ H' => Q .non H', rt := Q } [some (.ref q), some (.ref rl), some (.ref c), o3, o4] H1 := by
      intro l H1 c o3 o4 s1 h1 hlen hg
      refine ⟨_, rfl, _, rfl, q, c, 0, 0, m, _, N, rfl, hq.same s1, om, h1, (by omega), (by decide), (by decide), fun H2 z s2 n2 e2 => ?_⟩
      refine k H2 z (s1.trans s2) (s1.free n2) ?_
      rw [← hg]
      exact e2
    refine ⟨Nat.zero_le _, fun c hc => ?_⟩
    refine ⟨_, rfl, rl, rfl, ⟨_, (Same.new hc).seq hS⟩, for_list (K := K) (a := rl) (xs := rV ps) (fun i σ H' => ∃ (c : Addr) (o3 o4 : Option V), σ = [some (.ref q), some (.ref rl), some (.ref c), o3, o4] ∧ Same H H' ∧ H' c = some (.lst (nV ((bs.take i).flatMap Sd23.bindBytes))) ∧
        ((bs.take i).flatMap Sd23.bindBytes).length ≤ 1472 ∧ greedy m [] bs = greedy m (bs.take i) (bs.drop i))
      ⟨c, none, none, rfl, Same.new hc, upd_same, Nat.zero_le _, rfl⟩ (fun i σ H' _ ⟨_, _, _, _, s1, _⟩ => s1.seq hS) ?_ ?_⟩
    · rintro i y σ H' hi ⟨c, o3, o4, rfl, s1, h1, hlen, hg⟩
      obtain ⟨p, hp, rfl⟩ := rV_of hi
      have hib : i < bs.length := by
        have := (List.getElem?_eq_some_iff.mp hp).1
        rw [hR.1] at this
        exact this
      obtain ⟨x, hx⟩ : ∃ x, bs[i]? = some x := ⟨_, List.getElem?_eq_getElem hib⟩
      obtain ⟨p', hp', hrow⟩ := hR.2 i x hx
      rw [hp] at hp'
      cases hp'
      have hsm := hB x (List.mem_of_getElem? hx)
      have l2 := (bind_len hsm).1
      rw [drop_at hx] at hg
      have hg' : greedy m (bs.take i) (x :: bs.drop (i + 1)) = if (putT m 0 0 ((bs.take (i + 1)).flatMap Sd23.bindBytes)).length ≤ 1472 then greedy m (bs.take (i + 1)) (bs.drop (i + 1)) else bs.take i := by
        rw [take_more hx]
        rfl
      rw [hg'] at hg
      refine ⟨_, rfl, _, rfl, p, x, N', rfl, hrow.same s1, hsm, fun H2 r2 s2 n2 h2 => ?_⟩
      refine ⟨c, r2, _, _, rfl, rfl, s2 _ _ h1, h2, (by rw [nV_length, nV_length, e8]; omega), fun p3 n3 => ?_⟩
      rw [← nV_append, ← flat_take hx]
      have s3 : Same H (upd H2 p3 (.lst (nV ((bs.take (i + 1)).flatMap Sd23.bindBytes)))) := (s1.trans s2).trans (Same.new n3)
      have h3 : (upd H2 p3 (.lst (nV ((bs.take (i + 1)).flatMap Sd23.bindBytes)))) p3 = some (.lst (nV ((bs.take (i + 1)).flatMap Sd23.bindBytes))) := upd_same
      have hc3 : (upd H2 p3 (.lst (nV ((bs.take (i + 1)).flatMap Sd23.bindBytes)))) c = some (.lst (nV ((bs.take i).flatMap Sd23.bindBytes))) := (Same.new n3) _ _ (s2 _ _ h1)
      generalize upd H2 p3 (.lst (nV ((bs.take (i + 1)).flatMap Sd23.bindBytes))) = H3 at s3 h3 hc3 ⊢
      have hl1 : ((bs.take (i + 1)).flatMap Sd23.bindBytes).length ≤ 1472 + 1700 := by
        rw [flat_take hx, List.length_append]
        omega
      refine ⟨_, rfl, _, rfl, q, p3, 0, 0, m, _, N, rfl, hq.same s3, om, h3, (by omega), (by decide), (by decide), fun H4 z s4 n4 e4 => ?_⟩
      refine ⟨z, _, rfl, .inl (SqL.of e4), _, _, rfl, rfl, _, rfl, ?_⟩
      rw [nV_length]
      refine ifB (fun cc => ?_) (fun cc => ?_)
      · rw [if_neg (show ¬ (putT m 0 0 ((bs.take (i + 1)).flatMap Sd23.bindBytes)).length ≤ 1472 by have := of_decide_eq_true cc; omega)] at hg
        exact fin (bs.take i) H4 c _ _ (s3.trans s4) (s4 _ _ hc3) hlen hg.symm
      · have hle : (putT m 0 0 ((bs.take (i + 1)).flatMap Sd23.bindBytes)).length ≤ 1472 := by have := of_decide_eq_false cc; omega
        rw [if_pos hle] at hg
        have := (putT_len m om.word om.id (e := 0) (p := 0) (by decide) (by decide) ((bs.take (i + 1)).flatMap Sd23.bindBytes)).2
        exact ⟨_, rfl, p3, _, _, rfl, s3.trans s4, s4 _ _ h3, by omega, hg⟩
    · rintro σ H' ⟨c, o3, o4, rfl, s1, h1, hlen, hg⟩
      rw [rV_length, hR.1] at h1 hlen hg
      rw [List.drop_length] at hg
      exact fin _ H' c _ _ s1 h1 hlen hg.symm
end
end Ad

/-! ## D14 -/
set_option Elab.async false
set_option linter.all false
set_option maxRecDepth 100000
set_option maxHeartbeats 1000000
namespace Ad
open PySem PySem.Spec PyProof.Rows L2
/-- all but what stands at k is as it was -/
def Bt (k : Addr) (H H' : Hp) : Prop := ∀ b o, b ≠ k → H b = some o → H' b = some o
/-! ### Entry, Device -/
def eF (k : Int) (c : Addr) (s : Bool) (lo hi : Int) : List (Str × V) := [("kind", .int k), ("content", .ref c), ("settable", .bl s), ("low", .int lo), ("high", .int hi)]
def vF (r w e n : Addr) : List (Str × V) := [("reads", .ref r), ("writes", .ref w), ("entries", .ref e), ("names", .ref n)]
structure EnT (K : PySem.W.Frag) (C : Addr) : Prop where
  cl : Cls K C
  kind : NoAttr K C "kind"
  content : NoAttr K C "content"
  settable : NoAttr K C "settable"
  low : NoAttr K C "low"
  high : NoAttr K C "high"
structure DvT (K : PySem.W.Frag) (C : Addr) : Prop where
  cl : Cls K C
  reads : NoAttr K C "reads"
  writes : NoAttr K C "writes"
  entries : NoAttr K C "entries"
  names : NoAttr K C "names"
abbrev sEnI : Stmt := inClass (top 62) 0
theorem scEnI : FnScope ["self", "kind", "content", "settable", "low", "high"] ["self", "kind", "content", "settable", "low", "high"] (defScope sEnI) := ⟨rfl, rfl, rfl, by decide +kernel, rfl, by decide +kernel, by decide +kernel⟩
theorem bEnI : BindsBy "__init__" "Entry.__init__" sEnI ["self", "kind", "content", "settable", "low", "high"] := fun _ _ _ _ _ _ us hl => match us, hl with | [_, _, _, _, _, _], _ => rfl
def spEnI (C : Addr) : Sp := fun vs H Q _ => ∃ (q dx c : Addr) (k lo hi : Int) (s : Bool), vs = [.ref q, .int k, .ref c, .bl s, .int lo, .int hi] ∧ H q = some (.ins C dx []) ∧
  ∀ H', Bt q H H' → H' q = some (.ins C dx (eF k c s lo hi)) → Q .non H'
abbrev sDvI : Stmt := inClass (top 63) 0
theorem scDvI : FnScope ["self", "reads", "writes"] ["self", "reads", "writes"] (defScope sDvI) := ⟨rfl, rfl, rfl, by decide +kernel, rfl, by decide +kernel, by decide +kernel⟩
theorem bDvI : BindsBy "__init__" "Device.__init__" sDvI ["self", "reads", "writes"] := fun _ _ _ _ _ _ us hl => match us, hl with | [_, _, _], _ => rfl
def spDvI (C : Addr) : Sp := fun vs H Q _ => ∃ (q dx r w : Addr), vs = [.ref q, .ref r, .ref w] ∧ H q = some (.ins C dx []) ∧
  ∀ H' e n, Bt q H H' → H e = none → H n = none → e ≠ n → H' e = some (.dT []) → H' n = some (.lst []) → H' q = some (.ins C dx (vF r w e n)) → Q .non H'
section
variable {P : Program} {w : World} {K : PySem.W.Frag} {mg : Str → Option Value} {base : Heap} {C : Addr}
theorem ok_enI (D : Mak1 K mg "Entry" C "Entry.__init__" sEnI) (T : EnT K C) : MakX P w K mg base 1 "Entry" C (spEnI C) := by
  refine mak0 D scEnI bEnI (fun vs H Q E h => ?_) fun f cdv A outer s H vs Q E hr h => ?_
  · obtain ⟨q, dx, c, k, lo, hi, s, rfl, _⟩ := h
    rfl
  · obtain ⟨q, dx, c, k, lo, hi, s, rfl, h1, kk⟩ := h
    refine ⟨_, pss_cons (ps_fld (pv 0) (pv 1) rfl) <| pss_cons (ps_fld (pv 0) (pv 2) rfl) <| pss_cons (ps_fld (pv 0) (pv 3) rfl) <| pss_cons (ps_fld (pv 0) (pv 4) rfl) <| pss_one (ps_fld (pv 0) (pv 5) rfl), ?_⟩
    refine ⟨_, rfl, _, rfl, q, C, dx, [], rfl, h1, T.cl, T.kind, (by show 0 < 1000; decide), ?_⟩
    refine ⟨_, rfl, _, rfl, q, C, dx, _, rfl, upd_same, T.cl, T.content, (by show 1 < 1000; decide), ?_⟩
    refine ⟨_, rfl, _, rfl, q, C, dx, _, rfl, upd_same, T.cl, T.settable, (by show 2 < 1000; decide), ?_⟩
    refine ⟨_, rfl, _, rfl, q, C, dx, _, rfl, upd_same, T.cl, T.low, (by show 3 < 1000; decide), ?_⟩
    refine ⟨_, rfl, _, rfl, q, C, dx, _, rfl, upd_same, T.cl, T.high, (by show 4 < 1000; decide), ?_⟩
    refine kk _ (fun b o hb e => ?_) ?_
    · rw [upd_ne hb, upd_ne hb, upd_ne hb, upd_ne hb, upd_ne hb]
      exact e
    · rw [upd_same]
      rfl
theorem ok_dvI (D : Mak1 K mg "Device" C "Device.__init__" sDvI) (T : DvT K C) : MakX P w K mg base 1 "Device" C (spDvI C) := by
  refine mak0 D scDvI bDvI (fun vs H Q E h => ?_) fun f cdv A outer s H vs Q E hr h => ?_
  · obtain ⟨q, dx, r, w, rfl, _⟩ := h
    rfl
  · obtain ⟨q, dx, r, w, rfl, h1, kk⟩ := h
    refine ⟨_, pss_cons (ps_fld (pv 0) (pv 1) rfl) <| pss_cons (ps_fld (pv 0) (pv 2) rfl) <| pss_cons (ps_fld (pv 0) pe_dnewT rfl) <| pss_one (ps_fld (pv 0) (pe_lst pa_nil) rfl), ?_⟩
    refine ⟨_, rfl, _, rfl, q, C, dx, [], rfl, h1, T.cl, T.reads, (by show 0 < 1000; decide), ?_⟩
    refine ⟨_, rfl, _, rfl, q, C, dx, _, rfl, upd_same, T.cl, T.writes, (by show 1 < 1000; decide), ?_⟩
    intro e he
    have e1 := upd_free he
    have e2 := upd_free e1.1
    refine ⟨_, rfl, q, C, dx, _, rfl, (by rw [upd_ne e1.2.symm, upd_same]), T.cl, T.entries, (by show 2 < 1000; decide), ?_⟩
    refine ⟨Nat.zero_le _, fun n hn => ?_⟩
    have g1 := upd_free hn
    have g2 := upd_free g1.1
    have g3 := upd_free g2.1
    have g4 := upd_free g3.1
    refine ⟨_, rfl, q, C, dx, _, rfl, (by rw [upd_ne g1.2.symm, upd_same]), T.cl, T.names, (by show 3 < 1000; decide), ?_⟩
    refine kk _ e n (fun b o hb h => ?_) e2.1 g4.1 g2.2.symm ?_ ?_ ?_
    · rw [upd_ne hb, upd_ne (ne_of_none h g4.1), upd_ne hb, upd_ne (ne_of_none h e2.1), upd_ne hb, upd_ne hb]
      exact h
    · rw [upd_ne e1.2, upd_ne g2.2.symm, upd_ne e1.2, upd_same]
    · rw [upd_ne g1.2, upd_same]
    · rw [upd_same]
      rfl
end
/-! ### the device in the heap -/
def nK (n : List Nat) : List L2.Key := n.map fun (x : Nat) => (Sum.inl (x : Int))
theorem nK_inj : ∀ {m n : List Nat}, nK m = nK n → m = n
  | [], [], _ => rfl
  | [], _ :: _, h => by cases h
  | _ :: _, [], h => by cases h
  | x :: m, y :: n, h => by
    have h1 : (Sum.inl (x : Int) : L2.Key) = Sum.inl (y : Int) := (List.cons.inj h).1
    have h2 := nK_inj (List.cons.inj h).2
    have : (x : Int) = (y : Int) := Sum.inl.inj h1
    rw [h2, Int.ofNat.inj this]
theorem nK_V (n : List Nat) : (nK n).map kV = nV n := by
  unfold nK nV
  rw [List.map_map]
  rfl
/-- an entry; f: lists that it does not lean on -/
def EntAt (f : Addr → Prop) (CE : Addr) (H : Hp) (b : Addr) (e : Sd23.Entry) : Prop := ∃ dx ct, H b = some (.ins CE dx (eF (e.value.mark : Int) ct e.write e.lo e.hi)) ∧ H ct = some (.lst (nV e.value.body)) ∧ ¬ f ct
structure DevF (f : Addr → Prop) (CE : Addr) (H : Hp) (a : Sd23.Abs) (rd wr en nm : Addr) (kvs : List (List L2.Key × V)) (ps : List Addr) : Prop where
  hrd : H rd = some (.lst (nV a.reads))
  hwr : H wr = some (.lst (nV a.writes))
  hen : H en = some (.dT kvs)
  hnm : H nm = some (.lst (rV ps))
  nf : ¬ f rd ∧ ¬ f wr ∧ ¬ f nm
  hf : ∀ c, f c → H c ≠ none
  len : ps.length = a.entries.length
  at_ : ∀ (i : Nat) e, a.entries[i]? = some e → ∃ p b, ps[i]? = some p ∧ H p = some (.tup (nV e.name)) ∧ valV kvs (nK e.name) = some (.ref b) ∧ EntAt f CE H b e
  non : ∀ n, a.find n = none → valV kvs (nK n) = none
  inj : ∀ m n b, valV kvs (nK m) = some (.ref b) → valV kvs (nK n) = some (.ref b) → m = n
  few : kvs.length ≤ a.entries.length
  nd : (kvs.map (·.1)).Nodup
def DevAt (f : Addr → Prop) (CD CE : Addr) (H : Hp) (d : Addr) (a : Sd23.Abs) : Prop := ∃ dx rd wr en nm kvs ps, H d = some (.ins CD dx (vF rd wr en nm)) ∧ DevF f CE H a rd wr en nm kvs ps
/-- what a device may lean on -/
def Dv : HO → Prop
  | .lst _ => True
  | .tup _ => True
  | .dT _ => True
  | .ins _ _ fs => fs.length = 4 ∨ fs.length = 5
  | _ => False
def Frm (f : Addr → Prop) (H H' : Hp) : Prop := (∀ c, f c → H c ≠ none → H' c ≠ none) ∧ ∀ b o, H b = some o → Dv o → ((∃ xs, o = .lst xs) → ¬ f b) → H' b = some o
theorem Frm.same {f : Addr → Prop} {H H' : Hp} (s : Same H H') : Frm f H H' := ⟨fun _ _ h h' => h (s.free h'), fun b o e _ _ => s b o e⟩
theorem DevF.keep {f : Addr → Prop} {CE : Addr} {H H' : Hp} {a : Sd23.Abs} {rd wr en nm : Addr} {kvs : List (List L2.Key × V)} {ps : List Addr} (h : DevF f CE H a rd wr en nm kvs ps) (k : Frm f H H') : DevF f CE H' a rd wr en nm kvs ps := by
  obtain ⟨k0, k⟩ := k
  refine ⟨k _ _ h.hrd trivial fun _ => h.nf.1, k _ _ h.hwr trivial fun _ => h.nf.2.1, k _ _ h.hen trivial (fun ⟨_, e⟩ => by cases e), k _ _ h.hnm trivial fun _ => h.nf.2.2, h.nf, fun c hc => k0 c hc (h.hf c hc), h.len, fun i e he => ?_, h.non, h.inj, h.few, h.nd⟩
  obtain ⟨p, b, h1, h2, h3, dx, ct, h4, h5, h6⟩ := h.at_ i e he
  exact ⟨p, b, h1, k _ _ h2 trivial (fun ⟨_, e⟩ => by cases e), h3, dx, ct, k _ _ h4 (.inr rfl) (fun ⟨_, e⟩ => by cases e), k _ _ h5 trivial (fun _ => h6), h6⟩
theorem DevAt.keep {f : Addr → Prop} {CD CE : Addr} {H H' : Hp} {d : Addr} {a : Sd23.Abs} (h : DevAt f CD CE H d a) (k : Frm f H H') : DevAt f CD CE H' d a := by
  obtain ⟨dx, rd, wr, en, nm, kvs, ps, h1, h2⟩ := h
  exact ⟨dx, rd, wr, en, nm, kvs, ps, k.2 _ _ h1 (.inl rfl) (fun ⟨_, e⟩ => by cases e), h2.keep k⟩
theorem DevAt.same {f : Addr → Prop} {CD CE : Addr} {H H' : Hp} {d : Addr} {a : Sd23.Abs} (h : DevAt f CD CE H d a) (s : Same H H') : DevAt f CD CE H' d a := h.keep (Frm.same s)
/-! ### first_behind -/
theorem lexAt_up (e r : Nat → Bool) (z : Bool) : ∀ (k i : Nat), Ob.lexAt e r z (i + 1) k = Ob.lexAt (fun j => e (j + 1)) (fun j => r (j + 1)) z i k
  | 0, _ => rfl
  | k + 1, i => by
    rw [Ob.lexAt_succ, Ob.lexAt_succ, lexAt_up e r z k (i + 1)]
theorem le_before : ∀ a b : List Nat, Ob.lexAt (fun j => decide ((a.map fun (n : Nat) => (n : Int)).getD j 0 = (b.map fun (n : Nat) => (n : Int)).getD j 0)) (fun j => decide ((a.map fun (n : Nat) => (n : Int)).getD j 0 ≤ (b.map fun (n : Nat) => (n : Int)).getD j 0)) (decide ((a.map fun (n : Nat) => (n : Int)).length ≤ (b.map fun (n : Nat) => (n : Int)).length)) 0
    (min (a.map fun (n : Nat) => (n : Int)).length (b.map fun (n : Nat) => (n : Int)).length) = !Sd23.before b a
  | [], b => by
    have : min (([] : List Nat).map fun (n : Nat) => (n : Int)).length (b.map fun (n : Nat) => (n : Int)).length = 0 := by simp
    rw [this]
    cases b <;> rfl
  | _ :: _, [] => rfl
  | x :: a, y :: b => by
    have e : min ((x :: a).map fun (n : Nat) => (n : Int)).length ((y :: b).map fun (n : Nat) => (n : Int)).length = min (a.map fun (n : Nat) => (n : Int)).length (b.map fun (n : Nat) => (n : Int)).length + 1 := by simp
    rw [e, Ob.lexAt_succ, lexAt_up]
    show (if decide ((x : Int) = (y : Int)) = true then _ else decide ((x : Int) ≤ (y : Int))) = _
    have hl : decide (((x :: a).map fun (n : Nat) => (n : Int)).length ≤ ((y :: b).map fun (n : Nat) => (n : Int)).length) = decide ((a.map fun (n : Nat) => (n : Int)).length ≤ (b.map fun (n : Nat) => (n : Int)).length) := by simp
    have ih := le_before a b
    rw [hl]
    rw [before_cons]
    by_cases q : x = y
    · subst q
      rw [if_pos (by simp)]
      refine Eq.trans ih ?_
      simp
    · rw [if_neg (by simp; omega)]
      have hq : (y == x) = false := beq_eq_false_iff_ne.mpr fun h => q h.symm
      rw [hq, Bool.false_and, Bool.or_false]
      by_cases h : x ≤ y
      · rw [decide_eq_true (by omega : (x : Int) ≤ (y : Int)), decide_eq_false (by omega : ¬ y < x)]
        rfl
      · rw [decide_eq_false (by omega : ¬ (x : Int) ≤ (y : Int)), decide_eq_true (by omega : y < x)]
        rfl
abbrev sFirst : Stmt := top 64
theorem scFirst : FnScope ["names", "name", "low", "high", "middle"] ["names", "name"] (defScope sFirst) := ⟨rfl, rfl, rfl, by decide +kernel, rfl, by decide +kernel, by decide +kernel⟩
theorem bFirst : BindsBy "first_behind" "first_behind" sFirst ["names", "name"] := fun _ _ _ _ _ _ us hl => match us, hl with | [_, _], _ => rfl
def spFirst : Sp := fun vs H Q _ => ∃ (nm p : Addr) (ps : List Addr) (a : Sd23.Abs) (n : List Nat), vs = [.ref nm, .ref p] ∧ H nm = some (.lst (rV ps)) ∧ H p = some (.tup (nV n)) ∧ OkAbs a ∧ ps.length = a.entries.length ∧
  (∀ (i : Nat) e, a.entries[i]? = some e → ∃ p, ps[i]? = some p ∧ H p = some (.tup (nV e.name))) ∧ Q (.int (behind a n : Int)) H
section
variable {P : Program} {w : World} {K : PySem.W.Frag} {mg : Str → Option Value} {base : Heap}
theorem ok_first (D : Def1 K mg "first_behind" "first_behind" sFirst) (B : Blt mg) : CalX P w K mg base CX0 1 "first_behind" spFirst := by
  refine cal0 D scFirst bFirst (fun vs H Q E h => ?_) fun f cdv A outer s H vs Q E hr h => ?_
  · obtain ⟨nm, p, ps, a, n, rfl, _⟩ := h
    rfl
  · obtain ⟨nm, p, ps, a, n, rfl, h1, h2, ok, hl, hat, k⟩ := h
    refine ⟨_, pss_cons (ps_set (i := 2) scFirst.nd rfl (.inl rfl) pe_int) <|
      pss_cons (ps_set (i := 3) scFirst.nd rfl (.inl rfl) (plen B (pv 0))) <|
      pss_cons (ps_while PassesOwn.never (pt_cmpR op_lt (pv 2) (pv 3) (nomark _))
        (pss_cons (ps_set (i := 4) scFirst.nd rfl (.inl rfl) (pe_op op_fdiv (pe_op op_add (pv 2) (pv 3)) pe_int)) <|
         pss_one (ps_if (pt_cmpR (op_leT (Nat.lt_of_le_of_lt (Nat.le_add_right _ 64) hr.units)) (pe_ix ix_list (pv 0) (pv 4) (fun _ _ => rfl)) (pv 1) (nomark _)) (pss_one (ps_set (i := 2) scFirst.nd rfl (.inl rfl) (pe_op op_add (pv 4) pe_int))) (pss_one (ps_set (i := 3) scFirst.nd rfl (.inl rfl) (pv 4)))))) <|
      pss_one (ps_ret (pv 2)), ?_⟩
    have e2 : ∀ (lo hi : Nat), ((lo : Int) + (hi : Int)) / 2 = (((lo + hi) / 2 : Nat) : Int) := fun lo hi => by omega
    refine ⟨_, rfl, nm, _, rfl, .inl (SqL.of h1), ?_⟩
    rw [rV_length, hl]
    refine ⟨fun m σ H' => ∃ (lo hi : Nat) (o : Option V), m = hi - lo ∧ σ = [some (.ref nm), some (.ref p), some (.int (lo : Int)), some (.int (hi : Int)), o] ∧ H' = H ∧ lo ≤ hi ∧ hi ≤ a.entries.length ∧
        (∀ i x, i < lo → a.entries[i]? = some x → Sd23.before n x.name = false) ∧ (∀ i x, hi ≤ i → a.entries[i]? = some x → Sd23.before n x.name = true),
      ⟨a.entries.length, 0, a.entries.length, none, rfl, rfl, rfl, Nat.zero_le _, Nat.le_refl _, (fun i x hi => absurd hi (Nat.not_lt_zero _)), fun i x hi hx => ?_⟩, ?_⟩
    · have := (List.getElem?_eq_some_iff.mp hx).1
      omega
    · rintro m σ H' ⟨lo, hi, o, rfl, rfl, rfl, hlh, hhl, hlow, hhigh⟩
      refine ⟨_, rfl, _, rfl, _, _, rfl, rfl, _, rfl, ?_⟩
      refine ifB (fun q => ?_) (fun q => ?_)
      · have hlt : lo < hi := by have := of_decide_eq_true q; omega
        refine ⟨fun σ' H'' => ∃ (lo' hi' : Nat) (o : Option V), hi' - lo' < hi - lo ∧ σ' = [some (.ref nm), some (.ref p), some (.int (lo' : Int)), some (.int (hi' : Int)), o] ∧ H'' = H' ∧ lo' ≤ hi' ∧ hi' ≤ a.entries.length ∧
          (∀ i x, i < lo' → a.entries[i]? = some x → Sd23.before n x.name = false) ∧ (∀ i x, hi' ≤ i → a.entries[i]? = some x → Sd23.before n x.name = true),
          fun σ' H'' ⟨lo', hi', o, h0, h⟩ => ⟨hi' - lo', h0, lo', hi', o, rfl, h⟩, ?_⟩
        refine ⟨_, rfl, _, rfl, _, _, rfl, rfl, _, _, rfl, rfl, ⟨by decide, by decide⟩, ?_⟩
        have hmid : (lo + hi) / 2 < a.entries.length := by omega
        obtain ⟨x, hx⟩ : ∃ x, a.entries[(lo + hi) / 2]? = some x := ⟨_, List.getElem?_eq_getElem hmid⟩
        obtain ⟨px, hpx, hHx⟩ := hat _ x hx
        show tSeq _ _ _ _ _
        have e3 := e2 lo hi
        refine ⟨_, rfl, _, rfl, nm, _, _, _, rfl, rfl, SqL.of h1, at_of (j := (lo + hi) / 2) e3 (rV_get hpx), ?_⟩
        refine ⟨_, rfl, px, p, x.name.map (fun (n : Nat) => (n : Int)), n.map (fun (n : Nat) => (n : Int)), rfl, rfl, SqT.of ?_, SqT.of ?_, ?_⟩
        · rw [hHx, List.map_map]
          rfl
        · rw [h2, List.map_map]
          rfl
        rw [le_before]
        refine ⟨_, rfl, ?_⟩
        refine ifB (fun z => ?_) (fun z => ?_)
        · rw [Bool.not_eq_true'] at z
          refine ⟨_, rfl, _, _, rfl, rfl, (lo + hi) / 2 + 1, hi, some (V.int (((lo : Int) + (hi : Int)) / 2)), ?_, ?_, rfl, ?_, hhl, fun i y hi' hy => ?_, hhigh⟩
          · omega
          · show [some (V.ref nm), some (V.ref p), some (V.int (((lo : Int) + (hi : Int)) / 2 + 1)), some (V.int (hi : Int)), some (V.int (((lo : Int) + (hi : Int)) / 2))] = _
            rw [e3]
            rfl
          · omega
          · cases qq : Sd23.before n y.name with
            | false => rfl
            | true =>
              have := ok.mono (by omega : i ≤ (lo + hi) / 2) hy hx qq
              rw [z] at this
              cases this
        · have z' : Sd23.before n x.name = true := by
            rw [Bool.not_eq_false'] at z
            exact z
          refine ⟨_, rfl, lo, (lo + hi) / 2, some (V.int (((lo : Int) + (hi : Int)) / 2)), ?_, ?_, rfl, ?_, ?_, hlow, fun i y hi' hy => ok.mono hi' hx hy z'⟩
          · omega
          · show [some (V.ref nm), some (V.ref p), some (V.int (lo : Int)), some (V.int (((lo : Int) + (hi : Int)) / 2)), some (V.int (((lo : Int) + (hi : Int)) / 2))] = _
            rw [e3]
          · omega
          · omega
      · have hge : lo = hi := by have := of_decide_eq_false q; omega
        subst hge
        refine ⟨_, rfl, ?_⟩
        have := behind_of hhl (fun i x hi hx => hlow i x hi hx) (fun x hx => hhigh lo x (Nat.le_refl _) hx)
        rw [this] at k
        exact k
end
end Ad

/-! ## D15 -/
set_option Elab.async false
set_option linter.all false
set_option maxRecDepth 100000
set_option maxHeartbeats 1000000
namespace Ad
open PySem PySem.Spec PyProof.Rows L2
structure Cst3 (mg : Str → Option Value) : Prop where
  noEntry : IntC mg "NO_ENTRY" 128
  noPlace : IntC mg "NO_PLACE" 129
  noMore : IntC mg "NO_MORE" 130
  mostValue : IntC mg "MOST_VALUE" 64
  mostTimes : IntC mg "MOST_TIMES" 1472
  notAllowed : IntC mg "NOT_ALLOWED" 6
  otherKind : IntC mg "OTHER_KIND" 7
  otherLength : IntC mg "OTHER_LENGTH" 8
  otherValue : IntC mg "OTHER_VALUE" 10
  notThere : IntC mg "NOT_THERE" 11
  notSettable : IntC mg "NOT_SETTABLE" 17
theorem cut_last (n : List Nat) : cutV (nV n) none (some (-1)) = nV n.dropLast := by
  unfold cutV
  rw [HT.sIx_none, List.drop_zero, Nat.sub_zero]
  have : HT.sIx (nV n).length (nV n).length (some (-1)) = n.length - 1 := by
    unfold HT.sIx
    rw [nV_length]
    simp
    omega
  rw [this, ← nV_take, ← List.dropLast_eq_take]
theorem cut_part {n : List Nat} (h : 2 ≤ n.length) : ¬ (HT.sIx (nV n).length 0 none = 0 ∧ HT.sIx (nV n).length (nV n).length (some (-1)) = (nV n).length) := by
  intro ⟨_, h2⟩
  unfold HT.sIx at h2
  rw [nV_length] at h2
  simp at h2
  omega
/-- the same place but the last number -/
def near (n : List Nat) (e : Sd23.Entry) : Bool := decide (e.name.length = n.length) && decide (e.name.dropLast = n.dropLast)
theorem near_eq {n : List Nat} {e : Sd23.Entry} (h1 : 2 ≤ n.length) (h2 : 2 ≤ e.name.length) : (e.name.dropLast == n.dropLast) = near n e := by
  unfold near
  rw [Bool.beq_eq_decide_eq]
  by_cases q : e.name.dropLast = n.dropLast
  · have := congrArg List.length q
    rw [List.length_dropLast, List.length_dropLast] at this
    rw [decide_eq_true (by omega : e.name.length = n.length), Bool.true_and]
  · rw [decide_eq_false q, Bool.and_false]
theorem any_cong {α : Type} {p q : α → Bool} : ∀ {l : List α}, (∀ x ∈ l, p x = q x) → l.any p = l.any q
  | [], _ => rfl
  | x :: r, h => by
    rw [List.any_cons, List.any_cons, h x List.mem_cons_self, any_cong fun y m => h y (List.mem_cons_of_mem _ m)]
/-! ### within a block -/
section
variable {X : Cx} {K : PySem.W.Frag} {a b : Expr} {ta tb : TE} {p pos : Pos}
theorem plenK (hK : X.K = K) (B : Blt X.mg) (ha : PE X a ta) (hg : Gl X "len" := by rfl) (he : starEach [a] X.env = (false, eval a X.env) :: starEach [] X.env := by rfl) (hpl : (backTo pos (starEach [] X.env)).any (·.1) = false := by rfl) :
    PE X (.Call (.Name "len" p) [a] [] pos) (tCB (rLen1 K) (tCons ta tNil)) := by
  subst hK
  exact plen B ha hg he hpl
theorem pixT (hK : X.K = K) (ha : PE X a ta) (hb : PE X b tb) (hs : PlainIx b) : PE X (.Subscript a b pos) (tOp (rIxT K) ta tb) := by
  subst hK
  exact pe_ix ix_tup ha hb hs
end
/-! ### got_row -/
abbrev sGot : Stmt := top 65
theorem scGot : FnScope ["device", "name", "entry", "near", "one"] ["device", "name"] (defScope sGot) := ⟨rfl, rfl, rfl, by decide +kernel, rfl, by decide +kernel, by decide +kernel⟩
theorem bGot : BindsBy "got_row" "got_row" sGot ["device", "name"] := fun _ _ _ _ _ _ us hl => match us, hl with | [_, _], _ => rfl
def spGot (CD CE : Addr) : Sp := fun vs H Q _ => ∃ (f : Addr → Prop) (d p : Addr) (a : Sd23.Abs) (n : List Nat), vs = [.ref d, .ref p] ∧ DevAt f CD CE H d a ∧ OkAbs a ∧ H p = some (.tup (nV n)) ∧ Sd23.good n = true ∧
  ∀ H' r, Same H H' → RowAt (fun c => ¬ f c) H' r (Sd23.got a n) → Q (.ref r) H'
section
variable {P : Program} {w : World} {K : PySem.W.Frag} {mg : Str → Option Value} {base : Heap} {CD CE : Addr}
theorem ok_got (D : Def1 K mg "got_row" "got_row" sGot) (B : Blt mg) (c : Cst3 mg) (TD : DvT K CD) (TE : EnT K CE) : CalX P w K mg base CX0 1 "got_row" (spGot CD CE) := by
  refine cal0 D scGot bGot (fun vs H Q E h => ?_) fun f cdv A outer s H vs Q E hr h => ?_
  · obtain ⟨f, d, p, a, n, rfl, _⟩ := h
    rfl
  · obtain ⟨f', d, p, a, n, rfl, hD, ok, hp, hg, k⟩ := h
    have hu := hu_of hr
    refine ⟨_, pss_cons (ps_if (pt_cmp (pc_din hu (pv 1) (pe_fld (pv 0) rfl)))
        (pss_cons (ps_set (i := 2) scGot.nd rfl (.inl rfl) (pe_dget hu (pe_fld (pv 0) rfl) (pv 1) (fun _ _ => rfl))) <|
         pss_one (ps_ret (pe_tup (pa_cons (pv 1) (pa_cons (pe_fld (pv 2) rfl) (pa_cons (pe_fld (pv 2) rfl) pa_nil)))))) pss_nil) <|
      pss_cons (ps_set (i := 3) scGot.nd rfl (.inl rfl) (pe_callB (cr_any rfl) (by rfl) B.any (by decide +kernel) (pa_cons
          (pe_lc (own := [("one", 4)]) (g := gName 4) (by rfl) scGot.nd (pi_list (pe_fld (pv 0) rfl)) (blkOk_by (own := [("one", 4)]) (N := ["device", "name", "entry", "near", "one"]) (sc := defScope sGot) (by decide +kernel)) (fun _ _ _ _ _ => pg_name (i := 4) scGot.nd rfl (Or.inl rfl)) (fun _ _ _ _ _ => pts_nil)
            (fun _ _ _ _ _ => pe_and (pe_cmpR op_eq (plenK (K := K) rfl B (pv 4)) (plenK (K := K) rfl B (pv 1)) (nomark _)) (pe_one (pe_cmpR (r := rEqN K) (op_eqN hr.units) (pe_slice (r := rSlT K) sl_tup (pv 4) po_none (po_some (pe_un un_neg pe_int))) (pe_slice (r := rSlT K) sl_tup (pv 1) po_none (po_some (pe_un un_neg pe_int))) (nomark _))))) pa_nil))) <|
      pss_one (ps_ret (pe_tup (pa_cons (pv 1) (pa_cons (pe_ifExp (pt_val (pv 3)) (pcon c.noPlace) (pcon c.noEntry)) (pa_cons (pe_lst pa_nil) pa_nil))))), ?_⟩
    obtain ⟨dx, rd, wr, en, nm, kvs, ps, hd, VV⟩ := id hD
    have hgl := good_len hg
    have hkey : H p = some (.tup ((nK n).map kV)) := by rw [nK_V]; exact hp
    refine ⟨_, rfl, _, rfl, d, CD, dx, _, _, rfl, hd, TD.cl, TD.entries, rfl, en, _, rfl, DGet.t VV.hen hkey, _, rfl, ?_⟩
    cases hf : a.find n with
    | some e =>
      obtain ⟨hm, hn⟩ := find_some hf
      obtain ⟨i, hi⟩ := List.mem_iff_getElem?.mp hm
      obtain ⟨p', b, g1, g2, g3, dxe, ct, g4, g5, g6⟩ := VV.at_ i e hi
      rw [hn] at g3
      rw [g3]
      refine ifT rfl ?_
      refine ⟨_, rfl, d, CD, dx, _, _, rfl, hd, TD.cl, TD.entries, rfl, _, rfl, en, _, rfl, by rw [← g3]; exact DGet.t VV.hen hkey, ?_⟩
      refine ⟨_, rfl, _, rfl, b, CE, dxe, _, _, rfl, g4, TE.cl, TE.kind, rfl, _, rfl, b, CE, dxe, _, _, rfl, g4, TE.cl, TE.content, rfl, ?_⟩
      refine ⟨(by show 3 ≤ sizeLine; decide), fun r hr' => k _ r (Same.new hr') ?_⟩
      have s1 := Same.new (o := HO.tup [V.ref p, V.int (e.value.mark : Int), V.ref ct]) hr'
      have hgot : Sd23.got a n = (n, e.value) := by
        unfold Sd23.got
        rw [hf]
      rw [hgot]
      exact ⟨p, ct, upd_same, s1 _ _ hp, s1 _ _ g5, g6⟩
    | none =>
      rw [VV.non n hf]
      refine ifF rfl ?_
      have e8 : sizeLine = 16777216 := sizeLine_eq
      have hfew := ok.few
      refine ⟨_, rfl, d, CD, dx, _, _, rfl, hd, TD.cl, TD.names, rfl, nm, rfl, ⟨_, SqL.of VV.hnm⟩, fun D hDn => lc_list (K := K) (a := nm) (xs := rV ps) (fun i H' => Same H H' ∧ H' D = some (.lst (((a.entries.take i).map (near n)).map V.bl)))
          ⟨Same.new hDn, upd_same⟩ (fun i H' _ ⟨s1, _⟩ => s1.seq (SqL.of VV.hnm)) ?_ ?_⟩
      · rintro i y H' hi ⟨s1, h1⟩
        obtain ⟨po, hpo, rfl⟩ := rV_of hi
        have hib : i < a.entries.length := by
          have := (List.getElem?_eq_some_iff.mp hpo).1
          rw [VV.len] at this
          exact this
        obtain ⟨e, he⟩ : ∃ e, a.entries[i]? = some e := ⟨_, List.getElem?_eq_getElem hib⟩
        obtain ⟨p', b, g1, g2, _⟩ := VV.at_ i e he
        rw [hpo] at g1
        cases g1
        have hel := good_len (ok.ent e (List.mem_of_getElem? he)).good
        have fin : ∀ H2, Same H' H2 → ∃ acc, H2 D = some (.lst acc) ∧ acc.length < sizeLine ∧ (Same H (upd H2 D (.lst (acc ++ [V.bl (near n e)]))) ∧ (upd H2 D (.lst (acc ++ [V.bl (near n e)]))) D = some (.lst (((a.entries.take (i + 1)).map (near n)).map V.bl))) := by
          intro H2 s2
          refine ⟨_, s2 _ _ h1, ?_, sameUpd (s1.trans s2) hDn, ?_⟩
          · rw [List.length_map, List.length_map, List.length_take, e8]
            omega
          · rw [upd_same, take_more he, List.map_append, List.map_append]
            rfl
        refine ⟨rfl, _, rfl, po, _, rfl, .inr (SqT.of (s1 _ _ g2)), _, rfl, p, _, rfl, .inr (SqT.of (s1 _ _ hp)), rfl, _, rfl, ?_⟩
        rw [nV_length, nV_length]
        have dl : decide (V.int (e.name.length : Int) = V.int (n.length : Int)) = decide (e.name.length = n.length) := dI
        rw [dl]
        refine ifB (fun z => ?_) (fun z => ?_)
        · refine ⟨_, rfl, _, rfl, _, rfl, po, _, rfl, SqT.of (s1 _ _ g2), cut_part hel.1, fun q1 n1 => ?_⟩
          have t1 := Same.new (o := HO.tup (cutV (nV e.name) none (some (-1)))) n1
          refine ⟨_, rfl, _, rfl, _, rfl, p, _, rfl, SqT.of (t1 _ _ (s1 _ _ hp)), cut_part hgl.1, fun q2 n2 => ?_⟩
          have t2 := Same.new (o := HO.tup (cutV (nV n) none (some (-1)))) n2
          refine ⟨q1, q2, e.name.dropLast, n.dropLast, rfl, rfl, .inr ⟨SqT.of ?_, SqT.of ?_⟩, ?_⟩
          · rw [t2 _ _ upd_same, cut_last]
          · rw [upd_same, cut_last]
          · have := fin _ (t1.trans t2)
            unfold near at this
            rw [z, Bool.true_and] at this
            exact this
        · have := fin H' (Same.refl H')
          unfold near at this
          rw [z, Bool.false_and] at this
          exact this
      · rintro H' ⟨s1, h1⟩
        rw [rV_length, VV.len, List.take_length] at h1
        refine ⟨D, _, rfl, SqL.of h1, ?_⟩
        have hany : ((a.entries.map (near n)).any id) = (a.entries.any fun e => e.name.dropLast == n.dropLast) := by
          rw [List.any_map]
          exact any_cong fun e he => (near_eq hgl.1 (good_len (ok.ent e he).good).1).symm
        have hgot : Sd23.got a n = (n, Sd23.nothing (if (a.entries.any fun e => e.name.dropLast == n.dropLast) = true then 0x81 else 0x80)) := by
          unfold Sd23.got
          rw [hf]
        have fin : ∀ (m : Nat), Sd23.got a n = (n, Sd23.nothing m) → tCons (tC (.int (m : Int))) (tCons (tLst tNil) tNil) [some (.ref d), some (.ref p), none, some (.bl ((a.entries.map (near n)).any id)), none] H' fun xs H1 => (V.ref p :: xs).length ≤ sizeLine ∧ ∀ q, H1 q = none → Q (.ref q) (upd H1 q (.tup (V.ref p :: xs))) := by
          intro m hm
          refine ⟨Nat.zero_le _, fun c hc => ⟨(by show 3 ≤ sizeLine; decide), fun r hr' => ?_⟩⟩
          have t1 := Same.new (o := HO.lst []) hc
          have t2 := Same.new (o := HO.tup [V.ref p, V.int (m : Int), V.ref c]) hr'
          refine k _ r ((s1.trans t1).trans t2) ?_
          rw [hm]
          exact ⟨p, c, upd_same, t2 _ _ (t1 _ _ (s1 _ _ hp)), t2 _ _ upd_same, fun e => VV.hf _ e (s1.free hc)⟩
        refine ⟨_, rfl, _, rfl, _, rfl, ?_⟩
        refine ifB (fun z => ?_) (fun z => ?_)
        · rw [hany] at z
          rw [if_pos z] at hgot
          exact fin 129 hgot
        · rw [hany] at z
          rw [if_neg (by rw [z]; decide)] at hgot
          exact fin 128 hgot
/-! ### next_row -/
abbrev sNext : Stmt := top 66
theorem scNext : FnScope ["device", "name", "place"] ["device", "name"] (defScope sNext) := ⟨rfl, rfl, rfl, by decide +kernel, rfl, by decide +kernel, by decide +kernel⟩
theorem bNext : BindsBy "next_row" "next_row" sNext ["device", "name"] := fun _ _ _ _ _ _ us hl => match us, hl with | [_, _], _ => rfl
def spNext (CD CE : Addr) : Sp := fun vs H Q _ => ∃ (f : Addr → Prop) (d p : Addr) (a : Sd23.Abs) (n : List Nat), vs = [.ref d, .ref p] ∧ DevAt f CD CE H d a ∧ OkAbs a ∧ H p = some (.tup (nV n)) ∧ Sd23.good n = true ∧
  ∀ H' r, Same H H' → RowAt (fun c => ¬ f c) H' r (Sd23.following a n) → Q (.ref r) H'
theorem ok_next (D : Def1 K mg "next_row" "next_row" sNext) (B : Blt mg) (c : Cst3 mg) (TD : DvT K CD) (cF : CalX P w K mg base CX0 1 "first_behind" spFirst) (cG : CalX P w K mg base CX0 1 "got_row" (spGot CD CE)) : CalX P w K mg base CX0 2 "next_row" (spNext CD CE) := by
  refine cal0 D scNext bNext (fun vs H Q E h => ?_) fun f cdv A outer s H vs Q E hr h => ?_
  · obtain ⟨f, d, p, a, n, rfl, _⟩ := h
    rfl
  · obtain ⟨f', d, p, a, n, rfl, hD, ok, hp, hg, k⟩ := h
    refine ⟨_, pss_cons (ps_set (i := 2) scNext.nd rfl (.inl rfl) (pcall cF hr (by decide) pass0 (pa_cons (pe_fld (pv 0) rfl) (pa_cons (pv 1) pa_nil)))) <|
      pss_cons (ps_if (pt_cmpR op_eq (pv 2) (plen B (pe_fld (pv 0) rfl)) (nomark _)) (pss_one (ps_ret (pe_tup (pa_cons (pv 1) (pa_cons (pcon c.noMore) (pa_cons (pe_lst pa_nil) pa_nil)))))) pss_nil) <|
      pss_one (ps_ret (pcall cG hr (by decide) pass0 (pa_cons (pv 0) (pa_cons (pe_ix ix_list (pe_fld (pv 0) rfl) (pv 2) (fun _ _ => rfl)) pa_nil)))), ?_⟩
    obtain ⟨dx, rd, wr, en, nm, kvs, ps, hd, VV⟩ := id hD
    refine ⟨_, rfl, d, CD, dx, _, _, rfl, hd, TD.cl, TD.names, rfl, _, rfl, nm, p, ps, a, n, rfl, VV.hnm, hp, ok, VV.len, fun i e he => ?_, ?_⟩
    · obtain ⟨p', b, g1, g2, _⟩ := VV.at_ i e he
      exact ⟨p', g1, g2⟩
    refine ⟨_, rfl, _, rfl, d, CD, dx, _, _, rfl, hd, TD.cl, TD.names, rfl, nm, _, rfl, .inl (SqL.of VV.hnm), rfl, _, rfl, ?_⟩
    rw [rV_length, VV.len]
    have dl : decide (V.int (behind a n : Int) = V.int (a.entries.length : Int)) = decide (behind a n = a.entries.length) := dI
    rw [dl]
    have hb : behind a n ≤ a.entries.length := List.findIdx_le_length
    have hnx := next_idx a n
    refine ifB (fun z => ?_) (fun z => ?_)
    · have e := of_decide_eq_true z
      rw [e, List.getElem?_eq_none (Nat.le_refl _)] at hnx
      have hfo : Sd23.following a n = (n, Sd23.nothing 0x82) := by
        unfold Sd23.following
        rw [hnx]
      refine ⟨_, rfl, Nat.zero_le _, fun q hq => ⟨(by show 3 ≤ sizeLine; decide), fun r hr' => ?_⟩⟩
      have t1 := Same.new (o := HO.lst []) hq
      have t2 := Same.new (o := HO.tup [V.ref p, V.int 130, V.ref q]) hr'
      refine k _ r (t1.trans t2) ?_
      rw [hfo]
      exact ⟨p, q, upd_same, t2 _ _ (t1 _ _ hp), t2 _ _ upd_same, fun e => VV.hf _ e hq⟩
    · have hlt : behind a n < a.entries.length := by have := of_decide_eq_false z; omega
      obtain ⟨e, he⟩ : ∃ e, a.entries[behind a n]? = some e := ⟨_, List.getElem?_eq_getElem hlt⟩
      obtain ⟨p', b, g1, g2, _⟩ := VV.at_ _ e he
      have hm := List.mem_of_getElem? he
      rw [he] at hnx
      have hfo : Sd23.following a n = Sd23.got a e.name := by
        rw [got_of ok hm]
        unfold Sd23.following
        rw [hnx]
      refine ⟨_, rfl, _, rfl, d, CD, dx, _, _, rfl, hd, TD.cl, TD.names, rfl, _, rfl, nm, _, _, _, rfl, rfl, SqL.of VV.hnm, at_of (j := behind a n) rfl (rV_get g1), ?_⟩
      refine ⟨f', d, p', a, e.name, rfl, hD, ok, g2, (ok.ent e hm).good, fun H' r s1 R => k H' r s1 ?_⟩
      rw [hfo]
      exact R
end
end Ad

/-! ## D16 -/
set_option Elab.async false
set_option linter.all false
set_option maxRecDepth 100000
set_option maxHeartbeats 1000000
namespace Ad
open PySem PySem.Spec PyProof.Rows L2
/-! ### what is wrong with a row -/
def wr3 (m : Nat) (b : List Nat) (lo hi : Int) : Nat :=
  if (decide (m = 4 ∨ m = 6) && decide (64 < b.length)) = true then 8
  else if (decide (m = 4) && !(decide (lo ≤ (b.length : Int)) && decide ((b.length : Int) ≤ hi))) = true then 8
  else if (decide ((m : Int) ∈ ([2, 65, 66, 67, 70] : List Int)) && !(decide (lo ≤ wholeOf b) && decide (wholeOf b ≤ hi))) = true then 10 else 0
theorem nums_iff {m : Nat} : (m : Int) ∈ ([2, 65, 66, 67, 70] : List Int) ↔ (m = 2 ∨ m = 65 ∨ m = 66 ∨ m = 67 ∨ m = 70) := by
  simp
  omega
theorem fits_nums {v : Sd23.Value} (h : Sd23.fits v = true) (m : v.mark = 2 ∨ v.mark = 65 ∨ v.mark = 66 ∨ v.mark = 67 ∨ v.mark = 70) : isWhole v.body = true ∧ v.body.length ≤ 9 ∧ Sd23.worth v = wholeOf v.body := by
  have key : isWhole v.body = true ∧ v.body.length ≤ 9 := by
    unfold Sd23.fits at h
    by_cases h2 : v.mark = 2
    · rw [if_pos h2] at h
      have := intOf_eq 4 v.body
      split at h
      · rename_i z e
        rw [e] at this
        split at this
        · rename_i c
          exact ⟨c.1, by omega⟩
        · cases this
      · cases h
    · have un : ∀ n, Sd23.unsigned n v.body = true → isWhole v.body = true ∧ v.body.length ≤ 9 := by
        intro n hn
        unfold Sd23.unsigned at hn
        have := intOf_eq 9 v.body
        split at hn
        · rename_i z e
          rw [e] at this
          split at this
          · rename_i c
            exact c
          · cases this
        · cases hn
      rw [if_neg h2, if_neg (show ¬ v.mark = 4 by omega), if_neg (show ¬ v.mark = 5 by omega), if_neg (show ¬ v.mark = 6 by omega), if_neg (show ¬ v.mark = 0x40 by omega)] at h
      split at h
      · exact un 32 h
      · split at h
        · exact un 64 h
        · cases h
  refine ⟨key.1, key.2, ?_⟩
  unfold Sd23.worth
  rw [if_pos m, intOf_eq, if_pos ⟨key.1, key.2⟩]
  rfl
theorem wrong_none {a : Sd23.Abs} {x : Sd23.Bind} (h : a.find x.1 = none) : Sd23.wrong a x = 11 := by
  unfold Sd23.wrong
  rw [h]
theorem wrong_some {a : Sd23.Abs} {x : Sd23.Bind} {e : Sd23.Entry} (h : a.find x.1 = some e) (ok : OkEnt e) (ox : OkRow x) :
    Sd23.wrong a x = if e.write = false then 17 else if x.2.mark ≠ e.value.mark then 7 else wr3 x.2.mark x.2.body e.lo e.hi := by
  unfold Sd23.wrong
  rw [h]
  dsimp only
  by_cases hw : e.write = false
  · rw [if_pos hw, if_pos hw]
  rw [if_neg hw, if_neg hw]
  by_cases hm : x.2.mark ≠ e.value.mark
  · rw [if_pos hm, if_pos hm]
  rw [if_neg hm, if_neg hm]
  have hk := ok.kind
  have hmk : x.2.mark = e.value.mark := Classical.not_not.mp hm
  rw [← hmk] at hk
  unfold Sd23.kinds at hk
  rw [List.contains_eq_mem] at hk
  have hk' : x.2.mark = 2 ∨ x.2.mark = 4 ∨ x.2.mark = 6 ∨ x.2.mark = 64 ∨ x.2.mark = 65 ∨ x.2.mark = 66 ∨ x.2.mark = 67 ∨ x.2.mark = 70 := by simpa using hk
  have fn := fits_nums ox.fits
  have w4 : x.2.mark = 4 → Sd23.worth x.2 = x.2.body.length := fun h => by
    unfold Sd23.worth
    rw [if_neg (by omega)]
  unfold wr3 Sd23.BODY
  simp only [nums_iff]
  by_cases h4 : x.2.mark = 4
  · rw [w4 h4]
    by_cases q1 : 64 < x.2.body.length
    · rw [if_pos ⟨.inl h4, .inl q1⟩, if_pos (by simp [h4, q1])]
    · by_cases q2 : (x.2.body.length : Int) < e.lo ∨ e.hi < (x.2.body.length : Int)
      · rw [if_pos ⟨.inl h4, .inr ⟨h4, q2⟩⟩, if_neg (by simp [q1]), if_pos (by simp [h4]; omega)]
      · rw [if_neg (by simp [q1, q2]), if_neg (by simp [h4]), if_neg (by simp [q1]), if_neg (by simp [h4]; omega), if_neg (by simp [h4])]
  · by_cases h6 : x.2.mark = 6
    · by_cases q1 : 64 < x.2.body.length
      · rw [if_pos ⟨.inr h6, .inl q1⟩, if_pos (by simp [h6, q1])]
      · rw [if_neg (by simp [q1, h4]), if_neg (by simp [h6]), if_neg (by simp [q1]), if_neg (by simp [h4]), if_neg (by simp [h6])]
    · rw [if_neg (by simp [h4, h6]), if_neg (show ¬ (decide (x.2.mark = 4 ∨ x.2.mark = 6) && decide (64 < x.2.body.length)) = true by simp [h4, h6]), if_neg (show ¬ (decide (x.2.mark = 4) && !(decide (e.lo ≤ (x.2.body.length : Int)) && decide ((x.2.body.length : Int) ≤ e.hi))) = true by simp [h4])]
      by_cases h64 : x.2.mark = 64
      · rw [if_neg (by simp [h64]), if_neg (by simp [h64])]
      · obtain ⟨_, _, fw⟩ := fn (by omega)
        rw [fw]
        by_cases q : wholeOf x.2.body < e.lo ∨ e.hi < wholeOf x.2.body
        · rw [if_pos ⟨h4, h6, h64, q⟩, if_pos (by simp; omega)]
        · rw [if_neg (fun h => q h.2.2.2), if_neg (by simp; omega)]
/-! ### row_error -/
abbrev sErr : Stmt := top 68
theorem scErr : FnScope ["device", "row", "name", "kind", "content", "entry"] ["device", "row"] (defScope sErr) := ⟨rfl, rfl, rfl, by decide +kernel, rfl, by decide +kernel, by decide +kernel⟩
theorem bErr : BindsBy "row_error" "row_error" sErr ["device", "row"] := fun _ _ _ _ _ _ us hl => match us, hl with | [_, _], _ => rfl
def spErr (CD CE : Addr) : Sp := fun vs H Q _ => ∃ (f : Addr → Prop) (d r : Addr) (a : Sd23.Abs) (x : Sd23.Bind) (N : Addr → Prop), vs = [.ref d, .ref r] ∧ DevAt f CD CE H d a ∧ OkAbs a ∧ RowAt N H r x ∧ OkRow x ∧
  ∀ H', Same H H' → Q (.int (Sd23.wrong a x : Int)) H'
section
variable {P : Program} {w : World} {K : PySem.W.Frag} {mg : Str → Option Value} {base : Heap} {CD CE aC aN : Addr}
/-- the tests of a value against its bounds -/
def tE5 : TT := fun σ H Q => ∃ (m : Nat) (ct : Addr) (b : List Nat), σ[3]? = some (some (.int (m : Int))) ∧ σ[4]? = some (some (.ref ct)) ∧ H ct = some (.lst (nV b)) ∧ ∀ H', Same H H' → Q (decide (m = 4 ∨ m = 6) && decide (64 < b.length)) H'
theorem tE5_of (σ : L2.St) (H : Hp) (Q : Bool → Hp → Prop) (h : tE5 σ H Q) : tAnd (tTest (tOp (rIn K false) (tVar 3) (tTup (tCons (tC (.int 4)) (tCons (tC (.int 6)) tNil))))) (tTest (tOp (rI0 fun i j => .bl (decide (j < i))) (tCB (rLen1 K) (tCons (tVar 4) tNil)) (tC (.int 64)))) σ H Q := by
  obtain ⟨m, ct, b, h3, h4, hc, k⟩ := h
  refine ⟨_, h3, (by show 2 ≤ sizeLine; decide), fun q nq => ⟨q, [.int 4, .int 6], rfl, .inr (SqT.of upd_same), rfl, rfl, _, rfl, ?_⟩⟩
  have s1 := Same.new (o := HO.tup [V.int 4, V.int 6]) nq
  have hin : (if false = true then !inV (.int (m : Int)) [.int 4, .int 6] else inV (.int (m : Int)) [.int 4, .int 6]) = decide (m = 4 ∨ m = 6) := by
    have := inV_ints (m : Int) [4, 6]
    refine Eq.trans this ?_
    apply decide_eq_decide.mpr
    simp
    omega
  rw [hin]
  have k' := k _ s1
  refine ifB (fun z => ?_) (fun z => ?_)
  · rw [z, Bool.true_and] at k'
    refine ⟨_, h4, ct, _, rfl, .inl (SqL.of (s1 _ _ hc)), _, _, rfl, rfl, _, rfl, ?_⟩
    rw [nV_length]
    have : decide ((64 : Int) < (b.length : Int)) = decide (64 < b.length) := decide_eq_decide.mpr (by omega)
    rw [this]
    exact k'
  · rw [z, Bool.false_and] at k'
    exact k'
def tE6 (CE : Addr) : TT := fun σ H Q => ∃ (m : Nat) (ct e dx ce : Addr) (b : List Nat) (k lo hi : Int) (s : Bool), σ[3]? = some (some (.int (m : Int))) ∧ σ[4]? = some (some (.ref ct)) ∧ σ[5]? = some (some (.ref e)) ∧ H ct = some (.lst (nV b)) ∧ H e = some (.ins CE dx (eF k ce s lo hi)) ∧
  Q (decide (m = 4) && !(decide (lo ≤ (b.length : Int)) && decide ((b.length : Int) ≤ hi))) H
theorem tE6_of (TE : EnT K CE) (σ : L2.St) (H : Hp) (Q : Bool → Hp → Prop) (h : tE6 CE σ H Q) : tAnd (tTest (tOp rEq (tVar 3) (tC (.int 4)))) (tNot (tTest (tChain (rI0 fun i j => .bl (decide (i ≤ j))) (rI0 fun i j => .bl (decide (i ≤ j))) (tFld K (tVar 5) "low") (tCB (rLen1 K) (tCons (tVar 4) tNil)) (tFld K (tVar 5) "high")))) σ H Q := by
  obtain ⟨m, ct, e, dx, ce, b, k, lo, hi, s, h3, h4, h5, hc, he, k'⟩ := h
  refine ⟨_, h3, rfl, _, rfl, ?_⟩
  have d4 : decide (V.int (m : Int) = V.int 4) = decide (m = 4) := dI (n := 4)
  rw [d4]
  refine ifB (fun z => ?_) (fun z => ?_)
  · rw [z, Bool.true_and] at k'
    refine ⟨_, h5, e, CE, dx, _, _, rfl, he, TE.cl, TE.low, rfl, _, h4, ct, _, rfl, .inl (SqL.of hc), _, _, rfl, rfl, _, rfl, ?_⟩
    rw [nV_length]
    refine ifB (fun u => ?_) (fun u => ?_)
    · rw [u, Bool.true_and] at k'
      exact ⟨_, h5, e, CE, dx, _, _, rfl, he, TE.cl, TE.high, rfl, _, _, rfl, rfl, _, rfl, k'⟩
    · rw [u, Bool.false_and] at k'
      exact ⟨_, rfl, k'⟩
  · rw [z, Bool.false_and] at k'
    exact k'
def tE7 (CE : Addr) : TT := fun σ H Q => ∃ (m : Nat) (ct e dx ce : Addr) (b : List Nat) (k lo hi : Int) (s : Bool), σ[3]? = some (some (.int (m : Int))) ∧ σ[4]? = some (some (.ref ct)) ∧ σ[5]? = some (some (.ref e)) ∧ H ct = some (.lst (nV b)) ∧ H e = some (.ins CE dx (eF k ce s lo hi)) ∧
  ((m : Int) ∈ ([2, 65, 66, 67, 70] : List Int) → b ≠ [] ∧ b.length ≤ 100000) ∧
  Q (decide ((m : Int) ∈ ([2, 65, 66, 67, 70] : List Int)) && !(decide (lo ≤ wholeOf b) && decide (wholeOf b ≤ hi))) H
theorem tE7_of (TE : EnT K CE) (σ : L2.St) (H : Hp) (Q : Bool → Hp → Prop) (h : tE7 CE σ H Q) : tAnd (tTest (tOp (rInT aN [2, 65, 66, 67, 70]) (tVar 3) (tC (.ref aN)))) (tNot (tTest (tChain (rI0 fun i j => .bl (decide (i ≤ j))) (rI0 fun i j => .bl (decide (i ≤ j))) (tFld K (tVar 5) "low") (tCall (spWholeOf K) [] E0 (tCons (tVar 4) tNil)) (tFld K (tVar 5) "high")))) σ H Q := by
  obtain ⟨m, ct, e, dx, ce, b, k, lo, hi, s, h3, h4, h5, hc, he, hne, k'⟩ := h
  refine ⟨_, h3, rfl, _, rfl, _, rfl, ?_⟩
  refine ifB (fun z => ?_) (fun z => ?_)
  · obtain ⟨n1, n2⟩ := hne (of_decide_eq_true z)
    rw [z, Bool.true_and] at k'
    refine ⟨_, h5, e, CE, dx, _, _, rfl, he, TE.cl, TE.low, rfl, _, h4, ct, b, rfl, SqL.of hc, n1, n2, _, _, rfl, rfl, _, rfl, ?_⟩
    refine ifB (fun u => ?_) (fun u => ?_)
    · rw [u, Bool.true_and] at k'
      exact ⟨_, h5, e, CE, dx, _, _, rfl, he, TE.cl, TE.high, rfl, _, _, rfl, rfl, _, rfl, k'⟩
    · rw [u, Bool.false_and] at k'
      exact ⟨_, rfl, k'⟩
  · rw [z, Bool.false_and] at k'
    exact k'
theorem ok_err (D : Def1 K mg "row_error" "row_error" sErr) (B : Blt mg) (c1 : Cst1 K mg aC aN) (c : Cst3 mg) (TD : DvT K CD) (TE : EnT K CE) (cW : CalX P w K mg base CX0 1 "whole_of" (spWholeOf K)) : CalX P w K mg base CX0 2 "row_error" (spErr CD CE) := by
  refine cal0 D scErr bErr (fun vs H Q E h => ?_) fun f cdv A outer s H vs Q E hr h => ?_
  · obtain ⟨f, d, r, a, x, N, rfl, _⟩ := h
    rfl
  · obtain ⟨f', d, r, a, x, N, rfl, hD, ok, hR, ox, k⟩ := h
    have hu := hu_of hr
    refine ⟨_, pss_cons (ps_asg (pv 1) (pg_tup rfl (pgs_cons (pg_name (i := 2) scErr.nd rfl (.inl rfl)) (pgs_cons (pg_name (i := 3) scErr.nd rfl (.inl rfl)) (pgs_cons (pg_name (i := 4) scErr.nd rfl (.inl rfl)) pgs_nil))))) <|
      pss_cons (ps_if (pt_cmp (pc_dnotin hu (pv 2) (pe_fld (pv 0) rfl))) (pss_one (ps_ret (pcon c.notThere))) pss_nil) <|
      pss_cons (ps_set (i := 5) scErr.nd rfl (.inl rfl) (pe_dget hu (pe_fld (pv 0) rfl) (pv 2) (fun _ _ => rfl))) <|
      pss_cons (ps_if (pt_not (pt_val (pe_fld (pv 5) rfl))) (pss_one (ps_ret (pcon c.notSettable))) pss_nil) <|
      pss_cons (ps_if (pt_cmpR op_ne (pe_fld (pv 5) rfl) (pv 3) (nomark _)) (pss_one (ps_ret (pcon c.otherKind))) pss_nil) <|
      pss_cons (ps_if (PTimp (t' := tE5) (PW.pt (pw_and (pt_cmpR op_in_seq (pv 3) (pe_tup (pa_cons (pcon c1.bytes) (pa_cons (pcon c1.name) pa_nil))) rfl) (pw_and1 (pt_cmpR op_gt (plen B (pv 4)) (pcon c.mostValue) (nomark _))))) tE5_of) (pss_one (ps_ret (pcon c.otherLength))) pss_nil) <|
      pss_cons (ps_if (PTimp (t' := tE6 CE) (PW.pt (pw_and (pt_cmpR op_eq (pv 3) (pcon c1.bytes) (nomark _)) (pw_and1 (pt_not (pt_chain op_le op_le (pe_fld (pv 5) rfl) (plen B (pv 4)) (pe_fld (pv 5) rfl)))))) (tE6_of TE)) (pss_one (ps_ret (pcon c.otherLength))) pss_nil) <|
      pss_cons (ps_if (PTimp (t' := tE7 CE) (PW.pt (pw_and (pinP c1.numbers (pv 3)) (pw_and1 (pt_not (pt_chain op_le op_le (pe_fld (pv 5) rfl) (pcall cW hr (by decide) pass0 (pa_cons (pv 4) pa_nil)) (pe_fld (pv 5) rfl)))))) (tE7_of TE)) (pss_one (ps_ret (pcon c.otherValue))) pss_nil) <|
      pss_one (ps_ret pe_int), ?_⟩
    obtain ⟨dx, rd, wr, en, nm, kvs, ps, hd, VV⟩ := id hD
    obtain ⟨pn, ct, hr1, hr2, hr3, _⟩ := hR
    have hkey : H pn = some (.tup ((nK x.1).map kV)) := by rw [nK_V]; exact hr2
    have k0 := fun m (hm : Sd23.wrong a x = m) => (by have := k H (Same.refl H); rw [hm] at this; exact this : Q (.int (m : Int)) H)
    refine ⟨_, rfl, r, _, rfl, SqT.of hr1, rfl, _, _, rfl, _, _, rfl, _, _, rfl, rfl, ?_⟩
    refine ⟨_, rfl, _, rfl, d, CD, dx, _, _, rfl, hd, TD.cl, TD.entries, rfl, en, _, rfl, DGet.t VV.hen hkey, _, rfl, ?_⟩
    cases hf : a.find x.1 with
    | none =>
      rw [VV.non _ hf]
      refine ifT rfl (k0 11 (wrong_none hf))
    | some e =>
      obtain ⟨hm, hn⟩ := find_some hf
      obtain ⟨i, hi⟩ := List.mem_iff_getElem?.mp hm
      obtain ⟨p', b, g1, g2, g3, dxe, ce, g4, g5, g6⟩ := VV.at_ i e hi
      rw [hn] at g3
      rw [g3]
      have hwr := wrong_some hf (ok.ent e hm) ox
      refine ifF rfl ?_
      refine ⟨_, rfl, d, CD, dx, _, _, rfl, hd, TD.cl, TD.entries, rfl, _, rfl, en, _, rfl, by rw [← g3]; exact DGet.t VV.hen hkey, ?_⟩
      refine ⟨_, rfl, b, CE, dxe, _, _, rfl, g4, TE.cl, TE.settable, rfl, _, rfl, ?_⟩
      cases hw : e.write with
      | false =>
        rw [if_pos hw] at hwr
        exact ifT rfl (k0 17 hwr)
      | true =>
      rw [if_neg (by rw [hw]; decide)] at hwr
      refine ifF rfl ?_
      refine ⟨_, rfl, b, CE, dxe, _, _, rfl, g4, TE.cl, TE.kind, rfl, _, rfl, rfl, _, rfl, ?_⟩
      have dk : decide (V.int (e.value.mark : Int) = V.int (x.2.mark : Int)) = decide (e.value.mark = x.2.mark) := dI
      refine ifB (fun z => ?_) (fun z => ?_)
      · have z' : ¬ e.value.mark = x.2.mark := fun q => by
          have := (show (!decide (V.int (e.value.mark : Int) = V.int (x.2.mark : Int))) = true from z)
          rw [dk, decide_eq_true q] at this
          cases this
        rw [if_pos (fun q => z' q.symm)] at hwr
        exact k0 7 hwr
      have z' : e.value.mark = x.2.mark := by
        have := (show (!decide (V.int (e.value.mark : Int) = V.int (x.2.mark : Int))) = false from z)
        rw [dk] at this
        exact of_decide_eq_true (by rw [Bool.not_eq_false'] at this; exact this)
      rw [if_neg (fun q => q z'.symm)] at hwr
      refine ⟨x.2.mark, ct, x.2.body, rfl, rfl, hr3, fun H1 s1 => ?_⟩
      have k1 := fun m (hm : Sd23.wrong a x = m) => (by have := k H1 s1; rw [hm] at this; exact this : Q (.int (m : Int)) H1)
      unfold wr3 at hwr
      refine ifB (fun q => ?_) (fun q => ?_)
      · rw [if_pos q] at hwr
        exact k1 8 hwr
      rw [if_neg (by rw [q]; decide)] at hwr
      refine ⟨x.2.mark, ct, b, dxe, ce, x.2.body, _, e.lo, e.hi, _, rfl, rfl, rfl, s1 _ _ hr3, s1 _ _ g4, ?_⟩
      refine ifB (fun q => ?_) (fun q => ?_)
      · rw [if_pos q] at hwr
        exact k1 8 hwr
      rw [if_neg (by rw [q]; decide)] at hwr
      refine ⟨x.2.mark, ct, b, dxe, ce, x.2.body, _, e.lo, e.hi, _, rfl, rfl, rfl, s1 _ _ hr3, s1 _ _ g4, fun hm => ?_, ?_⟩
      · have := fits_nums ox.fits (nums_iff.mp hm)
        refine ⟨fun e0 => ?_, ?_⟩
        · have h1 := this.1
          rw [e0] at h1
          cases h1
        · omega
      refine ifB (fun q => ?_) (fun q => ?_)
      · rw [if_pos q] at hwr
        exact k1 10 hwr
      rw [if_neg (by rw [q]; decide)] at hwr
      exact k1 0 hwr
end
end Ad

/-! ## D17 -/
set_option Elab.async false
set_option linter.all false
set_option maxRecDepth 100000
set_option maxHeartbeats 1000000
namespace Ad
open PySem PySem.Spec PyProof.Rows L2
/-! ### a comprehension over a list of addresses -/
theorem refs_of : ∀ {ys : List V}, (∀ (i : Nat) y, ys[i]? = some y → ∃ p : Addr, y = .ref p) → ∃ ps : List Addr, ys = rV ps
  | [], _ => ⟨[], rfl⟩
  | y :: r, h => by
    obtain ⟨p, rfl⟩ := h 0 y rfl
    obtain ⟨ps, rfl⟩ := refs_of (ys := r) fun i z hz => h (i + 1) z hz
    exact ⟨p :: ps, rfl⟩
theorem lc_go {K : PySem.W.Frag} {a : Addr} {ps : List Addr} {k : Nat} {te : TE} {vs : List Nat} {σ : L2.St} {H1 : Hp} {D : Addr} {Qd : Hp → Prop} (hw : ∀ x, wipe ((wipe σ vs).set k (some x)) vs = wipe σ vs) (hD : H1 D = none) (hS : SqL K H1 a (rV ps)) (hl : ps.length ≤ 100000)
    (R : Nat → V → Hp → Prop) (mono : ∀ i y H H', Same H H' → R i y H → R i y H') (lst : ∀ i y H xs, H D = some (.lst xs) → R i y H → ∀ zs, R i y (upd H D (.lst zs)))
    (step : ∀ i p H (Q : VK), ps[i]? = some p → Same H1 H → H D ≠ none → (∀ y H2, Same H H2 → R i y H2 → Q y H2) → te ((wipe σ vs).set k (some (.ref p))) H Q)
    (fin : ∀ H ys, Same H1 H → H D = some (.lst ys) → ys.length = ps.length → (∀ (i : Nat) y, ys[i]? = some y → R i y H) → Qd H) :
    ∃ W : Nat → Nat → Hp → Prop, (∃ m, W 0 m (upd H1 D (.lst []))) ∧ ∀ i m H, W i m H →
      ((Itl K a).stop i H ∧ Qd H) ∨ ((Itl K a).go i H ∧ ∃ Nx : Hp → Prop, (∀ H', Nx H' → ∃ m', m' < m ∧ W (i + 1) m' H') ∧ ∀ x H', (Itl K a).yld i H x H' → gName k x (wipe σ vs) H' fun σ2 H2 => wipe σ2 vs = wipe σ vs ∧ tYes σ2 H2 fun b H3 =>
        if b = true then te σ2 H3 fun y H4 => ∃ acc, H4 D = some (.lst acc) ∧ acc.length < sizeLine ∧ Nx (upd H4 D (.lst (acc ++ [y]))) else Nx H3) := by
  refine lc_list (K := K) (a := a) (xs := rV ps) (fun i H => Same H1 H ∧ ∃ ys, H D = some (.lst ys) ∧ ys.length = i ∧ ∀ j y, ys[j]? = some y → R j y H) ⟨Same.new hD, [], upd_same, rfl, fun j y h => by simp at h⟩ (fun i H _ ⟨s1, _⟩ => s1.seq hS) ?_ ?_
  · rintro i x H hi ⟨s1, ys, h1, hlen, hR⟩
    obtain ⟨p, hp, rfl⟩ := rV_of hi
    have hib : i < ps.length := (List.getElem?_eq_some_iff.mp hp).1
    refine ⟨hw _, step i p H _ hp s1 (by rw [h1]; exact fun e => by cases e) fun y H2 s2 r => ⟨ys, s2 _ _ h1, by rw [sizeLine_eq]; omega, sameUpd (s1.trans s2) hD, ys ++ [y], upd_same, by rw [List.length_append, hlen]; rfl, fun j z hz => ?_⟩⟩
    by_cases hj : j < ys.length
    · rw [List.getElem?_append_left hj] at hz
      exact lst j z H2 _ (s2 _ _ h1) (mono j z H H2 s2 (hR j z hz)) _
    · have hj' : j = ys.length := by
        have := (List.getElem?_eq_some_iff.mp hz).1
        rw [List.length_append, List.length_singleton] at this
        omega
      subst hj'
      rw [List.getElem?_append_right (Nat.le_refl _), Nat.sub_self] at hz
      have e : y = z := Option.some.inj hz
      subst e
      rw [hlen]
      exact lst i y H2 _ (s2 _ _ h1) r _
  · rintro H ⟨s1, ys, h1, hlen, hR⟩
    exact fin H ys s1 h1 (by rw [hlen, rV_length]) hR
/-- names in a list -/
def NamesAt (H : Hp) (ps : List Addr) (ns : List (List Nat)) : Prop := ps.length = ns.length ∧ ∀ (i : Nat) n, ns[i]? = some n → ∃ p, ps[i]? = some p ∧ H p = some (.tup (nV n))
theorem NamesAt.same {H H' : Hp} {ps : List Addr} {ns : List (List Nat)} (h : NamesAt H ps ns) (s : Same H H') : NamesAt H' ps ns := ⟨h.1, fun i n e => let ⟨p, h1, h2⟩ := h.2 i n e; ⟨p, h1, s _ _ h2⟩⟩
theorem NamesAt.wr {H : Hp} {a : Addr} {xs : List V} {o : HO} {ps : List Addr} {ns : List (List Nat)} (h : NamesAt H ps ns) (ha : H a = some (.lst xs)) : NamesAt (upd H a o) ps ns :=
  ⟨h.1, fun i n e => let ⟨p, h1, h2⟩ := h.2 i n e; ⟨p, h1, by rw [upd_ne (ne_of h2 ha (by intro z; cases z))]; exact h2⟩⟩
theorem NamesAt.sub {H : Hp} {ps : List Addr} {ns : List (List Nat)} (h : NamesAt H ps ns) (i j : Nat) : NamesAt H ((ps.drop i).take j) ((ns.drop i).take j) := by
  refine ⟨by rw [List.length_take, List.length_drop, List.length_take, List.length_drop, h.1], fun k n hk => ?_⟩
  rw [List.getElem?_take] at hk ⊢
  split at hk
  · rename_i c
    rw [if_pos c, List.getElem?_drop]
    rw [List.getElem?_drop] at hk
    exact h.2 _ _ hk
  · cases hk
theorem names_of {H : Hp} {ys : List V} {ns : List (List Nat)} (hl : ys.length = ns.length) (h : ∀ (i : Nat) y, ys[i]? = some y → ∃ n nm, ns[i]? = some n ∧ y = V.ref nm ∧ H nm = some (.tup (nV n))) : ∃ ps, ys = rV ps ∧ NamesAt H ps ns := by
  obtain ⟨ps, rfl⟩ := refs_of fun i y hy => let ⟨_, nm, _, e, _⟩ := h i y hy; ⟨nm, e⟩
  rw [rV_length] at hl
  refine ⟨ps, rfl, hl, fun i n hn => ?_⟩
  have hi : i < ps.length := by
    have := (List.getElem?_eq_some_iff.mp hn).1
    omega
  obtain ⟨n', nm, e1, e2, e3⟩ := h i _ (rV_get (List.getElem?_eq_getElem hi))
  rw [hn] at e1
  cases e1
  cases e2
  exact ⟨_, List.getElem?_eq_getElem hi, e3⟩
theorem rows_of {N : Addr → Prop} {H : Hp} {ys : List V} {bs : List Sd23.Bind} (hl : ys.length = bs.length) (h : ∀ (i : Nat) y, ys[i]? = some y → ∃ x r, bs[i]? = some x ∧ y = V.ref r ∧ RowAt N H r x) : ∃ ps, ys = rV ps ∧ RowsAt N H ps bs := by
  obtain ⟨ps, rfl⟩ := refs_of fun i y hy => let ⟨_, nm, _, e, _⟩ := h i y hy; ⟨nm, e⟩
  rw [rV_length] at hl
  refine ⟨ps, rfl, hl, fun i n hn => ?_⟩
  have hi : i < ps.length := by
    have := (List.getElem?_eq_some_iff.mp hn).1
    omega
  obtain ⟨n', nm, e1, e2, e3⟩ := h i _ (rV_get (List.getElem?_eq_getElem hi))
  rw [hn] at e1
  cases e1
  cases e2
  exact ⟨_, List.getElem?_eq_getElem hi, e3⟩
theorem RowsAt.app {N : Addr → Prop} {H : Hp} {ps qs : List Addr} {bs cs : List Sd23.Bind} (h : RowsAt N H ps bs) (g : RowsAt N H qs cs) : RowsAt N H (ps ++ qs) (bs ++ cs) := by
  refine ⟨by rw [List.length_append, List.length_append, h.1, g.1], fun i x hx => ?_⟩
  by_cases hi : i < bs.length
  · rw [List.getElem?_append_left hi] at hx
    rw [List.getElem?_append_left (by rw [h.1]; exact hi)]
    exact h.2 i x hx
  · rw [List.getElem?_append_right (by omega)] at hx
    rw [List.getElem?_append_right (by rw [h.1]; omega), h.1]
    exact g.2 _ x hx
/-- a device leans on nothing that was made later -/
theorem DevAt.other {f g : Addr → Prop} {CD CE : Addr} {H H' : Hp} {d : Addr} {a : Sd23.Abs} (h : DevAt f CD CE H d a) (s : Same H H') (n : ∀ c, g c → H c = none) (hg : ∀ c, g c → H' c ≠ none) : DevAt g CD CE H' d a := by
  obtain ⟨dx, rd, wr, en, nm, kvs, ps, h1, h2⟩ := h.same s
  obtain ⟨dx', rd', wr', en', nm', kvs', ps', h1', h2'⟩ := h
  have e := s _ _ h1'
  rw [h1] at e
  have e' := (HO.ins.inj (Option.some.inj e)).2.2
  have q1 : rd = rd' := V.ref.inj (Prod.mk.inj (List.cons.inj e').1).2
  have e2 := (List.cons.inj e').2
  have q2 : wr = wr' := V.ref.inj (Prod.mk.inj (List.cons.inj e2).1).2
  have e3 := (List.cons.inj e2).2
  have q3 : en = en' := V.ref.inj (Prod.mk.inj (List.cons.inj e3).1).2
  have e4 := (List.cons.inj e3).2
  have q4 : nm = nm' := V.ref.inj (Prod.mk.inj (List.cons.inj e4).1).2
  subst q1 q2 q3 q4
  refine ⟨dx, rd, wr, en, nm, kvs, ps, h1, h2.hrd, h2.hwr, h2.hen, h2.hnm, ⟨fun e => ne_of_none h2'.hrd (n _ e) rfl, fun e => ne_of_none h2'.hwr (n _ e) rfl, fun e => ne_of_none h2'.hnm (n _ e) rfl⟩, hg, h2.len, fun i e he => ?_, h2.non, h2.inj, h2.few, h2.nd⟩
  obtain ⟨p, b, g1, g2, g3, dxe, ct, g4, g5, g6⟩ := h2.at_ i e he
  obtain ⟨p', b', k1, k2, k3, dxe', ct', k4, k5, k6⟩ := h2'.at_ i e he
  have ek : kvs = kvs' := by
    have := s _ _ h2'.hen
    rw [h2.hen] at this
    exact HO.dT.inj (Option.some.inj this)
  subst ek
  rw [g3] at k3
  cases k3
  have := s _ _ k4
  rw [g4] at this
  have e'' := (HO.ins.inj (Option.some.inj this)).2.2
  have e2 := (List.cons.inj e'').2
  have q5 : ct = ct' := V.ref.inj (Prod.mk.inj (List.cons.inj e2).1).2
  subst q5
  exact ⟨p, b, g1, g2, g3, dxe, ct, g4, g5, fun e => ne_of_none k5 (n _ e) rfl⟩
section
variable {K : PySem.W.Frag} {a D : Addr} {ps : List Addr} {vs : List Nat} {σ : L2.St} {H1 : Hp} {Qd : Hp → Prop}
/-- a comprehension's walk over the list at a: target k, item te -/
def LcW (K : PySem.W.Frag) (a D : Addr) (k : Nat) (te : TE) (vs : List Nat) (σ : L2.St) (H1 : Hp) (Qd : Hp → Prop) : Prop :=
  ∃ W : Nat → Nat → Hp → Prop, (∃ m, W 0 m (upd H1 D (.lst []))) ∧ ∀ i m H, W i m H →
      ((Itl K a).stop i H ∧ Qd H) ∨ ((Itl K a).go i H ∧ ∃ Nx : Hp → Prop, (∀ H', Nx H' → ∃ m', m' < m ∧ W (i + 1) m' H') ∧ ∀ x H', (Itl K a).yld i H x H' → gName k x (wipe σ vs) H' fun σ2 H2 => wipe σ2 vs = wipe σ vs ∧ tYes σ2 H2 fun b H3 =>
        if b = true then te σ2 H3 fun y H4 => ∃ acc, H4 D = some (.lst acc) ∧ acc.length < sizeLine ∧ Nx (upd H4 D (.lst (acc ++ [y]))) else Nx H3)
/-- [row[0] for row in rows] -/
theorem lc_names {N : Addr → Prop} {bs : List Sd23.Bind} {k : Nat} (hw : ∀ x, wipe ((wipe σ vs).set k (some x)) vs = wipe σ vs) (hv : ∀ x, ((wipe σ vs).set k (some x))[k]? = some (some x)) (hD : H1 D = none) (hS : H1 a = some (.lst (rV ps))) (hl : bs.length ≤ 100000) (hR : RowsAt N H1 ps bs)
    (fin : ∀ H pn, Same H1 H → H D = some (.lst (rV pn)) → NamesAt H pn (bs.map (·.1)) → Qd H) : LcW K a D k (tOp (rIxT K) (tVar k) (tC (.int 0))) vs σ H1 Qd := by
  refine lc_go hw hD (SqL.of hS) (by rw [hR.1]; exact hl) (fun i y H => ∃ n nm, (bs.map (·.1))[i]? = some n ∧ y = V.ref nm ∧ H nm = some (.tup (nV n))) (fun i y H H' s ⟨n, nm, h1, h2, h3⟩ => ⟨n, nm, h1, h2, s _ _ h3⟩)
    (fun i y H xs h ⟨n, nm, h1, h2, h3⟩ zs => ⟨n, nm, h1, h2, by rw [upd_ne (ne_of h3 h (by intro z; cases z))]; exact h3⟩) (fun i p H Q hp s1 _ kk => ?_) (fun H ys s1 h1 hlen hy => ?_)
  · have hib : i < bs.length := by
      have := (List.getElem?_eq_some_iff.mp hp).1
      rw [hR.1] at this
      exact this
    obtain ⟨x, hx⟩ : ∃ x, bs[i]? = some x := ⟨_, List.getElem?_eq_getElem hib⟩
    obtain ⟨p', hp', nm, ct, h1, h2, h3, _⟩ := hR.2 i x hx
    rw [hp] at hp'
    cases hp'
    refine ⟨_, hv _, p, _, _, _, rfl, rfl, SqT.of (s1 _ _ h1), atz rfl, kk _ H (Same.refl H) ⟨x.1, nm, ?_, rfl, s1 _ _ h2⟩⟩
    rw [List.getElem?_map, hx]
    rfl
  · obtain ⟨pn, rfl, hn⟩ := names_of (ns := bs.map (·.1)) (by rw [hlen, hR.1, List.length_map]) hy
    exact fin H pn s1 h1 hn
/-- [next_row(device, name) for name in names] -/
theorem lc_next {CD CE d : Addr} {ab : Sd23.Abs} {F : Addr → Prop} {ns : List (List Nat)} {k : Nat} (hw : ∀ x, wipe ((wipe σ vs).set k (some x)) vs = wipe σ vs) (hv : ∀ x, ((wipe σ vs).set k (some x))[k]? = some (some x)) (h0 : ∀ x, ((wipe σ vs).set k (some x))[0]? = some (some (.ref d)))
    (hD : H1 D = none) (hF : F D) (hS : H1 a = some (.lst (rV ps))) (hl : ns.length ≤ 100000) (hN : NamesAt H1 ps ns) (hg : ∀ n ∈ ns, Sd23.good n = true) (ok : OkAbs ab) (dev : ∀ H, Same H1 H → H D ≠ none → DevAt F CD CE H d ab)
    (fin : ∀ H pr, Same H1 H → H D = some (.lst (rV pr)) → RowsAt (fun c => ¬ F c) H pr (ns.map (Sd23.following ab)) → Qd H) : LcW K a D k (tCall (spNext CD CE) [] E0 (tCons (tVar 0) (tCons (tVar k) tNil))) vs σ H1 Qd := by
  refine lc_go hw hD (SqL.of hS) (by rw [hN.1]; exact hl) (fun i y H => ∃ x r, (ns.map (Sd23.following ab))[i]? = some x ∧ y = V.ref r ∧ RowAt (fun c => ¬ F c) H r x) (fun i y H H' s ⟨n, nm, h1, h2, h3⟩ => ⟨n, nm, h1, h2, h3.same s⟩)
    (fun i y H xs h ⟨n, nm, h1, h2, h3⟩ zs => ⟨n, nm, h1, h2, h3.wr h fun c hc e => hc (by rw [e]; exact hF)⟩) (fun i p H Q hp s1 hne kk => ?_) (fun H ys s1 h1 hlen hy => ?_)
  · have hib : i < ns.length := by
      have := (List.getElem?_eq_some_iff.mp hp).1
      rw [hN.1] at this
      exact this
    obtain ⟨n, hn⟩ : ∃ n, ns[i]? = some n := ⟨_, List.getElem?_eq_getElem hib⟩
    obtain ⟨p', hp', h1⟩ := hN.2 i n hn
    rw [hp] at hp'
    cases hp'
    refine ⟨_, h0 _, _, hv _, F, d, p, ab, n, rfl, dev H s1 hne, ok, s1 _ _ h1, hg n (List.mem_of_getElem? hn), fun H' r s2 R => kk _ H' s2 ⟨_, r, ?_, rfl, R⟩⟩
    rw [List.getElem?_map, hn]
    rfl
  · obtain ⟨pn, rfl, hn⟩ := rows_of (bs := ns.map (Sd23.following ab)) (by rw [hlen, hN.1, List.length_map]) hy
    exact fin H pn s1 h1 hn
/-- [len(row_bytes(row)) for row in rows] -/
theorem lc_sizes {N : Addr → Prop} {bs : List Sd23.Bind} {k : Nat} (hw : ∀ x, wipe ((wipe σ vs).set k (some x)) vs = wipe σ vs) (hv : ∀ x, ((wipe σ vs).set k (some x))[k]? = some (some x)) (hD : H1 D = none) (hS : H1 a = some (.lst (rV ps))) (hl : bs.length ≤ 100000) (hR : RowsAt N H1 ps bs) (hB : ∀ x ∈ bs, SmallRow x)
    (fin : ∀ H, Same H1 H → H D = some (.lst ((bs.map fun x => ((Sd23.bindBytes x).length : Int)).map V.int)) → Qd H) : LcW K a D k (tCB (rLen1 K) (tCons (tCall spRowBytes [] E0 (tCons (tVar k) tNil)) tNil)) vs σ H1 Qd := by
  refine lc_go hw hD (SqL.of hS) (by rw [hR.1]; exact hl) (fun i y H => ((bs.map fun x => ((Sd23.bindBytes x).length : Int)).map V.int)[i]? = some y) (fun i y H H' s h => h)
    (fun i y H xs h h' zs => h') (fun i p H Q hp s1 _ kk => ?_) (fun H ys s1 h1 hlen hy => ?_)
  · have hib : i < bs.length := by
      have := (List.getElem?_eq_some_iff.mp hp).1
      rw [hR.1] at this
      exact this
    obtain ⟨x, hx⟩ : ∃ x, bs[i]? = some x := ⟨_, List.getElem?_eq_getElem hib⟩
    obtain ⟨p', hp', hr⟩ := hR.2 i x hx
    rw [hp] at hp'
    cases hp'
    refine ⟨_, hv _, p, x, N, rfl, hr.same s1, hB x (List.mem_of_getElem? hx), fun H' q s2 nq hq => ⟨q, _, rfl, .inl (SqL.of hq), kk _ H' s2 ?_⟩⟩
    rw [List.getElem?_map, List.getElem?_map, hx, nV_length]
    rfl
  · have e : ys = (bs.map fun x => ((Sd23.bindBytes x).length : Int)).map V.int := by
      refine List.ext_getElem? fun i => ?_
      by_cases hi : i < ys.length
      · rw [hy i _ (List.getElem?_eq_getElem hi)]
        exact List.getElem?_eq_getElem hi
      · rw [List.getElem?_eq_none (by omega), List.getElem?_eq_none]
        rw [List.length_map, List.length_map, ← hR.1]
        omega
    rw [e] at h1
    exact fin H s1 h1
/-- [row[1] == NO_MORE for row in rows] -/
theorem lc_ends {N : Addr → Prop} {bs : List Sd23.Bind} {k : Nat} (hw : ∀ x, wipe ((wipe σ vs).set k (some x)) vs = wipe σ vs) (hv : ∀ x, ((wipe σ vs).set k (some x))[k]? = some (some x)) (hD : H1 D = none) (hS : H1 a = some (.lst (rV ps))) (hl : bs.length ≤ 100000) (hR : RowsAt N H1 ps bs)
    (fin : ∀ H, Same H1 H → H D = some (.lst ((bs.map fun x => x.2.mark == 0x82).map V.bl)) → Qd H) : LcW K a D k (tOp rEq (tOp (rIxT K) (tVar k) (tC (.int 1))) (tC (.int 130))) vs σ H1 Qd := by
  refine lc_go hw hD (SqL.of hS) (by rw [hR.1]; exact hl) (fun i y H => ((bs.map fun x => x.2.mark == 0x82).map V.bl)[i]? = some y) (fun i y H H' s h => h)
    (fun i y H xs h h' zs => h') (fun i p H Q hp s1 _ kk => ?_) (fun H ys s1 h1 hlen hy => ?_)
  · have hib : i < bs.length := by
      have := (List.getElem?_eq_some_iff.mp hp).1
      rw [hR.1] at this
      exact this
    obtain ⟨x, hx⟩ : ∃ x, bs[i]? = some x := ⟨_, List.getElem?_eq_getElem hib⟩
    obtain ⟨p', hp', nm, ct, h1, h2, h3, _⟩ := hR.2 i x hx
    rw [hp] at hp'
    cases hp'
    refine ⟨_, hv _, p, _, _, _, rfl, rfl, SqT.of (s1 _ _ h1), at1 rfl, rfl, kk _ H (Same.refl H) ?_⟩
    rw [List.getElem?_map, List.getElem?_map, hx]
    have := dI (m := x.2.mark) (n := 130)
    show some (V.bl (x.2.mark == 0x82)) = some (V.bl (decide (V.int (x.2.mark : Int) = V.int 130)))
    rw [show decide (V.int (x.2.mark : Int) = V.int 130) = decide (x.2.mark = 130) from this, Bool.beq_eq_decide_eq]
  · have e : ys = (bs.map fun x => x.2.mark == 0x82).map V.bl := by
      refine List.ext_getElem? fun i => ?_
      by_cases hi : i < ys.length
      · rw [hy i _ (List.getElem?_eq_getElem hi)]
        exact List.getElem?_eq_getElem hi
      · rw [List.getElem?_eq_none (by omega), List.getElem?_eq_none]
        rw [List.length_map, List.length_map, ← hR.1]
        omega
    rw [e] at h1
    exact fin H s1 h1
end
end Ad

/-! ## D18 -/
set_option Elab.async false
set_option linter.all false
set_option maxRecDepth 100000
set_option maxHeartbeats 1000000
namespace Ad
open PySem PySem.Spec PyProof.Rows L2
/-! ### bulk_rows -/
def told (a : Sd23.Abs) (m : Sd23.Message) : List Sd23.Bind :=
  (m.binds.take (min (max m.a 0).toNat m.binds.length)).map (fun x => Sd23.following a x.1) ++ Sd23.repeated a (min (max m.b 0).toNat 1472) ((m.binds.drop (min (max m.a 0).toNat m.binds.length)).map fun x => x.1)
abbrev sBulk : Stmt := top 67
abbrev nBulk : List Str := ["device", "request", "names", "first", "rows", "size", "times", "told", "row", "name"]
theorem scBulk : FnScope nBulk ["device", "request"] (defScope sBulk) := ⟨rfl, rfl, rfl, by decide +kernel, rfl, by decide +kernel, by decide +kernel⟩
theorem bBulk : BindsBy "bulk_rows" "bulk_rows" sBulk ["device", "request"] := fun _ _ _ _ _ _ us hl => match us, hl with | [_, _], _ => rfl
def spBulk (CD CE CQ : Addr) : Sp := fun vs H Q _ => ∃ (f : Addr → Prop) (d q : Addr) (a : Sd23.Abs) (m : Sd23.Message) (N : Addr → Prop), vs = [.ref d, .ref q] ∧ DevAt f CD CE H d a ∧ OkAbs a ∧ ReqAt N CQ H q m ∧ OkMsg m ∧
  ∀ H' r ps bs, Same H H' → H' r = some (.lst (rV ps)) → RowsAt (fun _ => True) H' ps bs → (∀ x ∈ bs, SmallRow x) → bs.length ≤ 4000 → greedy m [] bs = greedy m [] (told a m) → Q (.ref r) H'
theorem sum_flat : ∀ bs : List Sd23.Bind, (bs.map fun x => ((Sd23.bindBytes x).length : Int)).sum = ((bs.flatMap Sd23.bindBytes).length : Int)
  | [] => rfl
  | x :: r => by
    rw [List.map_cons, List.sum_cons, sum_flat r, List.flatMap_cons, List.length_append]
    omega
theorem rV_take (ps : List Addr) (n : Nat) : (rV ps).take n = rV (ps.take n) := (List.map_take ..).symm
theorem rV_drop (ps : List Addr) (n : Nat) : (rV ps).drop n = rV (ps.drop n) := (List.map_drop ..).symm
theorem rV_append (ps qs : List Addr) : rV ps ++ rV qs = rV (ps ++ qs) := (List.map_append ..).symm
theorem repeated_nil (a : Sd23.Abs) : ∀ k, Sd23.repeated a k [] = []
  | 0 => rfl
  | _ + 1 => rfl
theorem repeated_end {a : Sd23.Abs} {k : Nat} {ns : List (List Nat)} (hn : ns ≠ []) (h : (ns.map (Sd23.following a)).all (fun x => x.2.mark == 0x82) = true) : Sd23.repeated a (k + 1) ns = ns.map (Sd23.following a) := by
  show (if ns = [] then [] else _) = _
  rw [if_neg hn]
  show (if (ns.map (Sd23.following a)).all (fun x => x.2.mark == 0x82) = true then _ else _) = _
  rw [if_pos h]
theorem repeated_on {a : Sd23.Abs} {k : Nat} {ns : List (List Nat)} (hn : ns ≠ []) (h : (ns.map (Sd23.following a)).all (fun x => x.2.mark == 0x82) = false) : Sd23.repeated a (k + 1) ns = ns.map (Sd23.following a) ++ Sd23.repeated a k ((ns.map (Sd23.following a)).map (·.1)) := by
  show (if ns = [] then [] else _) = _
  rw [if_neg hn]
  show (if (ns.map (Sd23.following a)).all (fun x => x.2.mark == 0x82) = true then _ else _) = _
  rw [if_neg (by rw [h]; decide)]
/-- the loop of bulk_rows -/
def BulkI (a : Sd23.Abs) (m : Sd23.Message) (d q rl : Addr) (n k0 : Nat) (H : Hp) (t : Nat) (σ : L2.St) (H' : Hp) : Prop := ∃ (nl : Addr) (pn pr : List Addr) (ns : List (List Nat)) (acc : List Sd23.Bind) (o7 : Option V),
  σ = [some (.ref d), some (.ref q), some (.ref nl), some (.int (n : Int)), some (.ref rl), some (.int ((acc.flatMap Sd23.bindBytes).length : Int)), some (.int (t : Int)), o7, none, none] ∧ Same H H' ∧
  H' nl = some (.lst (rV pn)) ∧ NamesAt H' pn ns ∧ H' rl = some (.lst (rV pr)) ∧ RowsAt (fun c => c ≠ rl) H' pr acc ∧ (∀ n ∈ ns, Sd23.good n = true) ∧ ns.length ≤ 1472 ∧ (∀ x ∈ acc, SmallRow x) ∧ acc.length ≤ 3000 ∧
  told a m = acc ++ Sd23.repeated a (k0 - t) ns ∧ t ≤ k0
section
variable {P : Program} {w : World} {K : PySem.W.Frag} {mg : Str → Option Value} {base : Heap} {CD CE CQ aC aN aR : Addr}
theorem ok_bulk (D : Def1 K mg "bulk_rows" "bulk_rows" sBulk) (B : Blt mg) (c : Cst3 mg) (c2 : Cst2 K mg aR) (TQ : RqT K CQ) (cN : CalX P w K mg base CX0 2 "next_row" (spNext CD CE)) (cR : CalX P w K mg base CX0 3 "row_bytes" spRowBytes) : CalX P w K mg base CX0 4 "bulk_rows" (spBulk CD CE CQ) := by
  refine cal0 D scBulk bBulk (fun vs H Q E h => ?_) fun f cdv A outer s H vs Q E hr h => ?_
  · obtain ⟨f, d, q, a, m, N, rfl, _⟩ := h
    rfl
  · obtain ⟨f', d, q, a, m, N, rfl, hD, ok, hq, om, k⟩ := h
    refine ⟨_, pss_cons (ps_setLc (i := 2) (own := [("row", 8)]) (g := gName 8) (by rfl) scBulk.nd rfl rfl rfl (pi_list (pe_fld (pv 1) rfl)) (blkOk_by (own := [("row", 8)]) (N := nBulk) (sc := defScope sBulk) (by decide +kernel)) (fun _ _ _ _ _ => pg_name (i := 8) scBulk.nd rfl (Or.inl rfl)) (fun _ _ _ _ _ => pts_nil)
          (fun _ _ _ _ _ => pixT (K := K) rfl (pv 8) pe_int (fun _ _ => rfl))) <|
      pss_cons (ps_set (i := 3) scBulk.nd rfl (.inl rfl) (pe_callB (call_min2 rfl) (by rfl) B.min (by decide +kernel) (pa_cons (pe_callB (call_max2 rfl) (by rfl) B.max (by decide +kernel) (pa_cons (pe_fld (pv 1) rfl) (pa_cons pe_int pa_nil))) (pa_cons (plen B (pv 2)) pa_nil)))) <|
      pss_cons (ps_setLc (i := 4) (own := [("name", 9)]) (g := gName 9) (by rfl) scBulk.nd rfl rfl rfl (pi_list (pe_slice sl_list (pv 2) po_none (po_some (pv 3)))) (blkOk_by (own := [("name", 9)]) (N := nBulk) (sc := defScope sBulk) (by decide +kernel)) (fun _ _ _ _ _ => pg_name (i := 9) scBulk.nd rfl (Or.inl rfl)) (fun _ _ _ _ _ => pts_nil)
          (fun _ _ _ _ _ => pcall cN hr (by decide) pass0 (pa_cons (pv 0) (pa_cons (pv 9) pa_nil)))) <|
      pss_cons (ps_set (i := 2) scBulk.nd rfl (.inl rfl) (pe_slice sl_list (pv 2) (po_some (pv 3)) po_none)) <|
      pss_cons (ps_set (i := 5) scBulk.nd rfl (.inl rfl) (pe_callB (cr_sum rfl) (by rfl) B.sum (by decide +kernel) (pa_cons (pe_lc (own := [("row", 8)]) (g := gName 8) (by rfl) scBulk.nd (pi_list (pv 4)) (blkOk_by (own := [("row", 8)]) (N := nBulk) (sc := defScope sBulk) (by decide +kernel)) (fun _ _ _ _ _ => pg_name (i := 8) scBulk.nd rfl (Or.inl rfl)) (fun _ _ _ _ _ => pts_nil)
          (fun _ _ _ _ _ => plenK (K := K) rfl B (pcall cR hr (by decide) pass0 (pa_cons (pv 8) pa_nil)))) pa_nil))) <|
      pss_cons (ps_set (i := 6) scBulk.nd rfl (.inl rfl) (pe_int)) <|
      pss_cons (ps_while PassesOwn.never (PW.pt (pw_and (pt_cmpR op_gt (plen B (pv 2)) pe_int (nomark _)) (pw_and (pt_cmpR op_lt (pv 6) (pe_callB (call_min2 rfl) (by rfl) B.min (by decide +kernel) (pa_cons (pe_fld (pv 1) rfl) (pa_cons (pcon c.mostTimes) pa_nil))) (nomark _)) (pw_and1 (pt_cmpR op_le (pv 5) (pcon c2.most) (nomark _))))))
        (pss_cons (ps_setLc (i := 7) (own := [("name", 9)]) (g := gName 9) (by rfl) scBulk.nd rfl rfl rfl (pi_list (pv 2)) (blkOk_by (own := [("name", 9)]) (N := nBulk) (sc := defScope sBulk) (by decide +kernel)) (fun _ _ _ _ _ => pg_name (i := 9) scBulk.nd rfl (Or.inl rfl)) (fun _ _ _ _ _ => pts_nil)
          (fun _ _ _ _ _ => pcall cN hr (by decide) pass0 (pa_cons (pv 0) (pa_cons (pv 9) pa_nil)))) <|
         pss_cons (ps_expr (pe_bm PySem.F.plainAttrs_list PySem.F.slot_list_extend PySem.F.type_list_extend mt_extend (pv 4) (pa_cons (pv 7) pa_nil))) <|
         pss_cons (ps_aug (i := 5) scBulk.nd rfl (.inl rfl) (pe_callB (cr_sum rfl) (by rfl) B.sum (by decide +kernel) (pa_cons (pe_lc (own := [("row", 8)]) (g := gName 8) (by rfl) scBulk.nd (pi_list (pv 7)) (blkOk_by (own := [("row", 8)]) (N := nBulk) (sc := defScope sBulk) (by decide +kernel)) (fun _ _ _ _ _ => pg_name (i := 8) scBulk.nd rfl (Or.inl rfl)) (fun _ _ _ _ _ => pts_nil)
          (fun _ _ _ _ _ => plenK (K := K) rfl B (pcall cR hr (by decide) pass0 (pa_cons (pv 8) pa_nil)))) pa_nil)) ip_add) <|
         pss_cons (ps_if (pt_val (pe_callB (cr_all rfl) (by rfl) B.all (by decide +kernel) (pa_cons (pe_lc (own := [("row", 8)]) (g := gName 8) (by rfl) scBulk.nd (pi_list (pv 7)) (blkOk_by (own := [("row", 8)]) (N := nBulk) (sc := defScope sBulk) (by decide +kernel)) (fun _ _ _ _ _ => pg_name (i := 8) scBulk.nd rfl (Or.inl rfl)) (fun _ _ _ _ _ => pts_nil)
          (fun _ _ _ _ _ => pe_cmpR op_eq (pixT (K := K) rfl (pv 8) pe_int (fun _ _ => rfl)) (pcon c.noMore) (nomark _))) pa_nil))) (pss_one (ps_ret (pv 4))) pss_nil) <|
         pss_cons (ps_setLc (i := 2) (own := [("row", 8)]) (g := gName 8) (by rfl) scBulk.nd rfl rfl rfl (pi_list (pv 7)) (blkOk_by (own := [("row", 8)]) (N := nBulk) (sc := defScope sBulk) (by decide +kernel)) (fun _ _ _ _ _ => pg_name (i := 8) scBulk.nd rfl (Or.inl rfl)) (fun _ _ _ _ _ => pts_nil)
          (fun _ _ _ _ _ => pixT (K := K) rfl (pv 8) pe_int (fun _ _ => rfl))) <|
         pss_one (ps_aug (i := 6) scBulk.nd rfl (.inl rfl) pe_int ip_add))) <|
      pss_one (ps_ret (pv 4)), ?_⟩
    obtain ⟨dxq, wq, iq, rlq, pq, h1, h2, h3, h4, h5⟩ := id hq
    have few : m.binds.length ≤ 1472 := om.few
    have goods : ∀ n ∈ m.binds.map (·.1), Sd23.good n = true := fun n hn => by
      obtain ⟨x, hx, rfl⟩ := List.mem_map.mp hn
      exact (om.rows x hx).good
    have fsm : ∀ {ns : List (List Nat)}, (∀ n ∈ ns, Sd23.good n = true) → ∀ x ∈ ns.map (Sd23.following a), SmallRow x := fun hg x hx => by
      obtain ⟨n, hn, rfl⟩ := List.mem_map.mp hx
      exact following_small ok (hg n hn)
    obtain ⟨n, hn⟩ : ∃ n, n = min (max m.a 0).toNat m.binds.length := ⟨_, rfl⟩
    obtain ⟨k0, hk0⟩ : ∃ k0, k0 = min (max m.b 0).toNat 1472 := ⟨_, rfl⟩
    -- names = [row[0] for row in request.rows]
    refine ⟨_, rfl, q, CQ, dxq, _, _, rfl, h1, TQ.cl, TQ.rows, rfl, rlq, rfl, ⟨_, SqL.of h4⟩, fun D1 n1 => lc_names (fun _ => rfl) (fun _ => rfl) n1 h4 (by omega) h5 fun H1 pn s1 hn1 N1 => ?_⟩
    -- first
    have lpn : pn.length = m.binds.length := by rw [N1.1, List.length_map]
    refine ⟨_, rfl, q, CQ, dxq, _, _, rfl, s1 _ _ h1, TQ.cl, TQ.a, rfl, _, _, rfl, _, rfl, D1, _, rfl, .inl (SqL.of hn1), _, _, rfl, ?_⟩
    have e1 : (if ((rV pn).length : Int) < (if (0 : Int) > m.a then 0 else m.a) then ((rV pn).length : Int) else (if (0 : Int) > m.a then 0 else m.a)) = (n : Int) := by
      rw [rV_length, lpn, hn]
      split <;> split <;> omega
    rw [e1]
    -- rows = [next_row(device, name) for name in names[:first]]
    refine ⟨_, rfl, _, rfl, _, rfl, D1, _, rfl, SqL.of hn1, fun D2 n2 => ?_⟩
    have s2 : Same H (upd H1 D2 (.lst (cutV (rV pn) none (some (n : Int))))) := s1.trans (Same.new n2)
    have hn2 : (upd H1 D2 (.lst (cutV (rV pn) none (some (n : Int))))) D1 = some (.lst (rV pn)) := (Same.new n2) _ _ hn1
    have hn2' : (upd H1 D2 (.lst (cutV (rV pn) none (some (n : Int))))) D2 = some (.lst (rV (pn.take n))) := by
      rw [upd_same, cut_to, rV_take]
    have N2 : NamesAt (upd H1 D2 (.lst (cutV (rV pn) none (some (n : Int))))) pn (m.binds.map (·.1)) := N1.same (Same.new n2)
    generalize upd H1 D2 (.lst (cutV (rV pn) none (some (n : Int)))) = H2 at s2 hn2 hn2' N2 ⊢
    have N2' : NamesAt H2 (pn.take n) ((m.binds.map (·.1)).take n) := by
      have := N2.sub 0 n
      rw [List.drop_zero, List.drop_zero] at this
      exact this
    have gtake : ∀ x ∈ (m.binds.map (·.1)).take n, Sd23.good x = true := fun x hx => goods x (List.mem_of_mem_take hx)
    refine ⟨D2, rfl, ⟨_, SqL.of hn2'⟩, fun rl n3 => lc_next (F := fun c => c = rl) (fun _ => rfl) (fun _ => rfl) (fun _ => rfl) n3 rfl hn2' (by rw [List.length_take, List.length_map]; omega) N2' gtake ok (fun H' s' hne => hD.other (s2.trans s') (fun c e => by rw [e]; exact s2.free n3) (fun c e => by rw [e]; exact hne))
      fun H3 pr0 s3' hrl R3 => ?_⟩
    have s3 := s2.trans s3'
    have nrl : H rl = none := s2.free n3
    have hn3 := s3' _ _ hn2
    have N3 := N2.same s3'
    have hfirst : ((m.binds.map (·.1)).take n).map (Sd23.following a) = (m.binds.take n).map (fun x => Sd23.following a x.1) := by
      rw [← List.map_take, List.map_map]
      rfl
    have sm0 := fsm gtake
    have len0 : (((m.binds.map (·.1)).take n).map (Sd23.following a)).length ≤ 1472 := by
      rw [List.length_map, List.length_take, List.length_map]
      omega
    rw [hfirst] at R3 sm0 len0
    generalize hacc0 : (m.binds.take n).map (fun x => Sd23.following a x.1) = acc0 at R3 sm0 len0
    clear N2' n3 n2 hn2' N1 hn1 n1
    -- names = names[first:]
    refine ⟨_, rfl, _, rfl, _, rfl, D1, _, rfl, SqL.of hn3, fun D4 n4 => ?_⟩
    have s4' := Same.new (o := HO.lst (cutV (rV pn) (some (n : Int)) none)) n4
    have hn4 : (upd H3 D4 (.lst (cutV (rV pn) (some (n : Int)) none))) D4 = some (.lst (rV (pn.drop n))) := by
      rw [upd_same, cut_from, rV_drop]
    have s4 := s3.trans s4'
    have N4 : NamesAt (upd H3 D4 (.lst (cutV (rV pn) (some (n : Int)) none))) (pn.drop n) ((m.binds.map (·.1)).drop n) := by
      have := (N3.same s4').sub n pn.length
      rw [List.take_of_length_le (by rw [List.length_drop]; omega), List.take_of_length_le (by rw [List.length_drop, List.length_map]; omega)] at this
      exact this
    have hrl4 := s4' _ _ hrl
    have R4 := R3.same s4'
    generalize upd H3 D4 (.lst (cutV (rV pn) (some (n : Int)) none)) = H4 at s4 hn4 N4 hrl4 R4 ⊢
    -- size
    refine ⟨_, rfl, rl, rfl, ⟨_, SqL.of hrl4⟩, fun D5 n5 => lc_sizes (fun _ => rfl) (fun _ => rfl) n5 hrl4 (by omega) R4 sm0 fun H5 s5' hD5 => ⟨D5, _, rfl, SqL.of hD5, ?_⟩⟩
    rw [sum_flat]
    -- the loop
    have hI0 : BulkI a m d q rl n k0 H 0 [some (.ref d), some (.ref q), some (.ref D4), some (.int (n : Int)), some (.ref rl), some (.int ((acc0.flatMap Sd23.bindBytes).length : Int)), some (.int ((0 : Nat) : Int)), none, none, none] H5 := by
      refine ⟨D4, pn.drop n, pr0, (m.binds.map (·.1)).drop n, acc0, none, rfl, s4.trans s5', s5' _ _ hn4, N4.same s5', s5' _ _ hrl4, R4.same s5', fun x hx => goods x (List.mem_of_mem_drop hx), ?_, sm0, by omega, ?_, Nat.zero_le _⟩
      · rw [List.length_drop, List.length_map]
        omega
      · unfold told
        rw [← hn, ← hk0, hacc0, ← List.map_drop]
        rfl
    refine ⟨fun mm σ H' => ∃ t, mm = k0 - t ∧ BulkI a m d q rl n k0 H t σ H', ⟨k0 - 0, 0, rfl, hI0⟩, ?_⟩
    clear hI0 hacc0 R4 hrl4 N4 hn4 s4 N3 hn3 R3 hrl hn2 N2 s1 s2 s3 lpn
    have fin : ∀ (H' : Hp) (acc rest : List Sd23.Bind) (pr : List Addr), Same H H' → H' rl = some (.lst (rV pr)) → RowsAt (fun c => c ≠ rl) H' pr acc → (∀ x ∈ acc, SmallRow x) → acc.length ≤ 4000 → greedy m [] acc = greedy m [] (told a m) → Q (.ref rl) H' := fun H' acc rest pr t1 t2 t3 t4 t5 t6 =>
      k H' rl pr acc t1 t2 (t3.imp fun c _ _ => trivial) t4 t5 t6
    rintro mm σ H' ⟨t, rfl, nl, pn, pr, ns, acc, o7, rfl, sW, hnl, NW, hrlW, RW, gW, lW, smW, laW, hT, htk⟩
    have e8 : sizeLine = 16777216 := sizeLine_eq
    refine ⟨_, rfl, nl, _, rfl, .inl (SqL.of hnl), _, _, rfl, rfl, _, rfl, ?_⟩
    rw [rV_length, NW.1]
    refine ifB (fun z => ?_) (fun z => ?_)
    case refine_2 =>
      have hns : ns = [] := List.eq_nil_of_length_eq_zero (by have := of_decide_eq_false z; omega)
      refine ifF rfl ⟨_, rfl, fin H' acc [] pr sW hrlW RW smW (by omega) ?_⟩
      rw [hT, hns, repeated_nil, List.append_nil]
    have hns : ns ≠ [] := fun e => by
      have := of_decide_eq_true z
      rw [e] at this
      simp at this
    refine ⟨_, rfl, _, rfl, q, CQ, dxq, _, _, rfl, sW _ _ h1, TQ.cl, TQ.b, rfl, _, _, rfl, _, _, rfl, rfl, _, rfl, ?_⟩
    have e2 : decide ((t : Int) < (if (1472 : Int) < m.b then 1472 else m.b)) = decide (t < k0) := decide_eq_decide.mpr (by
      rw [hk0]
      split <;> omega)
    refine ifB (fun zt => ?_) (fun zt => ?_)
    case refine_2 =>
      rw [e2] at zt
      have htk' : k0 - t = 0 := by have := of_decide_eq_false zt; omega
      refine ifF rfl ⟨_, rfl, fin H' acc [] pr sW hrlW RW smW (by omega) ?_⟩
      rw [hT, htk']
      exact congrArg (greedy m []) (List.append_nil acc).symm
    rw [e2] at zt
    have htk' : t < k0 := of_decide_eq_true zt
    refine ⟨_, rfl, _, _, rfl, rfl, _, rfl, ?_⟩
    refine ifB (fun zs => ?_) (fun zs => ?_)
    case refine_2 =>
      have hsz : 1472 < (acc.flatMap Sd23.bindBytes).length := by have := of_decide_eq_false zs; omega
      refine ⟨_, rfl, fin H' acc [] pr sW hrlW RW smW (by omega) ?_⟩
      rw [hT]
      refine (greedy_prefix m _ acc [] ?_ ?_).symm
      · have := (putT_len m om.word om.id (e := 0) (p := 0) (by decide) (by decide) (([] ++ acc).flatMap Sd23.bindBytes)).2
        rw [write_eq]
        rw [List.nil_append] at this ⊢
        unfold Sd23.MOST
        omega
      · intro e
        rw [e] at hsz
        simp at hsz
    have hsz : (acc.flatMap Sd23.bindBytes).length ≤ 1472 := by have := of_decide_eq_true zs; omega
    have hac := (flat_bind acc smW).2
    obtain ⟨j, hj⟩ : ∃ j, k0 - t = j + 1 := ⟨k0 - t - 1, by omega⟩
    have smN := fsm gW
    have lN : (ns.map (Sd23.following a)).length ≤ 1472 := by rw [List.length_map]; exact lW
    refine ⟨fun σ'' H'' => ∃ t', k0 - t' < k0 - t ∧ BulkI a m d q rl n k0 H t' σ'' H'', fun σ'' H'' ⟨t', h, h'⟩ => ⟨k0 - t', h, t', rfl, h'⟩, ?_⟩
    -- told
    refine ⟨_, rfl, nl, rfl, ⟨_, SqL.of hnl⟩, fun D7 n7 => lc_next (F := fun c => c = rl ∨ c = D7) (fun _ => rfl) (fun _ => rfl) (fun _ => rfl) n7 (.inr rfl) hnl (by omega) NW gW ok (fun Hx sx hne => hD.other (sW.trans sx)
      (fun c e => by
        rcases e with e | e
        · rw [e]; exact nrl
        · rw [e]; exact sW.free n7)
      (fun c e => by
        rcases e with e | e
        · rw [e, sx _ _ hrlW]; exact fun e => by cases e
        · rw [e]; exact hne)) fun H5 pt s5 hD7 R5 => ?_⟩
    have ne7 : D7 ≠ rl := fun e => by
      rw [e, hrlW] at n7
      cases n7
    have hrl5 := s5 _ _ hrlW
    have len5 : (rV pr).length + (rV pt).length ≤ sizeLine := by
      rw [rV_length, rV_length, RW.1, R5.1, e8]
      omega
    refine ⟨_, rfl, .inl ⟨rfl, _, SqL.of hrl5⟩, _, rfl, rl, D7, _, _, rfl, rfl, hrl5, hD7, len5, ?_⟩
    have s6 : Same H (upd H5 rl (.lst (rV pr ++ rV pt))) := sameUpd (sW.trans s5) nrl
    have hrl6 : (upd H5 rl (.lst (rV pr ++ rV pt))) rl = some (.lst (rV (pr ++ pt))) := by rw [upd_same, rV_append]
    have hD76 : (upd H5 rl (.lst (rV pr ++ rV pt))) D7 = some (.lst (rV pt)) := by rw [upd_ne ne7]; exact hD7
    have R6a : RowsAt (fun c => c ≠ rl) (upd H5 rl (.lst (rV pr ++ rV pt))) pr acc := (RW.same s5).wr hrl5 fun c h => h
    have R6b : RowsAt (fun c => c ≠ rl) (upd H5 rl (.lst (rV pr ++ rV pt))) pt (ns.map (Sd23.following a)) := (R5.wr hrl5 fun c h e => h (.inl e)).imp fun c _ h e => h (.inl e)
    show tSeq _ _ _ _ (upd H5 rl (.lst (rV pr ++ rV pt)))
    generalize upd H5 rl (.lst (rV pr ++ rV pt)) = H6 at s6 hrl6 hD76 R6a R6b ⊢
    -- size += ..
    refine ⟨_, rfl, _, rfl, D7, rfl, ⟨_, SqL.of hD76⟩, fun D8 n8 => lc_sizes (fun _ => rfl) (fun _ => rfl) n8 hD76 (by omega) R6b smN fun H7 s7 hD8 => ⟨D8, _, rfl, SqL.of hD8, _, _, rfl, rfl, ?_⟩⟩
    rw [sum_flat]
    have s7' := s6.trans s7
    have R7 := (R6a.app R6b).same s7
    have hrl7 := s7 _ _ hrl6
    have hD77 := s7 _ _ hD76
    have sm7 : ∀ x ∈ acc ++ ns.map (Sd23.following a), SmallRow x := fun x hx => by
      rcases List.mem_append.mp hx with h | h
      · exact smW x h
      · exact smN x h
    have la7 : (acc ++ ns.map (Sd23.following a)).length ≤ 3000 := by
      rw [List.length_append]
      omega
    -- all(..)
    refine ⟨_, rfl, D7, rfl, ⟨_, SqL.of hD77⟩, fun D9 n9 => lc_ends (fun _ => rfl) (fun _ => rfl) n9 hD77 (by omega) (R6b.same s7) fun H8 s8 hD9 => ⟨D9, _, rfl, SqL.of hD9, _, rfl, ?_⟩⟩
    have hall : ((ns.map (Sd23.following a)).map fun x => x.2.mark == 0x82).all id = (ns.map (Sd23.following a)).all (fun x => x.2.mark == 0x82) := by rw [List.all_map]; rfl
    rw [hall]
    have s8' := s7'.trans s8
    have hD78 := s8 _ _ hD77
    have R8 := R7.same s8
    have hrl8 := s8 _ _ hrl7
    refine ifB (fun za => ?_) (fun za => ?_)
    · refine ⟨_, rfl, fin H8 _ [] (pr ++ pt) s8' hrl8 R8 sm7 (by omega) ?_⟩
      rw [hT, hj, repeated_end hns za]
    -- names = ..
    refine ⟨_, rfl, D7, rfl, ⟨_, SqL.of hD78⟩, fun D10 n10 => lc_names (fun _ => rfl) (fun _ => rfl) n10 hD78 (by omega) ((R6b.same s7).same s8) fun H9 pn' s9 hD10 N9 => ?_⟩
    refine ⟨_, rfl, _, _, rfl, rfl, t + 1, by omega, D10, pn', pr ++ pt, (ns.map (Sd23.following a)).map (·.1), acc ++ ns.map (Sd23.following a), some (.ref D7), ?_, s8'.trans s9, hD10, N9, s9 _ _ hrl8, R8.same s9, fun x hx => ?_, ?_, sm7, la7, ?_, by omega⟩
    · have e3 : ((acc.flatMap Sd23.bindBytes).length : Int) + (((ns.map (Sd23.following a)).flatMap Sd23.bindBytes).length : Int) = (((acc ++ ns.map (Sd23.following a)).flatMap Sd23.bindBytes).length : Int) := by
        rw [List.flatMap_append, List.length_append]
        omega
      rw [← e3]
      rfl
    · obtain ⟨y, hy, rfl⟩ := List.mem_map.mp hx
      exact (smN y hy).good
    · rw [List.length_map]
      exact lN
    · rw [hT, hj, repeated_on hns za, show k0 - (t + 1) = j by omega, List.append_assoc]
end
end Ad

/-! ## D19 -/
set_option Elab.async false
set_option linter.all false
set_option maxRecDepth 100000
set_option maxHeartbeats 1000000
namespace Ad
open PySem PySem.Spec PyProof.Rows L2
/-! ### what a change of the device leaves -/
def Oth : HO → Prop
  | .lst _ => True
  | .tup _ => True
  | .frz _ _ => True
  | .ins _ _ fs => fs.length ≤ 2 ∨ fs.length = 6
  | _ => False
structure Out (H H' : Hp) : Prop where
  keep : ∀ b o, H b = some o → Oth o → H' b = some o
  free : ∀ b, H' b = none → H b = none
theorem Out.same {H H' : Hp} (s : Same H H') : Out H H' := ⟨fun b o e _ => s b o e, fun b e => s.free e⟩
theorem Out.trans {H H1 H2 : Hp} (x : Out H H1) (y : Out H1 H2) : Out H H2 := ⟨fun b o e t => y.keep b o (x.keep b o e t) t, fun b e => x.free b (y.free b e)⟩
theorem Out.upd {H : Hp} {b : Addr} {o o' : HO} (h : H b = some o) (n : ¬ Oth o) : Out H (upd H b o') := by
  refine ⟨fun c u e t => ?_, fun c e => ?_⟩
  · by_cases q : c = b
    · rw [q, h] at e
      cases e
      exact absurd t n
    · rw [upd_ne q]
      exact e
  · by_cases q : c = b
    · rw [q, upd_same] at e
      cases e
    · rw [upd_ne q] at e
      exact e
theorem RowAt.out {N : Addr → Prop} {H H' : Hp} {p : Addr} {x : Sd23.Bind} (r : RowAt N H p x) (s : Out H H') : RowAt N H' p x := by
  obtain ⟨nm, ct, h1, h2, h3, h4⟩ := r
  exact ⟨nm, ct, s.keep _ _ h1 trivial, s.keep _ _ h2 trivial, s.keep _ _ h3 trivial, h4⟩
theorem RowsAt.out {N : Addr → Prop} {H H' : Hp} {ps : List Addr} {bs : List Sd23.Bind} (r : RowsAt N H ps bs) (s : Out H H') : RowsAt N H' ps bs := ⟨r.1, fun i x h => let ⟨p, h1, h2⟩ := r.2 i x h; ⟨p, h1, h2.out s⟩⟩
theorem ReqAt.out {N : Addr → Prop} {C : Addr} {H H' : Hp} {q : Addr} {m : Sd23.Message} (r : ReqAt N C H q m) (s : Out H H') : ReqAt N C H' q m := by
  obtain ⟨dx, w, i, rl, ps, h1, h2, h3, h4, h5⟩ := r
  exact ⟨dx, w, i, rl, ps, s.keep _ _ h1 (.inr rfl), s.keep _ _ h2 trivial, s.keep _ _ h3 trivial, s.keep _ _ h4 trivial, h5.out s⟩
/-- an entry gets a value of its kind -/
theorem DevAt.set {f : Addr → Prop} {CD CE : Addr} {H : Hp} {d : Addr} {a : Sd23.Abs} {dx rd wr en nm : Addr} {kvs : List (List L2.Key × V)} {ps : List Addr} (hd : H d = some (.ins CD dx (vF rd wr en nm))) (h : DevF f CE H a rd wr en nm kvs ps)
    {n : List Nat} {v : Sd23.Value} {e : Sd23.Entry} (hf : a.find n = some e) (hm : e.value.mark = v.mark) {b c dxe : Addr} (hv : valV kvs (nK n) = some (.ref b)) {ct : Addr} (hb : H b = some (.ins CE dxe (eF (e.value.mark : Int) ct e.write e.lo e.hi)))
    (hc : H c = some (.lst (nV v.body))) (nc : ¬ f c) (ok : OkAbs a) : DevAt f CD CE (upd H b (.ins CE dxe (eF (e.value.mark : Int) c e.write e.lo e.hi))) d (a.put n v) := by
  have db : d ≠ b := ne_of hd hb (by intro z; cases z)
  have lst : ∀ {q : Addr} {xs : List V}, H q = some (.lst xs) → (upd H b (.ins CE dxe (eF (e.value.mark : Int) c e.write e.lo e.hi))) q = some (.lst xs) := fun {q xs} hq => by
    rw [upd_ne (ne_of hq hb (by intro z; cases z))]
    exact hq
  obtain ⟨hme, hne⟩ := find_some hf
  refine ⟨dx, rd, wr, en, nm, kvs, ps, by rw [upd_ne db]; exact hd, lst h.hrd, lst h.hwr, ?_, lst h.hnm, h.nf, fun q hq hz => ?_, by rw [put_len]; exact h.len, fun i e' he' => ?_, fun k hk => ?_, h.inj, by rw [put_len]; exact h.few, h.nd⟩
  · rw [upd_ne (ne_of h.hen hb (by intro z; cases z))]
    exact h.hen
  · exact h.hf q hq (upd_free hz).1
  · rw [put_get] at he'
    cases hx : a.entries[i]? with
    | none =>
      rw [hx] at he'
      cases he'
    | some x =>
      rw [hx] at he'
      have ex : setV n v x = e' := Option.some.inj he'
      obtain ⟨p, b', g1, g2, g3, dxx, ctx, g4, g5, g6⟩ := h.at_ i x hx
      have gp : (upd H b (.ins CE dxe (eF (e.value.mark : Int) c e.write e.lo e.hi))) p = some (.tup (nV x.name)) := by
        rw [upd_ne (ne_of g2 hb (by intro z; cases z))]
        exact g2
      have hxn : e'.name = x.name := by rw [← ex, setV_name]
      refine ⟨p, b', g1, by rw [hxn]; exact gp, by rw [hxn]; exact g3, ?_⟩
      by_cases q : x.name = n
      · have exe : x = e := by
          have := ok.find (List.mem_of_getElem? hx)
          rw [q, hf] at this
          exact (Option.some.inj this).symm
        rw [q, hv] at g3
        cases g3
        have ee : e' = { e with value := v } := by
          rw [← ex, exe]
          exact if_pos hne
        rw [ee]
        refine ⟨dxe, c, ?_, lst hc, nc⟩
        rw [upd_same, hm]
      · have ee : e' = x := by
          rw [← ex]
          exact if_neg q
        have nb : b' ≠ b := fun z => by
          rw [z] at g3
          exact q (h.inj _ _ _ g3 hv)
        rw [ee]
        exact ⟨dxx, ctx, by rw [upd_ne nb]; exact g4, lst g5, g6⟩
  · refine h.non k ?_
    rw [find_put] at hk
    cases hz : a.find k with
    | none => rfl
    | some y =>
      rw [hz] at hk
      cases hk
/-! ### for i, x in enumerate(list) -/
theorem for_enum {K : PySem.W.Frag} {a : Addr} {xs : List V} {g : TG} {tb : TS} {D : Ends} {σ : L2.St} {H : Hp} (Pv : Nat → L2.St → Hp → Prop) (h0 : Pv 0 σ H) (hl : ∀ i σ H, i ≤ xs.length → Pv i σ H → SqL K H a xs)
    (hs : ∀ i x σ H T, xs[i]? = some x → Pv i σ H → H T = none → g (.ref T) σ (upd H T (.tup [.int (i : Nat), x])) fun σ2 H2 => tb { D with nx := Pv (i + 1), ct := Pv (i + 1), bk := D.nx } σ2 H2) (hd : ∀ σ H, Pv xs.length σ H → D.nx σ H) :
    ∃ W : Nat → Nat → L2.St → Hp → Prop, (∃ m, W 0 m σ H) ∧ ∀ i m σ H, W i m σ H →
      ((Ite K a).stop i H ∧ D.nx σ H) ∨ ((Ite K a).go i H ∧ ∃ N : L2.St → Hp → Prop, (∀ σ' H', N σ' H' → ∃ m', m' < m ∧ W (i + 1) m' σ' H') ∧ ∀ x H', (Ite K a).yld i H x H' → g x σ H' fun σ2 H2 => tb { D with nx := N, ct := N, bk := D.nx } σ2 H2) := by
  refine ⟨fun i m σ H => m = xs.length - i ∧ i ≤ xs.length ∧ Pv i σ H, ⟨xs.length, by simp, Nat.zero_le _, h0⟩, ?_⟩
  rintro i m σ H ⟨rfl, hi, p⟩
  have q := hl i σ H hi p
  by_cases hlt : i < xs.length
  · refine .inr ⟨⟨xs, xs[i], q, by simp [hlt]⟩, Pv (i + 1), fun σ' H' p' => ⟨xs.length - (i + 1), by omega, rfl, hlt, p'⟩, fun x H' y => ?_⟩
    obtain ⟨T, y0, rfl, hT, rfl, y⟩ := y
    exact hs i y0 σ H T (y xs q) p hT
  · have e : i = xs.length := by omega
    subst e
    exact .inl ⟨⟨xs, q, Nat.le_refl _⟩, hd σ H p⟩
theorem wrong_le (a : Sd23.Abs) (x : Sd23.Bind) : Sd23.wrong a x < 1000 := by
  unfold Sd23.wrong
  split
  · decide
  · split
    · decide
    · split
      · decide
      · split
        · decide
        · split <;> decide
/-! ### set_answer -/
abbrev sSet : Stmt := top 69
abbrev nSet : List Str := ["device", "request", "place", "row", "error", "name", "kind", "content", "entry"]
theorem scSet : FnScope nSet ["device", "request"] (defScope sSet) := ⟨rfl, rfl, rfl, by decide +kernel, rfl, by decide +kernel, by decide +kernel⟩
theorem bSet : BindsBy "set_answer" "set_answer" sSet ["device", "request"] := fun _ _ _ _ _ _ us hl => match us, hl with | [_, _], _ => rfl
def spSet (CD CE CQ : Addr) : Sp := fun vs H Q _ => ∃ (f : Addr → Prop) (d q : Addr) (a a' : Sd23.Abs) (m : Sd23.Message) (ans : List Nat), vs = [.ref d, .ref q] ∧ DevAt f CD CE H d a ∧ OkAbs a ∧ ReqAt (fun c => ¬ f c) CQ H q m ∧ OkMsg m ∧ (m.word = a.reads ∨ m.word = a.writes) ∧ setK m ∧
  Sd23.handle a m = (a', some ans) ∧ ∀ H' z, Out H H' → H z = none → H' z = some (.lst (nV ans)) → DevAt f CD CE H' d a' → OkAbs a' → Q (.ref z) H'
section
variable {P : Program} {w : World} {K : PySem.W.Frag} {mg : Str → Option Value} {base : Heap} {CD CE CQ aC aN aR : Addr}
theorem ok_set (D : Def1 K mg "set_answer" "set_answer" sSet) (B : Blt mg) (c : Cst3 mg) (TQ : RqT K CQ) (TD : DvT K CD) (TE : EnT K CE) (cA : CalX P w K mg base CX0 5 "answer_bytes" (spAnsB K CQ)) (cF : CalX P w K mg base CX0 5 "fits" (spFits K CQ)) (cE : CalX P w K mg base CX0 2 "row_error" (spErr CD CE)) :
    CalX P w K mg base CX0 6 "set_answer" (spSet CD CE CQ) := by
  refine cal0 D scSet bSet (fun vs H Q E h => ?_) fun f cdv A outer s H vs Q E hr h => ?_
  · obtain ⟨f, d, q, a, a', m, ans, rfl, _⟩ := h
    rfl
  · obtain ⟨f', d, q, a, a', m, ans, rfl, hD, ok, hq, om, hw, hk, hh, k⟩ := h
    have hu := hu_of hr
    refine ⟨_, pss_cons (ps_if (pt_cmpR (r := rEqN K) (op_eqN hr.units) (pe_fld (pv 1) rfl) (pe_fld (pv 0) rfl) (nomark _)) (pss_one (ps_ret (pcall cA hr (by decide) pass0 (pa_cons (pv 1) (pa_cons (pe_ifExp (pt_truth (pe_fld (pv 1) rfl) (fun _ => rfl)) (pcon c.notAllowed) pe_int)
          (pa_cons (pe_ifExp (pt_truth (pe_fld (pv 1) rfl) (fun _ => rfl)) pe_int pe_int) (pa_cons (pe_fld (pv 1) rfl) pa_nil))))))) pss_nil) <|
      pss_cons (ps_for PassesOwn.never rfl (pi_enum (by rfl) B.enumerate (pa_cons (pe_fld (pv 1) rfl) pa_nil)) (pg_tup rfl (pgs_cons (pg_name (i := 2) scSet.nd rfl (.inl rfl)) (pgs_cons (pg_name (i := 3) scSet.nd rfl (.inl rfl)) pgs_nil)))
        (pss_cons (ps_set (i := 4) scSet.nd rfl (.inl rfl) (pcall cE hr (by decide) pass0 (pa_cons (pv 0) (pa_cons (pv 3) pa_nil)))) <|
         pss_one (ps_if (pt_cmpR op_ne (pv 4) pe_int (nomark _)) (pss_one (ps_ret (pcall cA hr (by decide) pass0 (pa_cons (pv 1) (pa_cons (pv 4) (pa_cons (pe_op op_add (pv 2) pe_int) (pa_cons (pe_fld (pv 1) rfl) pa_nil))))))) pss_nil))) <|
      pss_cons (ps_if (pt_val (pcall cF hr (by decide) pass0 (pa_cons (pv 1) (pa_cons (pe_fld (pv 1) rfl) pa_nil))))
        (pss_one (ps_for PassesOwn.never rfl (pi_list (pe_fld (pv 1) rfl)) (pg_tup rfl (pgs_cons (pg_name (i := 5) scSet.nd rfl (.inl rfl)) (pgs_cons (pg_name (i := 6) scSet.nd rfl (.inl rfl)) (pgs_cons (pg_name (i := 7) scSet.nd rfl (.inl rfl)) pgs_nil))))
          (pss_cons (ps_set (i := 8) scSet.nd rfl (.inl rfl) (pe_dget hu (pe_fld (pv 0) rfl) (pv 5) (fun _ _ => rfl))) <|
           pss_one (ps_fld (pv 8) (pv 7) rfl)))) pss_nil) <|
      pss_one (ps_ret (pcall cA hr (by decide) pass0 (pa_cons (pv 1) (pa_cons pe_int (pa_cons pe_int (pa_cons (pe_fld (pv 1) rfl) pa_nil)))))), ?_⟩
    obtain ⟨dx, rd, wr, en, nm, kvs, ps, hd, VV⟩ := id hD
    obtain ⟨dxq, wq, iq, rl, pq, h1, h2, h3, h4, h5⟩ := id hq
    have sm : ∀ x ∈ m.binds, SmallRow x := fun x hx => (om.rows x hx).toSmall
    have few := om.few
    refine ⟨_, rfl, q, CQ, dxq, _, _, rfl, h1, TQ.cl, TQ.word, rfl, _, rfl, d, CD, dx, _, _, rfl, hd, TD.cl, TD.reads, rfl, wq, rd, m.word, a.reads, rfl, rfl, .inl ⟨SqL.of h2, SqL.of VV.hrd⟩, _, rfl, ?_⟩
    refine ifB (fun z => ?_) (fun z => ?_)
    · have hr' : m.word = a.reads := of_decide_eq_true z
      rw [handle_reads om hr' ok hk] at hh
      obtain ⟨rfl, rfl⟩ : a = a' ∧ Sd23.sized m m.binds (if m.binds = [] then 0 else 6) (if m.binds = [] then 0 else 1) = ans := ⟨(Prod.mk.inj hh).1, Option.some.inj (Prod.mk.inj hh).2⟩
      by_cases hb : m.binds = []
      · have hpq : pq = [] := List.eq_nil_of_length_eq_zero (by rw [h5.1, hb]; rfl)
        subst hpq
        refine ⟨_, rfl, _, rfl, q, CQ, dxq, _, _, rfl, h1, TQ.cl, TQ.rows, rfl, false, .inl ⟨[], SqL.of h4, rfl⟩, ifF rfl ?_⟩
        refine ⟨_, rfl, q, CQ, dxq, _, _, rfl, h1, TQ.cl, TQ.rows, rfl, false, .inl ⟨[], SqL.of h4, rfl⟩, ifF rfl ?_⟩
        refine ⟨_, rfl, q, CQ, dxq, _, _, rfl, h1, TQ.cl, TQ.rows, rfl, q, rl, 0, 0, m, [], m.binds, _, _, rfl, hq, om, SqL.of h4, h5, sm, by omega, by decide, by decide, fun H' z' s1 nz hz => ?_⟩
        rw [if_pos hb, if_pos hb] at k
        exact k H' z' (Out.same s1) nz hz (hD.same s1) ok
      · have hpq : (!(rV pq).isEmpty) = true := by
          cases pq with
          | nil => exact absurd (List.eq_nil_of_length_eq_zero h5.1.symm) hb
          | cons _ _ => rfl
        refine ⟨_, rfl, _, rfl, q, CQ, dxq, _, _, rfl, h1, TQ.cl, TQ.rows, rfl, true, .inl ⟨_, SqL.of h4, hpq.symm⟩, ifT rfl ?_⟩
        refine ⟨_, rfl, q, CQ, dxq, _, _, rfl, h1, TQ.cl, TQ.rows, rfl, true, .inl ⟨_, SqL.of h4, hpq.symm⟩, ifT rfl ?_⟩
        refine ⟨_, rfl, q, CQ, dxq, _, _, rfl, h1, TQ.cl, TQ.rows, rfl, q, rl, 6, 1, m, pq, m.binds, _, _, rfl, hq, om, SqL.of h4, h5, sm, by omega, by decide, by decide, fun H' z' s1 nz hz => ?_⟩
        rw [if_neg hb, if_neg hb] at k
        exact k H' z' (Out.same s1) nz hz (hD.same s1) ok
    have hwr : m.word = a.writes := by
      rcases hw with e | e
      · exact absurd e (of_decide_eq_false z)
      · exact e
    -- the rows one by one
    refine ⟨_, rfl, q, CQ, dxq, _, _, rfl, h1, TQ.cl, TQ.rows, rfl, rl, _, rfl, SqL.of h4, for_enum (K := K) (a := rl) (xs := rV pq) (fun i σ H' => ∃ o2 o3 o4 : Option V, σ = [some (.ref d), some (.ref q), o2, o3, o4, none, none, none, none] ∧ Same H H' ∧ ∀ j y, j < i → m.binds[j]? = some y → Sd23.wrong a y = 0)
      ⟨none, none, none, rfl, Same.refl H, fun j y hj => absurd hj (Nat.not_lt_zero _)⟩ (fun i σ H' _ ⟨_, _, _, _, s1, _⟩ => s1.seq (SqL.of h4)) ?_ ?_⟩
    · rintro i y σ H' T hi ⟨o2, o3, o4, rfl, s1, hz⟩ nT
      obtain ⟨p, hp, rfl⟩ := rV_of hi
      have hib : i < m.binds.length := by
        have := (List.getElem?_eq_some_iff.mp hp).1
        rw [h5.1] at this
        exact this
      obtain ⟨x, hx⟩ : ∃ x, m.binds[i]? = some x := ⟨_, List.getElem?_eq_getElem hib⟩
      obtain ⟨p', hp', hrow⟩ := h5.2 i x hx
      rw [hp] at hp'
      cases hp'
      have s2 : Same H (upd H' T (.tup [.int (i : Nat), .ref p])) := s1.trans (Same.new nT)
      refine ⟨T, _, rfl, SqT.of upd_same, rfl, _, _, rfl, _, _, rfl, rfl, ?_⟩
      generalize upd H' T (.tup [.int (i : Nat), .ref p]) = H2 at s2 ⊢
      refine ⟨_, rfl, _, rfl, f', d, p, a, x, _, rfl, hD.same s2, ok, hrow.same s2, om.rows x (List.mem_of_getElem? hx), fun H3 s3 => ?_⟩
      have s3' := s2.trans s3
      refine ⟨_, rfl, rfl, _, rfl, ?_⟩
      have dw : decide (V.int (Sd23.wrong a x : Int) = V.int 0) = decide (Sd23.wrong a x = 0) := dI (n := 0)
      refine ifB (fun u => ?_) (fun u => ?_)
      · have hne : Sd23.wrong a x ≠ 0 := fun e => by
          have := (show (!decide (V.int (Sd23.wrong a x : Int) = V.int 0)) = true from u)
          rw [dw, decide_eq_true e] at this
          cases this
        rw [handle_bad hwr hk hx hne hz] at hh
        obtain ⟨rfl, rfl⟩ : a = a' ∧ Sd23.sized m m.binds (Sd23.wrong a x) (i + 1) = ans := ⟨(Prod.mk.inj hh).1, Option.some.inj (Prod.mk.inj hh).2⟩
        have := wrong_le a x
        refine ⟨_, rfl, _, rfl, _, rfl, _, _, rfl, rfl, _, rfl, q, CQ, dxq, _, _, rfl, s3' _ _ h1, TQ.cl, TQ.rows, rfl, q, rl, Sd23.wrong a x, i + 1, m, pq, m.binds, _, _, rfl, hq.same s3', om, SqL.of (s3' _ _ h4), h5.same s3', sm, by omega, by omega, by omega, fun H4 z' s4 nz hz => ?_⟩
        exact k H4 z' (Out.same (s3'.trans s4)) (s3'.free nz) hz (hD.same (s3'.trans s4)) ok
      · have heq : Sd23.wrong a x = 0 := by
          have := (show (!decide (V.int (Sd23.wrong a x : Int) = V.int 0)) = false from u)
          rw [dw] at this
          exact of_decide_eq_true (by rw [Bool.not_eq_false'] at this; exact this)
        refine ⟨_, _, _, rfl, s3', fun j y hj hy => ?_⟩
        by_cases e : j = i
        · rw [e, hx] at hy
          cases hy
          exact heq
        · exact hz j y (by omega) hy
    · rintro σ H' ⟨o2, o3, o4, rfl, s1, hz⟩
      rw [rV_length, h5.1] at hz
      have hz' : ∀ (j : Nat) y, m.binds[j]? = some y → Sd23.wrong a y = 0 := fun j y hy => hz j y (List.getElem?_eq_some_iff.mp hy).1 hy
      rw [handle_good hwr hk hz'] at hh
      obtain ⟨ha', rfl⟩ : (if (Sd23.write m 0 0 m.binds).length ≤ 1472 then m.binds.foldl (fun a x => a.put x.1 x.2) a else a) = a' ∧ Sd23.sized m m.binds 0 0 = ans := ⟨(Prod.mk.inj hh).1, Option.some.inj (Prod.mk.inj hh).2⟩
      have fin : ∀ (H2 : Hp) (o2 o3 o4 o5 o6 o7 o8 : Option V), Out H H2 → DevAt f' CD CE H2 d a' → OkAbs a' → tRet (tCall (spAnsB K CQ) [] E0 (tCons (tVar 1) (tCons (tC (.int 0)) (tCons (tC (.int 0)) (tCons (tFld K (tVar 1) "rows") tNil))))) { nx := fun _ H' => Q .non H', rt := Q } [some (.ref d), some (.ref q), o2, o3, o4, o5, o6, o7, o8] H2 := by
        intro H2 o2 o3 o4 o5 o6 o7 o8 s2 D2 ok2
        refine ⟨_, rfl, _, rfl, q, CQ, dxq, _, _, rfl, s2.keep _ _ h1 (.inr rfl), TQ.cl, TQ.rows, rfl, q, rl, 0, 0, m, pq, m.binds, _, _, rfl, hq.out s2, om, SqL.of (s2.keep _ _ h4 trivial), h5.out s2, sm, by omega, by decide, by decide, fun H4 z' s4 nz hz => ?_⟩
        exact k H4 z' (s2.trans (Out.same s4)) (s2.free _ nz) hz (D2.same s4) ok2
      refine ⟨_, rfl, _, rfl, q, CQ, dxq, _, _, rfl, s1 _ _ h1, TQ.cl, TQ.rows, rfl, q, rl, m, pq, m.binds, _, _, rfl, hq.same s1, om, SqL.of (s1 _ _ h4), h5.same s1, sm, by omega, fun H2 s2 => ?_⟩
      have s2' := s1.trans s2
      refine ⟨_, rfl, ?_⟩
      refine ifB (fun u => ?_) (fun u => ?_)
      case refine_2 =>
        rw [if_neg (of_decide_eq_false u)] at ha'
        subst ha'
        exact fin H2 _ _ _ _ _ _ _ (Out.same s2') (hD.same s2') ok
      rw [if_pos (of_decide_eq_true u)] at ha'
      refine ⟨_, rfl, q, CQ, dxq, _, _, rfl, s2' _ _ h1, TQ.cl, TQ.rows, rfl, rl, rfl, ⟨_, SqL.of (s2' _ _ h4)⟩, for_list (K := K) (a := rl) (xs := rV pq) (fun i σ H' => ∃ o5 o6 o7 o8 : Option V, σ = [some (.ref d), some (.ref q), o2, o3, o4, o5, o6, o7, o8] ∧ Out H H' ∧
          DevAt f' CD CE H' d ((m.binds.take i).foldl (fun a x => a.put x.1 x.2) a) ∧ OkAbs ((m.binds.take i).foldl (fun a x => a.put x.1 x.2) a) ∧ Sets ((m.binds.take i).foldl (fun a x => a.put x.1 x.2) a) m.binds)
        ⟨none, none, none, none, rfl, Out.same s2', hD.same s2', ok, fun x hx => ?_⟩ (fun i σ H' _ ⟨_, _, _, _, _, so, _⟩ => SqL.of (so.keep _ _ h4 trivial)) ?_ ?_⟩
      · obtain ⟨j, hj⟩ := List.mem_iff_getElem?.mp hx
        exact wrong_zero (hz' j x hj)
      · rintro i y σ H3 hi ⟨o5, o6, o7, o8, rfl, so, D3, ok3, st3⟩
        obtain ⟨p, hp, rfl⟩ := rV_of hi
        have hib : i < m.binds.length := by
          have := (List.getElem?_eq_some_iff.mp hp).1
          rw [h5.1] at this
          exact this
        obtain ⟨x, hx⟩ : ∃ x, m.binds[i]? = some x := ⟨_, List.getElem?_eq_getElem hib⟩
        have hmx := List.mem_of_getElem? hx
        obtain ⟨p', hp', hrow⟩ := h5.2 i x hx
        rw [hp] at hp'
        cases hp'
        obtain ⟨pn, ct, r1, r2, r3, nct⟩ := hrow.out so
        obtain ⟨e, he, hem⟩ := st3 x hmx
        rw [foldl_more _ _ hx]
        generalize (m.binds.take i).foldl (fun a x => a.put x.1 x.2) a = a3 at D3 ok3 st3 he ⊢
        obtain ⟨dx3, rd3, wr3, en3, nm3, kvs3, ps3, hd3, V3⟩ := id D3
        obtain ⟨hme, hne⟩ := find_some he
        obtain ⟨j, hj⟩ := List.mem_iff_getElem?.mp hme
        obtain ⟨pe, b, g1, g2, g3, dxe, ce, g4, g5, g6⟩ := V3.at_ j e hj
        rw [hne] at g3
        have hkey : H3 pn = some (.tup ((nK x.1).map kV)) := by rw [nK_V]; exact r2
        refine ⟨p, _, rfl, SqT.of r1, rfl, _, _, rfl, _, _, rfl, _, _, rfl, rfl, ?_⟩
        refine ⟨_, rfl, d, CD, dx3, _, _, rfl, hd3, TD.cl, TD.entries, rfl, _, rfl, en3, _, rfl, by rw [← g3]; exact DGet.t V3.hen hkey, ?_⟩
        refine ⟨_, rfl, _, rfl, b, CE, dxe, _, rfl, g4, TE.cl, TE.content, (by show 5 < 1000; decide), ?_⟩
        have hb4 : ¬ Oth (.ins CE dxe (eF (e.value.mark : Int) ce e.write e.lo e.hi)) := by
          rintro (h | h)
          · exact absurd h (by show ¬ 5 ≤ 2; decide)
          · exact absurd h (by show ¬ 5 = 6; decide)
        refine ⟨_, _, _, _, rfl, so.trans (Out.upd g4 hb4), DevAt.set hd3 V3 he hem g3 g4 r3 nct ok3, ok3.put (om.rows x hmx).small ?_, st3.put hmx⟩
        rw [← hem]
        exact (ok3.ent e hme).kind
      · rintro σ H3 ⟨o5, o6, o7, o8, rfl, so, D3, ok3, _⟩
        rw [rV_length, h5.1, List.take_length, ha'] at D3 ok3
        exact fin H3 _ _ _ _ _ _ _ so D3 ok3
end
end Ad

/-! ## D20 -/
set_option Elab.async false
set_option linter.all false
set_option maxRecDepth 100000
set_option maxHeartbeats 1000000
namespace Ad
open PySem PySem.Spec PyProof.Rows L2
/-! ### lengths of answers -/
theorem sized_len {m : Sd23.Message} (om : OkMsg m) (l : List Sd23.Bind) (e p : Nat) : (Sd23.sized m l e p).length ≤ 1472 := by
  unfold Sd23.sized Sd23.MOST
  split
  · rw [write_eq]
    have := (putT_len m om.word om.id (e := 1) (p := 0) (by decide) (by decide) (([] : List Sd23.Bind).flatMap Sd23.bindBytes)).1
    have h0 : (([] : List Sd23.Bind).flatMap Sd23.bindBytes).length = 0 := rfl
    omega
  · omega
theorem greedy_len (m : Sd23.Message) : ∀ (r acc : List Sd23.Bind), (Sd23.write m 0 0 acc).length ≤ 1472 → (Sd23.write m 0 0 (greedy m acc r)).length ≤ 1472
  | [], acc, h => h
  | x :: r, acc, h => by
    unfold greedy
    split
    · rename_i q
      exact greedy_len m r (acc ++ [x]) q
    · exact h
theorem first_of {α : Type} {l : List α} {p : α → Nat} (h : ∃ j : Nat, ∃ y, l[j]? = some y ∧ p y ≠ 0) : ∃ (i : Nat) (x : α), l[i]? = some x ∧ p x ≠ 0 ∧ ∀ j y, j < i → l[j]? = some y → p y = 0 := by
  obtain ⟨n, y, hy, hp⟩ := h
  induction n using Nat.strongRecOn generalizing y with
  | ind n ih =>
    by_cases q : ∀ j z, j < n → l[j]? = some z → p z = 0
    · exact ⟨n, y, hy, hp, q⟩
    · obtain ⟨j, z, hj, hz, hpz⟩ : ∃ j z, j < n ∧ l[j]? = some z ∧ p z ≠ 0 := by
        refine Classical.byContradiction fun nn => q fun j z hj hz => ?_
        exact Classical.byContradiction fun w => nn ⟨j, z, hj, hz, w⟩
      exact ih j hj z hz hpz
/-! ### answer_to -/
abbrev sTo : Stmt := top 70
abbrev nTo : List Str := ["device", "request", "row"]
theorem scTo : FnScope nTo ["device", "request"] (defScope sTo) := ⟨rfl, rfl, rfl, by decide +kernel, rfl, by decide +kernel, by decide +kernel⟩
theorem bTo : BindsBy "answer_to" "answer_to" sTo ["device", "request"] := fun _ _ _ _ _ _ us hl => match us, hl with | [_, _], _ => rfl
def spTo (CD CE CQ : Addr) : Sp := fun vs H Q _ => ∃ (f : Addr → Prop) (d q : Addr) (a a' : Sd23.Abs) (m : Sd23.Message) (o : Option (List Nat)), vs = [.ref d, .ref q] ∧ DevAt f CD CE H d a ∧ OkAbs a ∧ ReqAt (fun c => ¬ f c) CQ H q m ∧ OkMsg m ∧
  Sd23.handle a m = (a', o) ∧ (o = none → ∀ H', Out H H' → DevAt f CD CE H' d a' → OkAbs a' → Q .non H') ∧
  ∀ ans, o = some ans → ans.length ≤ 1472 → ∀ H' z, Out H H' → H z = none → H' z = some (.lst (nV ans)) → DevAt f CD CE H' d a' → OkAbs a' → Q (.ref z) H'
section
variable {K : PySem.W.Frag} {a D : Addr} {ps : List Addr} {vs : List Nat} {σ : L2.St} {H1 : Hp} {Qd : Hp → Prop}
/-- [told(device, row[0]) for row in rows] -/
theorem lc_told {CD CE d : Addr} {N F : Addr → Prop} {ab : Sd23.Abs} {sp : Sp} {g : List Nat → Sd23.Bind} {bs : List Sd23.Bind} {k : Nat} (hw : ∀ x, wipe ((wipe σ vs).set k (some x)) vs = wipe σ vs) (hv : ∀ x, ((wipe σ vs).set k (some x))[k]? = some (some x)) (h0 : ∀ x, ((wipe σ vs).set k (some x))[0]? = some (some (.ref d)))
    (hsp : ∀ (p : Addr) (n : List Nat) (H : Hp) (Q : VK) (E : XK), DevAt F CD CE H d ab → H p = some (.tup (nV n)) → Sd23.good n = true → (∀ H' r, Same H H' → RowAt (fun c => ¬ F c) H' r (g n) → Q (.ref r) H') → sp [.ref d, .ref p] H Q E)
    (hD : H1 D = none) (hF : F D) (hS : H1 a = some (.lst (rV ps))) (hl : bs.length ≤ 100000) (hR : RowsAt N H1 ps bs) (hg : ∀ x ∈ bs, Sd23.good x.1 = true) (dev : ∀ H, Same H1 H → H D ≠ none → DevAt F CD CE H d ab)
    (fin : ∀ H pr, Same H1 H → H D = some (.lst (rV pr)) → RowsAt (fun c => ¬ F c) H pr (bs.map fun x => g x.1) → Qd H) : LcW K a D k (tCall sp [] E0 (tCons (tVar 0) (tCons (tOp (rIxT K) (tVar k) (tC (.int 0))) tNil))) vs σ H1 Qd := by
  refine lc_go hw hD (SqL.of hS) (by rw [hR.1]; exact hl) (fun i y H => ∃ x r, (bs.map fun x => g x.1)[i]? = some x ∧ y = V.ref r ∧ RowAt (fun c => ¬ F c) H r x) (fun i y H H' s ⟨n, nm, h1, h2, h3⟩ => ⟨n, nm, h1, h2, h3.same s⟩)
    (fun i y H xs h ⟨n, nm, h1, h2, h3⟩ zs => ⟨n, nm, h1, h2, h3.wr h fun c hc e => hc (by rw [e]; exact hF)⟩) (fun i p H Q hp s1 hne kk => ?_) (fun H ys s1 h1 hlen hy => ?_)
  · have hib : i < bs.length := by
      have := (List.getElem?_eq_some_iff.mp hp).1
      rw [hR.1] at this
      exact this
    obtain ⟨x, hx⟩ : ∃ x, bs[i]? = some x := ⟨_, List.getElem?_eq_getElem hib⟩
    obtain ⟨p', hp', nm, ct, h1, h2, h3, _⟩ := hR.2 i x hx
    rw [hp] at hp'
    cases hp'
    refine ⟨_, h0 _, _, hv _, p, _, _, _, rfl, rfl, SqT.of (s1 _ _ h1), atz rfl, hsp nm x.1 H _ _ (dev H s1 hne) (s1 _ _ h2) (hg x (List.mem_of_getElem? hx)) fun H' r s2 R => kk _ H' s2 ⟨_, r, ?_, rfl, R⟩⟩
    rw [List.getElem?_map, hx]
    rfl
  · obtain ⟨pn, rfl, hn⟩ := rows_of (bs := bs.map fun x => g x.1) (by rw [hlen, hR.1, List.length_map]) hy
    exact fin H pn s1 h1 hn
end
section
variable {P : Program} {w : World} {K : PySem.W.Frag} {mg : Str → Option Value} {base : Heap} {CD CE CQ aC aN aR : Addr}
/-- neither of the words -/
def tWd (CD CQ : Addr) : TT := fun σ H Q => ∃ (d q dx dxq rd wr en nm wq : Addr) (k : Int) (i : Addr) (x y : Int) (rl : Addr) (r s t : List Nat), σ[0]? = some (some (.ref d)) ∧ σ[1]? = some (some (.ref q)) ∧ H d = some (.ins CD dx (vF rd wr en nm)) ∧ H q = some (.ins CQ dxq (qF wq k i x y rl)) ∧
  H rd = some (.lst (nV r)) ∧ H wr = some (.lst (nV s)) ∧ H wq = some (.lst (nV t)) ∧ Q (!decide (t = r) && !decide (t = s)) H
theorem tWd_of (TD : DvT K CD) (TQ : RqT K CQ) (σ : L2.St) (H : Hp) (Q : Bool → Hp → Prop) (h : tWd CD CQ σ H Q) : tAnd (tTest (tOp (rNeN K) (tFld K (tVar 1) "word") (tFld K (tVar 0) "reads"))) (tTest (tOp (rNeN K) (tFld K (tVar 1) "word") (tFld K (tVar 0) "writes"))) σ H Q := by
  obtain ⟨d, q, dx, dxq, rd, wr, en, nm, wq, k, i, x, y, rl, r, s, t, h0, h1, hd, hq, hr, hs, ht, k'⟩ := h
  refine ⟨_, h1, q, CQ, dxq, _, _, rfl, hq, TQ.cl, TQ.word, rfl, _, h0, d, CD, dx, _, _, rfl, hd, TD.cl, TD.reads, rfl, wq, rd, t, r, rfl, rfl, .inl ⟨SqL.of ht, SqL.of hr⟩, _, rfl, ?_⟩
  refine ifB (fun z => ?_) (fun z => ?_)
  · rw [z, Bool.true_and] at k'
    exact ⟨_, h1, q, CQ, dxq, _, _, rfl, hq, TQ.cl, TQ.word, rfl, _, h0, d, CD, dx, _, _, rfl, hd, TD.cl, TD.writes, rfl, wq, wr, t, s, rfl, rfl, .inl ⟨SqL.of ht, SqL.of hs⟩, _, rfl, k'⟩
  · rw [z, Bool.false_and] at k'
    exact k'
theorem handle_set {a : Sd23.Abs} {m : Sd23.Message} (hw : m.word = a.reads ∨ m.word = a.writes) (ok : OkAbs a) (hk : setK m) (om : OkMsg m) : ∃ ans, (Sd23.handle a m).2 = some ans ∧ ans.length ≤ 1472 := by
  rcases hw with e | e
  · rw [handle_reads om e ok hk]
    exact ⟨_, rfl, sized_len om _ _ _⟩
  · by_cases h : ∀ (j : Nat) y, m.binds[j]? = some y → Sd23.wrong a y = 0
    · rw [handle_good e hk h]
      exact ⟨_, rfl, sized_len om _ _ _⟩
    · have ex : ∃ j : Nat, ∃ y, m.binds[j]? = some y ∧ Sd23.wrong a y ≠ 0 := by
        refine Classical.byContradiction fun n => h fun j y hy => ?_
        exact Classical.byContradiction fun q => n ⟨j, y, hy, q⟩
      obtain ⟨i, x, hx, hn, hj⟩ := first_of ex
      rw [handle_bad e hk hx hn hj]
      exact ⟨_, rfl, sized_len om _ _ _⟩
theorem ok_to (D : Def1 K mg "answer_to" "answer_to" sTo) (c2 : Cst2 K mg aR) (TQ : RqT K CQ) (TD : DvT K CD) (cA : CalX P w K mg base CX0 5 "answer_bytes" (spAnsB K CQ)) (cFA : CalX P w K mg base CX0 4 "fitting_answer" (spFitA K CQ))
    (cG : CalX P w K mg base CX0 1 "got_row" (spGot CD CE)) (cN : CalX P w K mg base CX0 2 "next_row" (spNext CD CE)) (cB : CalX P w K mg base CX0 4 "bulk_rows" (spBulk CD CE CQ)) (cS : CalX P w K mg base CX0 6 "set_answer" (spSet CD CE CQ)) : CalX P w K mg base CX0 7 "answer_to" (spTo CD CE CQ) := by
  refine cal0 D scTo bTo (fun vs H Q E h => ?_) fun f cdv A outer s H vs Q E hr h => ?_
  · obtain ⟨f, d, q, a, a', m, o, rfl, _⟩ := h
    rfl
  · obtain ⟨f', d, q, a, a', m, o, rfl, hD, ok, hq, om, hh, kN, kS⟩ := h
    refine ⟨_, pss_cons (ps_if (PTimp (t' := tWd CD CQ) (PW.pt (pw_and (pt_cmpR (r := rNeN K) (op_neN hr.units) (pe_fld (pv 1) rfl) (pe_fld (pv 0) rfl) (nomark _)) (pw_and1 (pt_cmpR (r := rNeN K) (op_neN hr.units) (pe_fld (pv 1) rfl) (pe_fld (pv 0) rfl) (nomark _))))) (tWd_of TD TQ)) (pss_one (ps_ret pe_non)) pss_nil) <|
      pss_cons (ps_if (pt_cmpR op_eq (pe_fld (pv 1) rfl) (pcon c2.get) (nomark _)) (pss_one (ps_ret (pcall cA hr (by decide) pass0 (pa_cons (pv 1) (pa_cons pe_int (pa_cons pe_int (pa_cons (pe_lc (own := [("row", 2)]) (g := gName 2) (by rfl) scTo.nd (pi_list (pe_fld (pv 1) rfl)) (blkOk_by (own := [("row", 2)]) (N := nTo) (sc := defScope sTo) (by decide +kernel)) (fun _ _ _ _ _ => pg_name (i := 2) scTo.nd rfl (Or.inl rfl)) (fun _ _ _ _ _ => pts_nil)
          (fun _ _ _ _ _ => pcall cG hr (by decide) pass0 (pa_cons (pv 0) (pa_cons (pixT (K := K) rfl (pv 2) pe_int (fun _ _ => rfl)) pa_nil)))) pa_nil))))))) pss_nil) <|
      pss_cons (ps_if (pt_cmpR op_eq (pe_fld (pv 1) rfl) (pcon c2.next) (nomark _)) (pss_one (ps_ret (pcall cA hr (by decide) pass0 (pa_cons (pv 1) (pa_cons pe_int (pa_cons pe_int (pa_cons (pe_lc (own := [("row", 2)]) (g := gName 2) (by rfl) scTo.nd (pi_list (pe_fld (pv 1) rfl)) (blkOk_by (own := [("row", 2)]) (N := nTo) (sc := defScope sTo) (by decide +kernel)) (fun _ _ _ _ _ => pg_name (i := 2) scTo.nd rfl (Or.inl rfl)) (fun _ _ _ _ _ => pts_nil)
          (fun _ _ _ _ _ => pcall cN hr (by decide) pass0 (pa_cons (pv 0) (pa_cons (pixT (K := K) rfl (pv 2) pe_int (fun _ _ => rfl)) pa_nil)))) pa_nil))))))) pss_nil) <|
      pss_cons (ps_if (pt_cmpR op_eq (pe_fld (pv 1) rfl) (pcon c2.bulk) (nomark _)) (pss_one (ps_ret (pcall cFA hr (by decide) pass0 (pa_cons (pv 1) (pa_cons (pcall cB hr (by decide) pass0 (pa_cons (pv 0) (pa_cons (pv 1) pa_nil))) pa_nil))))) pss_nil) <|
      pss_one (ps_ret (pcall cS hr (by decide) pass0 (pa_cons (pv 0) (pa_cons (pv 1) pa_nil)))), ?_⟩
    obtain ⟨dx, rd, wr, en, nm, kvs, ps, hd, VV⟩ := id hD
    obtain ⟨dxq, wq, iq, rl, pq, h1, h2, h3, h4, h5⟩ := id hq
    have goods : ∀ x ∈ m.binds, Sd23.good x.1 = true := fun x hx => (om.rows x hx).good
    have few := om.few
    have nb : ∀ {l k : List Nat}, (!decide (l = k)) = true → l ≠ k := fun {l k} h e => by
      rw [decide_eq_true e] at h
      cases h
    have nb' : ∀ {l k : List Nat}, (!decide (l = k)) = false → l = k := fun {l k} h => by
      rw [Bool.not_eq_false'] at h
      exact of_decide_eq_true h
    refine ⟨d, q, dx, dxq, rd, wr, en, nm, wq, _, _, _, _, _, a.reads, a.writes, m.word, rfl, rfl, hd, h1, VV.hrd, VV.hwr, h2, ?_⟩
    refine ifB (fun z => ?_) (fun z => ?_)
    · have zw : m.word ≠ a.reads ∧ m.word ≠ a.writes := by
        rw [Bool.and_eq_true] at z
        exact ⟨nb z.1, nb z.2⟩
      have e : Sd23.handle a m = (a, none) := by
        unfold Sd23.handle
        rw [if_pos zw]
      rw [e] at hh
      obtain ⟨rfl, rfl⟩ : a = a' ∧ none = o := ⟨(Prod.mk.inj hh).1, (Prod.mk.inj hh).2⟩
      exact kN rfl H (Out.same (Same.refl H)) hD ok
    have hwd : m.word = a.reads ∨ m.word = a.writes := by
      rw [Bool.and_eq_false_iff] at z
      rcases z with z | z
      · exact .inl (nb' z)
      · exact .inr (nb' z)
    have hw0 : ¬ (m.word ≠ a.reads ∧ m.word ≠ a.writes) := fun h => by
      rcases hwd with e | e
      · exact h.1 e
      · exact h.2 e
    -- get
    have d1 : decide (V.int (m.kind : Int) = V.int 160) = decide (m.kind = 0xA0) := dI (n := 160)
    have d2 : decide (V.int (m.kind : Int) = V.int 161) = decide (m.kind = 0xA1) := dI (n := 161)
    have d3 : decide (V.int (m.kind : Int) = V.int 165) = decide (m.kind = 0xA5) := dI (n := 165)
    refine ⟨_, rfl, q, CQ, dxq, _, _, rfl, h1, TQ.cl, TQ.which, rfl, rfl, _, rfl, ?_⟩
    rw [d1]
    refine ifB (fun z1 => ?_) (fun z1 => ?_)
    · have e : Sd23.handle a m = (a, some (Sd23.sized m (m.binds.map fun x => Sd23.got a x.1))) := by
        unfold Sd23.handle
        rw [if_neg hw0, if_pos (of_decide_eq_true z1)]
      rw [e] at hh
      obtain ⟨rfl, rfl⟩ : a = a' ∧ some (Sd23.sized m (m.binds.map fun x => Sd23.got a x.1)) = o := ⟨(Prod.mk.inj hh).1, (Prod.mk.inj hh).2⟩
      refine ⟨_, rfl, _, rfl, q, CQ, dxq, _, _, rfl, h1, TQ.cl, TQ.rows, rfl, rl, rfl, ⟨_, SqL.of h4⟩, fun D n1 => lc_told (F := fun c => c = D) (fun _ => rfl) (fun _ => rfl) (fun _ => rfl) (fun p n H Q E g1 g2 g3 g4 => ⟨_, d, p, a, n, rfl, g1, ok, g2, g3, g4⟩) n1 rfl h4 (by omega) h5 goods
        (fun H' s' hne => hD.other s' (fun c e => by rw [e]; exact n1) (fun c e => by rw [e]; exact hne)) fun H1 pr s1 hD1 R1 => ?_⟩
      refine ⟨q, D, 0, 0, m, pr, _, _, _, rfl, hq.same s1, om, SqL.of hD1, R1, fun x hx => ?_, by rw [List.length_map]; omega, by decide, by decide, fun H2 z2 s2 nz hz => ?_⟩
      · obtain ⟨y, hy, rfl⟩ := List.mem_map.mp hx
        exact got_small ok (goods y hy)
      · exact kS _ rfl (sized_len om _ _ _) H2 z2 (Out.same (s1.trans s2)) (s1.free nz) hz (hD.same (s1.trans s2)) ok
    -- next
    refine ⟨_, rfl, q, CQ, dxq, _, _, rfl, h1, TQ.cl, TQ.which, rfl, rfl, _, rfl, ?_⟩
    rw [d2]
    refine ifB (fun z2 => ?_) (fun z2 => ?_)
    · have e : Sd23.handle a m = (a, some (Sd23.sized m (m.binds.map fun x => Sd23.following a x.1))) := by
        unfold Sd23.handle
        rw [if_neg hw0, if_neg (of_decide_eq_false z1), if_pos (of_decide_eq_true z2)]
      rw [e] at hh
      obtain ⟨rfl, rfl⟩ : a = a' ∧ some (Sd23.sized m (m.binds.map fun x => Sd23.following a x.1)) = o := ⟨(Prod.mk.inj hh).1, (Prod.mk.inj hh).2⟩
      refine ⟨_, rfl, _, rfl, q, CQ, dxq, _, _, rfl, h1, TQ.cl, TQ.rows, rfl, rl, rfl, ⟨_, SqL.of h4⟩, fun D n1 => lc_told (F := fun c => c = D) (fun _ => rfl) (fun _ => rfl) (fun _ => rfl) (fun p n H Q E g1 g2 g3 g4 => ⟨_, d, p, a, n, rfl, g1, ok, g2, g3, g4⟩) n1 rfl h4 (by omega) h5 goods
        (fun H' s' hne => hD.other s' (fun c e => by rw [e]; exact n1) (fun c e => by rw [e]; exact hne)) fun H1 pr s1 hD1 R1 => ?_⟩
      refine ⟨q, D, 0, 0, m, pr, _, _, _, rfl, hq.same s1, om, SqL.of hD1, R1, fun x hx => ?_, by rw [List.length_map]; omega, by decide, by decide, fun H2 z2 s2 nz hz => ?_⟩
      · obtain ⟨y, hy, rfl⟩ := List.mem_map.mp hx
        exact following_small ok (goods y hy)
      · exact kS _ rfl (sized_len om _ _ _) H2 z2 (Out.same (s1.trans s2)) (s1.free nz) hz (hD.same (s1.trans s2)) ok
    -- bulk
    refine ⟨_, rfl, q, CQ, dxq, _, _, rfl, h1, TQ.cl, TQ.which, rfl, rfl, _, rfl, ?_⟩
    rw [d3]
    refine ifB (fun z3 => ?_) (fun z3 => ?_)
    · have e : Sd23.handle a m = (a, some (Sd23.write m 0 0 (greedy m [] (told a m)))) := by
        unfold Sd23.handle
        rw [if_neg hw0, if_neg (of_decide_eq_false z1), if_neg (of_decide_eq_false z2), if_pos (of_decide_eq_true z3)]
        dsimp only
        rw [fitting_greedy m _ _ (Nat.lt_succ_self _)]
        rfl
      rw [e] at hh
      obtain ⟨rfl, rfl⟩ : a = a' ∧ some (Sd23.write m 0 0 (greedy m [] (told a m))) = o := ⟨(Prod.mk.inj hh).1, (Prod.mk.inj hh).2⟩
      refine ⟨_, rfl, _, rfl, _, rfl, f', d, q, a, m, _, rfl, hD, ok, hq, om, fun H1 r pr bs s1 hr1 R1 sm1 l1 hg => ?_⟩
      refine ⟨q, r, m, pr, bs, _, _, rfl, hq.same s1, om, SqL.of hr1, R1, sm1, l1, fun H2 z2 s2 nz hz => ?_⟩
      rw [hg] at hz
      exact kS _ rfl (greedy_len m _ [] (empty_fits om)) H2 z2 (Out.same (s1.trans s2)) (s1.free nz) hz (hD.same (s1.trans s2)) ok
    have hk : setK m := ⟨of_decide_eq_false z1, of_decide_eq_false z2, of_decide_eq_false z3⟩
    obtain ⟨ans, ho, hl⟩ : ∃ ans, o = some ans ∧ ans.length ≤ 1472 := by
      have e := handle_set hwd ok hk om
      rw [hh] at e
      exact e
    subst ho
    exact ⟨_, rfl, _, rfl, f', d, q, a, a', m, ans, rfl, hD, ok, hq, om, hwd, hk, hh, fun H' z o1 nz hz D1 ok1 => kS ans rfl hl H' z o1 nz hz D1 ok1⟩
end
end Ad

/-! ## D21 -/
set_option Elab.async false
set_option linter.all false
set_option maxRecDepth 100000
set_option maxHeartbeats 1000000
namespace L2
open PySem PySem.Spec PyProof.Rows
/-- a list stays where an instance is written -/
theorem SqL.wr {K : PySem.W.Frag} {H : Hp} {c q C dx : Addr} {xs : List V} {fs : List (Str × V)} {o : HO} (h : SqL K H c xs) (hq : H q = some (.ins C dx fs)) : SqL K (upd H q o) c xs := by
  rcases h with (h | ⟨v, h⟩) | h
  · exact .inl (.inl (by rw [upd_ne (ne_of h hq (by intro z; cases z))]; exact h))
  · exact .inl (.inr ⟨v, by rw [upd_ne (ne_of h hq (by intro z; cases z))]; exact h⟩)
  · exact .inr h
end L2
namespace Ad
open PySem PySem.Spec PyProof.Rows L2
theorem Bt.refl (k : Addr) (H : Hp) : Bt k H H := fun _ _ _ e => e
theorem Bt.trans {k : Addr} {H H1 H2 : Hp} (x : Bt k H H1) (y : Bt k H1 H2) : Bt k H H2 := fun b o h e => y b o h (x b o h e)
/-! ### Desk, Calls -/
structure DkT (K : PySem.W.Frag) (C : Addr) : Prop where
  cl : Cls K C
  device : NoAttr K C "device"
structure ClT (K : PySem.W.Frag) (C : Addr) : Prop where
  cl : Cls K C
  numbers : NoAttr K C "numbers"
  at_ : NoAttr K C "at"
def cF (c : Addr) (k : Int) : List (Str × V) := [("numbers", .ref c), ("at", .int k)]
abbrev sDkI : Stmt := inClass (top 77) 0
theorem scDkI : FnScope ["self"] ["self"] (defScope sDkI) := ⟨rfl, rfl, rfl, by decide +kernel, rfl, by decide +kernel, by decide +kernel⟩
theorem bDkI : BindsBy "__init__" "Desk.__init__" sDkI ["self"] := fun _ _ _ _ _ _ us hl => match us, hl with | [_], _ => rfl
def spDkI (C : Addr) : Sp := fun vs H Q _ => ∃ (q dx : Addr), vs = [.ref q] ∧ H q = some (.ins C dx []) ∧ Q .non (upd H q (.ins C dx [("device", .non)]))
abbrev sClI : Stmt := inClass (top 78) 0
theorem scClI : FnScope ["self", "numbers"] ["self", "numbers"] (defScope sClI) := ⟨rfl, rfl, rfl, by decide +kernel, rfl, by decide +kernel, by decide +kernel⟩
theorem bClI : BindsBy "__init__" "Calls.__init__" sClI ["self", "numbers"] := fun _ _ _ _ _ _ us hl => match us, hl with | [_, _], _ => rfl
def spClI (C : Addr) : Sp := fun vs H Q _ => ∃ (q dx c : Addr), vs = [.ref q, .ref c] ∧ H q = some (.ins C dx []) ∧ ∀ H', Bt q H H' → (∀ b, H' b = none → H b = none) → H' q = some (.ins C dx (cF c 0)) → Q .non H'
abbrev sClN : Stmt := inClass (top 78) 1
theorem scClN : FnScope ["self"] ["self"] (defScope sClN) := ⟨rfl, rfl, rfl, by decide +kernel, rfl, by decide +kernel, by decide +kernel⟩
theorem bClN : BindsBy "next_number" "Calls.next_number" sClN ["self"] := fun _ _ _ _ _ _ us hl => match us, hl with | [_], _ => rfl
def spClN (K : PySem.W.Frag) (C : Addr) : Sp := fun vs H Q _ => ∃ (q dx c : Addr) (l : List Int) (k : Nat) (z : Int), vs = [.ref q] ∧ H q = some (.ins C dx (cF c (k : Int))) ∧ SqL K H c (l.map V.int) ∧ l[k]? = some z ∧ Q (.int z) (upd H q (.ins C dx (cF c ((k + 1 : Nat) : Int))))
abbrev sClR : Stmt := inClass (top 78) 2
theorem scClR : FnScope ["self", "many"] ["self"] (defScope sClR) := ⟨rfl, rfl, rfl, by decide +kernel, rfl, by decide +kernel, by decide +kernel⟩
theorem bClR : BindsBy "next_row" "Calls.next_row" sClR ["self"] := fun _ _ _ _ _ _ us hl => match us, hl with | [_], _ => rfl
def spClR (K : PySem.W.Frag) (C : Addr) : Sp := fun vs H Q _ => ∃ (q dx c : Addr) (l : List Int) (k n : Nat), vs = [.ref q] ∧ H q = some (.ins C dx (cF c (k : Int))) ∧ SqL K H c (l.map V.int) ∧ l[k]? = some (n : Int) ∧ k + 1 + n ≤ l.length ∧
  ∀ p, H p = none → Q (.ref p) (upd (upd H q (.ins C dx (cF c ((k + 1 + n : Nat) : Int)))) p (.lst (((l.drop (k + 1)).take n).map V.int)))
section
variable {P : Program} {w : World} {K : PySem.W.Frag} {mg : Str → Option Value} {base : Heap} {C CD : Addr}
theorem ok_dkI (D : Mak1 K mg "Desk" C "Desk.__init__" sDkI) (T : DkT K C) : MakX P w K mg base 1 "Desk" C (spDkI C) := by
  refine mak0 D scDkI bDkI (fun vs H Q E h => ?_) fun f cdv A outer s H vs Q E hr h => ?_
  · obtain ⟨q, dx, rfl, _⟩ := h
    rfl
  · obtain ⟨q, dx, rfl, h1, k⟩ := h
    refine ⟨_, pss_one (ps_fld (pv 0) pe_non rfl), ?_⟩
    exact ⟨_, rfl, q, C, dx, [], rfl, h1, T.cl, T.device, (by show 0 < 1000; decide), k⟩
theorem ok_clI (D : Mak1 K mg "Calls" C "Calls.__init__" sClI) (T : ClT K C) : MakX P w K mg base 1 "Calls" C (spClI C) := by
  refine mak0 D scClI bClI (fun vs H Q E h => ?_) fun f cdv A outer s H vs Q E hr h => ?_
  · obtain ⟨q, dx, c, rfl, _⟩ := h
    rfl
  · obtain ⟨q, dx, c, rfl, h1, k⟩ := h
    refine ⟨_, pss_cons (ps_fld (pv 0) (pv 1) rfl) (pss_one (ps_fld (pv 0) pe_int rfl)), ?_⟩
    refine ⟨_, rfl, _, rfl, q, C, dx, [], rfl, h1, T.cl, T.numbers, (by show 0 < 1000; decide), ?_⟩
    refine ⟨_, rfl, q, C, dx, _, rfl, upd_same, T.cl, T.at_, (by show 1 < 1000; decide), k _ (fun b o hb e => ?_) (fun b e => ?_) ?_⟩
    · rw [upd_ne hb, upd_ne hb]
      exact e
    · exact (upd_free (upd_free e).1).1
    · rw [upd_same]
      rfl
theorem ok_clN (D : Met1 K C "next_number" "Calls.next_number" sClN) (T : ClT K C) : MetX P w K mg base CX0 1 C "next_number" (spClN K C) := by
  refine met0 D scClN bClN (fun vs H Q E h => ?_) fun f cdv A outer s H vs Q E hr h => ?_
  · obtain ⟨q, dx, c, l, k, z, rfl, _⟩ := h
    rfl
  · obtain ⟨q, dx, c, l, k, z, rfl, h1, h2, h3, kk⟩ := h
    refine ⟨_, pss_cons (ps_fld (pv 0) (pe_op op_add (pe_fld (pv 0) rfl) pe_int) rfl) (pss_one (ps_ret (pe_ix ix_list (pe_fld (pv 0) rfl) (pe_op op_sub (pe_fld (pv 0) rfl) pe_int) (fun _ _ => rfl)))), ?_⟩
    refine ⟨_, rfl, q, C, dx, _, _, rfl, h1, T.cl, T.at_, rfl, _, _, rfl, rfl, _, rfl, q, C, dx, _, rfl, h1, T.cl, T.at_, (by show 2 < 1000; decide), ?_⟩
    have h2' : SqL K (upd H q (.ins C dx (putF "at" (.int ((k : Int) + 1)) (cF c (k : Int))))) c (l.map V.int) := h2.wr h1
    have hz : (l.map V.int)[k]? = some (V.int z) := by
      rw [List.getElem?_map, h3]
      rfl
    exact ⟨_, rfl, q, C, dx, _, _, rfl, upd_same, T.cl, T.numbers, rfl, _, rfl, q, C, dx, _, _, rfl, upd_same, T.cl, T.at_, rfl, _, _, rfl, rfl, c, _, _, _, rfl, rfl, h2', at_of (j := k) (show (k : Int) + 1 - 1 = (k : Int) by omega) hz, kk⟩
theorem ok_clR (D : Met1 K C "next_row" "Calls.next_row" sClR) (T : ClT K C) (cN : MetX P w K mg base CX0 1 C "next_number" (spClN K C)) : MetX P w K mg base CX0 2 C "next_row" (spClR K C) := by
  refine met0 D scClR bClR (fun vs H Q E h => ?_) fun f cdv A outer s H vs Q E hr h => ?_
  · obtain ⟨q, dx, c, l, k, n, rfl, _⟩ := h
    rfl
  · obtain ⟨q, dx, c, l, k, n, rfl, h1, h2, h3, h4, kk⟩ := h
    refine ⟨_, pss_cons (ps_set (i := 1) scClR.nd rfl (.inl rfl) (pmeth0 cN hr (by decide) pass0 (pv 0))) <|
      pss_cons (ps_fld (pv 0) (pe_op op_add (pe_fld (pv 0) rfl) (pv 1)) rfl) <|
      pss_one (ps_ret (pe_slice sl_list (pe_fld (pv 0) rfl) (po_some (pe_op op_sub (pe_fld (pv 0) rfl) (pv 1))) (po_some (pe_fld (pv 0) rfl)))), ?_⟩
    refine ⟨_, rfl, q, dx, _, rfl, h1, rfl, q, dx, c, l, k, (n : Int), rfl, h1, h2, h3, ?_⟩
    refine ⟨_, rfl, q, C, dx, _, _, rfl, upd_same, T.cl, T.at_, rfl, _, rfl, _, _, rfl, rfl, _, rfl, q, C, dx, _, rfl, upd_same, T.cl, T.at_, (by show 2 < 1000; decide), ?_⟩
    have eH : upd (upd H q (.ins C dx (cF c ((k + 1 : Nat) : Int)))) q (.ins C dx (putF "at" (.int (((k + 1 : Nat) : Int) + (n : Int))) (cF c ((k + 1 : Nat) : Int)))) = upd H q (.ins C dx (cF c ((k + 1 + n : Nat) : Int))) := by
      rw [upd_upd]
      rfl
    have h2' : SqL K (upd (upd H q (.ins C dx (cF c ((k + 1 : Nat) : Int)))) q (.ins C dx (putF "at" (.int (((k + 1 : Nat) : Int) + (n : Int))) (cF c ((k + 1 : Nat) : Int))))) c (l.map V.int) := (h2.wr h1).wr upd_same
    refine ⟨_, rfl, q, C, dx, _, _, rfl, upd_same, T.cl, T.numbers, rfl, _, rfl, q, C, dx, _, _, rfl, upd_same, T.cl, T.at_, rfl, _, rfl, _, _, rfl, rfl, _, rfl, _, rfl, q, C, dx, _, _, rfl, upd_same, T.cl, T.at_, rfl, _, rfl, c, _, rfl, h2', fun p hp => ?_⟩
    have ec : cutV (l.map V.int) (some (((k + 1 + n : Nat) : Int) - (n : Int))) (some ((k + 1 + n : Nat) : Int)) = ((l.drop (k + 1)).take n).map V.int := by
      rw [show ((k + 1 + n : Nat) : Int) - (n : Int) = ((k + 1 : Nat) : Int) by omega, cut_nat (by omega) (by rw [List.length_map]; exact h4), show k + 1 + n - (k + 1) = n by omega, List.map_take, List.map_drop]
    have kq := kk p (upd_free (upd_free hp).1).1
    rw [← ec, ← eH] at kq
    exact kq
/-! ### Denied, need -/
abbrev sDnI : Stmt := inClass (top 76) 0
theorem scDnI : FnScope ["self", "number"] ["self", "number"] (defScope sDnI) := ⟨rfl, rfl, rfl, by decide +kernel, rfl, by decide +kernel, by decide +kernel⟩
theorem bDnI : BindsBy "__init__" "Denied.__init__" sDnI ["self", "number"] := fun _ _ _ _ _ _ us hl => match us, hl with | [_, _], _ => rfl
def spDnI (C : Addr) : Sp := fun vs H Q _ => ∃ (a : Addr) (n : Int), vs = [.ref a, .int n] ∧ H a = some (exo a C none) ∧ ∀ dx, H dx = none → dx ≠ a → Q .non (upd (upd H dx (exd dx [("number", .int n)])) a (exo a C (some dx)))
/-- what the written part says of Denied -/
structure DnX (K : PySem.W.Frag) (mg : Str → Option Value) (C : Addr) : Prop where
  den : DenC K C
  noN : PySem.W.findIn K (.ref C) "number" = some none
  init : ∃ f fd, Fun K "__init__" "Denied.__init__" sDnI f fd ∧ PySem.W.findIn K (.ref C) "__init__" = some (some (.ref f)) ∧ PySem.W.typeIn K (.ref f) = some (.type "function")
  gM : mg "Denied" = some (.ref C)
  exM : mg "Exception" = none
  exF : PySem.W.findCls K (.type "Exception") (.type "type") "__init__" = some (.val (.builtin "Exception.__init__"))
abbrev sNeedA : Stmt := top 79
theorem scNeedA : FnScope ["holds", "number"] ["holds", "number"] (defScope sNeedA) := ⟨rfl, rfl, rfl, by decide +kernel, rfl, by decide +kernel, by decide +kernel⟩
theorem bNeedA : BindsBy "need" "need" sNeedA ["holds", "number"] := fun _ _ _ _ _ _ us hl => match us, hl with | [_, _], _ => rfl
/-- the refusal with the number n -/
def Ref (C : Addr) (E : XK) (n : Int) (H : Hp) : Prop := ∀ H' d, Same H H' → H' d = some (.xd [("number", .int n)]) → E (.ref C) (some d) H'
def spNeedA (C : Addr) : Sp := fun vs H Q E => ∃ (b : Bool) (n : Int), vs = [.bl b, .int n] ∧ (b = true → Q .non H) ∧ (b = false → Ref C E n H)
theorem ok_dnI (D : DnX K mg CD) : ∃ f fd ps, FnOk P w K mg base CX0 1 f fd ps (spDnI CD) ∧ PySem.W.findIn K (.ref CD) "__init__" = some (some (.ref f)) ∧ PySem.W.typeIn K (.ref f) = some (.type "function") ∧ Binds K fd ps [] := by
  obtain ⟨f, fd, F, h1, h2⟩ := D.init
  refine ⟨f, fd, ["self", "number"], F.ok scDnI (fun vs H Q E h => ?_) (k := 0) (fun cdv A outer s H vs Q E hr h => ?_), h1, h2, F.binds bDnI⟩
  · obtain ⟨a, n, rfl, _⟩ := h
    rfl
  · obtain ⟨a, n, rfl, ha, k⟩ := h
    refine ⟨_, pss_cons (ps_expr (pe_einit D.exM D.exF (pa_cons (pv 0) (pa_cons (pv 1) pa_nil)))) (pss_one (ps_den (pv 0) (pv 1))), ?_⟩
    exact ⟨_, rfl, _, rfl, a, CD, [.int n], rfl, (by show 1 ≤ 1000; decide), D.den, ha, _, rfl, _, rfl, a, CD, rfl, D.den, D.noN, ha, fun dx h1 h2 => k dx h1 h2⟩
theorem ok_needA (D : Def1 K mg "need_agent" "need" sNeedA) (T : DnX K mg CD) : CalX P w K mg base (L2.CX P w) 3 "need_agent" (spNeedA CD) := by
  refine calX D scNeedA bNeedA (fun vs H Q E h => ?_) fun f cdv A outer s H vs Q E hr h => ?_
  · obtain ⟨b, n, rfl, _⟩ := h
    rfl
  · obtain ⟨b, n, rfl, kT, kF⟩ := h
    obtain ⟨fI, fd, ps, F, iC, tI, hb⟩ := ok_dnI (P := P) (w := w) (base := base) T
    refine ⟨_, pss_one (ps_if (pt_not (pt_val (pv 0))) (pss_one (ps_raise rfl (takes_of rfl rfl rfl rfl) (pmk_den (CX := CX0) T.den iC tI F hr hb T.gM (pa_cons (pv 1) pa_nil)))) pss_nil), ?_⟩
    refine ⟨_, rfl, _, rfl, ?_⟩
    cases b with
    | true => exact ifF rfl (kT rfl)
    | false =>
      refine ifT rfl ⟨_, rfl, (by show 1 ≤ 1000; decide), fun a ha => ⟨a, n, rfl, upd_same, fun dx h1 h2 => ⟨rfl, dx, _, upd_same, by rw [upd_ne h2, upd_same], (upd_free h1).1, ?_⟩⟩⟩
      refine kF rfl _ dx (fun b o e => ?_) upd_same
      have hda := (upd_free h1).1
      rw [upd_ne (ne_of_none e hda), del_ne (ne_of_none e ha), upd_ne (ne_of_none e ha), upd_ne (ne_of_none e hda), upd_ne (ne_of_none e ha)]
      exact e
end
end Ad

/-! ## R1 -/
set_option Elab.async false
set_option linter.all false
set_option maxRecDepth 100000
set_option maxHeartbeats 1000000
namespace Ad
open PySem PySem.Spec PyProof.Rows L2
/-! ### sorted of tuples of numbers, of any lengths -/
theorem swo_before {α : Type} (k : α → List Nat) : SrtO.Swo fun x y => Sd23.before (k x) (k y) := by
  refine ⟨fun x y h => before_asymm h, fun x y z h1 h2 => ?_⟩
  cases q : Sd23.before (k z) (k x) with
  | false => rfl
  | true =>
    cases r : Sd23.before (k x) (k y) with
    | false =>
      have e := before_total r h1
      rw [e] at q
      rw [q] at h2
      cases h2
    | true =>
      have := before_trans q r
      rw [this] at h2
      cases h2
/-- a tuple of numbers in the model's heap -/
def IsNm (h : Heap) (v : Value) (n : List Nat) : Prop := ∃ a o xs m, v = .ref a ∧ h.get? a = some o ∧ o.cls = .type "tuple" ∧ o.data = .seq xs m ∧ Vals (nV n) xs.toList
theorem IsNm.keeps {h h' : Heap} {v : Value} {n : List Nat} (p : IsNm h v n) (k : ∀ b o, h.get? b = some o → o.cls = .type "tuple" → h'.get? b = some o) : IsNm h' v n := by
  obtain ⟨a, o, xs, m, e, ho, hc, hd, r⟩ := p
  exact ⟨a, o, xs, m, e, k _ _ ho hc, hc, hd, r⟩
section
variable {prog : Program} {w : World} {A : Around} {E : Value → Shared → Prop} {s : Shared}
theorem nm_lex {b fin : Bool} {Q : Bool → Shared → Prop} : ∀ (m n : List Nat) (xs ys : List Value) (i : Nat), Vals (nV m) xs → Vals (nV n) ys → fin = decide (xs.length < ys.length) → Q (Sd23.before m n) s → PySem.W.KatLex prog w A b fin Q (xs.zip ys) i s
  | [], n, xs, ys, i, h1, h2, hf, q => by
    cases h1
    cases n with
    | nil =>
      cases h2
      rw [show fin = false from hf]
      exact PySem.W.kat_nil q
    | cons y n =>
      cases h2
      rw [show fin = true by rw [hf]; exact decide_eq_true (Nat.succ_pos _)]
      exact PySem.W.kat_nil q
  | x :: m, [], xs, ys, i, h1, h2, hf, q => by
    cases h2
    cases h1
    rw [show fin = false by rw [hf]; exact decide_eq_false (Nat.not_lt_zero _)]
    exact PySem.W.kat_nil q
  | x :: m, y :: n, xs, ys, i, h1, h2, hf, q => by
    rw [nV_cons] at h1 h2
    cases h1 with
    | cons r1 t1 =>
      cases h2 with
      | cons r2 t2 =>
        rename_i u us v vs
        obtain ⟨a, rfl⟩ : ∃ t, u = Value.int (x : Int) t := r1
        obtain ⟨c, rfl⟩ : ∃ t, v = Value.int (y : Int) t := r2
        have hf' : fin = decide (us.length < vs.length) := by
          rw [hf]
          simp only [List.length_cons, Nat.add_lt_add_iff_right]
        show PySem.W.KatLex prog w A b fin Q ((Value.int (x : Int) a, Value.int (y : Int) c) :: us.zip vs) i s
        refine PySem.W.kat_cons (SeqAt.EqAt.int_int _ a _ c prog w _ _ ?_)
        rw [before_cons] at q
        refine PySem.W.kat_go (fun e => PySem.W.kat_yes ?_) (fun e => PySem.W.kat_no ?_)
        · have hxy : x = y := by
            have : (x : Int) = (y : Int) := by simpa using e
            omega
          subst hxy
          refine nm_lex m n us vs (i + 1) t1 t2 hf' ?_
          simpa using q
        · have hxy : ¬ x = y := fun z => by
            rw [z] at e
            simp at e
          refine oneLt_any_int ?_
          have : (decide (x < y) || x == y && Sd23.before m n) = decide ((x : Int) < (y : Int)) := by
            rw [show (x == y) = false from beq_eq_false_iff_ne.mpr hxy, Bool.false_and, Bool.or_false]
            exact decide_eq_decide.mpr (by omega)
          rw [this] at q
          exact q
theorem nm_firsts {h : Heap} {k : Value → List Nat} : ∀ {vs : List Value}, (∀ v ∈ vs, IsNm h v (k v) ∧ k v ≠ []) → ∃ fs : List Value, PySem.W.KatTups h vs fs ∧ fs.length = vs.length ∧ ∀ f ∈ fs, ∃ x t, f = Value.int x t
  | [], _ => ⟨[], PySem.W.KatTups.nil, rfl, fun _ hm => by simp at hm⟩
  | v :: vs, hp => by
    obtain ⟨fs, h1, h2, h3⟩ := nm_firsts (vs := vs) fun v' hm => hp v' (List.mem_cons_of_mem _ hm)
    obtain ⟨⟨a, o, xs, m, e, ho, hc, hd, r⟩, hne⟩ := hp v (List.mem_cons_self ..)
    obtain ⟨y, ys, hy⟩ := List.exists_cons_of_ne_nil hne
    rw [hy, nV_cons] at r
    generalize hq : xs.toList = l at r
    cases r with
    | cons r1 t1 =>
      rename_i u us
      obtain ⟨t, rfl⟩ : ∃ t, u = Value.int (y : Int) t := r1
      have h0 : xs[0]? = some (Value.int (y : Int) t) := by
        have z := congrArg (fun l : List Value => l[0]?) hq
        simpa using z
      subst e
      refine ⟨.int (y : Int) t :: fs, PySem.W.KatTups.cons ho hc hd h0 h1, by rw [List.length_cons, List.length_cons, h2], fun f hm => ?_⟩
      rcases List.mem_cons.mp hm with rfl | hm
      · exact ⟨_, t, rfl⟩
      · exact h3 f hm
theorem nm_cmp {vs : List Value} {k : Value → List Nat} (hp : ∀ v ∈ vs, IsNm s.heap v (k v)) : SrtO.Cmp prog w A s (tuples' true) (fun p => p.1 ∈ vs) (SrtO.lt2 fun v u => Sd23.before (k v) (k u)) := by
  intro p q hm hm'
  obtain ⟨a, o, xs, n, e, ho, hc, hd, r⟩ := hp _ hm
  obtain ⟨a', o', xs', n', e', ho', hc', hd', r'⟩ := hp _ hm'
  show wpAny (model prog w) A (keyLt' (tuples' true) p.1 q.1) (fun r s' => s' = s ∧ r = Sd23.before (k p.1) (k q.1)) (fun _ _ => False) s
  generalize k p.1 = m1 at r ⊢
  generalize k q.1 = m2 at r' ⊢
  rw [e, e']
  refine PySem.W.kat_lt ho hd ho' hd' (nm_lex _ _ _ _ _ r r' (by rw [Array.length_toList, Array.length_toList]) ⟨rfl, rfl⟩)
theorem nm_sortableO {a : Addr} {vs : List Value} {k : Value → List Nat} (h0 : 0 < vs.length) (hp : ∀ v ∈ vs, IsNm s.heap v (k v) ∧ k v ≠ []) (ha : ∀ o, s.heap.get? a = some o → o.cls ≠ .type "tuple") : SrtO.SortableO prog w A s a vs fun v u => Sd23.before (k v) (k u) := by
  intro h' keep
  have hp' : ∀ v ∈ vs, IsNm h' v (k v) ∧ k v ≠ [] := fun v hm => ⟨(hp v hm).1.keeps fun b o e c => keep b o (fun z => by subst z; exact ha o e c) e, (hp v hm).2⟩
  obtain ⟨fs, h1, h2, h3⟩ := nm_firsts hp'
  refine ⟨tuples' true, fun Q E hq => ?_, nm_cmp fun v hm => (hp' v hm).1⟩
  refine PySem.W.kat_kind (T := .type "int") h1 (by omega) (fun f hm => ?_) (by rfl) ?_
  · obtain ⟨x, t, rfl⟩ := h3 f hm
    exact PySem.W.Looks.now
  · have e : (Value.type "int" != Value.type "tuple") = true := by first | decide +kernel | rfl | decide
    rw [e]
    exact hq
theorem sorted_nm {l : Addr} {vs : List Value} {k : Value → List Nat} {Q : Value → Shared → Prop} (hl : s.heap.IsList l vs.toArray) (hz : vs.length ≤ sizeLine) (hp : ∀ v ∈ vs, IsNm s.heap v (k v) ∧ k v ≠ [])
    (h : ∀ (h' : Heap) (d : Addr) (out : List Value), SrtO.Srtd (fun v u => Sd23.before (k v) (k u)) out → SrtO.Stb (fun v u => Sd23.before (k v) (k u)) out vs → (∀ b o, s.heap.get? b = some o → h'.get? b = some o) → s.heap.objs.size ≤ d → (∃ n, h'.get? d = some (seqObj "list" out.toArray n)) → Q (.ref d) { s with heap := h' }) :
    wpAny (model prog w) A (call (.builtin "sorted") [.ref l]) Q E s := by
  refine SrtO.sorted_ord (swo_before k) hl hz (fun h2 h₁ a ha kk => ?_) fun out hs hb => ?_
  · refine nm_sortableO (s := { s with heap := h₁ }) (by omega) (fun v hm => ⟨(hp v hm).1.keeps fun b o e _ => (kk b o e).2, (hp v hm).2⟩) fun o e => ?_
    have e' : some o = some (seqObj "list" vs.toArray 0) := e.symm.trans ha
    cases e'
    intro c
    exact absurd (Value.type.inj c) (by decide)
  · exact h _ _ out hs hb (fun b o e => PyProof.Rows.sortedAll_old e) (Nat.le_succ _) (PyProof.Rows.sortedAll_at s.heap vs out.toArray)
end
theorem refs_val : ∀ {ps : List Addr} {us : List Value}, Vals (rV ps) us → us = ps.map Value.ref
  | [], _, h => by cases h; rfl
  | p :: ps, _, h => by
    cases h with
    | cons r t =>
      rename_i u us
      obtain rfl : u = Value.ref p := r
      rw [refs_val t]
      rfl
theorem val_refs : ∀ ps : List Addr, Vals (rV ps) (ps.map Value.ref)
  | [] => .nil
  | _ :: r => .cons rfl (val_refs r)
def adV : Value → Addr
  | .ref a => a
  | _ => 0
theorem adV_map (ps : List Addr) : (ps.map Value.ref).map adV = ps := by
  rw [List.map_map]
  exact (List.map_congr_left fun _ _ => rfl).trans (List.map_id _)
/-- sorted(names) -/
def rSortedN (K : PySem.W.Frag) : List V → Hp → VK → Prop := fun vs H Q => ∃ (a : Addr) (ps : List Addr) (k : Addr → List Nat), vs = [V.ref a] ∧ SqL K H a (rV ps) ∧ (∀ p ∈ ps, H p = some (.tup (nV (k p))) ∧ k p ≠ []) ∧
  ∀ (qs : List Addr) p, qs.Perm ps → qs.Pairwise (fun x y => Sd23.before (k y) (k x) = false) → H p = none → Q (.ref p) (upd H p (.lst (rV qs)))
theorem cr_sortedN {X : Cx} : CallR X (.builtin "sorted") (rSortedN X.K) := by
  intro pins s σ H vs us Q I r h
  obtain ⟨a, ps, k, rfl, hs, hx, q⟩ := h
  obtain ⟨its, rv, hl, hz⟩ := I.list hs
  obtain ⟨u, rfl, ru⟩ := vals1 r
  obtain rfl : u = Value.ref a := ru
  have e1 := refs_val rv
  subst e1
  refine sorted_nm (k := fun u => k (adV u)) hl.isList (by rw [← rv.length]; exact hz) (fun v hv => ?_) fun h' d out h1 h2 kp hd hn => ?_
  · obtain ⟨t, ht, rfl⟩ := List.mem_map.mp hv
    obtain ⟨hm, hne⟩ := hx t ht
    obtain ⟨_, its2, r2, o, ho, hc, n, hd⟩ := I.hok _ _ hm
    exact ⟨⟨t, o, _, n, rfl, ho, hc, hd, r2⟩, hne⟩
  · have eo : out = (out.map adV).map Value.ref := by
      have : ∀ u ∈ out, ∃ a, u = Value.ref a := fun u hu => by
        obtain ⟨t, _, rfl⟩ := List.mem_map.mp (h2.perm.mem_iff.mp hu)
        exact ⟨t, rfl⟩
      rw [List.map_map]
      refine (List.map_id out).symm.trans (List.map_congr_left fun u hu => ?_)
      obtain ⟨a, rfl⟩ := this u hu
      rfl
    obtain ⟨n, hn⟩ := hn
    generalize hqs : out.map adV = qs at eo
    subst eo
    have hp : qs.Perm ps := by
      have := h2.perm.map adV
      rw [adV_map, adV_map] at this
      exact this
    refine ⟨.ref d, upd H d (.lst (rV qs)), I.laid (t' := s.toks) kp hd ⟨?_, _, n, val_refs qs, hn⟩, rfl, q qs d hp ?_ (I.hok.fresh hd)⟩
    · rw [rV_length, hp.length_eq, ← rV_length]
      exact hz
    · exact List.pairwise_map.mp h1
/-! ### d.pop(k), there -/
def rPopT1 : V → List V → Hp → VK → Prop := fun x xs H Q => ∃ (a : Addr) (kvs : List (List L2.Key × V)) (k : List L2.Key) (b : Addr) (v : V), x = .ref a ∧ xs = [.ref b] ∧ H a = some (.dT kvs) ∧ H b = some (.tup (k.map kV)) ∧
  valV kvs k = some v ∧ Q v (upd H a (.dT (dropK kvs k)))
theorem pop_one {T : Type} [DecidableEq T] {pg : Program} {wd : World} {knd : HeapKind pg wd T} {d b : Addr} {k : T} (hd : (d == sysModules) = false) :
    MeetsIn pg wd (Builtin.«dict.pop» ⟨[.ref d, .ref b], []⟩) (fun A R s => ∃ xs v, knd.room A.in1 ∧ knd.is s.heap k b ∧ s.heap.DictOfH knd d xs ∧ xs.length ≤ sizeLine ∧ atKey xs k = some v ∧
      ∀ h2 t2, h2.DictOfH knd d (DT.dropH xs k) → Heap.SameBut d s.heap h2 → R (.ok (.ret v.2)) { s with heap := h2, toks := t2 }) := by
  refine .of_wp fun A R s ⟨xs, v, c1, c2, c3, c4, c5, c6⟩ => ?_
  obtain ⟨o, es, ep, g1, g2, g3, g4, _⟩ := id c3
  have sz : es.size = xs.length := size_of_entries g4
  unfold Builtin.«dict.pop»
  refine wpAny_bind ?_
  unfold Builtin.Dict.keyAndDefault
  refine wpAny_bind (wpAny_notOrdered_dict c3.typeIs (show wpAny _ _ (pure (d, Value.ref b, (none : Option Value))) _ _ s from wpAny_pure ?_))
  have kp : (keyPart (Value.ref b)).isSome = false := rfl
  simp only [kp, Bool.false_eq_true, if_false]
  refine wpAny_bind (wpAny_dictEntries g1 g3 (wpAny_bind (wpAny_pure ?_)))
  have he : es.isEmpty = false := by
    cases q : es.isEmpty with
    | false => rfl
    | true =>
      have z : es.size = 0 := by simpa using q
      have e0 : xs = [] := List.length_eq_zero_iff.mp (by omega)
      rw [e0] at c5
      cases c5
  simp only [he, Bool.false_eq_true, if_false]
  refine wpAny_bind (DT.takeH c1 c2 c3 c4 (fun n => by rw [n] at c5; cases c5) fun p e hp ev h2 k1 k2 => ?_)
  rw [c5] at hp
  cases hp
  simp only [Option.isNone_some, Bool.false_eq_true, if_false]
  refine wpAny_bind (wpAny_letGo (wpAny_pure ⟨e.val, rfl, ?_⟩))
  rw [ev]
  exact c6 h2 _ k1 k2
theorem mt_popT1 {X : Cx} (hu : X.A.units + 1 < cLine) : MtR X "dict.pop" rPopT1 := by
  intro pins s σ H x xs u us Q I rx rxs h
  obtain ⟨a, kvs, k, b, v, rfl, rfl, ha, hb, hv, q⟩ := h
  cases rx
  obtain ⟨u1, rfl, r1⟩ := vals1 rxs
  obtain rfl : u1 = Value.ref b := r1
  obtain ⟨z, hd, ys, rel, dd⟩ := dt_of I.hok ha
  have r := rel.val k
  rw [hv] at r
  obtain ⟨p, hp, rv⟩ : ∃ p, atKey ys k = some p ∧ RelV v p.2 := by
    cases hq : atKey ys k with
    | none =>
      rw [hq] at r
      exact (show False from r).elim
    | some p =>
      rw [hq] at r
      exact ⟨p, rfl, r⟩
  refine call_meetsIn PySem.F.slot_dict_pop dd.typeIs PySem.F.entry_dict_pop (PySem.F.args_dict_pop_2 _ _) (pop_one (knd := tupleKind (mixKind X.prog X.w)) (k := k) hd)
    ⟨ys, p, tupleKind_room_in1 hu, key_of I.hok hb, dd, by rw [← Paired.length rel]; exact z, hp, fun h2 t2 dd2 hs => ?_⟩
  obtain ⟨o, es, ep, e1, e2, e3, e4, _, e5⟩ := dd2
  have J : Inv X pins σ (upd H a (.dT (dropK kvs k))) { s with heap := h2, toks := t2 } :=
    d_write I (by rw [ha]; exact True.intro) hs ⟨o, e1⟩ ⟨Nat.le_trans (dropK_le kvs k) z, hd, _, (DX.KT_drop k rel).keeps (fun c w hc => (by rw [upd_ne (ne_of hc ha (fun z => nomatch z))]; exact hc)), o, es, ep, e1, e2, e3, e4, e5⟩
  exact ⟨v, _, J, rv, q⟩
end Ad

/-! ## D22 -/
set_option Elab.async false
set_option linter.all false
set_option maxRecDepth 100000
set_option maxHeartbeats 1000000
namespace Ad
open PySem PySem.Spec PyProof.Rows L2
/-! ### dicts -/
section
variable {κ : Type} [DecidableEq κ]
theorem put_old {kvs : List (κ × V)} {k : κ} {x : V} (v : V) (h : valV kvs k = some x) : (putK kvs k v).length = kvs.length ∧ (putK kvs k v).map (·.1) = kvs.map (·.1) := by
  have e : putK kvs k v = kvs.map fun kv => if kv.1 = k then (kv.1, v) else kv := by
    unfold putK
    rw [if_pos (by rw [valV_any, h]; rfl)]
  rw [e, List.length_map, List.map_map]
  refine ⟨rfl, List.map_congr_left fun kv _ => ?_⟩
  show (if kv.1 = k then (kv.1, v) else kv).1 = kv.1
  split <;> rfl
theorem valV_drop : ∀ (kvs : List (κ × V)) (k j : κ), valV (dropK kvs k) j = if j = k then none else valV kvs j
  | [], k, j => by
    show none = _
    split <;> rfl
  | p :: r, k, j => by
    have ih := valV_drop r k j
    by_cases h : p.1 = k
    · rw [dropK_pos h, ih]
      by_cases q : j = k
      · rw [if_pos q, if_pos q]
      · rw [if_neg q, if_neg q, valV_neg (fun z => q (by rw [← z]; exact h))]
    · rw [dropK_neg h]
      by_cases z : p.1 = j
      · rw [valV_pos z, if_neg (fun q => h (by rw [z]; exact q)), valV_pos z]
      · rw [valV_neg z, valV_neg z, ih]
end
/-! ### the device changed -/
section
variable {f : Addr → Prop} {CD CE : Addr} {H H' : Hp} {d : Addr} {a : Sd23.Abs} {dx rd wr en nm nm' : Addr} {kvs : List (List L2.Key × V)} {ps qs : List Addr}
/-- no name leads to an address that was free -/
theorem DevF.fresh (h : DevF f CE H a rd wr en nm kvs ps) {b : Addr} (hb : H b = none) (m : List Nat) : valV kvs (nK m) ≠ some (.ref b) := fun q => by
  cases hf : a.find m with
  | none =>
    rw [h.non m hf] at q
    cases q
  | some e =>
    obtain ⟨hm, hn⟩ := find_some hf
    obtain ⟨i, hi⟩ := List.mem_iff_getElem?.mp hm
    obtain ⟨p, b', _, _, g3, dxe, ct, g4, _⟩ := h.at_ i e hi
    rw [hn, q] at g3
    cases g3
    rw [g4] at hb
    cases hb
theorem DevF.rep (h : DevF f CE H a rd wr en nm kvs ps) (ok : OkAbs a) {e : Sd23.Entry} {b : Addr} {x : V} (hx : valV kvs (nK e.name) = some x) (hnb : ∀ m, valV kvs (nK m) ≠ some (.ref b)) (hb : EntAt f CE (upd H en (.dT (putK kvs (nK e.name) (.ref b)))) b e) :
    DevF f CE (upd H en (.dT (putK kvs (nK e.name) (.ref b)))) (repE a e) rd wr en nm (putK kvs (nK e.name) (.ref b)) ps := by
  have k : ∀ {c : Addr} {o : HO}, H c = some o → HO.dT kvs ≠ o → (upd H en (.dT (putK kvs (nK e.name) (.ref b)))) c = some o := fun hc n => by
    rw [upd_ne (ne_of hc h.hen fun z => n z.symm)]
    exact hc
  have vp := fun j : List Nat => valV_put kvs (nK e.name) (nK j) (.ref b)
  have nn : ∀ {m n : List Nat}, ¬ m = n → ¬ nK m = nK n := fun hh q => hh (nK_inj q)
  refine ⟨k h.hrd (fun z => by cases z), k h.hwr (fun z => by cases z), upd_same, k h.hnm (fun z => by cases z), h.nf, fun c hc z => h.hf c hc (upd_free z).1, by show _ = (a.entries.map _).length; rw [List.length_map]; exact h.len, fun i y hy => ?_, fun n hn => ?_, fun m n c h1 h2 => ?_, ?_, ?_⟩
  · have hy' : (a.entries.map fun x => if x.name = e.name then e else x)[i]? = some y := hy
    rw [List.getElem?_map] at hy'
    cases hz : a.entries[i]? with
    | none =>
      rw [hz] at hy'
      cases hy'
    | some z =>
      rw [hz] at hy'
      obtain ⟨p, b', g1, g2, g3, dxe, ct, g4, g5, g6⟩ := h.at_ i z hz
      have ey : (if z.name = e.name then e else z) = y := Option.some.inj hy'
      by_cases q : z.name = e.name
      · rw [if_pos q] at ey
        subst ey
        exact ⟨p, b, g1, by have g := k g2 (fun z => by cases z); rw [q] at g; exact g, by rw [vp, if_pos rfl], hb⟩
      · rw [if_neg q] at ey
        subst ey
        exact ⟨p, b', g1, k g2 (fun z => by cases z), by rw [vp, if_neg (nn q)]; exact g3, dxe, ct, k g4 (fun z => by cases z), k g5 (fun z => by cases z), g6⟩
  · have hne : ∀ x ∈ a.entries, x.name ≠ n := fun y hy q => by
      have : (if y.name = e.name then e else y) ∈ (repE a e).entries := List.mem_map.mpr ⟨y, hy, rfl⟩
      exact find_none hn this (by rw [rep_name a]; exact q)
    have hf := find_none_of hne
    rw [vp, if_neg (nn fun q => ?_)]
    · exact h.non n hf
    · rw [q] at hf
      rw [h.non _ hf] at hx
      cases hx
  · rw [vp] at h1 h2
    by_cases q1 : nK m = nK e.name
    · by_cases q2 : nK n = nK e.name
      · exact nK_inj (q1.trans q2.symm)
      · rw [if_pos q1] at h1
        rw [if_neg q2] at h2
        cases h1
        exact absurd h2 (hnb n)
    · by_cases q2 : nK n = nK e.name
      · rw [if_neg q1] at h1
        rw [if_pos q2] at h2
        cases h2
        exact absurd h1 (hnb m)
      · rw [if_neg q1] at h1
        rw [if_neg q2] at h2
        exact h.inj m n c h1 h2
  · rw [(put_old _ hx).1]
    show _ ≤ (a.entries.map _).length
    rw [List.length_map]
    exact h.few
  · rw [(put_old _ hx).2]
    exact h.nd
/-- a new entry: its key in the dict (at H1), the names sorted anew at nm' -/
theorem DevF.add (h : DevF f CE H a rd wr en nm kvs ps) (ok : OkAbs a) {e : Sd23.Entry} {b : Addr} (hf : a.find e.name = none) (hnb : ∀ m, valV kvs (nK m) ≠ some (.ref b))
    (k : ∀ c o, H c = some o → c ≠ en → (∀ C x fs, o ≠ .ins C x fs ∨ fs.length = 5) → H' c = some o) (hen : H' en = some (.dT (putK kvs (nK e.name) (.ref b)))) (hb : EntAt f CE H' b e) (hk0 : ∀ c, f c → H' c ≠ none) (hnm : H' nm' = some (.lst (rV qs))) (hnf : ¬ f nm')
    (hl : qs.length = a.entries.length + 1) (hq : ∀ (i : Nat) y, (Sd23.insert e a.entries)[i]? = some y → ∃ q, qs[i]? = some q ∧ H' q = some (.tup (nV y.name))) :
    DevF f CE H' (addE a e) rd wr en nm' (putK kvs (nK e.name) (.ref b)) qs := by
  have kl : ∀ {c : Addr} {xs : List V}, H c = some (.lst xs) → H' c = some (.lst xs) := fun hc => k _ _ hc (ne_of hc h.hen (by intro z; cases z)) fun _ _ _ => .inl (by intro z; cases z)
  have vp := fun j : List Nat => valV_put kvs (nK e.name) (nK j) (.ref b)
  have nn : ∀ {m n : List Nat}, ¬ m = n → ¬ nK m = nK n := fun hh q => hh (nK_inj q)
  have hno := h.non _ hf
  refine ⟨kl h.hrd, kl h.hwr, hen, hnm, ⟨h.nf.1, h.nf.2.1, hnf⟩, hk0, by show _ = (Sd23.insert e a.entries).length; rw [insert_len]; exact hl, fun i y hy => ?_, fun n hn => ?_, fun m n c h1 h2 => ?_, ?_, nd_putK _ h.nd hno⟩
  · obtain ⟨q, hq1, hq2⟩ := hq i y hy
    rcases mem_insert.mp (List.mem_of_getElem? hy) with rfl | hm
    · exact ⟨q, b, hq1, hq2, by rw [vp, if_pos rfl], hb⟩
    · obtain ⟨j, hj⟩ := List.mem_iff_getElem?.mp hm
      obtain ⟨p, b', g1, g2, g3, dxe, ct, g4, g5, g6⟩ := h.at_ j y hj
      refine ⟨q, b', hq1, hq2, ?_, dxe, ct, k _ _ g4 (ne_of g4 h.hen (by intro z; cases z)) fun C x fs => ?_, kl g5, g6⟩
      · rw [vp, if_neg (nn (find_none hf hm))]
        exact g3
      · by_cases z : HO.ins CE dxe (eF (y.value.mark : Int) ct y.write y.lo y.hi) = .ins C x fs
        · cases z
          exact .inr rfl
        · exact .inl z
  · have hne : ∀ x ∈ a.entries, x.name ≠ n := fun y hy => find_none hn (show y ∈ (addE a e).entries from mem_insert.mpr (.inr hy))
    have hn' : ¬ n = e.name := fun q => find_none hn (show e ∈ (addE a e).entries from mem_insert.mpr (.inl rfl)) q.symm
    rw [vp, if_neg (nn hn')]
    exact h.non n (find_none_of hne)
  · rw [vp] at h1 h2
    by_cases q1 : nK m = nK e.name
    · by_cases q2 : nK n = nK e.name
      · exact nK_inj (q1.trans q2.symm)
      · rw [if_pos q1] at h1
        rw [if_neg q2] at h2
        cases h1
        exact absurd h2 (hnb n)
    · by_cases q2 : nK n = nK e.name
      · rw [if_neg q1] at h1
        rw [if_pos q2] at h2
        cases h2
        exact absurd h1 (hnb m)
      · rw [if_neg q1] at h1
        rw [if_neg q2] at h2
        exact h.inj m n c h1 h2
  · rw [putK_new _ hno, List.length_append, List.length_singleton]
    show _ ≤ (Sd23.insert e a.entries).length
    rw [insert_len]
    have := h.few
    omega
/-- an entry is dropped -/
theorem DevF.drop (h : DevF f CE H a rd wr en nm kvs ps) (ok : OkAbs a) {n : List Nat} {e : Sd23.Entry} (hf : a.find n = some e)
    (k : ∀ c o, H c = some o → c ≠ en → (∀ C x fs, o ≠ .ins C x fs ∨ fs.length = 5) → H' c = some o) (hen : H' en = some (.dT (dropK kvs (nK n)))) (hk0 : ∀ c, f c → H' c ≠ none) (hnm : H' nm' = some (.lst (rV qs))) (hnf : ¬ f nm')
    (hq : NamesAt H' qs ((a.entries.filter fun e => e.name != n).map (·.name))) :
    DevF f CE H' (dropE a n) rd wr en nm' (dropK kvs (nK n)) qs := by
  have kl : ∀ {c : Addr} {xs : List V}, H c = some (.lst xs) → H' c = some (.lst xs) := fun hc => k _ _ hc (ne_of hc h.hen (by intro z; cases z)) fun _ _ _ => .inl (by intro z; cases z)
  have vd := fun j : List Nat => valV_drop kvs (nK n) (nK j)
  have nn : ∀ {m n : List Nat}, ¬ m = n → ¬ nK m = nK n := fun hh q => hh (nK_inj q)
  obtain ⟨hme, hne⟩ := find_some hf
  obtain ⟨i0, hi0⟩ := List.mem_iff_getElem?.mp hme
  obtain ⟨p0, b0, _, _, g30, _⟩ := h.at_ i0 e hi0
  rw [hne] at g30
  refine ⟨kl h.hrd, kl h.hwr, hen, hnm, ⟨h.nf.1, h.nf.2.1, hnf⟩, hk0, by show _ = (a.entries.filter _).length; rw [hq.1, List.length_map], fun i y hy => ?_, fun m hm => ?_, fun m m' c h1 h2 => ?_, ?_, nd_dropK h.nd⟩
  · have hy' : (a.entries.filter fun e => e.name != n)[i]? = some y := hy
    have hmem := List.mem_filter.mp (List.mem_of_getElem? hy')
    obtain ⟨q, hq1, hq2⟩ := hq.2 i y.name (by rw [List.getElem?_map, hy']; rfl)
    obtain ⟨j, hj⟩ := List.mem_iff_getElem?.mp hmem.1
    obtain ⟨p, b', g1, g2, g3, dxe, ct, g4, g5, g6⟩ := h.at_ j y hj
    refine ⟨q, b', hq1, hq2, ?_, dxe, ct, k _ _ g4 (ne_of g4 h.hen (by intro z; cases z)) fun C x fs => ?_, kl g5, g6⟩
    · rw [vd, if_neg (nn (by simpa using hmem.2))]
      exact g3
    · by_cases z : HO.ins CE dxe (eF (y.value.mark : Int) ct y.write y.lo y.hi) = .ins C x fs
      · cases z
        exact .inr rfl
      · exact .inl z
  · rw [vd]
    by_cases q : m = n
    · rw [if_pos (by rw [q])]
    · rw [if_neg (nn q)]
      refine h.non m (find_none_of fun y hy z => find_none hm (show y ∈ (dropE a n).entries from List.mem_filter.mpr ⟨hy, ?_⟩) z)
      rw [z]
      simpa using q
  · rw [vd] at h1 h2
    split at h1
    · cases h1
    · split at h2
      · cases h2
      · exact h.inj m m' c h1 h2
  · have e1 := dropK_len h.nd (valV_in g30)
    have e2 := drop_len ok.sorted ⟨e, hme, hne⟩
    have := h.few
    show _ ≤ (a.entries.filter _).length
    omega
end
end Ad

/-! ## D23 -/
set_option Elab.async false
set_option linter.all false
set_option maxRecDepth 100000
set_option maxHeartbeats 1000000
namespace Ad
open PySem PySem.Spec PyProof.Rows L2
theorem Ref.same {C : Addr} {E : XK} {n : Int} {H H' : Hp} (r : Ref C E n H) (s : Same H H') : Ref C E n H' := fun H2 d s2 h => r H2 d (s.trans s2) h
def iV (l : List Int) : List V := l.map V.int
def nI (b : List Nat) : List Int := b.map fun (n : Nat) => (n : Int)
theorem iV_nI (b : List Nat) : iV (nI b) = nV b := by
  unfold iV nI nV
  rw [List.map_map]
  rfl
structure Cst4 (mg : Str → Option Value) : Prop where
  mostWord : IntC mg "MOST_WORD_agent" 32
  mostEntries : IntC mg "MOST_ENTRIES" 512
  mostPacket : IntC mg "MOST_PACKET" 65535
  add : IntC mg "ADD" 1
/-- the desk's device -/
def DeskAt (f : Addr → Prop) (CK CD CE : Addr) (H : Hp) (k : Addr) (o : Option Sd23.Abs) : Prop := ∃ dx v, H k = some (.ins CK dx [("device", v)]) ∧ match o with
  | none => v = .non
  | some a => ∃ d, v = .ref d ∧ DevAt f CD CE H d a ∧ OkAbs a
/-! ### do_open -/
abbrev sOpen : Stmt := top 81
theorem scOpen : FnScope ["desk", "reads", "writes"] ["desk", "reads", "writes"] (defScope sOpen) := ⟨rfl, rfl, rfl, by decide +kernel, rfl, by decide +kernel, by decide +kernel⟩
theorem bOpen : BindsBy "do_open" "do_open" sOpen ["desk", "reads", "writes"] := fun _ _ _ _ _ _ us hl => match us, hl with | [_, _, _], _ => rfl
def okOpen (r w : List Nat) : Bool := decide (1 ≤ r.length ∧ r.length ≤ 32) && (decide (1 ≤ w.length ∧ w.length ≤ 32) && !decide (r = w))
def spOpen (CK CD CE CN : Addr) : Sp := fun vs H Q E => ∃ (f : Addr → Prop) (k r w dx : Addr) (v : V) (rb wb : List Nat), vs = [.ref k, .ref r, .ref w] ∧ H k = some (.ins CK dx [("device", v)]) ∧ H r = some (.lst (nV rb)) ∧ H w = some (.lst (nV wb)) ∧ ¬ f r ∧ ¬ f w ∧ (∀ c, f c → H c ≠ none) ∧
  (okOpen rb wb = false → ∀ H' x, Bt k H H' → DeskAt f CK CD CE H' k none → H' x = some (.xd [("number", .int (-1))]) → E (.ref CN) (some x) H') ∧
  (okOpen rb wb = true → ∀ H' z, Bt k H H' → H z = none → H' z = some (.lst [.int 0]) → DeskAt f CK CD CE H' k (some ⟨rb, wb, []⟩) → Q (.ref z) H')
/-- the test of do_open -/
def tOpenC : TE := fun σ H Q => ∃ (r w : Addr) (rb wb : List Nat), σ[1]? = some (some (.ref r)) ∧ σ[2]? = some (some (.ref w)) ∧ H r = some (.lst (nV rb)) ∧ H w = some (.lst (nV wb)) ∧ Q (.bl (okOpen rb wb)) H
section
variable {P : Program} {w : World} {K : PySem.W.Frag} {mg : Str → Option Value} {base : Heap} {CK CD CE CN CQ : Addr}
theorem tOpenC_of (σ : L2.St) (H : Hp) (Q : VK) (h : tOpenC σ H Q) : tAndV (tChain (rI0 fun i j => .bl (decide (i ≤ j))) (rI0 fun i j => .bl (decide (i ≤ j))) (tC (.int 1)) (tCB (rLen1 K) (tCons (tVar 1) tNil)) (tC (.int 32)))
    (tAndV (tChain (rI0 fun i j => .bl (decide (i ≤ j))) (rI0 fun i j => .bl (decide (i ≤ j))) (tC (.int 1)) (tCB (rLen1 K) (tCons (tVar 2) tNil)) (tC (.int 32))) (tOp (rNeN K) (tVar 1) (tVar 2))) σ H Q := by
  obtain ⟨r, w, rb, wb, h1, h2, hr, hw, k⟩ := h
  unfold okOpen at k
  refine ⟨_, h1, r, _, rfl, .inl (SqL.of hr), _, _, rfl, rfl, _, rfl, ?_⟩
  rw [nV_length]
  have bad : ∀ {b : Bool}, b = false → (b && (decide (1 ≤ wb.length ∧ wb.length ≤ 32) && !decide (rb = wb))) = false := fun h => by rw [h]; rfl
  refine ifB (fun z => ?_) (fun z => ?_)
  case refine_2 =>
    rw [bad (decide_eq_false fun h => by have := of_decide_eq_false z; omega)] at k
    exact ⟨_, rfl, k⟩
  refine ⟨_, _, rfl, rfl, _, rfl, ?_⟩
  refine ifB (fun u => ?_) (fun u => ?_)
  case refine_2 =>
    rw [bad (decide_eq_false fun h => by have := of_decide_eq_false u; omega)] at k
    exact k
  rw [decide_eq_true (p := 1 ≤ rb.length ∧ rb.length ≤ 32) ⟨by have := of_decide_eq_true z; omega, by have := of_decide_eq_true u; omega⟩, Bool.true_and] at k
  refine ⟨_, h2, w, _, rfl, .inl (SqL.of hw), _, _, rfl, rfl, _, rfl, ?_⟩
  rw [nV_length]
  have bad2 : ∀ {b : Bool}, b = false → (b && !decide (rb = wb)) = false := fun h => by rw [h]; rfl
  refine ifB (fun z2 => ?_) (fun z2 => ?_)
  case refine_2 =>
    rw [bad2 (decide_eq_false fun h => by have := of_decide_eq_false z2; omega)] at k
    exact ⟨_, rfl, k⟩
  refine ⟨_, _, rfl, rfl, _, rfl, ?_⟩
  refine ifB (fun u2 => ?_) (fun u2 => ?_)
  case refine_2 =>
    rw [bad2 (decide_eq_false fun h => by have := of_decide_eq_false u2; omega)] at k
    exact k
  rw [decide_eq_true (p := 1 ≤ wb.length ∧ wb.length ≤ 32) ⟨by have := of_decide_eq_true z2; omega, by have := of_decide_eq_true u2; omega⟩, Bool.true_and] at k
  exact ⟨_, h1, _, h2, r, w, rb, wb, rfl, rfl, .inl ⟨SqL.of hr, SqL.of hw⟩, k⟩
theorem ok_open (D : Def1 K mg "do_open" "do_open" sOpen) (B : Blt mg) (c : Cst4 mg) (TK : DkT K CK) (cN : CalX P w K mg base (L2.CX P w) 3 "need_agent" (spNeedA CN)) (cD : MakX P w K mg base 1 "Device" CD (spDvI CD)) : CalX P w K mg base (L2.CX P w) 4 "do_open" (spOpen CK CD CE CN) := by
  refine calX D scOpen bOpen (fun vs H Q E h => ?_) fun f cdv A outer s H vs Q E hr h => ?_
  · obtain ⟨f, k, r, w, dx, v, rb, wb, rfl, _⟩ := h
    rfl
  · obtain ⟨f', k, r, w, dx, v, rb, wb, rfl, h1, h2, h3, nr, nw, hf, kN, kS⟩ := h
    refine ⟨_, pss_cons (ps_fld (pv 0) pe_non rfl) <|
      pss_cons (ps_expr (pcall cN hr (by decide) passE (pa_cons (PEimp (t' := tOpenC) (pe_and (pe_chain op_le op_le pe_int (plen B (pv 1)) (pcon c.mostWord)) (pe_and (pe_chain op_le op_le pe_int (plen B (pv 2)) (pcon c.mostWord)) (pe_one (pe_cmpR (op_neN hr.units) (pv 1) (pv 2) (nomark _))))) tOpenC_of) (pa_cons (pe_un un_neg pe_int) pa_nil)))) <|
      pss_cons (ps_fld (pv 0) (pmake cD hr (by decide) (pa_cons (pv 1) (pa_cons (pv 2) pa_nil))) rfl) <|
      pss_one (ps_ret (pe_lst (pa_cons pe_int pa_nil))), ?_⟩
    refine ⟨_, rfl, k, CK, dx, _, rfl, h1, TK.cl, TK.device, (by show 1 < 1000; decide), ?_⟩
    have hk1 : (upd H k (.ins CK dx [("device", .non)])) k = some (.ins CK dx [("device", .non)]) := upd_same
    have b1 : Bt k H (upd H k (.ins CK dx [("device", .non)])) := fun b o hb e => by rw [upd_ne hb]; exact e
    have f1 : ∀ b, (upd H k (.ins CK dx [("device", .non)])) b = none → H b = none := fun b e => (upd_free e).1
    show tSeq _ _ _ _ (upd H k (.ins CK dx [("device", .non)]))
    generalize upd H k (.ins CK dx [("device", .non)]) = H1 at hk1 b1 f1 ⊢
    have nrk : r ≠ k := ne_of h2 h1 (by intro z; cases z)
    have nwk : w ≠ k := ne_of h3 h1 (by intro z; cases z)
    have h2' := b1 _ _ nrk h2
    have h3' := b1 _ _ nwk h3
    refine ⟨r, w, rb, wb, rfl, rfl, h2', h3', _, rfl, _, _, rfl, fun hT => ?_, fun hF => ?_⟩
    case refine_2 =>
      exact fun H' x s1 hx => kN hF H' x (b1.trans fun b o _ e => s1 b o e) ⟨dx, .non, s1 _ _ hk1, rfl⟩ hx
    refine ⟨_, rfl, _, rfl, fun x dx' nx ndx ne => ⟨x, dx', r, w, rfl, upd_same, fun H2 e n b2 he hn hen e1 e2 e3 => ⟨rfl, ?_⟩⟩⟩
    have s2 : Same H1 H2 := Same.made nx ndx fun b' o e hb => b2 b' o hb e
    have fr : ∀ {c : Addr}, (upd (upd H1 dx' (.own x)) x (.ins CD dx' [])) c = none → H1 c = none := fun hc => (upd_free (upd_free hc).1).1
    refine ⟨_, rfl, k, CK, dx, _, rfl, s2 _ _ hk1, TK.cl, TK.device, (by show 1 < 1000; decide), (by show 1 ≤ sizeLine; decide), fun z hz => ?_⟩
    have kk : ∀ {c : Addr} {o : HO}, H2 c = some o → HO.ins CK dx [("device", .non)] ≠ o → (upd (upd H2 k (.ins CK dx [("device", .ref x)])) z (.lst [.int 0])) c = some o := fun {c o} hc hne => by
      have nck : c ≠ k := ne_of hc (s2 _ _ hk1) (fun q => hne q.symm)
      have ncz : c ≠ z := ne_of_none hc (upd_free hz).1
      rw [upd_ne ncz, upd_ne nck]
      exact hc
    refine kS hT (upd (upd H2 k (.ins CK dx [("device", .ref x)])) z (.lst [.int 0])) z (fun b o hb e => ?_) (f1 _ (s2.free (upd_free hz).1)) upd_same ?_
    · have e' := s2 _ _ (b1 _ _ hb e)
      rw [upd_ne (ne_of_none e' (upd_free hz).1), upd_ne hb]
      exact e'
    refine ⟨dx, .ref x, ?_, x, rfl, ⟨dx', r, w, e, n, [], [], kk e3 (by intro z; cases z), kk (s2 _ _ h2') (by intro z; cases z), kk (s2 _ _ h3') (by intro z; cases z), kk e1 (by intro z; cases z), kk e2 (by intro z; cases z), ⟨nr, nw, fun q => hf _ q (f1 _ (fr hn))⟩, fun c hc q => ?_, rfl, fun i y hy => by simp at hy, fun _ _ => rfl, fun m n c q => (by cases q), Nat.le_refl _, List.nodup_nil⟩, ?_⟩
    · have nkz : k ≠ z := fun q => by
        have := (upd_free hz).2
        exact this q.symm
      rw [upd_ne nkz, upd_same]
    · exact hf c hc (f1 _ (s2.free (upd_free (upd_free q).1).1))
    · refine ⟨List.Pairwise.nil, fun e he => (by cases he), Nat.zero_le _, ?_⟩
      intro q
      have q' : rb = wb := q
      rw [q'] at hT
      unfold okOpen at hT
      simp at hT
end
end Ad

/-! ## D24 -/
set_option Elab.async false
set_option linter.all false
set_option maxRecDepth 100000
set_option maxHeartbeats 1000000
namespace Ad
open PySem PySem.Spec PyProof.Rows L2
/-! ### need_entry -/
abbrev sNE : Stmt := top 83
theorem scNE : FnScope ["device", "name"] ["device", "name"] (defScope sNE) := ⟨rfl, rfl, rfl, by decide +kernel, rfl, by decide +kernel, by decide +kernel⟩
theorem bNE : BindsBy "need_entry" "need_entry" sNE ["device", "name"] := fun _ _ _ _ _ _ us hl => match us, hl with | [_, _], _ => rfl
def spNE (CD CE CN : Addr) : Sp := fun vs H Q E => ∃ (f : Addr → Prop) (d p : Addr) (a : Sd23.Abs) (n : List Nat), vs = [.ref d, .ref p] ∧ DevAt f CD CE H d a ∧ H p = some (.tup (nV n)) ∧
  (n.length < 2 → Ref CN E (-1) H) ∧ (2 ≤ n.length → a.find n = none → Ref CN E (-2) H) ∧ (∀ e, 2 ≤ n.length → a.find n = some e → Q .non H)
/-! ### do_look -/
abbrev sLook : Stmt := top 85
theorem scLook : FnScope ["device", "name", "content"] ["device", "name"] (defScope sLook) := ⟨rfl, rfl, rfl, by decide +kernel, rfl, by decide +kernel, by decide +kernel⟩
theorem bLook : BindsBy "do_look" "do_look" sLook ["device", "name"] := fun _ _ _ _ _ _ us hl => match us, hl with | [_, _], _ => rfl
def spLook (CD CE CN : Addr) : Sp := fun vs H Q E => ∃ (f : Addr → Prop) (d p : Addr) (a : Sd23.Abs) (n : List Nat), vs = [.ref d, .ref p] ∧ DevAt f CD CE H d a ∧ OkAbs a ∧ H p = some (.tup (nV n)) ∧
  (n.length < 2 → Ref CN E (-1) H) ∧ (2 ≤ n.length → a.find n = none → Ref CN E (-2) H) ∧ (∀ e, 2 ≤ n.length → a.find n = some e → ∀ H' z, Same H H' → H z = none → H' z = some (.lst (iV ((e.value.body.length : Int) :: nI e.value.body))) → Q (.ref z) H')
/-! ### do_packet -/
abbrev sPk : Stmt := top 86
theorem scPk : FnScope ["device", "message", "request", "answer"] ["device", "message"] (defScope sPk) := ⟨rfl, rfl, rfl, by decide +kernel, rfl, by decide +kernel, by decide +kernel⟩
theorem bPk : BindsBy "do_packet" "do_packet" sPk ["device", "message"] := fun _ _ _ _ _ _ us hl => match us, hl with | [_, _], _ => rfl
def toI : Option (List Nat) → List Int
  | none => [0]
  | some r => (r.length : Int) :: nI r
def spPk (CD CE CN : Addr) : Sp := fun vs H Q E => ∃ (f : Addr → Prop) (d p : Addr) (a : Sd23.Abs) (b : List Nat), vs = [.ref d, .ref p] ∧ DevAt f CD CE H d a ∧ OkAbs a ∧ H p = some (.lst (nV b)) ∧ AllB b ∧ b.length ≤ 16000 ∧
  (Sd23.read b = none → Ref CN E (-2) H) ∧ (∀ m, Sd23.read b = some m → ∀ H' z, Out H H' → H z = none → H' z = some (.lst (iV (toI (Sd23.handle a m).2))) → DevAt f CD CE H' d (Sd23.handle a m).1 → OkAbs (Sd23.handle a m).1 → Q (.ref z) H')
section
variable {P : Program} {w : World} {K : PySem.W.Frag} {mg : Str → Option Value} {base : Heap} {CK CD CE CN CQ : Addr}
theorem ok_NE (D : Def1 K mg "need_entry" "need_entry" sNE) (B : Blt mg) (TD : DvT K CD) (cN : CalX P w K mg base (L2.CX P w) 3 "need_agent" (spNeedA CN)) : CalX P w K mg base (L2.CX P w) 4 "need_entry" (spNE CD CE CN) := by
  refine calX D scNE bNE (fun vs H Q E h => ?_) fun f cdv A outer s H vs Q E hr h => ?_
  · obtain ⟨f, d, p, a, n, rfl, _⟩ := h
    rfl
  · obtain ⟨f', d, p, a, n, rfl, hD, hp, k1, k2, k3⟩ := h
    have hu := hu_of hr
    refine ⟨_, pss_cons (ps_expr (pcall cN hr (by decide) passE (pa_cons (pe_cmpR op_ge (plen B (pv 1)) pe_int (nomark _)) (pa_cons (pe_un un_neg pe_int) pa_nil)))) <|
      pss_one (ps_expr (pcall cN hr (by decide) passE (pa_cons (pe_cmp (pc_din hu (pv 1) (pe_fld (pv 0) rfl))) (pa_cons (pe_un un_neg pe_int) pa_nil)))), ?_⟩
    obtain ⟨dx, rd, wr, en, nm, kvs, ps, hd, VV⟩ := id hD
    have hkey : H p = some (.tup ((nK n).map kV)) := by rw [nK_V]; exact hp
    refine ⟨_, rfl, p, _, rfl, .inr (SqT.of hp), _, _, rfl, rfl, _, rfl, _, _, rfl, fun z => ?_, fun z => ?_⟩
    case refine_2 =>
      rw [nV_length] at z
      exact k1 (by have := of_decide_eq_false z; omega)
    rw [nV_length] at z
    have h2 : 2 ≤ n.length := by have := of_decide_eq_true z; omega
    refine ⟨_, rfl, _, rfl, d, CD, dx, _, _, rfl, hd, TD.cl, TD.entries, rfl, en, _, rfl, DGet.t VV.hen hkey, _, rfl, _, _, rfl, fun z => ?_, fun z => ?_⟩
    · cases hf : a.find n with
      | none =>
        rw [VV.non n hf] at z
        cases z
      | some e => exact k3 e h2 hf
    · cases hf : a.find n with
      | none => exact k2 h2 hf
      | some e =>
        obtain ⟨hm, hn⟩ := find_some hf
        obtain ⟨i, hi⟩ := List.mem_iff_getElem?.mp hm
        obtain ⟨p', b, g1, g2, g3, _⟩ := VV.at_ i e hi
        rw [hn] at g3
        rw [g3] at z
        cases z
theorem ok_look (D : Def1 K mg "do_look" "do_look" sLook) (B : Blt mg) (TD : DvT K CD) (TE : EnT K CE) (cE : CalX P w K mg base (L2.CX P w) 4 "need_entry" (spNE CD CE CN)) : CalX P w K mg base (L2.CX P w) 5 "do_look" (spLook CD CE CN) := by
  refine calX D scLook bLook (fun vs H Q E h => ?_) fun f cdv A outer s H vs Q E hr h => ?_
  · obtain ⟨f, d, p, a, n, rfl, _⟩ := h
    rfl
  · obtain ⟨f', d, p, a, n, rfl, hD, ok, hp, k1, k2, k3⟩ := h
    have hu := hu_of hr
    refine ⟨_, pss_cons (ps_expr (pcall cE hr (by decide) passE (pa_cons (pv 0) (pa_cons (pv 1) pa_nil)))) <|
      pss_cons (ps_set (i := 2) scLook.nd rfl (.inl rfl) (pe_fld (pe_dget hu (pe_fld (pv 0) rfl) (pv 1) (fun _ _ => rfl)) rfl)) <|
      pss_one (ps_ret (pe_op op_cat (pe_lst (pa_cons (plen B (pv 2)) pa_nil)) (pv 2))), ?_⟩
    obtain ⟨dx, rd, wr, en, nm, kvs, ps, hd, VV⟩ := id hD
    have hkey : H p = some (.tup ((nK n).map kV)) := by rw [nK_V]; exact hp
    refine ⟨_, rfl, _, rfl, f', d, p, a, n, rfl, hD, hp, k1, k2, fun e h2 hf => ?_⟩
    obtain ⟨hm, hn⟩ := find_some hf
    obtain ⟨i, hi⟩ := List.mem_iff_getElem?.mp hm
    obtain ⟨p', b, g1, g2, g3, dxe, ct, g4, g5, g6⟩ := VV.at_ i e hi
    rw [hn] at g3
    have hsm := (ok.ent e hm).small
    have e8 : sizeLine = 16777216 := sizeLine_eq
    refine ⟨_, rfl, d, CD, dx, _, _, rfl, hd, TD.cl, TD.entries, rfl, _, rfl, en, _, rfl, by rw [← g3]; exact DGet.t VV.hen hkey, b, CE, dxe, _, _, rfl, g4, TE.cl, TE.content, rfl, ?_⟩
    refine ⟨_, rfl, ct, _, rfl, .inl (SqL.of g5), (by show 1 ≤ sizeLine; decide), fun q hq => ?_⟩
    have s1 := Same.new (o := HO.lst [V.int ((nV e.value.body).length : Int)]) hq
    refine ⟨_, rfl, q, ct, _, _, rfl, rfl, upd_same, s1 _ _ g5, ?_, fun z hz => ?_⟩
    · rw [nV_length, e8]
      show 1 + _ ≤ _
      omega
    · refine k3 e h2 hf _ z (s1.trans (Same.new hz)) (upd_free hz).1 ?_
      rw [upd_same, nV_length]
      show some (HO.lst (V.int (e.value.body.length : Int) :: nV e.value.body)) = _
      rw [← iV_nI]
      rfl
theorem ok_pk (D : Def1 K mg "do_packet" "do_packet" sPk) (B : Blt mg) (c : Cst4 mg) (cN : CalX P w K mg base (L2.CX P w) 3 "need_agent" (spNeedA CN)) (cR : CalX P w K mg base CX0 7 "request_of" (spReqOf CQ)) (cT : CalX P w K mg base CX0 7 "answer_to" (spTo CD CE CQ)) : CalX P w K mg base (L2.CX P w) 8 "do_packet" (spPk CD CE CN) := by
  refine calX D scPk bPk (fun vs H Q E h => ?_) fun f cdv A outer s H vs Q E hr h => ?_
  · obtain ⟨f, d, p, a, n, rfl, _⟩ := h
    rfl
  · obtain ⟨f', d, p, a, b, rfl, hD, ok, hp, hb, hl, k2, k3⟩ := h
    refine ⟨_, pss_cons (ps_expr (pcall cN hr (by decide) passE (pa_cons (pe_cmpR op_le (plen B (pv 1)) (pcon c.mostPacket) (nomark _)) (pa_cons (pe_un un_neg pe_int) pa_nil)))) <|
      pss_cons (ps_set (i := 2) scPk.nd rfl (.inl rfl) (pcall cR hr (by decide) pass0 (pa_cons (pv 1) pa_nil))) <|
      pss_cons (ps_expr (pcall cN hr (by decide) passE (pa_cons (pe_cmp (pc_notN (pv 2))) (pa_cons (pe_un un_neg pe_int) pa_nil)))) <|
      pss_cons (ps_set (i := 3) scPk.nd rfl (.inl rfl) (pcall cT hr (by decide) pass0 (pa_cons (pv 0) (pa_cons (pv 2) pa_nil)))) <|
      pss_one (ps_ret (pe_ifExp (pt_cmp (pc_isN (pv 3))) (pe_lst (pa_cons pe_int pa_nil)) (pe_op op_cat (pe_lst (pa_cons (plen B (pv 3)) pa_nil)) (pv 3)))), ?_⟩
    have e8 : sizeLine = 16777216 := sizeLine_eq
    refine ⟨_, rfl, p, _, rfl, .inl (SqL.of hp), _, _, rfl, rfl, _, rfl, _, _, rfl, fun z => ?_, fun z => ?_⟩
    case refine_2 =>
      rw [nV_length] at z
      exfalso
      have := of_decide_eq_false z
      omega
    refine ⟨_, rfl, p, b, rfl, hp, hb, hl, fun hn H1 s1 => ?_, fun m hm H1 q s1 nq hq => ?_⟩
    · refine ⟨_, rfl, _, rfl, _, _, rfl, fun z => Bool.noConfusion z, fun _ => (k2 hn).same s1⟩
    · have hq' : ReqAt (fun c => ¬ f' c) CQ H1 q m := by
        obtain ⟨dx, w, i, rl, pq, h1, h2, h3, h4, h5⟩ := hq
        obtain ⟨_, _, _, _, _, _, _, _, VV⟩ := hD
        exact ⟨dx, w, i, rl, pq, h1, h2, h3, h4, h5.imp fun c _ hc hf => VV.hf c hf hc⟩
      refine ⟨_, rfl, _, rfl, _, _, rfl, fun _ => ?_, fun z => Bool.noConfusion z⟩
      refine ⟨_, rfl, _, rfl, f', d, q, a, (Sd23.handle a m).1, m, (Sd23.handle a m).2, rfl, hD.same s1, ok, hq', read_ok hb hm, rfl, fun ho H2 o2 D2 ok2 => ?_, fun ans ho hlen H2 z o2 nz hz D2 ok2 => ?_⟩
      · refine ⟨_, rfl, _, rfl, ?_⟩
        refine ifT rfl ⟨(by show 1 ≤ sizeLine; decide), fun z hz => k3 m hm _ z ((Out.same s1).trans (o2.trans (Out.same (Same.new hz)))) (s1.free (o2.free _ hz)) ?_ (D2.same (Same.new hz)) ok2⟩
        rw [upd_same, ho]
        rfl
      · refine ⟨_, rfl, _, rfl, ?_⟩
        refine ifF rfl ⟨_, rfl, z, _, rfl, .inl (SqL.of hz), (by show 1 ≤ sizeLine; decide), fun y hy => ?_⟩
        have s3 := Same.new (o := HO.lst [V.int ((nV ans).length : Int)]) hy
        refine ⟨_, rfl, y, z, _, _, rfl, rfl, upd_same, s3 _ _ hz, ?_, fun x hx => ?_⟩
        · rw [nV_length, e8]
          show 1 + _ ≤ _
          omega
        · have s4 := s3.trans (Same.new (o := HO.lst ([V.int ((nV ans).length : Int)] ++ nV ans)) hx)
          refine k3 m hm _ x ((Out.same s1).trans (o2.trans (Out.same s4))) (s1.free (o2.free _ (upd_free hx).1)) ?_ (D2.same s4) ok2
          rw [upd_same, ho, nV_length]
          show some (HO.lst (V.int (ans.length : Int) :: nV ans)) = _
          rw [← iV_nI]
          rfl
end
end Ad

/-! ## D25 -/
set_option Elab.async false
set_option linter.all false
set_option maxRecDepth 100000
set_option maxHeartbeats 1000000
namespace Ad
open PySem PySem.Spec PyProof.Rows L2
/-! ### do_drop -/
abbrev sDrop : Stmt := top 84
theorem scDrop : FnScope ["device", "name", "one"] ["device", "name"] (defScope sDrop) := ⟨rfl, rfl, rfl, by decide +kernel, rfl, by decide +kernel, by decide +kernel⟩
theorem bDrop : BindsBy "do_drop" "do_drop" sDrop ["device", "name"] := fun _ _ _ _ _ _ us hl => match us, hl with | [_, _], _ => rfl
def spDrop (CD CE CN : Addr) : Sp := fun vs H Q E => ∃ (f : Addr → Prop) (d p : Addr) (a : Sd23.Abs) (n : List Nat), vs = [.ref d, .ref p] ∧ DevAt f CD CE H d a ∧ OkAbs a ∧ H p = some (.tup (nV n)) ∧
  (n.length < 2 → Ref CN E (-1) H) ∧ (2 ≤ n.length → a.find n = none → Ref CN E (-2) H) ∧ (∀ e, 2 ≤ n.length → a.find n = some e → ∀ H' z, Out H H' → H z = none → H' z = some (.lst [.int 0]) → DevAt f CD CE H' d (dropE a n) → Q (.ref z) H')
section
variable {P : Program} {w : World} {K : PySem.W.Frag} {mg : Str → Option Value} {base : Heap} {CK CD CE CN CQ : Addr}
theorem ok_drop (D : Def1 K mg "do_drop" "do_drop" sDrop) (TD : DvT K CD) (cE : CalX P w K mg base (L2.CX P w) 4 "need_entry" (spNE CD CE CN)) : CalX P w K mg base (L2.CX P w) 5 "do_drop" (spDrop CD CE CN) := by
  refine calX D scDrop bDrop (fun vs H Q E h => ?_) fun f cdv A outer s H vs Q E hr h => ?_
  · obtain ⟨f, d, p, a, n, rfl, _⟩ := h
    rfl
  · obtain ⟨f', d, p, a, n, rfl, hD, ok, hp, k1, k2, k3⟩ := h
    have hu := hu_of hr
    refine ⟨_, pss_cons (ps_expr (pcall cE hr (by decide) passE (pa_cons (pv 0) (pa_cons (pv 1) pa_nil)))) <|
      pss_cons (ps_expr (pe_bm PySem.F.plainAttrs_dict PySem.F.slot_dict_pop PySem.F.type_dict_pop (mt_popT1 hu) (pe_fld (pv 0) rfl) (pa_cons (pv 1) pa_nil))) <|
      pss_cons (ps_fld (pv 0) (pe_lc (own := [("one", 2)]) (g := gName 2) (by rfl) scDrop.nd (pi_list (pe_fld (pv 0) rfl)) (blkOk_by (own := [("one", 2)]) (N := ["device", "name", "one"]) (sc := defScope sDrop) (by decide +kernel)) (fun _ _ _ _ _ => pg_name (i := 2) scDrop.nd rfl (Or.inl rfl))
          (fun _ _ _ _ _ => pts_one (pt_cmpR (r := rNeN K) (op_neN hr.units) (pv 2) (pv 1) (nomark _))) (fun _ _ _ _ _ => pv 2)) rfl) <|
      pss_one (ps_ret (pe_lst (pa_cons pe_int pa_nil))), ?_⟩
    obtain ⟨dx, rd, wr, en, nm, kvs, ps, hd, VV⟩ := id hD
    have hkey : H p = some (.tup ((nK n).map kV)) := by rw [nK_V]; exact hp
    refine ⟨_, rfl, _, rfl, f', d, p, a, n, rfl, hD, hp, k1, k2, fun e h2 hf => ?_⟩
    obtain ⟨hm, hn⟩ := find_some hf
    obtain ⟨i0, hi0⟩ := List.mem_iff_getElem?.mp hm
    obtain ⟨_, b0, _, _, g3, _⟩ := VV.at_ i0 e hi0
    rw [hn] at g3
    have e8 : sizeLine = 16777216 := sizeLine_eq
    refine ⟨_, rfl, d, CD, dx, _, _, rfl, hd, TD.cl, TD.entries, rfl, .inr (.inr (.inl ⟨rfl, .inr ⟨_, VV.hen⟩⟩)), _, rfl, en, kvs, nK n, p, .ref b0, rfl, rfl, VV.hen, hkey, g3, ?_⟩
    have he1 : (upd H en (.dT (dropK kvs (nK n)))) en = some (.dT (dropK kvs (nK n))) := upd_same
    have t1 : ∀ {c : Addr} {o : HO}, H c = some o → c ≠ en → (upd H en (.dT (dropK kvs (nK n)))) c = some o := fun hc hne => by rw [upd_ne hne]; exact hc
    have f1 : ∀ c, (upd H en (.dT (dropK kvs (nK n)))) c = none → H c = none := fun c hc => (upd_free hc).1
    show tSeq _ _ _ _ (upd H en (.dT (dropK kvs (nK n))))
    generalize upd H en (.dT (dropK kvs (nK n))) = H1 at he1 t1 f1 ⊢
    have nde : d ≠ en := ne_of hd VV.hen (by intro z; cases z)
    have nne : nm ≠ en := ne_of VV.hnm VV.hen (by intro z; cases z)
    have hd1 := t1 hd nde
    have hnm1 := t1 VV.hnm nne
    have hp1 := t1 hp (ne_of hp VV.hen (by intro z; cases z))
    refine ⟨_, rfl, d, CD, dx, _, _, rfl, hd1, TD.cl, TD.names, rfl, nm, rfl, ⟨_, SqL.of hnm1⟩, fun D hDn => lc_list (K := K) (a := nm) (xs := rV ps) (fun i H' => Same H1 H' ∧ ∃ pn, H' D = some (.lst (rV pn)) ∧ pn.length ≤ i ∧ NamesAt H' pn (((a.entries.take i).filter fun e => e.name != n).map (·.name)))
      ⟨Same.new hDn, [], upd_same, Nat.le_refl _, rfl, fun i m hi => by simp at hi⟩ (fun i H' _ ⟨s1, _⟩ => s1.seq (SqL.of hnm1)) ?_ ?_⟩
    · rintro i y H' hi ⟨s1, pn, hDp, hlen, hN⟩
      obtain ⟨po, hpo, rfl⟩ := rV_of hi
      have hib : i < a.entries.length := by
        have := (List.getElem?_eq_some_iff.mp hpo).1
        rw [VV.len] at this
        exact this
      obtain ⟨y, hy⟩ : ∃ y, a.entries[i]? = some y := ⟨_, List.getElem?_eq_getElem hib⟩
      obtain ⟨p', b', q1, q2, _⟩ := VV.at_ i y hy
      rw [hpo] at q1
      cases q1
      have q2' := s1 _ _ (t1 q2 (ne_of q2 VV.hen (by intro z; cases z)))
      have hl := ok.few
      refine ⟨rfl, _, rfl, _, rfl, po, p, y.name, n, rfl, rfl, .inr ⟨SqT.of q2', SqT.of (s1 _ _ hp1)⟩, _, rfl, ?_⟩
      rw [take_more hy, List.filter_append, List.map_append]
      refine ifB (fun z => ?_) (fun z => ?_)
      · have z' : y.name ≠ n := fun q => by
          rw [decide_eq_true q] at z
          cases z
        refine ⟨_, rfl, rV pn, hDp, by rw [rV_length, e8]; omega, sameUpd s1 hDn, pn ++ [po], ?_, by rw [List.length_append, List.length_singleton]; omega, ?_⟩
        · rw [upd_same, ← rV_append]
          rfl
        · rw [List.filter_cons_of_pos (by simpa using z')]
          have := (hN.wr (o := .lst (rV pn ++ [V.ref po])) hDp)
          refine ⟨by rw [List.length_append, List.length_append, this.1]; rfl, fun j m hj => ?_⟩
          by_cases c : j < (((a.entries.take i).filter fun e => e.name != n).map (·.name)).length
          · rw [List.getElem?_append_left c] at hj
            rw [List.getElem?_append_left (by rw [this.1]; exact c)]
            exact this.2 j m hj
          · rw [List.getElem?_append_right (by omega)] at hj
            have hj0 : j - (((a.entries.take i).filter fun e => e.name != n).map (·.name)).length = 0 := by
              have := (List.getElem?_eq_some_iff.mp hj).1
              simp at this
              simpa using this
            rw [hj0] at hj
            have hm' : y.name = m := Option.some.inj hj
            subst hm'
            refine ⟨po, ?_, ?_⟩
            · rw [List.getElem?_append_right (by rw [this.1]; omega), this.1, hj0]
              rfl
            · rw [upd_ne (ne_of q2' hDp (by intro z; cases z))]
              exact q2'
      · have z' : y.name = n := by
          rw [Bool.not_eq_false'] at z
          exact of_decide_eq_true z
        rw [List.filter_cons_of_neg (by simp [z'])]
        refine ⟨s1, pn, hDp, by omega, ?_⟩
        show NamesAt H' pn (_ ++ [])
        rw [List.append_nil]
        exact hN
    · rintro H' ⟨s1, pn, hDp, _, hN⟩
      rw [rV_length, VV.len, List.take_length] at hN
      refine ⟨_, rfl, d, CD, dx, _, rfl, s1 _ _ hd1, TD.cl, TD.names, (by show 4 < 1000; decide), (by show 1 ≤ sizeLine; decide), fun z hz => ?_⟩
      have hz1 := upd_free hz
      have hDH : H D = none := f1 _ hDn
      have keep : ∀ {c : Addr} {o : HO}, H' c = some o → c ≠ d → (upd (upd H' d (.ins CD dx (vF rd wr en D))) z (.lst [.int 0])) c = some o := fun hc hne => by
        rw [upd_ne (ne_of_none hc hz1.1), upd_ne hne]
        exact hc
      have ndd : D ≠ d := fun q => by
        rw [q, hd1] at hDn
        cases hDn
      refine k3 e h2 hf (upd (upd H' d (.ins CD dx (vF rd wr en D))) z (.lst [.int 0])) z ⟨fun c o hc t => ?_, fun c hc => ?_⟩ (f1 _ (s1.free hz1.1)) upd_same ?_
      · have c1 : c ≠ en := fun q => by
          rw [q, VV.hen] at hc
          cases hc
          exact t
        have c2 : c ≠ d := fun q => by
          rw [q, hd] at hc
          cases hc
          rcases t with t | t
          · exact absurd t (by show ¬ 4 ≤ 2; decide)
          · exact absurd t (by show ¬ 4 = 6; decide)
        exact keep (s1 _ _ (t1 hc c1)) c2
      · exact f1 _ (s1.free (upd_free (upd_free hc).1).1)
      · refine ⟨dx, rd, wr, en, D, dropK kvs (nK n), pn, ?_, VV.drop ok hf (fun c o hc c1 t => ?_) ?_ (fun c hc q => ?_) ?_ (fun q => ?_) ?_⟩
        · rw [upd_ne hz1.2.symm, upd_same]
        · have c2 : c ≠ d := fun q => by
            rw [q, hd] at hc
            cases hc
            rcases t CD dx (vF rd wr en nm) with t | t
            · exact t rfl
            · exact absurd t (by show ¬ 4 = 5; decide)
          exact keep (s1 _ _ (t1 hc c1)) c2
        · exact keep (s1 _ _ he1) nde.symm
        · exact VV.hf c hc (f1 _ (s1.free (upd_free (upd_free q).1).1))
        · exact keep hDp ndd
        · exact VV.hf _ q hDH
        · refine ⟨hN.1, fun j m hj => ?_⟩
          obtain ⟨q, x1, x2⟩ := hN.2 j m hj
          exact ⟨q, x1, keep x2 (ne_of x2 (s1 _ _ hd1) (by intro z; cases z))⟩
end
end Ad

/-! ## D26 -/
set_option Elab.async false
set_option linter.all false
set_option maxRecDepth 100000
set_option maxHeartbeats 1000000
namespace Ad
open PySem PySem.Spec PyProof.Rows L2
/-! ### do_add -/
def addOk (n : List Nat) (kind : Int) (b : List Nat) : Bool := (Sd23.good n && decide (b.length ≤ 64)) && (!decide (kind = 5) && isValue kind b)
def addEnt (n : List Nat) (kind st lo hi : Int) (b : List Nat) : Sd23.Entry := ⟨n, ⟨kind.toNat, b⟩, !decide (st = 0), lo, hi⟩
theorem addOk_kind {n : List Nat} {kind : Int} {b : List Nat} (h : addOk n kind b = true) : ((kind.toNat : Nat) : Int) = kind ∧ OkEnt (addEnt n kind 0 0 0 b) := by
  unfold addOk at h
  rw [Bool.and_eq_true, Bool.and_eq_true, Bool.and_eq_true] at h
  obtain ⟨⟨h1, h2⟩, h3, h4⟩ := h
  have h2' := of_decide_eq_true h2
  have h5 : kind ≠ 5 := fun q => by
    rw [decide_eq_true q] at h3
    cases h3
  have hk : kind = 2 ∨ kind = 4 ∨ kind = 6 ∨ kind = 64 ∨ kind = 65 ∨ kind = 66 ∨ kind = 67 ∨ kind = 70 := by
    refine Classical.byContradiction fun q => ?_
    unfold isValue at h4
    rw [if_neg (by omega), if_neg (by omega), if_neg (by omega), if_neg (by omega), if_neg (by omega), if_neg (by omega)] at h4
    simp [h5] at h4
  refine ⟨by omega, ⟨h1, by show b.length ≤ 1472; omega, ?_⟩⟩
  show Sd23.kinds.contains kind.toNat = true
  rcases hk with h | h | h | h | h | h | h | h <;> rw [h] <;> decide
theorem addEnt_ok {n : List Nat} {kind st lo hi : Int} {b : List Nat} (h : addOk n kind b = true) : OkEnt (addEnt n kind st lo hi b) := by
  obtain ⟨_, o⟩ := addOk_kind h
  exact ⟨o.good, o.small, o.kind⟩
noncomputable def keyN (H : Hp) (q : Addr) : List Nat := Classical.epsilon fun n => H q = some (.tup (nV n))
theorem keyN_of {H : Hp} {q : Addr} {n : List Nat} (h : H q = some (.tup (nV n))) : keyN H q = n := by
  have := Classical.epsilon_spec (p := fun n => H q = some (HO.tup (nV n))) ⟨n, h⟩
  have e : H q = some (.tup (nV (keyN H q))) := this
  rw [h] at e
  exact (nV_inj (HO.tup.inj (Option.some.inj e))).symm
theorem names_map {ps : List Addr} {l : List Sd23.Entry} {k : Addr → List Nat} (hl : ps.length = l.length) (h : ∀ (i : Nat) e, l[i]? = some e → ∃ p, ps[i]? = some p ∧ k p = e.name) : ps.map k = l.map (·.name) := by
  refine List.ext_getElem? fun i => ?_
  rw [List.getElem?_map, List.getElem?_map]
  cases hi : l[i]? with
  | none =>
    rw [List.getElem?_eq_none (by have := List.getElem?_eq_none_iff.mp hi; omega)]
    rfl
  | some e =>
    obtain ⟨p, h1, h2⟩ := h i e hi
    rw [h1]
    show some (k p) = some e.name
    rw [h2]
abbrev sAdd : Stmt := top 82
abbrev nAdd : List Str := ["device", "given", "name", "content", "kind", "settable", "low", "high", "entry"]
theorem scAdd : FnScope nAdd ["device", "given", "name", "content"] (defScope sAdd) := ⟨rfl, rfl, rfl, by decide +kernel, rfl, by decide +kernel, by decide +kernel⟩
theorem bAdd : BindsBy "do_add" "do_add" sAdd ["device", "given", "name", "content"] := fun _ _ _ _ _ _ us hl => match us, hl with | [_, _, _, _], _ => rfl
def spAdd (CD CE CN : Addr) : Sp := fun vs H Q E => ∃ (f : Addr → Prop) (d g p c : Addr) (a : Sd23.Abs) (n b : List Nat) (kind st lo hi : Int), vs = [.ref d, .ref g, .ref p, .ref c] ∧ DevAt f CD CE H d a ∧ OkAbs a ∧ H g = some (.lst [.int kind, .int st, .int lo, .int hi]) ∧ H p = some (.tup (nV n)) ∧ H c = some (.lst (nV b)) ∧ ¬ f c ∧
  AllB b ∧ b.length ≤ 100000 ∧ n.length ≤ 200000 ∧ (addOk n kind b = false → Ref CN E (-1) H) ∧
  (addOk n kind b = true → ∀ e0, a.find n = some e0 → ¬ (e0.value.mark : Int) = kind → Ref CN E (-2) H) ∧
  (addOk n kind b = true → ∀ e0, a.find n = some e0 → (e0.value.mark : Int) = kind → ∀ H' z, Out H H' → H z = none → H' z = some (.lst [.int 1]) → DevAt f CD CE H' d (repE a (addEnt n kind st lo hi b)) → Q (.ref z) H') ∧
  (addOk n kind b = true → a.find n = none → 512 ≤ a.entries.length → Ref CN E (-2) H) ∧
  (addOk n kind b = true → a.find n = none → a.entries.length < 512 → ∀ H' z, Out H H' → H z = none → H' z = some (.lst [.int 0]) → DevAt f CD CE H' d (addE a (addEnt n kind st lo hi b)) → Q (.ref z) H')
section
variable {P : Program} {w : World} {K : PySem.W.Frag} {mg : Str → Option Value} {base : Heap} {CK CD CE CN CQ aC aN : Addr}
def tA1 : TE := fun σ H Q => ∃ (p c : Addr) (n b : List Nat), σ[2]? = some (some (.ref p)) ∧ σ[3]? = some (some (.ref c)) ∧ H p = some (.tup (nV n)) ∧ n.length ≤ 200000 ∧ H c = some (.lst (nV b)) ∧ ∀ H', Same H H' → Q (.bl (Sd23.good n && decide (b.length ≤ 64))) H'
theorem tA1_of (σ : L2.St) (H : Hp) (Q : VK) (h : tA1 σ H Q) : tAndV (tCall (spIsName K) [] E0 (tCons (tVar 2) tNil)) (tOp (rI0 fun i j => .bl (decide (i ≤ j))) (tCB (rLen1 K) (tCons (tVar 3) tNil)) (tC (.int 64))) σ H Q := by
  obtain ⟨p, c, n, b, h2, h3, hp, hl, hc, k⟩ := h
  refine ⟨_, h2, p, n, rfl, SqT.of hp, hl, fun H1 s1 => ⟨_, rfl, ?_⟩⟩
  have k' := k H1 s1
  refine ifB (fun z => ?_) (fun z => ?_)
  · rw [z, Bool.true_and] at k'
    refine ⟨_, h3, c, _, rfl, .inl (SqL.of (s1 _ _ hc)), _, _, rfl, rfl, ?_⟩
    rw [nV_length]
    have : decide ((b.length : Int) ≤ 64) = decide (b.length ≤ 64) := decide_eq_decide.mpr (by omega)
    show Q (.bl (decide ((b.length : Int) ≤ 64))) H1
    rw [this]
    exact k'
  · rw [z, Bool.false_and] at k'
    exact k'
def tA2 : TE := fun σ H Q => ∃ (kind : Int) (c : Addr) (b : List Nat), σ[4]? = some (some (.int kind)) ∧ σ[3]? = some (some (.ref c)) ∧ H c = some (.lst (nV b)) ∧ AllB b ∧ b.length ≤ 100000 ∧ ∀ H', Same H H' → Q (.bl (!decide (kind = 5) && isValue kind b)) H'
theorem tA2_of (σ : L2.St) (H : Hp) (Q : VK) (h : tA2 σ H Q) : tAndV (tOp rNe (tVar 4) (tC (.int 5))) (tCall (spIsValue K) [] E0 (tCons (tVar 4) (tCons (tVar 3) tNil))) σ H Q := by
  obtain ⟨kind, c, b, h4, h3, hc, hb, hl, k⟩ := h
  refine ⟨_, h4, rfl, _, rfl, ?_⟩
  have dz : decide (V.int kind = V.int 5) = decide (kind = 5) := dZ
  rw [dz]
  refine ifB (fun z => ?_) (fun z => ?_)
  · refine ⟨_, h4, _, h3, kind, c, b, rfl, SqL.of hc, hb, hl, fun H1 s1 => ?_⟩
    have k' := k H1 s1
    rw [z, Bool.true_and] at k'
    exact k'
  · have k' := k H (Same.refl H)
    rw [z, Bool.false_and] at k'
    exact k'
theorem ok_add (D : Def1 K mg "do_add" "do_add" sAdd) (B : Blt mg) (c1 : Cst1 K mg aC aN) (c3 : Cst3 mg) (c4 : Cst4 mg) (TD : DvT K CD) (TE : EnT K CE) (cN : CalX P w K mg base (L2.CX P w) 3 "need_agent" (spNeedA CN)) (cI : CalX P w K mg base CX0 1 "is_name" (spIsName K)) (cV : CalX P w K mg base CX0 3 "is_value" (spIsValue K))
    (cE : MakX P w K mg base 1 "Entry" CE (spEnI CE)) : CalX P w K mg base (L2.CX P w) 4 "do_add" (spAdd CD CE CN) := by
  refine calX D scAdd bAdd (fun vs H Q E h => ?_) fun f cdv A outer s H vs Q E hr h => ?_
  · obtain ⟨f, d, g, p, c, a, n, b, kind, st, lo, hi, rfl, _⟩ := h
    rfl
  · obtain ⟨f', d, g, p, c, a, n, b, kind, st, lo, hi, rfl, hD, ok, hg, hp, hc, nc, hb, hbl, hnl, kF, kM, kR, kL, kA⟩ := h
    have hu := hu_of hr
    refine ⟨_, pss_cons (ps_asg (pv 1) (pg_lst rfl (pgs_cons (pg_name (i := 4) scAdd.nd rfl (.inl rfl)) (pgs_cons (pg_name (i := 5) scAdd.nd rfl (.inl rfl)) (pgs_cons (pg_name (i := 6) scAdd.nd rfl (.inl rfl)) (pgs_cons (pg_name (i := 7) scAdd.nd rfl (.inl rfl)) pgs_nil)))))) <|
      pss_cons (ps_expr (pcall cN hr (by decide) passE (pa_cons (PEimp (t' := tA1) (pe_and (pcall cI hr (by decide) pass0 (pa_cons (pv 2) pa_nil)) (pe_one (pe_cmpR op_le (plen B (pv 3)) (pcon c3.mostValue) (nomark _)))) tA1_of) (pa_cons (pe_un un_neg pe_int) pa_nil)))) <|
      pss_cons (ps_expr (pcall cN hr (by decide) passE (pa_cons (PEimp (t' := tA2) (pe_and (pe_cmpR op_ne (pv 4) (pcon c1.nothing) (nomark _)) (pe_one (pcall cV hr (by decide) pass0 (pa_cons (pv 4) (pa_cons (pv 3) pa_nil))))) tA2_of) (pa_cons (pe_un un_neg pe_int) pa_nil)))) <|
      pss_cons (ps_set (i := 8) scAdd.nd rfl (.inl rfl) (pmake cE hr (by decide) (pa_cons (pv 4) (pa_cons (pv 3) (pa_cons (pe_cmpR op_ne (pv 5) pe_int (nomark _)) (pa_cons (pv 6) (pa_cons (pv 7) pa_nil))))))) <|
      pss_cons (ps_if (pt_cmp (pc_din hu (pv 2) (pe_fld (pv 0) rfl)))
        (pss_cons (ps_expr (pcall cN hr (by decide) passE (pa_cons (pe_cmpR op_eq (pe_fld (pe_dget hu (pe_fld (pv 0) rfl) (pv 2) (fun _ _ => rfl)) rfl) (pv 4) (nomark _)) (pa_cons (pe_un un_neg pe_int) pa_nil)))) <|
         pss_cons (ps_dput hu (pe_fld (pv 0) rfl) (pv 2) (pv 8) rfl) <|
         pss_one (ps_ret (pe_lst (pa_cons pe_int pa_nil)))) pss_nil) <|
      pss_cons (ps_expr (pcall cN hr (by decide) passE (pa_cons (pe_cmpR op_lt (plen B (pe_fld (pv 0) rfl)) (pcon c4.mostEntries) (nomark _)) (pa_cons (pe_un un_neg pe_int) pa_nil)))) <|
      pss_cons (ps_dput hu (pe_fld (pv 0) rfl) (pv 2) (pv 8) rfl) <|
      pss_cons (ps_fld (pv 0) (pe_callB cr_sortedN (by rfl) B.sorted (by decide +kernel) (pa_cons (pe_op op_cat (pe_fld (pv 0) rfl) (pe_lst (pa_cons (pv 2) pa_nil))) pa_nil)) rfl) <|
      pss_one (ps_ret (pe_lst (pa_cons pe_int pa_nil))), ?_⟩
    refine ⟨_, rfl, g, _, rfl, SqL.of hg, rfl, _, _, rfl, _, _, rfl, _, _, rfl, _, _, rfl, rfl, ?_⟩
    refine ⟨p, c, n, b, rfl, rfl, hp, hnl, hc, fun H1 s1 => ⟨_, rfl, _, _, rfl, fun z1 => ?_, fun z1 => ?_⟩⟩
    case refine_2 =>
      exact (kF (by unfold addOk; rw [z1]; rfl)).same s1
    refine ⟨kind, c, b, rfl, rfl, s1 _ _ hc, hb, hbl, fun H2 s2' => ⟨_, rfl, _, _, rfl, fun z2 => ?_, fun z2 => ?_⟩⟩
    case refine_2 =>
      exact (kF (by unfold addOk; rw [z1, z2]; rfl)).same (s1.trans s2')
    have hok : addOk n kind b = true := by
      unfold addOk
      rw [z1, z2]
      rfl
    have s2 := s1.trans s2'
    obtain ⟨hkd, _⟩ := addOk_kind hok
    have oe : OkEnt (addEnt n kind st lo hi b) := addEnt_ok hok
    have e8 : sizeLine = 16777216 := sizeLine_eq
    have dst : decide (V.int st = V.int 0) = decide (st = 0) := dZ
    -- entry = Entry(..)
    refine ⟨_, rfl, _, rfl, _, rfl, rfl, _, rfl, _, rfl, fun x dx' nx ndx ne => ⟨x, dx', c, kind, lo, hi, !decide (V.int st = V.int 0), rfl, upd_same, fun H3 b3 e3 => ⟨rfl, ?_⟩⟩⟩
    have s3' : Same H2 H3 := Same.made nx ndx fun b' o e hb => b3 b' o hb e
    have s3 := s2.trans s3'
    have nxH : H x = none := s2.free nx
    rw [dst] at e3
    obtain ⟨dx, rd, wr, en, nm, kvs, ps, hd, VV⟩ := id (hD.same s3)
    have hp3 := s3 _ _ hp
    have hkey : H3 p = some (.tup ((nK n).map kV)) := by rw [nK_V]; exact hp3
    have hfr : ∀ m, valV kvs (nK m) ≠ some (.ref x) := by
      obtain ⟨dx0, rd0, wr0, en0, nm0, kvs0, ps0, hd0, VV0⟩ := id hD
      have e := s3 _ _ hd0
      rw [hd] at e
      have e' := (HO.ins.inj (Option.some.inj e)).2.2
      have q3 : en = en0 := V.ref.inj (Prod.mk.inj (List.cons.inj (List.cons.inj (List.cons.inj e').2).2).1).2
      subst q3
      have := s3 _ _ VV0.hen
      rw [VV.hen] at this
      have ek : kvs = kvs0 := HO.dT.inj (Option.some.inj this)
      subst ek
      exact VV0.fresh nxH
    have hent : H3 x = some (.ins CE dx' (eF ((addEnt n kind st lo hi b).value.mark : Int) c (addEnt n kind st lo hi b).write lo hi)) := by
      rw [e3]
      show some (HO.ins CE dx' (eF kind c (!decide (st = 0)) lo hi)) = some (HO.ins CE dx' (eF ((kind.toNat : Nat) : Int) c (!decide (st = 0)) lo hi))
      rw [hkd]
    have hc3 := s3 _ _ hc
    have hfewk : kvs.length < sizeLine := by
      have := VV.few
      have := ok.few
      omega
    have oenK : ∀ {o' : HO}, Out H3 (upd H3 en o') := fun {o'} => Out.upd VV.hen fun h => h
    -- name in device.entries
    refine ⟨_, rfl, _, rfl, d, CD, dx, _, _, rfl, hd, TD.cl, TD.entries, rfl, en, _, rfl, DGet.t VV.hen hkey, _, rfl, ?_⟩
    cases hf : a.find n with
    | some e0 =>
      obtain ⟨hm, hn⟩ := find_some hf
      obtain ⟨i, hi'⟩ := List.mem_iff_getElem?.mp hm
      obtain ⟨p', b0, g1, g2, g3, dxe, ct, g4, g5, g6⟩ := VV.at_ i e0 hi'
      rw [hn] at g3
      rw [g3]
      refine ifT rfl ?_
      have dm : decide (V.int (e0.value.mark : Int) = V.int kind) = decide ((e0.value.mark : Int) = kind) := dZ
      refine ⟨_, rfl, d, CD, dx, _, _, rfl, hd, TD.cl, TD.entries, rfl, _, rfl, en, _, rfl, by rw [← g3]; exact DGet.t VV.hen hkey, b0, CE, dxe, _, _, rfl, g4, TE.cl, TE.kind, rfl, _, rfl, rfl, _, rfl, _, _, rfl, fun z => ?_, fun z => ?_⟩
      case refine_2 =>
        rw [dm] at z
        exact (kM hok e0 hf (of_decide_eq_false z)).same s3
      rw [dm] at z
      refine ⟨_, rfl, _, rfl, d, CD, dx, _, _, rfl, hd, TD.cl, TD.entries, rfl, _, rfl, en, _, rfl, DPut.t VV.hen hkey hfewk, (by show 1 ≤ sizeLine; decide), fun y hy => ?_⟩
      have hy1 := upd_free hy
      refine kR hok e0 hf (of_decide_eq_true z) _ y ((Out.same s3).trans (oenK.trans (Out.same (Same.new hy)))) (s3.free hy1.1) upd_same ?_
      refine DevAt.same (H := upd H3 en (.dT (putK kvs (nK n) (.ref x)))) ⟨dx, rd, wr, en, nm, _, ps, ?_, VV.rep ok (e := addEnt n kind st lo hi b) g3 hfr ⟨dx', c, ?_, ?_, nc⟩⟩ (Same.new hy)
      · rw [upd_ne (ne_of hd VV.hen (by intro z; cases z))]
        exact hd
      · rw [upd_ne (ne_of e3 VV.hen (by intro z; cases z))]
        exact hent
      · rw [upd_ne (ne_of hc3 VV.hen (by intro z; cases z))]
        exact hc3
    | none =>
      rw [VV.non n hf]
      refine ifF rfl ?_
      refine ⟨_, rfl, d, CD, dx, _, _, rfl, hd, TD.cl, TD.names, rfl, nm, _, rfl, .inl (SqL.of VV.hnm), _, _, rfl, rfl, _, rfl, _, _, rfl, fun z => ?_, fun z => ?_⟩
      case refine_2 =>
        rw [rV_length, VV.len] at z
        exact (kL hok hf (by have := of_decide_eq_false z; omega)).same s3
      rw [rV_length, VV.len] at z
      have hlt : a.entries.length < 512 := by have := of_decide_eq_true z; omega
      refine ⟨_, rfl, _, rfl, d, CD, dx, _, _, rfl, hd, TD.cl, TD.entries, rfl, _, rfl, en, _, rfl, DPut.t VV.hen hkey hfewk, ?_⟩
      have he4 : (upd H3 en (.dT (putK kvs (nK n) (.ref x)))) en = some (.dT (putK kvs (nK n) (.ref x))) := upd_same
      have t4' : ∀ {c : Addr} {o : HO}, H3 c = some o → c ≠ en → (upd H3 en (.dT (putK kvs (nK n) (.ref x)))) c = some o := fun hc hne => by rw [upd_ne hne]; exact hc
      have t4 : ∀ {c : Addr} {o : HO}, H3 c = some o → HO.dT kvs ≠ o → (upd H3 en (.dT (putK kvs (nK n) (.ref x)))) c = some o := fun hc hne => by rw [upd_ne (ne_of hc VV.hen fun q => hne q.symm)]; exact hc
      have f4 : ∀ c, (upd H3 en (.dT (putK kvs (nK n) (.ref x)))) c = none → H3 c = none := fun c hc => (upd_free hc).1
      show tSeq _ _ _ _ (upd H3 en (.dT (putK kvs (nK n) (.ref x))))
      generalize upd H3 en (.dT (putK kvs (nK n) (.ref x))) = H4 at he4 t4 t4' f4 ⊢
      have hd4 := t4 hd (by intro z; cases z)
      have hnm4 := t4 VV.hnm (by intro z; cases z)
      have hfew := ok.few
      refine ⟨_, rfl, d, CD, dx, _, _, rfl, hd4, TD.cl, TD.names, rfl, _, rfl, (by show 1 ≤ sizeLine; decide), fun l hl => ?_⟩
      have s5 := Same.new (o := HO.lst [V.ref p]) hl
      refine ⟨nm, l, _, _, rfl, rfl, s5 _ _ hnm4, upd_same, ?_, fun l2 hl2 => ?_⟩
      · rw [rV_length, VV.len, e8]
        show _ + 1 ≤ _
        omega
      have s6 : Same H4 (upd (upd H4 l (.lst [.ref p])) l2 (.lst (rV ps ++ [.ref p]))) := s5.trans (Same.new hl2)
      have h62 : (upd (upd H4 l (.lst [.ref p])) l2 (.lst (rV ps ++ [.ref p]))) l2 = some (.lst (rV (ps ++ [p]))) := by
        rw [upd_same, ← rV_append]
        rfl
      generalize upd (upd H4 l (.lst [.ref p])) l2 (.lst (rV ps ++ [.ref p])) = H6 at s6 h62 ⊢
      have tup6 : ∀ {q : Addr} {m : List Nat}, H3 q = some (.tup (nV m)) → H6 q = some (.tup (nV m)) := fun hq => s6 _ _ (t4 hq (by intro z; cases z))
      have key : ∀ q ∈ ps ++ [p], H3 q = some (.tup (nV (keyN H3 q))) ∧ keyN H3 q ≠ [] := fun q hq => by
        rcases List.mem_append.mp hq with hq | hq
        · obtain ⟨i, hi'⟩ := List.mem_iff_getElem?.mp hq
          obtain ⟨y, hy⟩ : ∃ y, a.entries[i]? = some y := ⟨_, List.getElem?_eq_getElem (by have := (List.getElem?_eq_some_iff.mp hi').1; rw [VV.len] at this; exact this)⟩
          obtain ⟨q', _, g1, g2, _⟩ := VV.at_ i y hy
          rw [hi'] at g1
          cases g1
          rw [keyN_of g2]
          refine ⟨g2, fun e => ?_⟩
          have := (good_len (ok.ent y (List.mem_of_getElem? hy)).good).1
          rw [e] at this
          exact absurd this (by decide)
        · rw [List.mem_singleton.mp hq, keyN_of hp3]
          refine ⟨hp3, fun e => ?_⟩
          have := (good_len (show Sd23.good n = true from oe.good)).1
          rw [e] at this
          exact absurd this (by decide)
      refine ⟨l2, ps ++ [p], keyN H3, rfl, SqL.of h62, fun q hq => ⟨tup6 (key q hq).1, (key q hq).2⟩, fun qs z hpm hsd hz => ?_⟩
      have hmap : qs.map (keyN H3) = (Sd23.insert (addEnt n kind st lo hi b) a.entries).map (·.name) := by
        have m1 : ps.map (keyN H3) = a.entries.map (·.name) := names_map VV.len fun i y hy => by
          obtain ⟨q', _, g1, g2, _⟩ := VV.at_ i y hy
          exact ⟨q', g1, keyN_of g2⟩
        refine sorted_uniq ?_ (List.pairwise_map.mpr hsd) (List.pairwise_map.mpr ((insert_sorted ok.sorted fun x hx => find_none hf hx).imp fun h => before_asymm h))
        refine (hpm.map (keyN H3)).trans ?_
        rw [List.map_append, m1]
        refine List.Perm.trans ?_ ((insert_perm (addEnt n kind st lo hi b) a.entries).map (·.name)).symm
        show ((a.entries.map (·.name)) ++ [keyN H3 p]).Perm (n :: a.entries.map (·.name))
        rw [keyN_of hp3]
        exact List.perm_append_comm
      have s7 := s6.trans (Same.new (o := HO.lst (rV qs)) hz)
      have hz7 : (upd H6 z (.lst (rV qs))) z = some (.lst (rV qs)) := upd_same
      have tup7 : ∀ {q : Addr} {m : List Nat}, H3 q = some (.tup (nV m)) → (upd H6 z (.lst (rV qs))) q = some (.tup (nV m)) := fun hq => s7 _ _ (t4 hq (by intro z; cases z))
      have nz4 : H4 z = none := s6.free hz
      generalize upd H6 z (.lst (rV qs)) = H7 at s7 hz7 tup7 ⊢
      refine ⟨_, rfl, d, CD, dx, _, rfl, s7 _ _ hd4, TD.cl, TD.names, (by show 4 < 1000; decide), (by show 1 ≤ sizeLine; decide), fun y hy => ?_⟩
      have hy1 := upd_free hy
      have keep : ∀ {c : Addr} {o : HO}, H7 c = some o → c ≠ d → (upd (upd H7 d (.ins CD dx (vF rd wr en z))) y (.lst [.int 0])) c = some o := fun hc hne => by
        rw [upd_ne (ne_of_none hc hy1.1), upd_ne hne]
        exact hc
      have nde : d ≠ en := ne_of hd VV.hen (by intro z; cases z)
      have nzd : z ≠ d := fun q => by
        rw [q, hd4] at nz4
        cases nz4
      have hcd : ∀ {c : Addr} {o : HO}, H3 c = some o → (∀ C x fs, o ≠ .ins C x fs ∨ fs.length = 5) → c ≠ d := fun hc t q => by
        rw [q, hd] at hc
        cases hc
        rcases t CD dx (vF rd wr en nm) with t | t
        · exact t rfl
        · exact absurd t (by show ¬ 4 = 5; decide)
      have fr : ∀ c, (upd (upd H7 d (.ins CD dx (vF rd wr en z))) y (.lst [.int 0])) c = none → H3 c = none := fun c hc => f4 _ (s7.free (upd_free (upd_free hc).1).1)
      have out : Out H3 (upd (upd H7 d (.ins CD dx (vF rd wr en z))) y (.lst [.int 0])) := by
        refine ⟨fun c o hc t => ?_, fr⟩
        have c1' : HO.dT kvs ≠ o := fun q => by
          rw [← q] at t
          exact t
        have c2' : c ≠ d := fun q => by
          rw [q, hd] at hc
          cases hc
          rcases t with t | t
          · exact absurd t (by show ¬ 4 ≤ 2; decide)
          · exact absurd t (by show ¬ 4 = 6; decide)
        exact keep (s7 _ _ (t4 hc c1')) c2'
      refine kA hok hf hlt _ y ((Out.same s3).trans out) (s3.free (f4 _ (s7.free hy1.1))) upd_same ?_
      refine ⟨dx, rd, wr, en, z, putK kvs (nK n) (.ref x), qs, ?_, VV.add ok (e := addEnt n kind st lo hi b) hf hfr (fun c o hc1 hne t => ?_) ?_ ⟨dx', c, ?_, ?_, nc⟩ (fun c hc1 q => VV.hf c hc1 (fr c q)) ?_ (fun q => VV.hf _ q (f4 _ nz4)) ?_ fun i y' hy' => ?_⟩
      · rw [upd_ne hy1.2.symm, upd_same]
        rfl
      · exact keep (s7 _ _ (t4' hc1 hne)) (hcd hc1 t)
      · exact keep (s7 _ _ he4) nde.symm
      · exact keep (s7 _ _ (t4 hent (by intro z; cases z))) (hcd hent fun C x fs => by
          by_cases q : HO.ins CE dx' (eF ((addEnt n kind st lo hi b).value.mark : Int) c (addEnt n kind st lo hi b).write lo hi) = .ins C x fs
          · cases q
            exact .inr rfl
          · exact .inl q)
      · exact keep (s7 _ _ (t4 hc3 (by intro z; cases z))) (hcd hc3 fun C x fs => .inl (by intro z; cases z))
      · exact keep hz7 nzd
      · have := hpm.length_eq
        rw [this, List.length_append, VV.len]
        rfl
      · have hq1 : (qs.map (keyN H3))[i]? = some y'.name := by
          rw [hmap, List.getElem?_map, hy']
          rfl
        rw [List.getElem?_map] at hq1
        cases hqi : qs[i]? with
        | none =>
          rw [hqi] at hq1
          cases hq1
        | some q =>
          rw [hqi] at hq1
          have hkq : keyN H3 q = y'.name := Option.some.inj hq1
          have hmem := hpm.mem_iff.mp (List.mem_of_getElem? hqi)
          have h3q := (key q hmem).1
          rw [hkq] at h3q
          exact ⟨q, rfl, keep (tup7 h3q) (hcd h3q fun C x fs => .inl (by intro z; cases z))⟩
end
end Ad

/-! ## D27 -/
set_option Elab.async false
set_option linter.all false
set_option maxRecDepth 100000
set_option maxHeartbeats 1000000
namespace Ad
open PySem PySem.Spec PyProof.Rows L2
/-! ### answer_call -/
def act (o : Option Sd23.Abs) (c : Int) (g : List Int) (r : List (List Nat)) : Option Sd23.Abs × List Int :=
  if c = 0 then (match r with
    | [x, y] => if okOpen x y = true then (some ⟨x, y, []⟩, [0]) else (none, [-1])
    | _ => (o, []))
  else match o with
    | none => (none, [-3])
    | some a =>
      if c = 1 then (match g, r with
        | [kind, st, lo, hi], [n, b] => if addOk n kind b = true then (match a.find n with
          | some e => if (e.value.mark : Int) = kind then (some (repE a (addEnt n kind st lo hi b)), [1]) else (some a, [-2])
          | none => if a.entries.length < 512 then (some (addE a (addEnt n kind st lo hi b)), [0]) else (some a, [-2])) else (some a, [-1])
        | _, _ => (some a, []))
      else if c = 2 then (match r with
        | [n] => if n.length < 2 then (some a, [-1]) else (match a.find n with
          | none => (some a, [-2])
          | some _ => (some (dropE a n), [0]))
        | _ => (some a, []))
      else if c = 3 then (match r with
        | [n] => if n.length < 2 then (some a, [-1]) else (match a.find n with
          | none => (some a, [-2])
          | some e => (some a, (e.value.body.length : Int) :: nI e.value.body))
        | _ => (some a, []))
      else (match r with
        | [b] => (match Sd23.read b with
          | none => (some a, [-2])
          | some m => (some (Sd23.handle a m).1, toI (Sd23.handle a m).2))
        | _ => (some a, []))
def Shp (c : Int) (g : List Int) (r : List (List Nat)) : Prop :=
  (c = 0 ∧ ∃ x y, r = [x, y]) ∨ (c = 1 ∧ (∃ k s l h, g = [k, s, l, h]) ∧ ∃ n b, r = [n, b] ∧ AllB b ∧ b.length ≤ 100000 ∧ n.length ≤ 200000) ∨ (c = 2 ∧ ∃ n, r = [n]) ∨ (c = 3 ∧ ∃ n, r = [n]) ∨ (c = 4 ∧ ∃ b, r = [b] ∧ AllB b ∧ b.length ≤ 16000)
structure OutK (k : Addr) (H H' : Hp) : Prop where
  keep : ∀ b o, b ≠ k → H b = some o → Oth o → H' b = some o
  free : ∀ b, H' b = none → H b = none
theorem OutK.out {k : Addr} {H H' : Hp} (s : Out H H') : OutK k H H' := ⟨fun b o _ e t => s.keep b o e t, s.free⟩
theorem OutK.bt {k : Addr} {H H' : Hp} (s : Bt k H H') (hk : H' k ≠ none) : OutK k H H' := ⟨fun b o n e _ => s b o n e, fun b e => by
  cases h : H b with
  | none => rfl
  | some o =>
    by_cases q : b = k
    · rw [q] at e
      exact absurd e hk
    · rw [s b o q h] at e
      cases e⟩
abbrev sCall : Stmt := top 87
abbrev nCall : List Str := ["desk", "call", "given", "rows", "device"]
theorem scCall : FnScope nCall ["desk", "call", "given", "rows"] (defScope sCall) := ⟨rfl, rfl, rfl, by decide +kernel, rfl, by decide +kernel, by decide +kernel⟩
theorem bCall : BindsBy "answer_call" "answer_call" sCall ["desk", "call", "given", "rows"] := fun _ _ _ _ _ _ us hl => match us, hl with | [_, _, _, _], _ => rfl
def LstsAt (f : Addr → Prop) (H : Hp) (ps : List Addr) (r : List (List Nat)) : Prop := ps.length = r.length ∧ ∀ (i : Nat) b, r[i]? = some b → ∃ p, ps[i]? = some p ∧ H p = some (.lst (nV b)) ∧ ¬ f p
def spCall (CK CD CE CN : Addr) : Sp := fun vs H Q E => ∃ (f : Addr → Prop) (k g rl : Addr) (c : Int) (o o' : Option Sd23.Abs) (gl : List Int) (r : List (List Nat)) (rp : List Addr) (ans : List Int), vs = [.ref k, .int c, .ref g, .ref rl] ∧ DeskAt f CK CD CE H k o ∧ H g = some (.lst (iV gl)) ∧ H rl = some (.lst (rV rp)) ∧
  LstsAt f H rp r ∧ (∀ c, f c → H c ≠ none) ∧ Shp c gl r ∧ act o c gl r = (o', ans) ∧
  (∀ H' z, OutK k H H' → H z = none → H' z = some (.lst (iV ans)) → DeskAt f CK CD CE H' k o' → Q (.ref z) H') ∧
  (∀ n, ans = [n] → ∀ H' x, OutK k H H' → DeskAt f CK CD CE H' k o' → H' x = some (.xd [("number", .int n)]) → E (.ref CN) (some x) H')
theorem lsts2 {f : Addr → Prop} {H : Hp} {rp : List Addr} {x y : List Nat} (h : LstsAt f H rp [x, y]) : ∃ p q, rp = [p, q] ∧ (H p = some (.lst (nV x)) ∧ ¬ f p) ∧ H q = some (.lst (nV y)) ∧ ¬ f q := by
  obtain ⟨hl, h⟩ := h
  obtain ⟨p, e1, h1⟩ := h 0 x rfl
  obtain ⟨q, e2, h2⟩ := h 1 y rfl
  match rp, hl with
  | [p', q'], _ =>
    cases e1
    cases e2
    exact ⟨p, q, rfl, h1, h2⟩
theorem lsts1 {f : Addr → Prop} {H : Hp} {rp : List Addr} {x : List Nat} (h : LstsAt f H rp [x]) : ∃ p, rp = [p] ∧ H p = some (.lst (nV x)) ∧ ¬ f p := by
  obtain ⟨hl, h⟩ := h
  obtain ⟨p, e1, h1⟩ := h 0 x rfl
  match rp, hl with
  | [p'], _ =>
    cases e1
    exact ⟨p, rfl, h1⟩
theorem DeskAt.same {f : Addr → Prop} {CK CD CE k : Addr} {H H' : Hp} {o : Option Sd23.Abs} (h : DeskAt f CK CD CE H k o) (s : Same H H') : DeskAt f CK CD CE H' k o := by
  obtain ⟨dx, v, h1, h2⟩ := h
  refine ⟨dx, v, s _ _ h1, ?_⟩
  cases o with
  | none => exact h2
  | some a =>
    obtain ⟨d, e, hD, ok⟩ := h2
    exact ⟨d, e, hD.same s, ok⟩
section
variable {P : Program} {w : World} {K : PySem.W.Frag} {mg : Str → Option Value} {base : Heap} {CK CD CE CN CQ aC aN : Addr}
theorem ok_call (D : Def1 K mg "answer_call" "answer_call" sCall) (B : Blt mg) (c4 : Cst4 mg) (TK : DkT K CK) (cN : CalX P w K mg base (L2.CX P w) 3 "need_agent" (spNeedA CN)) (cO : CalX P w K mg base (L2.CX P w) 4 "do_open" (spOpen CK CD CE CN)) (cA : CalX P w K mg base (L2.CX P w) 4 "do_add" (spAdd CD CE CN))
    (cD : CalX P w K mg base (L2.CX P w) 5 "do_drop" (spDrop CD CE CN)) (cL : CalX P w K mg base (L2.CX P w) 5 "do_look" (spLook CD CE CN)) (cP : CalX P w K mg base (L2.CX P w) 8 "do_packet" (spPk CD CE CN)) : CalX P w K mg base (L2.CX P w) 9 "answer_call" (spCall CK CD CE CN) := by
  refine calX D scCall bCall (fun vs H Q E h => ?_) fun f cdv A outer s H vs Q E hr h => ?_
  · obtain ⟨f, k, g, rl, c, o, o', gl, r, rp, ans, rfl, _⟩ := h
    rfl
  · obtain ⟨f', k, g, rl, c, o, o', gl, r, rp, ans, rfl, hK, hg, hrl, hrows, hf, shp, hact, kS, kE⟩ := h
    refine ⟨_, pss_cons (ps_if (pt_cmpR op_eq (pv 1) pe_int (nomark _)) (pss_one (ps_ret (pcall cO hr (by decide) passE (pa_cons (pv 0) (pa_cons (pe_ix ix_list (pv 3) pe_int (fun _ _ => rfl)) (pa_cons (pe_ix ix_list (pv 3) pe_int (fun _ _ => rfl)) pa_nil)))))) pss_nil) <|
      pss_cons (ps_set (i := 4) scCall.nd rfl (.inl rfl) (pe_fld (pv 0) rfl)) <|
      pss_cons (ps_expr (pcall cN hr (by decide) passE (pa_cons (pe_cmp (pc_notN (pv 4))) (pa_cons (pe_un un_neg pe_int) pa_nil)))) <|
      pss_cons (ps_if (pt_cmpR op_eq (pv 1) (pcon c4.add) (nomark _)) (pss_one (ps_ret (pcall cA hr (by decide) passE (pa_cons (pv 4) (pa_cons (pv 2) (pa_cons (ptuple B (pe_ix ix_list (pv 3) pe_int (fun _ _ => rfl))) (pa_cons (pe_ix ix_list (pv 3) pe_int (fun _ _ => rfl)) pa_nil))))))) pss_nil) <|
      pss_cons (ps_if (pt_cmpR op_eq (pv 1) pe_int (nomark _)) (pss_one (ps_ret (pcall cD hr (by decide) passE (pa_cons (pv 4) (pa_cons (ptuple B (pe_ix ix_list (pv 3) pe_int (fun _ _ => rfl))) pa_nil))))) pss_nil) <|
      pss_one (ps_ret (pe_ifExp (pt_cmpR op_eq (pv 1) pe_int (nomark _)) (pcall cL hr (by decide) passE (pa_cons (pv 4) (pa_cons (ptuple B (pe_ix ix_list (pv 3) pe_int (fun _ _ => rfl))) pa_nil)))
        (pcall cP hr (by decide) passE (pa_cons (pv 4) (pa_cons (pe_ix ix_list (pv 3) pe_int (fun _ _ => rfl)) pa_nil))))), ?_⟩
    have refK : ∀ n, o' = o → ans = [n] → Ref CN E n H := fun n e1 e2 H' x s1 hx => kE n e2 H' x (OutK.out (Out.same s1)) (by rw [e1]; exact hK.same s1) hx
    have d0 : decide (V.int c = V.int 0) = decide (c = 0) := dZ
    have d1 : decide (V.int c = V.int 1) = decide (c = 1) := dZ
    have d2 : decide (V.int c = V.int 2) = decide (c = 2) := dZ
    have d3 : decide (V.int c = V.int 3) = decide (c = 3) := dZ
    refine ⟨_, rfl, rfl, _, rfl, ?_⟩
    rw [d0]
    refine ifB (fun z0 => ?_) (fun z0 => ?_)
    · have hc := of_decide_eq_true z0
      subst hc
      obtain ⟨x, y, rfl⟩ : ∃ x y, r = [x, y] := by
        rcases shp with ⟨_, h⟩ | ⟨h, _⟩ | ⟨h, _⟩ | ⟨h, _⟩ | ⟨h, _⟩
        · exact h
        all_goals exact absurd h (by decide)
      obtain ⟨p, q, rfl, ⟨hp, np⟩, hq, nq⟩ := lsts2 hrows
      obtain ⟨dx, v, hk, _⟩ := hK
      have ha : act o 0 gl [x, y] = if okOpen x y = true then (some ⟨x, y, []⟩, [0]) else (none, [-1]) := rfl
      rw [ha] at hact
      refine ⟨_, rfl, _, rfl, rl, _, _, _, rfl, rfl, SqL.of hrl, atz rfl, _, rfl, rl, _, _, _, rfl, rfl, SqL.of hrl, at1 rfl, f', k, p, q, dx, v, x, y, rfl, hk, hp, hq, np, nq, hf, fun hF H' xx b1 D1 hx => ?_, fun hT H' zz b1 nz hz D1 => ?_⟩
      · rw [if_neg (by rw [hF]; decide)] at hact
        obtain ⟨rfl, rfl⟩ : none = o' ∧ [-1] = ans := ⟨(Prod.mk.inj hact).1, (Prod.mk.inj hact).2⟩
        exact kE (-1) rfl H' xx (OutK.bt b1 (by obtain ⟨_, _, e, _⟩ := D1; rw [e]; exact fun e => by cases e)) D1 hx
      · rw [if_pos hT] at hact
        obtain ⟨rfl, rfl⟩ : some ⟨x, y, []⟩ = o' ∧ [0] = ans := ⟨(Prod.mk.inj hact).1, (Prod.mk.inj hact).2⟩
        exact kS H' zz (OutK.bt b1 (by obtain ⟨_, _, e, _⟩ := D1; rw [e]; exact fun e => by cases e)) nz hz D1
    have n0 : ¬ c = 0 := of_decide_eq_false z0
    have hact0 := hact
    unfold act at hact
    rw [if_neg n0] at hact
    obtain ⟨dxk, v, hk, hv⟩ := id hK
    cases o with
    | none =>
      have hv' : v = .non := hv
      subst hv'
      obtain ⟨rfl, rfl⟩ : none = o' ∧ [-3] = ans := ⟨(Prod.mk.inj hact).1, (Prod.mk.inj hact).2⟩
      exact ⟨_, rfl, k, CK, dxk, _, _, rfl, hk, TK.cl, TK.device, rfl, _, rfl, _, rfl, _, _, rfl, fun z => Bool.noConfusion z, fun _ => refK (-3) rfl rfl⟩
    | some a =>
      obtain ⟨d, rfl, hD, ok⟩ := hv
      refine ⟨_, rfl, k, CK, dxk, _, _, rfl, hk, TK.cl, TK.device, rfl, _, rfl, _, rfl, _, _, rfl, fun _ => ?_, fun z => Bool.noConfusion z⟩
      have desk : ∀ {H' : Hp} {a' : Sd23.Abs}, Out H H' → DevAt f' CD CE H' d a' → OkAbs a' → DeskAt f' CK CD CE H' k (some a') := fun so D1 ok1 => ⟨dxk, .ref d, so.keep _ _ hk (.inl (by show 1 ≤ 2; decide)), d, rfl, D1, ok1⟩
      dsimp only at hact
      refine ⟨_, rfl, rfl, _, rfl, ?_⟩
      rw [d1]
      refine ifB (fun z1 => ?_) (fun z1 => ?_)
      · have hc := of_decide_eq_true z1
        rw [if_pos hc] at hact
        obtain ⟨⟨kind, st, lo, hi, rfl⟩, n, b, rfl, hb, hbl, hnl⟩ : (∃ k s l h, gl = [k, s, l, h]) ∧ ∃ n b, r = [n, b] ∧ AllB b ∧ b.length ≤ 100000 ∧ n.length ≤ 200000 := by
          rcases shp with ⟨h, _⟩ | ⟨_, h⟩ | ⟨h, _⟩ | ⟨h, _⟩ | ⟨h, _⟩
          · omega
          · exact h
          all_goals omega
        obtain ⟨p, q, rfl, ⟨hp, np⟩, hq, nq⟩ := lsts2 hrows
        dsimp only at hact
        refine ⟨_, rfl, _, rfl, _, rfl, rl, _, _, _, rfl, rfl, SqL.of hrl, atz rfl, p, _, rfl, .inl ⟨SqL.of hp, fun t ht => ?_⟩⟩
        have s1 := Same.new (o := HO.tup (nV n)) ht
        refine ⟨_, rfl, rl, _, _, _, rfl, rfl, SqL.of (s1 _ _ hrl), at1 rfl, f', d, g, t, q, a, n, b, kind, st, lo, hi, rfl, hD.same s1, ok, s1 _ _ hg, upd_same, s1 _ _ hq, nq, hb, hbl, hnl, fun hF => ?_, fun hT e0 hfd hm => ?_, fun hT e0 hfd hm H' zz o1 nz hz D1 => ?_, fun hT hfd hlen => ?_, fun hT hfd hlen H' zz o1 nz hz D1 => ?_⟩
        · rw [if_neg (by rw [hF]; decide)] at hact
          exact (refK (-1) (Prod.mk.inj hact).1.symm (Prod.mk.inj hact).2.symm).same s1
        · rw [if_pos hT, hfd] at hact
          dsimp only at hact
          rw [if_neg hm] at hact
          exact (refK (-2) (Prod.mk.inj hact).1.symm (Prod.mk.inj hact).2.symm).same s1
        · rw [if_pos hT, hfd] at hact
          dsimp only at hact
          rw [if_pos hm] at hact
          obtain ⟨rfl, rfl⟩ : some (repE a (addEnt n kind st lo hi b)) = o' ∧ [1] = ans := ⟨(Prod.mk.inj hact).1, (Prod.mk.inj hact).2⟩
          have so := (Out.same s1).trans o1
          exact kS H' zz (OutK.out so) (s1.free nz) hz (desk so D1 (ok.rep (addEnt_ok hT)))
        · rw [if_pos hT, hfd] at hact
          dsimp only at hact
          rw [if_neg (by omega)] at hact
          exact (refK (-2) (Prod.mk.inj hact).1.symm (Prod.mk.inj hact).2.symm).same s1
        · rw [if_pos hT, hfd] at hact
          dsimp only at hact
          rw [if_pos hlen] at hact
          obtain ⟨rfl, rfl⟩ : some (addE a (addEnt n kind st lo hi b)) = o' ∧ [0] = ans := ⟨(Prod.mk.inj hact).1, (Prod.mk.inj hact).2⟩
          have so := (Out.same s1).trans o1
          exact kS H' zz (OutK.out so) (s1.free nz) hz (desk so D1 (ok.add (addEnt_ok hT) hfd hlen))
      have n1 : ¬ c = 1 := of_decide_eq_false z1
      rw [if_neg n1] at hact
      refine ⟨_, rfl, rfl, _, rfl, ?_⟩
      rw [d2]
      refine ifB (fun z2 => ?_) (fun z2 => ?_)
      · have hc := of_decide_eq_true z2
        rw [if_pos hc] at hact
        obtain ⟨n, rfl⟩ : ∃ n, r = [n] := by
          rcases shp with ⟨h, _⟩ | ⟨h, _⟩ | ⟨_, h⟩ | ⟨h, _⟩ | ⟨h, _⟩
          · omega
          · omega
          · exact h
          all_goals omega
        obtain ⟨p, rfl, hp, np⟩ := lsts1 hrows
        dsimp only at hact
        refine ⟨_, rfl, _, rfl, rl, _, _, _, rfl, rfl, SqL.of hrl, atz rfl, p, _, rfl, .inl ⟨SqL.of hp, fun t ht => ?_⟩⟩
        have s1 := Same.new (o := HO.tup (nV n)) ht
        refine ⟨f', d, t, a, n, rfl, hD.same s1, ok, upd_same, fun h2 => ?_, fun h2 hfd => ?_, fun e h2 hfd H' zz o1 nz hz D1 => ?_⟩
        · rw [if_pos h2] at hact
          exact (refK (-1) (Prod.mk.inj hact).1.symm (Prod.mk.inj hact).2.symm).same s1
        · rw [if_neg (by omega), hfd] at hact
          exact (refK (-2) (Prod.mk.inj hact).1.symm (Prod.mk.inj hact).2.symm).same s1
        · rw [if_neg (by omega), hfd] at hact
          obtain ⟨rfl, rfl⟩ : some (dropE a n) = o' ∧ [0] = ans := ⟨(Prod.mk.inj hact).1, (Prod.mk.inj hact).2⟩
          have so := (Out.same s1).trans o1
          exact kS H' zz (OutK.out so) (s1.free nz) hz (desk so D1 (ok.drop n))
      have n2 : ¬ c = 2 := of_decide_eq_false z2
      rw [if_neg n2] at hact
      refine ⟨_, rfl, rfl, _, rfl, ?_⟩
      rw [d3]
      refine ifB (fun z3 => ?_) (fun z3 => ?_)
      · have hc := of_decide_eq_true z3
        rw [if_pos hc] at hact
        obtain ⟨n, rfl⟩ : ∃ n, r = [n] := by
          rcases shp with ⟨h, _⟩ | ⟨h, _⟩ | ⟨h, _⟩ | ⟨_, h⟩ | ⟨h, _⟩
          · omega
          · omega
          · omega
          · exact h
          · omega
        obtain ⟨p, rfl, hp, np⟩ := lsts1 hrows
        dsimp only at hact
        refine ⟨_, rfl, _, rfl, rl, _, _, _, rfl, rfl, SqL.of hrl, atz rfl, p, _, rfl, .inl ⟨SqL.of hp, fun t ht => ?_⟩⟩
        have s1 := Same.new (o := HO.tup (nV n)) ht
        refine ⟨f', d, t, a, n, rfl, hD.same s1, ok, upd_same, fun h2 => ?_, fun h2 hfd => ?_, fun e h2 hfd H' zz s2 nz hz => ?_⟩
        · rw [if_pos h2] at hact
          exact (refK (-1) (Prod.mk.inj hact).1.symm (Prod.mk.inj hact).2.symm).same s1
        · rw [if_neg (by omega), hfd] at hact
          exact (refK (-2) (Prod.mk.inj hact).1.symm (Prod.mk.inj hact).2.symm).same s1
        · rw [if_neg (by omega), hfd] at hact
          obtain ⟨rfl, rfl⟩ : some a = o' ∧ ((e.value.body.length : Int) :: nI e.value.body) = ans := ⟨(Prod.mk.inj hact).1, (Prod.mk.inj hact).2⟩
          have so := Out.same (s1.trans s2)
          exact kS H' zz (OutK.out so) (s1.free nz) hz (desk so (hD.same (s1.trans s2)) ok)
      have n3 : ¬ c = 3 := of_decide_eq_false z3
      rw [if_neg n3] at hact
      obtain ⟨b, rfl, hb, hbl⟩ : ∃ b, r = [b] ∧ AllB b ∧ b.length ≤ 16000 := by
        rcases shp with ⟨h, _⟩ | ⟨h, _⟩ | ⟨h, _⟩ | ⟨h, _⟩ | ⟨_, h⟩
        · omega
        · omega
        · omega
        · omega
        · exact h
      obtain ⟨p, rfl, hp, np⟩ := lsts1 hrows
      dsimp only at hact
      refine ⟨_, rfl, _, rfl, rl, _, _, _, rfl, rfl, SqL.of hrl, atz rfl, f', d, p, a, b, rfl, hD, ok, hp, hb, hbl, fun hn => ?_, fun m hm H' zz o1 nz hz D1 ok1 => ?_⟩
      · rw [hn] at hact
        exact refK (-2) (Prod.mk.inj hact).1.symm (Prod.mk.inj hact).2.symm
      · rw [hm] at hact
        obtain ⟨rfl, rfl⟩ : some (Sd23.handle a m).1 = o' ∧ toI (Sd23.handle a m).2 = ans := ⟨(Prod.mk.inj hact).1, (Prod.mk.inj hact).2⟩
        exact kS H' zz (OutK.out o1) nz hz (desk o1 D1 ok1)
end
end Ad

/-! ## D28 -/
set_option Elab.async false
set_option linter.all false
set_option maxRecDepth 100000
set_option maxHeartbeats 1000000
namespace Ad
open PySem PySem.Spec PyProof.Rows L2
/-! ### the calls as they lie in the list -/
structure Cll where
  call : Int
  given : List Int
  rows : List (List Nat)
def rowI (b : List Nat) : List Int := (b.length : Int) :: nI b
def enc (x : Cll) : List Int := x.call :: (x.given ++ x.rows.flatMap rowI)
structure Wf (x : Cll) : Prop where
  shp : Shp x.call x.given x.rows
  giv : x.given.length = if x.call = 1 then 4 else 0
  row : x.rows.length = if x.call ≤ 1 then 2 else 1
def playA : Option Sd23.Abs → List Cll → List Int
  | _, [] => []
  | o, x :: r => (((act o x.call x.given x.rows).2.length : Int) :: (act o x.call x.given x.rows).2) ++ playA (act o x.call x.given x.rows).1 r
theorem drop_more {α : Type} {l x y : List α} {k : Nat} (h : l.drop k = x ++ y) : l.drop (k + x.length) = y := by
  rw [← List.drop_drop, h, List.drop_left]
theorem drop_get {α : Type} {l r : List α} {x : α} {k : Nat} (h : l.drop k = x :: r) : l[k]? = some x ∧ l.drop (k + 1) = r := by
  constructor
  · have : (l.drop k)[0]? = some x := by rw [h]; rfl
    rw [List.getElem?_drop] at this
    exact this
  · rw [← List.drop_drop, h]
    rfl
theorem flat_drop {α β : Type} (f : α → List β) {l : List α} {i : Nat} {x : α} (h : l[i]? = some x) : (l.drop i).flatMap f = f x ++ (l.drop (i + 1)).flatMap f := by
  rw [drop_at h, List.flatMap_cons]
theorem DeskAt.frm {f : Addr → Prop} {CK CD CE k : Addr} {H H' : Hp} {o : Option Sd23.Abs} (h : DeskAt f CK CD CE H k o) (kp : ∀ b u, H b = some u → (Dv u ∨ ∃ C dx v, u = .ins C dx [("device", v)]) → ((∃ xs, u = .lst xs) → ¬ f b) → H' b = some u) (k0 : ∀ c, f c → H c ≠ none → H' c ≠ none) : DeskAt f CK CD CE H' k o := by
  obtain ⟨dx, v, h1, h2⟩ := h
  refine ⟨dx, v, kp _ _ h1 (.inr ⟨_, _, _, rfl⟩) (fun ⟨_, e⟩ => by cases e), ?_⟩
  cases o with
  | none => exact h2
  | some a =>
    obtain ⟨d, e, hD, ok⟩ := h2
    exact ⟨d, e, hD.keep ⟨k0, fun b u hb t nf => kp b u hb (.inl t) nf⟩, ok⟩
theorem two_ne {u : HO} {C dx : Addr} {c : Addr} {j : Int} (t : Dv u ∨ ∃ C dx v, u = .ins C dx [("device", v)]) : u ≠ .ins C dx (cF c j) := fun e => by
  subst e
  rcases t with t | ⟨_, _, _, e⟩
  · rcases t with t | t
    · exact absurd t (by show ¬ 2 = 4; decide)
    · exact absurd t (by show ¬ 2 = 5; decide)
  · have := (HO.ins.inj e).2.2
    have := congrArg List.length this
    exact absurd this (by show ¬ 2 = 1; decide)
theorem sq_bt {K : PySem.W.Frag} {H H' : Hp} {c q C dx : Addr} {xs : List V} {fs : List (Str × V)} (h : SqL K H c xs) (b : Bt q H H') (hq : H q = some (.ins C dx fs)) : SqL K H' c xs := by
  rcases h with (h | ⟨v, h⟩) | h
  · exact .inl (.inl (b _ _ (ne_of h hq (by intro z; cases z)) h))
  · exact .inl (.inr ⟨v, b _ _ (ne_of h hq (by intro z; cases z)) h⟩)
  · exact .inr h
theorem sq_outK {K : PySem.W.Frag} {H H' : Hp} {c k C dx : Addr} {xs : List V} {fs : List (Str × V)} (h : SqL K H c xs) (b : OutK k H H') (hk : H k = some (.ins C dx fs)) : SqL K H' c xs := by
  rcases h with (h | ⟨v, h⟩) | h
  · exact .inl (.inl (b.keep _ _ (ne_of h hk (by intro z; cases z)) h trivial))
  · exact .inl (.inr ⟨v, b.keep _ _ (ne_of h hk (by intro z; cases z)) h trivial⟩)
  · exact .inr h
theorem sq_keep {K : PySem.W.Frag} {H : Hp} {c fa : Addr} {xs : List V} (h : SqL K H c xs) (n : H fa = none) : ∀ (H' : Hp) (o : HO), SqL K H' c xs → SqL K (upd H' fa o) c xs := by
  intro H' o h'
  rcases h with (h | ⟨v, h⟩) | h
  · have ne := ne_of_none h n
    rcases h' with (h' | ⟨v, h'⟩) | h'
    · exact .inl (.inl (by rw [upd_ne ne]; exact h'))
    · exact .inl (.inr ⟨v, by rw [upd_ne ne]; exact h'⟩)
    · exact .inr h'
  · have ne := ne_of_none h n
    rcases h' with (h' | ⟨v, h'⟩) | h'
    · exact .inl (.inl (by rw [upd_ne ne]; exact h'))
    · exact .inl (.inr ⟨v, by rw [upd_ne ne]; exact h'⟩)
    · exact .inr h'
  · exact .inr h
def AnsI (K : PySem.W.Frag) (CK CL CD CE c0 k q fa dxq : Addr) (cs0 : List Cll) (n : Nat) (σ : L2.St) (H' : Hp) : Prop := ∃ (j : Nat) (cs : List Cll) (o : Option Sd23.Abs) (acc : List Int) (o4 o5 o6 o7 : Option V), n = cs.length ∧
  σ = [some (.ref c0), some (.ref k), some (.ref q), some (.ref fa), o4, o5, o6, o7, none, none] ∧ SqL K H' c0 ((cs0.flatMap enc).map V.int) ∧ H' q = some (.ins CL dxq (cF c0 (j : Int))) ∧ H' fa = some (.lst (iV acc)) ∧ DeskAt (fun c => c = fa) CK CD CE H' k o ∧
  (cs0.flatMap enc).drop j = cs.flatMap enc ∧ (∀ x ∈ cs, Wf x) ∧ acc ++ playA o cs = playA none cs0
/-! ### answers -/
abbrev sAns : Stmt := top 88
abbrev nAns : List Str := ["calls", "desk", "reading", "found", "call", "given", "rows", "answer", "refusal", "k"]
theorem scAns : FnScope nAns ["calls"] (defScope sAns) := ⟨rfl, rfl, rfl, by decide +kernel, rfl, by decide +kernel, by decide +kernel⟩
theorem bAns : BindsBy "answers" "answers" sAns ["calls"] := fun _ _ _ _ _ _ us hl => match us, hl with | [_], _ => rfl
def spAns (K : PySem.W.Frag) : Sp := fun vs H Q _ => ∃ (c : Addr) (cs : List Cll), vs = [.ref c] ∧ SqL K H c ((cs.flatMap enc).map V.int) ∧ (∀ x ∈ cs, Wf x) ∧ (playA none cs).length ≤ 10000000 ∧ ∀ H' z, H' z = some (.lst (iV (playA none cs))) → Q (.ref z) H'
def tGv : TE := fun σ H Q => ∃ (c : Int) (n : Nat), σ[4]? = some (some (.int c)) ∧ n = (if c = 1 then 4 else 0) ∧ Q (.int (n : Int)) H
theorem tGv_of (σ : L2.St) (H : Hp) (Q : VK) (h : tGv σ H Q) : tIf (tTest (tOp rEq (tVar 4) (tC (.int 1)))) (tC (.int 4)) (tC (.int 0)) σ H Q := by
  obtain ⟨c, n, h4, hn, k⟩ := h
  refine ⟨_, h4, rfl, _, rfl, ?_⟩
  have dz : decide (V.int c = V.int 1) = decide (c = 1) := dZ
  rw [dz]
  refine ifB (fun z => ?_) (fun z => ?_)
  · rw [if_pos (of_decide_eq_true z)] at hn
    subst hn
    exact k
  · rw [if_neg (of_decide_eq_false z)] at hn
    subst hn
    exact k
def tRw : TE := fun σ H Q => ∃ (c : Int) (n : Nat), σ[4]? = some (some (.int c)) ∧ n = (if c ≤ 1 then 2 else 1) ∧ Q (.int (n : Int)) H
theorem tRw_of (σ : L2.St) (H : Hp) (Q : VK) (h : tRw σ H Q) : tIf (tTest (tOp (rI0 fun i j => .bl (decide (i ≤ j))) (tVar 4) (tC (.int 1)))) (tC (.int 2)) (tC (.int 1)) σ H Q := by
  obtain ⟨c, n, h4, hn, k⟩ := h
  refine ⟨_, h4, _, _, rfl, rfl, _, rfl, ?_⟩
  refine ifB (fun z => ?_) (fun z => ?_)
  · rw [if_pos (of_decide_eq_true z)] at hn
    subst hn
    exact k
  · rw [if_neg (of_decide_eq_false z)] at hn
    subst hn
    exact k
structure DnY (K : PySem.W.Frag) (mg : Str → Option Value) (C : Addr) : Prop where
  xf : XfC K C
  noN : PySem.W.findIn K (.ref C) "number" = some none
  gM : mg "Denied" = some (.ref C)
  te : PySem.W.exmOne K (.ref C) (.ref C) = some true
section
variable {P : Program} {w : World} {K : PySem.W.Frag} {mg : Str → Option Value} {base : Heap} {CK CL CD CE CN CQ aC aN : Addr}
theorem ans_len : LenOk ["calls"] (spAns K) := fun vs H Q E h => by
  obtain ⟨c, cs, rfl, _⟩ := h
  rfl
theorem ans_body (B : Blt mg) (c4 : Cst4 mg) (TL : ClT K CL) (TN : DnY K mg CN) (mK : MakX P w K mg base 1 "Desk" CK (spDkI CK)) (mL : MakX P w K mg base 1 "Calls" CL (spClI CL)) (cNx : MetX P w K mg base CX0 1 CL "next_number" (spClN K CL)) (cRw : MetX P w K mg base CX0 2 CL "next_row" (spClR K CL))
    (cC : CalX P w K mg base (L2.CX P w) 9 "answer_call" (spCall CK CD CE CN)) : Body0 P w K mg base 9 nAns "answers" sAns (spAns K) := by
  intro f cdv A outer s H vs Q E hr h
  obtain ⟨c0, cs0, rfl, hc0, hwf, hlen, kQ⟩ := h
  obtain ⟨fK, fdK, psK, FK, MK, gK, bK⟩ := mK.ex
  refine ⟨_, pss_cons (ps_set (i := 1) scAns.nd rfl (.inl rfl) (pe_make0 MK FK (hr.mono (by decide)) rfl gK bK .nil pass0)) <|
    pss_cons (ps_set (i := 2) scAns.nd rfl (.inr rfl) (pmake mL hr (by decide) (pa_cons (pv 0) pa_nil))) <|
    pss_cons (ps_set (i := 3) scAns.nd rfl (.inl rfl) (pe_lst pa_nil)) <|
    pss_cons (ps_while PassesOwn.never (pt_cmpR op_lt (pe_fld (pv 2) rfl) (plen B (pv 0)) (nomark _))
      (pss_cons (ps_set (i := 4) scAns.nd rfl (.inl rfl) (pmeth0 cNx hr (by decide) pass0 (pv 2))) <|
       pss_cons (ps_setLc (i := 5) (own := [("k", 9)]) (g := gName 9) (by rfl) scAns.nd rfl rfl rfl (pi_range1 (by rfl) B.range (pa_cons (PEimp (t' := tGv) (pe_ifExp (pt_cmpR op_eq (pv 4) (pcon c4.add) (nomark _)) pe_int pe_int) tGv_of) pa_nil)) (blkOk_by (own := [("k", 9)]) (N := nAns) (sc := defScope sAns) (by decide +kernel)) (fun _ _ _ _ _ => pg_name (i := 9) scAns.nd rfl (Or.inl rfl)) (fun _ _ _ _ _ => pts_nil)
         (fun _ _ _ _ _ => pmeth0 cNx hr (by decide) pass0 (pv 2))) <|
       pss_cons (ps_setLc (i := 6) (own := [("k", 9)]) (g := gName 9) (by rfl) scAns.nd rfl rfl rfl (pi_range1 (by rfl) B.range (pa_cons (PEimp (t' := tRw) (pe_ifExp (pt_cmpR op_le (pv 4) (pcon c4.add) (nomark _)) pe_int pe_int) tRw_of) pa_nil)) (blkOk_by (own := [("k", 9)]) (N := nAns) (sc := defScope sAns) (by decide +kernel)) (fun _ _ _ _ _ => pg_name (i := 9) scAns.nd rfl (Or.inl rfl)) (fun _ _ _ _ _ => pts_nil)
         (fun _ _ _ _ _ => pmeth0 cRw hr (by decide) pass0 (pv 2))) <|
       pss_cons (ps_try_as (i := 8) (tb := fun W => tAsg (tCallS (spCall CK CD CE CN) (WE W) (tCons (tVar 1) (tCons (tVar 4) (tCons (tVar 5) (tCons (tVar 6) tNil))))) (gName 7)) (ts := fun a cls d => tAsg (tLst (tCons (tXf a cls d CN "number" (tVar 8)) tNil)) (gName 7)) (Wout := fun _ _ _ _ => False) rfl rfl scAns.nd rfl rfl ⟨rfl, by decide, Or.inl TN.gM⟩ takes0
         (fun W pn xe tk _ => pss_one (ps_set (i := 7) scAns.nd rfl (.inl rfl) (by exact (pcallS cC hr (by decide) (fun σ => passAt tk σ) (by exact (pa_cons (pv 1) (pa_cons (pv 4) (pa_cons (pv 5) (pa_cons (pv 6) pa_nil))))) (by exact rfl)))))
         (fun a oe cls d pn hz hf => pss_one (ps_set (i := 7) scAns.nd rfl (.inl rfl) (by exact (pe_lst (pa_cons (pe_xf TN.xf TN.noN hz hf (pv 8)) pa_nil)))))) <|
       pss_cons (ps_expr (pe_bm PySem.F.plainAttrs_list PySem.F.slot_list_append PySem.F.type_list_append mt_append (pv 3) (pa_cons (plen B (pv 7)) pa_nil))) <|
       pss_one (ps_expr (pe_bm PySem.F.plainAttrs_list PySem.F.slot_list_extend PySem.F.type_list_extend mt_extend (pv 3) (pa_cons (pv 7) pa_nil))))) <|
    pss_one (ps_ret (pv 3)), ?_⟩
  have e8 : sizeLine = 16777216 := sizeLine_eq
  -- desk, reading, found
  intro k dxk nk ndk nek
  refine ⟨k, dxk, rfl, upd_same, rfl, ?_⟩
  have s1 : Same H (upd (upd (upd H dxk (.own k)) k (.ins CK dxk [])) k (.ins CK dxk [("device", .non)])) := fun b u e => by
    rw [upd_ne (ne_of_none e nk), upd_ne (ne_of_none e nk), upd_ne (ne_of_none e ndk)]
    exact e
  have hk1 : (upd (upd (upd H dxk (.own k)) k (.ins CK dxk [])) k (.ins CK dxk [("device", .non)])) k = some (.ins CK dxk [("device", .non)]) := upd_same
  show tSeq _ _ _ _ (upd (upd (upd H dxk (.own k)) k (.ins CK dxk [])) k (.ins CK dxk [("device", .non)]))
  generalize upd (upd (upd H dxk (.own k)) k (.ins CK dxk [])) k (.ins CK dxk [("device", .non)]) = H1 at s1 hk1 ⊢
  refine ⟨_, rfl, fun q dxq nq ndq neq => ⟨q, dxq, c0, rfl, upd_same, fun H2 b2 f2 e2 => ⟨rfl, ?_⟩⟩⟩
  have s2' : Same H1 H2 := Same.made nq ndq fun b' o e hb => b2 b' o hb e
  refine ⟨Nat.zero_le _, fun fa nfa => ?_⟩
  have s3' := Same.new (o := HO.lst []) nfa
  have hfa3 : (upd H2 fa (.lst [])) fa = some (.lst (iV [])) := upd_same
  have s3 := (s1.trans s2').trans s3'
  have hcl3 := s3.seq hc0
  have hq3 := s3' _ _ e2
  have hk3 := s3' _ _ (s2' _ _ hk1)
  have hwr := sq_keep hc0 ((s1.trans s2').free nfa)
  show tSeq _ _ _ _ (upd H2 fa (.lst []))
  generalize upd H2 fa (.lst []) = H3 at hfa3 hcl3 hq3 hk3 ⊢
  refine ⟨fun m σ H' => AnsI K CK CL CD CE c0 k q fa dxq cs0 m σ H', ⟨cs0.length, 0, cs0, none, [], none, none, none, none, rfl, rfl, hcl3, hq3, hfa3, ⟨dxk, .non, hk3, rfl⟩, rfl, hwf, rfl⟩, ?_⟩
  clear hfa3 hcl3 hq3 hk3 s3 s3' s2' e2 f2 b2 nq ndq neq hk1 s1 nk ndk nek
  rintro m σ H' ⟨j, cs, o, acc, o4, o5, o6, o7, rfl, rfl, hcl, hq, hfa, hdk, hd0, wfs, htot⟩
  generalize hL : cs0.flatMap enc = L at hcl hd0 hwr
  refine ⟨_, rfl, q, CL, dxq, _, _, rfl, hq, TL.cl, TL.at_, rfl, _, rfl, c0, _, rfl, .inl hcl, _, _, rfl, rfl, _, rfl, ?_⟩
  rw [List.length_map]
  cases cs with
  | nil =>
    have hlj : L.length ≤ j := List.drop_eq_nil_iff.mp hd0
    refine ifF (decide_eq_false (by omega)) ⟨_, rfl, kQ H' fa ?_⟩
    rw [← htot]
    show _ = some (HO.lst (iV (acc ++ [])))
    rw [List.append_nil]
    exact hfa
  | cons x cs' =>
    have wf := wfs x List.mem_cons_self
    rw [List.flatMap_cons] at hd0
    have hd0' : L.drop j = x.call :: (x.given ++ (x.rows.flatMap rowI ++ cs'.flatMap enc)) := by
      rw [hd0]
      unfold enc
      simp
    obtain ⟨hget, hd1⟩ := drop_get hd0'
    have hd2 := drop_more hd1
    have hjl : j < L.length := (List.getElem?_eq_some_iff.mp hget).1
    refine ifT (decide_eq_true (by omega)) ⟨fun σ'' H'' => ∃ n', n' < (x :: cs').length ∧ AnsI K CK CL CD CE c0 k q fa dxq cs0 n' σ'' H'', fun σ'' H'' ⟨n', h, h'⟩ => ⟨n', h, h'⟩, ?_⟩
    -- call
    refine ⟨_, rfl, q, dxq, _, rfl, hq, rfl, q, dxq, c0, L, j, x.call, rfl, hq, hcl, hget, ?_⟩
    have b1 : Bt q H' (upd H' q (.ins CL dxq (cF c0 ((j + 1 : Nat) : Int)))) := fun b o hb e => by rw [upd_ne hb]; exact e
    have hq1 : (upd H' q (.ins CL dxq (cF c0 ((j + 1 : Nat) : Int)))) q = some (.ins CL dxq (cF c0 ((j + 1 : Nat) : Int))) := upd_same
    have f1 : ∀ b, (upd H' q (.ins CL dxq (cF c0 ((j + 1 : Nat) : Int)))) b = none → H' b = none := fun b e => (upd_free e).1
    show tSeq _ _ _ _ (upd H' q (.ins CL dxq (cF c0 ((j + 1 : Nat) : Int))))
    generalize upd H' q (.ins CL dxq (cF c0 ((j + 1 : Nat) : Int))) = H1 at b1 hq1 f1 ⊢
    have hcl1 := sq_bt hcl b1 hq
    -- given
    have hg4 : x.given.length ≤ 4 := by
      have := wf.giv
      split at this <;> omega
    refine ⟨x.call, x.given.length, rfl, wf.giv, (x.given.length : Int), rfl, by omega, by omega, fun D1 n1 => lc_range (lo := 0) (n := x.given.length) (fun i H'' => Bt q H1 H'' ∧ (∀ b, H'' b = none → H1 b = none) ∧ H'' q = some (.ins CL dxq (cF c0 ((j + 1 + i : Nat) : Int))) ∧ H'' D1 = some (.lst (iV (x.given.take i))))
      ⟨fun b o hb e => by rw [upd_ne (ne_of_none e n1)]; exact e, fun b e => (upd_free e).1, by rw [upd_ne (ne_of_none hq1 n1)]; exact hq1, upd_same⟩ ?_ ?_⟩
    · rintro i H'' hi ⟨bt, fr, hq'', hD⟩
      obtain ⟨z, hz⟩ : ∃ z, x.given[i]? = some z := ⟨_, List.getElem?_eq_getElem hi⟩
      have hz' : L[j + 1 + i]? = some z := by
        have : (L.drop (j + 1))[i]? = some z := by rw [hd1, List.getElem?_append_left hi]; exact hz
        rw [List.getElem?_drop] at this
        exact this
      have nDq : D1 ≠ q := (ne_of_none hq1 n1).symm
      refine ⟨rfl, _, rfl, q, dxq, _, rfl, hq'', rfl, q, dxq, c0, L, j + 1 + i, z, rfl, hq'', (sq_bt hcl1 bt hq1), hz', iV (x.given.take i), by rw [upd_ne nDq]; exact hD, ?_, fun b o hb e => ?_, fun b e => ?_, ?_, ?_⟩
      · unfold iV
        rw [List.length_map, List.length_take, e8]
        omega
      · rw [upd_ne (ne_of_none e n1), upd_ne hb]
        exact bt b o hb e
      · exact fr b (upd_free (upd_free e).1).1
      · rw [upd_ne nDq.symm, upd_same]
        rfl
      · rw [upd_same, take_more hz]
        unfold iV
        rw [List.map_append]
        rfl
    rintro H2 ⟨bt2, fr2, hq2, hD2⟩
    rw [List.take_length] at hD2
    have hcl2 := sq_bt hcl1 bt2 hq1
    have b2 : Bt q H' H2 := b1.trans bt2
    have f2 : ∀ b, H2 b = none → H' b = none := fun b e => f1 b (fr2 b e)
    -- rows
    have hr2 : x.rows.length ≤ 2 := by
      have := wf.row
      split at this <;> omega
    have hpos : ∀ i, L.drop (j + 1 + x.given.length + ((x.rows.take i).flatMap rowI).length) = (x.rows.drop i).flatMap rowI ++ cs'.flatMap enc := fun i => by
      refine drop_more ?_
      rw [hd2, ← List.append_assoc, ← List.flatMap_append, List.take_append_drop]
    have hfa2 : H2 fa = some (.lst (iV acc)) := b2 _ _ (ne_of hfa hq (by intro z; cases z)) hfa
    refine ⟨x.call, x.rows.length, rfl, wf.row, (x.rows.length : Int), rfl, by omega, by omega, fun D2 n2 => lc_range (lo := 0) (n := x.rows.length) (fun i H'' => Bt q H2 H'' ∧ (∀ b, H'' b = none → H2 b = none) ∧ H'' q = some (.ins CL dxq (cF c0 ((j + 1 + x.given.length + ((x.rows.take i).flatMap rowI).length : Nat) : Int))) ∧
        ∃ rp, H'' D2 = some (.lst (rV rp)) ∧ LstsAt (fun c => c = fa ∨ c = D2) H'' rp (x.rows.take i))
      ⟨fun b o hb e => by rw [upd_ne (ne_of_none e n2)]; exact e, fun b e => (upd_free e).1, by rw [upd_ne (ne_of_none hq2 n2)]; exact hq2, [], upd_same, rfl, fun i b h => by simp at h⟩ ?_ ?_⟩
    · rintro i H'' hi ⟨bt, fr, hq'', rp, hDr, hrp⟩
      obtain ⟨b, hb⟩ : ∃ b, x.rows[i]? = some b := ⟨_, List.getElem?_eq_getElem hi⟩
      have hp := hpos i
      have hp1 := hpos (i + 1)
      rw [flat_drop rowI hb, List.append_assoc] at hp
      have htk : (x.rows.take (i + 1)).flatMap rowI = (x.rows.take i).flatMap rowI ++ rowI b := by
        rw [take_more hb, List.flatMap_append]
        simp
      have hrow : (rowI b).length = 1 + b.length := by
        unfold rowI nI
        rw [List.length_cons, List.length_map]
        omega
      have ep : j + 1 + x.given.length + ((x.rows.take (i + 1)).flatMap rowI).length = (j + 1 + x.given.length + ((x.rows.take i).flatMap rowI).length) + 1 + b.length := by
        rw [htk, List.length_append, hrow]
        omega
      generalize j + 1 + x.given.length + ((x.rows.take i).flatMap rowI).length = pos at hp ep hq'' ⊢
      obtain ⟨g1, g2⟩ := drop_get (show L.drop pos = (b.length : Int) :: (nI b ++ _) from hp)
      have hlt : pos < L.length := (List.getElem?_eq_some_iff.mp g1).1
      have hle : pos + 1 + b.length ≤ L.length := by
        have := congrArg List.length g2
        rw [List.length_drop, List.length_append] at this
        have : (nI b).length = b.length := List.length_map ..
        omega
      have htake : (L.drop (pos + 1)).take b.length = nI b := by
        rw [g2]
        exact List.take_left' (List.length_map ..)
      have nDq : D2 ≠ q := (ne_of_none hq2 n2).symm
      refine ⟨rfl, _, rfl, q, dxq, _, rfl, hq'', rfl, q, dxq, c0, L, pos, b.length, rfl, hq'', (sq_bt hcl2 bt hq2), g1, hle, fun p hpn => ?_⟩
      rw [htake]
      have hpn' : H'' p = none ∧ p ≠ q := ⟨hpn, (ne_of_none hq'' hpn).symm⟩
      have npq : p ≠ q := hpn'.2
      have ndp : D2 ≠ p := ne_of_none hDr hpn'.1
      have hfa'' := bt _ _ (ne_of hfa hq (by intro z; cases z)) hfa2
      have nfp : p ≠ fa := (ne_of_none hfa'' hpn'.1).symm
      refine ⟨rV rp, by rw [upd_ne ndp, upd_ne nDq]; exact hDr, ?_, fun c o hc e => ?_, fun c e => ?_, ?_, rp ++ [p], ?_, ?_⟩
      · have := hrp.1
        rw [List.length_take] at this
        rw [rV_length, e8]
        omega
      · have e' := bt c o hc e
        rw [upd_ne (ne_of_none e n2), upd_ne (ne_of_none e' hpn'.1), upd_ne hc]
        exact e'
      · exact fr c (upd_free (upd_free (upd_free e).1).1).1
      · rw [upd_ne nDq.symm, upd_ne npq.symm, upd_same, ep]
      · rw [upd_same, ← rV_append]
        rfl
      · rw [take_more hb]
        refine ⟨by rw [List.length_append, List.length_append, hrp.1]; rfl, fun t y hy => ?_⟩
        by_cases c : t < (x.rows.take i).length
        · rw [List.getElem?_append_left c] at hy
          obtain ⟨p', h1, h2, h3⟩ := hrp.2 t y hy
          refine ⟨p', by rw [List.getElem?_append_left (by rw [hrp.1]; exact c)]; exact h1, ?_, h3⟩
          rw [upd_ne (fun e => h3 (.inr e)), upd_ne (ne_of_none h2 hpn'.1), upd_ne (ne_of h2 hq'' (by intro z; cases z))]
          exact h2
        · rw [List.getElem?_append_right (by omega)] at hy
          have ht0 : t - (x.rows.take i).length = 0 := by
            have := (List.getElem?_eq_some_iff.mp hy).1
            simpa using this
          rw [ht0] at hy
          have hby : b = y := Option.some.inj hy
          subst hby
          refine ⟨p, by rw [List.getElem?_append_right (by rw [hrp.1]; omega), hrp.1, ht0]; rfl, ?_, fun e => ?_⟩
          · rw [upd_ne ndp.symm, upd_same, ← iV_nI]
            rfl
          · rcases e with e | e
            · exact nfp e
            · exact ndp e.symm
    rintro H4 ⟨bt4, fr4, hq4, rp, hDr4, hrp4⟩
    rw [List.take_length] at hq4 hrp4
    have hcl4 := sq_bt hcl2 bt4 hq2
    have b4 : Bt q H' H4 := b2.trans bt4
    have f4 : ∀ b, H4 b = none → H' b = none := fun b e => f2 b (fr4 b e)
    have hfa4 : H4 fa = some (.lst (iV acc)) := b4 _ _ (ne_of hfa hq (by intro z; cases z)) hfa
    have hD14 : H4 D1 = some (.lst (iV x.given)) := bt4 _ _ (ne_of hD2 hq2 (by intro z; cases z)) hD2
    have hdk4 : DeskAt (fun c => c = fa) CK CD CE H4 k o := hdk.frm (fun b u hb t _ => b4 b u (ne_of hb hq (two_ne t)) hb) fun c hc _ => by rw [hc, hfa4]; exact fun e => by cases e
    have hend := hpos x.rows.length
    rw [List.take_length, List.drop_length] at hend
    have hjn : L.drop (j + 1 + x.given.length + (x.rows.flatMap rowI).length) = cs'.flatMap enc := hend
    generalize j + 1 + x.given.length + (x.rows.flatMap rowI).length = jn at hq4 hjn ⊢
    obtain ⟨dk4, vk4, hk4, _⟩ := id hdk4
    have htot' : acc ++ ((((act o x.call x.given x.rows).2.length : Int) :: (act o x.call x.given x.rows).2) ++ playA (act o x.call x.given x.rows).1 cs') = playA none cs0 := htot
    generalize hact : act o x.call x.given x.rows = oa at htot'
    obtain ⟨o', ans⟩ := oa
    dsimp only at htot'
    have hbig : acc.length + 1 + ans.length ≤ 10000000 := by
      have := congrArg List.length htot'
      rw [List.length_append, List.length_append, List.length_cons] at this
      omega
    -- behind the call
    have fin : ∀ (H6 : Hp) (z : Addr) (o4 o5 o6 : Option V), SqL K H6 c0 (L.map V.int) → H6 q = some (.ins CL dxq (cF c0 (jn : Int))) → H6 fa = some (.lst (iV acc)) → DeskAt (fun c => c = fa) CK CD CE H6 k o' → H6 z = some (.lst (iV ans)) → z ≠ fa →
        ∃ n', n' < (x :: cs').length ∧ AnsI K CK CL CD CE c0 k q fa dxq cs0 n' [some (.ref c0), some (.ref k), some (.ref q), some (.ref fa), o4, o5, o6, some (.ref z), none, none]
          (upd (upd H6 fa (.lst (iV acc ++ [.int ((iV ans).length : Int)]))) fa (.lst ((iV acc ++ [.int ((iV ans).length : Int)]) ++ iV ans))) := by
      intro H6 z o4 o5 o6 k1 k2 k3 k4 k5 k6
      refine ⟨cs'.length, by rw [List.length_cons]; omega, jn, cs', o', acc ++ ((ans.length : Int) :: ans), o4, o5, o6, some (.ref z), rfl, rfl, ?_, ?_, ?_, ?_, ?_, fun y hy => wfs y (List.mem_cons_of_mem _ hy), ?_⟩
      · rw [hL]
        exact hwr _ _ (hwr _ _ k1)
      · have nqf : q ≠ fa := ne_of k2 k3 (by intro z; cases z)
        rw [upd_ne nqf, upd_ne nqf]
        exact k2
      · rw [upd_same]
        unfold iV
        rw [List.map_append, List.map_cons, List.length_map]
        simp
      · refine k4.frm (fun b u hb t nf => ?_) fun c hc _ => ?_
        · have nbf : b ≠ fa := fun e => by
            rw [e, k3] at hb
            cases hb
            exact nf ⟨_, rfl⟩ e
          rw [upd_ne nbf, upd_ne nbf]
          exact hb
        · rw [hc, upd_same]
          exact fun e => by cases e
      · rw [hL]
        exact hjn
      · rw [← htot']
        simp
    have apd : ∀ (H6 : Hp), H6 fa = some (.lst (iV acc)) → (iV acc).length < sizeLine := fun H6 _ => by
      unfold iV
      rw [List.length_map, e8]
      omega
    have exd' : (iV acc ++ [V.int ((iV ans).length : Int)]).length + (iV ans).length ≤ sizeLine := by
      unfold iV
      rw [List.length_append, List.length_map, List.length_map, e8]
      show acc.length + 1 + ans.length ≤ _
      omega
    refine ⟨_, rfl, _, rfl, _, rfl, _, rfl, (fun c => c = fa), k, D1, D2, x.call, o, o', x.given, x.rows, rp, ans, rfl, hdk4, hD14, hDr4, ⟨hrp4.1, fun i b hb => ?_⟩, fun c hc => by rw [hc, hfa4]; exact fun e => (by cases e), wf.shp, hact, fun H5 z ok5 nz hz D5 => ?_, fun n hn H5 xx ok5 D5 hx => ?_⟩
    · obtain ⟨p, h1, h2, h3⟩ := hrp4.2 i b hb
      exact ⟨p, h1, h2, fun e => h3 (.inl e)⟩
    · have hfa5 := ok5.keep _ _ (ne_of hfa4 hk4 (by intro z; cases z)) hfa4 trivial
      have hq5 := ok5.keep _ _ (ne_of hq4 hk4 (by intro z; cases z)) hq4 (.inl (Nat.le_refl _))
      have nzf : z ≠ fa := (ne_of_none hfa4 nz).symm
      refine ⟨_, rfl, .inl ⟨rfl, _, SqL.of hfa5⟩, _, rfl, z, _, rfl, .inl (SqL.of hz), fa, _, _, rfl, rfl, hfa5, apd H5 hfa5, ?_⟩
      refine ⟨_, rfl, .inl ⟨rfl, _, SqL.of upd_same⟩, _, rfl, fa, z, _, _, rfl, rfl, upd_same, by rw [upd_ne nzf]; exact hz, exd', ?_⟩
      exact fin H5 z _ _ _ (sq_outK hcl4 ok5 hk4) hq5 hfa5 D5 hz nzf
    · have hfa5 := ok5.keep _ _ (ne_of hfa4 hk4 (by intro z; cases z)) hfa4 trivial
      have hq5 := ok5.keep _ _ (ne_of hq4 hk4 (by intro z; cases z)) hq4 (.inl (Nat.le_refl _))
      refine ⟨true, TN.te, fun _ a0 na0 => ?_, fun e => Bool.noConfusion e⟩
      refine ⟨_, rfl, rfl, rfl, xx, _, _, rfl, hx, rfl, (by show 1 ≤ sizeLine; decide), fun z nz => ?_⟩
      have s6 := Same.new (o := HO.lst [V.int n]) nz
      have hz6 : (upd H5 z (.lst [V.int n])) z = some (.lst (iV ans)) := by
        rw [upd_same, hn]
        rfl
      have hfa6 := s6 _ _ hfa5
      have nzf : z ≠ fa := (ne_of_none hfa5 nz).symm
      refine ⟨_, rfl, .inl ⟨rfl, _, SqL.of hfa6⟩, _, rfl, z, _, rfl, .inl (SqL.of hz6), fa, _, _, rfl, rfl, hfa6, apd _ hfa6, ?_⟩
      refine ⟨_, rfl, .inl ⟨rfl, _, SqL.of upd_same⟩, _, rfl, fa, z, _, _, rfl, rfl, upd_same, by rw [upd_ne nzf]; exact hz6, exd', ?_⟩
      exact fin _ z _ _ _ (s6.seq (sq_outK hcl4 ok5 hk4)) (s6 _ _ hq5) hfa6 (D5.same s6) hz6 nzf
end
end Ad

/-! ## D29 -/
set_option Elab.async false
set_option linter.all false
set_option maxRecDepth 100000
set_option maxHeartbeats 1000000
namespace Ad
open PySem PySem.Spec PyProof.Rows L2
/-! ### the flat list taken apart -/
def rowZ (x : List Int) : List Int := (x.length : Int) :: x
def encZ (c : List (List Int)) : List Int := match c with
  | [] => []
  | h :: xs => h ++ xs.flatMap rowZ
theorem row_back {l x s : List Int} (h : PyFlat.row l = some (x, s)) : l = rowZ x ++ s := by
  cases l with
  | nil => cases h
  | cons n r =>
    unfold PyFlat.row at h
    dsimp only at h
    split at h
    · rename_i q
      cases h
      have hl : (r.take n.toNat).length = n.toNat := by
        rw [List.length_take]
        omega
      unfold rowZ
      rw [hl, show ((n.toNat : Nat) : Int) = n by omega]
      simp
    · cases h
theorem rows_back : ∀ (k : Nat) {l : List Int} {xs : List (List Int)} {t : List Int}, PyFlat.rows k l = some (xs, t) → l = xs.flatMap rowZ ++ t ∧ xs.length = k
  | 0, l, xs, t, h => by
    cases h
    exact ⟨rfl, rfl⟩
  | k + 1, l, xs, t, h => by
    unfold PyFlat.rows at h
    cases e1 : PyFlat.row l with
    | none =>
      rw [e1] at h
      cases h
    | some p =>
      obtain ⟨x, s⟩ := p
      rw [e1] at h
      dsimp only at h
      cases e2 : PyFlat.rows k s with
      | none =>
        rw [e2] at h
        cases h
      | some q =>
        obtain ⟨ys, u⟩ := q
        rw [e2] at h
        cases h
        obtain ⟨i1, i2⟩ := rows_back k e2
        rw [row_back e1, i1]
        refine ⟨?_, by rw [List.length_cons, i2]⟩
        rw [List.flatMap_cons, List.append_assoc]
/-- a call: its place, its numbers, its rows, as many as it has -/
def Fit (c : List (List Int)) : Prop := ∃ p g xs, c = (p :: g) :: xs ∧ PySd23.shape p = some (g.length, xs.length)
theorem calls_back : ∀ (f : Nat) {l : List Int} {cs : List (List (List Int))}, PyFlat.calls PySd23.shape f l = some cs → l = cs.flatMap encZ ∧ ∀ c ∈ cs, Fit c
  | f, [], cs, h => by
    have : cs = [] := by
      cases f <;> (cases h; rfl)
    subst this
    exact ⟨rfl, fun c hc => by cases hc⟩
  | 0, _ :: _, cs, h => by cases h
  | f + 1, p :: r, cs, h => by
    unfold PyFlat.calls at h
    cases e1 : PyFlat.call PySd23.shape (p :: r) with
    | none =>
      rw [e1] at h
      cases h
    | some q =>
      obtain ⟨c, t⟩ := q
      rw [e1] at h
      dsimp only at h
      cases e2 : PyFlat.calls PySd23.shape f t with
      | none =>
        rw [e2] at h
        cases h
      | some ds =>
        rw [e2] at h
        cases h
        obtain ⟨i1, i2⟩ := calls_back f e2
        have hc : p :: r = encZ c ++ t ∧ Fit c := by
          unfold PyFlat.call at e1
          dsimp only at e1
          cases e3 : PySd23.shape p with
          | none =>
            rw [e3] at e1
            cases e1
          | some nk =>
            obtain ⟨n, k⟩ := nk
            rw [e3] at e1
            dsimp only at e1
            split at e1
            · cases e1
            · rename_i hn
              cases e4 : PyFlat.rows k (r.drop n) with
              | none =>
                rw [e4] at e1
                cases e1
              | some q =>
                obtain ⟨xs, u⟩ := q
                rw [e4] at e1
                cases e1
                obtain ⟨j1, j2⟩ := rows_back k e4
                refine ⟨?_, p, r.take n, xs, rfl, ?_⟩
                · show p :: r = (p :: (r.take n)) ++ xs.flatMap rowZ ++ t
                  rw [List.cons_append, List.cons_append, List.append_assoc, ← j1, List.take_append_drop]
                · rw [e3, j2, List.length_take, Nat.min_eq_left (by omega)]
        refine ⟨?_, fun d hd => ?_⟩
        · rw [hc.1, i1]
          rfl
        · rcases List.mem_cons.mp hd with rfl | hd
          · exact hc.2
          · exact i2 d hd
/-- a call as the walk has it -/
def dec (c : List (List Int)) : Cll := match c with
  | (p :: g) :: xs => ⟨p, g, xs.map fun r => r.map Int.toNat⟩
  | _ => ⟨0, [], []⟩
theorem nat_back : ∀ {r : List Int}, (∀ z ∈ r, 0 ≤ z) → nI (r.map Int.toNat) = r
  | [], _ => rfl
  | z :: r, h => by
    have h1 := h z List.mem_cons_self
    have h2 := nat_back (r := r) fun y hy => h y (List.mem_cons_of_mem _ hy)
    unfold nI at h2 ⊢
    rw [List.map_cons, List.map_cons, h2, show ((z.toNat : Nat) : Int) = z by omega]
end Ad

/-! ## D30 -/
set_option Elab.async false
set_option linter.all false
set_option maxRecDepth 100000
set_option maxHeartbeats 2000000
namespace Ad
open PySem PySem.Spec PyProof.Rows L2
theorem lists_cons {lo hi : Int} {least most : Nat} {b : List (Int × Int × Nat × Nat)} {r : List Int} {rs : List (List Int)} (h : PyInside.lists ((lo, hi, least, most) :: b) (r :: rs) = true) :
    r.length ≤ most ∧ (∀ z ∈ r, lo ≤ z ∧ z ≤ hi) ∧ PyInside.lists b rs = true := by
  unfold PyInside.lists at h
  rw [Bool.and_eq_true, Bool.and_eq_true, Bool.and_eq_true] at h
  obtain ⟨⟨⟨_, h2⟩, h3⟩, h4⟩ := h
  refine ⟨of_decide_eq_true h2, fun z hz => ?_, h4⟩
  have := List.all_eq_true.mp h3 z hz
  unfold PyInside.within at this
  rw [Bool.and_eq_true] at this
  exact ⟨of_decide_eq_true this.1, of_decide_eq_true this.2⟩
abbrev ntz (r : List Int) : List Nat := r.map Int.toNat
theorem rowI_nat {r : List Int} (h : ∀ z ∈ r, 0 ≤ z) : rowI (ntz r) = rowZ r := by
  unfold rowI rowZ
  rw [nat_back h, List.length_map]
theorem allB_nat {r : List Int} (h : ∀ z ∈ r, 0 ≤ z ∧ z ≤ 255) : AllB (ntz r) := fun x hx => by
  obtain ⟨z, hz, rfl⟩ := List.mem_map.mp hx
  have := h z hz
  omega
theorem rowOf_len (lo hi : Nat) (r : List Int) : Sd23Neutral.rowOf (r.length : Int) lo hi r = if lo ≤ r.length ∧ r.length ≤ hi then some (ntz r) else none := by
  unfold Sd23Neutral.rowOf Sd23Neutral.nats
  by_cases h : lo ≤ r.length ∧ r.length ≤ hi
  · rw [if_pos h, if_pos (by omega)]
  · rw [if_neg h, if_neg (by omega)]
theorem good_short {n : List Nat} (h : n.length < 2) : Sd23.good n = false := by
  cases q : Sd23.good n with
  | false => rfl
  | true =>
    have := (good_len q).1
    omega
theorem shape_cases {p : Int} {n k : Nat} (h : PySd23.shape p = some (n, k)) : (p = 0 ∧ n = 0 ∧ k = 2) ∨ (p = 1 ∧ n = 4 ∧ k = 2) ∨ (p = 2 ∧ n = 0 ∧ k = 1) ∨ (p = 3 ∧ n = 0 ∧ k = 1) ∨ (p = 4 ∧ n = 0 ∧ k = 1) := by
  unfold PySd23.shape at h
  split at h
  · cases h
    exact .inl ⟨by assumption, rfl, rfl⟩
  · split at h
    · cases h
      exact .inr (.inl ⟨by assumption, rfl, rfl⟩)
    · split at h
      · cases h
        exact .inr (.inr (.inl ⟨by assumption, rfl, rfl⟩))
      · split at h
        · cases h
          exact .inr (.inr (.inr (.inl ⟨by assumption, rfl, rfl⟩)))
        · split at h
          · cases h
            exact .inr (.inr (.inr (.inr ⟨by assumption, rfl, rfl⟩)))
          · cases h
theorem two_rows {xs : List (List Int)} (h : xs.length = 2) : ∃ a b, xs = [a, b] := match xs, h with | [a, b], _ => ⟨a, b, rfl⟩
theorem one_row {xs : List (List Int)} (h : xs.length = 1) : ∃ a, xs = [a] := match xs, h with | [a], _ => ⟨a, rfl⟩
theorem four_nums {g : List Int} (h : g.length = 4) : ∃ a b c d, g = [a, b, c, d] := match g, h with | [a, b, c, d], _ => ⟨a, b, c, d, rfl⟩
theorem no_nums {g : List Int} (h : g.length = 0) : g = [] := List.eq_nil_of_length_eq_zero h
def stepN (s : Option Sd23.Abs) (q : Sd23.Call) : Option Sd23.Abs × List Int := ((Sd23.step s q).1, (Sd23.step s q).2.1 :: Sd23Neutral.ints (Sd23.step s q).2.2)
theorem ints_nI (l : List Nat) : Sd23Neutral.ints l = nI l := rfl
theorem open_eq (s : Option Sd23.Abs) (x y : List Nat) : stepN s (.open_ (if 1 ≤ x.length ∧ x.length ≤ 32 then some x else none) (if 1 ≤ y.length ∧ y.length ≤ 32 then some y else none)) = act s 0 [] [x, y] := by
  have ha : act s 0 [] [x, y] = if okOpen x y = true then (some ⟨x, y, []⟩, [0]) else (none, [-1]) := rfl
  rw [ha]
  unfold okOpen
  by_cases hx : 1 ≤ x.length ∧ x.length ≤ 32
  · by_cases hy : 1 ≤ y.length ∧ y.length ≤ 32
    · rw [if_pos hx, if_pos hy, decide_eq_true hx, decide_eq_true hy]
      by_cases e : x = y
      · rw [if_neg (by simp [e])]
        unfold stepN Sd23.step
        dsimp only
        rw [if_pos e]
        rfl
      · rw [if_pos (by simp [e])]
        unfold stepN Sd23.step
        dsimp only
        rw [if_neg e]
        rfl
    · rw [if_pos hx, if_neg hy, decide_eq_false hy, Bool.false_and, Bool.and_false, if_neg Bool.false_ne_true]
      rfl
  · rw [if_neg hx, decide_eq_false hx, Bool.false_and, if_neg Bool.false_ne_true]
    cases (if 1 ≤ y.length ∧ y.length ≤ 32 then some y else none) <;> rfl
theorem drop_eq (s : Option Sd23.Abs) (n : List Nat) (h : n.length ≤ 32) : stepN s (.drop (if 2 ≤ n.length ∧ n.length ≤ 32 then some n else none)) = act s 2 [] [n] := by
  cases s with
  | none => rfl
  | some a =>
    have ha : act (some a) 2 [] [n] = if n.length < 2 then (some a, [-1]) else (match a.find n with
          | none => (some a, [-2])
          | some _ => (some (dropE a n), [0])) := rfl
    rw [ha]
    by_cases q : n.length < 2
    · rw [if_pos q, if_neg (by omega)]
      rfl
    · rw [if_neg q, if_pos (by omega)]
      unfold stepN Sd23.step
      dsimp only
      cases a.find n <;> rfl
theorem look_eq (s : Option Sd23.Abs) (n : List Nat) (h : n.length ≤ 32) : stepN s (.look (if 2 ≤ n.length ∧ n.length ≤ 32 then some n else none)) = act s 3 [] [n] := by
  cases s with
  | none => rfl
  | some a =>
    have ha : act (some a) 3 [] [n] = if n.length < 2 then (some a, [-1]) else (match a.find n with
          | none => (some a, [-2])
          | some e => (some a, (e.value.body.length : Int) :: nI e.value.body)) := rfl
    rw [ha]
    by_cases q : n.length < 2
    · rw [if_pos q, if_neg (by omega)]
      rfl
    · rw [if_neg q, if_pos (by omega)]
      unfold stepN Sd23.step
      dsimp only
      cases a.find n <;> rfl
theorem packet_eq (s : Option Sd23.Abs) (b : List Nat) : stepN s (.packet (some b)) = act s 4 [] [b] := by
  cases s with
  | none => rfl
  | some a =>
    have ha : act (some a) 4 [] [b] = (match Sd23.read b with
          | none => (some a, [-2])
          | some m => (some (Sd23.handle a m).1, toI (Sd23.handle a m).2)) := rfl
    rw [ha]
    unfold stepN Sd23.step
    dsimp only
    cases Sd23.read b with
    | none => rfl
    | some m =>
      dsimp only
      cases (Sd23.handle a m).2 <;> rfl
theorem add_eq (s : Option Sd23.Abs) (n b : List Nat) (kind st lo hi : Int) (hn : n.length ≤ 32) (hb : AllB b) (hbl : b.length ≤ 64) :
    stepN s (.add (if 2 ≤ n.length ∧ n.length ≤ 32 then some n else none) ⟨if kind < 0 then 0 else kind.toNat, b⟩ (decide (st ≠ 0)) lo hi) = act s 1 [kind, st, lo, hi] [n, b] := by
  cases s with
  | none => rfl
  | some a =>
    have ha : act (some a) 1 [kind, st, lo, hi] [n, b] = if addOk n kind b = true then (match a.find n with
          | some e => if (e.value.mark : Int) = kind then (some (repE a (addEnt n kind st lo hi b)), [1]) else (some a, [-2])
          | none => if a.entries.length < 512 then (some (addE a (addEnt n kind st lo hi b)), [0]) else (some a, [-2])) else (some a, [-1]) := rfl
    rw [ha]
    by_cases q : n.length < 2
    · have : addOk n kind b = false := by
        unfold addOk
        rw [good_short q]
        rfl
      rw [if_neg (by omega : ¬ (2 ≤ n.length ∧ n.length ≤ 32)), this, if_neg Bool.false_ne_true]
      rfl
    rw [if_pos (by omega : 2 ≤ n.length ∧ n.length ≤ 32)]
    have had := addable (k := kind) hb
    have e5 : (kind == 5) = decide (kind = 5) := Bool.beq_eq_decide_eq _ _
    rw [e5] at had
    by_cases hok : addOk n kind b = true
    · obtain ⟨hk, _⟩ := addOk_kind hok
      have hneg : ¬ kind < 0 := by omega
      rw [if_neg hneg] at had ⊢
      have hok' := hok
      unfold addOk at hok'
      rw [had, Bool.and_eq_true, Bool.and_eq_true, Bool.and_eq_true] at hok'
      obtain ⟨⟨g1, g2⟩, g3, g4⟩ := hok'
      rw [if_pos hok]
      have hst : decide (st ≠ 0) = !decide (st = 0) := by simp
      unfold stepN Sd23.step
      dsimp only
      have hc : ¬ (Sd23.good n = false ∨ Sd23.kinds.contains kind.toNat = false ∨ Sd23.BODY < b.length ∨ Sd23.fits ⟨kind.toNat, b⟩ = false) := by
        rintro (h | h | h | h)
        · rw [g1] at h
          cases h
        · rw [g3] at h
          cases h
        · unfold Sd23.BODY at h
          omega
        · rw [g4] at h
          cases h
      rw [if_neg hc, hst]
      cases hf : a.find n with
      | some e =>
        dsimp only
        by_cases hm : (e.value.mark : Int) = kind
        · rw [if_neg (by omega), if_pos hm]
          rfl
        · rw [if_pos (by omega), if_neg hm]
          rfl
      | none =>
        dsimp only
        by_cases hl : a.entries.length < 512
        · rw [if_neg (by unfold Sd23.ENTRIES; omega), if_pos hl]
          rfl
        · rw [if_pos (by unfold Sd23.ENTRIES; omega), if_neg hl]
          rfl
    · rw [if_neg hok]
      unfold stepN Sd23.step
      dsimp only
      have hc : Sd23.good n = false ∨ Sd23.kinds.contains (if kind < 0 then 0 else kind.toNat) = false ∨ Sd23.BODY < b.length ∨ Sd23.fits ⟨if kind < 0 then 0 else kind.toNat, b⟩ = false := by
        have hF : addOk n kind b = false := by
          cases z : addOk n kind b with
          | false => rfl
          | true => exact absurd z hok
        unfold addOk at hF
        rw [had] at hF
        cases g : Sd23.good n with
        | false => exact .inl rfl
        | true =>
          rw [g, decide_eq_true hbl] at hF
          have hF' : (Sd23.kinds.contains (if kind < 0 then 0 else kind.toNat) && Sd23.fits ⟨if kind < 0 then 0 else kind.toNat, b⟩) = false := hF
          rw [Bool.and_eq_false_iff] at hF'
          rcases hF' with h | h
          · exact .inr (.inl h)
          · exact .inr (.inr (.inr h))
      rw [if_pos hc]
      rfl
end Ad

/-! ## D31 -/
set_option Elab.async false
set_option linter.all false
set_option maxRecDepth 100000
set_option maxHeartbeats 2000000
namespace Ad
open PySem PySem.Spec PyProof.Rows L2
theorem ntz_len (r : List Int) : (ntz r).length = r.length := List.length_map ..
theorem row_if (lo hi : Nat) (r : List Int) : Sd23Neutral.rowOf (r.length : Int) lo hi r = if lo ≤ (ntz r).length ∧ (ntz r).length ≤ hi then some (ntz r) else none := by
  rw [rowOf_len, ntz_len]
theorem enc_two {p : Int} {g a b : List Int} (ha : ∀ z ∈ a, 0 ≤ z) (hb : ∀ z ∈ b, 0 ≤ z) : enc ⟨p, g, [ntz a, ntz b]⟩ = encZ [p :: g, a, b] := by
  show p :: (g ++ (rowI (ntz a) ++ (rowI (ntz b) ++ []))) = (p :: g) ++ (rowZ a ++ (rowZ b ++ []))
  rw [rowI_nat ha, rowI_nat hb]
  rfl
theorem enc_one {p : Int} {g a : List Int} (ha : ∀ z ∈ a, 0 ≤ z) : enc ⟨p, g, [ntz a]⟩ = encZ [p :: g, a] := by
  show p :: (g ++ (rowI (ntz a) ++ [])) = (p :: g) ++ (rowZ a ++ [])
  rw [rowI_nat ha]
  rfl
theorem step_eq {c : List (List Int)} (F : Fit c) (Bd : PyInside.call PySd23.bound c = true) (s : Option Sd23.Abs) :
    Sd23Neutral.step s (PySd23.whole c) = act s (dec c).call (dec c).given (dec c).rows ∧ Wf (dec c) ∧ enc (dec c) = encZ c := by
  obtain ⟨p, g, xs, rfl, hs⟩ := F
  rcases shape_cases hs with ⟨rfl, hg, hx⟩ | ⟨rfl, hg, hx⟩ | ⟨rfl, hg, hx⟩ | ⟨rfl, hg, hx⟩ | ⟨rfl, hg, hx⟩
  · have := no_nums hg
    subst this
    obtain ⟨a, b, rfl⟩ := two_rows hx
    have h : PyInside.lists [(0, 255, 0, 32), (0, 255, 0, 32)] [a, b] = true := Bd
    obtain ⟨l1, r1, h⟩ := lists_cons h
    obtain ⟨l2, r2, _⟩ := lists_cons h
    refine ⟨?_, ⟨.inl ⟨rfl, _, _, rfl⟩, rfl, rfl⟩, enc_two (fun z hz => (r1 z hz).1) fun z hz => (r2 z hz).1⟩
    show stepN s (.open_ (Sd23Neutral.rowOf (a.length : Int) 1 32 a) (Sd23Neutral.rowOf (b.length : Int) 1 32 b)) = act s 0 [] [ntz a, ntz b]
    rw [row_if, row_if]
    exact open_eq s _ _
  · obtain ⟨x0, x1, x2, x3, rfl⟩ := four_nums hg
    obtain ⟨a, b, rfl⟩ := two_rows hx
    unfold PyInside.call at Bd
    rw [Bool.and_eq_true] at Bd
    have h : PyInside.lists [(0, 4294967295, 0, 32), (0, 255, 0, 64)] [a, b] = true := Bd.2
    obtain ⟨l1, r1, h⟩ := lists_cons h
    obtain ⟨l2, r2, _⟩ := lists_cons h
    have hb : AllB (ntz b) := allB_nat r2
    have hbl : (ntz b).length ≤ 64 := by rw [ntz_len]; exact l2
    have hal : (ntz a).length ≤ 32 := by rw [ntz_len]; exact l1
    refine ⟨?_, ⟨.inr (.inl ⟨rfl, ⟨_, _, _, _, rfl⟩, _, _, rfl, hb, Nat.le_trans hbl (by decide), Nat.le_trans hal (by decide)⟩), rfl, rfl⟩, enc_two (fun z hz => (r1 z hz).1) fun z hz => (r2 z hz).1⟩
    show stepN s (.add (if Sd23Neutral.rowOf (b.length : Int) 0 64 b = none then none else Sd23Neutral.rowOf (a.length : Int) 2 32 a) ⟨if x0 < 0 then 0 else x0.toNat, (Sd23Neutral.rowOf (b.length : Int) 0 64 b).getD []⟩ (decide (x1 ≠ 0)) x2 x3) = act s 1 [x0, x1, x2, x3] [ntz a, ntz b]
    rw [row_if, row_if, if_pos (⟨Nat.zero_le _, hbl⟩ : 0 ≤ (ntz b).length ∧ (ntz b).length ≤ 64)]
    rw [if_neg (by simp)]
    exact add_eq s _ _ x0 x1 x2 x3 hal hb hbl
  · have := no_nums hg
    subst this
    obtain ⟨a, rfl⟩ := one_row hx
    have h : PyInside.lists [(0, 4294967295, 0, 32)] [a] = true := Bd
    obtain ⟨l1, r1, h⟩ := lists_cons h
    refine ⟨?_, ⟨.inr (.inr (.inl ⟨rfl, _, rfl⟩)), rfl, rfl⟩, enc_one fun z hz => (r1 z hz).1⟩
    show stepN s (.drop (Sd23Neutral.rowOf (a.length : Int) 2 32 a)) = act s 2 [] [ntz a]
    rw [row_if]
    exact drop_eq s _ (by rw [ntz_len]; exact l1)
  · have := no_nums hg
    subst this
    obtain ⟨a, rfl⟩ := one_row hx
    have h : PyInside.lists [(0, 4294967295, 0, 32)] [a] = true := Bd
    obtain ⟨l1, r1, h⟩ := lists_cons h
    refine ⟨?_, ⟨.inr (.inr (.inr (.inl ⟨rfl, _, rfl⟩))), rfl, rfl⟩, enc_one fun z hz => (r1 z hz).1⟩
    show stepN s (.look (Sd23Neutral.rowOf (a.length : Int) 2 32 a)) = act s 3 [] [ntz a]
    rw [row_if]
    exact look_eq s _ (by rw [ntz_len]; exact l1)
  · have := no_nums hg
    subst this
    obtain ⟨a, rfl⟩ := one_row hx
    have h : PyInside.lists [(0, 255, 0, 15900)] [a] = true := Bd
    obtain ⟨l1, r1, h⟩ := lists_cons h
    have hal : (ntz a).length ≤ 15900 := by rw [ntz_len]; exact l1
    refine ⟨?_, ⟨.inr (.inr (.inr (.inr ⟨rfl, _, rfl, allB_nat r1, Nat.le_trans hal (by decide)⟩))), rfl, rfl⟩, enc_one fun z hz => (r1 z hz).1⟩
    show stepN s (.packet (Sd23Neutral.rowOf (a.length : Int) 0 65535 a)) = act s 4 [] [ntz a]
    rw [row_if, if_pos ⟨Nat.zero_le _, by omega⟩]
    exact packet_eq s _
theorem told_eq : ∀ (cs : List (List (List Int))) (s : Option Sd23.Abs), (∀ c ∈ cs, Fit c) → (∀ c ∈ cs, PyInside.call PySd23.bound c = true) →
    PyFlat.told (PyFlat.played Sd23Neutral.step s (cs.map PySd23.whole)) = playA s (cs.map dec) ∧ (∀ x ∈ cs.map dec, Wf x) ∧ (cs.map dec).flatMap enc = cs.flatMap encZ
  | [], s, _, _ => ⟨rfl, fun x hx => (by cases hx), rfl⟩
  | c :: cs, s, hF, hB => by
    obtain ⟨e1, e2, e3⟩ := step_eq (hF c List.mem_cons_self) (hB c List.mem_cons_self) s
    obtain ⟨i1, i2, i3⟩ := told_eq cs (act s (dec c).call (dec c).given (dec c).rows).1 (fun d hd => hF d (List.mem_cons_of_mem _ hd)) fun d hd => hB d (List.mem_cons_of_mem _ hd)
    refine ⟨?_, fun x hx => ?_, ?_⟩
    · show (((Sd23Neutral.step s (PySd23.whole c)).2.length : Int) :: (Sd23Neutral.step s (PySd23.whole c)).2) ++ PyFlat.told (PyFlat.played Sd23Neutral.step (Sd23Neutral.step s (PySd23.whole c)).1 (cs.map PySd23.whole)) = _
      rw [e1, i1]
      rfl
    · rcases List.mem_cons.mp (show x ∈ dec c :: cs.map dec from hx) with rfl | hx
      · exact e2
      · exact i2 x hx
    · show (dec c :: cs.map dec).flatMap enc = (c :: cs).flatMap encZ
      rw [List.flatMap_cons, List.flatMap_cons, e3, i3]
/-- what is asked, as the walk has it -/
theorem asked_law {l : List Int} (h : PySd23.answers_asked l = true) : ∃ cs : List Cll, cs.flatMap enc = l ∧ (∀ x ∈ cs, Wf x) ∧ playA none cs = PySd23.answers l ∧ (playA none cs).length ≤ 10000000 := by
  unfold PySd23.answers_asked at h
  cases e : PyFlat.calls PySd23.shape l.length l with
  | none =>
    rw [e] at h
    cases h
  | some raw =>
    rw [e] at h
    dsimp only at h
    rw [Bool.and_eq_true, Bool.and_eq_true, Bool.and_eq_true, Bool.and_eq_true] at h
    obtain ⟨⟨⟨_, h3⟩, _⟩, h5⟩ := h
    obtain ⟨hl, hF⟩ := calls_back l.length e
    have hB : ∀ c ∈ raw, PyInside.call PySd23.bound c = true := fun c hc => List.all_eq_true.mp h3 c hc
    obtain ⟨i1, i2, i3⟩ := told_eq raw none hF hB
    have ha : PySd23.answers l = PyFlat.told (PyFlat.played Sd23Neutral.step none (raw.map PySd23.whole)) := by
      unfold PySd23.answers PySd23.calls
      rw [e]
      rfl
    refine ⟨raw.map dec, by rw [i3]; exact hl.symm, i2, by rw [ha, i1], ?_⟩
    rw [← i1, ← ha]
    exact of_decide_eq_true h5
end Ad

/-! ## E1 -/
set_option Elab.async false
set_option linter.all false
set_option maxRecDepth 100000
set_option maxHeartbeats 4000000
namespace Ad
open PySem PySem.Spec PyProof.Rows L2
/-! ### what the top has left -/
def PkD (K : PySem.W.Frag) (x nm : Str) (st : Stmt) : Prop := ∃ (f : Addr) (oc : Value) (od : Option Addr) (kV doc pm : Value) (an : Option Addr) (cd ct : Value) (sl : Array (Option Value)), PySem.W.nsIn K mainGlobals x = some (some (.ref f)) ∧
  K.lookup f = some ⟨oc, od, .func (PySem.W.fnOf nm nm (defArgs st) (defBody st) (defScope st) .none kV doc pm an cd ct), sl⟩ ∧ PySem.W.codeIn K cd nm = true ∧ PySem.W.keepIn K (.ref f) = true
def PkM (K : PySem.W.Frag) (C : Addr) (m q : Str) (st : Stmt) : Prop := ∃ (f : Addr) (oc : Value) (od : Option Addr) (kV doc pm : Value) (an : Option Addr) (cd ct : Value) (sl : Array (Option Value)), PySem.W.findIn K (.ref C) m = some (some (.ref f)) ∧
  PySem.W.isFn K (.ref f) = true ∧ K.lookup f = some ⟨oc, od, .func (PySem.W.fnOf m q (defArgs st) (defBody st) (defScope st) .none kV doc pm an cd ct), sl⟩ ∧ PySem.W.codeIn K cd q = true ∧ PySem.W.keepIn K (.ref f) = true
def PkC (K : PySem.W.Frag) (C : Addr) : Prop := PySem.W.plainGet K C Str.empty = true ∧ PySem.W.hasDictIn K C = true ∧ PySem.W.plainOver K C = true ∧ PySem.W.findIn K (.ref C) "__setattr__" = some (some (.builtin "object.__setattr__")) ∧ PySem.W.makesIn K C = true ∧ PySem.W.keepIn K (.ref C) = true
def PkI (K : PySem.W.Frag) (x : Str) (n : Int) : Prop := ∃ t, PySem.W.nsIn K mainGlobals x = some (some (.int n t))
section
variable {K : PySem.W.Frag} {h : Heap} {mg : Str → Option Value} {x nm m q : Str} {st : Stmt} {C : Addr}
theorem PkD.def1 (p : PkD K x nm st) (X : K.In h) (G : h.Ns mainGlobals mg) : Def1 K mg x nm st := by
  obtain ⟨f, oc, od, kV, doc, pm, an, cd, ct, sl, a, l, c, k⟩ := p
  exact ⟨f, _, fun_mk l c k, PySem.W.mg_of X G a⟩
theorem PkC.cls (p : PkC K C) : Cls K C := ⟨p.1, p.2.1, p.2.2.1, p.2.2.2.1⟩
theorem PkM.met1 (p : PkM K C m q st) (c : PkC K C) : Met1 K C m q st := by
  obtain ⟨f, oc, od, kV, doc, pm, an, cd, ct, sl, a, i, l, cc, k⟩ := p
  exact ⟨⟨f, _, fun_mk l cc k, ⟨a, i, k⟩⟩, c.cls⟩
theorem PkM.mak1 (p : PkM K C "__init__" q st) (c : PkC K C) (X : K.In h) (G : h.Ns mainGlobals mg) (a0 : PySem.W.nsIn K mainGlobals x = some (some (.ref C))) : Mak1 K mg x C q st := by
  obtain ⟨f, oc, od, kV, doc, pm, an, cd, ct, sl, a, i, l, cc, k⟩ := p
  exact ⟨⟨f, _, fun_mk l cc k, ⟨c.2.2.2.2.1, a, i, c.2.2.2.2.2⟩⟩, PySem.W.mg_of X G a0, c.cls⟩
theorem PkI.intC {n : Int} (p : PkI K x n) (X : K.In h) (G : h.Ns mainGlobals mg) : IntC mg x n := by
  obtain ⟨t, a⟩ := p
  exact ⟨t, PySem.W.mg_of X G a⟩
end
theorem self_named {K : PySem.W.Frag} {S : Addr} (h1 : PySem.W.subIn K (.ref S) (.type "BaseException") = some true) (h2 : PySem.W.isClsIn K S = true) (h3 : PySem.W.typeIn K (.ref S) = some (.type "type")) (h4 : PySem.W.subIn K (.ref S) (.ref S) = some true) : PySem.W.exmOne K (.ref S) (.ref S) = some true := by
  have a1 : (PySem.W.subIn K (.ref S) (.type "BaseException") == some true) = true := by rw [h1] <;> rfl
  have a2 : (PySem.W.clsIn K S).isSome = true := h2
  have a3 : ((PySem.W.clsIn K S).isSome && PySem.W.typeIn K (.ref S) == some (.type "type")) = true := by rw [a2, h3] <;> rfl
  unfold PySem.W.exmOne
  rw [if_pos a1]
  unfold PySem.W.kitCls
  dsimp only
  rw [if_pos a3]
  exact h4

theorem all_mk {P : Program} {w : World} {K : PySem.W.Frag} {h : Heap} {mg : Str → Option Value} {fa CR CQ CE CD CK CL CN CX fA fX NX TCOUNTS TNUMBERS TREQUESTS : Addr} (X : K.In h) (G : h.Ns mainGlobals mg) (hfa : mg "answers" = some (.ref fa))
    {tCOUNTS65 tCOUNTS66 tCOUNTS67 tNUMBERS2 tNUMBERS65 tNUMBERS66 tNUMBERS67 tNUMBERS70 tREQUESTS160 tREQUESTS161 tREQUESTS163 tREQUESTS165 : Tok} {nCOUNTS nNUMBERS nREQUESTS : Nat} {oCOUNTS oNUMBERS oREQUESTS odA anA odX anX ddX : Option Addr} {sCOUNTS sNUMBERS sREQUESTS slA slX : Array (Option Value)} {oA kA dA pA cdA ctA oX kvX dcX pmX cdX ctX : Value}
    {f_thing f_isWhole f_wholeOf f_wholeBytes f_parts f_nameOf f_isName f_part f_nameBytes f_isValue f_needT f_readWhole f_readRow f_readReq f_reqOf f_rowBytes f_put f_allRows f_ansB f_fits f_fitA f_first f_got f_next f_bulk f_err f_set f_to f_needA f_open f_add f_NE f_drop f_look f_pk f_call f_rdI f_rdT f_rdTh f_rdM f_rdH f_rqI f_enI f_dvI f_dkI f_clI f_clN f_clR : Addr} {od_thing an_thing od_isWhole an_isWhole od_wholeOf an_wholeOf od_wholeBytes an_wholeBytes od_parts an_parts od_nameOf an_nameOf od_isName an_isName od_part an_part od_nameBytes an_nameBytes od_isValue an_isValue od_needT an_needT od_readWhole an_readWhole od_readRow an_readRow od_readReq an_readReq od_reqOf an_reqOf od_rowBytes an_rowBytes od_put an_put od_allRows an_allRows od_ansB an_ansB od_fits an_fits od_fitA an_fitA od_first an_first od_got an_got od_next an_next od_bulk an_bulk od_err an_err od_set an_set od_to an_to od_needA an_needA od_open an_open od_add an_add od_NE an_NE od_drop an_drop od_look an_look od_pk an_pk od_call an_call od_rdI an_rdI od_rdT an_rdT od_rdTh an_rdTh od_rdM an_rdM od_rdH an_rdH od_rqI an_rqI od_enI an_enI od_dvI an_dvI od_dkI an_dkI od_clI an_clI od_clN an_clN od_clR an_clR : Option Addr} {sl_thing sl_isWhole sl_wholeOf sl_wholeBytes sl_parts sl_nameOf sl_isName sl_part sl_nameBytes sl_isValue sl_needT sl_readWhole sl_readRow sl_readReq sl_reqOf sl_rowBytes sl_put sl_allRows sl_ansB sl_fits sl_fitA sl_first sl_got sl_next sl_bulk sl_err sl_set sl_to sl_needA sl_open sl_add sl_NE sl_drop sl_look sl_pk sl_call sl_rdI sl_rdT sl_rdTh sl_rdM sl_rdH sl_rqI sl_enI sl_dvI sl_dkI sl_clI sl_clN sl_clR : Array (Option Value)}
    {oc_thing kv_thing dc_thing pm_thing cd_thing ct_thing oc_isWhole kv_isWhole dc_isWhole pm_isWhole cd_isWhole ct_isWhole oc_wholeOf kv_wholeOf dc_wholeOf pm_wholeOf cd_wholeOf ct_wholeOf oc_wholeBytes kv_wholeBytes dc_wholeBytes pm_wholeBytes cd_wholeBytes ct_wholeBytes oc_parts kv_parts dc_parts pm_parts cd_parts ct_parts oc_nameOf kv_nameOf dc_nameOf pm_nameOf cd_nameOf ct_nameOf oc_isName kv_isName dc_isName pm_isName cd_isName ct_isName oc_part kv_part dc_part pm_part cd_part ct_part oc_nameBytes kv_nameBytes dc_nameBytes pm_nameBytes cd_nameBytes ct_nameBytes oc_isValue kv_isValue dc_isValue pm_isValue cd_isValue ct_isValue oc_needT kv_needT dc_needT pm_needT cd_needT ct_needT oc_readWhole kv_readWhole dc_readWhole pm_readWhole cd_readWhole ct_readWhole oc_readRow kv_readRow dc_readRow pm_readRow cd_readRow ct_readRow oc_readReq kv_readReq dc_readReq pm_readReq cd_readReq ct_readReq oc_reqOf kv_reqOf dc_reqOf pm_reqOf cd_reqOf ct_reqOf oc_rowBytes kv_rowBytes dc_rowBytes pm_rowBytes cd_rowBytes ct_rowBytes oc_put kv_put dc_put pm_put cd_put ct_put oc_allRows kv_allRows dc_allRows pm_allRows cd_allRows ct_allRows oc_ansB kv_ansB dc_ansB pm_ansB cd_ansB ct_ansB oc_fits kv_fits dc_fits pm_fits cd_fits ct_fits oc_fitA kv_fitA dc_fitA pm_fitA cd_fitA ct_fitA oc_first kv_first dc_first pm_first cd_first ct_first oc_got kv_got dc_got pm_got cd_got ct_got oc_next kv_next dc_next pm_next cd_next ct_next oc_bulk kv_bulk dc_bulk pm_bulk cd_bulk ct_bulk oc_err kv_err dc_err pm_err cd_err ct_err oc_set kv_set dc_set pm_set cd_set ct_set oc_to kv_to dc_to pm_to cd_to ct_to oc_needA kv_needA dc_needA pm_needA cd_needA ct_needA oc_open kv_open dc_open pm_open cd_open ct_open oc_add kv_add dc_add pm_add cd_add ct_add oc_NE kv_NE dc_NE pm_NE cd_NE ct_NE oc_drop kv_drop dc_drop pm_drop cd_drop ct_drop oc_look kv_look dc_look pm_look cd_look ct_look oc_pk kv_pk dc_pk pm_pk cd_pk ct_pk oc_call kv_call dc_call pm_call cd_call ct_call oc_rdI kv_rdI dc_rdI pm_rdI cd_rdI ct_rdI oc_rdT kv_rdT dc_rdT pm_rdT cd_rdT ct_rdT oc_rdTh kv_rdTh dc_rdTh pm_rdTh cd_rdTh ct_rdTh oc_rdM kv_rdM dc_rdM pm_rdM cd_rdM ct_rdM oc_rdH kv_rdH dc_rdH pm_rdH cd_rdH ct_rdH oc_rqI kv_rqI dc_rqI pm_rqI cd_rqI ct_rqI oc_enI kv_enI dc_enI pm_enI cd_enI ct_enI oc_dvI kv_dvI dc_dvI pm_dvI cd_dvI ct_dvI oc_dkI kv_dkI dc_dkI pm_dkI cd_dkI ct_dkI oc_clI kv_clI dc_clI pm_clI cd_clI ct_clI oc_clN kv_clN dc_clN pm_clN cd_clN ct_clN oc_clR kv_clR dc_clR pm_clR cd_clR ct_clR : Value} {w_WHOLE w_BYTES w_NOTHING w_NAME w_ADDRESS w_GREAT w_ROWS w_MOST_NAME w_WORD_BOUND w_GET w_NEXT w_ANSWER w_BULK w_MOST_MESSAGE w_MOST_WORD_messages w_TOO_LONG w_NO_ENTRY w_NO_PLACE w_NO_MORE w_MOST_VALUE w_MOST_TIMES w_NOT_ALLOWED w_OTHER_KIND w_OTHER_LENGTH w_OTHER_VALUE w_NOT_THERE w_NOT_SETTABLE w_MOST_WORD_agent w_MOST_ENTRIES w_MOST_PACKET w_ADD : Tok}
    {nmX qX : Str} {bsX : List Value} {snX : List Str} {subX : List Value} {abX : Bool} {colX : Option Bool} {x0 x1 x2 x3 x5 : Option Value}
    (cR : PySem.W.nsIn K mainGlobals "Reader" = some (some (.ref CR)))
    (cQ : PySem.W.nsIn K mainGlobals "Request" = some (some (.ref CQ)))
    (cE : PySem.W.nsIn K mainGlobals "Entry" = some (some (.ref CE)))
    (cD : PySem.W.nsIn K mainGlobals "Device" = some (some (.ref CD)))
    (cK : PySem.W.nsIn K mainGlobals "Desk" = some (some (.ref CK)))
    (cL : PySem.W.nsIn K mainGlobals "Calls" = some (some (.ref CL)))
    (cN : PySem.W.nsIn K mainGlobals "NotRight" = some (some (.ref CN)))
    (cX : PySem.W.nsIn K mainGlobals "Denied" = some (some (.ref CX)))
    (a_thing : PySem.W.nsIn K mainGlobals "thing_bytes" = some (some (.ref f_thing)))
    (l_thing : K.lookup f_thing = some ⟨oc_thing, od_thing, .func (PySem.W.fnOf "thing_bytes" "thing_bytes" (defArgs sThing) (defBody sThing) (defScope sThing) .none kv_thing dc_thing pm_thing an_thing cd_thing ct_thing), sl_thing⟩)
    (c_thing : PySem.W.codeIn K cd_thing "thing_bytes" = true)
    (k_thing : PySem.W.keepIn K (.ref f_thing) = true)
    (a_isWhole : PySem.W.nsIn K mainGlobals "is_whole" = some (some (.ref f_isWhole)))
    (l_isWhole : K.lookup f_isWhole = some ⟨oc_isWhole, od_isWhole, .func (PySem.W.fnOf "is_whole" "is_whole" (defArgs sIsWhole) (defBody sIsWhole) (defScope sIsWhole) .none kv_isWhole dc_isWhole pm_isWhole an_isWhole cd_isWhole ct_isWhole), sl_isWhole⟩)
    (c_isWhole : PySem.W.codeIn K cd_isWhole "is_whole" = true)
    (k_isWhole : PySem.W.keepIn K (.ref f_isWhole) = true)
    (a_wholeOf : PySem.W.nsIn K mainGlobals "whole_of" = some (some (.ref f_wholeOf)))
    (l_wholeOf : K.lookup f_wholeOf = some ⟨oc_wholeOf, od_wholeOf, .func (PySem.W.fnOf "whole_of" "whole_of" (defArgs sWholeOf) (defBody sWholeOf) (defScope sWholeOf) .none kv_wholeOf dc_wholeOf pm_wholeOf an_wholeOf cd_wholeOf ct_wholeOf), sl_wholeOf⟩)
    (c_wholeOf : PySem.W.codeIn K cd_wholeOf "whole_of" = true)
    (k_wholeOf : PySem.W.keepIn K (.ref f_wholeOf) = true)
    (a_wholeBytes : PySem.W.nsIn K mainGlobals "whole_bytes" = some (some (.ref f_wholeBytes)))
    (l_wholeBytes : K.lookup f_wholeBytes = some ⟨oc_wholeBytes, od_wholeBytes, .func (PySem.W.fnOf "whole_bytes" "whole_bytes" (defArgs sWholeBytes) (defBody sWholeBytes) (defScope sWholeBytes) .none kv_wholeBytes dc_wholeBytes pm_wholeBytes an_wholeBytes cd_wholeBytes ct_wholeBytes), sl_wholeBytes⟩)
    (c_wholeBytes : PySem.W.codeIn K cd_wholeBytes "whole_bytes" = true)
    (k_wholeBytes : PySem.W.keepIn K (.ref f_wholeBytes) = true)
    (a_parts : PySem.W.nsIn K mainGlobals "parts_of_name" = some (some (.ref f_parts)))
    (l_parts : K.lookup f_parts = some ⟨oc_parts, od_parts, .func (PySem.W.fnOf "parts_of_name" "parts_of_name" (defArgs sParts) (defBody sParts) (defScope sParts) .none kv_parts dc_parts pm_parts an_parts cd_parts ct_parts), sl_parts⟩)
    (c_parts : PySem.W.codeIn K cd_parts "parts_of_name" = true)
    (k_parts : PySem.W.keepIn K (.ref f_parts) = true)
    (a_nameOf : PySem.W.nsIn K mainGlobals "name_of" = some (some (.ref f_nameOf)))
    (l_nameOf : K.lookup f_nameOf = some ⟨oc_nameOf, od_nameOf, .func (PySem.W.fnOf "name_of" "name_of" (defArgs sNameOf) (defBody sNameOf) (defScope sNameOf) .none kv_nameOf dc_nameOf pm_nameOf an_nameOf cd_nameOf ct_nameOf), sl_nameOf⟩)
    (c_nameOf : PySem.W.codeIn K cd_nameOf "name_of" = true)
    (k_nameOf : PySem.W.keepIn K (.ref f_nameOf) = true)
    (a_isName : PySem.W.nsIn K mainGlobals "is_name" = some (some (.ref f_isName)))
    (l_isName : K.lookup f_isName = some ⟨oc_isName, od_isName, .func (PySem.W.fnOf "is_name" "is_name" (defArgs sIsName) (defBody sIsName) (defScope sIsName) .none kv_isName dc_isName pm_isName an_isName cd_isName ct_isName), sl_isName⟩)
    (c_isName : PySem.W.codeIn K cd_isName "is_name" = true)
    (k_isName : PySem.W.keepIn K (.ref f_isName) = true)
    (a_part : PySem.W.nsIn K mainGlobals "part_bytes" = some (some (.ref f_part)))
    (l_part : K.lookup f_part = some ⟨oc_part, od_part, .func (PySem.W.fnOf "part_bytes" "part_bytes" (defArgs sPart) (defBody sPart) (defScope sPart) .none kv_part dc_part pm_part an_part cd_part ct_part), sl_part⟩)
    (c_part : PySem.W.codeIn K cd_part "part_bytes" = true)
    (k_part : PySem.W.keepIn K (.ref f_part) = true)
    (a_nameBytes : PySem.W.nsIn K mainGlobals "name_bytes" = some (some (.ref f_nameBytes)))
    (l_nameBytes : K.lookup f_nameBytes = some ⟨oc_nameBytes, od_nameBytes, .func (PySem.W.fnOf "name_bytes" "name_bytes" (defArgs sNameBytes) (defBody sNameBytes) (defScope sNameBytes) .none kv_nameBytes dc_nameBytes pm_nameBytes an_nameBytes cd_nameBytes ct_nameBytes), sl_nameBytes⟩)
    (c_nameBytes : PySem.W.codeIn K cd_nameBytes "name_bytes" = true)
    (k_nameBytes : PySem.W.keepIn K (.ref f_nameBytes) = true)
    (a_isValue : PySem.W.nsIn K mainGlobals "is_value" = some (some (.ref f_isValue)))
    (l_isValue : K.lookup f_isValue = some ⟨oc_isValue, od_isValue, .func (PySem.W.fnOf "is_value" "is_value" (defArgs sIsValue) (defBody sIsValue) (defScope sIsValue) .none kv_isValue dc_isValue pm_isValue an_isValue cd_isValue ct_isValue), sl_isValue⟩)
    (c_isValue : PySem.W.codeIn K cd_isValue "is_value" = true)
    (k_isValue : PySem.W.keepIn K (.ref f_isValue) = true)
    (a_needT : PySem.W.nsIn K mainGlobals "need_things" = some (some (.ref f_needT)))
    (l_needT : K.lookup f_needT = some ⟨oc_needT, od_needT, .func (PySem.W.fnOf "need" "need" (defArgs sNeedT) (defBody sNeedT) (defScope sNeedT) .none kv_needT dc_needT pm_needT an_needT cd_needT ct_needT), sl_needT⟩)
    (c_needT : PySem.W.codeIn K cd_needT "need" = true)
    (k_needT : PySem.W.keepIn K (.ref f_needT) = true)
    (a_readWhole : PySem.W.nsIn K mainGlobals "read_whole" = some (some (.ref f_readWhole)))
    (l_readWhole : K.lookup f_readWhole = some ⟨oc_readWhole, od_readWhole, .func (PySem.W.fnOf "read_whole" "read_whole" (defArgs sReadWhole) (defBody sReadWhole) (defScope sReadWhole) .none kv_readWhole dc_readWhole pm_readWhole an_readWhole cd_readWhole ct_readWhole), sl_readWhole⟩)
    (c_readWhole : PySem.W.codeIn K cd_readWhole "read_whole" = true)
    (k_readWhole : PySem.W.keepIn K (.ref f_readWhole) = true)
    (a_readRow : PySem.W.nsIn K mainGlobals "read_row" = some (some (.ref f_readRow)))
    (l_readRow : K.lookup f_readRow = some ⟨oc_readRow, od_readRow, .func (PySem.W.fnOf "read_row" "read_row" (defArgs sReadRow) (defBody sReadRow) (defScope sReadRow) .none kv_readRow dc_readRow pm_readRow an_readRow cd_readRow ct_readRow), sl_readRow⟩)
    (c_readRow : PySem.W.codeIn K cd_readRow "read_row" = true)
    (k_readRow : PySem.W.keepIn K (.ref f_readRow) = true)
    (a_readReq : PySem.W.nsIn K mainGlobals "read_request" = some (some (.ref f_readReq)))
    (l_readReq : K.lookup f_readReq = some ⟨oc_readReq, od_readReq, .func (PySem.W.fnOf "read_request" "read_request" (defArgs sReadReq) (defBody sReadReq) (defScope sReadReq) .none kv_readReq dc_readReq pm_readReq an_readReq cd_readReq ct_readReq), sl_readReq⟩)
    (c_readReq : PySem.W.codeIn K cd_readReq "read_request" = true)
    (k_readReq : PySem.W.keepIn K (.ref f_readReq) = true)
    (a_reqOf : PySem.W.nsIn K mainGlobals "request_of" = some (some (.ref f_reqOf)))
    (l_reqOf : K.lookup f_reqOf = some ⟨oc_reqOf, od_reqOf, .func (PySem.W.fnOf "request_of" "request_of" (defArgs sReqOf) (defBody sReqOf) (defScope sReqOf) .none kv_reqOf dc_reqOf pm_reqOf an_reqOf cd_reqOf ct_reqOf), sl_reqOf⟩)
    (c_reqOf : PySem.W.codeIn K cd_reqOf "request_of" = true)
    (k_reqOf : PySem.W.keepIn K (.ref f_reqOf) = true)
    (a_rowBytes : PySem.W.nsIn K mainGlobals "row_bytes" = some (some (.ref f_rowBytes)))
    (l_rowBytes : K.lookup f_rowBytes = some ⟨oc_rowBytes, od_rowBytes, .func (PySem.W.fnOf "row_bytes" "row_bytes" (defArgs sRowBytes) (defBody sRowBytes) (defScope sRowBytes) .none kv_rowBytes dc_rowBytes pm_rowBytes an_rowBytes cd_rowBytes ct_rowBytes), sl_rowBytes⟩)
    (c_rowBytes : PySem.W.codeIn K cd_rowBytes "row_bytes" = true)
    (k_rowBytes : PySem.W.keepIn K (.ref f_rowBytes) = true)
    (a_put : PySem.W.nsIn K mainGlobals "put_together" = some (some (.ref f_put)))
    (l_put : K.lookup f_put = some ⟨oc_put, od_put, .func (PySem.W.fnOf "put_together" "put_together" (defArgs sPut) (defBody sPut) (defScope sPut) .none kv_put dc_put pm_put an_put cd_put ct_put), sl_put⟩)
    (c_put : PySem.W.codeIn K cd_put "put_together" = true)
    (k_put : PySem.W.keepIn K (.ref f_put) = true)
    (a_allRows : PySem.W.nsIn K mainGlobals "all_rows" = some (some (.ref f_allRows)))
    (l_allRows : K.lookup f_allRows = some ⟨oc_allRows, od_allRows, .func (PySem.W.fnOf "all_rows" "all_rows" (defArgs sAllRows) (defBody sAllRows) (defScope sAllRows) .none kv_allRows dc_allRows pm_allRows an_allRows cd_allRows ct_allRows), sl_allRows⟩)
    (c_allRows : PySem.W.codeIn K cd_allRows "all_rows" = true)
    (k_allRows : PySem.W.keepIn K (.ref f_allRows) = true)
    (a_ansB : PySem.W.nsIn K mainGlobals "answer_bytes" = some (some (.ref f_ansB)))
    (l_ansB : K.lookup f_ansB = some ⟨oc_ansB, od_ansB, .func (PySem.W.fnOf "answer_bytes" "answer_bytes" (defArgs sAnsB) (defBody sAnsB) (defScope sAnsB) .none kv_ansB dc_ansB pm_ansB an_ansB cd_ansB ct_ansB), sl_ansB⟩)
    (c_ansB : PySem.W.codeIn K cd_ansB "answer_bytes" = true)
    (k_ansB : PySem.W.keepIn K (.ref f_ansB) = true)
    (a_fits : PySem.W.nsIn K mainGlobals "fits" = some (some (.ref f_fits)))
    (l_fits : K.lookup f_fits = some ⟨oc_fits, od_fits, .func (PySem.W.fnOf "fits" "fits" (defArgs sFits) (defBody sFits) (defScope sFits) .none kv_fits dc_fits pm_fits an_fits cd_fits ct_fits), sl_fits⟩)
    (c_fits : PySem.W.codeIn K cd_fits "fits" = true)
    (k_fits : PySem.W.keepIn K (.ref f_fits) = true)
    (a_fitA : PySem.W.nsIn K mainGlobals "fitting_answer" = some (some (.ref f_fitA)))
    (l_fitA : K.lookup f_fitA = some ⟨oc_fitA, od_fitA, .func (PySem.W.fnOf "fitting_answer" "fitting_answer" (defArgs sFitA) (defBody sFitA) (defScope sFitA) .none kv_fitA dc_fitA pm_fitA an_fitA cd_fitA ct_fitA), sl_fitA⟩)
    (c_fitA : PySem.W.codeIn K cd_fitA "fitting_answer" = true)
    (k_fitA : PySem.W.keepIn K (.ref f_fitA) = true)
    (a_first : PySem.W.nsIn K mainGlobals "first_behind" = some (some (.ref f_first)))
    (l_first : K.lookup f_first = some ⟨oc_first, od_first, .func (PySem.W.fnOf "first_behind" "first_behind" (defArgs sFirst) (defBody sFirst) (defScope sFirst) .none kv_first dc_first pm_first an_first cd_first ct_first), sl_first⟩)
    (c_first : PySem.W.codeIn K cd_first "first_behind" = true)
    (k_first : PySem.W.keepIn K (.ref f_first) = true)
    (a_got : PySem.W.nsIn K mainGlobals "got_row" = some (some (.ref f_got)))
    (l_got : K.lookup f_got = some ⟨oc_got, od_got, .func (PySem.W.fnOf "got_row" "got_row" (defArgs sGot) (defBody sGot) (defScope sGot) .none kv_got dc_got pm_got an_got cd_got ct_got), sl_got⟩)
    (c_got : PySem.W.codeIn K cd_got "got_row" = true)
    (k_got : PySem.W.keepIn K (.ref f_got) = true)
    (a_next : PySem.W.nsIn K mainGlobals "next_row" = some (some (.ref f_next)))
    (l_next : K.lookup f_next = some ⟨oc_next, od_next, .func (PySem.W.fnOf "next_row" "next_row" (defArgs sNext) (defBody sNext) (defScope sNext) .none kv_next dc_next pm_next an_next cd_next ct_next), sl_next⟩)
    (c_next : PySem.W.codeIn K cd_next "next_row" = true)
    (k_next : PySem.W.keepIn K (.ref f_next) = true)
    (a_bulk : PySem.W.nsIn K mainGlobals "bulk_rows" = some (some (.ref f_bulk)))
    (l_bulk : K.lookup f_bulk = some ⟨oc_bulk, od_bulk, .func (PySem.W.fnOf "bulk_rows" "bulk_rows" (defArgs sBulk) (defBody sBulk) (defScope sBulk) .none kv_bulk dc_bulk pm_bulk an_bulk cd_bulk ct_bulk), sl_bulk⟩)
    (c_bulk : PySem.W.codeIn K cd_bulk "bulk_rows" = true)
    (k_bulk : PySem.W.keepIn K (.ref f_bulk) = true)
    (a_err : PySem.W.nsIn K mainGlobals "row_error" = some (some (.ref f_err)))
    (l_err : K.lookup f_err = some ⟨oc_err, od_err, .func (PySem.W.fnOf "row_error" "row_error" (defArgs sErr) (defBody sErr) (defScope sErr) .none kv_err dc_err pm_err an_err cd_err ct_err), sl_err⟩)
    (c_err : PySem.W.codeIn K cd_err "row_error" = true)
    (k_err : PySem.W.keepIn K (.ref f_err) = true)
    (a_set : PySem.W.nsIn K mainGlobals "set_answer" = some (some (.ref f_set)))
    (l_set : K.lookup f_set = some ⟨oc_set, od_set, .func (PySem.W.fnOf "set_answer" "set_answer" (defArgs sSet) (defBody sSet) (defScope sSet) .none kv_set dc_set pm_set an_set cd_set ct_set), sl_set⟩)
    (c_set : PySem.W.codeIn K cd_set "set_answer" = true)
    (k_set : PySem.W.keepIn K (.ref f_set) = true)
    (a_to : PySem.W.nsIn K mainGlobals "answer_to" = some (some (.ref f_to)))
    (l_to : K.lookup f_to = some ⟨oc_to, od_to, .func (PySem.W.fnOf "answer_to" "answer_to" (defArgs sTo) (defBody sTo) (defScope sTo) .none kv_to dc_to pm_to an_to cd_to ct_to), sl_to⟩)
    (c_to : PySem.W.codeIn K cd_to "answer_to" = true)
    (k_to : PySem.W.keepIn K (.ref f_to) = true)
    (a_needA : PySem.W.nsIn K mainGlobals "need_agent" = some (some (.ref f_needA)))
    (l_needA : K.lookup f_needA = some ⟨oc_needA, od_needA, .func (PySem.W.fnOf "need" "need" (defArgs sNeedA) (defBody sNeedA) (defScope sNeedA) .none kv_needA dc_needA pm_needA an_needA cd_needA ct_needA), sl_needA⟩)
    (c_needA : PySem.W.codeIn K cd_needA "need" = true)
    (k_needA : PySem.W.keepIn K (.ref f_needA) = true)
    (a_open : PySem.W.nsIn K mainGlobals "do_open" = some (some (.ref f_open)))
    (l_open : K.lookup f_open = some ⟨oc_open, od_open, .func (PySem.W.fnOf "do_open" "do_open" (defArgs sOpen) (defBody sOpen) (defScope sOpen) .none kv_open dc_open pm_open an_open cd_open ct_open), sl_open⟩)
    (c_open : PySem.W.codeIn K cd_open "do_open" = true)
    (k_open : PySem.W.keepIn K (.ref f_open) = true)
    (a_add : PySem.W.nsIn K mainGlobals "do_add" = some (some (.ref f_add)))
    (l_add : K.lookup f_add = some ⟨oc_add, od_add, .func (PySem.W.fnOf "do_add" "do_add" (defArgs sAdd) (defBody sAdd) (defScope sAdd) .none kv_add dc_add pm_add an_add cd_add ct_add), sl_add⟩)
    (c_add : PySem.W.codeIn K cd_add "do_add" = true)
    (k_add : PySem.W.keepIn K (.ref f_add) = true)
    (a_NE : PySem.W.nsIn K mainGlobals "need_entry" = some (some (.ref f_NE)))
    (l_NE : K.lookup f_NE = some ⟨oc_NE, od_NE, .func (PySem.W.fnOf "need_entry" "need_entry" (defArgs sNE) (defBody sNE) (defScope sNE) .none kv_NE dc_NE pm_NE an_NE cd_NE ct_NE), sl_NE⟩)
    (c_NE : PySem.W.codeIn K cd_NE "need_entry" = true)
    (k_NE : PySem.W.keepIn K (.ref f_NE) = true)
    (a_drop : PySem.W.nsIn K mainGlobals "do_drop" = some (some (.ref f_drop)))
    (l_drop : K.lookup f_drop = some ⟨oc_drop, od_drop, .func (PySem.W.fnOf "do_drop" "do_drop" (defArgs sDrop) (defBody sDrop) (defScope sDrop) .none kv_drop dc_drop pm_drop an_drop cd_drop ct_drop), sl_drop⟩)
    (c_drop : PySem.W.codeIn K cd_drop "do_drop" = true)
    (k_drop : PySem.W.keepIn K (.ref f_drop) = true)
    (a_look : PySem.W.nsIn K mainGlobals "do_look" = some (some (.ref f_look)))
    (l_look : K.lookup f_look = some ⟨oc_look, od_look, .func (PySem.W.fnOf "do_look" "do_look" (defArgs sLook) (defBody sLook) (defScope sLook) .none kv_look dc_look pm_look an_look cd_look ct_look), sl_look⟩)
    (c_look : PySem.W.codeIn K cd_look "do_look" = true)
    (k_look : PySem.W.keepIn K (.ref f_look) = true)
    (a_pk : PySem.W.nsIn K mainGlobals "do_packet" = some (some (.ref f_pk)))
    (l_pk : K.lookup f_pk = some ⟨oc_pk, od_pk, .func (PySem.W.fnOf "do_packet" "do_packet" (defArgs sPk) (defBody sPk) (defScope sPk) .none kv_pk dc_pk pm_pk an_pk cd_pk ct_pk), sl_pk⟩)
    (c_pk : PySem.W.codeIn K cd_pk "do_packet" = true)
    (k_pk : PySem.W.keepIn K (.ref f_pk) = true)
    (a_call : PySem.W.nsIn K mainGlobals "answer_call" = some (some (.ref f_call)))
    (l_call : K.lookup f_call = some ⟨oc_call, od_call, .func (PySem.W.fnOf "answer_call" "answer_call" (defArgs sCall) (defBody sCall) (defScope sCall) .none kv_call dc_call pm_call an_call cd_call ct_call), sl_call⟩)
    (c_call : PySem.W.codeIn K cd_call "answer_call" = true)
    (k_call : PySem.W.keepIn K (.ref f_call) = true)
    (d_ans : PySem.W.nsIn K mainGlobals "answers" = some (some (.ref fA)))
    (l_ans : K.lookup fA = some ⟨oA, odA, .func (PySem.W.fnOf "answers" "answers" (defArgs sAns) (defBody sAns) (defScope sAns) .none kA dA pA anA cdA ctA), slA⟩)
    (c_ans : PySem.W.codeIn K cdA "answers" = true)
    (k_ans : PySem.W.keepIn K (.ref fA) = true)
    (pgR : PySem.W.plainGet K CR Str.empty = true)
    (hdR : PySem.W.hasDictIn K CR = true)
    (poR : PySem.W.plainOver K CR = true)
    (saR : PySem.W.findIn K (.ref CR) "__setattr__" = some (some (.builtin "object.__setattr__")))
    (mkR : PySem.W.makesIn K CR = true)
    (kpR : PySem.W.keepIn K (.ref CR) = true)
    (nR_content : PySem.W.findIn K (.ref CR) "content" = some none)
    (nR_at : PySem.W.findIn K (.ref CR) "at" = some none)
    (pgQ : PySem.W.plainGet K CQ Str.empty = true)
    (hdQ : PySem.W.hasDictIn K CQ = true)
    (poQ : PySem.W.plainOver K CQ = true)
    (saQ : PySem.W.findIn K (.ref CQ) "__setattr__" = some (some (.builtin "object.__setattr__")))
    (mkQ : PySem.W.makesIn K CQ = true)
    (kpQ : PySem.W.keepIn K (.ref CQ) = true)
    (nQ_word : PySem.W.findIn K (.ref CQ) "word" = some none)
    (nQ_which : PySem.W.findIn K (.ref CQ) "which" = some none)
    (nQ_number : PySem.W.findIn K (.ref CQ) "number" = some none)
    (nQ_a : PySem.W.findIn K (.ref CQ) "a" = some none)
    (nQ_b : PySem.W.findIn K (.ref CQ) "b" = some none)
    (nQ_rows : PySem.W.findIn K (.ref CQ) "rows" = some none)
    (pgE : PySem.W.plainGet K CE Str.empty = true)
    (hdE : PySem.W.hasDictIn K CE = true)
    (poE : PySem.W.plainOver K CE = true)
    (saE : PySem.W.findIn K (.ref CE) "__setattr__" = some (some (.builtin "object.__setattr__")))
    (mkE : PySem.W.makesIn K CE = true)
    (kpE : PySem.W.keepIn K (.ref CE) = true)
    (nE_kind : PySem.W.findIn K (.ref CE) "kind" = some none)
    (nE_content : PySem.W.findIn K (.ref CE) "content" = some none)
    (nE_settable : PySem.W.findIn K (.ref CE) "settable" = some none)
    (nE_low : PySem.W.findIn K (.ref CE) "low" = some none)
    (nE_high : PySem.W.findIn K (.ref CE) "high" = some none)
    (pgD : PySem.W.plainGet K CD Str.empty = true)
    (hdD : PySem.W.hasDictIn K CD = true)
    (poD : PySem.W.plainOver K CD = true)
    (saD : PySem.W.findIn K (.ref CD) "__setattr__" = some (some (.builtin "object.__setattr__")))
    (mkD : PySem.W.makesIn K CD = true)
    (kpD : PySem.W.keepIn K (.ref CD) = true)
    (nD_reads : PySem.W.findIn K (.ref CD) "reads" = some none)
    (nD_writes : PySem.W.findIn K (.ref CD) "writes" = some none)
    (nD_entries : PySem.W.findIn K (.ref CD) "entries" = some none)
    (nD_names : PySem.W.findIn K (.ref CD) "names" = some none)
    (pgK : PySem.W.plainGet K CK Str.empty = true)
    (hdK : PySem.W.hasDictIn K CK = true)
    (poK : PySem.W.plainOver K CK = true)
    (saK : PySem.W.findIn K (.ref CK) "__setattr__" = some (some (.builtin "object.__setattr__")))
    (mkK : PySem.W.makesIn K CK = true)
    (kpK : PySem.W.keepIn K (.ref CK) = true)
    (nK_device : PySem.W.findIn K (.ref CK) "device" = some none)
    (pgL : PySem.W.plainGet K CL Str.empty = true)
    (hdL : PySem.W.hasDictIn K CL = true)
    (poL : PySem.W.plainOver K CL = true)
    (saL : PySem.W.findIn K (.ref CL) "__setattr__" = some (some (.builtin "object.__setattr__")))
    (mkL : PySem.W.makesIn K CL = true)
    (kpL : PySem.W.keepIn K (.ref CL) = true)
    (nL_numbers : PySem.W.findIn K (.ref CL) "numbers" = some none)
    (nL_at : PySem.W.findIn K (.ref CL) "at" = some none)
    (a_rdI : PySem.W.findIn K (.ref CR) "__init__" = some (some (.ref f_rdI)))
    (i_rdI : PySem.W.isFn K (.ref f_rdI) = true)
    (l_rdI : K.lookup f_rdI = some ⟨oc_rdI, od_rdI, .func (PySem.W.fnOf "__init__" "Reader.__init__" (defArgs sRdI) (defBody sRdI) (defScope sRdI) .none kv_rdI dc_rdI pm_rdI an_rdI cd_rdI ct_rdI), sl_rdI⟩)
    (c_rdI : PySem.W.codeIn K cd_rdI "Reader.__init__" = true)
    (k_rdI : PySem.W.keepIn K (.ref f_rdI) = true)
    (a_rdT : PySem.W.findIn K (.ref CR) "take" = some (some (.ref f_rdT)))
    (i_rdT : PySem.W.isFn K (.ref f_rdT) = true)
    (l_rdT : K.lookup f_rdT = some ⟨oc_rdT, od_rdT, .func (PySem.W.fnOf "take" "Reader.take" (defArgs sRdT) (defBody sRdT) (defScope sRdT) .none kv_rdT dc_rdT pm_rdT an_rdT cd_rdT ct_rdT), sl_rdT⟩)
    (c_rdT : PySem.W.codeIn K cd_rdT "Reader.take" = true)
    (k_rdT : PySem.W.keepIn K (.ref f_rdT) = true)
    (a_rdTh : PySem.W.findIn K (.ref CR) "thing" = some (some (.ref f_rdTh)))
    (i_rdTh : PySem.W.isFn K (.ref f_rdTh) = true)
    (l_rdTh : K.lookup f_rdTh = some ⟨oc_rdTh, od_rdTh, .func (PySem.W.fnOf "thing" "Reader.thing" (defArgs sRdTh) (defBody sRdTh) (defScope sRdTh) .none kv_rdTh dc_rdTh pm_rdTh an_rdTh cd_rdTh ct_rdTh), sl_rdTh⟩)
    (c_rdTh : PySem.W.codeIn K cd_rdTh "Reader.thing" = true)
    (k_rdTh : PySem.W.keepIn K (.ref f_rdTh) = true)
    (a_rdM : PySem.W.findIn K (.ref CR) "marked" = some (some (.ref f_rdM)))
    (i_rdM : PySem.W.isFn K (.ref f_rdM) = true)
    (l_rdM : K.lookup f_rdM = some ⟨oc_rdM, od_rdM, .func (PySem.W.fnOf "marked" "Reader.marked" (defArgs sRdM) (defBody sRdM) (defScope sRdM) .none kv_rdM dc_rdM pm_rdM an_rdM cd_rdM ct_rdM), sl_rdM⟩)
    (c_rdM : PySem.W.codeIn K cd_rdM "Reader.marked" = true)
    (k_rdM : PySem.W.keepIn K (.ref f_rdM) = true)
    (a_rdH : PySem.W.findIn K (.ref CR) "has_more" = some (some (.ref f_rdH)))
    (i_rdH : PySem.W.isFn K (.ref f_rdH) = true)
    (l_rdH : K.lookup f_rdH = some ⟨oc_rdH, od_rdH, .func (PySem.W.fnOf "has_more" "Reader.has_more" (defArgs sRdH) (defBody sRdH) (defScope sRdH) .none kv_rdH dc_rdH pm_rdH an_rdH cd_rdH ct_rdH), sl_rdH⟩)
    (c_rdH : PySem.W.codeIn K cd_rdH "Reader.has_more" = true)
    (k_rdH : PySem.W.keepIn K (.ref f_rdH) = true)
    (a_rqI : PySem.W.findIn K (.ref CQ) "__init__" = some (some (.ref f_rqI)))
    (i_rqI : PySem.W.isFn K (.ref f_rqI) = true)
    (l_rqI : K.lookup f_rqI = some ⟨oc_rqI, od_rqI, .func (PySem.W.fnOf "__init__" "Request.__init__" (defArgs sRqI) (defBody sRqI) (defScope sRqI) .none kv_rqI dc_rqI pm_rqI an_rqI cd_rqI ct_rqI), sl_rqI⟩)
    (c_rqI : PySem.W.codeIn K cd_rqI "Request.__init__" = true)
    (k_rqI : PySem.W.keepIn K (.ref f_rqI) = true)
    (a_enI : PySem.W.findIn K (.ref CE) "__init__" = some (some (.ref f_enI)))
    (i_enI : PySem.W.isFn K (.ref f_enI) = true)
    (l_enI : K.lookup f_enI = some ⟨oc_enI, od_enI, .func (PySem.W.fnOf "__init__" "Entry.__init__" (defArgs sEnI) (defBody sEnI) (defScope sEnI) .none kv_enI dc_enI pm_enI an_enI cd_enI ct_enI), sl_enI⟩)
    (c_enI : PySem.W.codeIn K cd_enI "Entry.__init__" = true)
    (k_enI : PySem.W.keepIn K (.ref f_enI) = true)
    (a_dvI : PySem.W.findIn K (.ref CD) "__init__" = some (some (.ref f_dvI)))
    (i_dvI : PySem.W.isFn K (.ref f_dvI) = true)
    (l_dvI : K.lookup f_dvI = some ⟨oc_dvI, od_dvI, .func (PySem.W.fnOf "__init__" "Device.__init__" (defArgs sDvI) (defBody sDvI) (defScope sDvI) .none kv_dvI dc_dvI pm_dvI an_dvI cd_dvI ct_dvI), sl_dvI⟩)
    (c_dvI : PySem.W.codeIn K cd_dvI "Device.__init__" = true)
    (k_dvI : PySem.W.keepIn K (.ref f_dvI) = true)
    (a_dkI : PySem.W.findIn K (.ref CK) "__init__" = some (some (.ref f_dkI)))
    (i_dkI : PySem.W.isFn K (.ref f_dkI) = true)
    (l_dkI : K.lookup f_dkI = some ⟨oc_dkI, od_dkI, .func (PySem.W.fnOf "__init__" "Desk.__init__" (defArgs sDkI) (defBody sDkI) (defScope sDkI) .none kv_dkI dc_dkI pm_dkI an_dkI cd_dkI ct_dkI), sl_dkI⟩)
    (c_dkI : PySem.W.codeIn K cd_dkI "Desk.__init__" = true)
    (k_dkI : PySem.W.keepIn K (.ref f_dkI) = true)
    (a_clI : PySem.W.findIn K (.ref CL) "__init__" = some (some (.ref f_clI)))
    (i_clI : PySem.W.isFn K (.ref f_clI) = true)
    (l_clI : K.lookup f_clI = some ⟨oc_clI, od_clI, .func (PySem.W.fnOf "__init__" "Calls.__init__" (defArgs sClI) (defBody sClI) (defScope sClI) .none kv_clI dc_clI pm_clI an_clI cd_clI ct_clI), sl_clI⟩)
    (c_clI : PySem.W.codeIn K cd_clI "Calls.__init__" = true)
    (k_clI : PySem.W.keepIn K (.ref f_clI) = true)
    (a_clN : PySem.W.findIn K (.ref CL) "next_number" = some (some (.ref f_clN)))
    (i_clN : PySem.W.isFn K (.ref f_clN) = true)
    (l_clN : K.lookup f_clN = some ⟨oc_clN, od_clN, .func (PySem.W.fnOf "next_number" "Calls.next_number" (defArgs sClN) (defBody sClN) (defScope sClN) .none kv_clN dc_clN pm_clN an_clN cd_clN ct_clN), sl_clN⟩)
    (c_clN : PySem.W.codeIn K cd_clN "Calls.next_number" = true)
    (k_clN : PySem.W.keepIn K (.ref f_clN) = true)
    (a_clR : PySem.W.findIn K (.ref CL) "next_row" = some (some (.ref f_clR)))
    (i_clR : PySem.W.isFn K (.ref f_clR) = true)
    (l_clR : K.lookup f_clR = some ⟨oc_clR, od_clR, .func (PySem.W.fnOf "next_row" "Calls.next_row" (defArgs sClR) (defBody sClR) (defScope sClR) .none kv_clR dc_clR pm_clR an_clR cd_clR ct_clR), sl_clR⟩)
    (c_clR : PySem.W.codeIn K cd_clR "Calls.next_row" = true)
    (k_clR : PySem.W.keepIn K (.ref f_clR) = true)
    (v_WHOLE : PySem.W.nsIn K mainGlobals "WHOLE" = some (some (.int 2 w_WHOLE)))
    (v_BYTES : PySem.W.nsIn K mainGlobals "BYTES" = some (some (.int 4 w_BYTES)))
    (v_NOTHING : PySem.W.nsIn K mainGlobals "NOTHING" = some (some (.int 5 w_NOTHING)))
    (v_NAME : PySem.W.nsIn K mainGlobals "NAME" = some (some (.int 6 w_NAME)))
    (v_ADDRESS : PySem.W.nsIn K mainGlobals "ADDRESS" = some (some (.int 64 w_ADDRESS)))
    (v_GREAT : PySem.W.nsIn K mainGlobals "GREAT" = some (some (.int 70 w_GREAT)))
    (v_ROWS : PySem.W.nsIn K mainGlobals "ROWS" = some (some (.int 48 w_ROWS)))
    (v_MOST_NAME : PySem.W.nsIn K mainGlobals "MOST_NAME" = some (some (.int 32 w_MOST_NAME)))
    (v_WORD_BOUND : PySem.W.nsIn K mainGlobals "WORD_BOUND" = some (some (.int 4294967296 w_WORD_BOUND)))
    (v_GET : PySem.W.nsIn K mainGlobals "GET" = some (some (.int 160 w_GET)))
    (v_NEXT : PySem.W.nsIn K mainGlobals "NEXT" = some (some (.int 161 w_NEXT)))
    (v_ANSWER : PySem.W.nsIn K mainGlobals "ANSWER" = some (some (.int 162 w_ANSWER)))
    (v_BULK : PySem.W.nsIn K mainGlobals "BULK" = some (some (.int 165 w_BULK)))
    (v_MOST_MESSAGE : PySem.W.nsIn K mainGlobals "MOST_MESSAGE" = some (some (.int 1472 w_MOST_MESSAGE)))
    (v_MOST_WORD_messages : PySem.W.nsIn K mainGlobals "MOST_WORD_messages" = some (some (.int 32 w_MOST_WORD_messages)))
    (v_TOO_LONG : PySem.W.nsIn K mainGlobals "TOO_LONG" = some (some (.int 1 w_TOO_LONG)))
    (v_NO_ENTRY : PySem.W.nsIn K mainGlobals "NO_ENTRY" = some (some (.int 128 w_NO_ENTRY)))
    (v_NO_PLACE : PySem.W.nsIn K mainGlobals "NO_PLACE" = some (some (.int 129 w_NO_PLACE)))
    (v_NO_MORE : PySem.W.nsIn K mainGlobals "NO_MORE" = some (some (.int 130 w_NO_MORE)))
    (v_MOST_VALUE : PySem.W.nsIn K mainGlobals "MOST_VALUE" = some (some (.int 64 w_MOST_VALUE)))
    (v_MOST_TIMES : PySem.W.nsIn K mainGlobals "MOST_TIMES" = some (some (.int 1472 w_MOST_TIMES)))
    (v_NOT_ALLOWED : PySem.W.nsIn K mainGlobals "NOT_ALLOWED" = some (some (.int 6 w_NOT_ALLOWED)))
    (v_OTHER_KIND : PySem.W.nsIn K mainGlobals "OTHER_KIND" = some (some (.int 7 w_OTHER_KIND)))
    (v_OTHER_LENGTH : PySem.W.nsIn K mainGlobals "OTHER_LENGTH" = some (some (.int 8 w_OTHER_LENGTH)))
    (v_OTHER_VALUE : PySem.W.nsIn K mainGlobals "OTHER_VALUE" = some (some (.int 10 w_OTHER_VALUE)))
    (v_NOT_THERE : PySem.W.nsIn K mainGlobals "NOT_THERE" = some (some (.int 11 w_NOT_THERE)))
    (v_NOT_SETTABLE : PySem.W.nsIn K mainGlobals "NOT_SETTABLE" = some (some (.int 17 w_NOT_SETTABLE)))
    (v_MOST_WORD_agent : PySem.W.nsIn K mainGlobals "MOST_WORD_agent" = some (some (.int 32 w_MOST_WORD_agent)))
    (v_MOST_ENTRIES : PySem.W.nsIn K mainGlobals "MOST_ENTRIES" = some (some (.int 512 w_MOST_ENTRIES)))
    (v_MOST_PACKET : PySem.W.nsIn K mainGlobals "MOST_PACKET" = some (some (.int 65535 w_MOST_PACKET)))
    (v_ADD : PySem.W.nsIn K mainGlobals "ADD" = some (some (.int 1 w_ADD)))
    (t_COUNTS : PySem.W.nsIn K mainGlobals "COUNTS" = some (some (.ref TCOUNTS)))
    (l_COUNTS : K.lookup TCOUNTS = some ⟨.type "tuple", oCOUNTS, .seq #[.int 65 tCOUNTS65, .int 66 tCOUNTS66, .int 67 tCOUNTS67] nCOUNTS, sCOUNTS⟩)
    (t_NUMBERS : PySem.W.nsIn K mainGlobals "NUMBERS" = some (some (.ref TNUMBERS)))
    (l_NUMBERS : K.lookup TNUMBERS = some ⟨.type "tuple", oNUMBERS, .seq #[.int 2 tNUMBERS2, .int 65 tNUMBERS65, .int 66 tNUMBERS66, .int 67 tNUMBERS67, .int 70 tNUMBERS70] nNUMBERS, sNUMBERS⟩)
    (t_REQUESTS : PySem.W.nsIn K mainGlobals "REQUESTS" = some (some (.ref TREQUESTS)))
    (l_REQUESTS : K.lookup TREQUESTS = some ⟨.type "tuple", oREQUESTS, .seq #[.int 160 tREQUESTS160, .int 161 tREQUESTS161, .int 163 tREQUESTS163, .int 165 tREQUESTS165] nREQUESTS, sREQUESTS⟩)
    (b_len : PySem.W.nsIn K mainGlobals "len" = some none)
    (b_list : PySem.W.nsIn K mainGlobals "list" = some none)
    (b_tuple : PySem.W.nsIn K mainGlobals "tuple" = some none)
    (b_min : PySem.W.nsIn K mainGlobals "min" = some none)
    (b_max : PySem.W.nsIn K mainGlobals "max" = some none)
    (b_all : PySem.W.nsIn K mainGlobals "all" = some none)
    (b_any : PySem.W.nsIn K mainGlobals "any" = some none)
    (b_sum : PySem.W.nsIn K mainGlobals "sum" = some none)
    (b_range : PySem.W.nsIn K mainGlobals "range" = some none)
    (b_sorted : PySem.W.nsIn K mainGlobals "sorted" = some none)
    (b_enumerate : PySem.W.nsIn K mainGlobals "enumerate" = some none)
    (b_Exception : PySem.W.nsIn K mainGlobals "Exception" = some none)
    (xN : PySem.W.excIn K CN [.type "Exception", .type "BaseException", .type "object"] "Exception.__new__" = true)
    (kN : PySem.W.keepIn K (.ref CN) = true)
    (bN : PySem.W.subIn K (.ref CN) (.type "BaseException") = some true)
    (tN : PySem.W.typeIn K (.ref CN) = some (.type "type"))
    (iN : PySem.W.isClsIn K CN = true)
    (sN : PySem.W.subIn K (.ref CN) (.ref CN) = some true)
    (kX : PySem.W.keepIn K (.ref CX) = true)
    (bX : PySem.W.subIn K (.ref CX) (.type "BaseException") = some true)
    (tX : PySem.W.typeIn K (.ref CX) = some (.type "type"))
    (iX : PySem.W.isClsIn K CX = true)
    (sX : PySem.W.subIn K (.ref CX) (.ref CX) = some true)
    (xX : K.lookup CX = some (excClassObj nmX qX CX NX bsX [.type "Exception", .type "BaseException", .type "object"] true snX subX abX colX ddX x0 x1 x2 x3 x5 "Exception.__new__"))
    (saX : PySem.W.findIn K (.ref CX) "__setattr__" = some (some (.builtin "object.__setattr__")))
    (gaX : PySem.W.findIn K (.ref CX) "__getattribute__" = some (some (.builtin "BaseException.__getattribute__")))
    (ggX : PySem.W.findIn K (.ref CX) "__getattr__" = some none)
    (hX : PySem.W.hasDictIn K CX = true)
    (noX : PySem.W.findIn K (.ref CX) "number" = some none)
    (inX : PySem.W.findIn K (.ref CX) "__init__" = some (some (.ref fX)))
    (tiX : PySem.W.typeIn K (.ref fX) = some (.type "function"))
    (liX : K.lookup fX = some ⟨oX, odX, .func (PySem.W.fnOf "__init__" "Denied.__init__" (defArgs sDnI) (defBody sDnI) (defScope sDnI) .none kvX dcX pmX anX cdX ctX), slX⟩)
    (ciX : PySem.W.codeIn K cdX "Denied.__init__" = true)
    (kiX : PySem.W.keepIn K (.ref fX) = true)
    (feX : PySem.W.findCls K (.type "Exception") (.type "type") "__init__" = some (.val (.builtin "Exception.__init__")))
    : ∃ fd : FuncData, (∀ (s : Shared) (us : List Value), us.length = (["calls"] : List Str).length → BindsTo s fd ⟨us, []⟩ ([("calls" : Str)].zip us)) ∧ ∀ base : Heap, K.In base → base.Ns mainGlobals mg → FnOk P w K mg base CX0 10 fa fd ["calls"] (spAns K) := by
  have e := hfa.symm.trans (PySem.W.mg_of X G d_ans)
  cases e
  have d_thing : PkD K "thing_bytes" "thing_bytes" sThing := ⟨f_thing, oc_thing, od_thing, kv_thing, dc_thing, pm_thing, an_thing, cd_thing, ct_thing, sl_thing, a_thing, l_thing, c_thing, k_thing⟩
  have d_isWhole : PkD K "is_whole" "is_whole" sIsWhole := ⟨f_isWhole, oc_isWhole, od_isWhole, kv_isWhole, dc_isWhole, pm_isWhole, an_isWhole, cd_isWhole, ct_isWhole, sl_isWhole, a_isWhole, l_isWhole, c_isWhole, k_isWhole⟩
  have d_wholeOf : PkD K "whole_of" "whole_of" sWholeOf := ⟨f_wholeOf, oc_wholeOf, od_wholeOf, kv_wholeOf, dc_wholeOf, pm_wholeOf, an_wholeOf, cd_wholeOf, ct_wholeOf, sl_wholeOf, a_wholeOf, l_wholeOf, c_wholeOf, k_wholeOf⟩
  have d_wholeBytes : PkD K "whole_bytes" "whole_bytes" sWholeBytes := ⟨f_wholeBytes, oc_wholeBytes, od_wholeBytes, kv_wholeBytes, dc_wholeBytes, pm_wholeBytes, an_wholeBytes, cd_wholeBytes, ct_wholeBytes, sl_wholeBytes, a_wholeBytes, l_wholeBytes, c_wholeBytes, k_wholeBytes⟩
  have d_parts : PkD K "parts_of_name" "parts_of_name" sParts := ⟨f_parts, oc_parts, od_parts, kv_parts, dc_parts, pm_parts, an_parts, cd_parts, ct_parts, sl_parts, a_parts, l_parts, c_parts, k_parts⟩
  have d_nameOf : PkD K "name_of" "name_of" sNameOf := ⟨f_nameOf, oc_nameOf, od_nameOf, kv_nameOf, dc_nameOf, pm_nameOf, an_nameOf, cd_nameOf, ct_nameOf, sl_nameOf, a_nameOf, l_nameOf, c_nameOf, k_nameOf⟩
  have d_isName : PkD K "is_name" "is_name" sIsName := ⟨f_isName, oc_isName, od_isName, kv_isName, dc_isName, pm_isName, an_isName, cd_isName, ct_isName, sl_isName, a_isName, l_isName, c_isName, k_isName⟩
  have d_part : PkD K "part_bytes" "part_bytes" sPart := ⟨f_part, oc_part, od_part, kv_part, dc_part, pm_part, an_part, cd_part, ct_part, sl_part, a_part, l_part, c_part, k_part⟩
  have d_nameBytes : PkD K "name_bytes" "name_bytes" sNameBytes := ⟨f_nameBytes, oc_nameBytes, od_nameBytes, kv_nameBytes, dc_nameBytes, pm_nameBytes, an_nameBytes, cd_nameBytes, ct_nameBytes, sl_nameBytes, a_nameBytes, l_nameBytes, c_nameBytes, k_nameBytes⟩
  have d_isValue : PkD K "is_value" "is_value" sIsValue := ⟨f_isValue, oc_isValue, od_isValue, kv_isValue, dc_isValue, pm_isValue, an_isValue, cd_isValue, ct_isValue, sl_isValue, a_isValue, l_isValue, c_isValue, k_isValue⟩
  have d_needT : PkD K "need_things" "need" sNeedT := ⟨f_needT, oc_needT, od_needT, kv_needT, dc_needT, pm_needT, an_needT, cd_needT, ct_needT, sl_needT, a_needT, l_needT, c_needT, k_needT⟩
  have d_readWhole : PkD K "read_whole" "read_whole" sReadWhole := ⟨f_readWhole, oc_readWhole, od_readWhole, kv_readWhole, dc_readWhole, pm_readWhole, an_readWhole, cd_readWhole, ct_readWhole, sl_readWhole, a_readWhole, l_readWhole, c_readWhole, k_readWhole⟩
  have d_readRow : PkD K "read_row" "read_row" sReadRow := ⟨f_readRow, oc_readRow, od_readRow, kv_readRow, dc_readRow, pm_readRow, an_readRow, cd_readRow, ct_readRow, sl_readRow, a_readRow, l_readRow, c_readRow, k_readRow⟩
  have d_readReq : PkD K "read_request" "read_request" sReadReq := ⟨f_readReq, oc_readReq, od_readReq, kv_readReq, dc_readReq, pm_readReq, an_readReq, cd_readReq, ct_readReq, sl_readReq, a_readReq, l_readReq, c_readReq, k_readReq⟩
  have d_reqOf : PkD K "request_of" "request_of" sReqOf := ⟨f_reqOf, oc_reqOf, od_reqOf, kv_reqOf, dc_reqOf, pm_reqOf, an_reqOf, cd_reqOf, ct_reqOf, sl_reqOf, a_reqOf, l_reqOf, c_reqOf, k_reqOf⟩
  have d_rowBytes : PkD K "row_bytes" "row_bytes" sRowBytes := ⟨f_rowBytes, oc_rowBytes, od_rowBytes, kv_rowBytes, dc_rowBytes, pm_rowBytes, an_rowBytes, cd_rowBytes, ct_rowBytes, sl_rowBytes, a_rowBytes, l_rowBytes, c_rowBytes, k_rowBytes⟩
  have d_put : PkD K "put_together" "put_together" sPut := ⟨f_put, oc_put, od_put, kv_put, dc_put, pm_put, an_put, cd_put, ct_put, sl_put, a_put, l_put, c_put, k_put⟩
  have d_allRows : PkD K "all_rows" "all_rows" sAllRows := ⟨f_allRows, oc_allRows, od_allRows, kv_allRows, dc_allRows, pm_allRows, an_allRows, cd_allRows, ct_allRows, sl_allRows, a_allRows, l_allRows, c_allRows, k_allRows⟩
  have d_ansB : PkD K "answer_bytes" "answer_bytes" sAnsB := ⟨f_ansB, oc_ansB, od_ansB, kv_ansB, dc_ansB, pm_ansB, an_ansB, cd_ansB, ct_ansB, sl_ansB, a_ansB, l_ansB, c_ansB, k_ansB⟩
  have d_fits : PkD K "fits" "fits" sFits := ⟨f_fits, oc_fits, od_fits, kv_fits, dc_fits, pm_fits, an_fits, cd_fits, ct_fits, sl_fits, a_fits, l_fits, c_fits, k_fits⟩
  have d_fitA : PkD K "fitting_answer" "fitting_answer" sFitA := ⟨f_fitA, oc_fitA, od_fitA, kv_fitA, dc_fitA, pm_fitA, an_fitA, cd_fitA, ct_fitA, sl_fitA, a_fitA, l_fitA, c_fitA, k_fitA⟩
  have d_first : PkD K "first_behind" "first_behind" sFirst := ⟨f_first, oc_first, od_first, kv_first, dc_first, pm_first, an_first, cd_first, ct_first, sl_first, a_first, l_first, c_first, k_first⟩
  have d_got : PkD K "got_row" "got_row" sGot := ⟨f_got, oc_got, od_got, kv_got, dc_got, pm_got, an_got, cd_got, ct_got, sl_got, a_got, l_got, c_got, k_got⟩
  have d_next : PkD K "next_row" "next_row" sNext := ⟨f_next, oc_next, od_next, kv_next, dc_next, pm_next, an_next, cd_next, ct_next, sl_next, a_next, l_next, c_next, k_next⟩
  have d_bulk : PkD K "bulk_rows" "bulk_rows" sBulk := ⟨f_bulk, oc_bulk, od_bulk, kv_bulk, dc_bulk, pm_bulk, an_bulk, cd_bulk, ct_bulk, sl_bulk, a_bulk, l_bulk, c_bulk, k_bulk⟩
  have d_err : PkD K "row_error" "row_error" sErr := ⟨f_err, oc_err, od_err, kv_err, dc_err, pm_err, an_err, cd_err, ct_err, sl_err, a_err, l_err, c_err, k_err⟩
  have d_set : PkD K "set_answer" "set_answer" sSet := ⟨f_set, oc_set, od_set, kv_set, dc_set, pm_set, an_set, cd_set, ct_set, sl_set, a_set, l_set, c_set, k_set⟩
  have d_to : PkD K "answer_to" "answer_to" sTo := ⟨f_to, oc_to, od_to, kv_to, dc_to, pm_to, an_to, cd_to, ct_to, sl_to, a_to, l_to, c_to, k_to⟩
  have d_needA : PkD K "need_agent" "need" sNeedA := ⟨f_needA, oc_needA, od_needA, kv_needA, dc_needA, pm_needA, an_needA, cd_needA, ct_needA, sl_needA, a_needA, l_needA, c_needA, k_needA⟩
  have d_open : PkD K "do_open" "do_open" sOpen := ⟨f_open, oc_open, od_open, kv_open, dc_open, pm_open, an_open, cd_open, ct_open, sl_open, a_open, l_open, c_open, k_open⟩
  have d_add : PkD K "do_add" "do_add" sAdd := ⟨f_add, oc_add, od_add, kv_add, dc_add, pm_add, an_add, cd_add, ct_add, sl_add, a_add, l_add, c_add, k_add⟩
  have d_NE : PkD K "need_entry" "need_entry" sNE := ⟨f_NE, oc_NE, od_NE, kv_NE, dc_NE, pm_NE, an_NE, cd_NE, ct_NE, sl_NE, a_NE, l_NE, c_NE, k_NE⟩
  have d_drop : PkD K "do_drop" "do_drop" sDrop := ⟨f_drop, oc_drop, od_drop, kv_drop, dc_drop, pm_drop, an_drop, cd_drop, ct_drop, sl_drop, a_drop, l_drop, c_drop, k_drop⟩
  have d_look : PkD K "do_look" "do_look" sLook := ⟨f_look, oc_look, od_look, kv_look, dc_look, pm_look, an_look, cd_look, ct_look, sl_look, a_look, l_look, c_look, k_look⟩
  have d_pk : PkD K "do_packet" "do_packet" sPk := ⟨f_pk, oc_pk, od_pk, kv_pk, dc_pk, pm_pk, an_pk, cd_pk, ct_pk, sl_pk, a_pk, l_pk, c_pk, k_pk⟩
  have d_call : PkD K "answer_call" "answer_call" sCall := ⟨f_call, oc_call, od_call, kv_call, dc_call, pm_call, an_call, cd_call, ct_call, sl_call, a_call, l_call, c_call, k_call⟩
  have pR : PkC K CR := ⟨pgR, hdR, poR, saR, mkR, kpR⟩
  have pQ : PkC K CQ := ⟨pgQ, hdQ, poQ, saQ, mkQ, kpQ⟩
  have pE : PkC K CE := ⟨pgE, hdE, poE, saE, mkE, kpE⟩
  have pD : PkC K CD := ⟨pgD, hdD, poD, saD, mkD, kpD⟩
  have pK : PkC K CK := ⟨pgK, hdK, poK, saK, mkK, kpK⟩
  have pL : PkC K CL := ⟨pgL, hdL, poL, saL, mkL, kpL⟩
  have m_rdI : PkM K CR "__init__" "Reader.__init__" sRdI := ⟨f_rdI, oc_rdI, od_rdI, kv_rdI, dc_rdI, pm_rdI, an_rdI, cd_rdI, ct_rdI, sl_rdI, a_rdI, i_rdI, l_rdI, c_rdI, k_rdI⟩
  have m_rdT : PkM K CR "take" "Reader.take" sRdT := ⟨f_rdT, oc_rdT, od_rdT, kv_rdT, dc_rdT, pm_rdT, an_rdT, cd_rdT, ct_rdT, sl_rdT, a_rdT, i_rdT, l_rdT, c_rdT, k_rdT⟩
  have m_rdTh : PkM K CR "thing" "Reader.thing" sRdTh := ⟨f_rdTh, oc_rdTh, od_rdTh, kv_rdTh, dc_rdTh, pm_rdTh, an_rdTh, cd_rdTh, ct_rdTh, sl_rdTh, a_rdTh, i_rdTh, l_rdTh, c_rdTh, k_rdTh⟩
  have m_rdM : PkM K CR "marked" "Reader.marked" sRdM := ⟨f_rdM, oc_rdM, od_rdM, kv_rdM, dc_rdM, pm_rdM, an_rdM, cd_rdM, ct_rdM, sl_rdM, a_rdM, i_rdM, l_rdM, c_rdM, k_rdM⟩
  have m_rdH : PkM K CR "has_more" "Reader.has_more" sRdH := ⟨f_rdH, oc_rdH, od_rdH, kv_rdH, dc_rdH, pm_rdH, an_rdH, cd_rdH, ct_rdH, sl_rdH, a_rdH, i_rdH, l_rdH, c_rdH, k_rdH⟩
  have m_rqI : PkM K CQ "__init__" "Request.__init__" sRqI := ⟨f_rqI, oc_rqI, od_rqI, kv_rqI, dc_rqI, pm_rqI, an_rqI, cd_rqI, ct_rqI, sl_rqI, a_rqI, i_rqI, l_rqI, c_rqI, k_rqI⟩
  have m_enI : PkM K CE "__init__" "Entry.__init__" sEnI := ⟨f_enI, oc_enI, od_enI, kv_enI, dc_enI, pm_enI, an_enI, cd_enI, ct_enI, sl_enI, a_enI, i_enI, l_enI, c_enI, k_enI⟩
  have m_dvI : PkM K CD "__init__" "Device.__init__" sDvI := ⟨f_dvI, oc_dvI, od_dvI, kv_dvI, dc_dvI, pm_dvI, an_dvI, cd_dvI, ct_dvI, sl_dvI, a_dvI, i_dvI, l_dvI, c_dvI, k_dvI⟩
  have m_dkI : PkM K CK "__init__" "Desk.__init__" sDkI := ⟨f_dkI, oc_dkI, od_dkI, kv_dkI, dc_dkI, pm_dkI, an_dkI, cd_dkI, ct_dkI, sl_dkI, a_dkI, i_dkI, l_dkI, c_dkI, k_dkI⟩
  have m_clI : PkM K CL "__init__" "Calls.__init__" sClI := ⟨f_clI, oc_clI, od_clI, kv_clI, dc_clI, pm_clI, an_clI, cd_clI, ct_clI, sl_clI, a_clI, i_clI, l_clI, c_clI, k_clI⟩
  have m_clN : PkM K CL "next_number" "Calls.next_number" sClN := ⟨f_clN, oc_clN, od_clN, kv_clN, dc_clN, pm_clN, an_clN, cd_clN, ct_clN, sl_clN, a_clN, i_clN, l_clN, c_clN, k_clN⟩
  have m_clR : PkM K CL "next_row" "Calls.next_row" sClR := ⟨f_clR, oc_clR, od_clR, kv_clR, dc_clR, pm_clR, an_clR, cd_clR, ct_clR, sl_clR, a_clR, i_clR, l_clR, c_clR, k_clR⟩
  have i_WHOLE : PkI K "WHOLE" 2 := ⟨w_WHOLE, v_WHOLE⟩
  have i_BYTES : PkI K "BYTES" 4 := ⟨w_BYTES, v_BYTES⟩
  have i_NOTHING : PkI K "NOTHING" 5 := ⟨w_NOTHING, v_NOTHING⟩
  have i_NAME : PkI K "NAME" 6 := ⟨w_NAME, v_NAME⟩
  have i_ADDRESS : PkI K "ADDRESS" 64 := ⟨w_ADDRESS, v_ADDRESS⟩
  have i_GREAT : PkI K "GREAT" 70 := ⟨w_GREAT, v_GREAT⟩
  have i_ROWS : PkI K "ROWS" 48 := ⟨w_ROWS, v_ROWS⟩
  have i_MOST_NAME : PkI K "MOST_NAME" 32 := ⟨w_MOST_NAME, v_MOST_NAME⟩
  have i_WORD_BOUND : PkI K "WORD_BOUND" 4294967296 := ⟨w_WORD_BOUND, v_WORD_BOUND⟩
  have i_GET : PkI K "GET" 160 := ⟨w_GET, v_GET⟩
  have i_NEXT : PkI K "NEXT" 161 := ⟨w_NEXT, v_NEXT⟩
  have i_ANSWER : PkI K "ANSWER" 162 := ⟨w_ANSWER, v_ANSWER⟩
  have i_BULK : PkI K "BULK" 165 := ⟨w_BULK, v_BULK⟩
  have i_MOST_MESSAGE : PkI K "MOST_MESSAGE" 1472 := ⟨w_MOST_MESSAGE, v_MOST_MESSAGE⟩
  have i_MOST_WORD_messages : PkI K "MOST_WORD_messages" 32 := ⟨w_MOST_WORD_messages, v_MOST_WORD_messages⟩
  have i_TOO_LONG : PkI K "TOO_LONG" 1 := ⟨w_TOO_LONG, v_TOO_LONG⟩
  have i_NO_ENTRY : PkI K "NO_ENTRY" 128 := ⟨w_NO_ENTRY, v_NO_ENTRY⟩
  have i_NO_PLACE : PkI K "NO_PLACE" 129 := ⟨w_NO_PLACE, v_NO_PLACE⟩
  have i_NO_MORE : PkI K "NO_MORE" 130 := ⟨w_NO_MORE, v_NO_MORE⟩
  have i_MOST_VALUE : PkI K "MOST_VALUE" 64 := ⟨w_MOST_VALUE, v_MOST_VALUE⟩
  have i_MOST_TIMES : PkI K "MOST_TIMES" 1472 := ⟨w_MOST_TIMES, v_MOST_TIMES⟩
  have i_NOT_ALLOWED : PkI K "NOT_ALLOWED" 6 := ⟨w_NOT_ALLOWED, v_NOT_ALLOWED⟩
  have i_OTHER_KIND : PkI K "OTHER_KIND" 7 := ⟨w_OTHER_KIND, v_OTHER_KIND⟩
  have i_OTHER_LENGTH : PkI K "OTHER_LENGTH" 8 := ⟨w_OTHER_LENGTH, v_OTHER_LENGTH⟩
  have i_OTHER_VALUE : PkI K "OTHER_VALUE" 10 := ⟨w_OTHER_VALUE, v_OTHER_VALUE⟩
  have i_NOT_THERE : PkI K "NOT_THERE" 11 := ⟨w_NOT_THERE, v_NOT_THERE⟩
  have i_NOT_SETTABLE : PkI K "NOT_SETTABLE" 17 := ⟨w_NOT_SETTABLE, v_NOT_SETTABLE⟩
  have i_MOST_WORD_agent : PkI K "MOST_WORD_agent" 32 := ⟨w_MOST_WORD_agent, v_MOST_WORD_agent⟩
  have i_MOST_ENTRIES : PkI K "MOST_ENTRIES" 512 := ⟨w_MOST_ENTRIES, v_MOST_ENTRIES⟩
  have i_MOST_PACKET : PkI K "MOST_PACKET" 65535 := ⟨w_MOST_PACKET, v_MOST_PACKET⟩
  have i_ADD : PkI K "ADD" 1 := ⟨w_ADD, v_ADD⟩
  have B : Blt mg := ⟨PySem.W.mg_none_of X G b_len, PySem.W.mg_none_of X G b_list, PySem.W.mg_none_of X G b_tuple, PySem.W.mg_none_of X G b_min, PySem.W.mg_none_of X G b_max, PySem.W.mg_none_of X G b_all, PySem.W.mg_none_of X G b_any, PySem.W.mg_none_of X G b_sum, PySem.W.mg_none_of X G b_range, PySem.W.mg_none_of X G b_sorted, PySem.W.mg_none_of X G b_enumerate⟩
  have u_COUNTS : TupC K mg "COUNTS" TCOUNTS [65, 66, 67] := ⟨PySem.W.mg_of X G t_COUNTS, fun H => .inr ⟨_, _, _, l_COUNTS, rfl, rfl, (by rw [sizeLine_eq]; show 3 ≤ 16777216; decide), (.cons ⟨_, rfl⟩ (.cons ⟨_, rfl⟩ (.cons ⟨_, rfl⟩ .nil)))⟩⟩
  have u_NUMBERS : TupC K mg "NUMBERS" TNUMBERS [2, 65, 66, 67, 70] := ⟨PySem.W.mg_of X G t_NUMBERS, fun H => .inr ⟨_, _, _, l_NUMBERS, rfl, rfl, (by rw [sizeLine_eq]; show 5 ≤ 16777216; decide), (.cons ⟨_, rfl⟩ (.cons ⟨_, rfl⟩ (.cons ⟨_, rfl⟩ (.cons ⟨_, rfl⟩ (.cons ⟨_, rfl⟩ .nil)))))⟩⟩
  have u_REQUESTS : TupC K mg "REQUESTS" TREQUESTS [160, 161, 163, 165] := ⟨PySem.W.mg_of X G t_REQUESTS, fun H => .inr ⟨_, _, _, l_REQUESTS, rfl, rfl, (by rw [sizeLine_eq]; show 4 ≤ 16777216; decide), (.cons ⟨_, rfl⟩ (.cons ⟨_, rfl⟩ (.cons ⟨_, rfl⟩ (.cons ⟨_, rfl⟩ .nil))))⟩⟩
  have c1 : Cst1 K mg TCOUNTS TNUMBERS := ⟨i_WHOLE.intC X G, i_BYTES.intC X G, i_NOTHING.intC X G, i_NAME.intC X G, i_ADDRESS.intC X G, i_GREAT.intC X G, i_ROWS.intC X G, i_MOST_NAME.intC X G, i_WORD_BOUND.intC X G, u_COUNTS, u_NUMBERS⟩
  have c2 : Cst2 K mg TREQUESTS := ⟨i_GET.intC X G, i_NEXT.intC X G, i_ANSWER.intC X G, i_BULK.intC X G, i_MOST_MESSAGE.intC X G, i_MOST_WORD_messages.intC X G, i_TOO_LONG.intC X G, u_REQUESTS⟩
  have c3 : Cst3 mg := ⟨i_NO_ENTRY.intC X G, i_NO_PLACE.intC X G, i_NO_MORE.intC X G, i_MOST_VALUE.intC X G, i_MOST_TIMES.intC X G, i_NOT_ALLOWED.intC X G, i_OTHER_KIND.intC X G, i_OTHER_LENGTH.intC X G, i_OTHER_VALUE.intC X G, i_NOT_THERE.intC X G, i_NOT_SETTABLE.intC X G⟩
  have c4 : Cst4 mg := ⟨i_MOST_WORD_agent.intC X G, i_MOST_ENTRIES.intC X G, i_MOST_PACKET.intC X G, i_ADD.intC X G⟩
  have TN : XN K mg CN := ⟨xN, PySem.W.mg_of X G cN, kN, bN, tN, self_named bN iN tN sN⟩
  have TX : DnX K mg CX := ⟨⟨⟨_, _, _, _, _, _, _, _, _, _, _, _, _, _, xX⟩, saX, bX, tX, kX⟩, noX, ⟨fX, _, fun_mk liX ciX kiX, inX, tiX⟩, PySem.W.mg_of X G cX, PySem.W.mg_none_of X G b_Exception, feX⟩
  have TY : DnY K mg CX := ⟨⟨gaX, ggX, bX, hX⟩, noX, PySem.W.mg_of X G cX, self_named bX iX tX sX⟩
  have TR : RdT K CR := ⟨pR.cls, nR_content, nR_at⟩
  have TQ : RqT K CQ := ⟨pQ.cls, nQ_word, nQ_which, nQ_number, nQ_a, nQ_b, nQ_rows⟩
  have TE : EnT K CE := ⟨pE.cls, nE_kind, nE_content, nE_settable, nE_low, nE_high⟩
  have TD : DvT K CD := ⟨pD.cls, nD_reads, nD_writes, nD_entries, nD_names⟩
  have TK : DkT K CK := ⟨pK.cls, nK_device⟩
  have TL : ClT K CL := ⟨pL.cls, nL_numbers, nL_at⟩
  have D_thing := d_thing.def1 X G
  have D_isWhole := d_isWhole.def1 X G
  have D_wholeOf := d_wholeOf.def1 X G
  have D_wholeBytes := d_wholeBytes.def1 X G
  have D_parts := d_parts.def1 X G
  have D_nameOf := d_nameOf.def1 X G
  have D_isName := d_isName.def1 X G
  have D_part := d_part.def1 X G
  have D_nameBytes := d_nameBytes.def1 X G
  have D_isValue := d_isValue.def1 X G
  have D_needT := d_needT.def1 X G
  have D_readWhole := d_readWhole.def1 X G
  have D_readRow := d_readRow.def1 X G
  have D_readReq := d_readReq.def1 X G
  have D_reqOf := d_reqOf.def1 X G
  have D_rowBytes := d_rowBytes.def1 X G
  have D_put := d_put.def1 X G
  have D_allRows := d_allRows.def1 X G
  have D_ansB := d_ansB.def1 X G
  have D_fits := d_fits.def1 X G
  have D_fitA := d_fitA.def1 X G
  have D_first := d_first.def1 X G
  have D_got := d_got.def1 X G
  have D_next := d_next.def1 X G
  have D_bulk := d_bulk.def1 X G
  have D_err := d_err.def1 X G
  have D_set := d_set.def1 X G
  have D_to := d_to.def1 X G
  have D_needA := d_needA.def1 X G
  have D_open := d_open.def1 X G
  have D_add := d_add.def1 X G
  have D_NE := d_NE.def1 X G
  have D_drop := d_drop.def1 X G
  have D_look := d_look.def1 X G
  have D_pk := d_pk.def1 X G
  have D_call := d_call.def1 X G
  have FA := fun_mk (st := sAns) l_ans c_ans k_ans
  refine ⟨PySem.W.fnOf "answers" "answers" (defArgs sAns) (defBody sAns) (defScope sAns) .none kA dA pA anA cdA ctA, fun s us hu => match us, hu with | [_], _ => .of_eq rfl, fun base _ _ => ?_⟩
  have kThing := ok_thing (P := P) (w := w) (base := base) D_thing B
  have kIsWhole := ok_isWhole (P := P) (w := w) (base := base) D_isWhole B
  have kWholeOf := ok_wholeOf (P := P) (w := w) (base := base) D_wholeOf B
  have kWholeBytes := ok_wholeBytes (P := P) (w := w) (base := base) D_wholeBytes
  have kPart := ok_part (P := P) (w := w) (base := base) D_part
  have kParts := ok_parts (P := P) (w := w) (base := base) D_parts B
  have kIsName := ok_isName (P := P) (w := w) (base := base) D_isName B c1.mostName c1.word
  have kNameOf := ok_nameOf D_nameOf B kParts kIsName
  have kNameBytes := ok_nameBytes D_nameBytes kPart
  have kIsValue := ok_isValue D_isValue B c1 kIsWhole kWholeOf kNameOf
  have kNeedT := ok_needT (P := P) (w := w) (base := base) D_needT TN
  have kRdI := ok_rdI (P := P) (w := w) (base := base) (m_rdI.mak1 pR X G cR) TR
  have kRdH := ok_rdH (P := P) (w := w) (mg := mg) (base := base) (m_rdH.met1 pR) B TR
  have kRdT := ok_rdT (m_rdT.met1 pR) B TR kNeedT
  have kRdTh := ok_rdTh (m_rdTh.met1 pR) kNeedT kRdT
  have kRdM := ok_rdM (m_rdM.met1 pR) kNeedT kRdTh
  have kReadWhole := ok_readWhole D_readWhole B c1 kNeedT kRdM kIsWhole
  have kReadRow := ok_readRow D_readRow c1 kNeedT kRdM kRdTh kRdH kRdI kNameOf kIsValue
  have kRqI := ok_rqI (P := P) (w := w) (base := base) (m_rqI.mak1 pQ X G cQ) TQ
  have kReadReq := ok_readReq D_readReq B c1 c2 TQ kNeedT kRdM kRdTh kRdH kRdI kRqI kWholeOf kReadWhole kReadRow
  have kReqOf := ok_reqOf D_reqOf TN kReadReq
  have kRowBytes := ok_rowBytes D_rowBytes c1 kThing kNameBytes
  have kPut := ok_put D_put c1 c2 TQ kThing kWholeBytes
  have kAllRows := ok_allRows D_allRows kRowBytes
  have kAnsB := ok_ansB D_ansB B c2 kPut kAllRows
  have kFits := ok_fits D_fits B c2 kPut kAllRows
  have kFitA := ok_fitA D_fitA B c2 kPut kRowBytes
  have kEnI := ok_enI (P := P) (w := w) (base := base) (m_enI.mak1 pE X G cE) TE
  have kDvI := ok_dvI (P := P) (w := w) (base := base) (m_dvI.mak1 pD X G cD) TD
  have kFirst := ok_first (P := P) (w := w) (base := base) D_first B
  have kGot := ok_got (P := P) (w := w) (base := base) D_got B c3 TD TE
  have kNext := ok_next D_next B c3 TD kFirst kGot
  have kBulk := ok_bulk D_bulk B c3 c2 TQ kNext kRowBytes
  have kErr := ok_err D_err B c1 c3 TD TE kWholeOf
  have kSet := ok_set D_set B c3 TQ TD TE kAnsB kFits kErr
  have kTo := ok_to D_to c2 TQ TD kAnsB kFitA kGot kNext kBulk kSet
  have kDkI := ok_dkI (P := P) (w := w) (base := base) (m_dkI.mak1 pK X G cK) TK
  have kClI := ok_clI (P := P) (w := w) (base := base) (m_clI.mak1 pL X G cL) TL
  have kClN := ok_clN (P := P) (w := w) (mg := mg) (base := base) (m_clN.met1 pL) TL
  have kClR := ok_clR (m_clR.met1 pL) TL kClN
  have kNeedA := ok_needA (P := P) (w := w) (base := base) D_needA TX
  have kOpen := ok_open (CE := CE) D_open B c4 TK kNeedA kDvI
  have kAdd := ok_add D_add B c1 c3 c4 TD TE kNeedA kIsName kIsValue kEnI
  have kNE := ok_NE (CE := CE) D_NE B TD kNeedA
  have kDrop := ok_drop D_drop TD kNE
  have kLook := ok_look D_look B TD TE kNE
  have kPk := ok_pk D_pk B c4 kNeedA kReqOf kTo
  have kCall := ok_call D_call B c4 TK kNeedA kOpen kAdd kDrop kLook kPk
  exact FA.ok scAns ans_len fun cdv A outer s H vs Q E hr hs => ans_body B c4 TL TY kDkI kClI kClN kClR kCall _ cdv A outer s H vs Q E hr hs
end Ad

/-! ## F1 -/
set_option Elab.async false
set_option linter.all false
set_option maxRecDepth 100000
set_option maxHeartbeats 2000000
open PySem PySem.W PyProof.Rows
set_option maxRecDepth 100000 in
set_option maxHeartbeats 0 in
theorem PySem.Challenge.cw_askeddevice_s01_answers_holds : PySem.Challenge.rw_askeddevice_s01_answers.Holds := by
  w_on; k_headS; (case hw => exact ⟨[.list [.int 0, .int 1, .int 1, .int 1, .int 2]], by decide +kernel, by decide +kernel⟩)
  k_fillS
  refine L2.walk_specK (r := PySem.Challenge.rw_askeddevice_s01_answers) (k := 10) (CX := L2.CX0) (ps := ["calls"]) (sp := Ad.spAns) (by decide +kernel) rfl rfl ⟨rfl, by decide, by decide⟩ (fun w h Y => PySem.W.kIn_of Y) ?F ?S (fun _ _ _ _ z => z)
  case F =>
    intro w mg fa h Y KX G hmg
    refine' Ad.all_mk KX G hmg ?cR ?cQ ?cE ?cD ?cK ?cL ?cN ?cX ?a_thing ?l_thing ?c_thing ?k_thing ?a_isWhole ?l_isWhole ?c_isWhole ?k_isWhole ?a_wholeOf ?l_wholeOf ?c_wholeOf ?k_wholeOf ?a_wholeBytes ?l_wholeBytes ?c_wholeBytes ?k_wholeBytes ?a_parts ?l_parts ?c_parts ?k_parts ?a_nameOf ?l_nameOf ?c_nameOf ?k_nameOf ?a_isName ?l_isName ?c_isName ?k_isName ?a_part ?l_part ?c_part ?k_part ?a_nameBytes ?l_nameBytes ?c_nameBytes ?k_nameBytes ?a_isValue ?l_isValue ?c_isValue ?k_isValue ?a_needT ?l_needT ?c_needT ?k_needT ?a_readWhole ?l_readWhole ?c_readWhole ?k_readWhole ?a_readRow ?l_readRow ?c_readRow ?k_readRow ?a_readReq ?l_readReq ?c_readReq ?k_readReq ?a_reqOf ?l_reqOf ?c_reqOf ?k_reqOf ?a_rowBytes ?l_rowBytes ?c_rowBytes ?k_rowBytes ?a_put ?l_put ?c_put ?k_put ?a_allRows ?l_allRows ?c_allRows ?k_allRows ?a_ansB ?l_ansB ?c_ansB ?k_ansB ?a_fits ?l_fits ?c_fits ?k_fits ?a_fitA ?l_fitA ?c_fitA ?k_fitA ?a_first ?l_first ?c_first ?k_first ?a_got ?l_got ?c_got ?k_got ?a_next ?l_next ?c_next ?k_next ?a_bulk ?l_bulk ?c_bulk ?k_bulk ?a_err ?l_err ?c_err ?k_err ?a_set ?l_set ?c_set ?k_set ?a_to ?l_to ?c_to ?k_to ?a_needA ?l_needA ?c_needA ?k_needA ?a_open ?l_open ?c_open ?k_open ?a_add ?l_add ?c_add ?k_add ?a_NE ?l_NE ?c_NE ?k_NE ?a_drop ?l_drop ?c_drop ?k_drop ?a_look ?l_look ?c_look ?k_look ?a_pk ?l_pk ?c_pk ?k_pk ?a_call ?l_call ?c_call ?k_call ?d_ans ?l_ans ?c_ans ?k_ans ?pgR ?hdR ?poR ?saR ?mkR ?kpR ?nR_content ?nR_at ?pgQ ?hdQ ?poQ ?saQ ?mkQ ?kpQ ?nQ_word ?nQ_which ?nQ_number ?nQ_a ?nQ_b ?nQ_rows ?pgE ?hdE ?poE ?saE ?mkE ?kpE ?nE_kind ?nE_content ?nE_settable ?nE_low ?nE_high ?pgD ?hdD ?poD ?saD ?mkD ?kpD ?nD_reads ?nD_writes ?nD_entries ?nD_names ?pgK ?hdK ?poK ?saK ?mkK ?kpK ?nK_device ?pgL ?hdL ?poL ?saL ?mkL ?kpL ?nL_numbers ?nL_at ?a_rdI ?i_rdI ?l_rdI ?c_rdI ?k_rdI ?a_rdT ?i_rdT ?l_rdT ?c_rdT ?k_rdT ?a_rdTh ?i_rdTh ?l_rdTh ?c_rdTh ?k_rdTh ?a_rdM ?i_rdM ?l_rdM ?c_rdM ?k_rdM ?a_rdH ?i_rdH ?l_rdH ?c_rdH ?k_rdH ?a_rqI ?i_rqI ?l_rqI ?c_rqI ?k_rqI ?a_enI ?i_enI ?l_enI ?c_enI ?k_enI ?a_dvI ?i_dvI ?l_dvI ?c_dvI ?k_dvI ?a_dkI ?i_dkI ?l_dkI ?c_dkI ?k_dkI ?a_clI ?i_clI ?l_clI ?c_clI ?k_clI ?a_clN ?i_clN ?l_clN ?c_clN ?k_clN ?a_clR ?i_clR ?l_clR ?c_clR ?k_clR ?v_WHOLE ?v_BYTES ?v_NOTHING ?v_NAME ?v_ADDRESS ?v_GREAT ?v_ROWS ?v_MOST_NAME ?v_WORD_BOUND ?v_GET ?v_NEXT ?v_ANSWER ?v_BULK ?v_MOST_MESSAGE ?v_MOST_WORD_messages ?v_TOO_LONG ?v_NO_ENTRY ?v_NO_PLACE ?v_NO_MORE ?v_MOST_VALUE ?v_MOST_TIMES ?v_NOT_ALLOWED ?v_OTHER_KIND ?v_OTHER_LENGTH ?v_OTHER_VALUE ?v_NOT_THERE ?v_NOT_SETTABLE ?v_MOST_WORD_agent ?v_MOST_ENTRIES ?v_MOST_PACKET ?v_ADD ?t_COUNTS ?l_COUNTS ?t_NUMBERS ?l_NUMBERS ?t_REQUESTS ?l_REQUESTS ?b_len ?b_list ?b_tuple ?b_min ?b_max ?b_all ?b_any ?b_sum ?b_range ?b_sorted ?b_enumerate ?b_Exception ?xN ?kN ?bN ?tN ?iN ?sN ?kX ?bX ?tX ?iX ?sX ?xX ?saX ?gaX ?ggX ?hX ?noX ?inX ?tiX ?liX ?ciX ?kiX ?feX
    (case cR => k_is)
    (case cQ => k_is)
    (case cE => k_is)
    (case cD => k_is)
    (case cK => k_is)
    (case cL => k_is)
    (case cN => k_is)
    (case cX => k_is)
    (case a_thing => k_is)
    (case l_thing => k_is)
    (case c_thing => k_is)
    (case k_thing => k_is)
    (case a_isWhole => k_is)
    (case l_isWhole => k_is)
    (case c_isWhole => k_is)
    (case k_isWhole => k_is)
    (case a_wholeOf => k_is)
    (case l_wholeOf => k_is)
    (case c_wholeOf => k_is)
    (case k_wholeOf => k_is)
    (case a_wholeBytes => k_is)
    (case l_wholeBytes => k_is)
    (case c_wholeBytes => k_is)
    (case k_wholeBytes => k_is)
    (case a_parts => k_is)
    (case l_parts => k_is)
    (case c_parts => k_is)
    (case k_parts => k_is)
    (case a_nameOf => k_is)
    (case l_nameOf => k_is)
    (case c_nameOf => k_is)
    (case k_nameOf => k_is)
    (case a_isName => k_is)
    (case l_isName => k_is)
    (case c_isName => k_is)
    (case k_isName => k_is)
    (case a_part => k_is)
    (case l_part => k_is)
    (case c_part => k_is)
    (case k_part => k_is)
    (case a_nameBytes => k_is)
    (case l_nameBytes => k_is)
    (case c_nameBytes => k_is)
    (case k_nameBytes => k_is)
    (case a_isValue => k_is)
    (case l_isValue => k_is)
    (case c_isValue => k_is)
    (case k_isValue => k_is)
    (case a_needT => k_is)
    (case l_needT => k_is)
    (case c_needT => k_is)
    (case k_needT => k_is)
    (case a_readWhole => k_is)
    (case l_readWhole => k_is)
    (case c_readWhole => k_is)
    (case k_readWhole => k_is)
    (case a_readRow => k_is)
    (case l_readRow => k_is)
    (case c_readRow => k_is)
    (case k_readRow => k_is)
    (case a_readReq => k_is)
    (case l_readReq => k_is)
    (case c_readReq => k_is)
    (case k_readReq => k_is)
    (case a_reqOf => k_is)
    (case l_reqOf => k_is)
    (case c_reqOf => k_is)
    (case k_reqOf => k_is)
    (case a_rowBytes => k_is)
    (case l_rowBytes => k_is)
    (case c_rowBytes => k_is)
    (case k_rowBytes => k_is)
    (case a_put => k_is)
    (case l_put => k_is)
    (case c_put => k_is)
    (case k_put => k_is)
    (case a_allRows => k_is)
    (case l_allRows => k_is)
    (case c_allRows => k_is)
    (case k_allRows => k_is)
    (case a_ansB => k_is)
    (case l_ansB => k_is)
    (case c_ansB => k_is)
    (case k_ansB => k_is)
    (case a_fits => k_is)
    (case l_fits => k_is)
    (case c_fits => k_is)
    (case k_fits => k_is)
    (case a_fitA => k_is)
    (case l_fitA => k_is)
    (case c_fitA => k_is)
    (case k_fitA => k_is)
    (case a_first => k_is)
    (case l_first => k_is)
    (case c_first => k_is)
    (case k_first => k_is)
    (case a_got => k_is)
    (case l_got => k_is)
    (case c_got => k_is)
    (case k_got => k_is)
    (case a_next => k_is)
    (case l_next => k_is)
    (case c_next => k_is)
    (case k_next => k_is)
    (case a_bulk => k_is)
    (case l_bulk => k_is)
    (case c_bulk => k_is)
    (case k_bulk => k_is)
    (case a_err => k_is)
    (case l_err => k_is)
    (case c_err => k_is)
    (case k_err => k_is)
    (case a_set => k_is)
    (case l_set => k_is)
    (case c_set => k_is)
    (case k_set => k_is)
    (case a_to => k_is)
    (case l_to => k_is)
    (case c_to => k_is)
    (case k_to => k_is)
    (case a_needA => k_is)
    (case l_needA => k_is)
    (case c_needA => k_is)
    (case k_needA => k_is)
    (case a_open => k_is)
    (case l_open => k_is)
    (case c_open => k_is)
    (case k_open => k_is)
    (case a_add => k_is)
    (case l_add => k_is)
    (case c_add => k_is)
    (case k_add => k_is)
    (case a_NE => k_is)
    (case l_NE => k_is)
    (case c_NE => k_is)
    (case k_NE => k_is)
    (case a_drop => k_is)
    (case l_drop => k_is)
    (case c_drop => k_is)
    (case k_drop => k_is)
    (case a_look => k_is)
    (case l_look => k_is)
    (case c_look => k_is)
    (case k_look => k_is)
    (case a_pk => k_is)
    (case l_pk => k_is)
    (case c_pk => k_is)
    (case k_pk => k_is)
    (case a_call => k_is)
    (case l_call => k_is)
    (case c_call => k_is)
    (case k_call => k_is)
    (case d_ans => k_is)
    (case l_ans => k_is)
    (case c_ans => k_is)
    (case k_ans => k_is)
    (case pgR => k_is)
    (case hdR => k_is)
    (case poR => k_is)
    (case saR => k_is)
    (case mkR => k_is)
    (case kpR => k_is)
    (case nR_content => k_is)
    (case nR_at => k_is)
    (case pgQ => k_is)
    (case hdQ => k_is)
    (case poQ => k_is)
    (case saQ => k_is)
    (case mkQ => k_is)
    (case kpQ => k_is)
    (case nQ_word => k_is)
    (case nQ_which => k_is)
    (case nQ_number => k_is)
    (case nQ_a => k_is)
    (case nQ_b => k_is)
    (case nQ_rows => k_is)
    (case pgE => k_is)
    (case hdE => k_is)
    (case poE => k_is)
    (case saE => k_is)
    (case mkE => k_is)
    (case kpE => k_is)
    (case nE_kind => k_is)
    (case nE_content => k_is)
    (case nE_settable => k_is)
    (case nE_low => k_is)
    (case nE_high => k_is)
    (case pgD => k_is)
    (case hdD => k_is)
    (case poD => k_is)
    (case saD => k_is)
    (case mkD => k_is)
    (case kpD => k_is)
    (case nD_reads => k_is)
    (case nD_writes => k_is)
    (case nD_entries => k_is)
    (case nD_names => k_is)
    (case pgK => k_is)
    (case hdK => k_is)
    (case poK => k_is)
    (case saK => k_is)
    (case mkK => k_is)
    (case kpK => k_is)
    (case nK_device => k_is)
    (case pgL => k_is)
    (case hdL => k_is)
    (case poL => k_is)
    (case saL => k_is)
    (case mkL => k_is)
    (case kpL => k_is)
    (case nL_numbers => k_is)
    (case nL_at => k_is)
    (case a_rdI => k_is)
    (case i_rdI => k_is)
    (case l_rdI => k_is)
    (case c_rdI => k_is)
    (case k_rdI => k_is)
    (case a_rdT => k_is)
    (case i_rdT => k_is)
    (case l_rdT => k_is)
    (case c_rdT => k_is)
    (case k_rdT => k_is)
    (case a_rdTh => k_is)
    (case i_rdTh => k_is)
    (case l_rdTh => k_is)
    (case c_rdTh => k_is)
    (case k_rdTh => k_is)
    (case a_rdM => k_is)
    (case i_rdM => k_is)
    (case l_rdM => k_is)
    (case c_rdM => k_is)
    (case k_rdM => k_is)
    (case a_rdH => k_is)
    (case i_rdH => k_is)
    (case l_rdH => k_is)
    (case c_rdH => k_is)
    (case k_rdH => k_is)
    (case a_rqI => k_is)
    (case i_rqI => k_is)
    (case l_rqI => k_is)
    (case c_rqI => k_is)
    (case k_rqI => k_is)
    (case a_enI => k_is)
    (case i_enI => k_is)
    (case l_enI => k_is)
    (case c_enI => k_is)
    (case k_enI => k_is)
    (case a_dvI => k_is)
    (case i_dvI => k_is)
    (case l_dvI => k_is)
    (case c_dvI => k_is)
    (case k_dvI => k_is)
    (case a_dkI => k_is)
    (case i_dkI => k_is)
    (case l_dkI => k_is)
    (case c_dkI => k_is)
    (case k_dkI => k_is)
    (case a_clI => k_is)
    (case i_clI => k_is)
    (case l_clI => k_is)
    (case c_clI => k_is)
    (case k_clI => k_is)
    (case a_clN => k_is)
    (case i_clN => k_is)
    (case l_clN => k_is)
    (case c_clN => k_is)
    (case k_clN => k_is)
    (case a_clR => k_is)
    (case i_clR => k_is)
    (case l_clR => k_is)
    (case c_clR => k_is)
    (case k_clR => k_is)
    (case v_WHOLE => k_is)
    (case v_BYTES => k_is)
    (case v_NOTHING => k_is)
    (case v_NAME => k_is)
    (case v_ADDRESS => k_is)
    (case v_GREAT => k_is)
    (case v_ROWS => k_is)
    (case v_MOST_NAME => k_is)
    (case v_WORD_BOUND => k_is)
    (case v_GET => k_is)
    (case v_NEXT => k_is)
    (case v_ANSWER => k_is)
    (case v_BULK => k_is)
    (case v_MOST_MESSAGE => k_is)
    (case v_MOST_WORD_messages => k_is)
    (case v_TOO_LONG => k_is)
    (case v_NO_ENTRY => k_is)
    (case v_NO_PLACE => k_is)
    (case v_NO_MORE => k_is)
    (case v_MOST_VALUE => k_is)
    (case v_MOST_TIMES => k_is)
    (case v_NOT_ALLOWED => k_is)
    (case v_OTHER_KIND => k_is)
    (case v_OTHER_LENGTH => k_is)
    (case v_OTHER_VALUE => k_is)
    (case v_NOT_THERE => k_is)
    (case v_NOT_SETTABLE => k_is)
    (case v_MOST_WORD_agent => k_is)
    (case v_MOST_ENTRIES => k_is)
    (case v_MOST_PACKET => k_is)
    (case v_ADD => k_is)
    (case t_COUNTS => k_is)
    (case l_COUNTS => k_is)
    (case t_NUMBERS => k_is)
    (case l_NUMBERS => k_is)
    (case t_REQUESTS => k_is)
    (case l_REQUESTS => k_is)
    (case b_len => k_is)
    (case b_list => k_is)
    (case b_tuple => k_is)
    (case b_min => k_is)
    (case b_max => k_is)
    (case b_all => k_is)
    (case b_any => k_is)
    (case b_sum => k_is)
    (case b_range => k_is)
    (case b_sorted => k_is)
    (case b_enumerate => k_is)
    (case b_Exception => k_is)
    (case xN => k_exc)
    (case kN => k_is)
    (case bN => k_is)
    (case tN => k_is)
    (case iN => k_is)
    (case sN => first | rfl | k_is)
    (case kX => k_is)
    (case bX => k_is)
    (case tX => k_is)
    (case iX => k_is)
    (case sX => first | rfl | k_is)
    (case xX => k_is)
    (case saX => k_is)
    (case gaX => k_is)
    (case ggX => k_is)
    (case hX => k_is)
    (case noX => k_is)
    (case inX => k_is)
    (case tiX => k_is)
    (case liX => k_is)
    (case ciX => k_is)
    (case kiX => k_is)
    (case feX => k_is)
  case S =>
    intro K H xs a hO hwi hask hx
    cases hx with
    | cons h1 h2 =>
      cases h2
      cases h1 with
      | lst hs ha =>
        have e := L2.ints_dw a.1 _ ha
        subst e
        obtain ⟨cs, e1, e2, e3, e4⟩ := Ad.asked_law (l := a.1) hask
        exact ⟨_, cs, rfl, by rw [e1]; exact hs, e2, e4, fun H' p hp => by
          rw [e3] at hp
          exact .lst (L2.SqL.of hp) (L2.dw_ints _)⟩
